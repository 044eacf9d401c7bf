import PyProof.Rows.All
import Wide.All
import OpenK.AllK
import Wide.FinOn
import HandS.ForMost
import HandS.Exc
import HandS.WordsExc
import HandS.TupAny
import HandS.Flow
import HandS.Style
import HandS.SetKeys
import HandS.More
import HandS.TryOnly
import HandS.Zip
import HandS.IsInst
import HandS.FStr
import HandS.Text
import HandS.Deep
import HandS.Wide
import HandS.DictComp
import HandS.Star
import HandS.ClsMeth
import PyProof.RulesMatch
import KE.GoesEnum
import PySem.Challenge.RW_leastneeds_k57_whole_rules_of_primitives
set_option Elab.async false
set_option linter.all false
set_option maxRecDepth 100000
namespace DL
open PySem L2

/-- a value: plain data, a mutable object of the store, a list that is only read (the script), any other thing -/
inductive D where
  | p (x : PyData)
  | ob (i : Nat)
  | ro (xs : List PyData)
  | ext (v : V)

/-- a mutable object -/
inductive MO where
  | dead
  | lst (xs : List PyData)
  | dic (kvs : List (Key × PyData))

abbrev Sto := List MO

/-- the ghost: where the objects of the store stand; what is frozen -/
structure Gh where
  ι : List Addr
  φ : List (Addr × HO)

def Holds (φ : List (Addr × HO)) (H : Hp) : Prop := ∀ p ∈ φ, H p.1 = some p.2
/-- a frozen list, a frozen dict -/
def FL (φ : List (Addr × HO)) (a : Addr) (vs : List V) : Prop := ∀ H : Hp, Holds φ H → H a = some (.lst vs)
def RL (K : PySem.W.Frag) (φ : List (Addr × HO)) (a : Addr) (vs : List V) : Prop := ∀ H : Hp, Holds φ H → SqL K H a vs
def FD (φ : List (Addr × HO)) (a : Addr) (ws : List (Key × V)) : Prop := ∀ H : Hp, Holds φ H → H a = some (.dK ws)
theorem FL.mono {φ φ' : List (Addr × HO)} {a : Addr} {vs : List V} (h : FL φ a vs) (s : ∀ p ∈ φ, p ∈ φ') : FL φ' a vs := fun H q => h H fun p hp => q p (s p hp)
theorem RL.mono {K : PySem.W.Frag} {φ φ' : List (Addr × HO)} {a : Addr} {vs : List V} (h : RL K φ a vs) (s : ∀ p ∈ φ, p ∈ φ') : RL K φ' a vs := fun H q => h H fun p hp => q p (s p hp)
theorem FD.mono {φ φ' : List (Addr × HO)} {a : Addr} {vs : List (Key × V)} (h : FD φ a vs) (s : ∀ p ∈ φ, p ∈ φ') : FD φ' a vs := fun H q => h H fun p hp => q p (s p hp)

def keyPy : Key → PyData
  | .inl i => .int i
  | .inr x => .str x

mutual
/-- plain data at a value -/
inductive Dn (K : PySem.W.Frag) (φ : List (Addr × HO)) (H : Hp) : PyData → V → Prop
  | non : Dn K φ H .none .non
  | bl (b : Bool) : Dn K φ H (.bool b) (.bl b)
  | int (i : Int) : Dn K φ H (.int i) (.int i)
  | str (x : Str) : Dn K φ H (.str x) (.str x)
  | lst {a : Addr} {vs : List V} {ds : List PyData} : FL φ a vs → DnAll K φ H ds vs → Dn K φ H (.list ds) (.ref a)
  | tup {a : Addr} {vs : List V} {ds : List PyData} : SqT K H a vs → DnAll K φ H ds vs → Dn K φ H (.tuple ds) (.ref a)
  | dic {a : Addr} {ws : List (Key × V)} {kvs : List (PyData × PyData)} : FD φ a ws → kvs.map (·.1) = ws.map (fun p => keyPy p.1) → DnAll K φ H (kvs.map (·.2)) (ws.map (·.2)) → Dn K φ H (.dict kvs) (.ref a)
inductive DnAll (K : PySem.W.Frag) (φ : List (Addr × HO)) (H : Hp) : List PyData → List V → Prop
  | nil : DnAll K φ H [] []
  | cons {d : PyData} {ds : List PyData} {v : V} {vs : List V} : Dn K φ H d v → DnAll K φ H ds vs → DnAll K φ H (d :: ds) (v :: vs)
end

def Den (K : PySem.W.Frag) (H : Hp) (G : Gh) : D → V → Prop
  | .p x, v => Dn K G.φ H x v
  | .ob i, v => ∃ a, v = .ref a ∧ G.ι[i]? = some a
  | .ro xs, v => ∃ a vs, v = .ref a ∧ RL K G.φ a vs ∧ DnAll K G.φ H xs vs
  | .ext u, v => v = u

inductive DenL (K : PySem.W.Frag) (H : Hp) (G : Gh) : List D → List V → Prop
  | nil : DenL K H G [] []
  | cons {d : D} {ds : List D} {v : V} {vs : List V} : Den K H G d v → DenL K H G ds vs → DenL K H G (d :: ds) (v :: vs)

theorem DnAll.length {K : PySem.W.Frag} {φ : List (Addr × HO)} {H : Hp} : ∀ {ds : List PyData} {vs : List V}, DnAll K φ H ds vs → ds.length = vs.length
  | _, _, .nil => rfl
  | _, _, .cons _ t => by rw [List.length_cons, List.length_cons, t.length]
theorem DenL.length {K : PySem.W.Frag} {G : Gh} {H : Hp} : ∀ {ds : List D} {vs : List V}, DenL K H G ds vs → ds.length = vs.length
  | _, _, .nil => rfl
  | _, _, .cons _ t => by rw [List.length_cons, List.length_cons, t.length]
theorem DnAll.get {K : PySem.W.Frag} {φ : List (Addr × HO)} {H : Hp} : ∀ {ds : List PyData} {vs : List V} {i : Nat} {d : PyData}, DnAll K φ H ds vs → ds[i]? = some d → ∃ v, vs[i]? = some v ∧ Dn K φ H d v
  | _, _, _, _, .nil, e => by simp at e
  | _, _, 0, _, .cons r _, e => by simp at e; subst e; exact ⟨_, rfl, r⟩
  | _, _, i + 1, d, .cons _ t, e => by
    obtain ⟨v, h1, h2⟩ := DnAll.get (i := i) (d := d) t (by simpa using e)
    exact ⟨v, by simpa using h1, h2⟩
theorem DnAll.getV {K : PySem.W.Frag} {φ : List (Addr × HO)} {H : Hp} : ∀ {ds : List PyData} {vs : List V} {i : Nat} {v : V}, DnAll K φ H ds vs → vs[i]? = some v → ∃ d, ds[i]? = some d ∧ Dn K φ H d v
  | _, _, _, _, .nil, e => by simp at e
  | _, _, 0, _, .cons r _, e => by simp at e; subst e; exact ⟨_, rfl, r⟩
  | _, _, i + 1, d, .cons _ t, e => by
    obtain ⟨v, h1, h2⟩ := DnAll.getV (i := i) (v := d) t (by simpa using e)
    exact ⟨v, by simpa using h1, h2⟩
theorem DnAll.append {K : PySem.W.Frag} {φ : List (Addr × HO)} {H : Hp} : ∀ {ds es : List PyData} {vs us : List V}, DnAll K φ H ds vs → DnAll K φ H es us → DnAll K φ H (ds ++ es) (vs ++ us)
  | _, _, _, _, .nil, s => s
  | _, _, _, _, .cons r t, s => .cons r (t.append s)
theorem DnAll.set {K : PySem.W.Frag} {φ : List (Addr × HO)} {H : Hp} {d : PyData} {v : V} (h : Dn K φ H d v) : ∀ {ds : List PyData} {vs : List V} (i : Nat), DnAll K φ H ds vs → DnAll K φ H (ds.set i d) (vs.set i v)
  | _, _, _, .nil => .nil
  | _, _, 0, .cons _ t => .cons h t
  | _, _, i + 1, .cons r t => .cons r (DnAll.set h i t)
theorem DnAll.take {K : PySem.W.Frag} {φ : List (Addr × HO)} {H : Hp} : ∀ {ds : List PyData} {vs : List V} (n : Nat), DnAll K φ H ds vs → DnAll K φ H (ds.take n) (vs.take n)
  | _, _, 0, _ => .nil
  | _, _, _ + 1, .nil => .nil
  | _, _, n + 1, .cons r t => .cons r (DnAll.take n t)
theorem DnAll.drop {K : PySem.W.Frag} {φ : List (Addr × HO)} {H : Hp} : ∀ {ds : List PyData} {vs : List V} (n : Nat), DnAll K φ H ds vs → DnAll K φ H (ds.drop n) (vs.drop n)
  | _, _, 0, r => r
  | _, _, _ + 1, .nil => .nil
  | _, _, n + 1, .cons _ t => DnAll.drop n t
theorem DnAll.reverse {K : PySem.W.Frag} {φ : List (Addr × HO)} {H : Hp} : ∀ {ds : List PyData} {vs : List V}, DnAll K φ H ds vs → DnAll K φ H ds.reverse vs.reverse
  | _, _, .nil => .nil
  | _, _, .cons r t => by
    rw [List.reverse_cons, List.reverse_cons]
    exact t.reverse.append (.cons r .nil)

def Live (G : Gh) (S : Sto) (b : Addr) : Prop := ∃ (i : Nat) (o : MO), G.ι[i]? = some b ∧ S[i]? = some o ∧ o ≠ .dead
def OkO (K : PySem.W.Frag) (H : Hp) (φ : List (Addr × HO)) (a : Addr) : MO → Prop
  | .dead => H a ≠ none
  | .lst xs => ∃ vs, H a = some (.lst vs) ∧ DnAll K φ H xs vs
  | .dic kvs => ∃ ws : List (Key × V), H a = some (.dK ws) ∧ kvs.map (·.1) = ws.map (·.1) ∧ DnAll K φ H (kvs.map (·.2)) (ws.map (·.2))
structure Rep (K : PySem.W.Frag) (H : Hp) (G : Gh) (S : Sto) : Prop where
  len : G.ι.length = S.length
  nd : G.ι.Nodup
  ok : ∀ (i : Nat) (a : Addr) (o : MO), G.ι[i]? = some a → S[i]? = some o → OkO K H G.φ a o
  phi : Holds G.φ H
  pnl : ∀ p ∈ G.φ, ¬ Live G S p.1
structure Ext (H : Hp) (G : Gh) (S : Sto) (H' : Hp) (G' : Gh) (S' : Sto) : Prop where
  pre : ∀ (i : Nat) (a : Addr), G.ι[i]? = some a → G'.ι[i]? = some a
  phi : ∀ p ∈ G.φ, p ∈ G'.φ
  frame : ∀ b o, H b = some o → ¬ Live G S b → H' b = some o
  fresh : ∀ b, Live G' S' b → Live G S b ∨ H b = none
  iot : ∀ b, b ∈ G'.ι → b ∈ G.ι ∨ H b = none
  phf : ∀ p ∈ G'.φ, p ∈ G.φ ∨ H p.1 = none ∨ Live G S p.1

section
variable {K : PySem.W.Frag} {H H1 H2 : Hp} {G G1 G2 : Gh} {S S1 S2 : Sto}
theorem Ext.refl : Ext H G S H G S := ⟨fun _ _ h => h, fun _ h => h, fun _ _ h _ => h, fun _ h => .inl h, fun _ h => .inl h, fun _ h => .inl h⟩
theorem Ext.back (a : Ext H G S H1 G1 S1) {c : Addr} (q : H1 c = none) : Live G S c ∨ H c = none := by
  by_cases l : Live G S c
  · exact .inl l
  · cases e : H c with
    | none => exact .inr rfl
    | some o => rw [a.frame c o e l] at q; cases q
theorem Live.mem {c : Addr} (l : Live G S c) : c ∈ G.ι := by
  obtain ⟨i, o, h, _⟩ := l
  exact List.mem_of_getElem? h
theorem Ext.trans (a : Ext H G S H1 G1 S1) (b : Ext H1 G1 S1 H2 G2 S2) : Ext H G S H2 G2 S2 := by
  refine ⟨fun i x h => b.pre i x (a.pre i x h), fun p h => b.phi p (a.phi p h), fun c o h n => ?_, fun c h => ?_, fun c h => ?_, fun p h => ?_⟩
  · refine b.frame c o (a.frame c o h n) fun l => ?_
    rcases a.fresh c l with q | q
    · exact n q
    · rw [h] at q; cases q
  · rcases b.fresh c h with q | q
    · exact a.fresh c q
    · exact a.back q
  · rcases b.iot c h with q | q
    · exact a.iot c q
    · rcases a.back q with q | q
      · exact .inl q.mem
      · exact .inr q
  · rcases b.phf p h with q | q | q
    · exact a.phf p q
    · rcases a.back q with q | q
      · exact .inr (.inr q)
      · exact .inr (.inl q)
    · rcases a.fresh _ q with q | q
      · exact .inr (.inr q)
      · exact .inr (.inl q)
/-- what stands at a live place is a list or a dict -/
theorem Rep.live (r : Rep K H G S) {b : Addr} (l : Live G S b) : (∃ vs, H b = some (.lst vs)) ∨ ∃ ws, H b = some (.dK ws) := by
  obtain ⟨i, o, h1, h2, h3⟩ := l
  have q := r.ok i b o h1 h2
  cases o with
  | dead => exact absurd rfl h3
  | lst xs => obtain ⟨vs, e, _⟩ := q; exact .inl ⟨vs, e⟩
  | dic kvs => obtain ⟨ws, e, _⟩ := q; exact .inr ⟨ws, e⟩
theorem Rep.notLive {b : Addr} {o : HO} (r : Rep K H G S) (e : H b = some o) (h1 : ∀ vs, o ≠ .lst vs) (h2 : ∀ ws, o ≠ .dK ws) : ¬ Live G S b := fun l => by
  rcases r.live l with ⟨vs, q⟩ | ⟨ws, q⟩
  · rw [e] at q; cases q; exact h1 vs rfl
  · rw [e] at q; cases q; exact h2 ws rfl
theorem Rep.tr (r : Rep K H G S) {b : Addr} (h : b ∈ G.ι) : H b ≠ none := by
  obtain ⟨i, hi, e⟩ := List.getElem_of_mem h
  have hS : i < S.length := by rw [← r.len]; exact hi
  have q := r.ok i b S[i] (by rw [List.getElem?_eq_getElem hi, e]) (by rw [List.getElem?_eq_getElem hS])
  intro z
  cases o : S[i] with
  | dead => rw [o] at q; exact q z
  | lst xs => rw [o] at q; obtain ⟨vs, e, _⟩ := q; rw [z] at e; cases e
  | dic kvs => rw [o] at q; obtain ⟨ws, e, _⟩ := q; rw [z] at e; cases e
theorem Ext.tup (r : Rep K H G S) (x : Ext H G S H1 G1 S1) {a : Addr} {vs : List V} (h : SqT K H a vs) : SqT K H1 a vs := by
  rcases h with (h | ⟨o, h⟩) | h
  · exact .inl (.inl (x.frame _ _ h (r.notLive h (fun _ z => nomatch z) fun _ z => nomatch z)))
  · exact .inl (.inr ⟨o, x.frame _ _ h (r.notLive h (fun _ z => nomatch z) fun _ z => nomatch z)⟩)
  · exact .inr h
end

mutual
theorem Dn.mono {K : PySem.W.Frag} {φ φ' : List (Addr × HO)} {H H' : Hp} (hs : ∀ p ∈ φ, p ∈ φ') (ht : ∀ a vs, SqT K H a vs → SqT K H' a vs) : ∀ {d : PyData} {v : V}, Dn K φ H d v → Dn K φ' H' d v
  | _, _, .non => .non
  | _, _, .bl b => .bl b
  | _, _, .int i => .int i
  | _, _, .str x => .str x
  | _, _, .lst h t => .lst (h.mono hs) (DnAll.mono hs ht t)
  | _, _, .tup h t => .tup (ht _ _ h) (DnAll.mono hs ht t)
  | _, _, .dic h e t => .dic (h.mono hs) e (DnAll.mono hs ht t)
theorem DnAll.mono {K : PySem.W.Frag} {φ φ' : List (Addr × HO)} {H H' : Hp} (hs : ∀ p ∈ φ, p ∈ φ') (ht : ∀ a vs, SqT K H a vs → SqT K H' a vs) : ∀ {ds : List PyData} {vs : List V}, DnAll K φ H ds vs → DnAll K φ' H' ds vs
  | _, _, .nil => .nil
  | _, _, .cons h t => .cons (Dn.mono hs ht h) (DnAll.mono hs ht t)
end

section
variable {K : PySem.W.Frag} {H H1 H2 : Hp} {G G1 G2 : Gh} {S S1 S2 : Sto}
theorem Ext.dn (r : Rep K H G S) (x : Ext H G S H1 G1 S1) {d : PyData} {v : V} (h : Dn K G.φ H d v) : Dn K G1.φ H1 d v := h.mono x.phi fun _ _ => x.tup r
theorem Ext.dnAll (r : Rep K H G S) (x : Ext H G S H1 G1 S1) {ds : List PyData} {vs : List V} (h : DnAll K G.φ H ds vs) : DnAll K G1.φ H1 ds vs := h.mono x.phi fun _ _ => x.tup r
theorem Ext.den (r : Rep K H G S) (x : Ext H G S H1 G1 S1) : ∀ {d : D} {v : V}, Den K H G d v → Den K H1 G1 d v
  | .p _, _, h => x.dn r h
  | .ob _, _, ⟨a, e, h⟩ => ⟨a, e, x.pre _ _ h⟩
  | .ro _, _, ⟨a, vs, e, h, t⟩ => ⟨a, vs, e, h.mono x.phi, x.dnAll r t⟩
  | .ext _, _, h => h
theorem Ext.denL (r : Rep K H G S) (x : Ext H G S H1 G1 S1) : ∀ {ds : List D} {vs : List V}, DenL K H G ds vs → DenL K H1 G1 ds vs
  | _, _, .nil => .nil
  | _, _, .cons h t => .cons (x.den r h) (x.denL r t)
end

abbrev Ev := List (Option D)
def RelO (K : PySem.W.Frag) (H : Hp) (G : Gh) : Option D → Option V → Prop
  | none, _ => True
  | some d, some v => Den K H G d v
  | some _, none => False
inductive RelS (K : PySem.W.Frag) (H : Hp) (G : Gh) : Ev → St → Prop
  | nil : RelS K H G [] []
  | cons {d : Option D} {ds : Ev} {v : Option V} {vs : St} : RelO K H G d v → RelS K H G ds vs → RelS K H G (d :: ds) (v :: vs)
section
variable {K : PySem.W.Frag} {H H1 : Hp} {G G1 : Gh} {S S1 : Sto}
theorem RelS.length : ∀ {ρ : Ev} {σ : St}, RelS K H G ρ σ → ρ.length = σ.length
  | _, _, .nil => rfl
  | _, _, .cons _ t => by rw [List.length_cons, List.length_cons, t.length]
theorem Ext.relS (r : Rep K H G S) (x : Ext H G S H1 G1 S1) : ∀ {ρ : Ev} {σ : St}, RelS K H G ρ σ → RelS K H1 G1 ρ σ
  | _, _, .nil => .nil
  | _, _, .cons (d := d) (v := v) h t => .cons (by
      cases d with
      | none => trivial
      | some d => cases v with
        | none => exact h
        | some v => exact x.den r h) (x.relS r t)
theorem RelS.get : ∀ {ρ : Ev} {σ : St} {i : Nat} {d : D}, RelS K H G ρ σ → ρ[i]? = some (some d) → ∃ v, σ[i]? = some (some v) ∧ Den K H G d v
  | _, _, _, _, .nil, e => by simp at e
  | _, _, 0, d, .cons (v := v) h _, e => by
    simp at e; subst e
    cases v with
    | none => exact False.elim h
    | some v => exact ⟨v, rfl, h⟩
  | _, _, i + 1, d, .cons _ t, e => by
    obtain ⟨v, h1, h2⟩ := RelS.get (i := i) (d := d) t (by simpa using e)
    exact ⟨v, by simpa using h1, h2⟩
theorem RelS.set {d : D} {v : V} (h : Den K H G d v) : ∀ {ρ : Ev} {σ : St} (i : Nat), RelS K H G ρ σ → RelS K H G (ρ.set i (some d)) (σ.set i (some v))
  | _, _, _, .nil => .nil
  | _, _, 0, .cons _ t => .cons h t
  | _, _, i + 1, .cons r t => .cons r (RelS.set h i t)
theorem RelS.setNone {w : Option V} : ∀ {ρ : Ev} {σ : St} (i : Nat), RelS K H G ρ σ → RelS K H G (ρ.set i none) (σ.set i w)
  | _, _, _, .nil => .nil
  | _, _, 0, .cons _ t => .cons trivial t
  | _, _, i + 1, .cons r t => .cons r (RelS.setNone i t)
theorem RelS.forget : ∀ {ρ : Ev} {σ : St} (i : Nat), RelS K H G ρ σ → RelS K H G (ρ.set i none) σ
  | _, _, _, .nil => .nil
  | _, _, 0, .cons _ t => .cons trivial t
  | _, _, i + 1, .cons r t => .cons r (RelS.forget i t)
theorem RelS.ofArgs : ∀ {ds : List D} {vs : List V} (n : Nat), DenL K H G ds vs → RelS K H G (ds.map some ++ List.replicate n none) (vs.map some ++ List.replicate n none)
  | _, _, 0, .nil => .nil
  | _, _, n + 1, .nil => by
    rw [List.replicate_succ, List.replicate_succ]
    exact .cons trivial (RelS.ofArgs (ds := []) (vs := []) n .nil)
  | _, _, n, .cons h t => .cons h (RelS.ofArgs n t)
end

/-- an exception: its class, its fields (where it has an own dict) -/
structure Exn where
  cls : Value
  fs : Option (List (Str × PyData))
def ExnAt (K : PySem.W.Frag) (H : Hp) (G : Gh) (x : Exn) (d : Option Addr) : Prop :=
  match x.fs with
  | none => d = none
  | some fs => ∃ a ws, d = some a ∧ H a = some (.xd ws) ∧ fs.map (·.1) = ws.map (·.1) ∧ DnAll K G.φ H (fs.map (·.2)) (ws.map (·.2))

inductive Out (α : Type) where
  | ok (a : α) (s : Sto)
  | err (x : Exn) (s : Sto)
  | bad
abbrev M (α : Type) := Sto → Out α
def Out.bind {α β : Type} : Out α → (α → M β) → Out β
  | .ok a s, k => k a s
  | .err x s, _ => .err x s
  | .bad, _ => .bad
@[simp] theorem Out.bind_ok {α β : Type} (a : α) (s : Sto) (k : α → M β) : (Out.ok a s).bind k = k a s := rfl
@[simp] theorem Out.bind_err {α β : Type} (x : Exn) (s : Sto) (k : α → M β) : (Out.err x s : Out α).bind k = .err x s := rfl
@[simp] theorem Out.bind_bad {α β : Type} (k : α → M β) : (Out.bad : Out α).bind k = .bad := rfl

abbrev FE := Ev → M D
abbrev FT := Ev → M Bool
abbrev FA := Ev → M (List D)
inductive Fl where
  | next (ρ : Ev)
  | ret (d : D)
  | brk (ρ : Ev)
  | cont (ρ : Ev)
  | exc (x : Exn) (ρ : Ev)
abbrev FS := Ev → Sto → Option (Fl × Sto)

def Aft {α : Type} (K : PySem.W.Frag) (W : WX) (σ : St) (H : Hp) (G : Gh) (S : Sto) (o : Out α) (P : α → Hp → Gh → Sto → Prop) : Prop :=
  match o with
  | .ok a S' => ∀ H' G', Ext H G S H' G' S' → Rep K H' G' S' → P a H' G' S'
  | .err x S' => ∀ H' G' d, Ext H G S H' G' S' → Rep K H' G' S' → ExnAt K H' G' x d → W x.cls d σ H'
  | .bad => False
theorem Aft.bind {α β : Type} {K : PySem.W.Frag} {W : WX} {σ : St} {H : Hp} {G : Gh} {S : Sto} {o : Out α} {k : α → M β} {P : β → Hp → Gh → Sto → Prop} (h : Aft K W σ H G S (o.bind k) P) :
    Aft K W σ H G S o fun a H1 G1 S1 => Aft K W σ H1 G1 S1 (k a S1) P := by
  cases o with
  | ok a S1 =>
    intro H1 G1 x1 r1
    have h' : Aft K W σ H G S (k a S1) P := h
    show Aft K W σ H1 G1 S1 (k a S1) P
    cases e : k a S1 with
    | ok b S2 =>
      rw [e] at h'
      exact fun H2 G2 x2 r2 => h' H2 G2 (x1.trans x2) r2
    | err x S2 =>
      rw [e] at h'
      exact fun H2 G2 d x2 r2 z => h' H2 G2 d (x1.trans x2) r2 z
    | bad => rw [e] at h'; exact h'
  | err x S1 => exact h
  | bad => exact h
theorem Aft.mono {α : Type} {K : PySem.W.Frag} {W : WX} {σ : St} {H : Hp} {G : Gh} {S : Sto} {o : Out α} {P P' : α → Hp → Gh → Sto → Prop} (h : Aft K W σ H G S o P) (f : ∀ a H' G' S', Ext H G S H' G' S' → Rep K H' G' S' → P a H' G' S' → P' a H' G' S') :
    Aft K W σ H G S o P' := by
  cases o with
  | ok a S1 => exact fun H1 G1 x1 r1 => f a H1 G1 S1 x1 r1 (h H1 G1 x1 r1)
  | err x S1 => exact h
  | bad => exact h
/-- the outcome is known -/
theorem Aft.here {α : Type} {K : PySem.W.Frag} {W : WX} {σ : St} {H : Hp} {G : Gh} {S : Sto} {a : α} {S' : Sto} {P : α → Hp → Gh → Sto → Prop} (h : Aft K W σ H G S (.ok a S') P) {H' : Hp} {G' : Gh} (x : Ext H G S H' G' S') (r : Rep K H' G' S') : P a H' G' S' := h H' G' x r

def AftS (K : PySem.W.Frag) (W : WX) (E : Ends) (H : Hp) (G : Gh) (S : Sto) (o : Option (Fl × Sto)) : Prop :=
  match o with
  | none => False
  | some (.next ρ', S') => ∀ H' G' σ', Ext H G S H' G' S' → Rep K H' G' S' → RelS K H' G' ρ' σ' → E.nx σ' H'
  | some (.ret d, S') => ∀ H' G' v, Ext H G S H' G' S' → Rep K H' G' S' → Den K H' G' d v → E.rt v H'
  | some (.brk ρ', S') => ∀ H' G' σ', Ext H G S H' G' S' → Rep K H' G' S' → RelS K H' G' ρ' σ' → E.bk σ' H'
  | some (.cont ρ', S') => ∀ H' G' σ', Ext H G S H' G' S' → Rep K H' G' S' → RelS K H' G' ρ' σ' → E.ct σ' H'
  | some (.exc x ρ', S') => ∀ H' G' σ' d, Ext H G S H' G' S' → Rep K H' G' S' → RelS K H' G' ρ' σ' → ExnAt K H' G' x d → W x.cls d σ' H'
theorem AftS.ext {K : PySem.W.Frag} {W : WX} {E : Ends} {H H1 : Hp} {G G1 : Gh} {S S1 : Sto} {o : Option (Fl × Sto)} (h : AftS K W E H G S o) (x : Ext H G S H1 G1 S1) : AftS K W E H1 G1 S1 o := by
  match o with
  | none => exact h
  | some (.next ρ', S') => exact fun H' G' σ' x' => h H' G' σ' (x.trans x')
  | some (.ret d, S') => exact fun H' G' v x' => h H' G' v (x.trans x')
  | some (.brk ρ', S') => exact fun H' G' σ' x' => h H' G' σ' (x.trans x')
  | some (.cont ρ', S') => exact fun H' G' σ' x' => h H' G' σ' (x.trans x')
  | some (.exc y ρ', S') => exact fun H' G' σ' d x' => h H' G' σ' d (x.trans x')

def rd (K : PySem.W.Frag) (W : WX) (f : FE) : TE := fun σ H Q => ∃ G S ρ, RelS K H G ρ σ ∧ Rep K H G S ∧ Aft K W σ H G S (f ρ S) fun d H' G' _ => ∀ v, Den K H' G' d v → Q v H'
def rdT (K : PySem.W.Frag) (W : WX) (f : FT) : TT := fun σ H Q => ∃ G S ρ, RelS K H G ρ σ ∧ Rep K H G S ∧ Aft K W σ H G S (f ρ S) fun b H' _ _ => Q b H'
def rdA (K : PySem.W.Frag) (W : WX) (f : FA) : TA := fun σ H Q => ∃ G S ρ, RelS K H G ρ σ ∧ Rep K H G S ∧ Aft K W σ H G S (f ρ S) fun ds H' G' _ => ∀ vs, DenL K H' G' ds vs → Q vs H'
def rdS (K : PySem.W.Frag) (W : WX) (f : FS) : TS := fun E σ H => ∃ G S ρ, RelS K H G ρ σ ∧ Rep K H G S ∧ AftS K W E H G S (f ρ S)

structure DE (X : Cx) (W : WX) (e : Expr) (f : FE) : Prop where
  run : PE X e (rd X.K W f)
structure DT (X : Cx) (W : WX) (e : Expr) (f : FT) : Prop where
  run : PT X e (rdT X.K W f)
structure DA (X : Cx) (W : WX) (es : List Expr) (f : FA) : Prop where
  run : PA X es (rdA X.K W f)
structure DS (X : Cx) (W : WX) (st : Stmt) (f : FS) : Prop where
  run : PS X st (rdS X.K W f)
structure DSs (X : Cx) (W : WX) (sts : List Stmt) (f : FS) : Prop where
  run : PSs X sts (rdS X.K W f)

section
variable {X : Cx}
theorem PE.imp {e : Expr} {t t' : TE} (h : PE X e t) (i : ∀ σ H Q, t' σ H Q → t σ H Q) : PE X e t' := ⟨fun pins s σ H Q I q => h.run pins s σ H Q I (i σ H Q q)⟩
theorem PT.imp {e : Expr} {t t' : TT} (h : PT X e t) (i : ∀ σ H Q, t' σ H Q → t σ H Q) : PT X e t' := ⟨fun pins s σ H Q I q => h.run pins s σ H Q I (i σ H Q q)⟩
theorem PA.imp {es : List Expr} {t t' : TA} (h : PA X es t) (i : ∀ σ H Q, t' σ H Q → t σ H Q) : PA X es t' := ⟨fun pos pins s σ H Q I q => h.run pos pins s σ H Q I (i σ H Q q)⟩
theorem PS.imp {st : Stmt} {t t' : TS} (h : PS X st t) (i : ∀ D σ H, t' D σ H → t D σ H) : PS X st t' := ⟨fun pins s σ H D I q => h.run pins s σ H D I (i D σ H q)⟩
theorem PSs.imp {sts : List Stmt} {t t' : TS} (h : PSs X sts t) (i : ∀ D σ H, t' D σ H → t D σ H) : PSs X sts t' := ⟨fun pins s σ H D I q => h.run pins s σ H D I (i D σ H q)⟩
end

section
variable {K : PySem.W.Frag} {H : Hp} {G : Gh} {S : Sto}
theorem Rep.notIn (r : Rep K H G S) {p : Addr} (hp : H p = none) : p ∉ G.ι := fun h => r.tr h hp
theorem Rep.notPhi (r : Rep K H G S) {p : Addr} (hp : H p = none) : ∀ q ∈ G.φ, q.1 ≠ p := fun q hq e => by
  have := r.phi q hq
  rw [e, hp] at this; cases this
/-- a new object that is not tracked by the ghost -/
theorem Ext.other (r : Rep K H G S) {p : Addr} {o : HO} (hp : H p = none) : Ext H G S (upd H p o) G S :=
  ⟨fun _ _ h => h, fun _ h => h, fun b u h _ => by rw [upd_ne (ne_of_none h hp)]; exact h, fun b l => .inl l, fun _ h => .inl h, fun _ h => .inl h⟩
theorem OkO.ext {H' : Hp} {φ' : List (Addr × HO)} {a : Addr} {o : MO} (hs : ∀ p ∈ G.φ, p ∈ φ') (ht : ∀ a vs, SqT K H a vs → SqT K H' a vs) (e : ∀ u, H a = some u → H' a = some u) (h : OkO K H G.φ a o) : OkO K H' φ' a o := by
  cases o with
  | dead =>
    intro z
    cases q : H a with
    | none => exact h q
    | some u => rw [e u q] at z; cases z
  | lst xs => obtain ⟨vs, q, t⟩ := h; exact ⟨vs, e _ q, t.mono hs ht⟩
  | dic kvs => obtain ⟨ws, q, k, t⟩ := h; exact ⟨ws, e _ q, k, t.mono hs ht⟩
theorem Rep.other (r : Rep K H G S) {p : Addr} {o : HO} (hp : H p = none) : Rep K (upd H p o) G S := by
  have x := Ext.other (o := o) r hp
  have nn : ∀ {b : Addr} {u : HO}, H b = some u → upd H p o b = some u := fun h => by rw [upd_ne (ne_of_none h hp)]; exact h
  exact ⟨r.len, r.nd, fun i a m h1 h2 => OkO.ext (fun _ h => h) (fun _ _ => x.tup r) (fun u => nn) (r.ok i a m h1 h2), fun q hq => nn (r.phi q hq), r.pnl⟩
/-- a new frozen object -/
theorem Ext.froz (r : Rep K H G S) {p : Addr} {o : HO} (hp : H p = none) : Ext H G S (upd H p o) ⟨G.ι, (p, o) :: G.φ⟩ S :=
  ⟨fun _ _ h => h, fun _ h => List.mem_cons_of_mem _ h, fun b u h _ => by rw [upd_ne (ne_of_none h hp)]; exact h, fun b l => .inl l, fun _ h => .inl h, fun q h => by
    rcases List.mem_cons.mp h with e | h
    · rw [e]; exact .inr (.inl hp)
    · exact .inl h⟩
theorem Rep.froz (r : Rep K H G S) {p : Addr} {o : HO} (hp : H p = none) : Rep K (upd H p o) ⟨G.ι, (p, o) :: G.φ⟩ S := by
  have x := Ext.froz (o := o) r hp
  have nn : ∀ {b : Addr} {u : HO}, H b = some u → upd H p o b = some u := fun h => by rw [upd_ne (ne_of_none h hp)]; exact h
  refine ⟨r.len, r.nd, fun i a m h1 h2 => OkO.ext (G := G) (fun _ h => List.mem_cons_of_mem _ h) (fun _ _ => x.tup r) (fun u => nn) (r.ok i a m h1 h2), fun q hq => ?_, fun q hq => ?_⟩
  · rcases List.mem_cons.mp hq with e | hq
    · subst e; exact upd_same
    · exact nn (r.phi q hq)
  · rcases List.mem_cons.mp hq with e | hq
    · subst e
      rintro ⟨i, m, h1, _, _⟩
      exact r.notIn hp (List.mem_of_getElem? h1)
    · exact r.pnl q hq
/-- a new mutable object -/
def Gh.add (G : Gh) (p : Addr) : Gh := ⟨G.ι ++ [p], G.φ⟩
theorem Gh.add_last (r : Rep K H G S) (p : Addr) : (G.add p).ι[S.length]? = some p := by
  show (G.ι ++ [p])[S.length]? = _
  rw [← r.len]; simp
theorem Live.add {p b : Addr} {m : MO} (r : Rep K H G S) (l : Live (G.add p) (S ++ [m]) b) : Live G S b ∨ b = p := by
  obtain ⟨i, o, h1, h2, h3⟩ := l
  have h1 : (G.ι ++ [p])[i]? = some b := h1
  by_cases hi : i < S.length
  · rw [List.getElem?_append_left (by rw [r.len]; exact hi)] at h1
    rw [List.getElem?_append_left hi] at h2
    exact .inl ⟨i, o, h1, h2, h3⟩
  · rw [List.getElem?_append_right (by rw [r.len]; omega)] at h1
    have : b ∈ [p] := List.mem_of_getElem? h1
    exact .inr (by simpa using this)
theorem Ext.new (r : Rep K H G S) {p : Addr} {o : HO} (m : MO) (hp : H p = none) : Ext H G S (upd H p o) (G.add p) (S ++ [m]) := by
  refine ⟨fun i a h => ?_, fun _ h => h, fun b u h _ => by rw [upd_ne (ne_of_none h hp)]; exact h, fun b l => ?_, fun b h => ?_, fun _ h => .inl h⟩
  · show (G.ι ++ [p])[i]? = some a
    rw [List.getElem?_append_left (List.getElem?_eq_some_iff.mp h).1]; exact h
  · rcases Live.add r l with q | q
    · exact .inl q
    · rw [q]; exact .inr hp
  · rcases List.mem_append.mp (show b ∈ G.ι ++ [p] from h) with q | q
    · exact .inl q
    · have e : b = p := by simpa using q
      rw [e]; exact .inr hp
theorem Rep.new (r : Rep K H G S) {p : Addr} {o : HO} {m : MO} (hp : H p = none) (h : OkO K (upd H p o) G.φ p m) : Rep K (upd H p o) (G.add p) (S ++ [m]) := by
  have x := Ext.new (o := o) r m hp
  have nn : ∀ {b : Addr} {u : HO}, H b = some u → upd H p o b = some u := fun h => by rw [upd_ne (ne_of_none h hp)]; exact h
  refine ⟨?_, ?_, fun i a mo h1 h2 => ?_, fun q hq => nn (r.phi q hq), fun q hq l => ?_⟩
  · show (G.ι ++ [p]).length = (S ++ [m]).length
    rw [List.length_append, List.length_append, r.len]; rfl
  · show (G.ι ++ [p]).Nodup
    rw [List.nodup_append]
    refine ⟨r.nd, by simp, fun a ha b hb => ?_⟩
    have e : b = p := by simpa using hb
    subst e
    intro z; subst z; exact r.notIn hp ha
  · have h1 : (G.ι ++ [p])[i]? = some a := h1
    by_cases hi : i < S.length
    · rw [List.getElem?_append_left (by rw [r.len]; exact hi)] at h1
      rw [List.getElem?_append_left hi] at h2
      exact OkO.ext (G := G) (fun _ h => h) (fun _ _ => x.tup r) (fun u => nn) (r.ok i a mo h1 h2)
    · have hl : i < (S ++ [m]).length := (List.getElem?_eq_some_iff.mp h2).1
      rw [List.length_append] at hl
      have e : i = S.length := by have : i < S.length + 1 := hl; omega
      subst e
      rw [← r.len] at h1
      simp at h1 h2
      subst h1 h2
      exact h
  · rcases Live.add r l with z | z
    · exact r.pnl q hq z
    · exact r.notPhi hp q hq z
/-- a mutable object is changed -/
theorem Live.set {i : Nat} {m m' : MO} {b : Addr} (hm : S[i]? = some m) (hl : m ≠ .dead) (l : Live G (S.set i m') b) : Live G S b := by
  obtain ⟨j, o, h1, h2, h3⟩ := l
  by_cases e : i = j
  · subst e
    exact ⟨i, m, h1, hm, hl⟩
  · rw [List.getElem?_set_ne e] at h2
    exact ⟨j, o, h1, h2, h3⟩
theorem Ext.chg (r : Rep K H G S) {i : Nat} {a : Addr} {m m' : MO} {o : HO} (ha : G.ι[i]? = some a) (hm : S[i]? = some m) (hl : m ≠ .dead) : Ext H G S (upd H a o) G (S.set i m') := by
  refine ⟨fun _ _ h => h, fun _ h => h, fun b u h n => ?_, fun b l => .inl (Live.set hm hl l), fun _ h => .inl h, fun _ h => .inl h⟩
  rw [upd_ne (fun z => n ⟨i, m, by rw [z]; exact ha, hm, hl⟩)]; exact h
theorem Rep.chg (r : Rep K H G S) {i : Nat} {a : Addr} {m m' : MO} {o : HO} (ha : G.ι[i]? = some a) (hm : S[i]? = some m) (hl : m ≠ .dead) (h : OkO K (upd H a o) G.φ a m') : Rep K (upd H a o) G (S.set i m') := by
  have x := Ext.chg (o := o) (m' := m') r ha hm hl
  refine ⟨by rw [List.length_set]; exact r.len, r.nd, fun j b mo h1 h2 => ?_, fun q hq => x.frame _ _ (r.phi q hq) (r.pnl q hq), fun q hq l => r.pnl q hq (Live.set hm hl l)⟩
  by_cases e : i = j
  · subst e
    rw [ha] at h1; cases h1
    have hlt : i < S.length := (List.getElem?_eq_some_iff.mp hm).1
    rw [List.getElem?_set_self hlt] at h2
    cases h2
    exact h
  · rw [List.getElem?_set_ne e] at h2
    have hne : b ≠ a := fun z => e (nodup_ix' r.nd ha (by rw [← z]; exact h1))
    exact OkO.ext (G := G) (fun _ h => h) (fun _ _ => x.tup r) (fun u hu => by rw [upd_ne hne]; exact hu) (r.ok j b mo h1 h2)
  where
  nodup_ix' {l : List Addr} (hN : l.Nodup) {i j : Nat} {x : Addr} (a : l[i]? = some x) (b : l[j]? = some x) : i = j := by
    obtain ⟨h1, e1⟩ := List.getElem?_eq_some_iff.mp a
    obtain ⟨h2, e2⟩ := List.getElem?_eq_some_iff.mp b
    exact (List.getElem_inj hN).mp (e1.trans e2.symm)
/-- a mutable object is frozen -/
theorem Ext.ice {i : Nat} {a : Addr} {m : MO} {o : HO} (ha : G.ι[i]? = some a) (hm : S[i]? = some m) (hl : m ≠ .dead) : Ext H G S H ⟨G.ι, (a, o) :: G.φ⟩ (S.set i .dead) :=
  ⟨fun _ _ h => h, fun _ h => List.mem_cons_of_mem _ h, fun b u h _ => h, fun b l => .inl (by
    obtain ⟨j, u, h1, h2, h3⟩ := l
    exact Live.set hm hl ⟨j, u, h1, h2, h3⟩), fun _ h => .inl h, fun q h => by
      rcases List.mem_cons.mp h with e | h
      · rw [e]; exact .inr (.inr ⟨i, m, ha, hm, hl⟩)
      · exact .inl h⟩
theorem Rep.ice (r : Rep K H G S) {i : Nat} {a : Addr} {m : MO} {o : HO} (ha : G.ι[i]? = some a) (hm : S[i]? = some m) (hl : m ≠ .dead) (ho : H a = some o) : Rep K H ⟨G.ι, (a, o) :: G.φ⟩ (S.set i .dead) := by
  have hlt : i < S.length := (List.getElem?_eq_some_iff.mp hm).1
  refine ⟨by rw [List.length_set]; exact r.len, r.nd, fun j b mo h1 h2 => ?_, fun q hq => ?_, fun q hq l => ?_⟩
  · by_cases e : i = j
    · subst e
      rw [List.getElem?_set_self hlt] at h2
      cases h2
      have h1 : G.ι[i]? = some b := h1
      rw [ha] at h1; cases h1
      show H a ≠ none
      rw [ho]; exact fun z => nomatch z
    · rw [List.getElem?_set_ne e] at h2
      exact OkO.ext (G := G) (fun _ h => List.mem_cons_of_mem _ h) (fun _ _ h => h) (fun _ h => h) (r.ok j b mo h1 h2)
  · rcases List.mem_cons.mp hq with e | hq
    · subst e; exact ho
    · exact r.phi q hq
  · rcases List.mem_cons.mp hq with e | hq
    · subst e
      obtain ⟨j, u, h1, h2, h3⟩ := l
      have h1 : G.ι[j]? = some a := h1
      by_cases e : i = j
      · subst e
        rw [List.getElem?_set_self hlt] at h2
        cases h2
        exact h3 rfl
      · exact e (Rep.chg.nodup_ix' r.nd ha h1)
    · obtain ⟨j, u, h1, h2, h3⟩ := l
      exact r.pnl q hq (Live.set hm hl ⟨j, u, h1, h2, h3⟩)
/-- the later objects of the store are forgotten -/
theorem Live.cut {n : Nat} {b : Addr} (l : Live ⟨G.ι.take n, G.φ⟩ (S.take n) b) : Live G S b := by
  obtain ⟨i, o, h1, h2, h3⟩ := l
  have h1 : (G.ι.take n)[i]? = some b := h1
  rw [List.getElem?_take] at h1 h2
  by_cases hi : i < n
  · rw [if_pos hi] at h1 h2
    exact ⟨i, o, h1, h2, h3⟩
  · rw [if_neg hi] at h1; cases h1
theorem Rep.cut (r : Rep K H G S) (n : Nat) : Rep K H ⟨G.ι.take n, G.φ⟩ (S.take n) := by
  refine ⟨by rw [List.length_take, List.length_take, r.len], r.nd.sublist (List.take_sublist _ _), fun i a o h1 h2 => ?_, r.phi, fun q hq l => r.pnl q hq l.cut⟩
  have h1 : (G.ι.take n)[i]? = some a := h1
  rw [List.getElem?_take] at h1 h2
  by_cases hi : i < n
  · rw [if_pos hi] at h1 h2
    exact r.ok i a o h1 h2
  · rw [if_neg hi] at h1; cases h1
theorem Ext.cut {H1 : Hp} {G1 : Gh} {S1 : Sto} (r : Rep K H G S) (x : Ext H G S H1 G1 S1) : Ext H G S H1 ⟨G1.ι.take S.length, G1.φ⟩ (S1.take S.length) := by
  refine ⟨fun i a h => ?_, x.phi, x.frame, fun b l => x.fresh b l.cut, fun b h => x.iot b (List.mem_of_mem_take h), x.phf⟩
  have hi : i < S.length := by rw [← r.len]; exact (List.getElem?_eq_some_iff.mp h).1
  show (G1.ι.take S.length)[i]? = some a
  rw [List.getElem?_take, if_pos hi]
  exact x.pre i a h
end
end DL

namespace DL
open PySem L2

def LIM : Nat := 1000000
theorem LIM_le : LIM ≤ sizeLine := by unfold LIM; rw [sizeLine_eq]; decide
theorem LIM_lt : LIM < sizeLine := by unfold LIM; rw [sizeLine_eq]; decide

def pys : List D → Option (List PyData)
  | [] => some []
  | .p x :: r => match pys r with
    | some xs => some (x :: xs)
    | none => none
  | _ :: _ => none
section
variable {K : PySem.W.Frag} {H : Hp} {G : Gh} {S : Sto}
theorem pys_den : ∀ {ds : List D} {xs : List PyData} {vs : List V}, pys ds = some xs → DenL K H G ds vs → DnAll K G.φ H xs vs
  | [], xs, _, e, .nil => by cases e; exact .nil
  | .p x :: r, xs, _, e, .cons h t => by
    simp only [pys] at e
    cases q : pys r with
    | none => rw [q] at e; cases e
    | some ys =>
      rw [q] at e; cases e
      exact .cons h (pys_den q t)
  | .ob _ :: _, _, _, e, _ => by cases e
  | .ro _ :: _, _, _, e, _ => by cases e
  | .ext _ :: _, _, _, e, _ => by cases e
theorem pys_len : ∀ {ds : List D} {xs : List PyData}, pys ds = some xs → ds.length = xs.length
  | [], xs, e => by cases e; rfl
  | .p x :: r, xs, e => by
    simp only [pys] at e
    cases q : pys r with
    | none => rw [q] at e; cases e
    | some ys =>
      rw [q] at e; cases e
      rw [List.length_cons, List.length_cons, pys_len q]
  | .ob _ :: _, _, e => by cases e
  | .ro _ :: _, _, e => by cases e
  | .ext _ :: _, _, e => by cases e
end

abbrev QD (K : PySem.W.Frag) (Q : VK) : D → Hp → Gh → Sto → Prop := fun d H' G' _ => ∀ v, Den K H' G' d v → Q v H'
section
variable {K : PySem.W.Frag} {W : WX} {σ : St} {H : Hp} {G : Gh} {S : Sto} {Q : VK} {p : Addr}
theorem Aft.ret {d : D} {v : V} (h : Aft K W σ H G S (.ok d S) (QD K Q)) (r : Rep K H G S) (dv : Den K H G d v) : Q v H := h H G Ext.refl r v dv
theorem Aft.newTup {xs : List PyData} {vs : List V} (h : Aft K W σ H G S (.ok (.p (.tuple xs)) S) (QD K Q)) (r : Rep K H G S) (t : DnAll K G.φ H xs vs) (hp : H p = none) : Q (.ref p) (upd H p (.tup vs)) :=
  h _ G (Ext.other r hp) (Rep.other r hp) _ (Dn.tup (SqT.of upd_same) ((Ext.other r hp).dnAll r t))
theorem Aft.newLst {xs : List PyData} {vs : List V} (h : Aft K W σ H G S (.ok (.p (.list xs)) S) (QD K Q)) (r : Rep K H G S) (t : DnAll K G.φ H xs vs) (hp : H p = none) : Q (.ref p) (upd H p (.lst vs)) :=
  h _ _ (Ext.froz r hp) (Rep.froz r hp) _ (Dn.lst (fun _ q => q _ List.mem_cons_self) ((Ext.froz r hp).dnAll r t))
theorem Aft.newLstM {xs : List PyData} {vs : List V} (h : Aft K W σ H G S (.ok (.ob S.length) (S ++ [.lst xs])) (QD K Q)) (r : Rep K H G S) (t : DnAll K G.φ H xs vs) (hp : H p = none) : Q (.ref p) (upd H p (.lst vs)) :=
  h _ _ (Ext.new r _ hp) (Rep.new r hp ⟨vs, upd_same, (Ext.new r (.lst xs) hp).dnAll r t⟩) _ ⟨p, rfl, Gh.add_last r p⟩
theorem Aft.newDicM {kvs : List (Key × PyData)} {ws : List (Key × V)} (h : Aft K W σ H G S (.ok (.ob S.length) (S ++ [.dic kvs])) (QD K Q)) (r : Rep K H G S) (e : kvs.map (·.1) = ws.map (·.1)) (t : DnAll K G.φ H (kvs.map (·.2)) (ws.map (·.2))) (hp : H p = none) : Q (.ref p) (upd H p (.dK ws)) :=
  h _ _ (Ext.new r _ hp) (Rep.new r hp ⟨ws, upd_same, e, (Ext.new r (.dic kvs) hp).dnAll r t⟩) _ ⟨p, rfl, Gh.add_last r p⟩
def pyKv (kvs : List (Key × PyData)) : List (PyData × PyData) := kvs.map fun p => (keyPy p.1, p.2)
theorem pyKv_keys (kvs : List (Key × PyData)) : (pyKv kvs).map (·.1) = kvs.map (fun p => keyPy p.1) := by simp [pyKv]
theorem pyKv_vals (kvs : List (Key × PyData)) : (pyKv kvs).map (·.2) = kvs.map (·.2) := by simp [pyKv]
theorem Dn.dicOf {φ : List (Addr × HO)} {a : Addr} {kvs : List (Key × PyData)} {ws : List (Key × V)} (f : FD φ a ws) (e : kvs.map (·.1) = ws.map (·.1)) (t : DnAll K φ H (kvs.map (·.2)) (ws.map (·.2))) : Dn K φ H (.dict (pyKv kvs)) (.ref a) := by
  refine .dic f ?_ (by rw [pyKv_vals]; exact t)
  rw [pyKv_keys]
  have := congrArg (List.map keyPy) e
  simpa [List.map_map, Function.comp_def] using this
theorem Aft.newDic {kvs : List (Key × PyData)} {ws : List (Key × V)} (h : Aft K W σ H G S (.ok (.p (.dict (pyKv kvs))) S) (QD K Q)) (r : Rep K H G S) (e : kvs.map (·.1) = ws.map (·.1)) (t : DnAll K G.φ H (kvs.map (·.2)) (ws.map (·.2))) (hp : H p = none) : Q (.ref p) (upd H p (.dK ws)) :=
  h _ _ (Ext.froz r hp) (Rep.froz r hp) _ (Dn.dicOf (fun _ q => q _ List.mem_cons_self) e ((Ext.froz r hp).dnAll r t))
end

def eVar (i : Nat) : FE := fun ρ S => match ρ[i]? with
  | some (some d) => .ok d S
  | _ => .bad
def eC (d : D) : FE := fun _ S => .ok d S
section
variable {X : Cx} {W : WX}
theorem de_var (i : Nat) {x : Str} {pos : Pos} (hN : X.N[i]? = some x := by rfl) (hv : Vis X.env.scope x := by first | exact Or.inl rfl | exact Or.inr (Or.inl rfl) | exact Or.inr (Or.inr rfl)) (hd : (x == ("__debug__" : Str)) = false := by decide)
    (hcd : (x == ("__classdict__" : Str)) = false := by decide) : DE X W (.Name x pos) (eVar i) := by
  refine ⟨PE.imp (pe_var hN hv hd hcd) fun σ H Q ⟨G, S, ρ, rs, rp, h⟩ => ?_⟩
  unfold eVar at h
  split at h
  · rename_i d e
    obtain ⟨v, h1, h2⟩ := rs.get e
    exact ⟨v, h1, h.ret rp h2⟩
  · exact h.elim
theorem de_int {i : Int} {j pos} : DE X W (.Constant (.int i) j pos) (eC (.p (.int i))) := ⟨PE.imp pe_int fun σ H Q ⟨G, S, ρ, rs, rp, h⟩ => Aft.ret h rp (.int i)⟩
theorem de_bl {b : Bool} {j pos} : DE X W (.Constant (.bool b) j pos) (eC (.p (.bool b))) := ⟨PE.imp pe_bl fun σ H Q ⟨G, S, ρ, rs, rp, h⟩ => Aft.ret h rp (.bl b)⟩
theorem de_non {j pos} : DE X W (.Constant .none j pos) (eC (.p .none)) := ⟨PE.imp pe_non fun σ H Q ⟨G, S, ρ, rs, rp, h⟩ => Aft.ret h rp .non⟩
theorem de_str {x : Str} {j pos} : DE X W (.Constant (.str x) j pos) (eC (.p (.str x))) := ⟨PE.imp pe_str fun σ H Q ⟨G, S, ρ, rs, rp, h⟩ => Aft.ret h rp (.str x)⟩
/-- a constant of the module, by its data -/
theorem de_glob {x : Str} {v : V} {u : Value} {d : D} {pos : Pos} (hg : Gl X x) (hm : X.mg x = some u) (r : RelV v u) (hd : ∀ H G, Den X.K H G d v) (hdb : (x == ("__debug__" : Str)) = false := by decide) : DE X W (.Name x pos) (eC d) :=
  ⟨PE.imp (pe_glob hg hm r hdb) fun σ H Q ⟨G, S, ρ, rs, rp, h⟩ => Aft.ret h rp (hd H G)⟩
end

def aNil : FA := fun _ S => .ok [] S
def aCons (f : FE) (g : FA) : FA := fun ρ S => (f ρ S).bind fun d S1 => (g ρ S1).bind fun ds S2 => .ok (d :: ds) S2
def mkTup : List D → M D := fun ds S => match pys ds with
  | some xs => if xs.length ≤ LIM then .ok (.p (.tuple xs)) S else .bad
  | none => .bad
def mkLst : List D → M D := fun ds S => match pys ds with
  | some xs => if xs.length ≤ LIM then .ok (.p (.list xs)) S else .bad
  | none => .bad
def mkLstM : List D → M D := fun ds S => match pys ds with
  | some xs => if xs.length ≤ LIM then .ok (.ob S.length) (S ++ [.lst xs]) else .bad
  | none => .bad
def eA (g : List D → M D) (f : FA) : FE := fun ρ S => (f ρ S).bind g
section
variable {X : Cx} {W : WX} {e : Expr} {es : List Expr} {f : FE} {g : FA} {pos : Pos}
theorem da_nil : DA X W [] aNil := ⟨PA.imp pa_nil fun σ H Q ⟨G, S, ρ, rs, rp, h⟩ => h H G Ext.refl rp _ .nil⟩
theorem da_cons (he : DE X W e f) (hr : DA X W es g) (hs : starEach (e :: es) X.env = (false, eval e X.env) :: starEach es X.env := by rfl) : DA X W (e :: es) (aCons f g) := by
  refine ⟨PA.imp (pa_cons he.run hr.run hs) fun σ H Q ⟨G, S, ρ, rs, rp, h⟩ => ?_⟩
  refine ⟨G, S, ρ, rs, rp, (Aft.bind h).mono fun d H1 G1 S1 x1 r1 h1 v dv => ?_⟩
  refine ⟨G1, S1, ρ, x1.relS rp rs, r1, (Aft.bind h1).mono fun ds H2 G2 S2 x2 r2 h2 vs dvs => ?_⟩
  exact h2 H2 G2 Ext.refl r2 _ (.cons (x2.den r1 dv) dvs)
theorem de_tup {k} (h : DA X W es g) : DE X W (.Tuple es k pos) (eA mkTup g) := by
  refine ⟨PE.imp (pe_tup h.run) fun σ H Q ⟨G, S, ρ, rs, rp, h⟩ => ?_⟩
  refine ⟨G, S, ρ, rs, rp, (Aft.bind h).mono fun ds H1 G1 S1 x1 r1 h1 vs dvs => ?_⟩
  unfold mkTup at h1
  split at h1
  · rename_i xs e
    have t := pys_den e dvs
    by_cases hl : xs.length ≤ LIM
    · rw [if_pos hl] at h1
      exact ⟨by rw [← t.length]; exact Nat.le_trans hl LIM_le, fun p hp => h1.newTup r1 t hp⟩
    · rw [if_neg hl] at h1; exact h1.elim
  · exact h1.elim
theorem de_lst (h : DA X W es g) : DE X W (.List es pos) (eA mkLst g) := by
  refine ⟨PE.imp (pe_lst h.run) fun σ H Q ⟨G, S, ρ, rs, rp, h⟩ => ?_⟩
  refine ⟨G, S, ρ, rs, rp, (Aft.bind h).mono fun ds H1 G1 S1 x1 r1 h1 vs dvs => ?_⟩
  unfold mkLst at h1
  split at h1
  · rename_i xs e
    have t := pys_den e dvs
    by_cases hl : xs.length ≤ LIM
    · rw [if_pos hl] at h1
      exact ⟨by rw [← t.length]; exact Nat.le_trans hl LIM_le, fun p hp => h1.newLst r1 t hp⟩
    · rw [if_neg hl] at h1; exact h1.elim
  · exact h1.elim
theorem de_lstM (h : DA X W es g) : DE X W (.List es pos) (eA mkLstM g) := by
  refine ⟨PE.imp (pe_lst h.run) fun σ H Q ⟨G, S, ρ, rs, rp, h⟩ => ?_⟩
  refine ⟨G, S, ρ, rs, rp, (Aft.bind h).mono fun ds H1 G1 S1 x1 r1 h1 vs dvs => ?_⟩
  unfold mkLstM at h1
  split at h1
  · rename_i xs e
    have t := pys_den e dvs
    by_cases hl : xs.length ≤ LIM
    · rw [if_pos hl] at h1
      exact ⟨by rw [← t.length]; exact Nat.le_trans hl LIM_le, fun p hp => h1.newLstM r1 t hp⟩
    · rw [if_neg hl] at h1; exact h1.elim
  · exact h1.elim
end

/-- the data's operation g is what the reading r asks -/
def Sim2 (K : PySem.W.Frag) (r : R2) (g : D → D → M D) : Prop :=
  ∀ (W : WX) (σ : St) (H : Hp) (G : Gh) (S : Sto) (x y : D) (v w : V) (Q : VK), Rep K H G S → Den K H G x v → Den K H G y w → Aft K W σ H G S (g x y S) (QD K Q) → r v w H Q
def Sim1 (K : PySem.W.Frag) (r : V → Hp → VK → Prop) (g : D → M D) : Prop :=
  ∀ (W : WX) (σ : St) (H : Hp) (G : Gh) (S : Sto) (x : D) (v : V) (Q : VK), Rep K H G S → Den K H G x v → Aft K W σ H G S (g x S) (QD K Q) → r v H Q
def SimA (K : PySem.W.Frag) (r : List V → Hp → VK → Prop) (g : List D → M D) : Prop :=
  ∀ (W : WX) (σ : St) (H : Hp) (G : Gh) (S : Sto) (xs : List D) (vs : List V) (Q : VK), Rep K H G S → DenL K H G xs vs → Aft K W σ H G S (g xs S) (QD K Q) → r vs H Q
def e2 (g : D → D → M D) (a b : FE) : FE := fun ρ S => (a ρ S).bind fun x S1 => (b ρ S1).bind fun y S2 => g x y S2
def e1 (g : D → M D) (a : FE) : FE := fun ρ S => (a ρ S).bind g
section
variable {X : Cx} {W : WX} {a b : Expr} {f h : FE} {pos : Pos}
theorem sim_op {r : R2} {g : D → D → M D} (m : Sim2 X.K r g) {σ : St} {H : Hp} {Q : VK} (q : rd X.K W (e2 g f h) σ H Q) : tOp r (rd X.K W f) (rd X.K W h) σ H Q := by
  obtain ⟨G, S, ρ, rs, rp, q⟩ := q
  refine ⟨G, S, ρ, rs, rp, (Aft.bind q).mono fun x H1 G1 S1 x1 r1 q1 v dv => ?_⟩
  refine ⟨G1, S1, ρ, x1.relS rp rs, r1, (Aft.bind q1).mono fun y H2 G2 S2 x2 r2 q2 w dw => ?_⟩
  exact m W σ H2 G2 S2 x y v w Q r2 (x2.den r1 dv) dw q2
theorem de_bin {op : Operator} {r : R2} {g : D → D → M D} (o : OpR X (binaryOp op) r) (m : Sim2 X.K r g) (ha : DE X W a f) (hb : DE X W b h) : DE X W (.BinOp a op b pos) (e2 g f h) :=
  ⟨PE.imp (pe_op o ha.run hb.run) fun _ _ _ q => sim_op m q⟩
theorem de_cmp {op : CmpOp} {r : R2} {g : D → D → M D} (o : OpR X (compareOp op) r) (m : Sim2 X.K r g) (ha : DE X W a f) (hb : DE X W b h) (hm : behindInMarks op b = false) : DE X W (.Compare a [op] [b] pos) (e2 g f h) :=
  ⟨PE.imp (pe_cmpR o ha.run hb.run hm) fun _ _ _ q => sim_op m q⟩
theorem de_ix {r : R2} {g : D → D → M D} (o : IxR X r) (m : Sim2 X.K r g) (ha : DE X W a f) (hb : DE X W b h) (hs : PlainIx b) : DE X W (.Subscript a b pos) (e2 g f h) :=
  ⟨PE.imp (pe_ix o ha.run hb.run hs) fun _ _ _ q => sim_op m q⟩
theorem de_un {op : UnaryOp} {r : V → Hp → VK → Prop} {g : D → M D} (o : UnR X (unaryOp op) r) (m : Sim1 X.K r g) (ha : DE X W a f) : DE X W (.UnaryOp op a pos) (e1 g f) := by
  refine ⟨PE.imp (pe_un o ha.run) fun σ H Q ⟨G, S, ρ, rs, rp, q⟩ => ?_⟩
  exact ⟨G, S, ρ, rs, rp, (Aft.bind q).mono fun x H1 G1 S1 x1 r1 q1 v dv => m W σ H1 G1 S1 x v Q r1 dv q1⟩
end

def opI (C : Int → Int → Bool) (g : Int → Int → Int) : D → D → M D := fun x y S => match x, y with
  | .p (.int i), .p (.int j) => if C i j then .ok (.p (.int (g i j))) S else .bad
  | _, _ => .bad
def opC (g : Int → Int → Bool) : D → D → M D := fun x y S => match x, y with
  | .p (.int i), .p (.int j) => .ok (.p (.bool (g i j))) S
  | _, _ => .bad
section
variable {K : PySem.W.Frag} {H : Hp} {G : Gh}
theorem den_int {i : Int} {v : V} (h : Den K H G (.p (.int i)) v) : v = .int i := by cases h; rfl
theorem den_str {i : Str} {v : V} (h : Den K H G (.p (.str i)) v) : v = .str i := by cases h; rfl
theorem den_bool {i : Bool} {v : V} (h : Den K H G (.p (.bool i)) v) : v = .bl i := by cases h; rfl
theorem den_none {v : V} (h : Den K H G (.p .none) v) : v = .non := by cases h; rfl
theorem den_tup {xs : List PyData} {v : V} (h : Den K H G (.p (.tuple xs)) v) : ∃ a vs, v = .ref a ∧ SqT K H a vs ∧ DnAll K G.φ H xs vs := by
  cases h with
  | tup h t => exact ⟨_, _, rfl, h, t⟩
theorem den_lst {xs : List PyData} {v : V} (h : Den K H G (.p (.list xs)) v) : ∃ a vs, v = .ref a ∧ FL G.φ a vs ∧ DnAll K G.φ H xs vs := by
  cases h with
  | lst h t => exact ⟨_, _, rfl, h, t⟩
theorem den_dic {kvs : List (PyData × PyData)} {v : V} (h : Den K H G (.p (.dict kvs)) v) : ∃ a ws, v = .ref a ∧ FD G.φ a ws ∧ kvs.map (·.1) = ws.map (fun p => keyPy p.1) ∧ DnAll K G.φ H (kvs.map (·.2)) (ws.map (·.2)) := by
  cases h with
  | dic h e t => exact ⟨_, _, rfl, h, e, t⟩
theorem sim_int {C : Int → Int → Bool} {P : Int → Int → Prop} {g : Int → Int → Int} (hC : ∀ i j, C i j = true → P i j) : Sim2 K (rI P fun i j => .int (g i j)) (opI C g) := by
  intro W σ H G S x y v w Q rp dx dy q
  unfold opI at q
  split at q
  · rename_i i j
    by_cases hc : C i j = true
    · rw [if_pos hc] at q
      exact ⟨i, j, den_int dx, den_int dy, hC i j hc, q.ret rp (.int _)⟩
    · rw [if_neg hc] at q; exact q.elim
  · exact q.elim
theorem sim_int0 {g : Int → Int → Int} : Sim2 K (rI0 fun i j => .int (g i j)) (opI (fun _ _ => true) g) := by
  intro W σ H G S x y v w Q rp dx dy q
  unfold opI at q
  split at q
  · rename_i i j
    exact ⟨i, j, den_int dx, den_int dy, q.ret rp (.int _)⟩
  · exact q.elim
theorem sim_cmp {g : Int → Int → Bool} : Sim2 K (rI0 fun i j => .bl (g i j)) (opC g) := by
  intro W σ H G S x y v w Q rp dx dy q
  unfold opC at q
  split at q
  · rename_i i j
    exact ⟨i, j, den_int dx, den_int dy, q.ret rp (.bl _)⟩
  · exact q.elim
end
def opSub : D → D → M D := opI (fun _ _ => true) fun i j => i - j
def opMulI : D → D → M D := opI (fun i j => (decide (-(2 ^ 64) < i) && decide (i < 2 ^ 64)) || (decide (-(2 ^ 64) < j) && decide (j < 2 ^ 64))) fun i j => i * j
def opMod : D → D → M D := opI (fun _ j => decide (0 < j)) fun i j => i % j
def opDiv : D → D → M D := opI (fun _ j => decide (0 < j) && decide (j < 1073741824)) fun i j => i / j
def opPow : D → D → M D := opI (fun i j => decide (0 ≤ j) && (decide (j ≤ 1000000) && decide (i.natAbs < 2 ^ 64))) fun i j => i ^ j.toNat
def opLt : D → D → M D := opC fun i j => decide (i < j)
def opLe : D → D → M D := opC fun i j => decide (i ≤ j)
def opGt : D → D → M D := opC fun i j => decide (j < i)
def opGe : D → D → M D := opC fun i j => decide (j ≤ i)
section
variable {X : Cx} {W : WX} {a b : Expr} {f h : FE} {pos : Pos}
theorem de_sub (ha : DE X W a f) (hb : DE X W b h) : DE X W (.BinOp a .Sub b pos) (e2 opSub f h) := de_bin op_sub sim_int0 ha hb
theorem de_mod (ha : DE X W a f) (hb : DE X W b h) : DE X W (.BinOp a .Mod b pos) (e2 opMod f h) := de_bin op_mod (sim_int fun i j q => of_decide_eq_true q) ha hb
theorem de_div (ha : DE X W a f) (hb : DE X W b h) : DE X W (.BinOp a .FloorDiv b pos) (e2 opDiv f h) := de_bin op_fdiv (sim_int fun i j q => by
  rw [Bool.and_eq_true, decide_eq_true_iff, decide_eq_true_iff] at q; exact q) ha hb
theorem de_pow (ha : DE X W a f) (hb : DE X W b h) : DE X W (.BinOp a .Pow b pos) (e2 opPow f h) := de_bin op_pow (sim_int fun i j q => by
  rw [Bool.and_eq_true, Bool.and_eq_true, decide_eq_true_iff, decide_eq_true_iff, decide_eq_true_iff] at q; exact q) ha hb
theorem de_lt (ha : DE X W a f) (hb : DE X W b h) : DE X W (.Compare a [.Lt] [b] pos) (e2 opLt f h) := de_cmp op_lt sim_cmp ha hb (nomark _)
theorem de_le (ha : DE X W a f) (hb : DE X W b h) : DE X W (.Compare a [.LtE] [b] pos) (e2 opLe f h) := de_cmp op_le sim_cmp ha hb (nomark _)
theorem de_gt (ha : DE X W a f) (hb : DE X W b h) : DE X W (.Compare a [.Gt] [b] pos) (e2 opGt f h) := de_cmp op_gt sim_cmp ha hb (nomark _)
theorem de_ge (ha : DE X W a f) (hb : DE X W b h) : DE X W (.Compare a [.GtE] [b] pos) (e2 opGe f h) := de_cmp op_ge sim_cmp ha hb (nomark _)
def opNeg : D → M D := fun x S => match x with
  | .p (.int i) => .ok (.p (.int (-i))) S
  | _ => .bad
theorem de_neg (ha : DE X W a f) : DE X W (.UnaryOp .USub a pos) (e1 opNeg f) := de_un un_neg (fun W σ H G S x v Q rp dx q => by
  unfold opNeg at q
  split at q
  · rename_i i
    exact ⟨i, den_int dx, q.ret rp (.int _)⟩
  · exact q.elim) ha
/-- + of ints, texts, lists, tuples -/
def opAdd : D → D → M D := fun x y S => match x, y with
  | .p (.int i), .p (.int j) => .ok (.p (.int (i + j))) S
  | .p (.str i), .p (.str j) => if i.length + j.length ≤ LIM then .ok (.p (.str (i ++ j))) S else .bad
  | .p (.list i), .p (.list j) => if i.length + j.length ≤ LIM then .ok (.p (.list (i ++ j))) S else .bad
  | .p (.tuple i), .p (.tuple j) => if i.length + j.length ≤ LIM then .ok (.p (.tuple (i ++ j))) S else .bad
  | _, _ => .bad
def rAddD (K : PySem.W.Frag) : R2 := fun x y H Q => rI0 (fun i j => .int (i + j)) x y H Q ∨ (∃ i j, x = .str i ∧ y = .str j ∧ i.length + j.length ≤ sizeLine ∧ Q (.str (i ++ j)) H) ∨ rCat x y H Q ∨ rCatA K x y H Q
theorem DnAll.nil_iff {K : PySem.W.Frag} {φ : List (Addr × HO)} {H : Hp} {ds : List PyData} {vs : List V} (h : DnAll K φ H ds vs) : vs = [] ↔ ds = [] := by
  cases h <;> simp
theorem sim_add {K : PySem.W.Frag} : Sim2 K (rAddD K) opAdd := by
  intro W σ H G S x y v w Q rp dx dy q
  unfold opAdd at q
  split at q
  · rename_i i j
    exact .inl ⟨i, j, den_int dx, den_int dy, q.ret rp (.int _)⟩
  · rename_i i j
    by_cases hc : i.length + j.length ≤ LIM
    · rw [if_pos hc] at q
      exact .inr (.inl ⟨i, j, den_str dx, den_str dy, Nat.le_trans hc LIM_le, q.ret rp (.str _)⟩)
    · rw [if_neg hc] at q; exact q.elim
  · rename_i i j
    by_cases hc : i.length + j.length ≤ LIM
    · rw [if_pos hc] at q
      obtain ⟨a, vs, rfl, fa, ta⟩ := den_lst dx
      obtain ⟨b, ws, rfl, fb, tb⟩ := den_lst dy
      exact .inr (.inr (.inl ⟨a, b, vs, ws, rfl, rfl, fa H rp.phi, fb H rp.phi, by rw [← ta.length, ← tb.length]; exact Nat.le_trans hc LIM_le, fun p hp => q.newLst rp (ta.append tb) hp⟩))
    · rw [if_neg hc] at q; exact q.elim
  · rename_i i j
    by_cases hc : i.length + j.length ≤ LIM
    · rw [if_pos hc] at q
      obtain ⟨a, vs, rfl, fa, ta⟩ := den_tup dx
      obtain ⟨b, ws, rfl, fb, tb⟩ := den_tup dy
      refine .inr (.inr (.inr ⟨a, b, vs, ws, rfl, rfl, fa, fb, by rw [← ta.length, ← tb.length]; exact Nat.le_trans hc LIM_le, fun e => ?_, fun _ e => ?_, fun _ _ p hp => q.newTup rp (ta.append tb) hp⟩))
      · have e' := ta.nil_iff.mp e
        rw [e', List.nil_append] at q
        exact q.ret rp dy
      · have e' := tb.nil_iff.mp e
        rw [e', List.append_nil] at q
        exact q.ret rp dx
    · rw [if_neg hc] at q; exact q.elim
  · exact q.elim
theorem de_add (ha : DE X W a f) (hb : DE X W b h) : DE X W (.BinOp a .Add b pos) (e2 opAdd f h) :=
  de_bin (op_add.or (op_add_str.or (op_cat.or op_catA))) sim_add ha hb
theorem de_mulI (ha : DE X W a f) (hb : DE X W b h) : DE X W (.BinOp a .Mult b pos) (e2 opMulI f h) := de_bin op_mul (sim_int fun i j q => by
  simp only [Bool.or_eq_true, Bool.and_eq_true, decide_eq_true_eq] at q; exact q) ha hb
end

def val (S : Sto) : D → Option PyData
  | .p x => some x
  | .ob i => match S[i]? with
    | some (.lst xs) => some (.list xs)
    | _ => none
  | _ => none
def opEq (neg : Bool) : D → D → M D := fun x y S => match val S x, val S y with
  | some a, some b => if SeqAt.shaped a && SeqAt.shaped b then .ok (.p (.bool (if neg then !PyData.eqv a b else PyData.eqv a b))) S else .bad
  | _, _ => .bad
mutual
theorem Dn.dp {K : PySem.W.Frag} {φ : List (Addr × HO)} {H : Hp} (ph : L2.Hp → Prop := fun _ => True) (hφ : Holds φ H) : ∀ {d : PyData} {v : V}, d.canLay0 = true → Dn K φ H d v → Dp K H v d
  | _, _, _, .non => .non
  | _, _, _, .bl b => .bl b
  | _, _, _, .int i => .int i
  | _, _, _, .str x => .str x
  | _, _, h, .lst f t => .lst (SqL.of (f H hφ)) (DnAll.dp ph hφ (by simpa only [PyData.canLay0] using h) t)
  | _, _, h, .tup f t => .tup f (DnAll.dp ph hφ (by simpa only [PyData.canLay0] using h) t)
  | _, _, h, .dic _ _ _ => by simp only [PyData.canLay0] at h; cases h
theorem DnAll.dp {K : PySem.W.Frag} {φ : List (Addr × HO)} {H : Hp} (ph : L2.Hp → Prop := fun _ => True) (hφ : Holds φ H) : ∀ {ds : List PyData} {vs : List V}, PyData.canLayAll0 ds = true → DnAll K φ H ds vs → DpAll K H vs ds
  | _, _, _, .nil => .nil
  | _, _, h, .cons a t => by
    simp only [PyData.canLayAll0, Bool.and_eq_true] at h
    exact .cons (Dn.dp ph hφ h.1 a) (DnAll.dp ph hφ h.2 t)
end
theorem val_dp {K : PySem.W.Frag} {H : Hp} {G : Gh} {S : Sto} (rp : Rep K H G S) {d : D} {v : V} {a : PyData} (e : val S d = some a) (hs : SeqAt.shaped a = true) (h : Den K H G d v) : Dp K H v a := by
  have hc := SeqAt.canLay_of_shaped hs
  cases d with
  | p x => cases e; exact Dn.dp (fun _ => True) rp.phi hc h
  | ob i =>
    simp only [val] at e
    split at e
    · rename_i xs ei
      cases e
      obtain ⟨ad, rfl, ha⟩ := h
      obtain ⟨vs, e1, t⟩ := rp.ok i ad _ ha ei
      exact .lst (SqL.of e1) (DnAll.dp (fun _ => True) rp.phi (by simpa only [PyData.canLay0] using hc) t)
    · cases e
  | ro _ => cases e
  | ext _ => cases e
section
variable {X : Cx} {W : WX} {a b : Expr} {f h : FE} {pos : Pos}
theorem sim_eq {K : PySem.W.Frag} : Sim2 K (rEqD K) (opEq false) := by
  intro W σ H G S x y v w Q rp dx dy q
  unfold opEq at q
  split at q
  · rename_i a b ea eb
    by_cases hc : (SeqAt.shaped a && SeqAt.shaped b) = true
    · rw [if_pos hc] at q
      rw [Bool.and_eq_true] at hc
      exact ⟨a, b, val_dp rp ea hc.1 dx, val_dp rp eb hc.2 dy, hc.1, hc.2, q.ret rp (.bl _)⟩
    · rw [if_neg hc] at q; exact q.elim
  · exact q.elim
theorem sim_ne {K : PySem.W.Frag} : Sim2 K (rNeD K) (opEq true) := by
  intro W σ H G S x y v w Q rp dx dy q
  unfold opEq at q
  split at q
  · rename_i a b ea eb
    by_cases hc : (SeqAt.shaped a && SeqAt.shaped b) = true
    · rw [if_pos hc] at q
      rw [Bool.and_eq_true] at hc
      exact ⟨a, b, val_dp rp ea hc.1 dx, val_dp rp eb hc.2 dy, hc.1, hc.2, q.ret rp (.bl _)⟩
    · rw [if_neg hc] at q; exact q.elim
  · exact q.elim
theorem de_eq (hu : X.A.units + 64 < cLine) (ha : DE X W a f) (hb : DE X W b h) : DE X W (.Compare a [.Eq] [b] pos) (e2 (opEq false) f h) := de_cmp (op_eqD hu) sim_eq ha hb (nomark _)
theorem de_ne (hu : X.A.units + 64 < cLine) (ha : DE X W a f) (hb : DE X W b h) : DE X W (.Compare a [.NotEq] [b] pos) (e2 (opEq true) f h) := de_cmp (op_neD hu) sim_ne ha hb (nomark _)
/-- is None, is not None -/
def opIsN (neg : Bool) : D → D → M D := fun x y S => match y with
  | .p .none => match x with
    | .p .none => .ok (.p (.bool (!neg))) S
    | .ext _ => .bad
    | _ => .ok (.p (.bool neg)) S
  | _ => .bad
theorem isN_of {K : PySem.W.Frag} {H : Hp} {G : Gh} {x : D} {v : V} (h : Den K H G x v) (hx : ∀ u, x ≠ .ext u) : decide (v = .non) = (match x with | .p .none => true | _ => false) := by
  cases x with
  | p d => cases h <;> rfl
  | ob i => obtain ⟨a, rfl, _⟩ := h; rfl
  | ro xs => obtain ⟨a, vs, rfl, _⟩ := h; rfl
  | ext u => exact absurd rfl (hx u)
theorem sim_isN {K : PySem.W.Frag} : Sim2 K (fun x y H Q => y = .non ∧ Q (.bl (decide (x = .non))) H) (opIsN false) := by
  intro W σ H G S x y v w Q rp dx dy q
  unfold opIsN at q
  split at q
  · refine ⟨den_none dy, ?_⟩
    split at q
    · rw [den_none dx]; exact q.ret rp (.bl _)
    · exact q.elim
    · rename_i h1 h2
      rw [isN_of dx fun u e => h2 u e]
      refine q.ret rp ?_
      split
      · exact absurd rfl h1
      · exact .bl _
  · exact q.elim
theorem sim_notN {K : PySem.W.Frag} : Sim2 K (fun x y H Q => y = .non ∧ Q (.bl (!decide (x = .non))) H) (opIsN true) := by
  intro W σ H G S x y v w Q rp dx dy q
  unfold opIsN at q
  split at q
  · refine ⟨den_none dy, ?_⟩
    split at q
    · rw [den_none dx]; exact q.ret rp (.bl _)
    · exact q.elim
    · rename_i h1 h2
      rw [isN_of dx fun u e => h2 u e]
      refine q.ret rp ?_
      split
      · exact absurd rfl h1
      · exact .bl _
  · exact q.elim
theorem de_isN (ha : DE X W a f) (hb : DE X W b h) : DE X W (.Compare a [.Is] [b] pos) (e2 (opIsN false) f h) := de_cmp op_isN sim_isN ha hb (nomark _)
theorem de_notN (ha : DE X W a f) (hb : DE X W b h) : DE X W (.Compare a [.IsNot] [b] pos) (e2 (opIsN true) f h) := de_cmp op_notN sim_notN ha hb (nomark _)
end
end DL

namespace DL
open PySem L2

def pyKey : PyData → Option Key
  | .int i => some (.inl i)
  | .str x => some (.inr x)
  | _ => none
theorem pyKey_keyPy (k : Key) : pyKey (keyPy k) = some k := by cases k <;> rfl
theorem keyPy_of {d : PyData} {k : Key} (h : pyKey d = some k) : d = keyPy k := by
  cases d <;> first | (cases h; rfl) | cases h
def unKv : List (PyData × PyData) → Option (List (Key × PyData))
  | [] => some []
  | (k, d) :: r => match pyKey k, unKv r with
    | some k', some r' => some ((k', d) :: r')
    | _, _ => none
@[simp] theorem unKv_pyKv : ∀ kvs : List (Key × PyData), unKv (pyKv kvs) = some kvs
  | [] => rfl
  | (k, d) :: r => by
    show unKv ((keyPy k, d) :: pyKv r) = _
    simp only [unKv, pyKey_keyPy, unKv_pyKv r]
theorem unKv_eq : ∀ {l : List (PyData × PyData)} {kvs : List (Key × PyData)}, unKv l = some kvs → l = pyKv kvs
  | [], kvs, h => by cases h; rfl
  | (k, d) :: r, kvs, h => by
    simp only [unKv] at h
    split at h
    · rename_i k' r' e1 e2
      cases h
      rw [unKv_eq e2, keyPy_of e1]; rfl
    · cases h
def valD (kvs : List (Key × PyData)) (k : Key) : Option PyData := (kvs.find? fun kv => decide (kv.1 = k)).map (·.2)
def putD (kvs : List (Key × PyData)) (k : Key) (d : PyData) : List (Key × PyData) :=
  if (kvs.any fun kv => decide (kv.1 = k)) = true then kvs.map (fun kv => if kv.1 = k then (kv.1, d) else kv) else kvs ++ [(k, d)]
section
variable {K : PySem.W.Frag} {φ : List (Addr × HO)} {H : Hp}
structure KvR (K : PySem.W.Frag) (φ : List (Addr × HO)) (H : Hp) (kvs : List (Key × PyData)) (ws : List (Key × V)) : Prop where
  ks : kvs.map (·.1) = ws.map (·.1)
  vs : DnAll K φ H (kvs.map (·.2)) (ws.map (·.2))
theorem KvR.nil : KvR K φ H [] [] := ⟨rfl, .nil⟩
theorem KvR.cons {k : Key} {d : PyData} {v : V} {kvs : List (Key × PyData)} {ws : List (Key × V)} (h : Dn K φ H d v) (t : KvR K φ H kvs ws) : KvR K φ H ((k, d) :: kvs) ((k, v) :: ws) := ⟨by simp [t.ks], .cons h t.vs⟩
theorem KvR.inv {p : Key × PyData} {kvs : List (Key × PyData)} {l : List (Key × V)} (r : KvR K φ H (p :: kvs) l) : ∃ v ws, l = (p.1, v) :: ws ∧ Dn K φ H p.2 v ∧ KvR K φ H kvs ws := by
  obtain ⟨e, t⟩ := r
  cases l with
  | nil => simp at e
  | cons q ws =>
    simp only [List.map_cons, List.cons.injEq] at e
    cases t with
    | cons h t => exact ⟨q.2, ws, by rw [e.1], h, ⟨e.2, t⟩⟩
theorem KvR.nil_inv {l : List (Key × V)} (r : KvR K φ H [] l) : l = [] := by
  have := r.ks
  simpa using this
theorem KvR.length {kvs : List (Key × PyData)} {ws : List (Key × V)} (r : KvR K φ H kvs ws) : kvs.length = ws.length := by
  have := congrArg List.length r.ks
  simpa using this
theorem KvR.val {k : Key} : ∀ {kvs : List (Key × PyData)} {ws : List (Key × V)}, KvR K φ H kvs ws → (∀ d, valD kvs k = some d → ∃ v, valV ws k = some v ∧ Dn K φ H d v) ∧ (valD kvs k = none → valV ws k = none)
  | [], _, r => by
    rw [r.nil_inv]
    exact ⟨fun d e => (by cases e), fun _ => rfl⟩
  | p :: kvs, _, r => by
    obtain ⟨v, ws, rfl, h, t⟩ := r.inv
    have ih := KvR.val (k := k) t
    by_cases e : p.1 = k
    · have e1 : valD (p :: kvs) k = some p.2 := by simp [valD, List.find?_cons, e]
      have e2 : valV ((p.1, v) :: ws) k = some v := by simp [valV, List.find?_cons, e]
      rw [e1, e2]
      exact ⟨fun d q => by cases q; exact ⟨v, rfl, h⟩, fun q => by cases q⟩
    · have e1 : valD (p :: kvs) k = valD kvs k := by simp [valD, List.find?_cons, e]
      have e2 : valV ((p.1, v) :: ws) k = valV ws k := by simp [valV, List.find?_cons, e]
      rw [e1, e2]; exact ih
theorem KvR.mapPut {k : Key} {d : PyData} {v : V} (h : Dn K φ H d v) : ∀ {kvs : List (Key × PyData)} {ws : List (Key × V)}, KvR K φ H kvs ws → KvR K φ H (kvs.map fun kv => if kv.1 = k then (kv.1, d) else kv) (ws.map fun kv => if kv.1 = k then (kv.1, v) else kv)
  | [], _, r => by rw [r.nil_inv]; exact .nil
  | p :: kvs, _, r => by
    obtain ⟨u, ws, rfl, hu, t⟩ := r.inv
    rw [List.map_cons, List.map_cons]
    by_cases e : p.1 = k
    · rw [if_pos e, if_pos e]; exact .cons h (KvR.mapPut h t)
    · rw [if_neg e, if_neg e]; exact .cons hu (KvR.mapPut h t)
theorem KvR.snoc {k : Key} {d : PyData} {v : V} (h : Dn K φ H d v) : ∀ {kvs : List (Key × PyData)} {ws : List (Key × V)}, KvR K φ H kvs ws → KvR K φ H (kvs ++ [(k, d)]) (ws ++ [(k, v)])
  | [], _, r => by rw [r.nil_inv]; exact .cons h .nil
  | p :: kvs, _, r => by
    obtain ⟨u, ws, rfl, hu, t⟩ := r.inv
    exact .cons hu (KvR.snoc h t)
theorem KvR.any {k : Key} : ∀ {kvs : List (Key × PyData)} {ws : List (Key × V)}, KvR K φ H kvs ws → (kvs.any fun kv => decide (kv.1 = k)) = (ws.any fun kv => decide (kv.1 = k))
  | [], _, r => by rw [r.nil_inv]; rfl
  | p :: kvs, _, r => by
    obtain ⟨u, ws, rfl, hu, t⟩ := r.inv
    rw [List.any_cons, List.any_cons, KvR.any t]
theorem KvR.put {k : Key} {d : PyData} {v : V} {kvs : List (Key × PyData)} {ws : List (Key × V)} (r : KvR K φ H kvs ws) (h : Dn K φ H d v) : KvR K φ H (putD kvs k d) (putK ws k v) := by
  unfold putD putK
  rw [r.any]
  split
  · exact r.mapPut h
  · exact r.snoc h
end

def dicOf (S : Sto) : D → Option (List (Key × PyData))
  | .p (.dict l) => unKv l
  | .ob i => match S[i]? with
    | some (.dic kvs) => some kvs
    | _ => none
  | _ => none
def lstOf (S : Sto) : D → Option (List PyData)
  | .p (.list l) => some l
  | .ob i => match S[i]? with
    | some (.lst l) => some l
    | _ => none
  | _ => none
/-- lists (also the script) and tuples -/
def seqOf (S : Sto) : D → Option (List PyData)
  | .p (.list l) => some l
  | .p (.tuple l) => some l
  | .ro l => some l
  | .ob i => match S[i]? with
    | some (.lst l) => some l
    | _ => none
  | _ => none
section
variable {K : PySem.W.Frag} {H : Hp} {G : Gh} {S : Sto}
theorem dicOf_den (rp : Rep K H G S) {d : D} {v : V} {kvs : List (Key × PyData)} (e : dicOf S d = some kvs) (h : Den K H G d v) : ∃ a ws, v = .ref a ∧ H a = some (.dK ws) ∧ KvR K G.φ H kvs ws := by
  cases d with
  | p x =>
    cases x with
    | dict l =>
      obtain ⟨a, ws, rfl, f, ek, t⟩ := den_dic h
      have el := unKv_eq (show unKv l = some kvs from e)
      subst el
      refine ⟨a, ws, rfl, f H rp.phi, ?_, by rw [pyKv_vals] at t; exact t⟩
      rw [pyKv_keys] at ek
      have q := congrArg (List.map pyKey) ek
      simp only [List.map_map, Function.comp_def, pyKey_keyPy] at q
      have q2 := congrArg (List.filterMap id) q
      simpa [List.filterMap_map, Function.comp_def] using q2
    | _ => cases e
  | ob i =>
    simp only [dicOf] at e
    split at e
    · rename_i ks ei
      cases e
      obtain ⟨a, rfl, ha⟩ := h
      obtain ⟨ws, e1, e2, t⟩ := rp.ok i a _ ha ei
      exact ⟨a, ws, rfl, e1, e2, t⟩
    · cases e
  | ro _ => cases e
  | ext _ => cases e
theorem lstOf_den (rp : Rep K H G S) {d : D} {v : V} {xs : List PyData} (e : lstOf S d = some xs) (h : Den K H G d v) : ∃ a vs, v = .ref a ∧ H a = some (.lst vs) ∧ DnAll K G.φ H xs vs := by
  cases d with
  | p x =>
    cases x with
    | list l =>
      cases e
      obtain ⟨a, vs, rfl, f, t⟩ := den_lst h
      exact ⟨a, vs, rfl, f H rp.phi, t⟩
    | _ => cases e
  | ob i =>
    simp only [lstOf] at e
    split at e
    · rename_i ks ei
      cases e
      obtain ⟨a, rfl, ha⟩ := h
      obtain ⟨vs, e1, t⟩ := rp.ok i a _ ha ei
      exact ⟨a, vs, rfl, e1, t⟩
    · cases e
  | ro _ => cases e
  | ext _ => cases e
theorem seqOf_den (rp : Rep K H G S) {d : D} {v : V} {xs : List PyData} (e : seqOf S d = some xs) (h : Den K H G d v) : ∃ a vs, v = .ref a ∧ (SqL K H a vs ∨ SqT K H a vs) ∧ DnAll K G.φ H xs vs := by
  cases d with
  | p x =>
    cases x with
    | list l =>
      cases e
      obtain ⟨a, vs, rfl, f, t⟩ := den_lst h
      exact ⟨a, vs, rfl, .inl (SqL.of (f H rp.phi)), t⟩
    | tuple l =>
      cases e
      obtain ⟨a, vs, rfl, f, t⟩ := den_tup h
      exact ⟨a, vs, rfl, .inr f, t⟩
    | _ => cases e
  | ob i =>
    simp only [seqOf] at e
    split at e
    · rename_i ks ei
      cases e
      obtain ⟨a, rfl, ha⟩ := h
      obtain ⟨vs, e1, t⟩ := rp.ok i a _ ha ei
      exact ⟨a, vs, rfl, .inl (SqL.of e1), t⟩
    · cases e
  | ro l =>
    cases e
    obtain ⟨a, vs, rfl, f, t⟩ := h
    exact ⟨a, vs, rfl, .inl (f H rp.phi), t⟩
  | ext _ => cases e
end

theorem atI_dn {K : PySem.W.Frag} {φ : List (Addr × HO)} {H : Hp} {xs : List PyData} {vs : List V} {i : Int} {d : PyData} (t : DnAll K φ H xs vs) (e : atI xs i = some d) : ∃ v, atI vs i = some v ∧ Dn K φ H d v := by
  unfold atI at e ⊢
  rw [← t.length]
  cases q : ixN xs.length i with
  | none => rw [q] at e; cases e
  | some j =>
    rw [q] at e
    exact t.get e
def opSubs : D → D → M D := fun x y S => match y with
  | .p (.int i) => match x with
    | .p (.str z) => if z.length ≤ LIM then (match atI z.cps.toList i with
      | some c => .ok (.p (.str ⟨#[c]⟩)) S
      | none => .bad) else .bad
    | x => match seqOf S x with
      | some xs => (match atI xs i with
        | some d => .ok (.p d) S
        | none => .bad)
      | none => match dicOf S x with
        | some kvs => (match valD kvs (.inl i) with
          | some d => .ok (.p d) S
          | none => .bad)
        | none => .bad
  | .p (.str k) => match dicOf S x with
    | some kvs => (match valD kvs (.inr k) with
      | some d => .ok (.p d) S
      | none => .bad)
    | none => .bad
  | _ => .bad
def rIxDic : R2 := fun x y H Q => ∃ a v, x = .ref a ∧ DGet H a y (some v) ∧ Q v H
section
variable {X : Cx} {W : WX} {a b : Expr} {f h : FE} {pos : Pos}
theorem ix_dic (hu : X.A.units + 1 < cLine) : IxR X rIxDic := by
  intro value slice pins s σ H x y v u Q I rx ry q hs
  obtain ⟨a, w, rfl, g, q⟩ := q
  cases rx
  exact PyProof.Rows.tail_any (dict_typeIs I g) PySem.F.slot_dict_getitem.lookup (d_getItem hu I g ry fun w' s3 I3 rw' => ⟨w, H, I3, rw', q⟩) hs
theorem sim_subs {K : PySem.W.Frag} : Sim2 K (fun x y H Q => rIx K x y H Q ∨ rIxDic x y H Q) opSubs := by
  intro W σ H G S x y v w Q rp dx dy q
  unfold opSubs at q
  split at q
  · rename_i i
    obtain rfl := den_int dy
    split at q
    · rename_i z
      obtain rfl := den_str dx
      by_cases hz : z.length ≤ LIM
      · rw [if_pos hz] at q
        split at q
        · rename_i c e
          exact .inl (.inr (.inr ⟨z, i, c, rfl, rfl, Nat.le_trans hz LIM_le, e, q.ret rp (.str _)⟩))
        · exact q.elim
      · rw [if_neg hz] at q; exact q.elim
    · split at q
      · rename_i xs es
        obtain ⟨a, vs, rfl, hq, t⟩ := seqOf_den rp es dx
        split at q
        · rename_i d e
          obtain ⟨v, e1, dv⟩ := atI_dn t e
          rcases hq with hq | hq
          · exact .inl (.inl ⟨a, vs, i, v, rfl, rfl, hq, e1, q.ret rp dv⟩)
          · exact .inl (.inr (.inl ⟨a, vs, i, v, rfl, rfl, hq, e1, q.ret rp dv⟩))
        · exact q.elim
      · split at q
        · rename_i kvs es
          obtain ⟨a, ws, rfl, hH, r⟩ := dicOf_den rp es dx
          split at q
          · rename_i d e
            obtain ⟨v, e1, dv⟩ := (r.val (k := .inl i)).1 d e
            refine .inr ⟨a, v, rfl, ?_, q.ret rp dv⟩
            rw [← e1]; exact DGet.k (k := Sum.inl i) hH
          · exact q.elim
        · exact q.elim
  · rename_i k
    obtain rfl := den_str dy
    split at q
    · rename_i kvs es
      obtain ⟨a, ws, rfl, hH, r⟩ := dicOf_den rp es dx
      split at q
      · rename_i d e
        obtain ⟨v, e1, dv⟩ := (r.val (k := .inr k)).1 d e
        refine .inr ⟨a, v, rfl, ?_, q.ret rp dv⟩
        rw [← e1]; exact DGet.k (k := Sum.inr k) hH
      · exact q.elim
    · exact q.elim
  · exact q.elim
theorem de_subs (hu : X.A.units + 1 < cLine) (ha : DE X W a f) (hb : DE X W b h) (hs : PlainIx b := by exact fun _ _ => rfl) : DE X W (.Subscript a b pos) (e2 opSubs f h) :=
  de_ix (ix_seq.or (ix_dic hu)) sim_subs ha hb hs

def flatP : PyData → Bool
  | .none => true
  | .bool _ => true
  | .int _ => true
  | .str _ => true
  | _ => false
def eqP : PyData → PyData → Bool
  | .none, .none => true
  | .bool a, .bool b => a == b
  | .bool a, .int b => (if a then 1 else 0) == b
  | .int a, .bool b => a == (if b then 1 else 0)
  | .int a, .int b => a == b
  | .str a, .str b => a == b
  | _, _ => false
def inP (x : PyData) (xs : List PyData) : Bool := xs.any fun y => eqP y x
theorem flat_dn {K : PySem.W.Frag} {φ : List (Addr × HO)} {H : Hp} {d : PyData} {v : V} (f : flatP d = true) (h : Dn K φ H d v) : flatV v = true := by
  cases h <;> first | rfl | cases f
theorem eq_dn {K : PySem.W.Frag} {φ : List (Addr × HO)} {H : Hp} {d e : PyData} {v w : V} (f : flatP d = true) (g : flatP e = true) (h : Dn K φ H d v) (k : Dn K φ H e w) : eqV v w = eqP d e := by
  cases h <;> first | exact absurd (show false = true from f) Bool.false_ne_true | (cases k <;> first | exact absurd (show false = true from g) Bool.false_ne_true | rfl)
theorem flat_all {K : PySem.W.Frag} {φ : List (Addr × HO)} {H : Hp} : ∀ {ds : List PyData} {vs : List V}, ds.all flatP = true → DnAll K φ H ds vs → vs.all flatV = true
  | _, _, _, .nil => rfl
  | _, _, f, .cons h t => by
    rw [List.all_cons, Bool.and_eq_true] at f ⊢
    exact ⟨flat_dn f.1 h, flat_all f.2 t⟩
theorem in_all {K : PySem.W.Frag} {φ : List (Addr × HO)} {H : Hp} {x : PyData} {v : V} (fx : flatP x = true) (hx : Dn K φ H x v) : ∀ {ds : List PyData} {vs : List V}, ds.all flatP = true → DnAll K φ H ds vs → inV v vs = inP x ds
  | _, _, _, .nil => rfl
  | _, _, f, .cons h t => by
    rw [List.all_cons, Bool.and_eq_true] at f
    show (eqV _ v || inV v _) = (eqP _ x || inP x _)
    rw [eq_dn f.1 fx h hx, in_all fx hx f.2 t]
/-- a text within a text -/
def inStr (i j : Str) : Bool := !(Builtin.Str.occurrences j i 0 j.length 1).isEmpty
def opIn (neg : Bool) : D → D → M D := fun x y S => match x with
  | .p a => match y, a with
    | .p (.str j), .str i => .ok (.p (.bool (if neg then !inStr i j else inStr i j))) S
    | y, a => match seqOf S y with
      | some xs => if flatP a && xs.all flatP then .ok (.p (.bool (if neg then !inP a xs else inP a xs))) S else .bad
      | none => match dicOf S y, pyKey a with
        | some kvs, some k => .ok (.p (.bool (if neg then !(valD kvs k).isSome else (valD kvs k).isSome))) S
        | _, _ => .bad
  | _ => .bad
def rInD (K : PySem.W.Frag) (neg : Bool) : R2 := fun x y H Q => (∃ i j, x = .str i ∧ y = .str j ∧ Q (.bl (if neg then !inStr i j else inStr i j)) H) ∨ rIn K neg x y H Q ∨ ∃ a ov, y = .ref a ∧ DGet H a x ov ∧ Q (.bl (if neg then !ov.isSome else ov.isSome)) H
theorem sim_in {K : PySem.W.Frag} (neg : Bool) : Sim2 K (rInD K neg) (opIn neg) := by
  intro W σ H G S x y v w Q rp dx dy q
  unfold opIn at q
  split at q
  · rename_i a
    split at q
    · rename_i j i
      obtain rfl := den_str dx
      obtain rfl := den_str dy
      exact .inl ⟨i, j, rfl, rfl, q.ret rp (.bl _)⟩
    · split at q
      · rename_i xs es
        by_cases hc : (flatP a && xs.all flatP) = true
        · rw [if_pos hc] at q
          rw [Bool.and_eq_true] at hc
          obtain ⟨b, vs, rfl, hq, t⟩ := seqOf_den rp es dy
          refine .inr (.inl ⟨b, vs, rfl, hq, flat_dn hc.1 dx, flat_all hc.2 t, ?_⟩)
          rw [in_all hc.1 dx hc.2 t]
          exact q.ret rp (.bl _)
        · rw [if_neg hc] at q; exact q.elim
      · split at q
        · rename_i kvs k es ek
          obtain ⟨b, ws, rfl, hH, r⟩ := dicOf_den rp es dy
          have ea := keyPy_of ek
          subst ea
          have ev : v = kV k := by
            cases k with
            | inl i => exact den_int dx
            | inr z => exact den_str dx
          subst ev
          have e1 : (valV ws k).isSome = (valD kvs k).isSome := by
            cases e : valD kvs k with
            | none => rw [(r.val (k := k)).2 e]; rfl
            | some d => obtain ⟨u, e1, _⟩ := (r.val (k := k)).1 d e; rw [e1]; rfl
          refine .inr (.inr ⟨b, valV ws k, rfl, DGet.k hH, ?_⟩)
          rw [e1]
          exact q.ret rp (.bl _)
        · exact q.elim
  · exact q.elim
theorem op_inD (hu : X.A.units + 1 < cLine) : OpR X (compareOp .In) (rInD X.K false) := by
  intro pins s σ H x y v u Q I rx ry q
  rcases q with q | q | ⟨a, ov, rfl, g, q⟩
  · exact op_in_str pins s σ H x y v u Q I rx ry q
  · exact op_in_seq pins s σ H x y v u Q I rx ry q
  · cases ry
    exact d_in hu I g rx fun s3 I3 => ⟨.bl ov.isSome, H, I3, rfl, q⟩
theorem op_notInD (hu : X.A.units + 1 < cLine) : OpR X (compareOp .NotIn) (rInD X.K true) := by
  intro pins s σ H x y v u Q I rx ry q
  rcases q with q | q | ⟨a, ov, rfl, g, q⟩
  · exact L2.op_notIn_str pins s σ H x y v u Q I rx ry q
  · exact op_notIn_seq pins s σ H x y v u Q I rx ry q
  · cases ry
    exact d_notIn hu I g rx fun s3 I3 => ⟨.bl (!ov.isSome), H, I3, rfl, q⟩
theorem de_in (hu : X.A.units + 1 < cLine) (ha : DE X W a f) (hb : DE X W b h) (hm : behindInMarks .In b = false := by rfl) : DE X W (.Compare a [.In] [b] pos) (e2 (opIn false) f h) := de_cmp (op_inD hu) (sim_in false) ha hb hm
theorem de_notIn (hu : X.A.units + 1 < cLine) (ha : DE X W a f) (hb : DE X W b h) (hm : behindInMarks .NotIn b = false := by rfl) : DE X W (.Compare a [.NotIn] [b] pos) (e2 (opIn true) f h) := de_cmp (op_notInD hu) (sim_in true) ha hb hm
end

def tru (S : Sto) : D → Option Bool
  | .p .none => some false
  | .p (.bool b) => some b
  | .p (.int i) => some (i != 0)
  | .p (.str x) => if x.length ≤ LIM then some ((x.length : Int) != 0) else none
  | .p (.list xs) => some (!xs.isEmpty)
  | .p (.tuple xs) => some (!xs.isEmpty)
  | .p (.dict l) => match unKv l with
    | some kvs => some (!kvs.isEmpty)
    | none => none
  | .ro xs => some (!xs.isEmpty)
  | .ob i => match S[i]? with
    | some (.lst l) => some (!l.isEmpty)
    | some (.dic l) => some (!l.isEmpty)
    | _ => none
  | .ext _ => none
theorem DnAll.isEmpty {K : PySem.W.Frag} {φ : List (Addr × HO)} {H : Hp} {ds : List PyData} {vs : List V} (h : DnAll K φ H ds vs) : vs.isEmpty = ds.isEmpty := by cases h <;> rfl
theorem KvR.isEmpty {K : PySem.W.Frag} {φ : List (Addr × HO)} {H : Hp} {ds : List (Key × PyData)} {vs : List (Key × V)} (h : KvR K φ H ds vs) : vs.isEmpty = ds.isEmpty := by
  have := h.length
  cases ds <;> cases vs <;> first | rfl | (simp at this)
theorem tru_den {K : PySem.W.Frag} {H : Hp} {G : Gh} {S : Sto} (rp : Rep K H G S) {d : D} {v : V} {b : Bool} (e : tru S d = some b) (h : Den K H G d v) : TruV K v H b := by
  cases d with
  | p x =>
    cases x with
    | none => cases e; rw [den_none h]; rfl
    | bool c => cases e; rw [den_bool h]; rfl
    | int i => cases e; rw [den_int h]; rfl
    | str z =>
      simp only [tru] at e
      by_cases hz : z.length ≤ LIM
      · rw [if_pos hz] at e; cases e; rw [den_str h]; exact ⟨Nat.le_trans hz LIM_le, rfl⟩
      · rw [if_neg hz] at e; cases e
    | list l =>
      cases e
      obtain ⟨a, vs, rfl, f, t⟩ := den_lst h
      exact .inl ⟨vs, SqL.of (f H rp.phi), by rw [t.isEmpty]⟩
    | tuple l =>
      cases e
      obtain ⟨a, vs, rfl, f, t⟩ := den_tup h
      exact .inr (.inl ⟨vs, f, by rw [t.isEmpty]⟩)
    | dict l =>
      simp only [tru] at e
      split at e
      · rename_i kvs ek
        cases e
        obtain ⟨a, ws, rfl, hH, r⟩ := dicOf_den rp (show dicOf S (.p (.dict l)) = some kvs from ek) h
        exact .inr (.inr ⟨ws, hH, by rw [r.isEmpty]⟩)
      · cases e
  | ro l =>
    cases e
    obtain ⟨a, vs, rfl, f, t⟩ := h
    exact .inl ⟨vs, f H rp.phi, by rw [t.isEmpty]⟩
  | ob i =>
    obtain ⟨a, rfl, ha⟩ := h
    simp only [tru] at e
    split at e
    · rename_i l ei
      cases e
      obtain ⟨vs, e1, t⟩ := rp.ok i a _ ha ei
      exact .inl ⟨vs, SqL.of e1, by rw [t.isEmpty]⟩
    · rename_i l ei
      cases e
      obtain ⟨ws, e1, e2, t⟩ := rp.ok i a _ ha ei
      exact .inr (.inr ⟨ws, e1, by rw [KvR.isEmpty ⟨e2, t⟩]⟩)
    · cases e
  | ext _ => cases e
def truM : D → M Bool := fun d S => match tru S d with
  | some b => .ok b S
  | none => .bad
def tVal (f : FE) : FT := fun ρ S => (f ρ S).bind truM
def tAndD (f g : FT) : FT := fun ρ S => (f ρ S).bind fun b S1 => if b = true then g ρ S1 else .ok false S1
def tOrD (f g : FT) : FT := fun ρ S => (f ρ S).bind fun b S1 => if b = true then .ok true S1 else g ρ S1
def tNotD (f : FT) : FT := fun ρ S => (f ρ S).bind fun b S1 => .ok (!b) S1
def eIf (t : FT) (f g : FE) : FE := fun ρ S => (t ρ S).bind fun b S1 => if b = true then f ρ S1 else g ρ S1
def eAnd (f g : FE) : FE := fun ρ S => (f ρ S).bind fun d S1 => (truM d S1).bind fun b S2 => if b = true then g ρ S2 else .ok d S2
def eOr (f g : FE) : FE := fun ρ S => (f ρ S).bind fun d S1 => (truM d S1).bind fun b S2 => if b = true then .ok d S2 else g ρ S2
def eNot (f : FE) : FE := fun ρ S => (f ρ S).bind fun d S1 => (truM d S1).bind fun b S2 => .ok (.p (.bool (!b))) S2
section
variable {X : Cx} {W : WX} {a b c : Expr} {rest : List Expr} {f g : FE} {t u : FT} {pos : Pos}
theorem dt_val (ha : DE X W a f) (he : ∀ whole, isTrue a X.env whole = (do let v ← whole; standAt a.pos; holding [v] (truthy v)) := by intro _; rfl) : DT X W a (tVal f) := by
  refine ⟨PT.imp (pt_truth ha.run he) fun σ H Q ⟨G, S, ρ, rs, rp, q⟩ => ?_⟩
  refine ⟨G, S, ρ, rs, rp, (Aft.bind q).mono fun d H1 G1 S1 x1 r1 q1 v dv => ?_⟩
  unfold truM at q1
  split at q1
  · rename_i b e
    exact ⟨b, tru_den r1 e dv, q1 H1 G1 Ext.refl r1⟩
  · exact q1.elim
/-- a comparison as a test -/
theorem dt_cmp {op : CmpOp} {r : R2} {g2 : D → D → M D} (o : OpR X (compareOp op) r) (m : Sim2 X.K r g2) (ha : DE X W a f) (hb : DE X W b g) (hm : behindInMarks op b = false) : DT X W (.Compare a [op] [b] pos) (fun ρ S => (e2 g2 f g ρ S).bind fun d S1 => match d with | .p (.bool c) => .ok c S1 | _ => .bad) := by
  refine ⟨PT.imp (pt_cmpR o ha.run hb.run hm) fun σ H Q ⟨G, S, ρ, rs, rp, q⟩ => ?_⟩
  refine sim_op m ⟨G, S, ρ, rs, rp, (Aft.bind q).mono fun d H1 G1 S1 x1 r1 q1 v dv => ?_⟩
  split at q1
  · rename_i c
    exact ⟨c, den_bool dv, q1 H1 G1 Ext.refl r1⟩
  · exact q1.elim
theorem dt_and1 (ha : DT X W a t) : PW X (.BoolOp .And [a] pos) (rdT X.K W t) := pw_and1 ha.run
theorem dt_or1 (ha : DT X W a t) : PW X (.BoolOp .Or [a] pos) (rdT X.K W t) := pw_or1 ha.run
theorem PW.imp {e : Expr} {t t' : TT} (h : PW X e t) (i : ∀ σ H Q, t' σ H Q → t σ H Q) : PW X e t' := ⟨fun wh pins s σ H Q I q => h.run wh pins s σ H Q I (i σ H Q q)⟩
theorem dw_and (ha : DT X W a t) (hb : PW X (.BoolOp .And (b :: rest) pos) (rdT X.K W u)) : PW X (.BoolOp .And (a :: b :: rest) pos) (rdT X.K W (tAndD t u)) := by
  refine PW.imp (pw_and ha.run hb) fun σ H Q ⟨G, S, ρ, rs, rp, q⟩ => ?_
  refine ⟨G, S, ρ, rs, rp, (Aft.bind q).mono fun c H1 G1 S1 x1 r1 q1 => ?_⟩
  cases c with
  | true => exact ⟨G1, S1, ρ, x1.relS rp rs, r1, q1⟩
  | false => exact q1 H1 G1 Ext.refl r1
theorem dw_or (ha : DT X W a t) (hb : PW X (.BoolOp .Or (b :: rest) pos) (rdT X.K W u)) : PW X (.BoolOp .Or (a :: b :: rest) pos) (rdT X.K W (tOrD t u)) := by
  refine PW.imp (pw_or ha.run hb) fun σ H Q ⟨G, S, ρ, rs, rp, q⟩ => ?_
  refine ⟨G, S, ρ, rs, rp, (Aft.bind q).mono fun c H1 G1 S1 x1 r1 q1 => ?_⟩
  cases c with
  | false => exact ⟨G1, S1, ρ, x1.relS rp rs, r1, q1⟩
  | true => exact q1 H1 G1 Ext.refl r1
theorem dt_bool (h : PW X a (rdT X.K W t)) : DT X W a t := ⟨h.pt⟩
theorem dt_not (ha : DT X W a t) : DT X W (.UnaryOp .Not a pos) (tNotD t) := by
  refine ⟨PT.imp (pt_not ha.run) fun σ H Q ⟨G, S, ρ, rs, rp, q⟩ => ?_⟩
  exact ⟨G, S, ρ, rs, rp, (Aft.bind q).mono fun c H1 G1 S1 x1 r1 q1 => q1 H1 G1 Ext.refl r1⟩
theorem de_if (hc : DT X W c t) (ha : DE X W a f) (hb : DE X W b g) : DE X W (.IfExp c a b pos) (eIf t f g) := by
  refine ⟨PE.imp (pe_ifExp hc.run ha.run hb.run) fun σ H Q ⟨G, S, ρ, rs, rp, q⟩ => ?_⟩
  refine ⟨G, S, ρ, rs, rp, (Aft.bind q).mono fun c H1 G1 S1 x1 r1 q1 => ?_⟩
  cases c with
  | true => exact ⟨G1, S1, ρ, x1.relS rp rs, r1, q1⟩
  | false => exact ⟨G1, S1, ρ, x1.relS rp rs, r1, q1⟩
theorem de_one {op} (h : DE X W a f) : DE X W (.BoolOp op [a] pos) f := ⟨pe_one h.run⟩
theorem de_and (ha : DE X W a f) (hb : DE X W (.BoolOp .And (b :: rest) pos) g) : DE X W (.BoolOp .And (a :: b :: rest) pos) (eAnd f g) := by
  refine ⟨PE.imp (pe_andT ha.run hb.run) fun σ H Q ⟨G, S, ρ, rs, rp, q⟩ => ?_⟩
  refine ⟨G, S, ρ, rs, rp, (Aft.bind q).mono fun d H1 G1 S1 x1 r1 q1 v dv => ?_⟩
  unfold truM at q1
  split at q1
  · rename_i b e
    refine ⟨b, tru_den r1 e dv, ?_⟩
    cases b with
    | true => exact ⟨G1, S1, ρ, x1.relS rp rs, r1, q1⟩
    | false => exact Aft.ret q1 r1 dv
  · exact q1.elim
theorem de_or (ha : DE X W a f) (hb : DE X W (.BoolOp .Or (b :: rest) pos) g) : DE X W (.BoolOp .Or (a :: b :: rest) pos) (eOr f g) := by
  refine ⟨PE.imp (pe_orT ha.run hb.run) fun σ H Q ⟨G, S, ρ, rs, rp, q⟩ => ?_⟩
  refine ⟨G, S, ρ, rs, rp, (Aft.bind q).mono fun d H1 G1 S1 x1 r1 q1 v dv => ?_⟩
  unfold truM at q1
  split at q1
  · rename_i b e
    refine ⟨b, tru_den r1 e dv, ?_⟩
    cases b with
    | false => exact ⟨G1, S1, ρ, x1.relS rp rs, r1, q1⟩
    | true => exact Aft.ret q1 r1 dv
  · exact q1.elim
theorem de_not (ha : DE X W a f) : DE X W (.UnaryOp .Not a pos) (eNot f) := by
  refine ⟨PE.imp (pe_notT ha.run) fun σ H Q ⟨G, S, ρ, rs, rp, q⟩ => ?_⟩
  refine ⟨G, S, ρ, rs, rp, (Aft.bind q).mono fun d H1 G1 S1 x1 r1 q1 v dv => ?_⟩
  unfold truM at q1
  split at q1
  · rename_i b e
    exact ⟨b, tru_den r1 e dv, Aft.ret q1 r1 (.bl _)⟩
  · exact q1.elim
/-- the test of a comparison, by the comparison's data -/
def tC2 (g2 : D → D → M D) (f g : FE) : FT := fun ρ S => (e2 g2 f g ρ S).bind fun d S1 => match d with | .p (.bool c) => .ok c S1 | _ => .bad
theorem dt_eq (hu : X.A.units + 64 < cLine) (ha : DE X W a f) (hb : DE X W b g) : DT X W (.Compare a [.Eq] [b] pos) (tC2 (opEq false) f g) := dt_cmp (op_eqD hu) sim_eq ha hb (nomark _)
theorem dt_ne (hu : X.A.units + 64 < cLine) (ha : DE X W a f) (hb : DE X W b g) : DT X W (.Compare a [.NotEq] [b] pos) (tC2 (opEq true) f g) := dt_cmp (op_neD hu) sim_ne ha hb (nomark _)
theorem dt_lt (ha : DE X W a f) (hb : DE X W b g) : DT X W (.Compare a [.Lt] [b] pos) (tC2 opLt f g) := dt_cmp op_lt sim_cmp ha hb (nomark _)
theorem dt_le (ha : DE X W a f) (hb : DE X W b g) : DT X W (.Compare a [.LtE] [b] pos) (tC2 opLe f g) := dt_cmp op_le sim_cmp ha hb (nomark _)
theorem dt_gt (ha : DE X W a f) (hb : DE X W b g) : DT X W (.Compare a [.Gt] [b] pos) (tC2 opGt f g) := dt_cmp op_gt sim_cmp ha hb (nomark _)
theorem dt_ge (ha : DE X W a f) (hb : DE X W b g) : DT X W (.Compare a [.GtE] [b] pos) (tC2 opGe f g) := dt_cmp op_ge sim_cmp ha hb (nomark _)
theorem dt_isN (ha : DE X W a f) (hb : DE X W b g) : DT X W (.Compare a [.Is] [b] pos) (tC2 (opIsN false) f g) := dt_cmp op_isN sim_isN ha hb (nomark _)
theorem dt_notN (ha : DE X W a f) (hb : DE X W b g) : DT X W (.Compare a [.IsNot] [b] pos) (tC2 (opIsN true) f g) := dt_cmp op_notN sim_notN ha hb (nomark _)
theorem dt_in (hu : X.A.units + 1 < cLine) (ha : DE X W a f) (hb : DE X W b g) (hm : behindInMarks .In b = false := by rfl) : DT X W (.Compare a [.In] [b] pos) (tC2 (opIn false) f g) := dt_cmp (op_inD hu) (sim_in false) ha hb hm
theorem dt_notIn (hu : X.A.units + 1 < cLine) (ha : DE X W a f) (hb : DE X W b g) (hm : behindInMarks .NotIn b = false := by rfl) : DT X W (.Compare a [.NotIn] [b] pos) (tC2 (opIn true) f g) := dt_cmp (op_notInD hu) (sim_in true) ha hb hm
end
end DL

namespace DL
open PySem L2

def Out.st {α : Type} (o : Out α) (ρ : Ev) (k : α → Sto → Option (Fl × Sto)) : Option (Fl × Sto) :=
  match o with
  | .ok a s => k a s
  | .err x s => some (.exc x ρ, s)
  | .bad => none
@[simp] theorem Out.st_ok {α : Type} (a : α) (s : Sto) (ρ : Ev) (k : α → Sto → Option (Fl × Sto)) : (Out.ok a s).st ρ k = k a s := rfl
@[simp] theorem Out.st_err {α : Type} (x : Exn) (s : Sto) (ρ : Ev) (k : α → Sto → Option (Fl × Sto)) : (Out.err x s : Out α).st ρ k = some (.exc x ρ, s) := rfl
@[simp] theorem Out.st_bad {α : Type} (ρ : Ev) (k : α → Sto → Option (Fl × Sto)) : (Out.bad : Out α).st ρ k = none := rfl
section
variable {K : PySem.W.Frag} {W : WX} {E : Ends} {H : Hp} {G : Gh} {S : Sto} {σ : St} {ρ : Ev}
theorem AftS.st {α : Type} {o : Out α} {k : α → Sto → Option (Fl × Sto)} (h : AftS K W E H G S (o.st ρ k)) (rs : RelS K H G ρ σ) (rp : Rep K H G S) : Aft K W σ H G S o fun a H1 G1 S1 => AftS K W E H1 G1 S1 (k a S1) := by
  cases o with
  | ok a S1 => exact fun H1 G1 x1 _ => AftS.ext (show AftS K W E H G S (k a S1) from h) x1
  | err x S1 => exact fun H1 G1 d x1 r1 e => h H1 G1 σ d x1 r1 (x1.relS rp rs) e
  | bad => exact h
theorem AftS.next {ρ' : Ev} {S' : Sto} (h : AftS K W E H G S (some (.next ρ', S'))) {H' : Hp} {G' : Gh} {σ' : St} (x : Ext H G S H' G' S') (r : Rep K H' G' S') (s : RelS K H' G' ρ' σ') : E.nx σ' H' := h H' G' σ' x r s
end

def sNext : FS := fun ρ S => some (.next ρ, S)
def sSeq (f g : FS) : FS := fun ρ S => match f ρ S with
  | some (.next ρ', S') => g ρ' S'
  | o => o
def sExpr (f : FE) : FS := fun ρ S => (f ρ S).st ρ fun _ S1 => some (.next ρ, S1)
def sRet (f : FE) : FS := fun ρ S => (f ρ S).st ρ fun d S1 => some (.ret d, S1)
def sSet (i : Nat) (f : FE) : FS := fun ρ S => (f ρ S).st ρ fun d S1 => some (.next (ρ.set i (some d)), S1)
def sIf (t : FT) (f g : FS) : FS := fun ρ S => (t ρ S).st ρ fun b S1 => if b = true then f ρ S1 else g ρ S1
section
variable {X : Cx} {W : WX} {e c : Expr} {st : Stmt} {sts as bs : List Stmt} {f : FE} {g h : FS} {t : FT} {pos : Pos}
theorem dss_nil : DSs X W [] sNext := ⟨PSs.imp pss_nil fun E σ H ⟨G, S, ρ, rs, rp, q⟩ => AftS.next q Ext.refl rp rs⟩
theorem AftS.seq {K : PySem.W.Frag} {E : Ends} {H : Hp} {G : Gh} {S : Sto} {ρ : Ev} (q : AftS K W E H G S (sSeq g h ρ S)) (rp : Rep K H G S) : AftS K W { E with nx := rdS K W h E } H G S (g ρ S) := by
  unfold sSeq at q
  cases eo : g ρ S with
  | none => rw [eo] at q; exact q
  | some p =>
    obtain ⟨fl, S1⟩ := p
    rw [eo] at q
    cases fl with
    | next ρ1 => exact fun H1 G1 σ1 x1 r1 s1 => ⟨G1, S1, ρ1, s1, r1, AftS.ext q x1⟩
    | ret d => exact q
    | brk ρ1 => exact q
    | cont ρ1 => exact q
    | exc x ρ1 => exact q
theorem dss_cons (h1 : DS X W st g) (h2 : DSs X W sts h) : DSs X W (st :: sts) (sSeq g h) :=
  ⟨PSs.imp (pss_cons h1.run h2.run) fun E σ H ⟨G, S, ρ, rs, rp, q⟩ => ⟨G, S, ρ, rs, rp, AftS.seq q rp⟩⟩
theorem dss_one (h1 : DS X W st g) : DSs X W [st] g := ⟨pss_one h1.run⟩
theorem ds_expr (he : DE X W e f) (hs : swapsWith e none pos.line X.env = pure false := by rfl) : DS X W (.Expr e pos) (sExpr f) :=
  ⟨PS.imp (ps_expr he.run hs) fun E σ H ⟨G, S, ρ, rs, rp, q⟩ => ⟨G, S, ρ, rs, rp, (AftS.st q rs rp).mono fun d H1 G1 S1 x1 r1 q1 v dv => AftS.next q1 Ext.refl r1 (x1.relS rp rs)⟩⟩
theorem ds_ret (he : DE X W e f) : DS X W (.Return (some e) pos) (sRet f) :=
  ⟨PS.imp (ps_ret he.run) fun E σ H ⟨G, S, ρ, rs, rp, q⟩ => ⟨G, S, ρ, rs, rp, (AftS.st q rs rp).mono fun d H1 G1 S1 x1 r1 q1 v dv => q1 H1 G1 v Ext.refl r1 dv⟩⟩
theorem ds_retN : DS X W (.Return none pos) (sRet (eC (.p .none))) :=
  ⟨PS.imp ps_retN fun E σ H ⟨G, S, ρ, rs, rp, q⟩ => q H G _ Ext.refl rp .non⟩
theorem ds_set {i : Nat} {x : Str} {pos' : Pos} (hN : X.N.Nodup) (hi : X.N[i]? = some x) (hx : Loc X.env.scope x) (he : DE X W e f) (hs : swapsWith e (some (.Name x pos')) pos.line X.env = pure false := by rfl)
    (hf : X.fn x = true ∨ X.env.scope.names.lookup x = some .local := by first | exact .inl rfl | exact .inr rfl | assumption) : DS X W (.Assign [.Name x pos'] e pos) (sSet i f) :=
  ⟨PS.imp (ps_set hN hi hx he.run hs hf) fun E σ H ⟨G, S, ρ, rs, rp, q⟩ => ⟨G, S, ρ, rs, rp, (AftS.st q rs rp).mono fun d H1 G1 S1 x1 r1 q1 v dv => AftS.next q1 Ext.refl r1 ((x1.relS rp rs).set dv i)⟩⟩
theorem ds_if (hc : DT X W c t) (ha : DSs X W as g) (hb : DSs X W bs h) : DS X W (.If c as bs pos) (sIf t g h) := by
  refine ⟨PS.imp (ps_if hc.run ha.run hb.run) fun E σ H ⟨G, S, ρ, rs, rp, q⟩ => ⟨G, S, ρ, rs, rp, (AftS.st q rs rp).mono fun b H1 G1 S1 x1 r1 q1 => ?_⟩⟩
  cases b with
  | true => exact ⟨G1, S1, ρ, x1.relS rp rs, r1, q1⟩
  | false => exact ⟨G1, S1, ρ, x1.relS rp rs, r1, q1⟩
theorem ds_never : DS X W st (fun _ _ => none) := ⟨PS.imp ps_never fun E σ H ⟨G, S, ρ, rs, rp, q⟩ => q.elim⟩
theorem ds_pass : DS X W (.Pass pos) sNext := ⟨PS.imp ps_pass fun E σ H ⟨G, S, ρ, rs, rp, q⟩ => AftS.next q Ext.refl rp rs⟩
theorem ds_cont : DS X W (.Continue pos) (fun ρ S => some (.cont ρ, S)) := ⟨PS.imp ps_continue fun E σ H ⟨G, S, ρ, rs, rp, q⟩ => q H G σ Ext.refl rp rs⟩
theorem ds_brk : DS X W (.Break pos) (fun ρ S => some (.brk ρ, S)) := ⟨PS.imp ps_break fun E σ H ⟨G, S, ρ, rs, rp, q⟩ => q H G σ Ext.refl rp rs⟩

def iceD (d : D) (S : Sto) : D × Sto := match d with
  | .ob j => match S[j]? with
    | some (.lst xs) => (.p (.list xs), S.set j .dead)
    | some (.dic kvs) => (.p (.dict (pyKv kvs)), S.set j .dead)
    | _ => (d, S)
  | _ => (d, S)
theorem ice_den {K : PySem.W.Frag} {H : Hp} {G : Gh} {S : Sto} {d : D} {v : V} (rp : Rep K H G S) (dv : Den K H G d v) : ∃ G', Ext H G S H G' (iceD d S).2 ∧ Rep K H G' (iceD d S).2 ∧ Den K H G' (iceD d S).1 v := by
  unfold iceD
  cases d with
  | p x => exact ⟨G, Ext.refl, rp, dv⟩
  | ro x => exact ⟨G, Ext.refl, rp, dv⟩
  | ext x => exact ⟨G, Ext.refl, rp, dv⟩
  | ob j =>
    obtain ⟨a, rfl, ha⟩ := id dv
    cases e : S[j]? with
    | none => simp only [e]; exact ⟨G, Ext.refl, rp, dv⟩
    | some m =>
      cases m with
      | dead => simp only [e]; exact ⟨G, Ext.refl, rp, dv⟩
      | lst xs =>
        simp only [e]
        obtain ⟨vs, e1, t⟩ := rp.ok j a _ ha e
        exact ⟨⟨G.ι, (a, .lst vs) :: G.φ⟩, Ext.ice ha e (fun z => nomatch z), rp.ice ha e (fun z => nomatch z) e1, Dn.lst (fun _ q => q _ List.mem_cons_self) (t.mono (fun _ h => List.mem_cons_of_mem _ h) fun _ _ h => h)⟩
      | dic kvs =>
        simp only [e]
        obtain ⟨ws, e1, e2, t⟩ := rp.ok j a _ ha e
        exact ⟨⟨G.ι, (a, .dK ws) :: G.φ⟩, Ext.ice ha e (fun z => nomatch z), rp.ice ha e (fun z => nomatch z) e1, Dn.dicOf (fun _ q => q _ List.mem_cons_self) e2 (t.mono (fun _ h => List.mem_cons_of_mem _ h) fun _ _ h => h)⟩
def sIce (i : Nat) (f : FS) : FS := fun ρ S => match ρ[i]? with
  | some (some d) => f (ρ.set i (some (iceD d S).1)) (iceD d S).2
  | _ => none
theorem RelS.set' {K : PySem.W.Frag} {H : Hp} {G : Gh} {d : D} : ∀ {ρ : Ev} {σ : St} (i : Nat) {v : V}, σ[i]? = some (some v) → Den K H G d v → RelS K H G ρ σ → RelS K H G (ρ.set i (some d)) σ
  | _, _, _, _, e, _, .nil => .nil
  | _, _, 0, _, e, h, .cons _ t => .cons (by simp at e; subst e; exact h) t
  | _, _, i + 1, _, e, h, .cons r t => .cons r (RelS.set' i (by simpa using e) h t)
theorem dss_ice (i : Nat) (h1 : DSs X W sts g) : DSs X W sts (sIce i g) := by
  refine ⟨PSs.imp h1.run fun E σ H ⟨G, S, ρ, rs, rp, q⟩ => ?_⟩
  unfold sIce at q
  split at q
  · rename_i d e
    obtain ⟨v, h1, h2⟩ := rs.get e
    obtain ⟨G', x, r, dv⟩ := ice_den rp h2
    exact ⟨G', _, _, (x.relS rp rs).set' i h1 dv, r, AftS.ext q x⟩
  · exact q.elim
/-- an expression's value frozen -/
def eIce (f : FE) : FE := fun ρ S => (f ρ S).bind fun d S1 => .ok (iceD d S1).1 (iceD d S1).2
theorem de_ice (he : DE X W e f) : DE X W e (eIce f) := by
  refine ⟨PE.imp he.run fun σ H Q ⟨G, S, ρ, rs, rp, q⟩ => ⟨G, S, ρ, rs, rp, (Aft.bind q).mono fun d H1 G1 S1 x1 r1 q1 v dv => ?_⟩⟩
  obtain ⟨G', x, r, dv'⟩ := ice_den r1 dv
  exact q1 H1 G' x r v dv'
end

abbrev FG := D → Ev → Sto → Option (Ev × Sto)
abbrev FGs := List D → Ev → Sto → Option (Ev × Sto)
def AftG (K : PySem.W.Frag) (H : Hp) (G : Gh) (S : Sto) (o : Option (Ev × Sto)) (P : Ev → Hp → Gh → Sto → Prop) : Prop :=
  match o with
  | none => False
  | some (ρ', S') => ∀ H' G', Ext H G S H' G' S' → Rep K H' G' S' → P ρ' H' G' S'
def rdG (K : PySem.W.Frag) (vs : List Nat) (g : FG) : TG := fun v σ H Q => ∃ G S ρ d, RelS K H G ρ σ ∧ Rep K H G S ∧ Den K H G d v ∧ AftG K H G S (g d ρ S) fun ρ' H' G' _ => ∀ σ', RelS K H' G' ρ' σ' → wipe σ' vs = wipe σ vs → Q σ' H'
def rdGs (K : PySem.W.Frag) (vs : List Nat) (g : FGs) : TGs := fun us σ H Q => ∃ G S ρ ds, RelS K H G ρ σ ∧ Rep K H G S ∧ DenL K H G ds us ∧ AftG K H G S (g ds ρ S) fun ρ' H' G' _ => ∀ σ', RelS K H' G' ρ' σ' → wipe σ' vs = wipe σ vs → Q σ' H'
/-- the target stores in the places vs alone -/
structure DG (X : Cx) (vs : List Nat) (tg : Expr) (g : FG) : Prop where
  run : PG X tg (rdG X.K vs g)
structure DGs (X : Cx) (vs : List Nat) (tgs : List Expr) (g : FGs) : Prop where
  run : PGs X tgs (rdGs X.K vs g)
theorem PG.imp {X : Cx} {tg : Expr} {t t' : TG} (h : PG X tg t) (i : ∀ v σ H Q, t' v σ H Q → t v σ H Q) : PG X tg t' := ⟨fun pins s σ H v u Q I r q => h.run pins s σ H v u Q I r (i v σ H Q q)⟩
theorem PGs.imp {X : Cx} {tg : List Expr} {t t' : TGs} (h : PGs X tg t) (i : ∀ v σ H Q, t' v σ H Q → t v σ H Q) : PGs X tg t' := ⟨fun pins s σ H v u Q I r q => h.run pins s σ H v u Q I r (i v σ H Q q)⟩
theorem wipe_set (σ : St) (i : Nat) (x : Option V) : ∀ vs : List Nat, i ∈ vs → wipe (σ.set i x) vs = wipe σ vs
  | [], h => by cases h
  | v :: vs, h => by
    show (wipe (σ.set i x) vs).set v none = (wipe σ vs).set v none
    by_cases hv : i ∈ vs
    · rw [wipe_set σ i x vs hv]
    · have e : i = v := by rcases List.mem_cons.mp h with e | e; exact e; exact absurd e hv
      subst e
      have : ∀ (l : List Nat), i ∉ l → wipe (σ.set i x) l = (wipe σ l).set i x := by
        intro l
        induction l with
        | nil => intro _; rfl
        | cons a l ih =>
          intro hl
          show (wipe (σ.set i x) l).set a none = ((wipe σ l).set a none).set i x
          rw [ih (fun z => hl (List.mem_cons_of_mem _ z)), List.set_comm _ _ (fun z => hl (by rw [z]; exact List.mem_cons_self))]
      rw [this vs hv, List.set_set]
theorem wipe_wipe (σ : St) (vs : List Nat) : wipe (wipe σ vs) vs = wipe σ vs := by
  have : ∀ (l vs : List Nat), (∀ a ∈ l, a ∈ vs) → wipe (wipe σ l) vs = wipe σ vs := by
    intro l
    induction l with
    | nil => intro vs _; rfl
    | cons a l ih =>
      intro vs h
      show wipe ((wipe σ l).set a none) vs = wipe σ vs
      rw [wipe_set _ a none vs (h a List.mem_cons_self)]
      exact ih vs fun b hb => h b (List.mem_cons_of_mem _ hb)
  exact this vs vs fun _ h => h
def gN (i : Nat) : FG := fun d ρ S => some (ρ.set i (some d), S)
def gNils : FGs := fun ds ρ S => match ds with
  | [] => some (ρ, S)
  | _ => none
def gConss (g : FG) (h : FGs) : FGs := fun ds ρ S => match ds with
  | d :: r => match g d ρ S with
    | some (ρ1, S1) => h r ρ1 S1
    | none => none
  | [] => none
/-- a tuple (list) of n things is taken apart -/
def gTupD (n : Nat) (h : FGs) : FG := fun d ρ S => match d with
  | .p (.tuple xs) => if xs.length = n then h (xs.map .p) ρ S else none
  | _ => none
def gLstD (n : Nat) (h : FGs) : FG := fun d ρ S => match lstOf S d with
  | some xs => if xs.length = n then h (xs.map .p) ρ S else none
  | none => none
theorem DnAll.denL {K : PySem.W.Frag} {G : Gh} {H : Hp} : ∀ {ds : List PyData} {vs : List V}, DnAll K G.φ H ds vs → DenL K H G (ds.map .p) vs
  | _, _, .nil => .nil
  | _, _, .cons h t => .cons h t.denL
theorem AftG.ext {K : PySem.W.Frag} {H H1 : Hp} {G G1 : Gh} {S S1 : Sto} {o : Option (Ev × Sto)} {P : Ev → Hp → Gh → Sto → Prop} (h : AftG K H G S o P) (x : Ext H G S H1 G1 S1) : AftG K H1 G1 S1 o P := by
  match o with
  | none => exact h
  | some (ρ', S') => exact fun H' G' x' => h H' G' (x.trans x')
theorem AftG.mono {K : PySem.W.Frag} {H : Hp} {G : Gh} {S : Sto} {o : Option (Ev × Sto)} {P P' : Ev → Hp → Gh → Sto → Prop} (h : AftG K H G S o P) (f : ∀ ρ' H' G' S', Ext H G S H' G' S' → Rep K H' G' S' → P ρ' H' G' S' → P' ρ' H' G' S') : AftG K H G S o P' := by
  match o with
  | none => exact h
  | some (ρ', S') => exact fun H' G' x' r => f ρ' H' G' S' x' r (h H' G' x' r)
/-- o[i] = v of a list, of a dict -/
def setD : D → D → D → Sto → Option Sto := fun o i v S => match o, v with
  | .ob j, .p d => match S[j]?, i with
    | some (.lst xs), .p (.int k) => match ixN xs.length k with
      | some n => some (S.set j (.lst (xs.set n d)))
      | none => none
    | some (.dic kvs), .p k => match pyKey k with
      | some k' => if kvs.length < LIM then some (S.set j (.dic (putD kvs k' d))) else none
      | none => none
    | _, _ => none
  | _, _ => none
def gSubD (f h : FE) : FG := fun d ρ S => match f ρ S with
  | .ok o S1 => match h ρ S1 with
    | .ok i S2 => match setD o i d S2 with
      | some S3 => some (ρ, S3)
      | none => none
    | _ => none
  | _ => none
def rSetD : V → V → V → Hp → (Hp → Prop) → Prop := fun o i v H Q => rSetL o i v H Q ∨ ∃ a H', o = .ref a ∧ DPut H a i v H' ∧ Q H'
section
variable {X : Cx} {W : WX} {e : Expr} {es : List Expr} {f : FE} {g : FG} {h : FGs} {pos : Pos} {vs : List Nat}
theorem dg_name {i : Nat} {x : Str} (hN : X.N.Nodup) (hi : X.N[i]? = some x) (hx : Loc X.env.scope x) (hv : i ∈ vs) (hf : X.fn x = true ∨ X.env.scope.names.lookup x = some .local := by first | exact .inl rfl | exact .inr rfl | assumption) : DG X vs (.Name x pos) (gN i) :=
  ⟨PG.imp (pg_name hN hi hx hf) fun v σ H Q ⟨G, S, ρ, d, rs, rp, dv, q⟩ => q H G Ext.refl rp _ (rs.set dv i) (wipe_set σ i _ vs hv)⟩
theorem dgs_nil : DGs X vs [] gNils := by
  refine ⟨PGs.imp pgs_nil fun us σ H Q ⟨G, S, ρ, ds, rs, rp, dv, q⟩ => ?_⟩
  cases dv with
  | nil => exact ⟨rfl, q H G Ext.refl rp σ rs rfl⟩
  | cons _ _ => exact q.elim
theorem dgs_cons (h1 : DG X vs e g) (h2 : DGs X vs es h) (hs : (assignEach (e :: es) X.env).map (·.2) = assign e X.env :: (assignEach es X.env).map (·.2) := by rfl) : DGs X vs (e :: es) (gConss g h) := by
  refine ⟨PGs.imp (pgs_cons h1.run h2.run hs) fun us σ H Q ⟨G, S, ρ, ds, rs, rp, dv, q⟩ => ?_⟩
  cases dv with
  | nil => exact q.elim
  | cons d1 d2 =>
    rename_i d ds v us _x
    refine ⟨_, _, rfl, G, S, ρ, d, rs, rp, d1, ?_⟩
    have q : AftG X.K H G S (match g d ρ S with | some (ρ1, S1) => h ds ρ1 S1 | none => none) _ := q
    cases eg : g d ρ S with
    | none => rw [eg] at q; exact q
    | some p =>
      obtain ⟨ρ1, S1⟩ := p
      rw [eg] at q
      exact fun H1 G1 x1 r1 σ1 rs1 w1 => ⟨G1, S1, ρ1, ds, rs1, r1, x1.denL rp d2, (q.ext x1).mono fun ρ2 H2 G2 S2 x2 r2 q2 σ2 rs2 w2 => q2 σ2 rs2 (w2.trans w1)⟩
theorem dg_tup {n k : Nat} (hc : X.calm = true) (hg : DGs X vs es h) (hn : (assignEach es X.env).length = n := by rfl) (hst : (assignEach es X.env).findIdx? (·.1) = none := by rfl) : DG X vs (.Tuple es k pos) (gTupD n h) := by
  refine ⟨PG.imp (pg_tup hc hg.run hn hst) fun v σ H Q ⟨G, S, ρ, d, rs, rp, dv, q⟩ => ?_⟩
  unfold gTupD at q
  split at q
  · rename_i xs
    by_cases hl : xs.length = n
    · rw [if_pos hl] at q
      obtain ⟨a, us, rfl, hq, t⟩ := den_tup dv
      exact ⟨a, us, rfl, hq, by rw [← t.length]; exact hl, G, S, ρ, _, rs, rp, t.denL, q⟩
    · rw [if_neg hl] at q; exact q.elim
  · exact q.elim
theorem dg_lst {n k : Nat} (hc : X.calm = true) (hg : DGs X vs es h) (hn : (assignEach es X.env).length = n := by rfl) (hst : (assignEach es X.env).findIdx? (·.1) = none := by rfl) : DG X vs (.Tuple es k pos) (gLstD n h) := by
  refine ⟨PG.imp (pg_lst hc hg.run hn hst) fun v σ H Q ⟨G, S, ρ, d, rs, rp, dv, q⟩ => ?_⟩
  unfold gLstD at q
  split at q
  · rename_i xs e
    by_cases hl : xs.length = n
    · rw [if_pos hl] at q
      obtain ⟨a, us, rfl, hq, t⟩ := lstOf_den rp e dv
      exact ⟨a, us, rfl, SqL.of hq, by rw [← t.length]; exact hl, G, S, ρ, _, rs, rp, t.denL, q⟩
    · rw [if_neg hl] at q; exact q.elim
  · exact q.elim
theorem set_D (hu : X.A.units + 1 < cLine) : PSet X rSetD := by
  intro pins s σ H o i v ov iv u Q I ro ri rv q
  rcases q with q | ⟨a, H', rfl, g, q⟩
  · exact set_list pins s σ H o i v ov iv u Q I ro ri rv q
  · cases ro
    exact d_setItem hu I g ri rv fun s' I' => ⟨H', I', q⟩
theorem setD_den {K : PySem.W.Frag} {H : Hp} {G : Gh} {S S' : Sto} {o i d : D} {ov iv v : V} (rp : Rep K H G S) (e : setD o i d S = some S') (ho : Den K H G o ov) (hi : Den K H G i iv) (hd : Den K H G d v) {Q : Hp → Prop}
    (q : ∀ H', Ext H G S H' G S' → Rep K H' G S' → Q H') : rSetD ov iv v H Q := by
  unfold setD at e
  split at e
  · rename_i j x
    obtain ⟨a, rfl, ha⟩ := ho
    split at e
    · rename_i xs k em
      obtain rfl := den_int hi
      obtain ⟨us, e1, t⟩ := rp.ok j a _ ha em
      split at e
      · rename_i n en
        cases e
        refine .inl ⟨a, us, k, n, rfl, rfl, e1, by rw [← t.length]; exact en, ?_⟩
        have x := Ext.chg (o := .lst (us.set n v)) (m' := .lst (xs.set n x)) rp ha em (fun z => nomatch z)
        exact q _ x (rp.chg ha em (fun z => nomatch z) ⟨_, upd_same, x.dnAll rp (t.set hd n)⟩)
      · cases e
    · rename_i kvs k em
      obtain ⟨ws, e1, e2, t⟩ := rp.ok j a _ ha em
      have r : KvR K G.φ H kvs ws := ⟨e2, t⟩
      split at e
      · rename_i k' ek
        by_cases hl : kvs.length < LIM
        · rw [if_pos hl] at e
          cases e
          have ea := keyPy_of ek
          subst ea
          have ev : iv = kV k' := by
            cases k' with
            | inl i => exact den_int hi
            | inr z => exact den_str hi
          subst ev
          refine .inr ⟨a, _, rfl, DPut.k e1 (by rw [← r.length]; exact Nat.lt_trans hl LIM_lt), ?_⟩
          have rr := r.put (k := k') hd
          have x := Ext.chg (o := .dK (putK ws k' v)) (m' := .dic (putD kvs k' x)) rp ha em (fun z => nomatch z)
          exact q _ x (rp.chg ha em (fun z => nomatch z) ⟨_, upd_same, rr.ks, x.dnAll rp rr.vs⟩)
        · rw [if_neg hl] at e; cases e
      · cases e
    · cases e
  · cases e
theorem Aft.of_ok {α : Type} {K : PySem.W.Frag} {σ : St} {H : Hp} {G : Gh} {S : Sto} {o : Out α} {a : α} {S' : Sto} {P : α → Hp → Gh → Sto → Prop} (e : o = .ok a S') (h : ∀ H' G', Ext H G S H' G' S' → Rep K H' G' S' → P a H' G' S') : Aft K W σ H G S o P := by
  rw [e]; exact h
theorem dg_sub {o i : Expr} {fo fi : FE} (hu : X.A.units + 1 < cLine) (ho : DE X W o fo) (hi : DE X W i fi) (ha : ∀ v, assign (.Subscript o i pos) X.env v = (do
      let ov ← holding [v] (eval o X.env)
      let iv ← holding [v, ov] (eval i X.env)
      standAt pos
      holding [v, ov, iv] (setItem ov iv v)
      release [v, ov, iv] []) := by intro _; rfl) : DG X vs (.Subscript o i pos) (gSubD fo fi) := by
  refine ⟨PG.imp (pg_sub ho.run hi.run (set_D hu) ha) fun v σ H Q ⟨G, S, ρ, d, rs, rp, dv, q⟩ => ?_⟩
  unfold gSubD at q
  split at q
  · rename_i od S1 e1
    split at q
    · rename_i id S2 e2
      split at q
      · rename_i S3 e3
        refine ⟨G, S, ρ, rs, rp, Aft.of_ok e1 fun H1 G1 x1 r1 ov dov => ?_⟩
        refine ⟨G1, S1, ρ, x1.relS rp rs, r1, Aft.of_ok e2 fun H2 G2 x2 r2 iv div => ?_⟩
        refine setD_den r2 e3 (x2.den r1 dov) div ((x1.trans x2).den rp dv) fun H3 x3 r3 => ?_
        exact q H3 G2 ((x1.trans x2).trans x3) r3 σ (((x1.trans x2).trans x3).relS rp rs) rfl
      · exact q.elim
    · exact q.elim
  · exact q.elim
end

def sAsg (f : FE) (g : FG) : FS := fun ρ S => (f ρ S).st ρ fun d S1 => match g d ρ S1 with
  | some (ρ', S2) => some (.next ρ', S2)
  | none => none
def sAsgs (f : FA) (g : FGs) : FS := fun ρ S => (f ρ S).st ρ fun ds S1 => match g ds ρ S1 with
  | some (ρ', S2) => some (.next ρ', S2)
  | none => none
section
variable {X : Cx} {W : WX} {e tg : Expr} {es ts : List Expr} {f : FE} {fa : FA} {g : FG} {h : FGs} {pos : Pos} {vs : List Nat}
theorem AftS.tgt {K : PySem.W.Frag} {E : Ends} {H : Hp} {G : Gh} {S : Sto} {σ : St} {o : Option (Ev × Sto)} (q : AftS K W E H G S (match o with | some (ρ', S2) => some (.next ρ', S2) | none => none)) :
    AftG K H G S o fun ρ' H' G' _ => ∀ σ', RelS K H' G' ρ' σ' → wipe σ' vs = wipe σ vs → E.nx σ' H' := by
  match o with
  | none => exact q
  | some (ρ', S') => exact fun H' G' x r σ' rs _ => AftS.next q x r rs
theorem ds_asg (he : DE X W e f) (hg : DG X vs tg g) (hs : swapsWithSole [tg] e pos.line X.env = pure false := by rfl) (hw : swappedStores [tg] e X.env = pure none := by rfl)
    (h1 : (assignEach [tg] X.env).map (·.2) = [assign tg X.env] := by rfl) : DS X W (.Assign [tg] e pos) (sAsg f g) := by
  refine ⟨PS.imp (ps_asg he.run hg.run hs hw h1) fun E σ H ⟨G, S, ρ, rs, rp, q⟩ => ⟨G, S, ρ, rs, rp, (AftS.st q rs rp).mono fun d H1 G1 S1 x1 r1 q1 v dv => ?_⟩⟩
  exact ⟨G1, S1, ρ, d, x1.relS rp rs, r1, dv, AftS.tgt q1⟩
/-- (a, b, ..) = (x, y, ..), by a tuple that is taken apart at once -/
theorem ds_asgTT {n k k' : Nat} {p1 p2 : Pos} (hc : X.calm = true) (ha : DA X W es fa) (hg : DGs X vs ts h) (hl : ts.length = es.length := by rfl) (hn : (assignEach ts X.env).length = n := by rfl) (hst : (assignEach ts X.env).findIdx? (·.1) = none := by rfl)
    (hd : ∀ (ds : List D) ρ S ρ' S', h ds ρ S = some (ρ', S') → ds.length = n) (h100 : n ≤ 100 := by decide)
    (hs : swapsWithSole [.Tuple ts k p1] (.Tuple es k' p2) pos.line X.env = pure false := by rfl) (hw : swappedStores [.Tuple ts k p1] (.Tuple es k' p2) X.env = pure none := by rfl)
    (h1 : (assignEach [.Tuple ts k p1] X.env).map (·.2) = [assign (.Tuple ts k p1) X.env] := by rfl) : DS X W (.Assign [.Tuple ts k p1] (.Tuple es k' p2) pos) (sAsgs fa h) := by
  refine ⟨PS.imp (ps_asg (pe_tup ha.run) (pg_tup hc hg.run hn hst) hs hw h1) fun E σ H ⟨G, S, ρ, rs, rp, q⟩ => ⟨G, S, ρ, rs, rp, (AftS.st q rs rp).mono fun ds H1 G1 S1 x1 r1 q1 us dv => ?_⟩⟩
  cases eo : h ds ρ S1 with
  | none => rw [eo] at q1; exact q1.elim
  | some p =>
    obtain ⟨ρ', S2⟩ := p
    have hlen := hd ds ρ S1 ρ' S2 eo
    have hul : us.length = n := by rw [← dv.length]; exact hlen
    refine ⟨by rw [hul]; exact Nat.le_trans h100 (Nat.le_trans (by decide) LIM_le), fun p hp => ⟨p, us, rfl, SqT.of upd_same, hul, ?_⟩⟩
    have x2 := Ext.other (o := .tup us) r1 hp
    have r2 := Rep.other (o := .tup us) r1 hp
    refine ⟨G1, S1, ρ, ds, x2.relS r1 (x1.relS rp rs), r2, x2.denL r1 dv, ?_⟩
    exact (AftS.tgt q1).ext x2
def gsLen (n : Nat) (h : FGs) : FGs := fun ds ρ S => if ds.length = n then h ds ρ S else none
end
end DL

namespace DL
open PySem L2

def W0 : WX := fun _ _ _ _ => False
/-- no exception may come out of it -/
def noErr {α : Type} : Out α → Out α
  | .ok a s => .ok a s
  | _ => .bad
@[simp] theorem noErr_ok {α : Type} (a : α) (s : Sto) : noErr (.ok a s) = .ok a s := rfl
theorem Aft.noErr {α : Type} {K : PySem.W.Frag} {W W' : WX} {σ σ' : St} {H : Hp} {G : Gh} {S : Sto} {o : Out α} {P : α → Hp → Gh → Sto → Prop} (h : Aft K W σ H G S (noErr o) P) : Aft K W' σ' H G S o P := by
  cases o with
  | ok a s => exact h
  | err x s => exact h.elim
  | bad => exact h.elim

section
variable {X : Cx} {W : WX} {a b : Expr} {fa : FA} {pos : Pos}
theorem lenNil : ∀ (ds : List D) ρ S ρ' S', gNils ds ρ S = some (ρ', S') → ds.length = 0 := by
  intro ds ρ S ρ' S' h
  cases ds with
  | nil => rfl
  | cons _ _ => cases h
theorem lenCons {g : FG} {h : FGs} {n : Nat} (i : ∀ (ds : List D) ρ S ρ' S', h ds ρ S = some (ρ', S') → ds.length = n) : ∀ (ds : List D) ρ S ρ' S', gConss g h ds ρ S = some (ρ', S') → ds.length = n + 1 := by
  intro ds ρ S ρ' S' q
  cases ds with
  | nil => cases q
  | cons d r =>
    simp only [gConss] at q
    split at q
    · rename_i ρ1 S1 e
      rw [List.length_cons, i r ρ1 S1 ρ' S' q]
    · cases q
theorem ds_par {i j : Nat} {x y : Str} {px py pt : Pos} {kt k2 pt2} (hc : X.calm = true) (hN : X.N.Nodup) (hi : X.N[i]? = some x) (hj : X.N[j]? = some y) (hij : i ≠ j)
    (hx : X.env.scope.names.lookup x = some .local) (hy : X.env.scope.names.lookup y = some .local) (ha : DA X W [a, b] fa)
    (hw : swappedStores [.Tuple [.Name x px, .Name y py] kt pt] (.Tuple [a, b] k2 pt2) X.env = pure (some [x, y]) := by rfl)
    (hs : swapsWithSole [.Tuple [.Name x px, .Name y py] kt pt] (.Tuple [a, b] k2 pt2) pos.line X.env = pure false := by rfl) :
    DS X W (.Assign [.Tuple [.Name x px, .Name y py] kt pt] (.Tuple [a, b] k2 pt2) pos) (sAsgs fa (gConss (gN i) (gConss (gN j) gNils))) := by
  refine ⟨PS.imp (ps_par hc hN hi hj hij hx hy ha.run hw hs) fun E σ H ⟨G, S, ρ, rs, rp, q⟩ => ⟨G, S, ρ, rs, rp, (AftS.st q rs rp).mono fun ds H1 G1 S1 x1 r1 q1 us dv => ?_⟩⟩
  cases dv with
  | nil => exact q1.elim
  | cons d1 t1 =>
    cases t1 with
    | nil => exact q1.elim
    | cons d2 t2 =>
      cases t2 with
      | nil => exact ⟨_, _, rfl, AftS.next q1 Ext.refl r1 (((x1.relS rp rs).set d1 i).set d2 j)⟩
      | cons _ _ => exact q1.elim
theorem ds_par3 {i j l : Nat} {x y z : Str} {c : Expr} {px py pz pt : Pos} {kt k2 pt2} (hc : X.calm = true) (hN : X.N.Nodup) (hi : X.N[i]? = some x) (hj : X.N[j]? = some y) (hl : X.N[l]? = some z) (hij : i ≠ j) (hil : i ≠ l) (hjl : j ≠ l)
    (hx : X.env.scope.names.lookup x = some .local) (hy : X.env.scope.names.lookup y = some .local) (hz : X.env.scope.names.lookup z = some .local) (ha : DA X W [a, b, c] fa)
    (hw : swappedStores [.Tuple [.Name x px, .Name y py, .Name z pz] kt pt] (.Tuple [a, b, c] k2 pt2) X.env = pure (some [x, y, z]) := by rfl)
    (hs : swapsWithSole [.Tuple [.Name x px, .Name y py, .Name z pz] kt pt] (.Tuple [a, b, c] k2 pt2) pos.line X.env = pure false := by rfl) :
    DS X W (.Assign [.Tuple [.Name x px, .Name y py, .Name z pz] kt pt] (.Tuple [a, b, c] k2 pt2) pos) (sAsgs fa (gConss (gN i) (gConss (gN j) (gConss (gN l) gNils)))) := by
  refine ⟨PS.imp (ps_par3 hc hN hi hj hl hij hil hjl hx hy hz ha.run hw hs) fun E σ H ⟨G, S, ρ, rs, rp, q⟩ => ⟨G, S, ρ, rs, rp, (AftS.st q rs rp).mono fun ds H1 G1 S1 x1 r1 q1 us dv => ?_⟩⟩
  cases dv with
  | nil => exact q1.elim
  | cons d1 t1 =>
    cases t1 with
    | nil => exact q1.elim
    | cons d2 t2 =>
      cases t2 with
      | nil => exact q1.elim
      | cons d3 t3 =>
        cases t3 with
        | nil => exact ⟨_, _, _, rfl, AftS.next q1 Ext.refl r1 ((((x1.relS rp rs).set d1 i).set d2 j).set d3 l)⟩
        | cons _ _ => exact q1.elim
end

def whileD : Nat → FT → FS → FS
  | 0, _, _ => fun _ _ => none
  | n + 1, t, b => fun ρ S => (t ρ S).st ρ fun c S1 => if c = true then (match b ρ S1 with
      | some (.next ρ', S2) => whileD n t b ρ' S2
      | some (.cont ρ', S2) => whileD n t b ρ' S2
      | some (.brk ρ', S2) => some (.next ρ', S2)
      | o => o) else some (.next ρ, S1)
section
variable {X : Cx} {W : WX} {c : Expr} {body : List Stmt} {t : FT} {b : FS} {pos : Pos}
theorem ds_while (n : Nat) (hp : PassesOwn (model X.prog X.w) X.A X.env X.xe) (hc : DT X W c t) (hb : DSs X W body b) : DS X W (.While c body [] pos) (whileD n t b) := by
  refine ⟨PS.imp (ps_while hp hc.run hb.run) fun E σ H ⟨G, S, ρ, rs, rp, q⟩ => ?_⟩
  refine ⟨fun m σ H => ∃ G S ρ, RelS X.K H G ρ σ ∧ Rep X.K H G S ∧ AftS X.K W E H G S (whileD m t b ρ S), ⟨n, G, S, ρ, rs, rp, q⟩, ?_⟩
  rintro m σ H ⟨G, S, ρ, rs, rp, q⟩
  cases m with
  | zero => exact q.elim
  | succ m =>
    refine ⟨G, S, ρ, rs, rp, (AftS.st q rs rp).mono fun d H1 G1 S1 x1 r1 q1 => ?_⟩
    cases d with
    | false => exact AftS.next q1 Ext.refl r1 (x1.relS rp rs)
    | true =>
      refine ⟨fun σ' H' => ∃ G S ρ, RelS X.K H' G ρ σ' ∧ Rep X.K H' G S ∧ AftS X.K W E H' G S (whileD m t b ρ S), fun σ' H' h => ⟨m, Nat.lt_succ_self m, h⟩, G1, S1, ρ, x1.relS rp rs, r1, ?_⟩
      have q1 : AftS X.K W E H1 G1 S1 (match b ρ S1 with
        | some (.next ρ', S2) => whileD m t b ρ' S2
        | some (.cont ρ', S2) => whileD m t b ρ' S2
        | some (.brk ρ', S2) => some (.next ρ', S2)
        | o => o) := q1
      cases eo : b ρ S1 with
      | none => rw [eo] at q1; exact q1
      | some p =>
        obtain ⟨fl, S2⟩ := p
        rw [eo] at q1
        cases fl with
        | next ρ1 => exact fun H2 G2 σ2 x2 r2 s2 => ⟨G2, S2, ρ1, s2, r2, AftS.ext q1 x2⟩
        | cont ρ1 => exact fun H2 G2 σ2 x2 r2 s2 => ⟨G2, S2, ρ1, s2, r2, AftS.ext q1 x2⟩
        | brk ρ1 => exact q1
        | ret d => exact q1
        | exc x ρ1 => exact q1
end

structure Gives (K : PySem.W.Frag) (J : It) (H0 : Hp) (G0 : Gh) (S0 : Sto) (ds : List D) : Prop where
  go : ∀ (H : Hp) (G : Gh) (S : Sto), Ext H0 G0 S0 H G S → Rep K H G S → ∀ (i : Nat), i < ds.length → J.go i H
  yld : ∀ (H : Hp) (G : Gh) (S : Sto), Ext H0 G0 S0 H G S → Rep K H G S → ∀ (i : Nat) (d : D), ds[i]? = some d → ∀ x H', J.yld i H x H' → Ext H G S H' G S ∧ Rep K H' G S ∧ Den K H' G d x ∧ (H' = H ∨ ∃ T o, H T = none ∧ H' = upd H T o)
  stop : ∀ (H : Hp) (G : Gh) (S : Sto), Ext H0 G0 S0 H G S → Rep K H G S → J.stop ds.length H
abbrev FI := Ev → M (List D)
def rdI (K : PySem.W.Frag) (W : WX) (f : FI) : TI := fun σ H R => ∃ G S ρ, RelS K H G ρ σ ∧ Rep K H G S ∧ Aft K W σ H G S (f ρ S) fun ds H' G' S' => ∀ J, Gives K J H' G' S' ds → R J H'
structure DI (X : Cx) (W : WX) (tg iter : Expr) (f : FI) : Prop where
  run : PI X tg iter (rdI X.K W f)
theorem PI.imp {X : Cx} {tg iter : Expr} {t t' : TI} (h : PI X tg iter t) (i : ∀ σ H R, t' σ H R → t σ H R) : PI X tg iter t' := ⟨fun pins s σ H R I q => h.run pins s σ H R I (i σ H R q)⟩
/-- a list that stays, a tuple -/
theorem gives_list {K : PySem.W.Frag} {H : Hp} {G : Gh} {S : Sto} {a : Addr} {vs : List V} {xs : List PyData} (rp : Rep K H G S) (f : RL K G.φ a vs) (t : DnAll K G.φ H xs vs) : Gives K (Itl K a) H G S (xs.map .p) where
  go := fun H1 G1 S1 x r i hi => by
    rw [List.length_map, t.length] at hi
    exact ⟨vs, vs[i], (f.mono x.phi) H1 r.phi, by simp [hi]⟩
  yld := fun H1 G1 S1 x r i d e v H' y => by
    obtain ⟨e1, y⟩ := y
    subst e1
    have e2 := y vs ((f.mono x.phi) _ r.phi)
    obtain ⟨d', ed, dn⟩ := (x.dnAll rp t).getV e2
    rw [List.getElem?_map, ed] at e
    cases e
    exact ⟨Ext.refl, r, dn, .inl rfl⟩
  stop := fun H1 G1 S1 x r => by
    rw [List.length_map, t.length]
    exact ⟨vs, (f.mono x.phi) H1 r.phi, Nat.le_refl _⟩
theorem gives_tup {K : PySem.W.Frag} {H : Hp} {G : Gh} {S : Sto} {a : Addr} {vs : List V} {xs : List PyData} (rp : Rep K H G S) (f : SqT K H a vs) (t : DnAll K G.φ H xs vs) : Gives K (Itt K a) H G S (xs.map .p) where
  go := fun H1 G1 S1 x r i hi => by
    rw [List.length_map, t.length] at hi
    exact ⟨vs, vs[i], x.tup rp f, by simp [hi]⟩
  yld := fun H1 G1 S1 x r i d e v H' y => by
    obtain ⟨e1, y⟩ := y
    subst e1
    have e2 := y vs (x.tup rp f)
    obtain ⟨d', ed, dn⟩ := (x.dnAll rp t).getV e2
    rw [List.getElem?_map, ed] at e
    cases e
    exact ⟨Ext.refl, r, dn, .inl rfl⟩
  stop := fun H1 G1 S1 x r => by
    rw [List.length_map, t.length]
    exact ⟨vs, x.tup rp f, Nat.le_refl _⟩
theorem gives_range {K : PySem.W.Frag} {H : Hp} {G : Gh} {S : Sto} {lo : Int} {n : Nat} : Gives K (Itr lo n) H G S ((List.range n).map fun i : Nat => D.p (.int (lo + (i : Int)))) where
  go := fun H1 G1 S1 x r i hi => by simpa [Itr] using hi
  yld := fun H1 G1 S1 x r i d e v H' y => by
    obtain ⟨e1, e2⟩ := y
    subst e1 e2
    rw [List.getElem?_map] at e
    by_cases hi : i < n
    · rw [List.getElem?_range hi] at e
      cases e
      exact ⟨Ext.refl, r, .int _, .inl rfl⟩
    · rw [List.getElem?_eq_none (by simpa using hi)] at e; cases e
  stop := fun H1 G1 S1 x r => by simp [Itr]
theorem gives_str {K : PySem.W.Frag} {H : Hp} {G : Gh} {S : Sto} {z : Str} : Gives K (Its z) H G S (z.cps.toList.map fun c => D.p (.str ⟨#[c]⟩)) where
  go := fun H1 G1 S1 x r i hi => by simpa [Its] using hi
  yld := fun H1 G1 S1 x r i d e v H' y => by
    obtain ⟨e1, c, e2, e3⟩ := y
    subst e1 e3
    rw [List.getElem?_map, Array.getElem?_toList, e2] at e
    cases e
    exact ⟨Ext.refl, r, .str _, .inl rfl⟩
  stop := fun H1 G1 S1 x r => by simp [Its]
/-- x in (a list, a tuple, a text) -/
def itM : D → M (List D) := fun d S => match d with
  | .p (.list xs) => .ok (xs.map .p) S
  | .ro xs => .ok (xs.map .p) S
  | .p (.tuple xs) => .ok (xs.map .p) S
  | .p (.str z) => .ok (z.cps.toList.map fun c => D.p (.str ⟨#[c]⟩)) S
  | _ => .bad
def iSeq (f : FE) : FI := fun ρ S => (f ρ S).bind itM
def rangeM : List D → M (List D) := fun ds S => match ds with
  | [.p (.int j)] => if -1000000 ≤ j ∧ j ≤ 1000000 then .ok ((List.range j.toNat).map fun i : Nat => D.p (.int (0 + (i : Int)))) S else .bad
  | _ => .bad
def iRange (f : FA) : FI := fun ρ S => (f ρ S).bind rangeM
section
variable {X : Cx} {W : WX} {l tg : Expr} {f : FE} {pos : Pos}
/-- whatever is walked: a list, a tuple, a text -/
theorem pi_any {t : TE} (hl : PE X l t) : PI X tg l (fun σ H R => t σ H fun x H1 => (∃ a, x = .ref a ∧ (∃ xs, SqL X.K H1 a xs) ∧ R (Itl X.K a) H1) ∨ (∃ a, x = .ref a ∧ (∃ xs, SqT X.K H1 a xs) ∧ R (Itt X.K a) H1) ∨ ∃ z, x = .str z ∧ R (Its z) H1) := by
  refine ⟨fun pins s σ H R I h => ?_⟩
  refine thn (hl.run pins s σ H _ I h) fun v s1 ⟨x, H1, I1, r1, q1⟩ => ?_
  rcases q1 with ⟨a, rfl, ⟨xs, hq⟩, q⟩ | ⟨a, rfl, ⟨xs, hq⟩, q⟩ | ⟨z, rfl, q⟩
  · cases r1
    obtain ⟨its, rv, p, hz⟩ := I1.list hq
    refine wpAny_pyIter_list p.isList ⟨s1.heap.objs.size, [s1.heap.objs.size], _, _, H1, rfl, I1.kept (t' := s1.toks) fun b o e => Heap.get?_push_of_some _ e, turn_list a _, ⟨_, Heap.get?_push_size _ rfl, rfl, rfl⟩, fun b hb => ?_, q⟩
    obtain rfl : b = s1.heap.objs.size := by simpa using hb
    exact I1.fpOk (Nat.le_refl _) (I1.hok.fresh (Nat.le_refl _))
  · cases r1
    obtain ⟨its, rv, p, hz⟩ := I1.tuple hq
    refine wpAny_pyIter_tuple (show s1.heap.IsTuple a its.toArray from p) ⟨s1.heap.objs.size, [s1.heap.objs.size], _, _, H1, rfl, I1.kept (t' := s1.toks) fun b o e => Heap.get?_push_of_some _ e, turn_tuple a _, ⟨_, Heap.get?_push_size _ rfl, rfl, rfl⟩, fun b hb => ?_, q⟩
    obtain rfl : b = s1.heap.objs.size := by simpa using hb
    exact I1.fpOk (Nat.le_refl _) (I1.hok.fresh (Nat.le_refl _))
  · obtain ⟨t, rfl⟩ := r1
    cases ha : z.cps.all (· < 128)
    · exact wpAny_pyIter_wide ha (pi_one (tk := s1.toks) I1 _ (turn_str _ z t "str_iterator" (.inr rfl)) ⟨_, Heap.get?_push_size _ rfl, rfl, rfl⟩ q)
    · exact wpAny_pyIter_ascii ha (pi_one (tk := s1.toks) I1 _ (turn_str _ z t "str_ascii_iterator" (.inl rfl)) ⟨_, Heap.get?_push_size _ rfl, rfl, rfl⟩ q)
theorem di_seq (he : DE X W l f) : DI X W tg l (iSeq f) := by
  refine ⟨PI.imp (pi_any he.run) fun σ H R ⟨G, S, ρ, rs, rp, q⟩ => ⟨G, S, ρ, rs, rp, (Aft.bind q).mono fun d H1 G1 S1 x1 r1 q1 v dv => ?_⟩⟩
  unfold itM at q1
  split at q1
  · obtain ⟨a, vs, rfl, fl, t⟩ := den_lst dv
    exact .inl ⟨a, rfl, ⟨vs, SqL.of (fl H1 r1.phi)⟩, q1 H1 G1 Ext.refl r1 _ (gives_list r1 (fun H' h' => SqL.of (fl H' h')) t)⟩
  · obtain ⟨a, vs, rfl, fl, t⟩ := dv
    exact .inl ⟨a, rfl, ⟨vs, fl H1 r1.phi⟩, q1 H1 G1 Ext.refl r1 _ (gives_list r1 fl t)⟩
  · obtain ⟨a, vs, rfl, fl, t⟩ := den_tup dv
    exact .inr (.inl ⟨a, rfl, ⟨vs, fl⟩, q1 H1 G1 Ext.refl r1 _ (gives_tup r1 fl t)⟩)
  · rename_i z
    obtain rfl := den_str dv
    exact .inr (.inr ⟨z, rfl, q1 H1 G1 Ext.refl r1 _ gives_str⟩)
  · exact q1.elim
end

section
variable {X : Cx} {W : WX} {a tg : Expr} {f : FE} {p pos : Pos}
theorem di_range {fa : FA} (hg : Gl X "range") (hm : X.mg "range" = none) (ha : DA X W [a] fa) (hs : starEach [a] X.env = [(false, eval a X.env)] := by rfl) : DI X W tg (.Call (.Name "range" p) [a] [] pos) (iRange fa) := by
  refine ⟨PI.imp (pi_range1 hg hm ha.run hs) fun σ H R ⟨G, S, ρ, rs, rp, q⟩ => ⟨G, S, ρ, rs, rp, (Aft.bind q).mono fun ds H1 G1 S1 x1 r1 q1 vs dv => ?_⟩⟩
  unfold rangeM at q1
  split at q1
  · rename_i j
    cases dv with
    | cons dv t =>
      cases t
      obtain rfl := den_int dv
      by_cases hj : -1000000 ≤ j ∧ j ≤ 1000000
      · rw [if_pos hj] at q1
        exact ⟨j, rfl, by omega, by omega, q1 H1 G1 Ext.refl r1 _ gives_range⟩
      · rw [if_neg hj] at q1; exact q1.elim
  · exact q1.elim

def zipP : List PyData → List PyData → List D
  | x :: xs, y :: ys => .p (.tuple [x, y]) :: zipP xs ys
  | _, _ => []
theorem zipP_len : ∀ (xs ys : List PyData), (zipP xs ys).length = min xs.length ys.length
  | [], _ => by simp [zipP]
  | _ :: _, [] => by simp [zipP]
  | x :: xs, y :: ys => by simp only [zipP, List.length_cons, zipP_len xs ys]; omega
theorem zipP_get : ∀ (xs ys : List PyData) (i : Nat) (d : D), (zipP xs ys)[i]? = some d → ∃ x y, xs[i]? = some x ∧ ys[i]? = some y ∧ d = .p (.tuple [x, y])
  | [], _, i, d, h => by simp [zipP] at h
  | _ :: _, [], i, d, h => by simp [zipP] at h
  | x :: xs, y :: ys, 0, d, h => by simp [zipP] at h; exact ⟨x, y, rfl, rfl, h.symm⟩
  | x :: xs, y :: ys, i + 1, d, h => by
    obtain ⟨x', y', h1, h2, h3⟩ := zipP_get xs ys i d (by simpa [zipP] using h)
    exact ⟨x', y', by simpa using h1, by simpa using h2, h3⟩
def enumP (n : Nat) : List PyData → List D
  | x :: xs => .p (.tuple [.int (n : Nat), x]) :: enumP (n + 1) xs
  | [] => []
theorem enumP_len : ∀ (n : Nat) (xs : List PyData), (enumP n xs).length = xs.length
  | _, [] => rfl
  | n, x :: xs => by simp only [enumP, List.length_cons, enumP_len]
theorem enumP_get : ∀ (n : Nat) (xs : List PyData) (i : Nat) (d : D), (enumP n xs)[i]? = some d → ∃ x, xs[i]? = some x ∧ d = .p (.tuple [.int ((n + i : Nat) : Int), x])
  | n, [], i, d, h => by simp [enumP] at h
  | n, x :: xs, 0, d, h => by simp [enumP] at h; exact ⟨x, rfl, h.symm⟩
  | n, x :: xs, i + 1, d, h => by
    obtain ⟨x', h1, h3⟩ := enumP_get (n + 1) xs i d (by simpa [enumP] using h)
    exact ⟨x', by simpa using h1, by rw [h3, show n + 1 + i = n + (i + 1) by omega]⟩
def zipM : List D → M (List D) := fun ds S => match ds with
  | [.p (.list xs), .p (.list ys)] => .ok (zipP xs ys) S
  | [.p (.tuple xs), .p (.tuple ys)] => .ok (zipP xs ys) S
  | _ => .bad
def enumM : List D → M (List D) := fun ds S => match ds with
  | [.p (.list xs)] => .ok (enumP 0 xs) S
  | _ => .bad
def iA (g : List D → M (List D)) (fa : FA) : FI := fun ρ S => (fa ρ S).bind g
theorem pair_new {K : PySem.W.Frag} {H : Hp} {G : Gh} {S : Sto} {T : Addr} {x y : PyData} {v w : V} (r : Rep K H G S) (hT : H T = none) (h1 : Dn K G.φ H x v) (h2 : Dn K G.φ H y w) : Ext H G S (upd H T (.tup [v, w])) G S ∧ Rep K (upd H T (.tup [v, w])) G S ∧ Den K (upd H T (.tup [v, w])) G (.p (.tuple [x, y])) (.ref T) := by
  have e := Ext.other (o := .tup [v, w]) r hT
  exact ⟨e, Rep.other r hT, Dn.tup (SqT.of upd_same) (.cons (e.dn r h1) (.cons (e.dn r h2) .nil))⟩
theorem gives_zip {K : PySem.W.Frag} {H : Hp} {G : Gh} {S : Sto} {a b : Addr} {vs ws : List V} {xs ys : List PyData} (rp : Rep K H G S) (fa : FL G.φ a vs) (ta : DnAll K G.φ H xs vs) (fb : FL G.φ b ws) (tb : DnAll K G.φ H ys ws) : Gives K (Itz K a b) H G S (zipP xs ys) where
  go := fun H1 G1 S1 x r i hi => by
    rw [zipP_len, ta.length, tb.length] at hi
    exact ⟨vs, ws, vs[i], ws[i], SqL.of ((fa.mono x.phi) H1 r.phi), SqL.of ((fb.mono x.phi) H1 r.phi), by simp, by simp⟩
  yld := fun H1 G1 S1 x r i d e v H' y => by
    obtain ⟨T, u, w, rfl, hT, rfl, y1, y2⟩ := y
    have e1 := y1 vs (SqL.of ((fa.mono x.phi) H1 r.phi))
    have e2 := y2 ws (SqL.of ((fb.mono x.phi) H1 r.phi))
    obtain ⟨d1, ed1, dn1⟩ := (x.dnAll rp ta).getV e1
    obtain ⟨d2, ed2, dn2⟩ := (x.dnAll rp tb).getV e2
    obtain ⟨x', y', h1, h2, rfl⟩ := zipP_get xs ys i d e
    rw [ed1] at h1; cases h1
    rw [ed2] at h2; cases h2
    obtain ⟨p1, p2, p3⟩ := pair_new r hT dn1 dn2
    exact ⟨p1, p2, p3, .inr ⟨T, _, hT, rfl⟩⟩
  stop := fun H1 G1 S1 x r => by
    rw [zipP_len, ta.length, tb.length]
    exact ⟨vs, ws, SqL.of ((fa.mono x.phi) H1 r.phi), SqL.of ((fb.mono x.phi) H1 r.phi), by omega⟩
theorem gives_zipT {K : PySem.W.Frag} {H : Hp} {G : Gh} {S : Sto} {a b : Addr} {vs ws : List V} {xs ys : List PyData} (rp : Rep K H G S) (fa : SqT K H a vs) (ta : DnAll K G.φ H xs vs) (fb : SqT K H b ws) (tb : DnAll K G.φ H ys ws) : Gives K (RZ.ItzT K a b) H G S (zipP xs ys) where
  go := fun H1 G1 S1 x r i hi => by
    rw [zipP_len, ta.length, tb.length] at hi
    exact ⟨vs, ws, vs[i], ws[i], x.tup rp fa, x.tup rp fb, by simp, by simp⟩
  yld := fun H1 G1 S1 x r i d e v H' y => by
    obtain ⟨T, u, w, rfl, hT, rfl, y1, y2⟩ := y
    have e1 := y1 vs (x.tup rp fa)
    have e2 := y2 ws (x.tup rp fb)
    obtain ⟨d1, ed1, dn1⟩ := (x.dnAll rp ta).getV e1
    obtain ⟨d2, ed2, dn2⟩ := (x.dnAll rp tb).getV e2
    obtain ⟨x', y', h1, h2, rfl⟩ := zipP_get xs ys i d e
    rw [ed1] at h1; cases h1
    rw [ed2] at h2; cases h2
    obtain ⟨p1, p2, p3⟩ := pair_new r hT dn1 dn2
    exact ⟨p1, p2, p3, .inr ⟨T, _, hT, rfl⟩⟩
  stop := fun H1 G1 S1 x r => by
    rw [zipP_len, ta.length, tb.length]
    exact ⟨vs, ws, x.tup rp fa, x.tup rp fb, by omega⟩
theorem gives_enum {K : PySem.W.Frag} {H : Hp} {G : Gh} {S : Sto} {a : Addr} {vs : List V} {xs : List PyData} (rp : Rep K H G S) (fa : FL G.φ a vs) (ta : DnAll K G.φ H xs vs) : Gives K (Ite K a) H G S (enumP 0 xs) where
  go := fun H1 G1 S1 x r i hi => by
    rw [enumP_len, ta.length] at hi
    exact ⟨vs, vs[i], SqL.of ((fa.mono x.phi) H1 r.phi), by simp⟩
  yld := fun H1 G1 S1 x r i d e v H' y => by
    obtain ⟨T, u, rfl, hT, rfl, y1⟩ := y
    have e1 := y1 vs (SqL.of ((fa.mono x.phi) H1 r.phi))
    obtain ⟨d1, ed1, dn1⟩ := (x.dnAll rp ta).getV e1
    obtain ⟨x', h1, rfl⟩ := enumP_get 0 xs i d e
    rw [ed1] at h1; cases h1
    have e0 : ((0 + i : Nat) : Int) = (i : Int) := by rw [Nat.zero_add]
    rw [e0]
    obtain ⟨p1, p2, p3⟩ := pair_new r hT (Dn.int (i : Int)) dn1
    exact ⟨p1, p2, p3, .inr ⟨T, _, hT, rfl⟩⟩
  stop := fun H1 G1 S1 x r => by
    rw [enumP_len, ta.length]
    exact ⟨vs, SqL.of ((fa.mono x.phi) H1 r.phi), Nat.le_refl _⟩
theorem di_zip {b : Expr} {fa : FA} {tpos : Pos} {elts : List Expr} {kk : Nat} (hg : Gl X "zip") (hm : X.mg "zip" = none) (ha : DA X W [a, b] fa) (hs : starEach [a, b] X.env = (false, eval a X.env) :: starEach [b] X.env := by rfl) (hpl : (backTo pos (starEach [b] X.env)).any (·.1) = false := by rfl) :
    DI X W (.Tuple elts kk tpos) (.Call (.Name "zip" p) [a, b] [] pos) (iA zipM fa) := by
  refine ⟨PI.imp (RZ.pi_zipA hg hm ha.run hs hpl) fun σ H R ⟨G, S, ρ, rs, rp, q⟩ => ⟨G, S, ρ, rs, rp, (Aft.bind q).mono fun ds H1 G1 S1 x1 r1 q1 vs dv => ?_⟩⟩
  unfold zipM at q1
  split at q1
  · cases dv with
    | cons d1 t =>
      cases t with
      | cons d2 t =>
        cases t
        obtain ⟨a, vs, rfl, fa, ta⟩ := den_lst d1
        obtain ⟨b, ws, rfl, fb, tb⟩ := den_lst d2
        exact ⟨a, b, vs, ws, rfl, .inl ⟨SqL.of (fa _ r1.phi), SqL.of (fb _ r1.phi), q1 H1 G1 Ext.refl r1 _ (gives_zip r1 fa ta fb tb)⟩⟩
  · cases dv with
    | cons d1 t =>
      cases t with
      | cons d2 t =>
        cases t
        obtain ⟨a, vs, rfl, fa, ta⟩ := den_tup d1
        obtain ⟨b, ws, rfl, fb, tb⟩ := den_tup d2
        exact ⟨a, b, vs, ws, rfl, .inr ⟨fa, fb, q1 H1 G1 Ext.refl r1 _ (gives_zipT r1 fa ta fb tb)⟩⟩
  · exact q1.elim
theorem di_enum {fa : FA} {tpos : Pos} {elts : List Expr} {kk : Nat} (hg : Gl X "enumerate") (hm : X.mg "enumerate" = none) (ha : DA X W [a] fa) (hs : starEach [a] X.env = [(false, eval a X.env)] := by rfl) :
    DI X W (.Tuple elts kk tpos) (.Call (.Name "enumerate" p) [a] [] pos) (iA enumM fa) := by
  refine ⟨PI.imp (pi_enum hg hm ha.run hs) fun σ H R ⟨G, S, ρ, rs, rp, q⟩ => ⟨G, S, ρ, rs, rp, (Aft.bind q).mono fun ds H1 G1 S1 x1 r1 q1 vs dv => ?_⟩⟩
  unfold enumM at q1
  split at q1
  · cases dv with
    | cons d1 t =>
      cases t
      obtain ⟨a, vs, rfl, fa, ta⟩ := den_lst d1
      exact ⟨a, vs, rfl, SqL.of (fa _ r1.phi), q1 H1 G1 Ext.refl r1 _ (gives_enum r1 fa ta)⟩
  · exact q1.elim
end

def forD (g : FG) (b : FS) : List D → FS
  | [] => fun ρ S => some (.next ρ, S)
  | d :: r => fun ρ S => match g d ρ S with
    | none => none
    | some (ρ1, S1) => match b ρ1 S1 with
      | some (.next ρ2, S2) => forD g b r ρ2 S2
      | some (.cont ρ2, S2) => forD g b r ρ2 S2
      | some (.brk ρ2, S2) => some (.next ρ2, S2)
      | o => o
def sFor (f : FI) (g : FG) (b : FS) : FS := fun ρ S => (f ρ S).st ρ fun ds S1 => forD g b ds ρ S1
section
variable {X : Cx} {W : WX} {tg iter : Expr} {body : List Stmt} {f : FI} {g : FG} {b : FS} {pos : Pos} {vs : List Nat}
theorem ds_for (hp : PassesOwn (model X.prog X.w) X.A X.env X.xe) (hc : X.calm = true) (hi : DI X W tg iter f) (hg : DG X vs tg g) (hb : DSs X W body b) (hs : ∀ x, foldedSetIterable iter X.env x = pure x := by intro _; rfl) : DS X W (.For tg iter body [] pos) (sFor f g b) := by
  refine ⟨PS.imp (ps_for hp hc hi.run hg.run hb.run hs) fun E σ H ⟨G, S, ρ, rs, rp, q⟩ => ⟨G, S, ρ, rs, rp, (AftS.st q rs rp).mono fun ds H1 G1 S1 x1 r1 q1 J gv => ?_⟩⟩
  refine ⟨fun i m σ H => ∃ G S ρ, m = ds.length - i ∧ i ≤ ds.length ∧ Ext H1 G1 S1 H G S ∧ RelS X.K H G ρ σ ∧ Rep X.K H G S ∧ AftS X.K W E H G S (forD g b (ds.drop i) ρ S),
    ⟨ds.length, G1, S1, ρ, by simp, Nat.zero_le _, Ext.refl, x1.relS rp rs, r1, by simpa using q1⟩, ?_⟩
  rintro i m σ H ⟨G, S, ρ, rfl, hi, x, rs, rp, q⟩
  by_cases hlt : i < ds.length
  · refine .inr ⟨gv.go H G S x rp i hlt, fun σ' H' => ∃ G' S' ρ', Ext H1 G1 S1 H' G' S' ∧ RelS X.K H' G' ρ' σ' ∧ Rep X.K H' G' S' ∧ AftS X.K W E H' G' S' (forD g b (ds.drop (i + 1)) ρ' S'),
      fun σ' H' ⟨G', S', ρ', x', rs', rp', q'⟩ => ⟨ds.length - (i + 1), by omega, G', S', ρ', rfl, hlt, x', rs', rp', q'⟩, fun v H' y => ?_⟩
    obtain ⟨ex, rp', dv, _⟩ := gv.yld H G S x rp i ds[i] (by simp [hlt]) v H' y
    refine ⟨G, S, ρ, ds[i], ex.relS rp rs, rp', dv, ?_⟩
    rw [List.drop_eq_getElem_cons hlt] at q
    have q : AftS X.K W E H G S (match g ds[i] ρ S with
      | none => none
      | some (ρ1, S1) => match b ρ1 S1 with
        | some (.next ρ2, S2) => forD g b (ds.drop (i + 1)) ρ2 S2
        | some (.cont ρ2, S2) => forD g b (ds.drop (i + 1)) ρ2 S2
        | some (.brk ρ2, S2) => some (.next ρ2, S2)
        | o => o) := q
    cases eg : g ds[i] ρ S with
    | none => rw [eg] at q; exact q.elim
    | some pr =>
      obtain ⟨ρ1, S2⟩ := pr
      rw [eg] at q
      refine fun H2 G2 x2 r2 σ2 rs2 _ => ⟨G2, S2, ρ1, rs2, r2, ?_⟩
      have xx := ex.trans x2
      have q := AftS.ext q xx
      simp only at q
      cases eb : b ρ1 S2 with
      | none => rw [eb] at q; exact q
      | some pb =>
        obtain ⟨fl, S3⟩ := pb
        rw [eb] at q
        cases fl with
        | next ρ2 => exact fun H3 G3 σ3 x3 r3 s3 => ⟨G3, S3, ρ2, (x.trans xx).trans x3, s3, r3, AftS.ext q x3⟩
        | cont ρ2 => exact fun H3 G3 σ3 x3 r3 s3 => ⟨G3, S3, ρ2, (x.trans xx).trans x3, s3, r3, AftS.ext q x3⟩
        | brk ρ2 => exact q
        | ret d => exact q
        | exc y ρ2 => exact q
  · have e : i = ds.length := by omega
    subst e
    rw [List.drop_length] at q
    exact .inl ⟨gv.stop H G S x rp, AftS.next q Ext.refl rp rs⟩
end
end DL

namespace DL
open PySem L2

structure Beside (H : Hp) (G : Gh) (D : Addr) (o : HO) : Prop where
  at_ : H D = some o
  ι : D ∉ G.ι
  φ : ∀ p ∈ G.φ, p.1 ≠ D
section
variable {K : PySem.W.Frag} {H H1 : Hp} {G G1 : Gh} {S S1 : Sto} {D : Addr} {o : HO}
theorem Beside.ext (b : Beside H G D o) (x : Ext H G S H1 G1 S1) : Beside H1 G1 D o := by
  have nl : ¬ Live G S D := fun l => b.ι l.mem
  refine ⟨x.frame D o b.at_ nl, fun h => ?_, fun p hp e => ?_⟩
  · rcases x.iot D h with q | q
    · exact b.ι q
    · rw [b.at_] at q; cases q
  · rcases x.phf p hp with q | q | q
    · exact b.φ p q e
    · rw [e, b.at_] at q; cases q
    · rw [e] at q; exact nl q
theorem Rep.aside (r : Rep K H G S) {xs ys : List V} (b : Beside H G D (.lst xs)) : Rep K (upd H D (.lst ys)) G S := by
  have ht : ∀ a vs, SqT K H a vs → SqT K (upd H D (.lst ys)) a vs := fun a vs h => by
    rcases h with (h | ⟨u, h⟩) | h
    · exact .inl (.inl (by rw [upd_ne (ne_of h b.at_ (fun z => nomatch z))]; exact h))
    · exact .inl (.inr ⟨u, by rw [upd_ne (ne_of h b.at_ (fun z => nomatch z))]; exact h⟩)
    · exact .inr h
  refine ⟨r.len, r.nd, fun i a m h1 h2 => OkO.ext (G := G) (fun _ h => h) ht (fun u hu => ?_) (r.ok i a m h1 h2), fun p hp => ?_, r.pnl⟩
  · rw [upd_ne (fun z => b.ι (by rw [← z]; exact List.mem_of_getElem? h1))]; exact hu
  · rw [upd_ne (b.φ p hp)]; exact r.phi p hp
theorem dn_aside {φ : List (Addr × HO)} {xs ys : List V} (e : H D = some (.lst xs)) {ds : List PyData} {vs : List V} (t : DnAll K φ H ds vs) : DnAll K φ (upd H D (.lst ys)) ds vs :=
  t.mono (fun _ h => h) fun a vs h => by
    rcases h with (h | ⟨u, h⟩) | h
    · exact .inl (.inl (by rw [upd_ne (ne_of h e (fun z => nomatch z))]; exact h))
    · exact .inl (.inr ⟨u, by rw [upd_ne (ne_of h e (fun z => nomatch z))]; exact h⟩)
    · exact .inr h
theorem Ext.aside {H0 : Hp} {G0 : Gh} {S0 : Sto} {u : HO} (x : Ext H0 G0 S0 H G S) (h0 : H0 D = none) : Ext H0 G0 S0 (upd H D u) G S :=
  ⟨x.pre, x.phi, fun b o h n => by rw [upd_ne (ne_of_none h h0)]; exact x.frame b o h n, x.fresh, x.iot, x.phf⟩
/-- it is frozen at last -/
theorem Ext.iceD {H0 : Hp} {G0 : Gh} {S0 : Sto} (x : Ext H0 G0 S0 H G S) (h0 : H0 D = none) : Ext H0 G0 S0 H ⟨G.ι, (D, o) :: G.φ⟩ S :=
  ⟨x.pre, fun p hp => List.mem_cons_of_mem _ (x.phi p hp), x.frame, x.fresh, x.iot, fun p hp => by
    rcases List.mem_cons.mp hp with e | hp
    · rw [e]; exact .inr (.inl h0)
    · exact x.phf p hp⟩
theorem Rep.iceD (r : Rep K H G S) (b : Beside H G D o) : Rep K H ⟨G.ι, (D, o) :: G.φ⟩ S := by
  refine ⟨r.len, r.nd, fun i a m h1 h2 => OkO.ext (G := G) (fun _ h => List.mem_cons_of_mem _ h) (fun _ _ h => h) (fun _ h => h) (r.ok i a m h1 h2), fun p hp => ?_, fun p hp => ?_⟩
  · rcases List.mem_cons.mp hp with e | hp
    · rw [e]; exact b.at_
    · exact r.phi p hp
  · rcases List.mem_cons.mp hp with e | hp
    · rw [e]; exact fun l => b.ι (Live.mem l)
    · exact r.pnl p hp
end

def wipeD (ρ : Ev) : List Nat → Ev
  | [] => ρ
  | v :: vs => (wipeD ρ vs).set v none
theorem RelS.wipe {K : PySem.W.Frag} {H : Hp} {G : Gh} {ρ : Ev} {σ : St} (r : RelS K H G ρ σ) : ∀ vs : List Nat, RelS K H G (wipeD ρ vs) (L2.wipe σ vs)
  | [] => r
  | v :: vs => (r.wipe vs).setNone v
def lcD (g : FG) (t : FT) (e : FE) (ρ : Ev) : List D → M (List PyData)
  | [] => fun S => .ok [] S
  | d :: r => fun S => match g d ρ S with
    | none => .bad
    | some (ρ1, S1) => (t ρ1 S1).bind fun b S2 => if b = true then (e ρ1 S2).bind (fun y S3 => match y with
        | .p v => (lcD g t e ρ r S3).bind fun vs S4 => .ok (v :: vs) S4
        | _ => .bad) else lcD g t e ρ r S2
def eLc (f : FI) (g : FG) (t : FT) (e : FE) (vs : List Nat) (fin : List PyData → M D) : FE := fun ρ S => (f ρ S).bind fun ds S1 => if ds.length ≤ LIM then (noErr (lcD g t e (wipeD ρ vs) ds S1)).bind fin else .bad
def finL : List PyData → M D := fun ys S => .ok (.p (.list ys)) S
def finM : List PyData → M D := fun ys S => .ok (.ob S.length) (S ++ [.lst ys])
def tYesD : FT := fun _ S => .ok true S
/-- how the new list is handed on -/
def FinOk (fin : List PyData → M D) : Prop := ∀ (K : PySem.W.Frag) (W : WX) (σ : St) (H0 H : Hp) (G0 G : Gh) (S0 S : Sto) (ys : List PyData) (vs : List V) (D : Addr) (Q : VK),
  Ext H0 G0 S0 H G S → H0 D = none → Rep K H G S → Beside H G D (.lst vs) → DnAll K G.φ H ys vs → (∀ (S' : Sto) (d : DL.D), fin ys S = .ok d S' → ∀ H' G', Ext H0 G0 S0 H' G' S' → Rep K H' G' S' → ∀ v, Den K H' G' d v → Q v H') → Q (.ref D) H
theorem finL_ok : FinOk finL := fun K W σ H0 H G0 G S0 S ys vs D Q x h0 r b t q =>
  q S _ rfl H _ (x.iceD h0) (r.iceD b) _ (Dn.lst (fun _ q => q _ List.mem_cons_self) (t.mono (fun _ h => List.mem_cons_of_mem _ h) fun _ _ h => h))
theorem finM_ok : FinOk finM := fun K W σ H0 H G0 G S0 S ys vs D Q x h0 r b t q => by
  refine q (S ++ [.lst ys]) (.ob S.length) rfl H (G.add D) ?_ ?_ _ (show Den K H (G.add D) (.ob S.length) (.ref D) from ⟨D, rfl, Gh.add_last r D⟩)
  · refine ⟨fun i a h => ?_, x.phi, x.frame, fun c l => ?_, fun c h => ?_, x.phf⟩
    · have h := x.pre i a h
      show (G.ι ++ [D])[i]? = some a
      rw [List.getElem?_append_left (List.getElem?_eq_some_iff.mp h).1]; exact h
    · rcases Live.add r l with q | q
      · exact x.fresh c q
      · rw [q]; exact .inr h0
    · rcases List.mem_append.mp (show c ∈ G.ι ++ [D] from h) with q | q
      · exact x.iot c q
      · have e : c = D := by simpa using q
        rw [e]; exact .inr h0
  · refine ⟨?_, ?_, fun i a mo h1 h2 => ?_, r.phi, fun q hq l => ?_⟩
    · show (G.ι ++ [D]).length = (S ++ [MO.lst ys]).length
      rw [List.length_append, List.length_append, r.len]; rfl
    · show (G.ι ++ [D]).Nodup
      rw [List.nodup_append]
      refine ⟨r.nd, by simp, fun a ha c hc => ?_⟩
      have e : c = D := by simpa using hc
      subst e
      intro z; subst z; exact b.ι ha
    · have h1 : (G.ι ++ [D])[i]? = some a := h1
      by_cases hi : i < S.length
      · rw [List.getElem?_append_left (by rw [r.len]; exact hi)] at h1
        rw [List.getElem?_append_left hi] at h2
        exact r.ok i a mo h1 h2
      · have hl : i < (S ++ [MO.lst ys]).length := (List.getElem?_eq_some_iff.mp h2).1
        rw [List.length_append] at hl
        have e : i = S.length := by have : i < S.length + 1 := hl; omega
        subst e
        rw [← r.len] at h1
        simp at h1 h2
        subst h1 h2
        exact ⟨vs, b.at_, t⟩
    · rcases Live.add r l with z | z
      · exact r.pnl q hq z
      · exact b.φ q hq z
section
variable {X : Cx} {W : WX}
/-- the reading of a comprehension, by data -/
theorem lc_read {f : FI} {g : FG} {t : FT} {e : FE} {vs : List Nat} {fin : List PyData → M D} (fo : FinOk fin) {σ : St} {H : Hp} {Q : VK} (q : rd X.K W (eLc f g t e vs fin) σ H Q) :
    tLc (rdI X.K W f) (rdG X.K vs g) (rdT X.K W0 t) (rd X.K W0 e) vs σ H Q := by
  obtain ⟨G, S, ρ, rs, rp, q⟩ := q
  refine ⟨G, S, ρ, rs, rp, (Aft.bind q).mono fun ds H1 G1 S1 x1 r1 q1 J gv Da hDa => ?_⟩
  by_cases hl : ds.length ≤ LIM
  · simp only [if_pos hl] at q1
    cases eo : lcD g t e (wipeD ρ vs) ds S1 with
    | bad => rw [eo] at q1; exact q1.elim
    | err x s => rw [eo] at q1; exact q1.elim
    | ok ys Sn =>
      rw [eo] at q1
      have q2 : Aft X.K W σ H1 G1 S1 (fin ys Sn) (QD X.K Q) := q1
      have rs1 : RelS X.K H1 G1 (wipeD ρ vs) (wipe σ vs) := (x1.relS rp rs).wipe vs
      have b0 : Beside (upd H1 Da (.lst [])) G1 Da (.lst []) := ⟨upd_same, r1.notIn hDa, r1.notPhi hDa⟩
      refine ⟨fun i m H => ∃ G S accV accD rest, m = ds.length - i ∧ i ≤ ds.length ∧ Ext H1 G1 S1 H G S ∧ Rep X.K H G S ∧ Beside H G Da (.lst accV) ∧ DnAll X.K G.φ H accD accV ∧ accV.length ≤ i ∧ lcD g t e (wipeD ρ vs) (ds.drop i) S = .ok rest Sn ∧ ys = accD ++ rest,
        ⟨ds.length, G1, S1, [], [], ys, by simp, Nat.zero_le _, Ext.other r1 hDa, Rep.other r1 hDa, b0, .nil, Nat.le_refl _, by simpa using eo, rfl⟩, ?_⟩
      rintro i m H ⟨G, S, accV, accD, rest, rfl, hi, x, r, b, ta, hlen, el, rfl⟩
      by_cases hlt : i < ds.length
      · refine .inr ⟨gv.go H G S x r i hlt, fun H' => ∃ G' S' accV' accD' rest', Ext H1 G1 S1 H' G' S' ∧ Rep X.K H' G' S' ∧ Beside H' G' Da (.lst accV') ∧ DnAll X.K G'.φ H' accD' accV' ∧ accV'.length ≤ i + 1 ∧ lcD g t e (wipeD ρ vs) (ds.drop (i + 1)) S' = .ok rest' Sn ∧ accD ++ rest = accD' ++ rest',
          fun H' ⟨G', S', accV', accD', rest', h1, h2, h3, h4, h5, h6, h7⟩ => ⟨ds.length - (i + 1), by omega, G', S', accV', accD', rest', rfl, hlt, h1, h2, h3, h4, h5, h6, h7⟩, fun v H' y => ?_⟩
        obtain ⟨ex, rp', dv, _⟩ := gv.yld H G S x r i ds[i] (by simp [hlt]) v H' y
        rw [List.drop_eq_getElem_cons hlt] at el
        unfold lcD at el
        split at el
        · cases el
        · rename_i ρ1 S2 eg
          refine ⟨G, S, wipeD ρ vs, ds[i], (x.trans ex).relS r1 rs1, rp', dv, ?_⟩
          rw [eg]
          refine fun H2 G2 x2 r2 σ2 rs2 w2 => ⟨by rw [w2, wipe_wipe], ?_⟩
          have xa := x.trans (ex.trans x2)
          cases et : t ρ1 S2 with
          | bad => rw [et] at el; cases el
          | err _ _ => rw [et] at el; cases el
          | ok bb S3 =>
            rw [et] at el
            refine ⟨G2, S2, ρ1, rs2, r2, Aft.of_ok et fun H3 G3 x3 r3 => ?_⟩
            have xb := xa.trans x3
            have b3 := b.ext ((ex.trans x2).trans x3)
            have ta3 : DnAll X.K G3.φ H3 accD accV := ((ex.trans x2).trans x3).dnAll r ta
            cases bb with
            | false =>
              refine L2.iteF ?_
              simp only [Out.bind_ok, if_neg Bool.false_ne_true] at el
              exact ⟨G3, S3, accV, accD, rest, xb, r3, b3, ta3, by omega, el, rfl⟩
            | true =>
              refine L2.iteT ?_
              simp only [Out.bind_ok, if_pos] at el
              cases ee : e ρ1 S3 with
              | bad => rw [ee] at el; cases el
              | err _ _ => rw [ee] at el; cases el
              | ok yd S4 =>
                rw [ee] at el
                refine ⟨G3, S3, ρ1, x3.relS r2 rs2, r3, Aft.of_ok ee fun H4 G4 x4 r4 w dw => ?_⟩
                have b4 := b3.ext x4
                cases yd with
                | p pv =>
                  simp only [Out.bind_ok] at el
                  cases er : lcD g t e (wipeD ρ vs) (ds.drop (i + 1)) S4 with
                  | bad => rw [er] at el; cases el
                  | err _ _ => rw [er] at el; cases el
                  | ok vs' S5 =>
                    rw [er] at el
                    have el : Out.ok (pv :: vs') S5 = Out.ok rest Sn := el
                    cases el
                    refine ⟨accV, b4.at_, Nat.lt_of_le_of_lt hlen (Nat.lt_of_lt_of_le hlt (Nat.le_trans hl LIM_le)), G4, S4, accV ++ [w], accD ++ [pv], vs', (xb.trans x4).aside hDa, r4.aside b4, ⟨upd_same, b4.ι, b4.φ⟩, ?_, by rw [List.length_append, List.length_singleton]; omega, er, by rw [List.append_assoc]; rfl⟩
                    exact (dn_aside b4.at_ (x4.dnAll r3 ta3)).append (dn_aside b4.at_ (.cons dw .nil))
                | ob _ => cases el
                | ro _ => cases el
                | ext _ => cases el
      · have e : i = ds.length := by omega
        subst e
        rw [List.drop_length] at el
        unfold lcD at el
        cases el
        rw [List.append_nil] at q2
        refine .inl ⟨gv.stop H G _ x r, fo X.K W σ H1 H G1 G S1 _ accD accV Da Q x hDa r b ta fun S' d ef H' G' x' r' v dv => ?_⟩
        rw [ef] at q2
        exact q2 H' G' x' r' v dv
  · simp only [if_neg hl] at q1; exact q1.elim
theorem PTs.imp {ifs : List Expr} {t t' : TT} (h : PTs X ifs t) (i : ∀ σ H Q, t' σ H Q → t σ H Q) : PTs X ifs t' := ⟨fun pins s σ H Q I q => h.run pins s σ H Q I (i σ H Q q)⟩
variable {elt tg iter : Expr} {ifs : List Expr} {scope : Scope} {own : List (Str × Nat)} {pos spos : Pos} {f : FI} {g : FG} {t : FT} {e : FE} {fin : List PyData → M D}
theorem dts_nil : PTs X [] (rdT X.K W tYesD) := PTs.imp pts_nil fun σ H Q ⟨G, S, ρ, rs, rp, q⟩ => q H G Ext.refl rp
theorem dts_one {c : Expr} (h : DT X W c t) : PTs X [c] (rdT X.K W t) := pts_one h.run
theorem de_lc (fo : FinOk fin) (hc : X.calm = true) (hN : X.N.Nodup) (hi : DI X W tg iter f) (ok : BlkOk X.N X.env.scope scope own)
    (hg : ∀ (s : Shared) (H : Hp) (C : Addr) (cl : List (Str × Addr)) (fp : List Addr), DG (X.blk s H scope (compEnvC scope cl C X.env) fp) (own.map (·.2)) tg g)
    (ht : ∀ (s : Shared) (H : Hp) (C : Addr) (cl : List (Str × Addr)) (fp : List Addr), PTs (X.blk s H scope (compEnvC scope cl C X.env) fp) ifs (rdT X.K W0 t))
    (he : ∀ (s : Shared) (H : Hp) (C : Addr) (cl : List (Str × Addr)) (fp : List Addr), DE (X.blk s H scope (compEnvC scope cl C X.env) fp) W0 elt e) (hs : ∀ x, foldedSetIterable iter X.env x = pure x := by intro _; rfl) :
    DE X W (.ListComp elt [⟨tg, iter, ifs, 0⟩] scope pos) (eLc f g t e (own.map (·.2)) fin) :=
  ⟨PE.imp (pe_lc (g := rdG X.K (own.map (·.2)) g) (te := rd X.K W0 e) hc hN hi.run ok (fun s H C cl fp => (hg s H C cl fp).run) ht (fun s H C cl fp => (he s H C cl fp).run) hs) fun _ _ _ q => lc_read fo q⟩
theorem ds_setLc {i : Nat} {y : Str} {py : Pos} (fo : FinOk fin) (hc : X.calm = true) (hN : X.N.Nodup) (hy : X.N[i]? = some y) (hyl : X.env.scope.names.lookup y = some .local)
    (hsw : swapsWith (.ListComp elt [⟨tg, iter, ifs, 0⟩] scope pos) (some (.Name y py)) spos.line X.env = pure true) (hi : DI X W tg iter f) (ok : BlkOk X.N X.env.scope scope own)
    (hg : ∀ (s : Shared) (H : Hp) (C : Addr) (cl : List (Str × Addr)) (fp : List Addr), DG (X.blk s H scope (compEnvC scope cl C X.env) fp) (own.map (·.2)) tg g)
    (ht : ∀ (s : Shared) (H : Hp) (C : Addr) (cl : List (Str × Addr)) (fp : List Addr), PTs (X.blk s H scope (compEnvC scope cl C X.env) fp) ifs (rdT X.K W0 t))
    (he : ∀ (s : Shared) (H : Hp) (C : Addr) (cl : List (Str × Addr)) (fp : List Addr), DE (X.blk s H scope (compEnvC scope cl C X.env) fp) W0 elt e) (hs : ∀ x, foldedSetIterable iter X.env x = pure x := by intro _; rfl) :
    DS X W (.Assign [.Name y py] (.ListComp elt [⟨tg, iter, ifs, 0⟩] scope pos) spos) (sSet i (eLc f g t e (own.map (·.2)) fin)) := by
  refine ⟨PS.imp (ps_setLc (g := rdG X.K (own.map (·.2)) g) (te := rd X.K W0 e) hc hN hy hyl hsw hi.run ok (fun s H C cl fp => (hg s H C cl fp).run) ht (fun s H C cl fp => (he s H C cl fp).run) hs) fun E σ H ⟨G, S, ρ, rs, rp, q⟩ => ?_⟩
  exact lc_read fo ⟨G, S, ρ, rs, rp, (AftS.st q rs rp).mono fun d H1 G1 S1 x1 r1 q1 v dv => AftS.next q1 Ext.refl r1 ((x1.relS rp rs).set dv i)⟩
end
end DL

namespace DL
open PySem L2 PySem.Spec PyProof.Rows

/-- a def keeps its promise wherever no repr is under way -/
structure FnG (P : Program) (w : World) (K : PySem.W.Frag) (mg : Str → Option Value) (base : Heap) (k : Nat) (f : Addr) (fd : FuncData) (ps : List Str) (sp : Sp) : Prop where
  len : ∀ vs H Q E, sp vs H Q E → vs.length = ps.length
  run : ∀ (A : Around) (outer : List Env) (s : Shared) (H : Hp) (args : Args) (us : List Value) (vs : List V) (Q : VK) (E : XK), Room k A → A.guards = some [] → Env0 P w K mg base A outer s H → BindsTo s fd args (ps.zip us) → Vals vs us → sp vs H Q E →
    codeAny (model P w) A (.call (.ref f) args) (CR CX0 outer P w H s Q E) s

theorem fnG_of {P : Program} {w : World} {K : PySem.W.Frag} {mg : Str → Option Value} {base : Heap} {x qual : Str} {st : Stmt} {f : Addr} {fd : FuncData} {N ps : List Str} {k : Nat} {sp : Sp} (F : Fun K x qual st f fd) (Sc : FnScope N ps (defScope st)) (len : ∀ vs H Q E, sp vs H Q E → vs.length = ps.length)
    (hbody : ∀ (cdv : Value) (A : Around) (outer : List Env) (s : Shared) (H : Hp) (vs : List V) (Q : VK) (E : XK), Room k (A.deeper (envOfC qual (defScope st) s.heap.objs.size f cdv)) → A.guards = some [] → sp vs H Q E →
      ∃ t, PSs (cxOf CX0 P w K mg base N qual (defScope st) f cdv A outer s H E).nox (defBody st) t ∧ t { nx := fun _ H' => Q .non H', rt := Q } (start N vs) H) : FnG P w K mg base (k + 1) f fd ps sp := by
  obtain ⟨oc, od, kV, doc, pm, an, cdv, ct, osl, rfl, lk, hcd⟩ := F.ex
  refine ⟨len, fun A outer s H args us vs Q E hr hgd e0 hb r hsp => ?_⟩
  have hl := len _ _ _ _ hsp
  have keepB : ∀ b o, base.get? b = some o → s.heap.get? b = some o := fun b o e => (e0.bs b o e).1
  have KX : K.In s.heap := e0.mod.kin.keeps keepB
  have lim : s.heap.NoLimit := e0.mod.nolimit.keeps keepB
  obtain ⟨t, ht, hq⟩ := hbody cdv A outer s H vs Q E (hr.deeper _) hgd hsp
  refine codeAny_call_function hr.depth (KX _ _ lk) rfl Sc.co Sc.gen rfl (PySem.W.codeRec_of KX hcd) (hb _ _ _ _ ?_)
  refine wpAny_newFunctionEnv_cells Sc.kind (fun y hy => ?_) fun env he s1 xx => ?_
  · obtain ⟨n, v⟩ := y
    rcases Sc.par n (List.of_mem_zip hy).1 with q | q
    · exact .inl q
    · exact .inr ⟨q, PySem.W.cellsFrom_some _ _ _ (.inl q)⟩
  subst he
  refine ⟨lim.keeps xx.toInCall.keep, codeAny_func ?_⟩
  have I := inv_start (CX := CX0) (E := E) Sc hr.hd e0 hl r xx
  refine wpAny_mono (ht.nox.run [] s1 (start N vs) H _ I hq) (fun fl s' hs => ?_) fun e s' hs => hs
  cases fl with
  | ret u =>
    obtain ⟨v, σ', H', J, rv, q⟩ := hs
    exact ⟨v, H', J.os, J.bare, J.base, J.hok, rv, q⟩
  | next =>
    obtain ⟨σ', H', J, q⟩ := hs
    exact ⟨.non, H', J.os, J.bare, J.base, J.hok, rfl, q⟩
  | brk =>
    obtain ⟨_, _, _, q⟩ := hs
    exact False.elim q
  | cont =>
    obtain ⟨_, _, _, q⟩ := hs
    exact False.elim q

/-- the later objects of the store are forgotten when a def is left -/
def cutD (n : Nat) : Out D → Out D
  | .ok (.ob i) s => if i < n then .ok (.ob i) (s.take n) else .ok (.ob i) s
  | .ok d s => .ok d (s.take n)
  | o => o
def runF (m : Nat) (body : FS) : List D → M D := fun ds S => match body (ds.map some ++ List.replicate (m - ds.length) none) S with
  | some (.ret d, s) => .ok d s
  | some (.next _, s) => .ok (.p .none) s
  | some (.exc x _, s) => .err x s
  | _ => .bad
def spD (K : PySem.W.Frag) (n : Nat) (g : List D → M D) : Sp := fun vs H Q _ => ∃ G S ds, ds.length = n ∧ DenL K H G ds vs ∧ Rep K H G S ∧ Aft K W0 [] H G S (cutD S.length (g ds S)) (QD K Q)
theorem den_cut {K : PySem.W.Frag} {H : Hp} {G : Gh} {n : Nat} {d : D} {v : V} (h : Den K H G d v) (hi : ∀ i, d = .ob i → i < n) : Den K H ⟨G.ι.take n, G.φ⟩ d v := by
  cases d with
  | p x => exact h
  | ob i =>
    obtain ⟨a, rfl, ha⟩ := h
    exact ⟨a, rfl, by show (G.ι.take n)[i]? = some a; rw [List.getElem?_take, if_pos (hi i rfl)]; exact ha⟩
  | ro xs => exact h
  | ext u => exact h
theorem Aft.uncut {K : PySem.W.Frag} {H : Hp} {G : Gh} {S S' : Sto} {d : D} {Q : VK} (rp : Rep K H G S) (q : Aft K W0 [] H G S (cutD S.length (.ok d S')) (QD K Q)) {H' : Hp} {G' : Gh} {v : V} (x : Ext H G S H' G' S') (r : Rep K H' G' S') (dv : Den K H' G' d v) : Q v H' := by
  have fin : (∀ i, d = .ob i → i < S.length) → Aft K W0 [] H G S (.ok d (S'.take S.length)) (QD K Q) → Q v H' := fun hi q => q H' _ (x.cut rp) (r.cut _) v (den_cut dv hi)
  cases d with
  | p y => exact fin (fun i e => nomatch e) q
  | ro y => exact fin (fun i e => nomatch e) q
  | ext y => exact fin (fun i e => nomatch e) q
  | ob i =>
    by_cases hi : i < S.length
    · have q : Aft K W0 [] H G S (if i < S.length then .ok (.ob i) (S'.take S.length) else .ok (.ob i) S') (QD K Q) := q
      rw [if_pos hi] at q
      exact fin (fun j e => by cases e; exact hi) q
    · have q : Aft K W0 [] H G S (if i < S.length then .ok (.ob i) (S'.take S.length) else .ok (.ob i) S') (QD K Q) := q
      rw [if_neg hi] at q
      exact q H' G' x r v dv
theorem fn_data {P : Program} {w : World} {K : PySem.W.Frag} {mg : Str → Option Value} {base : Heap} {x qual : Str} {st : Stmt} {f : Addr} {fd : FuncData} {N ps : List Str} {k m n : Nat} (F : Fun K x qual st f fd) (Sc : FnScope N ps (defScope st)) (hm : N.length = m) (hn : ps.length = n) (body : FS)
    (hb : ∀ (cdv : Value) (A : Around) (outer : List Env) (s : Shared) (H : Hp) (E : XK), Room k (A.deeper (envOfC qual (defScope st) s.heap.objs.size f cdv)) → A.guards = some [] → DSs (cxOf CX0 P w K mg base N qual (defScope st) f cdv A outer s H E).nox W0 (defBody st) body) :
    FnG P w K mg base (k + 1) f fd ps (spD K n (runF m body)) := by
  subst hm hn
  refine fnG_of F Sc (fun vs H Q E ⟨G, S, ds, hl, dl, _⟩ => by rw [← dl.length]; exact hl) fun cdv A outer s H vs Q E hr hgd ⟨G, S, ds, hl, dl, rp, q⟩ => ?_
  refine ⟨_, (hb cdv A outer s H E hr hgd).run, G, S, ds.map some ++ List.replicate (N.length - ds.length) none, ?_, rp, ?_⟩
  · rw [dl.length]
    exact RelS.ofArgs (N.length - vs.length) dl
  · unfold runF at q
    cases eo : body (ds.map some ++ List.replicate (N.length - ds.length) none) S with
    | none => rw [eo] at q; exact q
    | some pr =>
      obtain ⟨fl, S'⟩ := pr
      rw [eo] at q
      cases fl with
      | ret d => exact fun H' G' v x r dv => Aft.uncut rp q x r dv
      | next ρ' => exact fun H' G' σ' x r rs => Aft.uncut (d := .p .none) rp q x r .non
      | brk ρ' => exact q.elim
      | cont ρ' => exact q.elim
      | exc y ρ' => exact fun H' G' σ' d x r rs e => q H' G' d x r e
/-- nothing can be asked of a def without fuel -/
theorem fn_none {P : Program} {w : World} {K : PySem.W.Frag} {mg : Str → Option Value} {base : Heap} {f : Addr} {fd : FuncData} {ps : List Str} {k n : Nat} (hn : ps.length = n) : FnG P w K mg base k f fd ps (spD K n fun _ _ => .bad) :=
  ⟨fun vs H Q E ⟨_, _, _, _, _, _, q⟩ => q.elim, fun _ _ _ _ _ _ _ _ _ _ _ _ _ _ ⟨_, _, _, _, _, _, q⟩ => q.elim⟩

def eCall (n : Nat) (g : List D → M D) (fa : FA) : FE := fun ρ S => (fa ρ S).bind fun ds S1 => if ds.length = n then noErr (cutD S1.length (g ds S1)) else .bad
section
variable {X : Cx} {W : WX} {k n : Nat} {f : Addr} {fd : FuncData} {ps : List Str} {sp : Sp} {x : Str} {p pos : Pos} {e : Expr} {es : List Expr} {fa : FA} {g : List D → M D}
theorem run_fnG {pins : List (Addr × Obj)} {σ : L2.St} {H : Hp} {s : Shared} {Q : VK} {us : List Value} {vs : List V} (F : FnG X.prog X.w X.K X.mg X.base k f fd ps sp) (hr : Room k X.A) (hgd : X.A.guards = some []) (hb : Binds X.K fd ps [])
    (I : Inv X pins σ H s) (r : Vals vs us) (h : sp vs H Q E0) : wpAny (model X.prog X.w) X.A (call (.ref f) us) (EP X pins σ Q) X.xe s := by
  have hl : us.length = ps.length := by rw [← r.length]; exact F.len _ _ _ _ h
  have hbs := hb s us I.kIn (by simpa using hl)
  rw [List.append_nil] at hbs
  refine wpAny_call (codeAny_mono (F.run X.A X.stack s H ⟨us, []⟩ us vs Q E0 hr hgd I.env0 hbs r h) fun res s' hq => ?_)
  match res, hq with
  | .error e, hq => exact False.elim hq
  | .ok (.ret u), hq => exact I.after hq
  | .ok .next, hq => exact False.elim hq
  | .ok .brk, hq => exact False.elim hq
  | .ok .cont, hq => exact False.elim hq
theorem call_read {σ : L2.St} {H : Hp} {Q : VK} (q : rd X.K W (eCall n g fa) σ H Q) : rdA X.K W fa σ H fun vs H1 => spD X.K n g vs H1 Q E0 := by
  obtain ⟨G, S, ρ, rs, rp, q⟩ := q
  refine ⟨G, S, ρ, rs, rp, (Aft.bind q).mono fun ds H1 G1 S1 x1 r1 q1 vs dv => ?_⟩
  by_cases hl : ds.length = n
  · simp only [if_pos hl] at q1
    exact ⟨G1, S1, ds, hl, dv, r1, Aft.noErr q1⟩
  · simp only [if_neg hl] at q1; exact q1.elim
theorem de_call (F : FnG X.prog X.w X.K X.mg X.base k f fd ps (spD X.K n g)) (hr : Room k X.A) (hgd : X.A.guards = some []) (hg : Gl X x) (hm : X.mg x = some (.ref f)) (hk : PySem.W.keepIn X.K (.ref f) = true) (hb : Binds X.K fd ps [])
    (ha : DA X W (e :: es) fa) (hdb : (x == ("__debug__" : Str)) = false := by decide) (he : starEach (e :: es) X.env = (false, eval e X.env) :: starEach es X.env := by rfl) (hpl : (backTo pos (starEach es X.env)).any (·.1) = false := by rfl) :
    DE X W (.Call (.Name x p) (e :: es) [] pos) (eCall n g fa) := by
  refine ⟨⟨fun pins s σ H Q I h => wpAny_Call_Name_kw (ld_glob I hg hm ?_ hdb)⟩⟩
  refine PySem.W.callWith_K (h₀ := X.base) I.ok.mod.kin hk (thn (ha.run.run pos pins s σ H _ I (call_read h)) fun us s1 ⟨vs, H1, I1, r, q⟩ => ⟨I1.kIn, run_fnG F hr hgd hb I1 r q⟩) he hpl
theorem de_call0 (F : FnG X.prog X.w X.K X.mg X.base k f fd ps (spD X.K n g)) (hr : Room k X.A) (hgd : X.A.guards = some []) (hg : Gl X x) (hm : X.mg x = some (.ref f)) (hk : PySem.W.keepIn X.K (.ref f) = true) (hb : Binds X.K fd ps [])
    (hdb : (x == ("__debug__" : Str)) = false := by decide) : DE X W (.Call (.Name x p) [] [] pos) (eCall n g aNil) := by
  refine ⟨⟨fun pins s σ H Q I h => wpAny_Call_Name_kw (ld_glob I hg hm ?_ hdb)⟩⟩
  obtain ⟨G, S, ρ, rs, rp, q⟩ := call_read h
  exact PySem.W.callWith_K0 I.kIn hk (run_fnG (us := []) F hr hgd hb I .nil (q H G Ext.refl rp [] .nil))
end

/-- what the law's def is to do: at every script, True -/
def spLaw (K : PySem.W.Frag) (g : List D → M D) : Sp := spD K 1 g
theorem law_go {P : Program} {w : World} {K : PySem.W.Frag} {mg mb : Str → Option Value} {k : Nat} {fa a : Addr} {fd : FuncData} {x : Str} {sp : Sp} {s₁ : Shared} {vs : List Value} {ns : List Int}
    (KX : K.In s₁.heap) (hns : s₁.heap.Ns mainGlobals mg) (hb : s₁.heap.Ns builtinsNs mb) (hbb : ∀ x : Str, x ≠ "__name__" → mb x = bootBuiltins x) (hlim : s₁.heap.NoLimit) (hg : s₁.gens = #[])
    (ha : s₁.heap.get? a = some { cls := .type "list", data := .seq vs.toArray }) (hi : IntsAre vs ns) (hl : ns.length ≤ sizeLine) (hr : Room k callerA)
    (F : ∀ base : Heap, K.In base → base.Ns mainGlobals mg → FnG P w K mg base k fa fd [x] sp) (hbind : ∀ (s : Shared) (u : Value), BindsTo s fd ⟨[u], []⟩ [(x, u)])
    (hsp : ∀ H : Hp, Only H → SqL K H a (ns.map V.int) → sp [.ref a] H (fun v _ => v = .bl true) fun _ _ _ => False) :
    codeAny (model P w) callerA (.call (.ref fa) ⟨[.ref a], []⟩) (fun r s' => r = .ok (.ret (.bool true)) ∧ OldK s₁.heap s'.heap ∧ s'.os = s₁.os ∧ AllBare s'.gens) s₁ := by
  have rv := vals_ints hi
  have lenV := hi.length
  have main : ∀ H : Hp, Only H → SqL K H a (ns.map V.int) → HOk P w H s₁.heap → (∀ b, H b ≠ none → b = a) → (H a ≠ none → K.lookup a = none) →
      codeAny (model P w) callerA (.call (.ref fa) ⟨[.ref a], []⟩) (fun r s' => r = .ok (.ret (.bool true)) ∧ OldK s₁.heap s'.heap ∧ s'.os = s₁.os ∧ AllBare s'.gens) s₁ := by
    intro H hO hS hok hA hK
    have free : ∀ {b : Addr} {o : Obj} {es : Array DictEntry} {ep : Nat}, s₁.heap.get? b = some o → o.data = .dict es ep → H b = none := fun {b o es ep} e d => by
      by_cases q : H b = none
      · exact q
      · have e' := hA b q
        subst e'
        rw [ha] at e; cases e
        cases (show Data.seq vs.toArray _ = Data.dict es ep from d)
    have nsK : ∀ {b : Addr} {m : Str → Option Value}, s₁.heap.Ns b m → (hidT s₁.heap H).Ns b m := fun ⟨o, es, ep, e, d, r⟩ => ⟨o, es, ep, hidT_get e (free e d), d, r⟩
    have hKb : K.In (hidT s₁.heap H) := fun b o e => hidT_get (KX b o e) (by
      by_cases q : H b = none
      · exact q
      · have e' := hA b q
        subst e'
        rw [hK q] at e; cases e)
    obtain ⟨mc, l1, l2⟩ := id hlim
    have hM : Mod K mg (hidT s₁.heap H) := ⟨hKb, nsK hns, ⟨mb, nsK hb, hbb⟩, ⟨mc, nsK l1, l2⟩⟩
    have e0 : Env0 P w K mg (hidT s₁.heap H) callerA [] s₁ H := ⟨rfl, hM, fun b o e => of_hidT e, Nat.le_of_eq (hidT_size _ _), trivial, fun b hb => absurd (show b ∈ ([] : List Addr) from hb) (by simp), hok, .of_eq hg⟩
    refine codeAny_mono ((F _ hKb (nsK hns)).run callerA [] s₁ H ⟨[.ref a], []⟩ [.ref a] [.ref a] _ _ hr rfl e0 (hbind s₁ (.ref a)) (.cons rfl .nil) (hsp H hO hS)) fun r s' h => ?_
    match r, h with
    | .error e, h => exact False.elim h
    | .ok .next, h => exact False.elim h
    | .ok .brk, h => exact False.elim h
    | .ok .cont, h => exact False.elim h
    | .ok (.ret u), h =>
      obtain ⟨v, H', os, bare, un, hok', r', q⟩ := h
      have q' : v = .bl true := q
      subst q'
      obtain rfl : u = Value.bool true := r'
      refine ⟨rfl, OldK.of_keep fun b o e => ?_, os, bare⟩
      rcases hO b with z | ⟨ob, xs, z⟩
      · exact un.keep b o e z (fun y => absurd (show b ∈ ([] : List Addr) from y) (by simp)) (by simp)
      · obtain ⟨e1, _⟩ := hok b _ z
        obtain ⟨e2, _⟩ := hok' b _ (un.frzs b ob _ z)
        rw [e] at e1; cases e1
        exact e2
  cases hk : K.lookup a with
  | some o =>
    have e := KX a o hk
    rw [ha] at e
    cases e
    refine main (fun _ => none) (fun _ => .inl rfl) (.inr ⟨_, vs.toArray, _, hk, rfl, rfl, rfl, by rw [List.size_toArray, lenV]; exact hl, by simpa using rv⟩) (fun b u z => by cases (show (none : Option HO) = some u from z)) (fun b z => absurd rfl z) fun z => absurd rfl z
  | none =>
    refine main (upd (fun _ => none) a (.frz { cls := .type "list", data := .seq vs.toArray } (.lst (ns.map V.int)))) (fun b => ?_) (.inl (.inr ⟨{ cls := .type "list", data := .seq vs.toArray }, upd_same⟩)) (fun b u z => ?_) (fun b z => ?_) fun _ => hk
    · by_cases hb : b = a
      · subst hb; exact .inr ⟨_, _, upd_same⟩
      · rw [upd_ne hb]; exact .inl rfl
    · by_cases hb : b = a
      · subst hb
        rw [upd_same] at z; cases z
        exact ⟨ha, by rw [List.length_map]; exact hl, vs, _, rv, ha⟩
      · rw [upd_ne hb] at z; cases z
    · by_cases hb : b = a
      · exact hb
      · rw [upd_ne hb] at z; exact absurd rfl z
def nums (ns : List Int) : List PyData := ns.map .int
theorem nums_dn {K : PySem.W.Frag} {φ : List (Addr × HO)} {H : Hp} : ∀ ns : List Int, DnAll K φ H (nums ns) (ns.map V.int)
  | [] => .nil
  | n :: ns => .cons (.int n) (nums_dn ns)
/-- at the law's entry: the store is empty, the script is a list that is only read -/
theorem law_sp {K : PySem.W.Frag} {g : List D → M D} {ns : List Int} {a : Addr} {H : Hp} (h : ∃ S', g [.ro (nums ns)] [] = .ok (.p (.bool true)) S') (hO : Only H) (hS : SqL K H a (ns.map V.int)) : spD K 1 g [.ref a] H (fun v _ => v = .bl true) fun _ _ _ => False := by
  obtain ⟨S', e⟩ := h
  have fin : ∀ (φ : List (Addr × HO)), Holds φ H → RL K φ a (ns.map V.int) → spD K 1 g [.ref a] H (fun v _ => v = .bl true) fun _ _ _ => False := fun φ hφ hr => by
    refine ⟨⟨[], φ⟩, [], [.ro (nums ns)], rfl, .cons ⟨a, _, rfl, hr, nums_dn ns⟩ .nil, ⟨rfl, List.nodup_nil, fun i b o h => by simp at h, hφ, fun p _ l => ?_⟩, ?_⟩
    · obtain ⟨i, o, h, _⟩ := l
      simp at h
    · rw [e]
      exact fun H' G' x r v dv => den_bool dv
  rcases hS with (h | ⟨o, h⟩) | h
  · exact fin [(a, .lst (ns.map V.int))] (fun p hp => by obtain rfl := List.mem_singleton.mp hp; exact h) fun H' q => SqL.of (q _ (List.mem_singleton.mpr rfl))
  · exact fin [(a, .frz o (.lst (ns.map V.int)))] (fun p hp => by obtain rfl := List.mem_singleton.mp hp; exact h) fun H' q => .inl (.inr ⟨o, q _ (List.mem_singleton.mpr rfl)⟩)
  · exact fin [] (fun p hp => by cases hp) fun H' _ => .inr h
/-- from the law's mirror to the walk that k_head leaves -/
theorem walk_data {l : PySem.W.OpenLaw} {k : Nat} {q : Program} {loose : List Str} {XP : (Str → Option Value) → Heap → Prop} {YP : World → Heap → Prop} {d : DefRec} {K : Params → PySem.W.Frag} {x : Str} {g : List D → M D}
    (hn : l.most = some 63) (hdf : d.params.defaults = []) (hr : Room k callerA) (hY : ∀ (w : World) (h : Heap), YP w h → (K w.params).In h)
    (F : ∀ (w : World) (mg : Str → Option Value) (fa : Addr) (h : Heap), (K w.params).In h → h.Ns mainGlobals mg → mg d.name = some (.ref fa) →
      ∃ fd : FuncData, (∀ (s : Shared) (u : Value), BindsTo s fd ⟨[u], []⟩ [(x, u)]) ∧ ∀ base : Heap, (K w.params).In base → base.Ns mainGlobals mg → FnG l.prog w (K w.params) mg base k fa fd [x] (spD (K w.params) 1 g))
    (hg : ∀ ns : List Int, ns.length ≤ 63 → ∃ S', g [.ro (nums ns)] [] = .ok (.p (.bool true)) S') : PySem.W.WalkO q loose XP YP l.row.toRowW d [] (fun f vs => PySem.call f vs) := by
  refine Att.attach_call hn hdf fun w s₀ s₁ mg mb fa o pm cd doc a vs ns G Y ho hd hcd hmg hobj hints hlen hgn => ?_
  have KX := hY w _ Y
  obtain ⟨fd, hb, hF⟩ := F w mg fa _ KX G.T.g hmg
  exact law_go KX G.T.g G.T.b G.T.builtins G.T.nolimit hgn hobj hints (Nat.le_trans hlen (by decide)) hr hF hb fun H hO hS => law_sp (hg ns hlen) hO hS
end DL

namespace DL
open PySem L2 PySem.Spec PyProof.Rows

mutual
inductive RD (h : Heap) : Value → PyData → Prop
  | none : RD h .none .none
  | bool (b) : RD h (.bool b) (.bool b)
  | int (i t) : RD h (.int i t) (.int i)
  | str (x t) : RD h (.str x t) (.str x)
  | list {a o vs n xs} : h.get? a = some o → o.cls = .type "list" → o.data = .seq vs n → RDs h vs.toList xs → RD h (.ref a) (.list xs)
  | tuple {a o vs n xs} : h.get? a = some o → o.cls = .type "tuple" → o.data = .seq vs n → RDs h vs.toList xs → RD h (.ref a) (.tuple xs)
  | dict {a o es n kvs} : h.get? a = some o → o.cls = .type "dict" → o.data = .dict es n → (a == sysModules) = false → RDs h (es.toList.map (·.key)) (kvs.map (·.1)) → RDs h (es.toList.map (·.val)) (kvs.map (·.2)) → RD h (.ref a) (.dict kvs)
inductive RDs (h : Heap) : List Value → List PyData → Prop
  | nil : RDs h [] []
  | cons {v vs d ds} : RD h v d → RDs h vs ds → RDs h (v :: vs) (d :: ds)
end
mutual
theorem RD.reads {h : Heap} : ∀ {v : Value} {d : PyData}, RD h v d → ∃ as, Reads h v d as
  | _, _, .none => ⟨_, .none⟩
  | _, _, .bool b => ⟨_, .bool b⟩
  | _, _, .int i t => ⟨_, .int i t⟩
  | _, _, .str x t => ⟨_, .str x t⟩
  | _, _, .list h1 h2 h3 h4 => let ⟨as, r⟩ := h4.reads; ⟨_, .list h1 h2 h3 r⟩
  | _, _, .tuple h1 h2 h3 h4 => let ⟨as, r⟩ := h4.reads; ⟨_, .tuple h1 h2 h3 r⟩
  | _, _, .dict h1 h2 h3 _ h4 h5 => let ⟨as, r⟩ := h4.reads; let ⟨bs, r'⟩ := h5.reads; ⟨_, .dict h1 h2 h3 r r'⟩
theorem RDs.reads {h : Heap} : ∀ {vs : List Value} {ds : List PyData}, RDs h vs ds → ∃ as, ReadsAll h vs ds as
  | _, _, .nil => ⟨_, .nil⟩
  | _, _, .cons a b => let ⟨as, r⟩ := a.reads; let ⟨bs, r'⟩ := b.reads; ⟨_, .cons r r'⟩
end
section
variable {prog : Program} {w : World} {h₀ : Heap}
theorem deepD {n m : Nat} : n < 1 + max n m := by omega
mutual
theorem RD.reprK : ∀ {v : Value} {d : PyData}, RD h₀ v d → d.showable = true → d.shown.length ≤ sizeLine → ∃ bs, ReadAtMost h₀ d.depth bs ∧ ReprK prog w bs h₀ d.depth v d.shown
  | _, _, .none, _, _ => ⟨[], (fun _ h => nomatch h), by simp only [PyData.shown]; exact .of_is ReprIs.none _ _ _⟩
  | _, _, .bool b, _, _ => ⟨[], (fun _ h => nomatch h), by simp only [PyData.shown]; exact .of_is (ReprIs.bool b) _ _ _⟩
  | _, _, .int i t, hs, _ => ⟨[], (fun _ h => nomatch h), by simp only [PyData.shown]; exact .of_is (ReprIs.int t (by simpa [PyData.showable] using hs)) _ _ _⟩
  | _, _, .str x t, _, hz => ⟨[], (fun _ h => nomatch h), by simp only [PyData.shown]; exact .of_is (ReprIs.str x t (by simpa only [PyData.shown] using hz)) _ _ _⟩
  | _, _, .list (a := a) (vs := vs) (xs := xs) h1 h2 h3 h4, hs, hz => by
    simp only [PyData.shown] at hz
    obtain ⟨bs, hb, hk⟩ := RDs.reprK h4 (by simpa [PyData.showable] using hs) fun t ht => Nat.le_trans (listText_mem_le ht) hz
    obtain ⟨as, rr⟩ := h4.reads
    have r := Reads.list h1 h2 h3 rr
    refine ⟨a :: bs, ReadAtMost.cons r (by simp only [PyData.depth]; omega) hb, ?_⟩
    have hna := not_mem_of_deeper r (by simp only [PyData.depth]; omega) hb
    simp only [PyData.depth, PyData.shown]
    obtain ⟨l⟩ := vs
    cases l with
    | nil =>
      cases (show RDs h₀ [] xs from h4)
      simp only [PyData.shownAll, listText_nil]
      exact ReprK.listEmpty h1 h2 h3
    | cons x l => exact ReprK.list h1 h2 h3 hna (by simpa using hk.length_eq) fun i y e => hk.item i y (by simpa using e)
  | _, _, .tuple (a := a) (xs := xs) h1 h2 h3 h4, hs, hz => by
    simp only [PyData.shown] at hz
    obtain ⟨bs, hb, hk⟩ := RDs.reprK h4 (by simpa [PyData.showable] using hs) fun t ht => Nat.le_trans (tupleText_mem_le ht) hz
    obtain ⟨as, rr⟩ := h4.reads
    have r := Reads.tuple h1 h2 h3 rr
    refine ⟨a :: bs, ReadAtMost.cons r (by simp only [PyData.depth]; omega) hb, ?_⟩
    have hna := not_mem_of_deeper r (by simp only [PyData.depth]; omega) hb
    simp only [PyData.depth, PyData.shown]
    exact ReprK.tuple h1 h2 h3 hna hk
  | _, _, .dict (a := a) (es := es) (kvs := kvs) h1 h2 h3 hsys h4 h5, hs, hz => by
    simp only [PyData.shown] at hz
    obtain ⟨hs1, hs2⟩ := PyData.showableKv_split kvs (by simpa [PyData.showable] using hs)
    have z1 : ∀ t ∈ PyData.shownAll (kvs.map (·.1)), t.length ≤ sizeLine := fun t ht => by
      obtain ⟨p, hp, hl⟩ := PyData.shownKv_key_le kvs t ht
      exact Nat.le_trans hl (Nat.le_trans (dictText_mem_le hp) hz)
    have z2 : ∀ t ∈ PyData.shownAll (kvs.map (·.2)), t.length ≤ sizeLine := fun t ht => by
      obtain ⟨p, hp, hl⟩ := PyData.shownKv_val_le kvs t ht
      exact Nat.le_trans hl (Nat.le_trans (dictText_mem_le hp) hz)
    obtain ⟨b1, hb1, k1⟩ := RDs.reprK h4 hs1 z1
    obtain ⟨b2, hb2, k2⟩ := RDs.reprK h5 hs2 z2
    obtain ⟨as, r1⟩ := h4.reads
    obtain ⟨cs, r2⟩ := h5.reads
    have r := Reads.dict h1 h2 h3 r1 r2
    have hb : ReadAtMost h₀ (PyData.depthKv kvs) (b1 ++ b2) := (hb1.mono (PyData.depthAll_keys_le kvs)).append (hb2.mono (PyData.depthAll_vals_le kvs))
    refine ⟨a :: (b1 ++ b2), ReadAtMost.cons r (by simp only [PyData.depth]; omega) hb, ?_⟩
    have hna := not_mem_of_deeper r (by simp only [PyData.depth]; omega) hb
    simp only [PyData.depth, PyData.shown, PyData.shownKv_eq]
    exact ReprK.dict h1 h2 h3 hsys hna (ReprEntriesK.of_two es.toList _ _ (k1.more_le (fun b hb => List.mem_append_left _ hb) (PyData.depthAll_keys_le kvs)) (k2.more_le (fun b hb => List.mem_append_right _ hb) (PyData.depthAll_vals_le kvs)))
theorem RDs.reprK : ∀ {vs : List Value} {ds : List PyData}, RDs h₀ vs ds → PyData.showableAll ds = true → (∀ t ∈ PyData.shownAll ds, t.length ≤ sizeLine) → ∃ bs, ReadAtMost h₀ (PyData.depthAll ds) bs ∧ ReprAllK prog w bs h₀ (PyData.depthAll ds) vs (PyData.shownAll ds)
  | _, _, .nil, _, _ => ⟨[], (fun _ h => nomatch h), by simp only [PyData.shownAll]; exact .nil⟩
  | _, _, .cons (d := d) (ds := ds) r rs, hs, hz => by
    simp only [PyData.showableAll, Bool.and_eq_true] at hs
    simp only [PyData.shownAll] at hz
    obtain ⟨b1, hb1, k1⟩ := RD.reprK r hs.1 (hz _ List.mem_cons_self)
    obtain ⟨b2, hb2, k2⟩ := RDs.reprK rs hs.2 fun t ht => hz t (List.mem_cons_of_mem _ ht)
    simp only [PyData.depthAll, PyData.shownAll]
    exact ⟨b1 ++ b2, (hb1.mono (Nat.le_max_left _ _)).append (hb2.mono (Nat.le_max_right _ _)), .cons ((k1.more fun b hb => List.mem_append_left _ hb).level_le (Nat.le_max_left _ _)) (k2.more_le (fun b hb => List.mem_append_right _ hb) (Nat.le_max_right _ _))⟩
end
theorem repr_RD {v : Value} {d : PyData} {A : Around} {E : Value → Shared → Prop} {s : Shared} {Q : Value → Shared → Prop} (r : RD s.heap v d) (hs : d.showable = true) (hz : d.shown.length ≤ sizeLine) (hg : A.guards = some []) (hu : A.units + (d.depth + 1) < cLine)
    (hQ : ∀ h' u tk, (∀ b o, s.heap.get? b = some o → h'.get? b = some o) → Q (.str d.shown u) { s with heap := h', toks := tk }) : wpAny (model prog w) A (call (.builtin "repr") [v]) Q E s := by
  have hu1 : A.in1.units + d.depth < cLine := by show A.units + 1 + d.depth < cLine; omega
  cases r with
  | none => exact PySem.P.repr_of_none (by simpa only [PyData.shown] using hQ s.heap s.toks (s.toks + 1) fun _ _ e => e)
  | bool b => exact PySem.P.repr_of_bool (by simpa only [PyData.shown] using hQ s.heap s.toks (s.toks + 1) fun _ _ e => e)
  | int i t => exact PySem.P.repr_of_int (by simpa [PyData.showable] using hs) (by simpa only [PyData.shown] using hQ s.heap s.toks (s.toks + 1) fun _ _ e => e)
  | str x t => exact PySem.P.repr_of_str (by simpa only [PyData.shown] using hQ s.heap s.toks (s.toks + 1) fun _ _ e => e) (by simpa only [PyData.shown] using hz)
  | list h1 h2 h3 h4 =>
    rename_i a o vs n xs
    simp only [PyData.shown] at hz hQ
    obtain ⟨bs, hb, hk⟩ := RDs.reprK (prog := prog) (w := w) h4 (by simpa [PyData.showable] using hs) fun t ht => Nat.le_trans (listText_mem_le ht) hz
    obtain ⟨as, rr⟩ := h4.reads
    have hna := not_mem_of_deeper (Reads.list h1 h2 h3 rr) (by simp only [PyData.depth]; omega) hb
    simp only [PyData.depth] at hu1
    refine call_repr_slot (by omega) ⟨o, h1, h2⟩ F.slot_list_repr.toG ?_
    obtain ⟨l⟩ := vs
    cases l with
    | nil =>
      cases (show RDs s.heap [] xs from h4)
      simp only [PyData.shownAll, listText_nil] at hQ
      exact call_list_repr_empty ⟨o, h1, h2⟩ h1 h3 ⟨_, _, rfl, hQ s.heap _ _ fun _ _ e => e⟩
    | cons x l => exact call_list_reprK h1 h2 h3 hna (by simpa using hk.length_eq) (fun i y e => hk.item i y (by simpa using e)) hg (fun b _ => Clear.nil b) hu1 (fun _ _ e => e) (fun h' u tk hk => ⟨_, _, rfl, hQ h' u tk hk⟩) hz
  | tuple h1 h2 h3 h4 =>
    rename_i a o vs n xs
    simp only [PyData.shown] at hz hQ
    obtain ⟨bs, hb, hk⟩ := RDs.reprK (prog := prog) (w := w) h4 (by simpa [PyData.showable] using hs) fun t ht => Nat.le_trans (tupleText_mem_le ht) hz
    obtain ⟨as, rr⟩ := h4.reads
    have hna := not_mem_of_deeper (Reads.tuple h1 h2 h3 rr) (by simp only [PyData.depth]; omega) hb
    simp only [PyData.depth] at hu1
    exact call_repr_slot (by omega) ⟨o, h1, h2⟩ F.slot_tuple_repr (call_tuple_reprK h1 h2 h3 hna hk hg (fun b _ => Clear.nil b) hu1 (fun _ _ e => e) (fun h' u tk hk => ⟨_, _, rfl, hQ h' u tk hk⟩) hz)
  | dict h1 h2 h3 hsys h4 h5 =>
    rename_i a o es n kvs
    simp only [PyData.shown] at hz hQ
    obtain ⟨hs1, hs2⟩ := PyData.showableKv_split kvs (by simpa [PyData.showable] using hs)
    have z1 : ∀ t ∈ PyData.shownAll (kvs.map (·.1)), t.length ≤ sizeLine := fun t ht => by
      obtain ⟨p, hp, hl⟩ := PyData.shownKv_key_le kvs t ht
      exact Nat.le_trans hl (Nat.le_trans (dictText_mem_le hp) hz)
    have z2 : ∀ t ∈ PyData.shownAll (kvs.map (·.2)), t.length ≤ sizeLine := fun t ht => by
      obtain ⟨p, hp, hl⟩ := PyData.shownKv_val_le kvs t ht
      exact Nat.le_trans hl (Nat.le_trans (dictText_mem_le hp) hz)
    obtain ⟨b1, hb1, k1⟩ := RDs.reprK (prog := prog) (w := w) h4 hs1 z1
    obtain ⟨b2, hb2, k2⟩ := RDs.reprK (prog := prog) (w := w) h5 hs2 z2
    obtain ⟨as, r1⟩ := h4.reads
    obtain ⟨cs, r2⟩ := h5.reads
    have hb : ReadAtMost s.heap (PyData.depthKv kvs) (b1 ++ b2) := (hb1.mono (PyData.depthAll_keys_le kvs)).append (hb2.mono (PyData.depthAll_vals_le kvs))
    have hna := not_mem_of_deeper (Reads.dict h1 h2 h3 r1 r2) (by simp only [PyData.depth]; omega) hb
    simp only [PyData.depth] at hu1
    rw [PyData.shownKv_eq] at hz hQ
    exact call_repr_slot (by omega) ⟨o, h1, h2⟩ F.slot_dict_repr (call_dict_reprK h1 h2 h3 hsys hna (ReprEntriesK.of_two es.toList _ _
      (k1.more_le (fun b hb => List.mem_append_left _ hb) (PyData.depthAll_keys_le kvs)) (k2.more_le (fun b hb => List.mem_append_right _ hb) (PyData.depthAll_vals_le kvs))) hg (fun b _ => Clear.nil b) hu1 (fun _ _ e => e) (fun h' u tk hk => ⟨_, _, rfl, hQ h' u tk hk⟩) hz)
end
end DL

namespace DL
open PySem L2 PySem.Spec PyProof.Rows

section
variable {X : Cx} {W : WX} {x : Str} {p pos : Pos} {e : Expr} {es : List Expr} {fa : FA} {id T : String} {r : List V → Hp → VK → Prop} {g : List D → M D}
theorem sim_A (m : SimA X.K r g) {σ : L2.St} {H : Hp} {Q : VK} (q : rd X.K W (eA g fa) σ H Q) : tCB r (rdA X.K W fa) σ H Q := by
  obtain ⟨G, S, ρ, rs, rp, q⟩ := q
  exact ⟨G, S, ρ, rs, rp, (Aft.bind q).mono fun ds H1 G1 S1 x1 r1 q1 vs dv => m W σ H1 G1 S1 ds vs Q r1 dv q1⟩
theorem de_callB (hc : CallR X (.builtin id) r) (m : SimA X.K r g) (hg : Gl X x) (hm : X.mg x = none) (hv : bootBuiltins x = some (.builtin id)) (ha : DA X W (e :: es) fa) (hn : x ≠ "__name__" := by decide) (hdb : (x == ("__debug__" : Str)) = false := by decide)
    (he : starEach (e :: es) X.env = (false, eval e X.env) :: starEach es X.env := by rfl) (hpl : (backTo pos (starEach es X.env)).any (·.1) = false := by rfl) : DE X W (.Call (.Name x p) (e :: es) [] pos) (eA g fa) :=
  ⟨PE.imp (pe_callB hc hg hm hv ha.run hn hdb he hpl) fun _ _ _ q => sim_A m q⟩
theorem de_callTy (hc : CallR X (.type T) r) (m : SimA X.K r g) (hg : Gl X x) (hm : X.mg x = none) (hv : bootBuiltins x = some (.type T)) (ha : DA X W (e :: es) fa) (hn : x ≠ "__name__" := by decide) (hdb : (x == ("__debug__" : Str)) = false := by decide)
    (he : starEach (e :: es) X.env = (false, eval e X.env) :: starEach es X.env := by rfl) (hpl : (backTo pos (starEach es X.env)).any (·.1) = false := by rfl) : DE X W (.Call (.Name x p) (e :: es) [] pos) (eA g fa) :=
  ⟨PE.imp (pe_callTy hc hg hm hv ha.run hn hdb he hpl) fun _ _ _ q => sim_A m q⟩
end
section
variable {K : PySem.W.Frag} {H : Hp} {G : Gh}
theorem denL1 {d : D} {vs : List V} (h : DenL K H G [d] vs) : ∃ v, vs = [v] ∧ Den K H G d v := by
  cases h with
  | cons h t => cases t; exact ⟨_, rfl, h⟩
theorem denL2 {d e : D} {vs : List V} (h : DenL K H G [d, e] vs) : ∃ v w, vs = [v, w] ∧ Den K H G d v ∧ Den K H G e w := by
  cases h with
  | cons h t => cases t with
    | cons h2 t => cases t; exact ⟨_, _, rfl, h, h2⟩
end

def lenM : List D → M D := fun ds S => match ds with
  | [d] => match d with
    | .p (.str z) => if z.length ≤ LIM then .ok (.p (.int z.length)) S else .bad
    | d => match seqOf S d with
      | some xs => .ok (.p (.int xs.length)) S
      | none => match dicOf S d with
        | some kvs => .ok (.p (.int kvs.length)) S
        | none => .bad
  | _ => .bad
def rLen (K : PySem.W.Frag) : List V → Hp → VK → Prop := fun xs H Q => (∃ p ys, xs = [.ref p] ∧ (SqL K H p ys ∨ SqT K H p ys) ∧ Q (.int ys.length) H) ∨ (∃ z, xs = [.str z] ∧ z.length ≤ sizeLine ∧ Q (.int z.length) H) ∨ ∃ a kvs, xs = [V.ref a] ∧ H a = some (.dK kvs) ∧ Q (.int kvs.length) H
theorem sim_len {K : PySem.W.Frag} : SimA K (rLen K) lenM := by
  intro W σ H G S xs vs Q rp dv q
  unfold lenM at q
  split at q
  · rename_i d
    obtain ⟨v, rfl, dv1⟩ := denL1 dv
    replace dv := dv1
    split at q
    · rename_i z
      by_cases hz : z.length ≤ LIM
      · rw [if_pos hz] at q
        rw [den_str dv]
        exact .inr (.inl ⟨z, rfl, Nat.le_trans hz LIM_le, q.ret rp (.int _)⟩)
      · rw [if_neg hz] at q; exact q.elim
    · split at q
      · rename_i xs es
        obtain ⟨a, us, rfl, hq, t⟩ := seqOf_den rp es dv
        refine .inl ⟨a, us, rfl, hq, ?_⟩
        rw [← t.length]
        exact q.ret rp (.int _)
      · split at q
        · rename_i kvs es
          obtain ⟨a, ws, rfl, hH, r⟩ := dicOf_den rp es dv
          refine .inr (.inr ⟨a, ws, rfl, hH, ?_⟩)
          rw [← r.length]
          exact q.ret rp (.int _)
        · exact q.elim
  · exact q.elim
section
variable {X : Cx} {W : WX} {p pos : Pos} {e : Expr} {fa : FA}
theorem de_len (hg : Gl X "len") (hm : X.mg "len" = none) (ha : DA X W [e] fa) (he : starEach [e] X.env = (false, eval e X.env) :: starEach [] X.env := by rfl) : DE X W (.Call (.Name "len" p) [e] [] pos) (eA lenM fa) :=
  de_callB (call_len_seq.or (call_len_str.or call_lenD)) sim_len hg hm PySem.boot_len ha (by decide) (by decide) he

def intM : List D → M D := fun ds S => match ds with
  | [.p (.int i)] => .ok (.p (.int i)) S
  | [.p (.bool b)] => .ok (.p (.int (if b then 1 else 0))) S
  | _ => .bad
theorem de_int1 (hg : Gl X "int") (hm : X.mg "int" = none) (ha : DA X W [e] fa) (he : starEach [e] X.env = (false, eval e X.env) :: starEach [] X.env := by rfl) : DE X W (.Call (.Name "int" p) [e] [] pos) (eA intM fa) :=
  de_callTy (r := fun xs H Q => (∃ i, xs = [.int i] ∧ Q (.int i) H) ∨ ∃ k, xs = [.bl k] ∧ Q (.int (if k then 1 else 0)) H) call_int1 (by
    intro W σ H G S xs vs Q rp dv q
    unfold intM at q
    split at q
    · rename_i i
      obtain ⟨v, rfl, dv1⟩ := denL1 dv
      replace dv := dv1
      rw [den_int dv]
      exact .inl ⟨i, rfl, q.ret rp (.int _)⟩
    · rename_i b
      obtain ⟨v, rfl, dv1⟩ := denL1 dv
      replace dv := dv1
      rw [den_bool dv]
      exact .inr ⟨b, rfl, q.ret rp (.int _)⟩
    · exact q.elim) hg hm (by decide +kernel) ha (by decide) (by decide) he
def listM (fin : List PyData → M D) : List D → M D := fun ds S => match ds with
  | [d] => match seqOf S d with
    | some xs => fin xs S
    | none => .bad
  | _ => .bad
def rList (K : PySem.W.Frag) : List V → Hp → VK → Prop := fun xs H Q => ∃ p ys, xs = [.ref p] ∧ (SqL K H p ys ∨ SqT K H p ys) ∧ ∀ l, H l = none → Q (.ref l) (upd H l (.lst ys))
theorem sim_listL {K : PySem.W.Frag} : SimA K (rList K) (listM finL) := by
  intro W σ H G S xs vs Q rp dv q
  unfold listM at q
  split at q
  · obtain ⟨v, rfl, dv1⟩ := denL1 dv
    replace dv := dv1
    split at q
    · rename_i xs es
      obtain ⟨a, us, rfl, hq, t⟩ := seqOf_den rp es dv
      exact ⟨a, us, rfl, hq, fun l hl => Aft.newLst q rp t hl⟩
    · exact q.elim
  · exact q.elim
theorem sim_listM {K : PySem.W.Frag} : SimA K (rList K) (listM finM) := by
  intro W σ H G S xs vs Q rp dv q
  unfold listM at q
  split at q
  · obtain ⟨v, rfl, dv1⟩ := denL1 dv
    replace dv := dv1
    split at q
    · rename_i xs es
      obtain ⟨a, us, rfl, hq, t⟩ := seqOf_den rp es dv
      exact ⟨a, us, rfl, hq, fun l hl => Aft.newLstM q rp t hl⟩
    · exact q.elim
  · exact q.elim
theorem de_list (hg : Gl X "list") (hm : X.mg "list" = none) (ha : DA X W [e] fa) (he : starEach [e] X.env = (false, eval e X.env) :: starEach [] X.env := by rfl) : DE X W (.Call (.Name "list" p) [e] [] pos) (eA (listM finL) fa) :=
  de_callTy call_list_of sim_listL hg hm (by decide +kernel) ha (by decide) (by decide) he
theorem de_listM (hg : Gl X "list") (hm : X.mg "list" = none) (ha : DA X W [e] fa) (he : starEach [e] X.env = (false, eval e X.env) :: starEach [] X.env := by rfl) : DE X W (.Call (.Name "list" p) [e] [] pos) (eA (listM finM) fa) :=
  de_callTy call_list_of sim_listM hg hm (by decide +kernel) ha (by decide) (by decide) he
def tupleM : List D → M D := fun ds S => match ds with
  | [.p (.tuple xs)] => .ok (.p (.tuple xs)) S
  | [d] => match lstOf S d with
    | some xs => .ok (.p (.tuple xs)) S
    | none => .bad
  | _ => .bad
theorem de_tuple (hg : Gl X "tuple") (hm : X.mg "tuple" = none) (ha : DA X W [e] fa) (he : starEach [e] X.env = (false, eval e X.env) :: starEach [] X.env := by rfl) : DE X W (.Call (.Name "tuple" p) [e] [] pos) (eA tupleM fa) :=
  de_callTy call_tuple_of (by
    intro W σ H G S xs vs Q rp dv q
    unfold tupleM at q
    split at q
    · obtain ⟨v, rfl, dv1⟩ := denL1 dv
      replace dv := dv1
      obtain ⟨a, us, rfl, hq, t⟩ := den_tup dv
      exact ⟨a, us, rfl, .inr ⟨hq, q.ret rp dv⟩⟩
    · obtain ⟨v, rfl, dv1⟩ := denL1 dv
      replace dv := dv1
      split at q
      · rename_i xs es
        obtain ⟨a, us, rfl, hq, t⟩ := lstOf_den rp es dv
        exact ⟨a, us, rfl, .inl ⟨SqL.of hq, fun l hl => Aft.newTup q rp t hl⟩⟩
      · exact q.elim
    · exact q.elim) hg hm (by decide +kernel) ha (by decide) (by decide) he
def bools : List PyData → Option (List Bool)
  | [] => some []
  | .bool b :: r => match bools r with
    | some bs => some (b :: bs)
    | none => none
  | _ :: _ => none
theorem bools_dn {K : PySem.W.Frag} {φ : List (Addr × HO)} {H : Hp} : ∀ {xs : List PyData} {bs : List Bool} {vs : List V}, bools xs = some bs → DnAll K φ H xs vs → vs = bs.map V.bl
  | [], bs, _, e, .nil => by cases e; rfl
  | .bool b :: r, bs, _, e, .cons h t => by
    simp only [bools] at e
    cases q : bools r with
    | none => rw [q] at e; cases e
    | some cs =>
      rw [q] at e; cases e
      cases h
      rw [bools_dn q t]; rfl
  | .none :: _, _, _, e, _ => by cases e
  | .int _ :: _, _, _, e, _ => by cases e
  | .str _ :: _, _, _, e, _ => by cases e
  | .list _ :: _, _, _, e, _ => by cases e
  | .tuple _ :: _, _, _, e, _ => by cases e
  | .dict _ :: _, _, _, e, _ => by cases e
def allM (any : Bool) : List D → M D := fun ds S => match ds with
  | [d] => match lstOf S d with
    | some xs => match bools xs with
      | some bs => .ok (.p (.bool (if any then bs.any id else bs.all id))) S
      | none => .bad
    | none => .bad
  | _ => .bad
theorem de_all (hc : X.calm = true) (hg : Gl X "all") (hm : X.mg "all" = none) (ha : DA X W [e] fa) (he : starEach [e] X.env = (false, eval e X.env) :: starEach [] X.env := by rfl) : DE X W (.Call (.Name "all" p) [e] [] pos) (eA (allM false) fa) :=
  de_callB (cr_all hc) (by
    intro W σ H G S xs vs Q rp dv q
    unfold allM at q
    split at q
    · obtain ⟨v, rfl, dv1⟩ := denL1 dv
      replace dv := dv1
      split at q
      · rename_i xs es
        split at q
        · rename_i bs eb
          obtain ⟨a, us, rfl, hq, t⟩ := lstOf_den rp es dv
          refine ⟨a, bs, rfl, ?_, q.ret rp (.bl _)⟩
          rw [← bools_dn eb t]; exact SqL.of hq
        · exact q.elim
      · exact q.elim
    · exact q.elim) hg hm (by decide +kernel) ha (by decide) (by decide) he
theorem de_any (hc : X.calm = true) (hg : Gl X "any") (hm : X.mg "any" = none) (ha : DA X W [e] fa) (he : starEach [e] X.env = (false, eval e X.env) :: starEach [] X.env := by rfl) : DE X W (.Call (.Name "any" p) [e] [] pos) (eA (allM true) fa) :=
  de_callB (cr_any hc) (by
    intro W σ H G S xs vs Q rp dv q
    unfold allM at q
    split at q
    · obtain ⟨v, rfl, dv1⟩ := denL1 dv
      replace dv := dv1
      split at q
      · rename_i xs es
        split at q
        · rename_i bs eb
          obtain ⟨a, us, rfl, hq, t⟩ := lstOf_den rp es dv
          refine ⟨a, bs, rfl, ?_, q.ret rp (.bl _)⟩
          rw [← bools_dn eb t]; exact SqL.of hq
        · exact q.elim
      · exact q.elim
    · exact q.elim) hg hm (by decide +kernel) ha (by decide) (by decide) he

def reprM : List D → M D := fun ds S => match ds with
  | [.p d] => if d.showable && (decide (d.depth ≤ 60) && decide (d.shown.length ≤ LIM)) then .ok (.p (.str d.shown)) S else .bad
  | _ => .bad
def rRepr (K : PySem.W.Frag) : List V → Hp → VK → Prop := fun xs H Q => ∃ v d φ, xs = [v] ∧ Holds φ H ∧ Dn K φ H d v ∧ d.showable = true ∧ d.depth ≤ 60 ∧ d.shown.length ≤ LIM ∧ Q (.str d.shown) H
theorem pairs_keys {P : Program} {w : World} {h : Heap} : ∀ {es : List DictEntry} {kvs : List (Key × Value)} {ds : List PyData} {ws : List (Key × V)}, Pairs (mixKind P w) es kvs → KV ws kvs → ds = ws.map (fun p => keyPy p.1) → RDs h (es.map (·.key)) ds
  | _, _, _, _, .nil, r, e => by
    cases r
    subst e
    exact .nil
  | _, _, _, _, .cons (e := en) hk hv t, r, e => by
    cases r with
    | cons r1 r2 =>
      rename_i pw ws
      subst e
      refine .cons ?_ (pairs_keys t r2 rfl)
      have hk : keyIs _ en.key = true := hk
      rw [← r1.1] at hk
      rcases keyIs_shape hk with ⟨i, tk, e1, e2⟩ | ⟨z, tk, e1, e2⟩
      · show RD h en.key (keyPy pw.1)
        rw [e2, e1]; exact .int i tk
      · show RD h en.key (keyPy pw.1)
        rw [e2, e1]; exact .str z tk
theorem pairs_vals {P : Program} {w : World} : ∀ {es : List DictEntry} {kvs : List (Key × Value)} {ws : List (Key × V)}, Pairs (mixKind P w) es kvs → KV ws kvs → Vals (ws.map (·.2)) (es.map (·.val))
  | _, _, _, .nil, r => by cases r; exact .nil
  | _, _, _, .cons hk hv t, r => by
    cases r with
    | cons r1 r2 => exact .cons (by rw [← hv] at r1; exact r1.2) (pairs_vals t r2)
mutual
theorem Dn.rd {φ : List (Addr × HO)} {pins : List (Addr × Obj)} {σ : L2.St} {H : Hp} {s : Shared} (I : Inv X pins σ H s) (hφ : Holds φ H) : ∀ {d : PyData} {v : V} {u : Value}, Dn X.K φ H d v → RelV v u → RD s.heap u d
  | _, _, _, .non, r => by cases r; exact .none
  | _, _, _, .bl b, r => by cases r; exact .bool b
  | _, _, _, .int i, r => by obtain ⟨t, rfl⟩ := r; exact .int i t
  | _, _, _, .str x, r => by obtain ⟨t, rfl⟩ := r; exact .str x t
  | _, _, _, .lst f t, r => by
    cases r
    obtain ⟨its, n, rv, e, _⟩ := I.lst (f H hφ)
    exact .list e rfl rfl (DnAll.rd I hφ t (by simpa using rv))
  | _, _, _, .tup f t, r => by
    cases r
    obtain ⟨its, rv, ⟨o, e, c, n, dd⟩, _⟩ := I.tuple f
    exact .tuple e c dd (DnAll.rd I hφ t (by simpa using rv))
  | _, _, _, .dic (ws := ws) f ek t, r => by
    cases r
    obtain ⟨_, hsys, vs, rel, o, es, ep, e, ex, dd, _, pr, _⟩ := dk_of I.hok (f H hφ)
    exact .dict e ex.1 dd hsys (pairs_keys pr rel ek) (DnAll.rd I hφ t (pairs_vals pr rel))
theorem DnAll.rd {φ : List (Addr × HO)} {pins : List (Addr × Obj)} {σ : L2.St} {H : Hp} {s : Shared} (I : Inv X pins σ H s) (hφ : Holds φ H) : ∀ {ds : List PyData} {vs : List V} {us : List Value}, DnAll X.K φ H ds vs → Vals vs us → RDs s.heap us ds
  | _, _, _, .nil, r => by cases r; exact .nil
  | _, _, _, .cons h t, r => by
    cases r with
    | cons r1 r2 => exact .cons (Dn.rd I hφ h r1) (DnAll.rd I hφ t r2)
end
theorem call_reprD (hgd : X.A.guards = some []) (hu : X.A.units + 64 < cLine) : CallR X (.builtin "repr") (rRepr X.K) := by
  intro pins s σ H xs us Q I r q
  obtain ⟨v, d, φ, rfl, hφ, dn, hs, hd, hz, q⟩ := q
  obtain ⟨u, rfl, rv⟩ := vals1 r
  exact repr_RD (Dn.rd I hφ dn rv) hs (Nat.le_trans hz LIM_le) hgd (by omega) fun h' t tk hk => ⟨.str d.shown, H, I.kept hk, ⟨t, rfl⟩, q⟩
theorem de_repr (hgd : X.A.guards = some []) (hu : X.A.units + 64 < cLine) (hg : Gl X "repr") (hm : X.mg "repr" = none) (ha : DA X W [e] fa) (he : starEach [e] X.env = (false, eval e X.env) :: starEach [] X.env := by rfl) : DE X W (.Call (.Name "repr" p) [e] [] pos) (eA reprM fa) :=
  de_callB (call_reprD hgd hu) (by
    intro W σ H G S xs vs Q rp dv q
    unfold reprM at q
    split at q
    · rename_i d
      obtain ⟨v, rfl, dv1⟩ := denL1 dv
      by_cases hc : (d.showable && (decide (d.depth ≤ 60) && decide (d.shown.length ≤ LIM))) = true
      · rw [if_pos hc] at q
        simp only [Bool.and_eq_true, decide_eq_true_eq] at hc
        exact ⟨v, d, G.φ, rfl, rp.phi, dv1, hc.1, hc.2.1, hc.2.2, q.ret rp (.str _)⟩
      · rw [if_neg hc] at q; exact q.elim
    · exact q.elim) hg hm (by decide +kernel) ha (by decide) (by decide) he
end

inductive Tg where
  | str | tuple | int | bool | list | dict
def Tg.nm : Tg → String
  | .str => "str" | .tuple => "tuple" | .int => "int" | .bool => "bool" | .list => "list" | .dict => "dict"
def isT : Tg → PyData → Bool
  | .str, .str _ => true
  | .tuple, .tuple _ => true
  | .int, .int _ => true
  | .int, .bool _ => true
  | .bool, .bool _ => true
  | .list, .list _ => true
  | .dict, .dict _ => true
  | _, _ => false
def isiM (T : Tg) : D → M D := fun d S => match d with
  | .p x => .ok (.p (.bool (isT T x))) S
  | _ => .bad
def tyP : PyData → String
  | .none => "NoneType" | .bool _ => "bool" | .int _ => "int" | .str _ => "str" | .list _ => "list" | .tuple _ => "tuple" | .dict _ => "dict"
theorem isT_ok {K : PySem.W.Frag} (T : Tg) (x : PyData) : PySem.W.kitOne K (.type (tyP x)) (.type T.nm) = some (isT T x) := by
  cases T <;> cases x <;> exact kit_ty (by first | rfl | kernel_rfl)
theorem tyP_ok {K : PySem.W.Frag} {H : Hp} {G : Gh} {S : Sto} (rp : Rep K H G S) {x : PyData} {v : V} (h : Dn K G.φ H x v) : TyX K H v (.type (tyP x)) := by
  cases h with
  | non => exact .base .non
  | bl b => exact .base (.bl b)
  | int i => exact .base (.int i)
  | str z => exact .base (.str z)
  | lst f t => exact .base (.lst (f H rp.phi))
  | tup f t =>
    rcases f with (f | ⟨o, f⟩) | ⟨o, its, n, k1, k2, _⟩
    · exact .base (.tup f)
    · exact .fTuple f
    · exact .kTuple k1 k2
  | dic f e t => exact .base (.dK (f H rp.phi))
section
variable {X : Cx} {W : WX} {p pos pT : Pos} {e : Expr} {f : FE}
theorem de_isi (T : Tg) (hg : Gl X "isinstance") (hm : X.mg "isinstance" = none) (hgT : Gl X (Str.ofString T.nm)) (hmT : X.mg (Str.ofString T.nm) = none) (hvT : bootBuiltins (Str.ofString T.nm) = some (.type T.nm)) (ha : DE X W e f) (hnT : Str.ofString T.nm ≠ "__name__" := by decide) (hdT : (Str.ofString T.nm == ("__debug__" : Str)) = false := by decide)
    (he : starEach [e, .Name (Str.ofString T.nm) pT] X.env = (false, eval e X.env) :: starEach [.Name (Str.ofString T.nm) pT] X.env := by rfl) (hpl : (backTo pos (starEach [.Name (Str.ofString T.nm) pT] X.env)).any (·.1) = false := by rfl) (he2 : starEach [.Name (Str.ofString T.nm) pT] X.env = (false, eval (.Name (Str.ofString T.nm) pT) X.env) :: starEach [] X.env := by rfl) :
    DE X W (.Call (.Name "isinstance" p) [e, .Name (Str.ofString T.nm) pT] [] pos) (e1 (isiM T) f) := by
  refine ⟨PE.imp (pe_callB call_isi hg hm (by decide +kernel) (pa_cons ha.run (pa_cons (pe_bltn (v := .ty T.nm) hgT hmT hvT rfl hnT hdT) pa_nil he2) he) (by decide) (by decide) he hpl) fun σ H Q ⟨G, S, ρ, rs, rp, q⟩ => ?_⟩
  refine ⟨G, S, ρ, rs, rp, (Aft.bind q).mono fun d H1 G1 S1 x1 r1 q1 v dv => ?_⟩
  unfold isiM at q1
  split at q1
  · rename_i x
    exact ⟨v, .ty T.nm, .type (tyP x), .type T.nm, isT T x, rfl, .ty _, tyP_ok r1 dv, isT_ok T x, q1.ret r1 (.bl _)⟩
  · exact q1.elim
end

def rdO (K : PySem.W.Frag) (W : WX) (f : Ev → M (Option Int)) : TO := fun σ H Q => ∃ G S ρ, RelS K H G ρ σ ∧ Rep K H G S ∧ Aft K W σ H G S (f ρ S) fun o H' _ _ => Q o H'
def oNone : Ev → M (Option Int) := fun _ S => .ok none S
def oInt : D → M (Option Int) := fun d S => match d with
  | .p (.int i) => .ok (some i) S
  | _ => .bad
def oSome (f : FE) : Ev → M (Option Int) := fun ρ S => (f ρ S).bind oInt
/-- a list, also the script -/
def rlOf (S : Sto) : D → Option (List PyData)
  | .p (.list l) => some l
  | .ro l => some l
  | .ob i => match S[i]? with
    | some (.lst l) => some l
    | _ => none
  | _ => none
theorem rlOf_den {K : PySem.W.Frag} {H : Hp} {G : Gh} {S : Sto} (rp : Rep K H G S) {d : D} {v : V} {xs : List PyData} (e : rlOf S d = some xs) (h : Den K H G d v) : ∃ a vs, v = .ref a ∧ SqL K H a vs ∧ DnAll K G.φ H xs vs := by
  cases d with
  | p x =>
    cases x with
    | list l =>
      cases e
      obtain ⟨a, vs, rfl, f, t⟩ := den_lst h
      exact ⟨a, vs, rfl, SqL.of (f H rp.phi), t⟩
    | _ => cases e
  | ob i =>
    simp only [rlOf] at e
    split at e
    · rename_i ks ei
      cases e
      obtain ⟨a, rfl, ha⟩ := h
      obtain ⟨vs, e1, t⟩ := rp.ok i a _ ha ei
      exact ⟨a, vs, rfl, SqL.of e1, t⟩
    · cases e
  | ro l =>
    cases e
    obtain ⟨a, vs, rfl, f, t⟩ := h
    exact ⟨a, vs, rfl, f H rp.phi, t⟩
  | ext _ => cases e
def cutP (xs : List PyData) (lo hi : Option Int) : List PyData := (xs.drop (HT.sIx xs.length 0 lo)).take (HT.sIx xs.length xs.length hi - HT.sIx xs.length 0 lo)
theorem cut_dn {K : PySem.W.Frag} {φ : List (Addr × HO)} {H : Hp} {xs : List PyData} {vs : List V} {lo hi : Option Int} (t : DnAll K φ H xs vs) : DnAll K φ H (cutP xs lo hi) (cutV vs lo hi) := by
  unfold cutP cutV
  rw [t.length]
  exact (t.drop _).take _
def sliM : D → Option Int → Option Int → M D := fun d lo hi S => match d with
  | .p (.tuple xs) => .ok (.p (.tuple (cutP xs lo hi))) S
  | .p (.str z) => if z.length ≤ LIM then .ok (.p (.str (cutS z lo hi))) S else .bad
  | d => match rlOf S d with
    | some xs => .ok (.p (.list (cutP xs lo hi))) S
    | none => .bad
def eSli (f : FE) (lo hi : Ev → M (Option Int)) : FE := fun ρ S => (f ρ S).bind fun d S1 => (lo ρ S1).bind fun l S2 => (hi ρ S2).bind fun u S3 => sliM d l u S3
theorem cut_whole {xs : List PyData} {lo hi : Option Int} (h : HT.sIx xs.length 0 lo = 0 ∧ HT.sIx xs.length xs.length hi = xs.length) : cutP xs lo hi = xs := by
  unfold cutP
  rw [h.1, h.2]; simp
section
variable {X : Cx} {W : WX} {p2 pos : Pos} {e : Expr} {lo hi : Option Expr} {f : FE} {l u : Ev → M (Option Int)}
theorem do_none : PO X none (rdO X.K W oNone) := ⟨fun pins s σ H Q I ⟨G, S, ρ, rs, rp, q⟩ => po_none.run pins s σ H Q I (q H G Ext.refl rp)⟩
theorem do_some (h : DE X W e f) : PO X (some e) (rdO X.K W (oSome f)) := by
  refine ⟨fun pins s σ H Q I ⟨G, S, ρ, rs, rp, q⟩ => (po_some h.run).run pins s σ H Q I ⟨G, S, ρ, rs, rp, (Aft.bind q).mono fun d H1 G1 S1 x1 r1 q1 v dv => ?_⟩⟩
  unfold oInt at q1
  split at q1
  · rename_i i
    exact ⟨i, den_int dv, q1 H1 G1 Ext.refl r1⟩
  · exact q1.elim
theorem de_slice (he : DE X W e f) (hl : PO X lo (rdO X.K W l)) (hu : PO X hi (rdO X.K W u)) : DE X W (.Subscript e (.Slice lo hi none p2) pos) (eSli f l u) := by
  refine ⟨PE.imp (pe_slice (sl_list.or (sl_tupA.or sl_str)) he.run hl hu) fun σ H Q ⟨G, S, ρ, rs, rp, q⟩ => ?_⟩
  refine ⟨G, S, ρ, rs, rp, (Aft.bind q).mono fun d H1 G1 S1 x1 r1 q1 v dv => ?_⟩
  refine ⟨G1, S1, ρ, x1.relS rp rs, r1, (Aft.bind q1).mono fun lv H2 G2 S2 x2 r2 q2 => ?_⟩
  refine ⟨G2, S2, ρ, x2.relS r1 (x1.relS rp rs), r2, (Aft.bind q2).mono fun uv H3 G3 S3 x3 r3 q3 => ?_⟩
  have dv3 := (x2.trans x3).den r1 dv
  clear dv
  unfold sliM at q3
  split at q3
  · obtain ⟨a, vs, rfl, hq, t⟩ := den_tup dv3
    refine .inr (.inl ⟨a, vs, rfl, hq, fun hw => ?_, fun _ p hp => q3.newTup r3 (cut_dn t) hp⟩)
    rw [← t.length] at hw
    rw [cut_whole hw] at q3
    exact q3.ret r3 dv3
  · rename_i z
    by_cases hz : z.length ≤ LIM
    · rw [if_pos hz] at q3
      exact .inr (.inr ⟨z, den_str dv3, Nat.le_trans hz LIM_le, q3.ret r3 (.str _)⟩)
    · rw [if_neg hz] at q3; exact q3.elim
  · split at q3
    · rename_i xs es
      obtain ⟨a, vs, rfl, hq, t⟩ := rlOf_den r3 es dv3
      exact .inl ⟨a, vs, rfl, hq, fun p hp => q3.newLst r3 (cut_dn t) hp⟩
    · exact q3.elim
def revM : D → M D := fun d S => match rlOf S d with
  | some xs => .ok (.p (.list xs.reverse)) S
  | none => .bad
theorem de_rev {k : Nat} {p1 p3 : Pos} (he : DE X W e f) : DE X W (.Subscript e (.Slice none none (some (.UnaryOp .USub (.Constant (.int 1) k p1) p2)) p3) pos) (e1 revM f) := by
  refine ⟨PE.imp (pe_revL he.run) fun σ H Q ⟨G, S, ρ, rs, rp, q⟩ => ⟨G, S, ρ, rs, rp, (Aft.bind q).mono fun d H1 G1 S1 x1 r1 q1 v dv => ?_⟩⟩
  unfold revM at q1
  split at q1
  · rename_i xs es
    obtain ⟨a, vs, rfl, hq, t⟩ := rlOf_den r1 es dv
    exact ⟨a, vs, rfl, hq, fun p hp => q1.newLst r1 t.reverse hp⟩
  · exact q1.elim
end
end DL

namespace DL
open PySem L2 PySem.Spec PyProof.Rows

def pairsD : List (FE × FE) → Ev → M (List (Key × PyData))
  | [] => fun _ S => .ok [] S
  | (fk, fv) :: r => fun ρ S => (fk ρ S).bind fun k S1 => (fv ρ S1).bind fun v S2 => (pairsD r ρ S2).bind fun kvs S3 => match k, v with
    | .p kd, .p vd => (match pyKey kd with
      | some key => .ok ((key, vd) :: kvs) S3
      | none => .bad)
    | _, _ => .bad
def mergeD (kvs : List (Key × PyData)) : List (Key × PyData) := kvs.foldl (fun acc kv => putD acc kv.1 kv.2) []
def finDL : List (Key × PyData) → M D := fun kvs S => .ok (.p (.dict (pyKv kvs))) S
def finDM : List (Key × PyData) → M D := fun kvs S => .ok (.ob S.length) (S ++ [.dic kvs])
def eDisp (fs : List (FE × FE)) (fin : List (Key × PyData) → M D) : FE := fun ρ S => (pairsD fs ρ S).bind fun kvs S1 => if kvs.length ≤ 15 then fin (mergeD kvs) S1 else .bad
inductive DPs (X : Cx) (W : WX) (pos : Pos) : List (Option Expr) → List Expr → List (FE × FE) → Prop where
  | nil : DPs X W pos [] [] []
  | cons {k v : Expr} {ks : List (Option Expr)} {vs : List Expr} {fk fv : FE} {fs : List (FE × FE)} (hk : DE X W k fk) (hv : DE X W v fv) (hr : DPs X W pos ks vs fs) : DPs X W pos (some k :: ks) (v :: vs) ((fk, fv) :: fs)
section
variable {K : PySem.W.Frag} {φ : List (Addr × HO)} {H H1 : Hp} {G G1 : Gh} {S S1 : Sto} {D : Addr} {o : HO}
theorem KvR.mono {φ' : List (Addr × HO)} {H' : Hp} {kvs : List (Key × PyData)} {ws : List (Key × V)} (r : KvR K φ H kvs ws) (hs : ∀ p ∈ φ, p ∈ φ') (ht : ∀ a vs, SqT K H a vs → SqT K H' a vs) : KvR K φ' H' kvs ws := ⟨r.ks, r.vs.mono hs ht⟩
theorem KvR.merge : ∀ {kvs : List (Key × PyData)} {ws : List (Key × V)} {acc : List (Key × PyData)} {bcc : List (Key × V)}, KvR K φ H kvs ws → KvR K φ H acc bcc → KvR K φ H (kvs.foldl (fun acc kv => putD acc kv.1 kv.2) acc) (ws.foldl (fun acc kv => putK acc kv.1 kv.2) bcc)
  | [], _, _, _, r, b => by rw [r.nil_inv]; exact b
  | p :: kvs, _, _, _, r, b => by
    obtain ⟨v, ws, rfl, h, t⟩ := r.inv
    rw [List.foldl_cons, List.foldl_cons]
    exact KvR.merge t (b.put h)
theorem tup_aside {u : HO} (e : H D = some o) (h1 : ∀ xs, o ≠ .tup xs) (h2 : ∀ ob v, o ≠ .frz ob v) : ∀ a vs, SqT K H a vs → SqT K (upd H D u) a vs := fun a vs h => by
  rcases h with (h | ⟨ob, h⟩) | h
  · exact .inl (.inl (by rw [upd_ne (ne_of h e (fun z => h1 _ z.symm))]; exact h))
  · exact .inl (.inr ⟨ob, by rw [upd_ne (ne_of h e (fun z => h2 _ _ z.symm))]; exact h⟩)
  · exact .inr h
theorem Rep.asideD {u : HO} (r : Rep K H G S) (b : Beside H G D o) (h1 : ∀ xs, o ≠ .tup xs) (h2 : ∀ ob v, o ≠ .frz ob v) : Rep K (upd H D u) G S := by
  refine ⟨r.len, r.nd, fun i a m g1 g2 => OkO.ext (G := G) (fun _ h => h) (tup_aside b.at_ h1 h2) (fun v hv => ?_) (r.ok i a m g1 g2), fun p hp => ?_, r.pnl⟩
  · rw [upd_ne (fun z => b.ι (by rw [← z]; exact List.mem_of_getElem? g1))]; exact hv
  · rw [upd_ne (b.φ p hp)]; exact r.phi p hp
end
section
variable {X : Cx} {W : WX} {pos : Pos} {keys : List (Option Expr)} {values : List Expr} {fs : List (FE × FE)}
theorem DPs.run (h : DPs X W pos keys values fs) : PPs X pos keys values (fs.map fun p => (rd X.K W p.1, rd X.K W p.2)) := by
  induction h with
  | nil => exact pps_nil
  | cons hk hv hr ih => exact pps_cons hk.run hv.run ih
theorem pairs_read {K : PySem.W.Frag} : ∀ (fs : List (FE × FE)) {σ : L2.St} {H : Hp} {G : Gh} {S : Sto} {ρ : Ev} {R : List (V × V) → Hp → Prop}, RelS K H G ρ σ → Rep K H G S →
    Aft K W σ H G S (pairsD fs ρ S) (fun kvs H' G' _ => ∀ ws, KvR K G'.φ H' kvs ws → R (ws.map fun kv => (kV kv.1, kv.2)) H') → tPairs (fs.map fun p => (rd K W p.1, rd K W p.2)) σ H R
  | [], σ, H, G, S, ρ, R, rs, rp, q => q H G Ext.refl rp [] .nil
  | (fk, fv) :: r, σ, H, G, S, ρ, R, rs, rp, q => by
    refine ⟨G, S, ρ, rs, rp, (Aft.bind q).mono fun k H1 G1 S1 x1 r1 q1 kv dk => ?_⟩
    refine ⟨G1, S1, ρ, x1.relS rp rs, r1, (Aft.bind q1).mono fun v H2 G2 S2 x2 r2 q2 vv dv => ?_⟩
    refine pairs_read r (x2.relS r1 (x1.relS rp rs)) r2 ((Aft.bind q2).mono fun kvs H3 G3 S3 x3 r3 q3 ws kr => ?_)
    have dk3 := (x2.trans x3).den r1 dk
    have dv3 := x3.den r2 dv
    split at q3
    · split at q3
      · rename_i kd vd key ek
        have ekd := keyPy_of ek
        subst ekd
        have ev : kv = kV key := by
          cases key with
          | inl i => exact den_int dk3
          | inr z => exact den_str dk3
        subst ev
        exact q3 H3 G3 Ext.refl r3 ((key, vv) :: ws) (kr.cons dv3)
      · exact q3.elim
    · exact q3.elim
theorem de_dispL (h : DPs X W pos keys values fs) (hall : keys.all (·.isSome) = true := by rfl) (hl : keys.length = values.length := by rfl) (h0 : keys ≠ [] := by exact (fun z => nomatch z)) (h15 : keys.length ≤ 15 := by decide) : DE X W (.Dict keys values pos) (eDisp fs finDL) := by
  refine ⟨PE.imp (pe_disp h.run hall hl h0 h15) fun σ H Q ⟨G, S, ρ, rs, rp, q⟩ p hp => ?_⟩
  have x0 := Ext.other (o := .dK []) rp hp
  have r0 := Rep.other (o := .dK []) rp hp
  have b0 : Beside (upd H p (.dK [])) G p (.dK []) := ⟨upd_same, rp.notIn hp, rp.notPhi hp⟩
  refine pairs_read fs (x0.relS rp rs) r0 ?_
  have q' := Aft.bind q
  cases eo : pairsD fs ρ S with
  | bad => rw [eo] at q'; exact q'
  | err x s => rw [eo] at q'; exact fun H1 G1 d x1 r1 e => q' H1 G1 d (x0.trans x1) r1 e
  | ok kvs S1 =>
    rw [eo] at q'
    intro H1 G1 x1 r1 ws kr
    have b1 := b0.ext x1
    have q1 := q' H1 G1 (x0.trans x1) r1
    by_cases hk : kvs.length ≤ 15
    · simp only [if_pos hk] at q1
      refine ⟨b1.at_, ws, rfl, by rw [← kr.length]; exact hk, ?_⟩
      have nt : ∀ xs, HO.dK [] ≠ .tup xs := fun _ z => nomatch z
      have nf : ∀ ob v, HO.dK [] ≠ .frz ob v := fun _ _ z => nomatch z
      have b2 : Beside (upd H1 p (.dK (mergeK [] ws))) G1 p (.dK (mergeK [] ws)) := ⟨upd_same, b1.ι, b1.φ⟩
      have r2 : Rep X.K (upd H1 p (.dK (mergeK [] ws))) G1 S1 := r1.asideD b1 nt nf
      have kr2 : KvR X.K G1.φ (upd H1 p (.dK (mergeK [] ws))) (mergeD kvs) (mergeK [] ws) := (kr.merge .nil).mono (fun _ h => h) (tup_aside b1.at_ nt nf)
      have xx : Ext H G S (upd H1 p (.dK (mergeK [] ws))) ⟨G1.ι, (p, .dK (mergeK [] ws)) :: G1.φ⟩ S1 := ((x0.trans x1).aside hp).iceD hp
      have q2 := q'
      have fin : Aft X.K W σ H G S (.ok (.p (.dict (pyKv (mergeD kvs)))) S1) (QD X.K Q) := fun H9 G9 x9 r9 => by
        have := q' H9 G9 x9 r9
        simp only [if_pos hk] at this
        exact this H9 G9 Ext.refl r9
      exact fin _ _ xx (r2.iceD b2) _ (Dn.dicOf (fun _ z => z _ List.mem_cons_self) kr2.ks (kr2.vs.mono (fun _ h => List.mem_cons_of_mem _ h) fun _ _ h => h))
    · simp only [if_neg hk] at q1; exact q1.elim
theorem de_dispM (h : DPs X W pos keys values fs) (hall : keys.all (·.isSome) = true := by rfl) (hl : keys.length = values.length := by rfl) (h0 : keys ≠ [] := by exact (fun z => nomatch z)) (h15 : keys.length ≤ 15 := by decide) : DE X W (.Dict keys values pos) (eDisp fs finDM) := by
  refine ⟨PE.imp (pe_disp h.run hall hl h0 h15) fun σ H Q ⟨G, S, ρ, rs, rp, q⟩ p hp => ?_⟩
  have x0 := Ext.other (o := .dK []) rp hp
  have r0 := Rep.other (o := .dK []) rp hp
  have b0 : Beside (upd H p (.dK [])) G p (.dK []) := ⟨upd_same, rp.notIn hp, rp.notPhi hp⟩
  refine pairs_read fs (x0.relS rp rs) r0 ?_
  have q' := Aft.bind q
  cases eo : pairsD fs ρ S with
  | bad => rw [eo] at q'; exact q'
  | err x s => rw [eo] at q'; exact fun H1 G1 d x1 r1 e => q' H1 G1 d (x0.trans x1) r1 e
  | ok kvs S1 =>
    rw [eo] at q'
    intro H1 G1 x1 r1 ws kr
    have b1 := b0.ext x1
    have q1 := q' H1 G1 (x0.trans x1) r1
    by_cases hk : kvs.length ≤ 15
    · refine ⟨b1.at_, ws, rfl, by rw [← kr.length]; exact hk, ?_⟩
      have nt : ∀ xs, HO.dK [] ≠ .tup xs := fun _ z => nomatch z
      have nf : ∀ ob v, HO.dK [] ≠ .frz ob v := fun _ _ z => nomatch z
      have r2 : Rep X.K (upd H1 p (.dK (mergeK [] ws))) G1 S1 := r1.asideD b1 nt nf
      have kr2 : KvR X.K G1.φ (upd H1 p (.dK (mergeK [] ws))) (mergeD kvs) (mergeK [] ws) := (kr.merge .nil).mono (fun _ h => h) (tup_aside b1.at_ nt nf)
      have x2 : Ext H G S (upd H1 p (.dK (mergeK [] ws))) G1 S1 := (x0.trans x1).aside hp
      have fin : Aft X.K W σ H G S (.ok (.ob S1.length) (S1 ++ [.dic (mergeD kvs)])) (QD X.K Q) := by
        have q'' := Aft.bind q
        rw [eo] at q''
        intro H9 G9 x9 r9
        simp only [eDisp] at q
        rw [eo] at q
        simp only [Out.bind_ok, if_pos hk] at q
        exact q H9 G9 x9 r9
      refine fin _ (G1.add p) ?_ ?_ _ (show Den X.K _ (G1.add p) (.ob S1.length) (.ref p) from ⟨p, rfl, Gh.add_last r1 p⟩)
      · refine ⟨fun i a h => ?_, x2.phi, x2.frame, fun c l => ?_, fun c h => ?_, x2.phf⟩
        · have h := x2.pre i a h
          show (G1.ι ++ [p])[i]? = some a
          rw [List.getElem?_append_left (List.getElem?_eq_some_iff.mp h).1]; exact h
        · rcases Live.add r1 l with z | z
          · exact x2.fresh c z
          · rw [z]; exact .inr hp
        · rcases List.mem_append.mp (show c ∈ G1.ι ++ [p] from h) with z | z
          · exact x2.iot c z
          · have e : c = p := by simpa using z
            rw [e]; exact .inr hp
      · refine ⟨?_, ?_, fun i a mo h1 h2 => ?_, r2.phi, fun z hz l => ?_⟩
        · show (G1.ι ++ [p]).length = (S1 ++ [MO.dic (mergeD kvs)]).length
          rw [List.length_append, List.length_append, r1.len]; rfl
        · show (G1.ι ++ [p]).Nodup
          rw [List.nodup_append]
          refine ⟨r1.nd, by simp, fun a ha c hc => ?_⟩
          have e : c = p := by simpa using hc
          subst e
          intro z; subst z; exact b1.ι ha
        · have h1 : (G1.ι ++ [p])[i]? = some a := h1
          by_cases hi : i < S1.length
          · rw [List.getElem?_append_left (by rw [r1.len]; exact hi)] at h1
            rw [List.getElem?_append_left hi] at h2
            exact r2.ok i a mo h1 h2
          · have hl : i < (S1 ++ [MO.dic (mergeD kvs)]).length := (List.getElem?_eq_some_iff.mp h2).1
            rw [List.length_append] at hl
            have e : i = S1.length := by have : i < S1.length + 1 := hl; omega
            subst e
            rw [← r1.len] at h1
            simp at h1 h2
            subst h1 h2
            exact ⟨_, upd_same, kr2.ks, kr2.vs⟩
        · rcases Live.add r1 l with y | y
          · exact r2.pnl z hz y
          · exact b1.φ z hz y
    · simp only [if_neg hk] at q1; exact q1.elim
/-- {} -/
theorem de_dnewM : DE X W (.Dict [] [] pos) (fun _ S => .ok (.ob S.length) (S ++ [.dic []])) :=
  ⟨PE.imp pe_dnewK fun σ H Q ⟨G, S, ρ, rs, rp, q⟩ d hd => Aft.newDicM (kvs := []) (ws := []) q rp rfl .nil hd⟩
theorem de_dnewL : DE X W (.Dict [] [] pos) (fun _ S => .ok (.p (.dict [])) S) :=
  ⟨PE.imp pe_dnewK fun σ H Q ⟨G, S, ρ, rs, rp, q⟩ d hd => Aft.newDic (kvs := []) (ws := []) q rp rfl .nil hd⟩
end

def strsP : List PyData → Option (List Str)
  | [] => some []
  | .str z :: r => match strsP r with
    | some zs => some (z :: zs)
    | none => none
  | _ :: _ => none
theorem strsP_dn {K : PySem.W.Frag} {φ : List (Addr × HO)} {H : Hp} : ∀ {xs : List PyData} {zs : List Str} {vs : List V}, strsP xs = some zs → DnAll K φ H xs vs → vs = zs.map V.str
  | [], zs, _, e, .nil => by cases e; rfl
  | .str b :: r, zs, _, e, .cons h t => by
    simp only [strsP] at e
    cases q : strsP r with
    | none => rw [q] at e; cases e
    | some cs =>
      rw [q] at e; cases e
      cases h
      rw [strsP_dn q t]; rfl
  | .none :: _, _, _, e, _ => by cases e
  | .int _ :: _, _, _, e, _ => by cases e
  | .bool _ :: _, _, _, e, _ => by cases e
  | .list _ :: _, _, _, e, _ => by cases e
  | .tuple _ :: _, _, _, e, _ => by cases e
  | .dict _ :: _, _, _, e, _ => by cases e
def joinM (a : Str) : D → M D := fun l S => match seqOf S l with
  | some xs => (match strsP xs with
    | some ys => if (ys.map (·.length)).sum + ys.length * a.length ≤ 16777216 then .ok (.p (.str (Txt.join a ys))) S else .bad
    | none => .bad)
  | none => .bad
def eJoin (f g : FE) : FE := fun ρ S => (f ρ S).bind fun d S1 => match d with
  | .p (.str a) => (g ρ S1).bind (joinM a)
  | _ => .bad
def fmtM : D → M D := fun d S => match d with
  | .p (.str z) => if z.length ≤ LIM then .ok (.p (.str z)) S else .bad
  | .p (.int i) => if i.natAbs.log2 < 1920 then .ok (.p (.str (toString i))) S else .bad
  | _ => .bad
def jsD : List FE → Str → Ev → M D
  | [], acc => fun _ S => .ok (.p (.str acc)) S
  | f :: r, acc => fun ρ S => (f ρ S).bind fun d S1 => match d with
    | .p (.str y) => if (acc ++ y).length ≤ LIM then jsD r (acc ++ y) ρ S1 else .bad
    | _ => .bad
inductive DJ (X : Cx) (W : WX) : List Expr → List FE → Prop where
  | nil : DJ X W [] []
  | cons {e : Expr} {f : FE} {es : List Expr} {fs : List FE} (h : DE X W e f) (r : DJ X W es fs) : DJ X W (e :: es) (f :: fs)
section
variable {X : Cx} {W : WX} {pos apos : Pos} {o e : Expr} {f g : FE}
theorem de_join (ho : DE X W o f) (he : DE X W e g) (hs : starEach [e] X.env = [(false, eval e X.env)] := by rfl) (hbase : attributeBase o "join" X.env (eval o X.env) = eval o X.env := by rfl) (hline : (apos.endLine == pos.line) = true := by rfl) : DE X W (.Call (.Attribute o "join" apos) [e] [] pos) (eJoin f g) := by
  refine ⟨PE.imp (pe_join ho.run he.run hs hbase hline) fun σ H Q ⟨G, S, ρ, rs, rp, q⟩ => ⟨G, S, ρ, rs, rp, (Aft.bind q).mono fun d H1 G1 S1 x1 r1 q1 v dv => ?_⟩⟩
  split at q1
  · rename_i a
    refine ⟨⟨a, den_str dv⟩, G1, S1, ρ, x1.relS rp rs, r1, (Aft.bind q1).mono fun l H2 G2 S2 x2 r2 q2 w dw => ?_⟩
    unfold joinM at q2
    split at q2
    · rename_i xs es
      split at q2
      · rename_i ys ey
        obtain ⟨b, vs, rfl, hq, t⟩ := seqOf_den r2 es dw
        have ev := strsP_dn ey t
        subst ev
        by_cases hz : (ys.map (·.length)).sum + ys.length * a.length ≤ 16777216
        · rw [if_pos hz] at q2
          exact ⟨a, b, ys, den_str dv, rfl, hq, hz, q2.ret r2 (.str _)⟩
        · rw [if_neg hz] at q2; exact q2.elim
      · exact q2.elim
    · exact q2.elim
  · exact q1.elim
theorem de_fmt (he : DE X W e f) : DE X W (.FormattedValue e (-1) none pos) (e1 fmtM f) := by
  refine ⟨PE.imp (pe_fmt he.run) fun σ H Q ⟨G, S, ρ, rs, rp, q⟩ => ⟨G, S, ρ, rs, rp, (Aft.bind q).mono fun d H1 G1 S1 x1 r1 q1 v dv => ?_⟩⟩
  unfold fmtM at q1
  split at q1
  · rename_i z
    by_cases hz : z.length ≤ LIM
    · rw [if_pos hz] at q1
      exact .inl ⟨z, den_str dv, Nat.le_trans hz LIM_le, q1.ret r1 (.str _)⟩
    · rw [if_neg hz] at q1; exact q1.elim
  · rename_i i
    by_cases hz : i.natAbs.log2 < 1920
    · rw [if_pos hz] at q1
      exact .inr ⟨i, den_int dv, hz, q1.ret r1 (.str _)⟩
    · rw [if_neg hz] at q1; exact q1.elim
  · exact q1.elim
theorem DJ.run {es : List Expr} {fs : List FE} (h : DJ X W es fs) : PJ X es (fs.map (rd X.K W)) := by
  induction h with
  | nil => exact .nil
  | cons h r ih => exact .cons h.run ih
theorem js_read {K : PySem.W.Frag} {Q : VK} : ∀ (fs : List FE) (acc : Str) {σ : L2.St} {H : Hp} {G : Gh} {S : Sto} {ρ : Ev}, RelS K H G ρ σ → Rep K H G S → Aft K W σ H G S (jsD fs acc ρ S) (QD K Q) → tJs (fs.map (rd K W)) acc σ H fun out H1 => Q (.str out) H1
  | [], acc, σ, H, G, S, ρ, rs, rp, q => Aft.ret q rp (.str acc)
  | f :: r, acc, σ, H, G, S, ρ, rs, rp, q => by
    refine ⟨G, S, ρ, rs, rp, (Aft.bind q).mono fun d H1 G1 S1 x1 r1 q1 v dv => ?_⟩
    split at q1
    · rename_i y
      by_cases hz : (acc ++ y).length ≤ LIM
      · rw [if_pos hz] at q1
        exact ⟨y, den_str dv, Nat.le_trans hz LIM_le, js_read r (acc ++ y) (x1.relS rp rs) r1 q1⟩
      · rw [if_neg hz] at q1; exact q1.elim
    · exact q1.elim
theorem de_fstr {v1 v2 : Expr} {rest : List Expr} {fs : List FE} (h : DJ X W (v1 :: v2 :: rest) fs) : DE X W (.JoinedStr (v1 :: v2 :: rest) pos) (jsD fs Str.empty) :=
  ⟨PE.imp (pe_joined h.run) fun σ H Q ⟨G, S, ρ, rs, rp, q⟩ => js_read fs Str.empty rs rp q⟩
end
end DL

namespace DL
open PySem L2 PySem.Spec PyProof.Rows

def eChain (g g' : D → D → M D) (a b c : FE) : FE := fun ρ S => (a ρ S).bind fun x S1 => (b ρ S1).bind fun y S2 => (g x y S2).bind fun z S3 => match z with
  | .p (.bool true) => (c ρ S3).bind fun w S4 => g' y w S4
  | .p (.bool false) => .ok (.p (.bool false)) S3
  | _ => .bad
def boolM : D → M Bool := fun d S => match d with
  | .p (.bool c) => .ok c S
  | _ => .bad
def tChain (g g' : D → D → M D) (a b c : FE) : FT := fun ρ S => (eChain g g' a b c ρ S).bind boolM
section
variable {X : Cx} {W : WX} {a b c : Expr} {fa fb fc : FE} {pos : Pos} {r r' : R2} {g g' : D → D → M D}
theorem chain_read (m : Sim2 X.K r g) (m' : Sim2 X.K r' g') {σ : L2.St} {H : Hp} {Q : VK} (q : rd X.K W (eChain g g' fa fb fc) σ H Q) : L2.tChain r r' (rd X.K W fa) (rd X.K W fb) (rd X.K W fc) σ H Q := by
  obtain ⟨G, S, ρ, rs, rp, q⟩ := q
  refine ⟨G, S, ρ, rs, rp, (Aft.bind q).mono fun x H1 G1 S1 x1 r1 q1 v dv => ?_⟩
  refine ⟨G1, S1, ρ, x1.relS rp rs, r1, (Aft.bind q1).mono fun y H2 G2 S2 x2 r2 q2 w dw => ?_⟩
  refine m W σ H2 G2 S2 x y v w _ r2 (x2.den r1 dv) dw ((Aft.bind q2).mono fun z H3 G3 S3 x3 r3 q3 u du => ?_)
  split at q3
  · refine ⟨true, den_bool du, L2.iteT ⟨G3, S3, ρ, (x2.trans x3).relS r1 (x1.relS rp rs), r3, (Aft.bind q3).mono fun w' H4 G4 S4 x4 r4 q4 u' du' => ?_⟩⟩
    exact m' W σ H4 G4 S4 y w' w u' Q r4 ((x3.trans x4).den r2 dw) du' q4
  · exact ⟨false, den_bool du, L2.iteF (q3.ret r3 (.bl _))⟩
  · exact q3.elim
theorem de_chain {op op' : CmpOp} (o : OpR X (compareOp op) r) (m : Sim2 X.K r g) (o' : OpR X (compareOp op') r') (m' : Sim2 X.K r' g') (ha : DE X W a fa) (hb : DE X W b fb) (hc : DE X W c fc) (hm : lastMarks [op, op'] [b, c] = false := by with_unfolding_all rfl) : DE X W (.Compare a [op, op'] [b, c] pos) (eChain g g' fa fb fc) :=
  ⟨PE.imp (pe_chain o o' ha.run hb.run hc.run hm) fun _ _ _ q => chain_read m m' q⟩
theorem dt_chain {op op' : CmpOp} (o : OpR X (compareOp op) r) (m : Sim2 X.K r g) (o' : OpR X (compareOp op') r') (m' : Sim2 X.K r' g') (ha : DE X W a fa) (hb : DE X W b fb) (hc : DE X W c fc) (hm : lastMarks [op, op'] [b, c] = false := by with_unfolding_all rfl) : DT X W (.Compare a [op, op'] [b, c] pos) (tChain g g' fa fb fc) := by
  refine ⟨PT.imp (pt_chain o o' ha.run hb.run hc.run hm) fun σ H Q ⟨G, S, ρ, rs, rp, q⟩ => ?_⟩
  refine chain_read m m' ⟨G, S, ρ, rs, rp, (Aft.bind q).mono fun d H1 G1 S1 x1 r1 q1 v dv => ?_⟩
  unfold boolM at q1
  split at q1
  · rename_i c
    exact ⟨c, den_bool dv, q1 H1 G1 Ext.refl r1⟩
  · exact q1.elim
theorem de_lele (ha : DE X W a fa) (hb : DE X W b fb) (hc : DE X W c fc) (hm : lastMarks [.LtE, .LtE] [b, c] = false := by with_unfolding_all rfl) : DE X W (.Compare a [.LtE, .LtE] [b, c] pos) (eChain opLe opLe fa fb fc) := de_chain op_le sim_cmp op_le sim_cmp ha hb hc hm
theorem dt_lele (ha : DE X W a fa) (hb : DE X W b fb) (hc : DE X W c fc) (hm : lastMarks [.LtE, .LtE] [b, c] = false := by with_unfolding_all rfl) : DT X W (.Compare a [.LtE, .LtE] [b, c] pos) (tChain opLe opLe fa fb fc) := dt_chain op_le sim_cmp op_le sim_cmp ha hb hc hm
theorem dt_lelt (ha : DE X W a fa) (hb : DE X W b fb) (hc : DE X W c fc) (hm : lastMarks [.LtE, .Lt] [b, c] = false := by with_unfolding_all rfl) : DT X W (.Compare a [.LtE, .Lt] [b, c] pos) (tChain opLe opLt fa fb fc) := dt_chain op_le sim_cmp op_lt sim_cmp ha hb hc hm
theorem dt_ltlt (ha : DE X W a fa) (hb : DE X W b fb) (hc : DE X W c fc) (hm : lastMarks [.Lt, .Lt] [b, c] = false := by with_unfolding_all rfl) : DT X W (.Compare a [.Lt, .Lt] [b, c] pos) (tChain opLt opLt fa fb fc) := dt_chain op_lt sim_cmp op_lt sim_cmp ha hb hc hm
/-- is not, of bools -/
def opNotB : D → D → M D := fun x y S => match x, y with
  | .p (.bool a), .p (.bool b) => .ok (.p (.bool (!decide (a = b)))) S
  | _, _ => .bad
theorem sim_notB {K : PySem.W.Frag} : Sim2 K rNotB opNotB := by
  intro W σ H G S x y v w Q rp dx dy q
  unfold opNotB at q
  split at q
  · rename_i a b
    exact ⟨a, b, den_bool dx, den_bool dy, q.ret rp (.bl _)⟩
  · exact q.elim
theorem dt_notB (ha : DE X W a fa) (hb : DE X W b fb) : DT X W (.Compare a [.IsNot] [b] pos) (tC2 opNotB fa fb) := dt_cmp op_notBl sim_notB ha hb (nomark _)
end

section
variable {X : Cx} {W : WX} {k : Nat} {f : Addr} {fd : FuncData} {y x : Str} {p pos kpos : Pos} {e : Expr} {fe : FE} {g : List D → M D}
theorem de_callKw1 (F : FnG X.prog X.w X.K X.mg X.base k f fd [y] (spD X.K 1 g)) (hr : Room k X.A) (hgd : X.A.guards = some []) (hg : Gl X x) (hm : X.mg x = some (.ref f)) (hk : PySem.W.keepIn X.K (.ref f) = true) (hb : ∀ (s : Shared) (u : Value), BindsTo s fd ⟨[], [(y, u)]⟩ [(y, u)])
    (ha : DE X W e fe) (hall : (backToKw pos (keywordEach [⟨some y, e, kpos⟩] X.env)).all (·.1.isSome) = true := by rfl) (hks : (backToKw pos (keywordEach [⟨some y, e, kpos⟩] X.env)).filterMap (·.1) = [y] := by rfl)
    (hdb : (x == ("__debug__" : Str)) = false := by decide) (hpl : ((backTo pos (starEach [] X.env)).any (·.1) || (backToKw pos (keywordEach [⟨some y, e, kpos⟩] X.env)).any (·.1.isNone)) = false := by rfl) :
    DE X W (.Call (.Name x p) [] [⟨some y, e, kpos⟩] pos) (eCall 1 g (aCons fe aNil)) := by
  refine ⟨⟨fun pins s σ H Q I h => wpAny_Call_Name_kw (ld_glob I hg hm ?_ hdb)⟩⟩
  have hkw : PK X [⟨some y, e, kpos⟩] (tCons (rd X.K W fe) tNil) := pk_cons ha.run pk_nil
  have hq : tCons (rd X.K W fe) tNil σ H fun vs H1 => spD X.K 1 g vs H1 Q E0 := by
    obtain ⟨G, S, ρ, rs, rp, q⟩ := h
    refine ⟨G, S, ρ, rs, rp, ?_⟩
    have q : Aft X.K W σ H G S (((fe ρ S).bind fun d S1 => .ok [d] S1).bind fun ds S1 => if ds.length = 1 then noErr (cutD S1.length (g ds S1)) else .bad) (QD X.K Q) := q
    cases eo : fe ρ S with
    | bad => rw [eo] at q; exact q
    | err z S1 => rw [eo] at q; exact q
    | ok d S1 =>
      rw [eo] at q
      intro H1 G1 x1 r1 v dv
      have q1 : Aft X.K W σ H G S (noErr (cutD S1.length (g [d] S1))) (QD X.K Q) := q
      refine ⟨G1, S1, [d], rfl, .cons dv .nil, r1, ?_⟩
      have q2 : Aft X.K W0 [] H G S (cutD S1.length (g [d] S1)) (QD X.K Q) := Aft.noErr q1
      cases ec : cutD S1.length (g [d] S1) with
      | bad => rw [ec] at q2; exact q2
      | err z S2 => rw [ec] at q1; exact q1.elim
      | ok d2 S2 => rw [ec] at q2; exact fun H2 G2 x2 r2 => q2 H2 G2 (x1.trans x2) r2
  refine PySem.W.callWith_KW0 (h₀ := X.base) I.ok.mod.kin hk hall (thn (hkw.run pos pins s σ H _ I hq) fun ws s2 ⟨zs, H2, I2, rz, q2⟩ => ⟨I2.kIn, ?_⟩) hpl
  rw [hks]
  have hl : zs.length = 1 := F.len _ _ _ _ q2
  have rl := rz.length
  obtain ⟨z, rfl⟩ := List.length_eq_one_iff.mp hl
  obtain ⟨u, rfl⟩ := List.length_eq_one_iff.mp (rl.symm.trans hl)
  · refine wpAny_call (codeAny_mono (F.run X.A X.stack s2 H2 ⟨[], [(y, u)]⟩ [u] [z] Q E0 hr hgd I2.env0 (hb s2 u) rz q2) fun res s' hq => ?_)
    match res, hq with
    | .error e, hq => exact False.elim hq
    | .ok (.ret u), hq => exact I2.after hq
    | .ok .next, hq => exact False.elim hq
    | .ok .brk, hq => exact False.elim hq
    | .ok .cont, hq => exact False.elim hq
end

def appendM : D → List D → M D := fun o ds S => match o, ds with
  | .ob i, [.p x] => match S[i]? with
    | some (.lst xs) => if xs.length < LIM then .ok (.p .none) (S.set i (.lst (xs ++ [x]))) else .bad
    | _ => .bad
  | _, _ => .bad
def extendM : D → List D → M D := fun o ds S => match o, ds with
  | .ob i, [l] => match S[i]?, lstOf S l with
    | some (.lst xs), some ys => if xs.length + ys.length ≤ LIM then .ok (.p .none) (S.set i (.lst (xs ++ ys))) else .bad
    | _, _ => .bad
  | _, _ => .bad
def popM : D → List D → M D := fun o ds S => match o, ds with
  | .ob i, [] => match S[i]? with
    | some (.lst xs) => (match xs[xs.length - 1]? with
      | some y => .ok (.p y) (S.set i (.lst xs.dropLast))
      | none => .bad)
    | _ => .bad
  | .ob i, [.p (.int k)] => match S[i]? with
    | some (.lst xs) => if 0 ≤ k ∧ k ≤ 1000000 then (match xs[k.toNat]? with
      | some y => .ok (.p y) (S.set i (.lst (xs.eraseIdx k.toNat)))
      | none => .bad) else .bad
    | _ => .bad
  | _, _ => .bad
/-- o.m(..) of a list -/
def eLm (m : D → List D → M D) (f : FE) (fa : FA) : FE := fun ρ S => (f ρ S).bind fun o S1 => match rlOf S1 o with
  | some _ => (fa ρ S1).bind fun ds S2 => m o ds S2
  | none => .bad
def SimM (K : PySem.W.Frag) (r : V → List V → Hp → VK → Prop) (m : D → List D → M D) : Prop :=
  ∀ (W : WX) (σ : L2.St) (H : Hp) (G : Gh) (S : Sto) (o : D) (ds : List D) (v : V) (vs : List V) (Q : VK), Rep K H G S → Den K H G o v → DenL K H G ds vs → Aft K W σ H G S (m o ds S) (QD K Q) → r v vs H Q
theorem DnAll.dropLast {K : PySem.W.Frag} {φ : List (Addr × HO)} {H : Hp} {ds : List PyData} {vs : List V} (t : DnAll K φ H ds vs) : DnAll K φ H ds.dropLast vs.dropLast := by
  rw [List.dropLast_eq_take, List.dropLast_eq_take, t.length]
  exact t.take _
theorem DnAll.eraseIdx {K : PySem.W.Frag} {φ : List (Addr × HO)} {H : Hp} {ds : List PyData} {vs : List V} (k : Nat) (t : DnAll K φ H ds vs) : DnAll K φ H (ds.eraseIdx k) (vs.eraseIdx k) := by
  rw [List.eraseIdx_eq_take_drop_succ, List.eraseIdx_eq_take_drop_succ]
  exact (t.take k).append (t.drop (k + 1))
section
variable {K : PySem.W.Frag}
theorem Aft.chgLst {W : WX} {σ : L2.St} {H : Hp} {G : Gh} {S : Sto} {Q : VK} {i : Nat} {a : Addr} {m : MO} {xs : List PyData} {vs : List V} {d : PyData} {v : V} (q : Aft K W σ H G S (.ok (.p d) (S.set i (.lst xs))) (QD K Q)) (rp : Rep K H G S) (ha : G.ι[i]? = some a) (hm : S[i]? = some m) (hl : m ≠ .dead) (t : DnAll K G.φ H xs vs) (dv : Dn K G.φ H d v) : Q v (upd H a (.lst vs)) := by
  have x := Ext.chg (o := .lst vs) (m' := .lst xs) rp ha hm hl
  exact q _ G x (rp.chg ha hm hl ⟨vs, upd_same, x.dnAll rp t⟩) v (x.dn rp dv)
theorem sim_append : SimM K rAppend appendM := by
  intro W σ H G S o ds v vs Q rp dv dvs q
  unfold appendM at q
  split at q
  · rename_i i x
    obtain ⟨a, rfl, ha⟩ := dv
    obtain ⟨u, rfl, du⟩ := denL1 dvs
    split at q
    · rename_i xs em
      obtain ⟨us, e1, t⟩ := rp.ok i a _ ha em
      by_cases hl : xs.length < LIM
      · rw [if_pos hl] at q
        exact ⟨a, us, u, rfl, rfl, e1, by rw [← t.length]; exact Nat.lt_trans hl LIM_lt, q.chgLst rp ha em (fun z => nomatch z) (t.append (.cons du .nil)) .non⟩
      · rw [if_neg hl] at q; exact q.elim
    · exact q.elim
  · exact q.elim
theorem sim_extend : SimM K rExtend extendM := by
  intro W σ H G S o ds v vs Q rp dv dvs q
  unfold extendM at q
  split at q
  · rename_i i l
    obtain ⟨a, rfl, ha⟩ := dv
    obtain ⟨u, rfl, du⟩ := denL1 dvs
    split at q
    · rename_i xs ys em el
      obtain ⟨us, e1, t⟩ := rp.ok i a _ ha em
      obtain ⟨b, ws, rfl, e2, t2⟩ := lstOf_den rp el du
      by_cases hl : xs.length + ys.length ≤ LIM
      · rw [if_pos hl] at q
        exact ⟨a, b, us, ws, rfl, rfl, e1, e2, by rw [← t.length, ← t2.length]; exact Nat.le_trans hl LIM_le, q.chgLst rp ha em (fun z => nomatch z) (t.append t2) .non⟩
      · rw [if_neg hl] at q; exact q.elim
    · exact q.elim
  · exact q.elim
theorem sim_pop : SimM K (fun x vs H Q => rPop x vs H Q ∨ rPopAt x vs H Q) popM := by
  intro W σ H G S o ds v vs Q rp dv dvs q
  unfold popM at q
  split at q
  · rename_i i
    obtain ⟨a, rfl, ha⟩ := dv
    cases dvs
    split at q
    · rename_i xs em
      obtain ⟨us, e1, t⟩ := rp.ok i a _ ha em
      split at q
      · rename_i y ey
        obtain ⟨u, eu, du⟩ := t.get ey
        exact .inl ⟨a, us, u, rfl, rfl, e1, by rw [← t.length]; exact eu, q.chgLst rp ha em (fun z => nomatch z) t.dropLast du⟩
      · exact q.elim
    · exact q.elim
  · rename_i i k
    obtain ⟨a, rfl, ha⟩ := dv
    obtain ⟨u, rfl, du⟩ := denL1 dvs
    obtain rfl := den_int du
    split at q
    · rename_i xs em
      obtain ⟨us, e1, t⟩ := rp.ok i a _ ha em
      by_cases hk : 0 ≤ k ∧ k ≤ 1000000
      · rw [if_pos hk] at q
        split at q
        · rename_i y ey
          obtain ⟨w, ew, dw⟩ := t.get ey
          have hlt : k.toNat < us.length := (List.getElem?_eq_some_iff.mp ew).1
          exact .inr ⟨a, us, k, k.toNat, w, rfl, rfl, e1, by omega, by omega, seqIndex_of hk.1 (by omega), ew, q.chgLst rp ha em (fun z => nomatch z) (t.eraseIdx _) dw⟩
        · exact q.elim
      · rw [if_neg hk] at q; exact q.elim
    · exact q.elim
  · exact q.elim
end
section
variable {X : Cx} {W : WX} {o e : Expr} {es : List Expr} {f : FE} {fa : FA} {apos cpos : Pos} {r : V → List V → Hp → VK → Prop} {m : D → List D → M D}
theorem lm_read (sm : SimM X.K r m) {σ : L2.St} {H : Hp} {Q : VK} (q : rd X.K W (eLm m f fa) σ H Q) : tBM X.K "list" r (rd X.K W f) (rdA X.K W fa) σ H Q := by
  obtain ⟨G, S, ρ, rs, rp, q⟩ := q
  refine ⟨G, S, ρ, rs, rp, (Aft.bind q).mono fun od H1 G1 S1 x1 r1 q1 v dv => ?_⟩
  split at q1
  · rename_i xs eo
    obtain ⟨a, vs, rfl, hq, t⟩ := rlOf_den r1 eo dv
    refine ⟨.inl ⟨rfl, vs, hq⟩, G1, S1, ρ, x1.relS rp rs, r1, (Aft.bind q1).mono fun ds H2 G2 S2 x2 r2 q2 us dus => ?_⟩
    exact sm W σ H2 G2 S2 od ds _ us Q r2 (x2.den r1 dv) dus q2
  · exact q1.elim
theorem de_append (ho : DE X W o f) (ha : DA X W (e :: es) fa) (hbase : attributeBase o "append" X.env (eval o X.env) = eval o X.env := by rfl)
    (hfew : ((backTo cpos (starEach (e :: es) X.env)).all (fun x => !x.1) && (backToKw cpos (keywordEach [] X.env)).all (fun x => x.1.isSome)
      && decide ((e :: es).length + ([] : List Keyword).length + (if ([] : List Keyword).isEmpty then 0 else 1) < 30)) = true := by rfl)
    (hline : (apos.endLine == cpos.line) = true := by rfl) (hs : starEach (e :: es) X.env = (false, eval e X.env) :: starEach es X.env := by rfl) (hplain : (backTo cpos (starEach es X.env)).any (·.1) = false := by rfl) :
    DE X W (.Call (.Attribute o "append" apos) (e :: es) [] cpos) (eLm appendM f fa) :=
  ⟨PE.imp (pe_bm PySem.F.plainAttrs_list PySem.F.slot_list_append PySem.F.type_list_append mt_append ho.run ha.run hbase hfew hline hs hplain) fun _ _ _ q => lm_read sim_append q⟩
theorem de_extend (ho : DE X W o f) (ha : DA X W (e :: es) fa) (hbase : attributeBase o "extend" X.env (eval o X.env) = eval o X.env := by rfl)
    (hfew : ((backTo cpos (starEach (e :: es) X.env)).all (fun x => !x.1) && (backToKw cpos (keywordEach [] X.env)).all (fun x => x.1.isSome)
      && decide ((e :: es).length + ([] : List Keyword).length + (if ([] : List Keyword).isEmpty then 0 else 1) < 30)) = true := by rfl)
    (hline : (apos.endLine == cpos.line) = true := by rfl) (hs : starEach (e :: es) X.env = (false, eval e X.env) :: starEach es X.env := by rfl) (hplain : (backTo cpos (starEach es X.env)).any (·.1) = false := by rfl) :
    DE X W (.Call (.Attribute o "extend" apos) (e :: es) [] cpos) (eLm extendM f fa) :=
  ⟨PE.imp (pe_bm PySem.F.plainAttrs_list PySem.F.slot_list_extend PySem.F.type_list_extend mt_extend ho.run ha.run hbase hfew hline hs hplain) fun _ _ _ q => lm_read sim_extend q⟩
theorem de_popAt (ho : DE X W o f) (ha : DA X W (e :: es) fa) (hbase : attributeBase o "pop" X.env (eval o X.env) = eval o X.env := by rfl)
    (hfew : ((backTo cpos (starEach (e :: es) X.env)).all (fun x => !x.1) && (backToKw cpos (keywordEach [] X.env)).all (fun x => x.1.isSome)
      && decide ((e :: es).length + ([] : List Keyword).length + (if ([] : List Keyword).isEmpty then 0 else 1) < 30)) = true := by rfl)
    (hline : (apos.endLine == cpos.line) = true := by rfl) (hs : starEach (e :: es) X.env = (false, eval e X.env) :: starEach es X.env := by rfl) (hplain : (backTo cpos (starEach es X.env)).any (·.1) = false := by rfl) :
    DE X W (.Call (.Attribute o "pop" apos) (e :: es) [] cpos) (eLm popM f fa) :=
  ⟨PE.imp (pe_bm PySem.F.plainAttrs_list PySem.F.slot_list_pop PySem.F.type_list_pop (MtR.or (show MtR X "list.pop" _ from mt_pop) mt_popAt) ho.run ha.run hbase hfew hline hs hplain) fun _ _ _ q => lm_read sim_pop q⟩
theorem de_pop (ho : DE X W o f) (hbase : attributeBase o "pop" X.env (eval o X.env) = eval o X.env := by rfl) (hline : (apos.endLine == cpos.line) = true := by rfl) : DE X W (.Call (.Attribute o "pop" apos) [] [] cpos) (eLm popM f aNil) := by
  refine ⟨PE.imp (pe_bm0 PySem.F.plainAttrs_list PySem.F.slot_list_pop PySem.F.type_list_pop (MtR.or (show MtR X "list.pop" _ from mt_pop) mt_popAt) ho.run hbase hline) fun σ H Q q => ?_⟩
  obtain ⟨G, S, ρ, rs, rp, q⟩ := q
  refine ⟨G, S, ρ, rs, rp, (Aft.bind q).mono fun od H1 G1 S1 x1 r1 q1 v dv => ?_⟩
  split at q1
  · rename_i xs eo
    obtain ⟨a, vs, rfl, hq, t⟩ := rlOf_den r1 eo dv
    exact ⟨.inl ⟨rfl, vs, hq⟩, sim_pop W σ H1 G1 S1 od [] _ [] Q r1 dv .nil q1⟩
  · exact q1.elim

def getM : D → D → D → M D := fun o k x S => match dicOf S o, k with
  | some kvs, .p kd => (match pyKey kd with
    | some key => (match valD kvs key with
      | some d => .ok (.p d) S
      | none => .ok x S)
    | none => .bad)
  | _, _ => .bad
def setdM : D → D → D → M D := fun o k x S => match o, k, x with
  | .ob i, .p kd, .p xd => match S[i]?, pyKey kd with
    | some (.dic kvs), some key => if kvs.length < LIM then (match valD kvs key with
      | some d => .ok (.p d) S
      | none => .ok (.p xd) (S.set i (.dic (putD kvs key xd)))) else .bad
    | _, _ => .bad
  | _, _, _ => .bad
def eDm (m : D → D → D → M D) (f g h : FE) : FE := fun ρ S => (f ρ S).bind fun o S1 => match dicOf S1 o with
  | some _ => (g ρ S1).bind fun k S2 => (h ρ S2).bind fun x S3 => m o k x S3
  | none => .bad
variable {g h : FE} {e2 : Expr}
theorem de_get (hu : X.A.units + 1 < cLine) (ho : DE X W o f) (he : DE X W e g) (hf : DE X W e2 h) (m : M2 X o "get" apos e e2 cpos := by exact ⟨rfl, rfl, rfl, rfl⟩) : DE X W (.Call (.Attribute o "get" apos) [e, e2] [] cpos) (eDm getM f g h) := by
  refine ⟨PE.imp (pe_dget2 hu ho.run he.run hf.run m) fun σ H Q ⟨G, S, ρ, rs, rp, q⟩ => ⟨G, S, ρ, rs, rp, (Aft.bind q).mono fun od H1 G1 S1 x1 r1 q1 v dv => ?_⟩⟩
  split at q1
  · rename_i kv0 eo
    obtain ⟨a, ws, rfl, hH, _⟩ := dicOf_den r1 eo dv
    refine ⟨a, rfl, .inl ⟨ws, .inl hH⟩, G1, S1, ρ, x1.relS rp rs, r1, (Aft.bind q1).mono fun k H2 G2 S2 x2 r2 q2 kv dk => ?_⟩
    refine ⟨G2, S2, ρ, x2.relS r1 (x1.relS rp rs), r2, (Aft.bind q2).mono fun x H3 G3 S3 x3 r3 q3 xv dx => ?_⟩
    unfold getM at q3
    split at q3
    · rename_i kvs kd eo3
      obtain ⟨b, ws3, eb, hH3, kr⟩ := dicOf_den r3 eo3 ((x2.trans x3).den r1 dv)
      cases eb
      split at q3
      · rename_i key ek
        have ekd := keyPy_of ek
        subst ekd
        have dk3 := x3.den r2 dk
        have ev : kv = kV key := by
          cases key with
          | inl i => exact den_int dk3
          | inr z => exact den_str dk3
        subst ev
        refine ⟨valV ws3 key, DGet.k hH3, ?_⟩
        split at q3
        · rename_i d ed
          obtain ⟨u, eu, du⟩ := (kr.val (k := key)).1 d ed
          rw [eu]
          exact q3.ret r3 du
        · rename_i ed
          rw [(kr.val (k := key)).2 ed]
          exact q3.ret r3 dx
      · exact q3.elim
    · exact q3.elim
  · exact q1.elim
theorem de_setd (ho : DE X W o f) (he : DE X W e g) (hf : DE X W e2 h) (m : M2 X o "setdefault" apos e e2 cpos := by exact ⟨rfl, rfl, rfl, rfl⟩) : DE X W (.Call (.Attribute o "setdefault" apos) [e, e2] [] cpos) (eDm setdM f g h) := by
  refine ⟨PE.imp (pe_dsetd ho.run he.run hf.run m) fun σ H Q ⟨G, S, ρ, rs, rp, q⟩ => ⟨G, S, ρ, rs, rp, (Aft.bind q).mono fun od H1 G1 S1 x1 r1 q1 v dv => ?_⟩⟩
  split at q1
  · rename_i kv0 eo
    obtain ⟨a, ws, rfl, hH, _⟩ := dicOf_den r1 eo dv
    refine ⟨a, rfl, .inl ⟨ws, .inl hH⟩, G1, S1, ρ, x1.relS rp rs, r1, (Aft.bind q1).mono fun k H2 G2 S2 x2 r2 q2 kv dk => ?_⟩
    refine ⟨G2, S2, ρ, x2.relS r1 (x1.relS rp rs), r2, (Aft.bind q2).mono fun x H3 G3 S3 x3 r3 q3 xv dx => ?_⟩
    have dv3 := (x2.trans x3).den r1 dv
    have dk3 := x3.den r2 dk
    unfold setdM at q3
    split at q3
    · rename_i i kd xd
      obtain ⟨b, eb, ha⟩ := dv3
      cases eb
      split at q3
      · rename_i kvs key em ek
        have ekd := keyPy_of ek
        subst ekd
        have ev : kv = kV key := by
          cases key with
          | inl i => exact den_int dk3
          | inr z => exact den_str dk3
        subst ev
        obtain ⟨ws3, e1, e2, t⟩ := r3.ok i a _ ha em
        have kr : KvR X.K G3.φ H3 kvs ws3 := ⟨e2, t⟩
        by_cases hl : kvs.length < LIM
        · rw [if_pos hl] at q3
          refine ⟨ws3, key, e1, rfl, by rw [← kr.length]; exact Nat.lt_trans hl LIM_lt, fun u eu => ?_, fun eu => ?_⟩
          · split at q3
            · rename_i d ed
              obtain ⟨u', eu', du⟩ := (kr.val (k := key)).1 d ed
              rw [eu] at eu'; cases eu'
              exact q3.ret r3 du
            · rename_i ed
              rw [(kr.val (k := key)).2 ed] at eu; cases eu
          · split at q3
            · rename_i d ed
              obtain ⟨u', eu', du⟩ := (kr.val (k := key)).1 d ed
              rw [eu] at eu'; cases eu'
            · have rr := kr.put (k := key) dx
              have xx := Ext.chg (o := .dK (putK ws3 key xv)) (m' := .dic (putD kvs key xd)) r3 ha em (fun z => nomatch z)
              exact q3 _ G3 xx (r3.chg ha em (fun z => nomatch z) ⟨_, upd_same, rr.ks, xx.dnAll r3 rr.vs⟩) xv (xx.dn r3 dx)
        · rw [if_neg hl] at q3; exact q3.elim
      · exact q3.elim
    · exact q3.elim
  · exact q1.elim
end
end DL

namespace DL
open PySem L2 PySem.Spec PyProof.Rows

def GlobIs (K : PySem.W.Frag) (mg : Str → Option Value) (x : Str) (d : PyData) : Prop := ∃ (u : Value) (v : V), mg x = some u ∧ RelV v u ∧ ∀ H G, Den K H G (.p d) v
theorem de_globD {X : Cx} {W : WX} {x : Str} {d : PyData} {pos : Pos} (hg : Gl X x) (h : GlobIs X.K X.mg x d) (hdb : (x == ("__debug__" : Str)) = false := by decide) : DE X W (.Name x pos) (eC (.p d)) := by
  obtain ⟨u, v, hm, r, hd⟩ := h
  exact de_glob hg hm r hd hdb
/-- flat values of the top -/
def flatOf : Value → Option (PyData × V)
  | .none => some (.none, .non)
  | .bool b => some (.bool b, .bl b)
  | .int i _ => some (.int i, .int i)
  | .str x _ => some (.str x, .str x)
  | _ => none
def flats : List Value → Option (List (PyData × V))
  | [] => some []
  | u :: us => match flatOf u, flats us with
    | some p, some ps => some (p :: ps)
    | _, _ => none
theorem flat_ok {K : PySem.W.Frag} {φ : List (Addr × HO)} {H : Hp} {u : Value} {p : PyData × V} (e : flatOf u = some p) : RelV p.2 u ∧ Dn K φ H p.1 p.2 := by
  unfold flatOf at e
  split at e <;> first | (cases e; exact ⟨rfl, .non⟩) | (cases e; exact ⟨rfl, .bl _⟩) | (cases e; exact ⟨⟨_, rfl⟩, .int _⟩) | (cases e; exact ⟨⟨_, rfl⟩, .str _⟩) | cases e
theorem flats_ok {K : PySem.W.Frag} {φ : List (Addr × HO)} {H : Hp} : ∀ {us : List Value} {ps : List (PyData × V)}, flats us = some ps → Vals (ps.map (·.2)) us ∧ DnAll K φ H (ps.map (·.1)) (ps.map (·.2))
  | [], ps, e => by cases e; exact ⟨.nil, .nil⟩
  | u :: us, ps, e => by
    unfold flats at e
    split at e
    · rename_i p ps' e1 e2
      cases e
      have h := flat_ok (K := K) (φ := φ) (H := H) e1
      have t := flats_ok (K := K) (φ := φ) (H := H) e2
      exact ⟨.cons h.1 t.1, .cons h.2 t.2⟩
    · cases e
section
variable {K : PySem.W.Frag} {h : Heap} {mg : Str → Option Value} {x : Str}
theorem glob_flat {u : Value} {p : PyData × V} {d : PyData} (X : K.In h) (G : h.Ns mainGlobals mg) (e : PySem.W.nsIn K mainGlobals x = some (some u)) (f : flatOf u = some p) (hd : p.1 = d := by rfl) : GlobIs K mg x d := by
  subst hd
  exact ⟨u, p.2, PySem.W.mg_of X G e, (flat_ok (K := K) (φ := []) (H := fun _ => none) f).1, fun H G => (flat_ok f).2⟩
theorem glob_tup {a : Addr} {o : Obj} {its : Array Value} {n : Nat} {ps : List (PyData × V)} {d : PyData} (X : K.In h) (G : h.Ns mainGlobals mg) (e : PySem.W.nsIn K mainGlobals x = some (some (.ref a))) (l : K.lookup a = some o) (hc : o.cls = .type "tuple") (hs : o.data = .seq its n)
    (f : flats its.toList = some ps) (hz : its.size ≤ 1000) (hd : PyData.tuple (ps.map (·.1)) = d) : GlobIs K mg x d := by
  subst hd
  refine ⟨.ref a, .ref a, PySem.W.mg_of X G e, rfl, fun H G => .tup (.inr ⟨o, its, n, l, hc, hs, Nat.le_of_lt (small1000 hz), ?_⟩) (flats_ok f).2⟩
  exact (flats_ok (K := K) (φ := []) (H := fun _ => none) f).1
end

def opEqX (neg : Bool) : D → D → M D := fun x y S => match x, y with
  | .p (.str a), .p (.str b) => .ok (.p (.bool (if neg then !(a == b) else (a == b)))) S
  | .p (.int a), .p (.int b) => .ok (.p (.bool (if neg then !(a == b) else (a == b)))) S
  | .p (.bool a), .p (.bool b) => .ok (.p (.bool (if neg then !(a == b) else (a == b)))) S
  | .p (.tuple xs), .p (.tuple []) => .ok (.p (.bool (if neg then !xs.isEmpty else xs.isEmpty))) S
  | x, y => opEq neg x y S
def rT0 (K : PySem.W.Frag) (neg : Bool) : R2 := fun x y H Q => ∃ a b vs, x = .ref a ∧ y = .ref b ∧ SqT K H a vs ∧ SqT K H b [] ∧ Q (.bl (if neg then !vs.isEmpty else vs.isEmpty)) H
section
variable {X : Cx}
theorem op_eqT0 (hu : X.A.units < cLine) : OpR X (compareOp .Eq) (rT0 X.K false) := by
  intro pins s σ H x y v u Q I rx ry h
  obtain ⟨a, b, vs, rfl, rfl, ha, hb, q⟩ := h
  cases (show v = Value.ref a from rx)
  cases (show u = Value.ref b from ry)
  obtain ⟨its, r1, p1, _⟩ := I.tuple ha
  obtain ⟨jts, r2, p2, _⟩ := I.tuple hb
  cases r2
  have e1 : its.length = vs.length := r1.length.symm
  refine SeqAt.RcAt.tuples (e := fun _ => true) p1 p2 hu (fun j h1 h2 => absurd h2 (by simp)) X.prog X.w X.xe _ ?_
  refine ⟨.bl _, H, I, rfl, ?_⟩
  have e : vs.isEmpty = ((List.range (min its.toArray.size ([] : List Value).toArray.size)).all (fun _ => true) && its.toArray.size == ([] : List Value).toArray.size) := by
    cases vs <;> cases its <;> simp at e1 ⊢
  rw [← e]
  exact q
theorem op_neT0 (hu : X.A.units < cLine) : OpR X (compareOp .NotEq) (rT0 X.K true) := by
  intro pins s σ H x y v u Q I rx ry h
  obtain ⟨a, b, vs, rfl, rfl, ha, hb, q⟩ := h
  cases (show v = Value.ref a from rx)
  cases (show u = Value.ref b from ry)
  obtain ⟨its, r1, p1, _⟩ := I.tuple ha
  obtain ⟨jts, r2, p2, _⟩ := I.tuple hb
  cases r2
  have e1 : its.length = vs.length := r1.length.symm
  refine SeqAt.RcNeAt.tuples (e := fun _ => true) p1 p2 hu (fun j h1 h2 => absurd h2 (by simp)) X.prog X.w X.xe _ ?_
  refine ⟨.bl _, H, I, rfl, ?_⟩
  have e : vs.isEmpty = ((List.range (min its.toArray.size ([] : List Value).toArray.size)).all (fun _ => true) && its.toArray.size == ([] : List Value).toArray.size) := by
    cases vs <;> cases its <;> simp at e1 ⊢
  rw [← e]
  exact q
def rEqX (K : PySem.W.Frag) : R2 := fun x y H Q => rEq x y H Q ∨ rT0 K false x y H Q ∨ rEqD K x y H Q
def rNeX (K : PySem.W.Frag) : R2 := fun x y H Q => rNe x y H Q ∨ rT0 K true x y H Q ∨ rNeD K x y H Q
theorem op_eqX (hu : X.A.units + 64 < cLine) : OpR X (compareOp .Eq) (rEqX X.K) := by
  intro pins s σ H x y v u Q I rx ry h
  rcases h with h | h | h
  · exact op_eq pins s σ H x y v u Q I rx ry h
  · exact op_eqT0 (by omega) pins s σ H x y v u Q I rx ry h
  · exact op_eqD hu pins s σ H x y v u Q I rx ry h
theorem op_neX (hu : X.A.units + 64 < cLine) : OpR X (compareOp .NotEq) (rNeX X.K) := by
  intro pins s σ H x y v u Q I rx ry h
  rcases h with h | h | h
  · exact op_ne pins s σ H x y v u Q I rx ry h
  · exact op_neT0 (by omega) pins s σ H x y v u Q I rx ry h
  · exact op_neD hu pins s σ H x y v u Q I rx ry h
end
theorem DnAll.isE {K : PySem.W.Frag} {φ : List (Addr × HO)} {H : Hp} {ds : List PyData} {vs : List V} (h : DnAll K φ H ds vs) : ds.isEmpty = vs.isEmpty := by cases h <;> rfl
theorem sim_eqX {K : PySem.W.Frag} : Sim2 K (rEqX K) (opEqX false) := by
  intro W σ H G S x y v w Q rp dx dy q
  unfold opEqX at q
  split at q
  · rename_i a b
    obtain rfl := den_str dx; obtain rfl := den_str dy
    exact .inl ⟨rfl, by rw [dec_str]; exact q.ret rp (.bl _)⟩
  · rename_i a b
    obtain rfl := den_int dx; obtain rfl := den_int dy
    exact .inl ⟨rfl, by rw [dec_int]; exact q.ret rp (.bl _)⟩
  · rename_i a b
    obtain rfl := den_bool dx; obtain rfl := den_bool dy
    exact .inl ⟨rfl, by rw [dec_bl]; exact q.ret rp (.bl _)⟩
  · rename_i xs
    obtain ⟨a, vs, rfl, ha, t⟩ := den_tup dx
    obtain ⟨b, ws, rfl, hb, t2⟩ := den_tup dy
    cases t2
    refine .inr (.inl ⟨a, b, vs, rfl, rfl, ha, hb, ?_⟩)
    rw [t.isE] at q
    exact q.ret rp (.bl _)
  · exact .inr (.inr (sim_eq W σ H G S x y v w Q rp dx dy q))
theorem sim_neX {K : PySem.W.Frag} : Sim2 K (rNeX K) (opEqX true) := by
  intro W σ H G S x y v w Q rp dx dy q
  unfold opEqX at q
  split at q
  · rename_i a b
    obtain rfl := den_str dx; obtain rfl := den_str dy
    exact .inl ⟨rfl, by rw [dec_str]; exact q.ret rp (.bl _)⟩
  · rename_i a b
    obtain rfl := den_int dx; obtain rfl := den_int dy
    exact .inl ⟨rfl, by rw [dec_int]; exact q.ret rp (.bl _)⟩
  · rename_i a b
    obtain rfl := den_bool dx; obtain rfl := den_bool dy
    exact .inl ⟨rfl, by rw [dec_bl]; exact q.ret rp (.bl _)⟩
  · rename_i xs
    obtain ⟨a, vs, rfl, ha, t⟩ := den_tup dx
    obtain ⟨b, ws, rfl, hb, t2⟩ := den_tup dy
    cases t2
    refine .inr (.inl ⟨a, b, vs, rfl, rfl, ha, hb, ?_⟩)
    rw [t.isE] at q
    exact q.ret rp (.bl _)
  · exact .inr (.inr (sim_ne W σ H G S x y v w Q rp dx dy q))
section
variable {X : Cx} {W : WX} {a b : Expr} {f h : FE} {pos : Pos}
theorem de_eqX (hu : X.A.units + 64 < cLine) (ha : DE X W a f) (hb : DE X W b h) : DE X W (.Compare a [.Eq] [b] pos) (e2 (opEqX false) f h) := de_cmp (op_eqX hu) sim_eqX ha hb (nomark _)
theorem de_neX (hu : X.A.units + 64 < cLine) (ha : DE X W a f) (hb : DE X W b h) : DE X W (.Compare a [.NotEq] [b] pos) (e2 (opEqX true) f h) := de_cmp (op_neX hu) sim_neX ha hb (nomark _)
theorem dt_eqX (hu : X.A.units + 64 < cLine) (ha : DE X W a f) (hb : DE X W b h) : DT X W (.Compare a [.Eq] [b] pos) (tC2 (opEqX false) f h) := dt_cmp (op_eqX hu) sim_eqX ha hb (nomark _)
theorem dt_neX (hu : X.A.units + 64 < cLine) (ha : DE X W a f) (hb : DE X W b h) : DT X W (.Compare a [.NotEq] [b] pos) (tC2 (opEqX true) f h) := dt_cmp (op_neX hu) sim_neX ha hb (nomark _)
end
end DL

namespace DL
open PySem L2

section
variable {ρ : Ev} {S : Sto} {f g h : FE} {fa : FA} {t u : FT} {a b c : FS} {d : D}
@[simp] theorem eC_ : eC d ρ S = .ok d S := rfl
@[simp] theorem aNil_ : aNil ρ S = .ok [] S := rfl
@[simp] theorem aCons_ : aCons f fa ρ S = (f ρ S).bind fun d S1 => (fa ρ S1).bind fun ds S2 => .ok (d :: ds) S2 := rfl
@[simp] theorem eA_ {m : List D → M D} : eA m fa ρ S = (fa ρ S).bind m := rfl
@[simp] theorem e2_ {m : D → D → M D} : e2 m f g ρ S = (f ρ S).bind fun x S1 => (g ρ S1).bind fun y S2 => m x y S2 := rfl
@[simp] theorem e1_ {m : D → M D} : e1 m f ρ S = (f ρ S).bind m := rfl
@[simp] theorem sNext_ : sNext ρ S = some (.next ρ, S) := rfl
theorem sSeq_ : sSeq a b ρ S = (match a ρ S with | some (.next ρ', S') => b ρ' S' | o => o) := rfl
theorem sSeq_next {ρ' : Ev} {S' : Sto} (e : a ρ S = some (.next ρ', S')) : sSeq a b ρ S = b ρ' S' := by unfold sSeq; rw [e]
theorem sSeq_ret {d : D} {S' : Sto} (e : a ρ S = some (.ret d, S')) : sSeq a b ρ S = some (.ret d, S') := by unfold sSeq; rw [e]
@[simp] theorem sExpr_ : sExpr f ρ S = (f ρ S).st ρ fun _ S1 => some (.next ρ, S1) := rfl
@[simp] theorem sRet_ : sRet f ρ S = (f ρ S).st ρ fun d S1 => some (.ret d, S1) := rfl
@[simp] theorem sSet_ {i : Nat} : sSet i f ρ S = (f ρ S).st ρ fun d S1 => some (.next (ρ.set i (some d)), S1) := rfl
@[simp] theorem sIf_ : sIf t a b ρ S = (t ρ S).st ρ fun c S1 => if c = true then a ρ S1 else b ρ S1 := rfl
@[simp] theorem st_ok {α : Type} {x : α} {k : α → Sto → Option (Fl × Sto)} : (Out.ok x S).st ρ k = k x S := rfl
@[simp] theorem gN_ {i : Nat} : gN i d ρ S = some (ρ.set i (some d), S) := rfl
@[simp] theorem gNils_ : gNils [] ρ S = some (ρ, S) := rfl
@[simp] theorem gConss_ {x : FG} {y : FGs} {ds : List D} : gConss x y (d :: ds) ρ S = (match x d ρ S with | some (ρ1, S1) => y ds ρ1 S1 | none => none) := by
  unfold gConss; rfl
@[simp] theorem gSubD_ : gSubD f g d ρ S = (match f ρ S with
  | .ok o S1 => match g ρ S1 with
    | .ok i S2 => match setD o i d S2 with
      | some S3 => some (ρ, S3)
      | none => none
    | _ => none
  | _ => none) := rfl
@[simp] theorem sAsg_ {x : FG} : sAsg f x ρ S = (f ρ S).st ρ fun d S1 => match x d ρ S1 with
  | some (ρ', S2) => some (.next ρ', S2)
  | none => none := rfl
@[simp] theorem sAsgs_ {x : FGs} : sAsgs fa x ρ S = (fa ρ S).st ρ fun d S1 => match x d ρ S1 with
  | some (ρ', S2) => some (.next ρ', S2)
  | none => none := rfl
@[simp] theorem tVal_ : tVal f ρ S = (f ρ S).bind truM := rfl
@[simp] theorem tAnd_ : tAndD t u ρ S = (t ρ S).bind fun b S1 => if b = true then u ρ S1 else .ok false S1 := rfl
@[simp] theorem tOr_ : tOrD t u ρ S = (t ρ S).bind fun b S1 => if b = true then .ok true S1 else u ρ S1 := rfl
@[simp] theorem tNot_ : tNotD t ρ S = (t ρ S).bind fun b S1 => .ok (!b) S1 := rfl
@[simp] theorem eIf_ : eIf t f g ρ S = (t ρ S).bind fun b S1 => if b = true then f ρ S1 else g ρ S1 := rfl
@[simp] theorem eAnd_ : eAnd f g ρ S = (f ρ S).bind fun d S1 => (truM d S1).bind fun b S2 => if b = true then g ρ S2 else .ok d S2 := rfl
@[simp] theorem eOr_ : eOr f g ρ S = (f ρ S).bind fun d S1 => (truM d S1).bind fun b S2 => if b = true then .ok d S2 else g ρ S2 := rfl
@[simp] theorem eNot_ : eNot f ρ S = (f ρ S).bind fun d S1 => (truM d S1).bind fun b S2 => .ok (.p (.bool (!b))) S2 := rfl
@[simp] theorem tC2_ {m : D → D → M D} : tC2 m f g ρ S = (e2 m f g ρ S).bind fun d S1 => match d with | .p (.bool c) => .ok c S1 | _ => .bad := rfl
@[simp] theorem truM_b {b : Bool} : truM (.p (.bool b)) S = .ok b S := rfl
@[simp] theorem truM_l {xs : List PyData} : truM (.p (.list xs)) S = .ok (!xs.isEmpty) S := rfl
@[simp] theorem truM_t {xs : List PyData} : truM (.p (.tuple xs)) S = .ok (!xs.isEmpty) S := rfl
@[simp] theorem noErr_k {α : Type} {x : α} : noErr (.ok x S) = .ok x S := rfl
@[simp] theorem iSeq_ : iSeq f ρ S = (f ρ S).bind itM := rfl
@[simp] theorem iRange_ : iRange fa ρ S = (fa ρ S).bind rangeM := rfl
@[simp] theorem sFor_ {i : FI} {x : FG} : sFor i x a ρ S = (i ρ S).st ρ fun ds S1 => forD x a ds ρ S1 := rfl
@[simp] theorem oNone_ : oNone ρ S = .ok none S := rfl
@[simp] theorem oSome_ : oSome f ρ S = (f ρ S).bind oInt := rfl
@[simp] theorem oInt_ {i : Int} : oInt (.p (.int i)) S = .ok (some i) S := rfl
@[simp] theorem eSli_ {lo hi : Ev → M (Option Int)} : eSli f lo hi ρ S = (f ρ S).bind fun d S1 => (lo ρ S1).bind fun l S2 => (hi ρ S2).bind fun u S3 => sliM d l u S3 := rfl
@[simp] theorem tYes_ : tYesD ρ S = .ok true S := rfl
@[simp] theorem finL_ {ys : List PyData} : finL ys S = .ok (.p (.list ys)) S := rfl
@[simp] theorem tChain_ {m m' : D → D → M D} : tChain m m' f g h ρ S = (eChain m m' f g h ρ S).bind boolM := rfl
@[simp] theorem boolM_ {b : Bool} : boolM (.p (.bool b)) S = .ok b S := rfl
@[simp] theorem eChain_ {m m' : D → D → M D} : eChain m m' f g h ρ S = (f ρ S).bind fun x S1 => (g ρ S1).bind fun y S2 => (m x y S2).bind fun z S3 => match z with
  | .p (.bool true) => (h ρ S3).bind fun w S4 => m' y w S4
  | .p (.bool false) => .ok (.p (.bool false)) S3
  | _ => .bad := rfl
@[simp] theorem eCall_ {n : Nat} {m : List D → M D} : eCall n m fa ρ S = (fa ρ S).bind fun ds S1 => if ds.length = n then noErr (cutD S1.length (m ds S1)) else .bad := rfl
@[simp] theorem cutD_p {x : PyData} {n : Nat} : cutD n (.ok (.p x) S) = .ok (.p x) (S.take n) := rfl
end
theorem eVar_ok {i : Nat} {ρ : Ev} {S : Sto} {d : D} (h : ρ[i]? = some (some d)) : eVar i ρ S = .ok d S := by unfold eVar; rw [h]
@[simp] theorem eVar0 {d : D} {r : Ev} {S : Sto} : eVar 0 (some d :: r) S = .ok d S := rfl
@[simp] theorem eVarS {i : Nat} {d : Option D} {r : Ev} {S : Sto} : eVar (i + 1) (d :: r) S = eVar i r S := by unfold eVar; simp
@[simp] theorem pys_nil : pys [] = some [] := rfl
@[simp] theorem pys_cons {x : PyData} {r : List D} : pys (.p x :: r) = (pys r).map (x :: ·) := by
  simp only [pys]; cases pys r <;> rfl
@[simp] theorem opLt_i {i j : Int} {S : Sto} : opLt (.p (.int i)) (.p (.int j)) S = .ok (.p (.bool (decide (i < j)))) S := rfl
@[simp] theorem opLe_i {i j : Int} {S : Sto} : opLe (.p (.int i)) (.p (.int j)) S = .ok (.p (.bool (decide (i ≤ j)))) S := rfl
@[simp] theorem opGt_i {i j : Int} {S : Sto} : opGt (.p (.int i)) (.p (.int j)) S = .ok (.p (.bool (decide (j < i)))) S := rfl
@[simp] theorem opGe_i {i j : Int} {S : Sto} : opGe (.p (.int i)) (.p (.int j)) S = .ok (.p (.bool (decide (j ≤ i)))) S := rfl
@[simp] theorem opAdd_i {i j : Int} {S : Sto} : opAdd (.p (.int i)) (.p (.int j)) S = .ok (.p (.int (i + j))) S := rfl
@[simp] theorem opSub_i {i j : Int} {S : Sto} : opSub (.p (.int i)) (.p (.int j)) S = .ok (.p (.int (i - j))) S := rfl
@[simp] theorem opNeg_i {i : Int} {S : Sto} : opNeg (.p (.int i)) S = .ok (.p (.int (-i))) S := rfl
theorem opMod_i {i j : Int} {S : Sto} (h : 0 < j) : opMod (.p (.int i)) (.p (.int j)) S = .ok (.p (.int (i % j))) S := by simp [opMod, opI, h]
theorem opDiv_i {i j : Int} {S : Sto} (h : 0 < j) (h2 : j < 1073741824) : opDiv (.p (.int i)) (.p (.int j)) S = .ok (.p (.int (i / j))) S := by simp [opDiv, opI, h, h2]
theorem opMul_i {i j : Int} {S : Sto} (h : -(2 ^ 64) < i ∧ i < 2 ^ 64) : opMulI (.p (.int i)) (.p (.int j)) S = .ok (.p (.int (i * j))) S := by
  have h1 : -18446744073709551616 < i := h.1
  have h2 : i < 18446744073709551616 := h.2
  simp [opMulI, opI, h1, h2]
theorem opPow_i {i j : Int} {S : Sto} (h0 : 0 ≤ j) (h1 : j ≤ 1000000) (h2 : i.natAbs < 2 ^ 64) : opPow (.p (.int i)) (.p (.int j)) S = .ok (.p (.int (i ^ j.toNat))) S := by
  have h3 : i.natAbs < 18446744073709551616 := h2
  simp [opPow, opI, h0, h1, h3]
@[simp] theorem intM_i {i : Int} {S : Sto} : intM [.p (.int i)] S = .ok (.p (.int i)) S := rfl
@[simp] theorem lenM_l {xs : List PyData} {S : Sto} : lenM [.p (.list xs)] S = .ok (.p (.int xs.length)) S := rfl
@[simp] theorem lenM_t {xs : List PyData} {S : Sto} : lenM [.p (.tuple xs)] S = .ok (.p (.int xs.length)) S := rfl
theorem lenM_s {x : Str} {S : Sto} (h : x.length ≤ LIM) : lenM [.p (.str x)] S = .ok (.p (.int x.length)) S := by simp [lenM, h]
theorem atI_ok {xs : List PyData} {i : Int} (h0 : 0 ≤ i) (h1 : i < xs.length) : ∃ d, atI xs i = some d ∧ d ∈ xs := by
  have hk : i.toNat < xs.length := by omega
  have ek : i = ((i.toNat : Nat) : Int) := by omega
  refine ⟨xs[i.toNat], ?_, List.getElem_mem hk⟩
  have q : atI xs ((i.toNat : Nat) : Int) = some xs[i.toNat] := atI_nat (by simp [hk])
  rw [← ek] at q
  exact q
theorem subs_l {xs : List PyData} {i : Int} {d : PyData} {S : Sto} (h : atI xs i = some d) : opSubs (.p (.list xs)) (.p (.int i)) S = .ok (.p d) S := by simp [opSubs, seqOf, h]
theorem subs_t {xs : List PyData} {i : Int} {d : PyData} {S : Sto} (h : atI xs i = some d) : opSubs (.p (.tuple xs)) (.p (.int i)) S = .ok (.p d) S := by simp [opSubs, seqOf, h]

def tpd (cs : List PyData) (p l : Int) : List (Key × PyData) := [(.inr "cells", .list cs), (.inr "place", .int p), (.inr "left", .int l)]
section
variable {cs : List PyData} {p l : Int} {S : Sto} {i : Nat}
theorem tp_cells (h : S[i]? = some (.dic (tpd cs p l))) : opSubs (.ob i) (.p (.str "cells")) S = .ok (.p (.list cs)) S := by
  have e : valD (tpd cs p l) (.inr "cells") = some (.list cs) := rfl
  simp only [opSubs, dicOf, h, e]
theorem tp_place (h : S[i]? = some (.dic (tpd cs p l))) : opSubs (.ob i) (.p (.str "place")) S = .ok (.p (.int p)) S := by
  have e : valD (tpd cs p l) (.inr "place") = some (.int p) := rfl
  simp only [opSubs, dicOf, h, e]
theorem tp_left (h : S[i]? = some (.dic (tpd cs p l))) : opSubs (.ob i) (.p (.str "left")) S = .ok (.p (.int l)) S := by
  have e : valD (tpd cs p l) (.inr "left") = some (.int l) := rfl
  simp only [opSubs, dicOf, h, e]
theorem tp_setL {l' : Int} (h : S[i]? = some (.dic (tpd cs p l))) : setD (.ob i) (.p (.str "left")) (.p (.int l')) S = some (S.set i (.dic (tpd cs p l'))) := by
  have e : putD (tpd cs p l) (.inr "left") (.int l') = tpd cs p l' := rfl
  have e2 : pyKey (.str "left") = some (.inr "left") := rfl
  have e3 : (tpd cs p l).length < LIM := by show 3 < LIM; decide
  simp only [setD, h, e2, e, if_pos e3]
theorem tp_setP {p' : Int} (h : S[i]? = some (.dic (tpd cs p l))) : setD (.ob i) (.p (.str "place")) (.p (.int p')) S = some (S.set i (.dic (tpd cs p' l))) := by
  have e : putD (tpd cs p l) (.inr "place") (.int p') = tpd cs p' l := rfl
  have e2 : pyKey (.str "place") = some (.inr "place") := rfl
  have e3 : (tpd cs p l).length < LIM := by show 3 < LIM; decide
  simp only [setD, h, e2, e, if_pos e3]
theorem tp_at {o : MO} (h : S[i]? = some (.dic (tpd cs p l))) : (S.set i o)[i]? = some o := by
  rw [List.getElem?_set_self]
  exact (List.getElem?_eq_some_iff.mp h).1
end
def drawA : FS := (sSeq (sAsgs (aCons (e2 opSubs (eVar 0) (eC (.p (.str "place")))) (aCons (eA lenM (aCons (e2 opSubs (eVar 0) (eC (.p (.str "cells")))) aNil)) aNil)) (gConss (gN 3) (gConss (gN 4) gNils)))
    (sSeq (sAsgs (aCons (e2 opSubs (e2 opSubs (eVar 0) (eC (.p (.str "cells")))) (e2 opMod (eA intM (aCons (eVar 3) aNil)) (eVar 4))) (aCons (e2 opAdd (eVar 3) (eC (.p (.int 1)))) aNil)) (gConss (gN 5) (gConss (gSubD (eVar 0) (eC (.p (.str "place")))) gNils)))
    (sSeq (sAsg (e2 opMod (eA intM (aCons (e2 opPow (e2 opAdd (e2 opAdd (e2 opMod (eA intM (aCons (eVar 5) aNil)) (eC (.p (.int 2147483587)))) (e2 opMulI (eC (.p (.int 48271))) (eVar 3))) (eC (.p (.int 16807)))) (eC (.p (.int 13)))) aNil)) (e2 opAdd (e2 opPow (eC (.p (.int 10))) (eC (.p (.int 50)))) (eC (.p (.int 57))))) (gSubD (eVar 0) (eC (.p (.str "left")))))
    (sIf (tAndD (tC2 (opGe) (eVar 5) (e2 opPow (eC (.p (.int 10))) (eC (.p (.int 18))))) (tC2 (opLt) (eVar 3) (eVar 4))) (sAsg (e2 opSub (eVar 5) (e2 opPow (eC (.p (.int 10))) (eC (.p (.int 18))))) (gSubD (eVar 0) (eC (.p (.str "left"))))) sNext))))
def drawB : FS := (sSeq (sIf (tC2 (opLt) (e2 opSubs (eVar 0) (eC (.p (.str "left")))) (eVar 1)) drawA sNext)
    (sSeq (sAsgs (aCons (e2 opMod (eA intM (aCons (e2 opSubs (eVar 0) (eC (.p (.str "left")))) aNil)) (eVar 1)) (aCons (e2 opDiv (e2 opSubs (eVar 0) (eC (.p (.str "left")))) (eVar 1)) aNil)) (gConss (gN 2) (gConss (gSubD (eVar 0) (eC (.p (.str "left")))) gNils)))
    (sRet (eVar 2))))
theorem drawA_ok {cs : List PyData} {p l m : Int} {S : Sto} {i : Nat} (hc : ∀ d ∈ cs, ∃ z, d = .int z) (hne : cs ≠ []) (h : S[i]? = some (.dic (tpd cs p l))) (hp : 0 ≤ p) (hp2 : p ≤ 1000000000000) :
    ∃ x y z l', drawA [some (.ob i), some (.p (.int m)), none, none, none, none] S = some (.next [some (.ob i), some (.p (.int m)), none, x, y, z], S.set i (.dic (tpd cs (p + 1) l'))) := by
  have hl : 0 < cs.length := List.length_pos_iff.mpr hne
  obtain ⟨d, e1, hd⟩ := atI_ok (xs := cs) (i := p % (cs.length : Int)) (Int.emod_nonneg _ (by omega)) (Int.emod_lt_of_pos _ (by omega))
  obtain ⟨z, rfl⟩ := hc d hd
  have hS1 := tp_at (o := .dic (tpd cs (p + 1) l)) h
  have hb : (z % 2147483587 + 48271 * p + 16807).natAbs < 2 ^ 64 := by
    have a1 := Int.emod_nonneg z (show (2147483587 : Int) ≠ 0 by decide)
    have a2 := Int.emod_lt_of_pos z (show (0 : Int) < 2147483587 by decide)
    have : (2 : Nat) ^ 64 = 18446744073709551616 := by decide
    omega
  have hz : (0 : Int) < 10 ^ (50 : Int).toNat + 57 := by decide
  unfold drawA
  simp [sSeq_, gSubD, tp_place h, tp_cells h, opMod_i (show (0 : Int) < (cs.length : Int) by omega), subs_l e1, tp_setP h, hS1]
  simp [sSeq_, opMod_i (show (0 : Int) < 2147483587 by decide), opMul_i (show -(2 ^ 64) < (48271 : Int) ∧ (48271 : Int) < 2 ^ 64 by decide), opPow_i (show (0 : Int) ≤ 13 by decide) (by decide) hb, opPow_i (show (0 : Int) ≤ 50 by decide) (by decide) (show (10 : Int).natAbs < 2 ^ 64 by decide), opMod_i hz, tp_setL hS1]
  have hS2 : ∀ l2, (List.set S i (.dic (tpd cs (p + 1) l2)))[i]? = some (.dic (tpd cs (p + 1) l2)) := fun l2 => tp_at h
  simp [sSeq_, opMod_i (show (0 : Int) < 100000000000000000000000000000000000000000000000057 by decide), opPow_i (show (0 : Int) ≤ 18 by decide) (by decide) (show (10 : Int).natAbs < 2 ^ 64 by decide), tp_setL hS1]
  by_cases c1 : 1000000000000000000 ≤ z
  · by_cases c2 : p < (cs.length : Int)
    · simp [sSeq_, c1, c2, tp_setL (hS2 _)]
      exact ⟨_, rfl⟩
    · simp [sSeq_, c1, c2]
      exact ⟨_, rfl⟩
  · simp [sSeq_, c1]
    exact ⟨_, rfl⟩
theorem drawB_ok {cs : List PyData} {p l m : Int} {S : Sto} {i : Nat} (hc : ∀ d ∈ cs, ∃ z, d = .int z) (hne : cs ≠ []) (h : S[i]? = some (.dic (tpd cs p l))) (hp : 0 ≤ p) (hp2 : p ≤ 1000000000000) (hm : 0 < m) (hm2 : m < 1073741824) :
    ∃ g p' l', 0 ≤ g ∧ g < m ∧ 0 ≤ p' ∧ p' ≤ p + 1 ∧ runF 6 drawB [.ob i, .p (.int m)] S = .ok (.p (.int g)) (S.set i (.dic (tpd cs p' l'))) := by
  have second : ∀ {x y z : Option D} {S : Sto} {p l : Int}, S[i]? = some (.dic (tpd cs p l)) → (sSeq (sAsgs (aCons (e2 opMod (eA intM (aCons (e2 opSubs (eVar 0) (eC (.p (.str "left")))) aNil)) (eVar 1)) (aCons (e2 opDiv (e2 opSubs (eVar 0) (eC (.p (.str "left")))) (eVar 1)) aNil)) (gConss (gN 2) (gConss (gSubD (eVar 0) (eC (.p (.str "left")))) gNils)))
      (sRet (eVar 2))) [some (.ob i), some (.p (.int m)), none, x, y, z] S = some (.ret (.p (.int (l % m))), S.set i (.dic (tpd cs p (l / m)))) := by
    intro x y z S p l h
    simp [sSeq_, tp_left h, opMod_i hm, opDiv_i hm hm2, tp_setL h]
  have g0 : ∀ l, 0 ≤ l % m := fun l => Int.emod_nonneg _ (by omega)
  have g1 : ∀ l, l % m < m := fun l => Int.emod_lt_of_pos _ hm
  by_cases c : l < m
  · obtain ⟨x, y, z, l', e⟩ := drawA_ok (m := m) hc hne h hp hp2
    have s2 := second (x := x) (y := y) (z := z) (tp_at (o := .dic (tpd cs (p + 1) l')) h)
    refine ⟨l' % m, p + 1, l' / m, g0 _, g1 _, by omega, by omega, ?_⟩
    have e0 : drawB [some (.ob i), some (.p (.int m)), none, none, none, none] S = some (.ret (.p (.int (l' % m))), S.set i (.dic (tpd cs (p + 1) (l' / m)))) := by
      unfold drawB
      rw [sSeq_next (a := sIf _ _ _) (ρ' := [some (.ob i), some (.p (.int m)), none, x, y, z]) (S' := S.set i (.dic (tpd cs (p + 1) l'))) (by simp [sSeq_, tp_left h, c, e]), s2, List.set_set]
    show runF 6 drawB [.ob i, .p (.int m)] S = _
    unfold runF
    show (match drawB [some (.ob i), some (.p (.int m)), none, none, none, none] S with | some (.ret d, s) => Out.ok d s | some (.next _, s) => .ok (.p .none) s | some (.exc x _, s) => .err x s | _ => .bad) = _
    rw [e0]
  · refine ⟨l % m, p, l / m, g0 _, g1 _, by omega, by omega, ?_⟩
    have e0 : drawB [some (.ob i), some (.p (.int m)), none, none, none, none] S = some (.ret (.p (.int (l % m))), S.set i (.dic (tpd cs p (l / m)))) := by
      unfold drawB
      rw [sSeq_next (a := sIf _ _ _) (ρ' := [some (.ob i), some (.p (.int m)), none, none, none, none]) (S' := S) (by simp [sSeq_, tp_left h, c]), second h]
    unfold runF
    show (match drawB [some (.ob i), some (.p (.int m)), none, none, none, none] S with | some (.ret d, s) => Out.ok d s | some (.next _, s) => .ok (.p .none) s | some (.exc x _, s) => .err x s | _ => .bad) = _
    rw [e0]
end DL

namespace DL
open PySem L2

theorem run_ret {m : Nat} {b : FS} {ds : List D} {S S' : Sto} {d : D} (e : b (ds.map some ++ List.replicate (m - ds.length) none) S = some (.ret d, S')) : runF m b ds S = .ok d S' := by unfold runF; rw [e]
@[simp] theorem cut_len {x : PyData} {S : Sto} : cutD S.length (.ok (.p x) S) = .ok (.p x) S := by simp
theorem cut_same {x : PyData} {S S' : Sto} (h : S'.length = S.length) : cutD S.length (.ok (.p x) S') = .ok (.p x) S' := by
  rw [← h]; simp
/-- a comprehension whose test and value leave the store as it is -/
theorem lcD_filter {g : FG} {t : FT} {e : FE} {ρ : Ev} {S : Sto} (c : D → Bool) (h : D → PyData) : ∀ {ds : List D}, (∀ d ∈ ds, ∃ ρ1, g d ρ S = some (ρ1, S) ∧ t ρ1 S = .ok (c d) S ∧ (c d = true → e ρ1 S = .ok (.p (h d)) S)) → lcD g t e ρ ds S = .ok ((ds.filter c).map h) S
  | [], _ => rfl
  | d :: r, H => by
    obtain ⟨ρ1, h1, h2, h3⟩ := H d List.mem_cons_self
    have ih := lcD_filter (ds := r) c h fun x hx => H x (List.mem_cons_of_mem _ hx)
    unfold lcD
    rw [h1]
    show (t ρ1 S).bind _ = _
    rw [h2]
    by_cases hc : c d = true
    · simp [hc, h3 hc, ih]
    · simp [hc, ih]
theorem lcD_map {g : FG} {e : FE} {ρ : Ev} {S : Sto} (h : D → PyData) {ds : List D} (H : ∀ d ∈ ds, ∃ ρ1, g d ρ S = some (ρ1, S) ∧ e ρ1 S = .ok (.p (h d)) S) : lcD g tYesD e ρ ds S = .ok (ds.map h) S := by
  have q := lcD_filter (t := tYesD) (e := e) (g := g) (ρ := ρ) (S := S) (fun _ => true) h (ds := ds) fun d hd => by
    obtain ⟨ρ1, h1, h2⟩ := H d hd
    exact ⟨ρ1, h1, rfl, fun _ => h2⟩
  rw [q, List.filter_eq_self.mpr fun _ _ => rfl]
@[simp] theorem eLc_ {f : FI} {g : FG} {t : FT} {e : FE} {vs : List Nat} {fin : List PyData → M D} {ρ : Ev} {S : Sto} : eLc f g t e vs fin ρ S = (f ρ S).bind fun ds S1 => if ds.length ≤ LIM then (noErr (lcD g t e (wipeD ρ vs) ds S1)).bind fin else .bad := rfl
@[simp] theorem itM_s {z : Str} {S : Sto} : itM (.p (.str z)) S = .ok (z.cps.toList.map fun c => D.p (.str ⟨#[c]⟩)) S := rfl
@[simp] theorem itM_l {xs : List PyData} {S : Sto} : itM (.p (.list xs)) S = .ok (xs.map .p) S := rfl
@[simp] theorem itM_t {xs : List PyData} {S : Sto} : itM (.p (.tuple xs)) S = .ok (xs.map .p) S := rfl
@[simp] theorem wipe1 {ρ : Ev} {v : Nat} : wipeD ρ [v] = ρ.set v none := rfl
@[simp] theorem isi_ {T : Tg} {x : PyData} {S : Sto} : isiM T (.p x) S = .ok (.p (.bool (isT T x))) S := rfl
@[simp] theorem in_ss {neg : Bool} {i j : Str} {S : Sto} : opIn neg (.p (.str i)) (.p (.str j)) S = .ok (.p (.bool (if neg then !inStr i j else inStr i j))) S := rfl
theorem in_t {neg : Bool} {a : PyData} {xs : List PyData} {S : Sto} (h : flatP a = true) (h2 : xs.all flatP = true) : opIn neg (.p a) (.p (.tuple xs)) S = .ok (.p (.bool (if neg then !inP a xs else inP a xs))) S := by
  cases a <;> simp_all [opIn, seqOf]
theorem in_l {neg : Bool} {a : PyData} {xs : List PyData} {S : Sto} (h : flatP a = true) (h2 : xs.all flatP = true) : opIn neg (.p a) (.p (.list xs)) S = .ok (.p (.bool (if neg then !inP a xs else inP a xs))) S := by
  cases a <;> simp_all [opIn, seqOf]
theorem mkTup_ {ds : List D} {xs : List PyData} {S : Sto} (h : pys ds = some xs) (hl : xs.length ≤ LIM) : mkTup ds S = .ok (.p (.tuple xs)) S := by simp [mkTup, h, hl]
theorem mkLst_ {ds : List D} {xs : List PyData} {S : Sto} (h : pys ds = some xs) (hl : xs.length ≤ LIM) : mkLst ds S = .ok (.p (.list xs)) S := by simp [mkLst, h, hl]
@[simp] theorem mkTup0 {S : Sto} : mkTup [] S = .ok (.p (.tuple [])) S := rfl
@[simp] theorem mkTup1 {S : Sto} {a : PyData} : mkTup [.p a] S = .ok (.p (.tuple [a])) S := rfl
@[simp] theorem mkTup2 {S : Sto} {a b : PyData} : mkTup [.p a, .p b] S = .ok (.p (.tuple [a, b])) S := rfl
@[simp] theorem mkTup3 {S : Sto} {a b c : PyData} : mkTup [.p a, .p b, .p c] S = .ok (.p (.tuple [a, b, c])) S := rfl
@[simp] theorem mkLst0 {S : Sto} : mkLst [] S = .ok (.p (.list [])) S := rfl
@[simp] theorem mkLst1 {S : Sto} {a : PyData} : mkLst [.p a] S = .ok (.p (.list [a])) S := rfl
@[simp] theorem mkLst2 {S : Sto} {a b : PyData} : mkLst [.p a, .p b] S = .ok (.p (.list [a, b])) S := rfl
@[simp] theorem mkLst3 {S : Sto} {a b c : PyData} : mkLst [.p a, .p b, .p c] S = .ok (.p (.list [a, b, c])) S := rfl
@[simp] theorem eqX_s {neg : Bool} {a b : Str} {S : Sto} : opEqX neg (.p (.str a)) (.p (.str b)) S = .ok (.p (.bool (if neg then !(a == b) else (a == b)))) S := rfl
@[simp] theorem eqX_i {neg : Bool} {a b : Int} {S : Sto} : opEqX neg (.p (.int a)) (.p (.int b)) S = .ok (.p (.bool (if neg then !(a == b) else (a == b)))) S := rfl
@[simp] theorem eqX_b {neg : Bool} {a b : Bool} {S : Sto} : opEqX neg (.p (.bool a)) (.p (.bool b)) S = .ok (.p (.bool (if neg then !(a == b) else (a == b)))) S := rfl
@[simp] theorem eqX_t0 {neg : Bool} {xs : List PyData} {S : Sto} : opEqX neg (.p (.tuple xs)) (.p (.tuple [])) S = .ok (.p (.bool (if neg then !xs.isEmpty else xs.isEmpty))) S := rfl
theorem eqX_l {neg : Bool} {xs ys : List PyData} {S : Sto} (h1 : SeqAt.shaped (.list xs) = true) (h2 : SeqAt.shaped (.list ys) = true) : opEqX neg (.p (.list xs)) (.p (.list ys)) S = .ok (.p (.bool (if neg then !PyData.eqvAll xs ys else PyData.eqvAll xs ys))) S := by
  unfold opEqX
  simp [opEq, val, h1, h2, PyData.eqv]
theorem eqX_t {neg : Bool} {xs : List PyData} {y : PyData} {ys : List PyData} {S : Sto} (h1 : SeqAt.shaped (.tuple xs) = true) (h2 : SeqAt.shaped (.tuple (y :: ys)) = true) : opEqX neg (.p (.tuple xs)) (.p (.tuple (y :: ys))) S = .ok (.p (.bool (if neg then !PyData.eqvAll xs (y :: ys) else PyData.eqvAll xs (y :: ys)))) S := by
  unfold opEqX
  simp [opEq, val, h1, h2, PyData.eqv]
@[simp] theorem subs_t0 {a : PyData} {r : List PyData} {S : Sto} : opSubs (.p (.tuple (a :: r))) (.p (.int 0)) S = .ok (.p a) S := subs_t (by rw [show (0 : Int) = ((0 : Nat) : Int) from rfl]; exact atI_nat rfl)
@[simp] theorem subs_t1 {a b : PyData} {r : List PyData} {S : Sto} : opSubs (.p (.tuple (a :: b :: r))) (.p (.int 1)) S = .ok (.p b) S := subs_t (by rw [show (1 : Int) = ((1 : Nat) : Int) from rfl]; exact atI_nat rfl)
@[simp] theorem subs_t2 {a b c : PyData} {r : List PyData} {S : Sto} : opSubs (.p (.tuple (a :: b :: c :: r))) (.p (.int 2)) S = .ok (.p c) S := subs_t (by rw [show (2 : Int) = ((2 : Nat) : Int) from rfl]; exact atI_nat rfl)
@[simp] theorem subs_l0 {a : PyData} {r : List PyData} {S : Sto} : opSubs (.p (.list (a :: r))) (.p (.int 0)) S = .ok (.p a) S := subs_l (by rw [show (0 : Int) = ((0 : Nat) : Int) from rfl]; exact atI_nat rfl)
@[simp] theorem subs_l1 {a b : PyData} {r : List PyData} {S : Sto} : opSubs (.p (.list (a :: b :: r))) (.p (.int 1)) S = .ok (.p b) S := subs_l (by rw [show (1 : Int) = ((1 : Nat) : Int) from rfl]; exact atI_nat rfl)
@[simp] theorem subs_l2 {a b c : PyData} {r : List PyData} {S : Sto} : opSubs (.p (.list (a :: b :: c :: r))) (.p (.int 2)) S = .ok (.p c) S := subs_l (by rw [show (2 : Int) = ((2 : Nat) : Int) from rfl]; exact atI_nat rfl)
theorem add_s {i j : Str} {S : Sto} (h : i.length + j.length ≤ LIM) : opAdd (.p (.str i)) (.p (.str j)) S = .ok (.p (.str (i ++ j))) S := by simp [opAdd, h]
theorem add_l {i j : List PyData} {S : Sto} (h : i.length + j.length ≤ LIM) : opAdd (.p (.list i)) (.p (.list j)) S = .ok (.p (.list (i ++ j))) S := by simp [opAdd, h]
theorem add_t {i j : List PyData} {S : Sto} (h : i.length + j.length ≤ LIM) : opAdd (.p (.tuple i)) (.p (.tuple j)) S = .ok (.p (.tuple (i ++ j))) S := by simp [opAdd, h]
/-- a loop over a list with an invariant by the turn -/
theorem forD_inv {g : FG} {b : FS} (Inv : Nat → Ev → Sto → Prop) : ∀ {ds : List D} {j : Nat} {ρ : Ev} {S : Sto}, Inv j ρ S →
    (∀ i d ρ S, ds[i]? = some d → Inv (j + i) ρ S → ∃ ρ1 S1 ρ2 S2, g d ρ S = some (ρ1, S1) ∧ b ρ1 S1 = some (.next ρ2, S2) ∧ Inv (j + i + 1) ρ2 S2) →
    ∃ ρ' S', forD g b ds ρ S = some (.next ρ', S') ∧ Inv (j + ds.length) ρ' S'
  | [], j, ρ, S, h, _ => ⟨ρ, S, rfl, h⟩
  | d :: r, j, ρ, S, h, st => by
    obtain ⟨ρ1, S1, ρ2, S2, e1, e2, h2⟩ := st 0 d ρ S rfl h
    obtain ⟨ρ', S', e3, h3⟩ := forD_inv Inv (ds := r) (j := j + 1) (ρ := ρ2) (S := S2) h2 fun i x ρ S hx hi => by
      have q := st (i + 1) x ρ S (by simpa using hx) (by rw [show j + (i + 1) = j + 1 + i by omega]; exact hi)
      rw [show j + (i + 1) + 1 = j + 1 + i + 1 by omega] at q
      exact q
    refine ⟨ρ', S', ?_, by rw [List.length_cons, show j + (r.length + 1) = j + 1 + r.length by omega]; exact h3⟩
    unfold forD
    rw [e1]
    show (match b ρ1 S1 with | some (.next ρ2, S2) => forD g b r ρ2 S2 | some (.cont ρ2, S2) => forD g b r ρ2 S2 | some (.brk ρ2, S2) => some (.next ρ2, S2) | o => o) = _
    rw [e2]
    exact e3

def Cells (cs : List PyData) : Prop := (∀ d ∈ cs, ∃ z, d = .int z) ∧ cs ≠ []
def Tape (cs : List PyData) (i L : Nat) (n : Int) (S : Sto) : Prop := S.length = L ∧ ∃ p l, 0 ≤ p ∧ p ≤ n ∧ S[i]? = some (.dic (tpd cs p l))
theorem Tape.mono {cs : List PyData} {i L : Nat} {n n' : Int} {S : Sto} (h : Tape cs i L n S) (hn : n ≤ n') : Tape cs i L n' S := by
  obtain ⟨a, p, l, b, c, d⟩ := h
  exact ⟨a, p, l, b, by omega, d⟩
theorem draw_ok {cs : List PyData} {i L : Nat} {n m : Int} {S : Sto} (hc : Cells cs) (h : Tape cs i L n S) (hn : n ≤ 1000000000000) (hm : 0 < m) (hm2 : m < 1073741824) :
    ∃ g S', runF 6 drawB [.ob i, .p (.int m)] S = .ok (.p (.int g)) S' ∧ 0 ≤ g ∧ g < m ∧ Tape cs i L (n + 1) S' := by
  obtain ⟨hl, p, l, h0, h1, hS⟩ := h
  obtain ⟨g, p', l', a, b, c, d, e⟩ := drawB_ok hc.1 hc.2 hS h0 (by omega) hm hm2
  exact ⟨g, _, e, a, b, by rw [List.length_set]; exact hl, p', l', c, by omega, tp_at hS⟩
def pickB (dr : List D → M D) : FS := (sRet (e2 opSubs (eVar 1) (eCall 2 dr (aCons (eVar 0) (aCons (eA lenM (aCons (eVar 1) aNil)) aNil)))))
theorem pick_ok {cs : List PyData} {i L : Nat} {n : Int} {S : Sto} {xs : List PyData} (hc : Cells cs) (h : Tape cs i L n S) (hn : n ≤ 1000000000000) (hx : xs ≠ []) (hx2 : xs.length < 1000000) :
    ∃ d S', runF 2 (pickB (runF 6 drawB)) [.ob i, .p (.list xs)] S = .ok (.p d) S' ∧ d ∈ xs ∧ Tape cs i L (n + 1) S' := by
  have hl : 0 < xs.length := List.length_pos_iff.mpr hx
  obtain ⟨g, S', e, g0, g1, ht⟩ := draw_ok (m := (xs.length : Int)) hc h hn (by omega) (by omega)
  obtain ⟨d, e2, hd⟩ := atI_ok g0 g1
  refine ⟨d, S', run_ret ?_, hd, ht⟩
  show pickB (runF 6 drawB) [some (.ob i), some (.p (.list xs))] S = _
  unfold pickB
  simp [sSeq_, e, cut_same (ht.1.trans h.1.symm), subs_l e2]
end DL

namespace DL
open PySem L2

theorem cutP_mem {xs : List PyData} {lo hi : Option Int} {d : PyData} (h : d ∈ cutP xs lo hi) : d ∈ xs := List.mem_of_mem_drop (List.mem_of_mem_take h)
def beginB : FS := (sRet (eDisp [((eC (.p (.str "cells"))), (eOr (eSli (eVar 0) oNone (oSome (eC (.p (.int 63))))) (eA mkLst (aCons (eC (.p (.int 0))) aNil)))), ((eC (.p (.str "place"))), (eC (.p (.int 0)))), ((eC (.p (.str "left"))), (eC (.p (.int 0))))] finDM))
theorem begin_ok (ns : List Int) : ∃ cs, Cells cs ∧ runF 1 beginB [.ro (nums ns)] [] = .ok (.ob 0) [.dic (tpd cs 0 0)] := by
  have go : ∀ {v : PyData}, (eOr (eSli (eVar 0) oNone (oSome (eC (.p (.int 63))))) (eA mkLst (aCons (eC (.p (.int 0))) aNil))) [some (.ro (nums ns))] [] = .ok (.p v) [] → runF 1 beginB [.ro (nums ns)] [] = .ok (.ob 0) [.dic [(.inr "cells", v), (.inr "place", .int 0), (.inr "left", .int 0)]] := by
    intro v e
    refine run_ret ?_
    show beginB [some (.ro (nums ns))] [] = _
    unfold beginB
    have m : mergeD [(.inr "cells", v), (.inr "place", .int 0), (.inr "left", .int 0)] = [(.inr "cells", v), (.inr "place", .int 0), (.inr "left", .int 0)] := rfl
    simp only [sSeq_, sRet_, eDisp, pairsD, eC_, Out.bind_ok, e, pyKey, List.length_cons, List.length_nil]
    rw [if_pos (by decide), m]
    rfl
  have es : sliM (.ro (nums ns)) none (some 63) [] = .ok (.p (.list (cutP (nums ns) none (some 63)))) [] := rfl
  cases hx : cutP (nums ns) none (some 63) with
  | nil =>
    rw [hx] at es
    refine ⟨[.int 0], ⟨fun d hd => ⟨0, by simpa using hd⟩, by simp⟩, go ?_⟩
    simp [es]
  | cons a r =>
    rw [hx] at es
    refine ⟨a :: r, ⟨fun d hd => ?_, by simp⟩, go ?_⟩
    · have : d ∈ nums ns := cutP_mem (lo := none) (hi := some 63) (by rw [hx]; exact hd)
      obtain ⟨z, _, rfl⟩ := List.mem_map.mp this
      exact ⟨z, rfl⟩
    · simp [es]
theorem tape0 {cs : List PyData} : Tape cs 0 1 0 [.dic (tpd cs 0 0)] := ⟨rfl, 0, 0, Int.le_refl 0, Int.le_refl 0, rfl⟩
theorem cutP_drop {xs : List PyData} {k : Nat} : cutP xs (some (k : Int)) none = xs.drop k := by
  unfold cutP
  rw [HT.sIx_nat, HT.sIx_none]
  by_cases h : k ≤ xs.length
  · rw [Nat.min_eq_left h]
    exact List.take_of_length_le (by simp)
  · rw [Nat.min_eq_right (by omega), List.drop_eq_nil_of_le (Nat.le_refl _), List.drop_eq_nil_of_le (by omega)]
    simp
theorem cutP_take {xs : List PyData} {k : Nat} : cutP xs none (some (k : Int)) = xs.take k := by
  unfold cutP
  rw [HT.sIx_nat, HT.sIx_none]
  by_cases h : k ≤ xs.length
  · rw [Nat.min_eq_left h]
    simp
  · rw [Nat.min_eq_right (by omega), List.take_of_length_le (i := k) (by omega)]
    simp
end DL

namespace DL
open PySem L2

mutual
/-- a bound of the repr's length -/
def wt : PyData → Nat
  | .list xs => wtAll xs + 4
  | .tuple xs => wtAll xs + 4
  | .none => 4
  | .bool _ => 5
  | .int i => (PyData.int i).shown.length
  | .str x => (PyData.str x).shown.length
  | .dict kvs => (PyData.dict kvs).shown.length
def wtAll : List PyData → Nat
  | [] => 0
  | x :: xs => wt x + 2 + wtAll xs
end
theorem str_len_app (a b : Str) : (a ++ b).length = a.length + b.length := Str.length_append a b
theorem textFrom_le : ∀ (ts : List Str) (k : Nat) (acc : Str), (textFrom k acc ts).length ≤ acc.length + (ts.map fun t => t.length + 2).sum
  | [], k, acc => by show acc.length ≤ _; omega
  | t :: r, k, acc => by
    have q := textFrom_le r (k + 1) (acc ++ (if k > 0 then ", " else "" : String) ++ t)
    show (textFrom (k + 1) (acc ++ (if k > 0 then ", " else "" : String) ++ t) r).length ≤ _
    have e : (Str.ofString (if k > 0 then ", " else "" : String)).length ≤ 2 := by
      split
      · decide +kernel
      · decide +kernel
    rw [str_len_app, str_len_app] at q
    simp only [List.map_cons, List.sum_cons]
    omega
theorem join_le (ts : List Str) : (Str.join ", " ts).length ≤ (ts.map fun t => t.length + 2).sum := by
  have q := StrLaws.join_length_le ", " ts
  have e : (Str.ofString ", ").length = 2 := by decide +kernel
  rw [e] at q
  have : ∀ ts : List Str, (ts.map fun t => t.length + 2).sum = (ts.map (·.length)).sum + ts.length * 2 := fun ts => by
    induction ts with
    | nil => rfl
    | cons t r ih => simp only [List.map_cons, List.sum_cons, List.length_cons, ih]; omega
  rw [this]
  exact q
mutual
theorem shown_le : ∀ d : PyData, d.shown.length ≤ wt d
  | .none => by decide +kernel
  | .bool b => by cases b <;> decide +kernel
  | .int i => Nat.le_refl _
  | .str x => Nat.le_refl _
  | .dict kvs => Nat.le_refl _
  | .list xs => by
    have q := shownAll_le xs
    have t := textFrom_le (PyData.shownAll xs) 0 "["
    show (textFrom 0 (Str.ofString "[") (PyData.shownAll xs) ++ Str.ofString "]").length ≤ wtAll xs + 4
    rw [str_len_app]
    have e1 : (Str.ofString "[").length = 1 := by decide +kernel
    have e2 : (Str.ofString "]").length = 1 := by decide +kernel
    omega
  | .tuple xs => by
    have q := shownAll_le xs
    have t := join_le (PyData.shownAll xs)
    show (Str.ofString "(" ++ Str.join ", " (PyData.shownAll xs) ++ Str.ofString (if (PyData.shownAll xs).length == 1 then ",)" else ")" : String)).length ≤ wtAll xs + 4
    rw [str_len_app, str_len_app]
    have e1 : (Str.ofString "(").length = 1 := by decide +kernel
    have e2 : (Str.ofString (if (PyData.shownAll xs).length == 1 then ",)" else ")" : String)).length ≤ 2 := by
      split
      · decide +kernel
      · decide +kernel
    omega
theorem shownAll_le : ∀ xs : List PyData, ((PyData.shownAll xs).map fun t => t.length + 2).sum ≤ wtAll xs
  | [] => Nat.le_refl _
  | x :: xs => by
    have q1 := shown_le x
    have q2 := shownAll_le xs
    show (x.shown.length + 2) + ((PyData.shownAll xs).map fun t => t.length + 2).sum ≤ wt x + 2 + wtAll xs
    omega
end
theorem wtAll_app : ∀ (xs ys : List PyData), wtAll (xs ++ ys) = wtAll xs + wtAll ys
  | [], ys => by simp [wtAll]
  | x :: xs, ys => by
    show wt x + 2 + wtAll (xs ++ ys) = wt x + 2 + wtAll xs + wtAll ys
    rw [wtAll_app xs ys]
    omega
theorem depthAll_app : ∀ (xs ys : List PyData), PyData.depthAll (xs ++ ys) = max (PyData.depthAll xs) (PyData.depthAll ys)
  | [], ys => by show _ = max 0 _; simp
  | x :: xs, ys => by
    show max x.depth (PyData.depthAll (xs ++ ys)) = max (max x.depth (PyData.depthAll xs)) (PyData.depthAll ys)
    rw [depthAll_app xs ys]
    omega
theorem repr_ok {d : PyData} {S : Sto} (h1 : d.showable = true) (h2 : d.depth ≤ 60) (h3 : wt d ≤ 1000000) : reprM [.p d] S = .ok (.p (.str d.shown)) S := by
  have q := shown_le d
  have h4 : d.shown.length ≤ LIM := by unfold LIM; omega
  simp [reprM, h1, h2, h4]
end DL

namespace DL
open PySem L2 PySem.Spec PyProof.Rows

def ordM : List D → M D := fun ds S => match ds with
  | [.p (.str x)] => if x.length = 1 then .ok (.p (.int (x.cps.getD 0 0 : Nat))) S else .bad
  | _ => .bad
def absM : List D → M D := fun ds S => match ds with
  | [.p (.int i)] => .ok (.p (.int (if i < 0 then -i else i))) S
  | _ => .bad
def strM : List D → M D := fun ds S => match ds with
  | [.p (.int i)] => if i.natAbs.log2 < 1920 then .ok (.p (.str (toString i))) S else .bad
  | _ => .bad
def intsP : List PyData → Option (List Int)
  | [] => some []
  | .int i :: r => (intsP r).map (i :: ·)
  | _ :: _ => none
theorem intsP_dn {K : PySem.W.Frag} {φ : List (Addr × HO)} {H : Hp} : ∀ {xs : List PyData} {ns : List Int} {vs : List V}, intsP xs = some ns → DnAll K φ H xs vs → vs = ns.map V.int
  | [], ns, _, e, .nil => by cases e; rfl
  | x :: r, ns, _, e, .cons h t => by
    cases x with
    | int i =>
      simp only [intsP, Option.map_eq_some_iff] at e
      obtain ⟨ms, e1, rfl⟩ := e
      have q := intsP_dn e1 t
      cases h
      rw [q]
      rfl
    | _ => simp [intsP] at e
def sumM : List D → M D := fun ds S => match ds with
  | [d] => (match rlOf S d with
    | some xs => (match intsP xs with
      | some ns => .ok (.p (.int ns.sum)) S
      | none => .bad)
    | none => .bad)
  | _ => .bad
def maxI : List Int → Int
  | [] => 0
  | [x] => x
  | x :: y :: r => max x (maxI (y :: r))
theorem maxI_ge : ∀ {ns : List Int} {y : Int}, y ∈ ns → y ≤ maxI ns
  | [x], y, h => by simp at h; subst h; exact Int.le_refl _
  | x :: z :: r, y, h => by
    show y ≤ max x (maxI (z :: r))
    rcases List.mem_cons.mp h with rfl | h
    · exact Int.le_max_left ..
    · exact Int.le_trans (maxI_ge h) (Int.le_max_right ..)
theorem maxI_mem : ∀ {ns : List Int}, ns ≠ [] → maxI ns ∈ ns
  | [], h => absurd rfl h
  | [x], _ => by simp [maxI]
  | x :: z :: r, _ => by
    show max x (maxI (z :: r)) ∈ _
    by_cases c : x ≤ maxI (z :: r)
    · rw [Int.max_eq_right c]; exact List.mem_cons_of_mem _ (maxI_mem (by simp))
    · rw [Int.max_eq_left (by omega)]; exact List.mem_cons_self
def maxM : List D → M D := fun ds S => match ds with
  | [d] => (match rlOf S d with
    | some xs => (match intsP xs with
      | some (n :: ns) => .ok (.p (.int (maxI (n :: ns)))) S
      | _ => .bad)
    | none => .bad)
  | _ => .bad
section
variable {X : Cx} {W : WX} {e : Expr} {fa : FA} {p pos : Pos}
theorem de_ord (hg : Gl X "ord") (hm : X.mg "ord" = none) (ha : DA X W [e] fa) (he : starEach [e] X.env = (false, eval e X.env) :: starEach [] X.env := by rfl) : DE X W (.Call (.Name "ord" p) [e] [] pos) (eA ordM fa) :=
  de_callB call_ord (fun W σ H G S ds vs Q rp dv q => by
    unfold ordM at q
    split at q
    · rename_i x
      obtain ⟨v, rfl, dv1⟩ := denL1 dv
      obtain rfl := den_str dv1
      by_cases c : x.length = 1
      · rw [if_pos c] at q
        exact ⟨x, rfl, c, q.ret rp (.int _)⟩
      · rw [if_neg c] at q; exact q.elim
    · exact q.elim) hg hm rfl ha (he := he)
theorem de_abs (hg : Gl X "abs") (hm : X.mg "abs" = none) (ha : DA X W [e] fa) (he : starEach [e] X.env = (false, eval e X.env) :: starEach [] X.env := by rfl) : DE X W (.Call (.Name "abs" p) [e] [] pos) (eA absM fa) :=
  de_callB call_abs (fun W σ H G S ds vs Q rp dv q => by
    unfold absM at q
    split at q
    · rename_i x
      obtain ⟨v, rfl, dv1⟩ := denL1 dv
      obtain rfl := den_int dv1
      exact ⟨x, rfl, q.ret rp (.int _)⟩
    · exact q.elim) hg hm rfl ha (he := he)
theorem de_strI (hg : Gl X "str") (hm : X.mg "str" = none) (ha : DA X W [e] fa) (he : starEach [e] X.env = (false, eval e X.env) :: starEach [] X.env := by rfl) : DE X W (.Call (.Name "str" p) [e] [] pos) (eA strM fa) :=
  de_callTy call_str_int (fun W σ H G S ds vs Q rp dv q => by
    unfold strM at q
    split at q
    · rename_i x
      obtain ⟨v, rfl, dv1⟩ := denL1 dv
      obtain rfl := den_int dv1
      by_cases c : x.natAbs.log2 < 1920
      · rw [if_pos c] at q
        exact ⟨x, rfl, c, q.ret rp (.str _)⟩
      · rw [if_neg c] at q; exact q.elim
    · exact q.elim) hg hm rfl ha (he := he)
theorem de_sum (hc : X.calm = true) (hg : Gl X "sum") (hm : X.mg "sum" = none) (ha : DA X W [e] fa) (he : starEach [e] X.env = (false, eval e X.env) :: starEach [] X.env := by rfl) : DE X W (.Call (.Name "sum" p) [e] [] pos) (eA sumM fa) :=
  de_callB (cr_sum hc) (fun W σ H G S ds vs Q rp dv q => by
    unfold sumM at q
    split at q
    · rename_i d
      obtain ⟨v, rfl, dv1⟩ := denL1 dv
      split at q
      · rename_i xs ex
        obtain ⟨a, us, rfl, hq, t⟩ := rlOf_den rp ex dv1
        split at q
        · rename_i ns en
          obtain rfl := intsP_dn en t
          exact ⟨a, ns, rfl, hq, q.ret rp (.int _)⟩
        · exact q.elim
      · exact q.elim
    · exact q.elim) hg hm rfl ha (he := he)
theorem de_max (hc : X.calm = true) (hg : Gl X "max") (hm : X.mg "max" = none) (ha : DA X W [e] fa) (he : starEach [e] X.env = (false, eval e X.env) :: starEach [] X.env := by rfl) : DE X W (.Call (.Name "max" p) [e] [] pos) (eA maxM fa) :=
  de_callB (cr_max hc) (fun W σ H G S ds vs Q rp dv q => by
    unfold maxM at q
    split at q
    · rename_i d
      obtain ⟨v, rfl, dv1⟩ := denL1 dv
      split at q
      · rename_i xs ex
        obtain ⟨a, us, rfl, hq, t⟩ := rlOf_den rp ex dv1
        split at q
        · rename_i n ns en
          obtain rfl := intsP_dn en t
          refine ⟨a, n :: ns, rfl, hq, by simp, fun m hm1 hm2 => ?_⟩
          have e1 : m = maxI (n :: ns) := Int.le_antisymm (maxI_ge hm1) (hm2 _ (maxI_mem (by simp)))
          subst e1
          exact q.ret rp (.int _)
        · exact q.elim
      · exact q.elim
    · exact q.elim) hg hm rfl ha (he := he)
end

def repS (x : Str) (n : Int) : Str := if n < 1 then Str.empty else if (n == 1 || x.length == 0) = true then x else ⟨(List.replicate n.toNat x.cps).foldl (· ++ ·) #[]⟩
def opMulX : D → D → M D := fun x y S => match x, y with
  | .p (.int i), .p (.int j) => if i.natAbs.log2 + j.natAbs.log2 < 1000000 then .ok (.p (.int (i * j))) S else .bad
  | .p (.str z), .p (.int n) => if z.length ≤ 1000 ∧ -1000 ≤ n ∧ n ≤ 1000 then .ok (.p (.str (repS z n))) S else .bad
  | x, .p (.int n) => match lstOf S x with
    | some xs => if xs.length ≤ 1000 ∧ -1000 ≤ n ∧ n ≤ 1000 then .ok (.p (.list (List.replicate n.toNat xs).flatten)) S else .bad
    | none => .bad
  | _, _ => .bad
def rMulX : R2 := fun x y H Q => rI CMulW (fun i j => .int (i * j)) x y H Q ∨ rRep x y H Q ∨ ∃ z n, x = .str z ∧ y = .int n ∧ z.length ≤ 1000 ∧ -1000 ≤ n ∧ n ≤ 1000 ∧ Q (.str (repS z n)) H
theorem rep_size : ∀ (k : Nat) (x acc : Array Nat), ((List.replicate k x).foldl (· ++ ·) acc).size = acc.size + k * x.size
  | 0, x, acc => by simp
  | k + 1, x, acc => by
    rw [List.replicate_succ, List.foldl_cons, rep_size k x (acc ++ x), Array.size_append, Nat.succ_mul]
    omega
theorem rep_dn {K : PySem.W.Frag} {φ : List (Addr × HO)} {H : Hp} {xs : List PyData} {vs : List V} (t : DnAll K φ H xs vs) : ∀ k : Nat, DnAll K φ H (List.replicate k xs).flatten (List.replicate k vs).flatten
  | 0 => .nil
  | k + 1 => by
    rw [List.replicate_succ, List.replicate_succ, List.flatten_cons, List.flatten_cons]
    exact t.append (rep_dn t k)
section
variable {X : Cx}
theorem op_mulX1 : OpR X (binaryOp .Mult) rMulX := by
  intro pins s σ H x y v u Q I rx ry h
  rcases h with h | h | h
  · exact op_mulW pins s σ H x y v u Q I rx ry h
  · exact op_rep pins s σ H x y v u Q I rx ry h
  · obtain ⟨z, n, rfl, rfl, hz, h1, h2, q⟩ := h
    obtain ⟨t, rfl⟩ := rx
    obtain ⟨t', rfl⟩ := ry
    refine PySem.P.mul_str (by
      rw [decide_eq_false (show ¬ n < -(2 ^ 63 : Int) by omega), decide_eq_false (show ¬ n ≥ 2 ^ 63 by omega)]; rfl) (fun c1 c2 => ?_) (fun c1 c2 => ?_) ?_
    · have : (2 ^ 63 - 1 : Int) / n ≥ 1000 := by
        refine (Int.le_ediv_iff_mul_le (by omega)).mpr ?_
        omega
      omega
    · have hk : z.length * n.toNat ≤ 1000 * 1000 := Nat.mul_le_mul hz (by omega)
      show decide (z.length * n.toNat > sizeLine) = false
      exact decide_eq_false (by have := LIM_le; unfold LIM at this; omega)
    · by_cases c1 : n < 1
      · have q' : Q (.str Str.empty) H := by unfold repS at q; rw [if_pos c1] at q; exact q
        rw [if_pos c1]
        exact ⟨Nat.zero_le _, .str _, H, I.tok _, ⟨_, rfl⟩, q'⟩
      · by_cases c2 : (n == 1 || z.length == 0) = true
        · have q' : Q (.str z) H := by unfold repS at q; rw [if_neg c1, if_pos c2] at q; exact q
          rw [if_neg c1, if_pos c2]
          exact ⟨.str _, H, I, ⟨_, rfl⟩, q'⟩
        · have q' : Q (.str ⟨(List.replicate n.toNat z.cps).foldl (· ++ ·) #[]⟩) H := by unfold repS at q; rw [if_neg c1, if_neg c2] at q; exact q
          rw [if_neg c1, if_neg c2]
          refine ⟨?_, .str _, H, I.tok _, ⟨_, rfl⟩, q'⟩
          show ((List.replicate n.toNat z.cps).foldl (· ++ ·) #[]).size ≤ sizeLine
          rw [rep_size]
          have hk : n.toNat * z.cps.size ≤ 1000 * 1000 := Nat.mul_le_mul (by omega) hz
          have := LIM_le
          unfold LIM at this
          simp
          omega
end
theorem sim_mulX {K : PySem.W.Frag} : Sim2 K rMulX opMulX := by
  intro W σ H G S x y v w Q rp dx dy q
  unfold opMulX at q
  split at q
  · rename_i i j
    obtain rfl := den_int dx; obtain rfl := den_int dy
    by_cases c : i.natAbs.log2 + j.natAbs.log2 < 1000000
    · rw [if_pos c] at q
      exact .inl ⟨i, j, rfl, rfl, c, q.ret rp (.int _)⟩
    · rw [if_neg c] at q; exact q.elim
  · rename_i z n
    obtain rfl := den_str dx; obtain rfl := den_int dy
    by_cases c : z.length ≤ 1000 ∧ -1000 ≤ n ∧ n ≤ 1000
    · rw [if_pos c] at q
      exact .inr (.inr ⟨z, n, rfl, rfl, c.1, c.2.1, c.2.2, q.ret rp (.str _)⟩)
    · rw [if_neg c] at q; exact q.elim
  · rename_i x' n _ _
    obtain rfl := den_int dy
    split at q
    · rename_i xs ex
      obtain ⟨a, vs, rfl, hH, t⟩ := lstOf_den rp ex dx
      by_cases c : xs.length ≤ 1000 ∧ -1000 ≤ n ∧ n ≤ 1000
      · rw [if_pos c] at q
        refine .inr (.inl ⟨a, n, vs, rfl, rfl, hH, by omega, by omega, ?_, fun p hp => q.newLst rp (rep_dn t n.toNat) hp⟩)
        rw [← t.length]
        have hk : xs.length * n.toNat ≤ 1000 * 1000 := Nat.mul_le_mul c.1 (by omega)
        have := LIM_le
        unfold LIM at this
        omega
      · rw [if_neg c] at q; exact q.elim
    · exact q.elim
  · exact q.elim
def opDivX : D → D → M D := opI (fun _ j => decide (0 < j) && decide (j.natAbs.log2 < 9000)) fun i j => i / j
/-- <= of numbers, of texts -/
def opLeX : D → D → M D := fun x y S => match x, y with
  | .p (.int i), .p (.int j) => .ok (.p (.bool (decide (i ≤ j)))) S
  | .p (.str i), .p (.str j) => .ok (.p (.bool (!decide (j.cps.toList < i.cps.toList)))) S
  | _, _ => .bad
def rLeX : R2 := fun x y H Q => rI0 (fun i j => .bl (decide (i ≤ j))) x y H Q ∨ ∃ i j, x = .str i ∧ y = .str j ∧ Q (.bl (!decide (j.cps.toList < i.cps.toList))) H
theorem sim_leX {K : PySem.W.Frag} : Sim2 K rLeX opLeX := by
  intro W σ H G S x y v w Q rp dx dy q
  unfold opLeX at q
  split at q
  · rename_i i j
    obtain rfl := den_int dx; obtain rfl := den_int dy
    exact .inl ⟨i, j, rfl, rfl, q.ret rp (.bl _)⟩
  · rename_i i j
    obtain rfl := den_str dx; obtain rfl := den_str dy
    exact .inr ⟨i, j, rfl, rfl, q.ret rp (.bl _)⟩
  · exact q.elim
section
variable {X : Cx} {W : WX} {a b c : Expr} {f g h : FE} {pos : Pos}
theorem op_leX1 : OpR X (compareOp .LtE) rLeX := by
  intro pins s σ H x y v u Q I rx ry h
  rcases h with h | h
  · exact op_le pins s σ H x y v u Q I rx ry h
  · exact op_le_str pins s σ H x y v u Q I rx ry h
theorem de_mulX (ha : DE X W a f) (hb : DE X W b h) : DE X W (.BinOp a .Mult b pos) (e2 opMulX f h) := de_bin op_mulX1 sim_mulX ha hb
theorem de_divX (ha : DE X W a f) (hb : DE X W b h) : DE X W (.BinOp a .FloorDiv b pos) (e2 opDivX f h) := de_bin op_fdivW (sim_int fun i j q => by
  simp only [Bool.and_eq_true, decide_eq_true_eq] at q
  exact q) ha hb
theorem de_leX (ha : DE X W a f) (hb : DE X W b h) : DE X W (.Compare a [.LtE] [b] pos) (e2 opLeX f h) := de_cmp op_leX1 sim_leX ha hb (nomark _)
theorem dt_leX (ha : DE X W a f) (hb : DE X W b h) : DT X W (.Compare a [.LtE] [b] pos) (tC2 opLeX f h) := dt_cmp op_leX1 sim_leX ha hb (nomark _)
theorem de_leXleX (ha : DE X W a f) (hb : DE X W b g) (hc : DE X W c h) (hm : lastMarks [.LtE, .LtE] [b, c] = false := by with_unfolding_all rfl) : DE X W (.Compare a [.LtE, .LtE] [b, c] pos) (eChain opLeX opLeX f g h) := de_chain op_leX1 sim_leX op_leX1 sim_leX ha hb hc hm
theorem dt_leXleX (ha : DE X W a f) (hb : DE X W b g) (hc : DE X W c h) (hm : lastMarks [.LtE, .LtE] [b, c] = false := by with_unfolding_all rfl) : DT X W (.Compare a [.LtE, .LtE] [b, c] pos) (tChain opLeX opLeX f g h) := dt_chain op_leX1 sim_leX op_leX1 sim_leX ha hb hc hm
theorem dt_leXlt (ha : DE X W a f) (hb : DE X W b g) (hc : DE X W c h) (hm : lastMarks [.LtE, .Lt] [b, c] = false := by with_unfolding_all rfl) : DT X W (.Compare a [.LtE, .Lt] [b, c] pos) (tChain opLeX opLt f g h) := dt_chain op_leX1 sim_leX op_lt sim_cmp ha hb hc hm
end
end DL

namespace DL
open PySem L2 PySem.Spec PyProof.Rows

def deepIn (neg : Bool) : D → D → M D := fun x y S => match val S x, val S y with
  | some d, some (.list ds) => if SeqAt.shaped d && SeqAt.shaped (.list ds) then .ok (.p (.bool (if neg then !(ds.any fun z => PyData.eqv z d) else ds.any fun z => PyData.eqv z d))) S else .bad
  | _, _ => .bad
def opInX (neg : Bool) : D → D → M D := fun x y S => match opIn neg x y S with
  | .bad => deepIn neg x y S
  | o => o
def rInX (K : PySem.W.Frag) (neg : Bool) : R2 := fun x y H Q => DL.rInD K neg x y H Q ∨ ∃ d ds, Dp K H x d ∧ Dp K H y (.list ds) ∧ SeqAt.shaped d = true ∧ SeqAt.shaped (.list ds) = true ∧ Q (.bl (if neg then !(ds.any fun z => PyData.eqv z d) else ds.any fun z => PyData.eqv z d)) H
theorem sim_inX {K : PySem.W.Frag} (neg : Bool) : Sim2 K (rInX K neg) (opInX neg) := by
  intro W σ H G S x y v w Q rp dx dy q
  unfold opInX at q
  cases e : opIn neg x y S with
  | ok d S1 =>
    rw [e] at q
    exact .inl (sim_in neg W σ H G S x y v w Q rp dx dy (by rw [e]; exact q))
  | err z S1 =>
    rw [e] at q
    exact .inl (sim_in neg W σ H G S x y v w Q rp dx dy (by rw [e]; exact q))
  | bad =>
    rw [e] at q
    have q : Aft K W σ H G S (deepIn neg x y S) (QD K Q) := q
    unfold deepIn at q
    split at q
    · rename_i d ds e1 e2
      by_cases c : (SeqAt.shaped d && SeqAt.shaped (.list ds)) = true
      · rw [if_pos c] at q
        simp only [Bool.and_eq_true] at c
        exact .inr ⟨d, ds, val_dp rp e1 c.1 dx, val_dp rp e2 c.2 dy, c.1, c.2, q.ret rp (.bl _)⟩
      · rw [if_neg c] at q; exact q.elim
    · exact q.elim
def eSplit (f g : FE) : FE := fun ρ S => (f ρ S).bind fun d S1 => match d with
  | .p (.str a) => (g ρ S1).bind fun e S2 => (match e with
    | .p (.str b) => if (b.length == 0) = false ∧ a.length + 2 ≤ LIM then .ok (.p (.list ((Txt.split a b).map .str))) S2 else .bad
    | _ => .bad)
  | _ => .bad
theorem strs_dn {K : PySem.W.Frag} {φ : List (Addr × HO)} {H : Hp} : ∀ xs : List Str, DnAll K φ H (xs.map .str) (xs.map V.str)
  | [] => .nil
  | x :: xs => .cons (.str x) (strs_dn xs)
section
variable {X : Cx} {W : WX} {a b o e : Expr} {f g h : FE} {pos apos : Pos}
theorem op_inX1 (hu : X.A.units + 65 < cLine) : OpR X (compareOp .In) (rInX X.K false) := by
  intro pins s σ H x y v u Q I rx ry h
  rcases h with h | h
  · exact DL.op_inD (by omega) pins s σ H x y v u Q I rx ry h
  · exact L2.op_inD hu pins s σ H x y v u Q I rx ry h
theorem op_notInX1 (hu : X.A.units + 65 < cLine) : OpR X (compareOp .NotIn) (rInX X.K true) := by
  intro pins s σ H x y v u Q I rx ry h
  rcases h with h | h
  · exact DL.op_notInD (by omega) pins s σ H x y v u Q I rx ry h
  · exact L2.op_notInD hu pins s σ H x y v u Q I rx ry h
theorem hu65 {A : Around} {k : Nat} (hr : Room k A) : A.units + 65 < cLine := by have := hr.un; omega
theorem de_inX (hu : X.A.units + 65 < cLine) (ha : DE X W a f) (hb : DE X W b h) (hm : behindInMarks .In b = false := by rfl) : DE X W (.Compare a [.In] [b] pos) (e2 (opInX false) f h) := de_cmp (op_inX1 hu) (sim_inX false) ha hb hm
theorem de_notInX (hu : X.A.units + 65 < cLine) (ha : DE X W a f) (hb : DE X W b h) (hm : behindInMarks .NotIn b = false := by rfl) : DE X W (.Compare a [.NotIn] [b] pos) (e2 (opInX true) f h) := de_cmp (op_notInX1 hu) (sim_inX true) ha hb hm
theorem dt_inX (hu : X.A.units + 65 < cLine) (ha : DE X W a f) (hb : DE X W b h) (hm : behindInMarks .In b = false := by rfl) : DT X W (.Compare a [.In] [b] pos) (tC2 (opInX false) f h) := dt_cmp (op_inX1 hu) (sim_inX false) ha hb hm
theorem dt_notInX (hu : X.A.units + 65 < cLine) (ha : DE X W a f) (hb : DE X W b h) (hm : behindInMarks .NotIn b = false := by rfl) : DT X W (.Compare a [.NotIn] [b] pos) (tC2 (opInX true) f h) := dt_cmp (op_notInX1 hu) (sim_inX true) ha hb hm
theorem de_split (ho : DE X W o f) (he : DE X W e g) (hs : starEach [e] X.env = [(false, eval e X.env)] := by rfl) (hbase : attributeBase o "split" X.env (eval o X.env) = eval o X.env := by rfl) (hline : (apos.endLine == pos.line) = true := by rfl) : DE X W (.Call (.Attribute o "split" apos) [e] [] pos) (eSplit f g) := by
  refine ⟨PE.imp (pe_split ho.run he.run hs hbase hline) fun σ H Q ⟨G, S, ρ, rs, rp, q⟩ => ⟨G, S, ρ, rs, rp, (Aft.bind q).mono fun d H1 G1 S1 x1 r1 q1 v dv => ?_⟩⟩
  split at q1
  · rename_i z
    obtain rfl := den_str dv
    refine ⟨⟨z, rfl⟩, G1, S1, ρ, x1.relS rp rs, r1, (Aft.bind q1).mono fun d2 H2 G2 S2 x2 r2 q2 u du => ?_⟩
    split at q2
    · rename_i b'
      obtain rfl := den_str du
      by_cases c : (b'.length == 0) = false ∧ z.length + 2 ≤ LIM
      · rw [if_pos c] at q2
        exact ⟨z, b', rfl, rfl, c.1, Nat.le_trans c.2 LIM_le, fun p hp => q2.newLst r2 (strs_dn _) hp⟩
      · rw [if_neg c] at q2; exact q2.elim
    · exact q2.elim
  · exact q1.elim
end
end DL

namespace DL
open PySem L2

theorem lg {n k : Nat} (h : n < 2 ^ k) (hk : 0 < k) : n.log2 < k := by
  by_cases c : n = 0
  · subst c; simpa using hk
  · exact (Nat.log2_lt c).mpr h
@[simp] theorem opLeX_i {i j : Int} {S : Sto} : opLeX (.p (.int i)) (.p (.int j)) S = .ok (.p (.bool (decide (i ≤ j)))) S := rfl
@[simp] theorem opLeX_s {i j : Str} {S : Sto} : opLeX (.p (.str i)) (.p (.str j)) S = .ok (.p (.bool (!decide (j.cps.toList < i.cps.toList)))) S := rfl
theorem opMulX_i {i j : Int} {S : Sto} (h : i.natAbs.log2 + j.natAbs.log2 < 1000000) : opMulX (.p (.int i)) (.p (.int j)) S = .ok (.p (.int (i * j))) S := by simp [opMulX, h]
theorem opDivX_i {i j : Int} {S : Sto} (h : 0 < j) (h2 : j.natAbs.log2 < 9000) : opDivX (.p (.int i)) (.p (.int j)) S = .ok (.p (.int (i / j))) S := by simp [opDivX, opI, h, h2]
@[simp] theorem inX_ss {neg : Bool} {i j : Str} {S : Sto} : opInX neg (.p (.str i)) (.p (.str j)) S = .ok (.p (.bool (if neg then !inStr i j else inStr i j))) S := rfl
theorem inX_t {neg : Bool} {a : PyData} {xs : List PyData} {S : Sto} (h : flatP a = true) (h2 : xs.all flatP = true) : opInX neg (.p a) (.p (.tuple xs)) S = .ok (.p (.bool (if neg then !inP a xs else inP a xs))) S := by
  unfold opInX; rw [in_t h h2]
theorem inX_l {neg : Bool} {a : PyData} {xs : List PyData} {S : Sto} (h : flatP a = true) (h2 : xs.all flatP = true) : opInX neg (.p a) (.p (.list xs)) S = .ok (.p (.bool (if neg then !inP a xs else inP a xs))) S := by
  unfold opInX; rw [in_l h h2]
/-- the draw's constants: q, a, b, the power, the ten's power and what is added -/
structure DrC where
  q : Int
  a : Int
  b : Int
  e : Int
  t : Int
  z : Int
def DrC.ok (c : DrC) : Prop := 0 < c.q ∧ c.q ≤ 4294967296 ∧ 0 ≤ c.a ∧ c.a ≤ 100000 ∧ 0 ≤ c.b ∧ c.b ≤ 100000 ∧ 0 ≤ c.e ∧ c.e ≤ 1000 ∧ 0 ≤ c.t ∧ c.t ≤ 1000 ∧ 0 ≤ c.z
def drawA2 (c : DrC) : FS := (sSeq (sAsgs (aCons (e2 opSubs (eVar 0) (eC (.p (.str "place")))) (aCons (eA lenM (aCons (e2 opSubs (eVar 0) (eC (.p (.str "cells")))) aNil)) aNil)) (gConss (gN 3) (gConss (gN 4) gNils)))
    (sSeq (sAsgs (aCons (e2 opSubs (e2 opSubs (eVar 0) (eC (.p (.str "cells")))) (e2 opMod (eA intM (aCons (eVar 3) aNil)) (eVar 4))) (aCons (e2 opAdd (eVar 3) (eC (.p (.int 1)))) aNil)) (gConss (gN 5) (gConss (gSubD (eVar 0) (eC (.p (.str "place")))) gNils)))
    (sSeq (sAsg (e2 opMod (eA intM (aCons (e2 opPow (e2 opAdd (e2 opAdd (e2 opMod (eA intM (aCons (eVar 5) aNil)) (eC (.p (.int c.q)))) (e2 opMulX (eC (.p (.int c.a))) (eVar 3))) (eC (.p (.int c.b)))) (eC (.p (.int c.e)))) aNil)) (e2 opAdd (e2 opPow (eC (.p (.int 10))) (eC (.p (.int c.t)))) (eC (.p (.int c.z))))) (gSubD (eVar 0) (eC (.p (.str "left")))))
    (sIf (tAndD (tC2 (opGe) (eVar 5) (e2 opPow (eC (.p (.int 10))) (eC (.p (.int 18))))) (tC2 (opLt) (eVar 3) (eVar 4))) (sAsg (e2 opSub (eVar 5) (e2 opPow (eC (.p (.int 10))) (eC (.p (.int 18))))) (gSubD (eVar 0) (eC (.p (.str "left"))))) sNext))))
def drawB2 (c : DrC) : FS := (sSeq (sIf (tC2 (opLt) (e2 opSubs (eVar 0) (eC (.p (.str "left")))) (eVar 1)) (drawA2 c) sNext)
    (sSeq (sAsgs (aCons (e2 opMod (eA intM (aCons (e2 opSubs (eVar 0) (eC (.p (.str "left")))) aNil)) (eVar 1)) (aCons (e2 opDivX (e2 opSubs (eVar 0) (eC (.p (.str "left")))) (eVar 1)) aNil)) (gConss (gN 2) (gConss (gSubD (eVar 0) (eC (.p (.str "left")))) gNils)))
    (sRet (eVar 2))))
theorem drawA2_ok {c : DrC} (hc0 : c.ok) {cs : List PyData} {p l m : Int} {S : Sto} {i : Nat} (hc : ∀ d ∈ cs, ∃ z, d = .int z) (hne : cs ≠ []) (h : S[i]? = some (.dic (tpd cs p l))) (hp : 0 ≤ p) (hp2 : p ≤ 1000000000000) :
    ∃ x y z l', drawA2 c [some (.ob i), some (.p (.int m)), none, none, none, none] S = some (.next [some (.ob i), some (.p (.int m)), none, x, y, z], S.set i (.dic (tpd cs (p + 1) l'))) := by
  obtain ⟨h1, h2, h3, h4, h5, h6, h7, h8, h9, h10, h11⟩ := hc0
  have hl : 0 < cs.length := List.length_pos_iff.mpr hne
  obtain ⟨d, e1, hd⟩ := atI_ok (xs := cs) (i := p % (cs.length : Int)) (Int.emod_nonneg _ (by omega)) (Int.emod_lt_of_pos _ (by omega))
  obtain ⟨z, rfl⟩ := hc d hd
  have hS1 := tp_at (o := .dic (tpd cs (p + 1) l)) h
  have hap : c.a * p ≤ 100000 * 1000000000000 := Int.mul_le_mul h4 hp2 hp (by decide)
  have hap0 : 0 ≤ c.a * p := Int.mul_nonneg h3 hp
  have hb : (z % c.q + c.a * p + c.b).natAbs < 2 ^ 64 := by
    have a1 := Int.emod_nonneg z (show c.q ≠ 0 by omega)
    have a2 := Int.emod_lt_of_pos z h1
    have : (2 : Nat) ^ 64 = 18446744073709551616 := by decide
    omega
  have hz : (0 : Int) < 10 ^ c.t.toNat + c.z := by
    have : (0 : Int) < 10 ^ c.t.toNat := Int.pow_pos (by decide)
    omega
  have hlg : c.a.natAbs.log2 + p.natAbs.log2 < 1000000 := by
    have a1 := lg (n := c.a.natAbs) (k := 40) (by have : (2 : Nat) ^ 40 = 1099511627776 := by decide
                                                  omega) (by decide)
    have a2 := lg (n := p.natAbs) (k := 41) (by have : (2 : Nat) ^ 41 = 2199023255552 := by decide
                                                omega) (by decide)
    omega
  have k1 := fun S => opMod_i (i := z) (S := S) h1
  have k2 := fun S => opMulX_i (S := S) hlg
  have k3 := fun S => opPow_i (S := S) h7 (show c.e ≤ 1000000 by omega) hb
  have k4 := fun S => opPow_i (S := S) h9 (show c.t ≤ 1000000 by omega) (show (10 : Int).natAbs < 2 ^ 64 by decide)
  have k5 := fun x S => opMod_i (i := x) (S := S) hz
  have k6 := fun S => opPow_i (i := 10) (S := S) (show (0 : Int) ≤ 18 by decide) (by decide) (show (10 : Int).natAbs < 2 ^ 64 by decide)
  have hS2 : ∀ l2, (List.set S i (.dic (tpd cs (p + 1) l2)))[i]? = some (.dic (tpd cs (p + 1) l2)) := fun l2 => tp_at h
  unfold drawA2
  simp only [sSeq_, sAsgs_, aCons_, aNil_, e2_, eVarS, eVar0, eC_, Out.bind_ok, tp_place h, eA_, tp_cells h, lenM_l, st_ok, gConss_, gN_, gNils_, List.set_cons_succ, List.set_cons_zero, intM_i, opMod_i (show (0 : Int) < (cs.length : Int) by omega), subs_l e1, opAdd_i, gSubD_, tp_setP h, sAsg_, k1, k2, k3, k4, k5, tp_setL hS1, List.set_set]
  by_cases c1 : (10 : Int) ^ (18 : Int).toNat ≤ z
  · by_cases c2 : p < (cs.length : Int)
    · simp only [sIf_, tAnd_, tC2_, e2_, eVarS, eVar0, eC_, Out.bind_ok, k6, opGe_i, c1, decide_true, if_true, opLt_i, c2, st_ok, sAsg_, opSub_i, gSubD_, tp_setL (hS2 _), List.set_set]
      exact ⟨_, _, _, _, rfl⟩
    · simp only [sIf_, tAnd_, tC2_, e2_, eVarS, eVar0, eC_, Out.bind_ok, k6, opGe_i, c1, decide_true, if_true, opLt_i, c2, decide_false, Bool.false_eq_true, if_false, st_ok, sNext_]
      exact ⟨_, _, _, _, rfl⟩
  · simp only [sIf_, tAnd_, tC2_, e2_, eVarS, eVar0, eC_, Out.bind_ok, k6, opGe_i, c1, decide_false, Bool.false_eq_true, if_false, st_ok, sNext_]
    exact ⟨_, _, _, _, rfl⟩
theorem drawB2_ok {c : DrC} (hc0 : c.ok) {cs : List PyData} {p l m : Int} {S : Sto} {i : Nat} (hc : ∀ d ∈ cs, ∃ z, d = .int z) (hne : cs ≠ []) (h : S[i]? = some (.dic (tpd cs p l))) (hp : 0 ≤ p) (hp2 : p ≤ 1000000000000) (hm : 0 < m) (hm2 : m.natAbs.log2 < 9000) :
    ∃ g p' l', 0 ≤ g ∧ g < m ∧ 0 ≤ p' ∧ p' ≤ p + 1 ∧ runF 6 (drawB2 c) [.ob i, .p (.int m)] S = .ok (.p (.int g)) (S.set i (.dic (tpd cs p' l'))) := by
  have second : ∀ {x y z : Option D} {S : Sto} {p l : Int}, S[i]? = some (.dic (tpd cs p l)) → (sSeq (sAsgs (aCons (e2 opMod (eA intM (aCons (e2 opSubs (eVar 0) (eC (.p (.str "left")))) aNil)) (eVar 1)) (aCons (e2 opDivX (e2 opSubs (eVar 0) (eC (.p (.str "left")))) (eVar 1)) aNil)) (gConss (gN 2) (gConss (gSubD (eVar 0) (eC (.p (.str "left")))) gNils)))
      (sRet (eVar 2))) [some (.ob i), some (.p (.int m)), none, x, y, z] S = some (.ret (.p (.int (l % m))), S.set i (.dic (tpd cs p (l / m)))) := by
    intro x y z S p l h
    simp [sSeq_, tp_left h, opMod_i hm, opDivX_i hm hm2, tp_setL h]
  have g0 : ∀ l, 0 ≤ l % m := fun l => Int.emod_nonneg _ (by omega)
  have g1 : ∀ l, l % m < m := fun l => Int.emod_lt_of_pos _ hm
  by_cases cc : l < m
  · obtain ⟨x, y, z, l', e⟩ := drawA2_ok (m := m) hc0 hc hne h hp hp2
    have s2 := second (x := x) (y := y) (z := z) (tp_at (o := .dic (tpd cs (p + 1) l')) h)
    refine ⟨l' % m, p + 1, l' / m, g0 _, g1 _, by omega, by omega, run_ret ?_⟩
    show drawB2 c [some (.ob i), some (.p (.int m)), none, none, none, none] S = _
    unfold drawB2
    rw [sSeq_next (a := sIf _ _ _) (ρ' := [some (.ob i), some (.p (.int m)), none, x, y, z]) (S' := S.set i (.dic (tpd cs (p + 1) l'))) (by simp [sSeq_, tp_left h, cc, e]), s2, List.set_set]
  · refine ⟨l % m, p, l / m, g0 _, g1 _, by omega, by omega, run_ret ?_⟩
    show drawB2 c [some (.ob i), some (.p (.int m)), none, none, none, none] S = _
    unfold drawB2
    rw [sSeq_next (a := sIf _ _ _) (ρ' := [some (.ob i), some (.p (.int m)), none, none, none, none]) (S' := S) (by simp [sSeq_, tp_left h, cc]), second h]
theorem draw2_ok {c : DrC} (hc0 : c.ok) {cs : List PyData} {i L : Nat} {n m : Int} {S : Sto} (hc : Cells cs) (h : Tape cs i L n S) (hn : n ≤ 1000000000000) (hm : 0 < m) (hm2 : m.natAbs.log2 < 9000) :
    ∃ g S', runF 6 (drawB2 c) [.ob i, .p (.int m)] S = .ok (.p (.int g)) S' ∧ 0 ≤ g ∧ g < m ∧ Tape cs i L (n + 1) S' := by
  obtain ⟨hl, p, l, h0, h1, hS⟩ := h
  obtain ⟨g, p', l', a, b, c', d, e⟩ := drawB2_ok hc0 hc.1 hc.2 hS h0 (by omega) hm hm2
  exact ⟨g, _, e, a, b, by rw [List.length_set]; exact hl, p', l', c', by omega, tp_at hS⟩
theorem pick2_ok {c : DrC} (hc0 : c.ok) {cs : List PyData} {i L : Nat} {n : Int} {S : Sto} {xs : List PyData} (hc : Cells cs) (h : Tape cs i L n S) (hn : n ≤ 1000000000000) (hx : xs ≠ []) (hx2 : xs.length < 1000000) :
    ∃ d S', runF 2 (pickB (runF 6 (drawB2 c))) [.ob i, .p (.list xs)] S = .ok (.p d) S' ∧ d ∈ xs ∧ Tape cs i L (n + 1) S' := by
  have hl : 0 < xs.length := List.length_pos_iff.mpr hx
  obtain ⟨g, S', e, g0, g1, ht⟩ := draw2_ok hc0 (m := (xs.length : Int)) hc h hn (by omega) (by
    have := lg (n := ((xs.length : Int)).natAbs) (k := 40) (by have : (2 : Nat) ^ 40 = 1099511627776 := by decide
                                                               omega) (by decide)
    omega)
  obtain ⟨d, e2, hd⟩ := atI_ok g0 g1
  refine ⟨d, S', run_ret ?_, hd, ht⟩
  show pickB (runF 6 (drawB2 c)) [some (.ob i), some (.p (.list xs))] S = _
  unfold pickB
  simp [e, cut_same (ht.1.trans h.1.symm), subs_l e2]
theorem strOk_of (s : String) : PyData.strOk (Str.ofString s) = true := by
  rw [Str.ofString_eq_toList]
  unfold PyData.strOk
  rw [Array.all_eq_true']
  intro c hc
  simp at hc
  obtain ⟨x, _, rfl⟩ := hc
  have := x.valid
  simp [UInt32.isValidChar, Nat.isValidChar] at this
  simp only [decide_eq_true_eq]
  rcases this with h | h
  · omega
  · exact h.2
end DL

namespace DL
open PySem L2

theorem lcD_go {g : FG} {e : FE} {ρ : Ev} (Inv : Nat → Sto → Prop) (P : PyData → Prop) : ∀ {ds : List D} {j : Nat} {S : Sto}, Inv j S →
    (∀ i d S, ds[i]? = some d → Inv (j + i) S → ∃ ρ1 y S', g d ρ S = some (ρ1, S) ∧ e ρ1 S = .ok (.p y) S' ∧ P y ∧ Inv (j + i + 1) S') →
    ∃ ys S', lcD g tYesD e ρ ds S = .ok ys S' ∧ ys.length = ds.length ∧ (∀ y ∈ ys, P y) ∧ Inv (j + ds.length) S'
  | [], j, S, h, _ => ⟨[], S, rfl, rfl, (fun y hy => nomatch hy), h⟩
  | d :: r, j, S, h, st => by
    obtain ⟨ρ1, y, S1, e1, e2, py, h1⟩ := st 0 d S rfl h
    obtain ⟨ys, S2, e3, l, ps, h2⟩ := lcD_go Inv P (ds := r) (j := j + 1) (S := S1) h1 fun i x S hx hi => by
      have q := st (i + 1) x S (by simpa using hx) (by rw [show j + (i + 1) = j + 1 + i by omega]; exact hi)
      rw [show j + (i + 1) + 1 = j + 1 + i + 1 by omega] at q
      exact q
    refine ⟨y :: ys, S2, ?_, by simp [l], fun z hz => ?_, by rw [List.length_cons, show j + (r.length + 1) = j + 1 + r.length by omega]; exact h2⟩
    · unfold lcD
      rw [e1]
      show (tYesD ρ1 S).bind _ = _
      simp only [tYes_, Out.bind_ok, if_true, e2, e3]
    · rcases List.mem_cons.mp hz with rfl | hz
      · exact py
      · exact ps z hz
theorem range_ok {j : Int} {S : Sto} (h0 : 0 ≤ j) (h1 : j ≤ 1000000) : rangeM [.p (.int j)] S = .ok ((List.range j.toNat).map fun i : Nat => D.p (.int (0 + (i : Int)))) S := by
  unfold rangeM
  simp only
  rw [if_pos ⟨by omega, h1⟩]
end DL

namespace DL
open PySem L2

def wp {α : Type} (o : Out α) (Q : α → Sto → Prop) (X : Exn → Sto → Prop) : Prop := match o with
  | .ok a s => Q a s
  | .err x s => X x s
  | .bad => False
def wpS (o : Option (Fl × Sto)) (Q : Fl → Sto → Prop) : Prop := match o with
  | some (fl, s) => Q fl s
  | none => False
def wpG (o : Option (Ev × Sto)) (Q : Ev → Sto → Prop) : Prop := match o with
  | some (ρ, s) => Q ρ s
  | none => False
def noX : Exn → Sto → Prop := fun _ _ => False
def sq (b : FS) (Q : Fl → Sto → Prop) : Fl → Sto → Prop := fun fl s => match fl with
  | .next ρ => wpS (b ρ s) Q
  | .ret d => Q (.ret d) s
  | .brk ρ => Q (.brk ρ) s
  | .cont ρ => Q (.cont ρ) s
  | .exc x ρ => Q (.exc x ρ) s
def rn (Q : D → Sto → Prop) (X : Exn → Sto → Prop) : Fl → Sto → Prop := fun fl s => match fl with
  | .ret d => Q d s
  | .next _ => Q (.p .none) s
  | .exc x _ => X x s
  | _ => False
section
variable {α β : Type} {a : α} {s S : Sto} {Q : α → Sto → Prop} {X : Exn → Sto → Prop} {R : Fl → Sto → Prop} {ρ : Ev} {o : Out α} {k : α → M β} {Q' : β → Sto → Prop}
@[simp] theorem wp_ok : wp (.ok a s) Q X = Q a s := rfl
@[simp] theorem wp_err {x : Exn} : wp (.err x s : Out α) Q X = X x s := rfl
@[simp] theorem wp_bad : wp (.bad : Out α) Q X = False := rfl
@[simp ↓] theorem wp_bind : wp (o.bind k) Q' X = wp o (fun a s => wp (k a s) Q' X) X := by cases o <;> rfl
@[simp] theorem wp_noErr : wp (noErr o) Q X = wp o Q noX := by cases o <;> rfl
@[simp] theorem wpS_some {fl : Fl} : wpS (some (fl, s)) R = R fl s := rfl
@[simp ↓] theorem wpS_st {kk : α → Sto → Option (Fl × Sto)} : wpS (o.st ρ kk) R = wp o (fun a s => wpS (kk a s) R) (fun x s => R (.exc x ρ) s) := by cases o <;> rfl
@[simp ↓] theorem wpS_seq {a b : FS} : wpS (sSeq a b ρ S) R = wpS (a ρ S) (sq b R) := by
  unfold sSeq
  cases e : a ρ S with
  | none => rfl
  | some p =>
    obtain ⟨fl, s⟩ := p
    cases fl <;> rfl
theorem wpS_seq0 {a b : FS} : wpS (match a ρ S with | some (.next ρ', S') => b ρ' S' | o => o) R = wpS (a ρ S) (sq b R) := wpS_seq (a := a) (b := b)
@[simp] theorem sq_next {b : FS} : sq b R (.next ρ) s = wpS (b ρ s) R := rfl
@[simp] theorem sq_ret {b : FS} {d : D} : sq b R (.ret d) s = R (.ret d) s := rfl
@[simp] theorem sq_brk {b : FS} : sq b R (.brk ρ) s = R (.brk ρ) s := rfl
@[simp] theorem sq_cont {b : FS} : sq b R (.cont ρ) s = R (.cont ρ) s := rfl
@[simp] theorem sq_exc {b : FS} {x : Exn} : sq b R (.exc x ρ) s = R (.exc x ρ) s := rfl
@[simp] theorem rn_ret {Q : D → Sto → Prop} {d : D} : rn Q X (.ret d) s = Q d s := rfl
@[simp] theorem rn_next {Q : D → Sto → Prop} : rn Q X (.next ρ) s = Q (.p .none) s := rfl
@[simp] theorem rn_exc {Q : D → Sto → Prop} {x : Exn} : rn Q X (.exc x ρ) s = X x s := rfl
@[simp] theorem wpG_some {Q : Ev → Sto → Prop} : wpG (some (ρ, s)) Q = Q ρ s := rfl
@[simp] theorem wpG_none {Q : Ev → Sto → Prop} : wpG none Q = False := rfl
@[simp ↓] theorem wp_ite {c : Prop} [Decidable c] {x y : Out α} : wp (if c then x else y) Q X = if c then wp x Q X else wp y Q X := by split <;> rfl
@[simp ↓] theorem wpS_ite {c : Prop} [Decidable c] {x y : Option (Fl × Sto)} : wpS (if c then x else y) R = if c then wpS x R else wpS y R := by split <;> rfl
theorem wp_run {m : Nat} {b : FS} {ds : List D} {Q : D → Sto → Prop} : wp (runF m b ds S) Q X = wpS (b (ds.map some ++ List.replicate (m - ds.length) none) S) (rn Q X) := by
  unfold runF
  cases e : b (ds.map some ++ List.replicate (m - ds.length) none) S with
  | none => rfl
  | some p =>
    obtain ⟨fl, s⟩ := p
    cases fl <;> rfl
theorem wp_mono {Q2 : α → Sto → Prop} {X2 : Exn → Sto → Prop} (h : wp o Q X) (f : ∀ a s, Q a s → Q2 a s) (fx : ∀ x s, X x s → X2 x s) : wp o Q2 X2 := by
  cases o with
  | ok a s => exact f a s h
  | err x s => exact fx x s h
  | bad => exact h
theorem wp_eq {s' : Sto} (h : wp o (fun b t => b = a ∧ t = s') noX) : o = .ok a s' := by
  cases o with
  | ok b t => obtain ⟨rfl, rfl⟩ := h; rfl
  | err x t => exact h.elim
  | bad => exact h.elim
theorem wp_ex (h : wp o Q noX) : ∃ a s, o = .ok a s ∧ Q a s := by
  cases o with
  | ok b t => exact ⟨b, t, rfl, h⟩
  | err x t => exact h.elim
  | bad => exact h.elim
theorem wp_of (e : o = .ok a s) (h : Q a s) : wp o Q X := by rw [e]; exact h
/-- a def's end: plain data goes out, the later objects are forgotten -/
theorem wp_cut {n : Nat} {o : Out D} {Q : D → Sto → Prop} (h : wp o (fun d s => ∃ x, d = .p x ∧ Q (.p x) (s.take n)) X) : wp (cutD n o) Q X := by
  cases o with
  | ok d s =>
    obtain ⟨x, rfl, q⟩ := h
    exact q
  | err x s => exact h
  | bad => exact h
/-- a def's end where the store keeps its length -/
theorem wp_cutS {n : Nat} {o : Out D} {Q : D → Sto → Prop} (h : wp o (fun d s => s.length = n ∧ Q d s) X) : wp (cutD n o) Q X := by
  cases o with
  | ok d s =>
    obtain ⟨rfl, q⟩ := h
    cases d with
    | ob i =>
      show wp (if i < s.length then Out.ok (D.ob i) (s.take s.length) else .ok (.ob i) s) Q X
      rw [List.take_of_length_le (Nat.le_refl _)]
      split <;> exact q
    | p x => show Q _ (s.take s.length); rw [List.take_of_length_le (Nat.le_refl _)]; exact q
    | ro x => show Q _ (s.take s.length); rw [List.take_of_length_le (Nat.le_refl _)]; exact q
    | ext x => show Q _ (s.take s.length); rw [List.take_of_length_le (Nat.le_refl _)]; exact q
  | err x s => exact h
  | bad => exact h
/-- a loop by its turns -/
theorem forD_wp {g : FG} {b : FS} (Inv : Nat → Ev → Sto → Prop) : ∀ {ds : List D} {j : Nat} {ρ : Ev} {S : Sto}, Inv j ρ S →
    (∀ i d ρ S, ds[i]? = some d → Inv (j + i) ρ S → wpG (g d ρ S) fun ρ1 S1 => wpS (b ρ1 S1) fun fl s => match fl with
      | .next ρ2 => Inv (j + i + 1) ρ2 s
      | .cont ρ2 => Inv (j + i + 1) ρ2 s
      | .brk ρ2 => R (.next ρ2) s
      | fl => R fl s) →
    (∀ ρ S, Inv (j + ds.length) ρ S → R (.next ρ) S) → wpS (forD g b ds ρ S) R
  | [], j, ρ, S, h, _, e => e ρ S h
  | d :: r, j, ρ, S, h, st, e => by
    have q := st 0 d ρ S rfl h
    unfold forD
    cases eg : g d ρ S with
    | none => rw [eg] at q; exact q
    | some p =>
      obtain ⟨ρ1, S1⟩ := p
      rw [eg] at q
      have q : wpS (b ρ1 S1) _ := q
      show wpS (match b ρ1 S1 with | some (.next ρ2, S2) => forD g b r ρ2 S2 | some (.cont ρ2, S2) => forD g b r ρ2 S2 | some (.brk ρ2, S2) => some (.next ρ2, S2) | o => o) R
      have more : ∀ ρ2 S2, Inv (j + 1) ρ2 S2 → wpS (forD g b r ρ2 S2) R := fun ρ2 S2 hi => forD_wp Inv (ds := r) (j := j + 1) hi (fun i x ρ S hx hi => by
        have q := st (i + 1) x ρ S (by simpa using hx) (by rw [show j + (i + 1) = j + 1 + i by omega]; exact hi)
        rw [show j + (i + 1) + 1 = j + 1 + i + 1 by omega] at q
        exact q) fun ρ S hi => e ρ S (by rw [List.length_cons, show j + (r.length + 1) = j + 1 + r.length by omega]; exact hi)
      cases eb : b ρ1 S1 with
      | none => rw [eb] at q; exact q
      | some p =>
        obtain ⟨fl, S2⟩ := p
        rw [eb] at q
        cases fl with
        | next ρ2 => exact more ρ2 S2 q
        | cont ρ2 => exact more ρ2 S2 q
        | brk ρ2 => exact q
        | ret d => exact q
        | exc x ρ2 => exact q
@[simp] theorem forD_nil {g : FG} {b : FS} : forD g b [] ρ S = some (.next ρ, S) := rfl
def fq (g : FG) (b : FS) (r : List D) (R : Fl → Sto → Prop) : Fl → Sto → Prop := fun fl s => match fl with
  | .next ρ2 => wpS (forD g b r ρ2 s) R
  | .cont ρ2 => wpS (forD g b r ρ2 s) R
  | .brk ρ2 => R (.next ρ2) s
  | .ret d => R (.ret d) s
  | .exc x ρ2 => R (.exc x ρ2) s
section
variable {g : FG} {b : FS} {r : List D}
@[simp] theorem fq_next : fq g b r R (.next ρ) s = wpS (forD g b r ρ s) R := rfl
@[simp] theorem fq_cont : fq g b r R (.cont ρ) s = wpS (forD g b r ρ s) R := rfl
@[simp] theorem fq_brk : fq g b r R (.brk ρ) s = R (.next ρ) s := rfl
@[simp] theorem fq_ret {d : D} : fq g b r R (.ret d) s = R (.ret d) s := rfl
@[simp] theorem fq_exc {x : Exn} : fq g b r R (.exc x ρ) s = R (.exc x ρ) s := rfl
end
@[simp] theorem wpS_forD {g : FG} {b : FS} {d : D} {r : List D} : wpS (forD g b (d :: r) ρ S) R = wpG (g d ρ S) fun ρ1 S1 => wpS (b ρ1 S1) (fq g b r R) := by
  conv => lhs; unfold forD
  cases eg : g d ρ S with
  | none => rfl
  | some p =>
    obtain ⟨ρ1, S1⟩ := p
    show wpS (match b ρ1 S1 with | some (.next ρ2, S2) => forD g b r ρ2 S2 | some (.cont ρ2, S2) => forD g b r ρ2 S2 | some (.brk ρ2, S2) => some (.next ρ2, S2) | o => o) R = wpS (b ρ1 S1) _
    cases eb : b ρ1 S1 with
    | none => rfl
    | some p =>
      obtain ⟨fl, S2⟩ := p
      cases fl <;> rfl
/-- a comprehension by its items -/
theorem lcD_wp {g : FG} {t : FT} {e : FE} (Inv : Nat → List PyData → Sto → Prop) {Q : List PyData → Sto → Prop} : ∀ {ds : List D} {j : Nat} {ys : List PyData} {S : Sto}, Inv j ys S →
    (∀ i d ys S, ds[i]? = some d → Inv (j + i) ys S → wpG (g d ρ S) fun ρ1 S1 => wp (t ρ1 S1) (fun c S2 => if c = true then wp (e ρ1 S2) (fun y S3 => ∃ z, y = .p z ∧ Inv (j + i + 1) (ys ++ [z]) S3) X else Inv (j + i + 1) ys S2) X) →
    (∀ zs S, Inv (j + ds.length) (ys ++ zs) S → Q zs S) → wp (lcD g t e ρ ds S) Q X
  | [], j, ys, S, h, _, f => f [] S (by simpa using h)
  | d :: r, j, ys, S, h, st, f => by
    have q := st 0 d ys S rfl h
    unfold lcD
    cases eg : g d ρ S with
    | none => rw [eg] at q; exact q
    | some p =>
      obtain ⟨ρ1, S1⟩ := p
      rw [eg] at q
      have q : wp (t ρ1 S1) _ X := q
      show wp ((t ρ1 S1).bind _) Q X
      cases et : t ρ1 S1 with
      | bad => rw [et] at q; exact q
      | err x s => rw [et] at q; exact q
      | ok c S2 =>
        rw [et] at q
        have more : ∀ (us : List PyData) S3, Inv (j + 1) (ys ++ us) S3 → wp (lcD g t e ρ r S3) (fun zs S4 => Q (us ++ zs) S4) X := fun us S3 hi => lcD_wp Inv (ds := r) (j := j + 1) (ys := ys ++ us) hi (fun i x ys S hx hi => by
          have q := st (i + 1) x ys S (by simpa using hx) (by rw [show j + (i + 1) = j + 1 + i by omega]; exact hi)
          rw [show j + (i + 1) + 1 = j + 1 + i + 1 by omega] at q
          exact q) fun zs S4 hi => f (us ++ zs) S4 (by rw [List.length_cons, show j + (r.length + 1) = j + 1 + r.length by omega, ← List.append_assoc]; exact hi)
        cases c with
        | false => exact by simpa using more [] S2 (by simpa using q)
        | true =>
          have q : wp (e ρ1 S2) (fun y S3 => ∃ z, y = .p z ∧ Inv (j + 1) (ys ++ [z]) S3) X := q
          cases ee : e ρ1 S2 with
          | bad => rw [ee] at q; exact q.elim
          | err x s => rw [ee] at q; simp [ee]; exact q
          | ok y S3 =>
            rw [ee] at q
            obtain ⟨z, rfl, hi⟩ := q
            have m := more [z] S3 hi
            simp only [Out.bind_ok, if_true, ee]
            show wp ((lcD g t e ρ r S3).bind fun zs S4 => Out.ok (z :: zs) S4) Q X
            simpa using m
end
@[simp] theorem tupleM_l {xs : List PyData} {S : Sto} : tupleM [.p (.list xs)] S = .ok (.p (.tuple xs)) S := rfl
@[simp] theorem tupleM_t {xs : List PyData} {S : Sto} : tupleM [.p (.tuple xs)] S = .ok (.p (.tuple xs)) S := rfl
/-- a comprehension each of whose items draws at most so often -/
theorem lcT_wp {cs : List PyData} {i l : Nat} {n c : Int} {g : FG} {e : FE} {ρ : Ev} {ds : List D} {S : Sto} {Q : List PyData → Sto → Prop} {X : Exn → Sto → Prop} (L : Nat) (P : PyData → Prop) (hc : 0 ≤ c) (hl : ds.length ≤ L) (h : Tape cs i l n S)
    (st : ∀ d ∈ ds, ∀ n' S, n ≤ n' → n' + c ≤ n + L * c → Tape cs i l n' S → wpG (g d ρ S) fun ρ1 S1 => wp (e ρ1 S1) (fun y S2 => ∃ z, y = .p z ∧ P z ∧ Tape cs i l (n' + c) S2) X)
    (f : ∀ zs S', zs.length = ds.length → (∀ z ∈ zs, P z) → Tape cs i l (n + L * c) S' → Q zs S') : wp (lcD g tYesD e ρ ds S) Q X := by
  refine lcD_wp (fun j ys S => ys.length = j ∧ (∀ y ∈ ys, P y) ∧ Tape cs i l (n + j * c) S) (j := 0) (ys := []) ⟨rfl, (fun y hy => nomatch hy), by simpa using h⟩ ?_ ?_
  · rintro j d ys S he ⟨h1, h2, h3⟩
    have hj : j < ds.length := (List.getElem?_eq_some_iff.mp he).1
    rw [Nat.zero_add] at h1 h3 ⊢
    have hs : ((j + 1 : Nat) : Int) * c = j * c + c := by rw [show ((j + 1 : Nat) : Int) = (j : Int) + 1 by omega, Int.add_mul, Int.one_mul]
    have hb : ((j + 1 : Nat) : Int) * c ≤ L * c := Int.mul_le_mul_of_nonneg_right (by omega) hc
    have hz : 0 ≤ (j : Int) * c := Int.mul_nonneg (by omega) hc
    have q := st d (List.mem_of_getElem? he) (n + j * c) S (by omega) (by omega) h3
    cases eg : g d ρ S with
    | none => rw [eg] at q; exact q
    | some p =>
      obtain ⟨ρ1, S1⟩ := p
      rw [eg] at q
      have q : wp (e ρ1 S1) _ X := q
      simp only [wpG_some, tYes_, wp_ok, if_true]
      refine wp_mono q (fun y s ⟨z, e1, e2, e3⟩ => ⟨z, e1, by simp [h1], fun y hy => ?_, by rw [hs, ← Int.add_assoc]; exact e3⟩) fun _ _ h => h
      rcases List.mem_append.mp hy with hy | hy
      · exact h2 y hy
      · simp at hy; rw [hy]; exact e2
  · rintro zs S' ⟨h1, h2, h3⟩
    have hb : ((0 + ds.length : Nat) : Int) * c ≤ L * c := Int.mul_le_mul_of_nonneg_right (by omega) hc
    exact f zs S' (by simpa using h1) (by simpa using h2) (h3.mono (by omega))
/-- a comprehension whose items leave the store as it is -/
theorem lcP_wp {g : FG} {e : FE} {ρ : Ev} {ds : List D} {S : Sto} {Q : List PyData → Sto → Prop} {X : Exn → Sto → Prop} (P : PyData → Prop)
    (st : ∀ d ∈ ds, wpG (g d ρ S) fun ρ1 S1 => wp (e ρ1 S1) (fun y S2 => ∃ z, y = .p z ∧ P z ∧ S2 = S) X)
    (f : ∀ zs, zs.length = ds.length → (∀ z ∈ zs, P z) → Q zs S) : wp (lcD g tYesD e ρ ds S) Q X := by
  refine lcD_wp (fun j ys S' => ys.length = j ∧ (∀ y ∈ ys, P y) ∧ S' = S) (j := 0) (ys := []) ⟨rfl, (fun y hy => nomatch hy), rfl⟩ ?_ ?_
  · rintro j d ys S' he ⟨h1, h2, rfl⟩
    have q := st d (List.mem_of_getElem? he)
    cases eg : g d ρ S' with
    | none => rw [eg] at q; exact q
    | some p =>
      obtain ⟨ρ1, S1⟩ := p
      rw [eg] at q
      have q : wp (e ρ1 S1) _ X := q
      simp only [wpG_some, tYes_, wp_ok, if_true]
      refine wp_mono q (fun y s ⟨z, e1, e2, e3⟩ => ⟨z, e1, by simp [h1], fun y hy => ?_, e3⟩) fun _ _ h => h
      rcases List.mem_append.mp hy with hy | hy
      · exact h2 y hy
      · simp at hy; rw [hy]; exact e2
  · rintro zs S' ⟨h1, h2, rfl⟩
    exact f zs (by simpa using h1) (by simpa using h2)
/-- a loop each of whose turns draws at most so often -/
theorem forT_wp {cs : List PyData} {i l : Nat} {n c : Int} {g : FG} {b : FS} {ρ : Ev} {ds : List D} {S : Sto} {R : Fl → Sto → Prop} (L : Nat) (P : Nat → Ev → Prop) (hc : 0 ≤ c) (hl : ds.length ≤ L) (h0 : P 0 ρ) (h : Tape cs i l n S)
    (st : ∀ j d ρ n' S, ds[j]? = some d → P j ρ → n ≤ n' → n' + c ≤ n + L * c → Tape cs i l n' S → wpG (g d ρ S) fun ρ1 S1 => wpS (b ρ1 S1) fun fl s => match fl with
      | .next ρ2 => P (j + 1) ρ2 ∧ Tape cs i l (n' + c) s
      | .cont ρ2 => P (j + 1) ρ2 ∧ Tape cs i l (n' + c) s
      | .brk ρ2 => R (.next ρ2) s
      | fl => R fl s)
    (f : ∀ ρ S, P ds.length ρ → Tape cs i l (n + L * c) S → R (.next ρ) S) : wpS (forD g b ds ρ S) R := by
  refine forD_wp (fun j ρ S => P j ρ ∧ Tape cs i l (n + j * c) S) (j := 0) ⟨h0, by simpa using h⟩ ?_ ?_
  · rintro j d ρ S he ⟨h1, h3⟩
    have hj : j < ds.length := (List.getElem?_eq_some_iff.mp he).1
    rw [Nat.zero_add] at h1 h3 ⊢
    have hs : ((j + 1 : Nat) : Int) * c = j * c + c := by rw [show ((j + 1 : Nat) : Int) = (j : Int) + 1 by omega, Int.add_mul, Int.one_mul]
    have hb : ((j + 1 : Nat) : Int) * c ≤ L * c := Int.mul_le_mul_of_nonneg_right (by omega) hc
    have hz : 0 ≤ (j : Int) * c := Int.mul_nonneg (by omega) hc
    rw [hs, ← Int.add_assoc]
    exact st j d ρ (n + j * c) S he h1 (by omega) (by omega) h3
  · rintro ρ S ⟨h1, h3⟩
    have hb : ((0 + ds.length : Nat) : Int) * c ≤ L * c := Int.mul_le_mul_of_nonneg_right (by omega) hc
    exact f ρ S (by simpa using h1) (h3.mono (by omega))
/-- the tape's draws and picks, forward -/
theorem draw2_wp {c : DrC} (hc0 : c.ok) {cs : List PyData} {i L : Nat} {n m : Int} {S : Sto} {Q : D → Sto → Prop} {X : Exn → Sto → Prop} (hc : Cells cs) (h : Tape cs i L n S) (hn : n ≤ 1000000000000) (hm : 0 < m) (hm2 : m.natAbs.log2 < 9000)
    (q : ∀ g S', 0 ≤ g → g < m → Tape cs i L (n + 1) S' → Q (.p (.int g)) S') : wp (cutD S.length (runF 6 (drawB2 c) [.ob i, .p (.int m)] S)) Q X := by
  obtain ⟨g, S', e, a, b, c⟩ := draw2_ok hc0 hc h hn hm hm2
  rw [e, cut_same (c.1.trans h.1.symm)]
  exact q g S' a b c
theorem pick2_wp {c : DrC} (hc0 : c.ok) {cs : List PyData} {i L : Nat} {n : Int} {S : Sto} {xs : List PyData} {Q : D → Sto → Prop} {X : Exn → Sto → Prop} (hc : Cells cs) (h : Tape cs i L n S) (hn : n ≤ 1000000000000) (hx : xs ≠ []) (hx2 : xs.length < 1000000)
    (q : ∀ d S', d ∈ xs → Tape cs i L (n + 1) S' → Q (.p d) S') : wp (cutD S.length (runF 2 (pickB (runF 6 (drawB2 c))) [.ob i, .p (.list xs)] S)) Q X := by
  obtain ⟨d, S', e, a, c⟩ := pick2_ok hc0 hc h hn hx hx2
  rw [e, cut_same (c.1.trans h.1.symm)]
  exact q d S' a c
end DL

namespace DL
open PySem L2 PySem.Spec PyProof.Rows

def eBad : FE := fun _ _ => .bad
def sBad : FS := fun _ _ => none
theorem de_bad {X : Cx} {W : WX} {e : Expr} : DE X W e eBad := ⟨⟨fun _ _ _ _ _ _ ⟨_, _, _, _, _, q⟩ => q.elim⟩⟩
theorem ds_bad {X : Cx} {W : WX} {st : Stmt} : DS X W st sBad := ⟨⟨fun _ _ _ _ _ _ ⟨_, _, _, _, _, q⟩ => q.elim⟩⟩

def eqKv (ka kb : List (Key × PyData)) : Bool := ka.length == kb.length && ka.all fun p => match valD kb p.1 with
  | some y => PyData.eqv p.2 y
  | none => false
def shKv (ka : List (Key × PyData)) : Bool := ka.all fun p => SeqAt.shaped p.2
def opEqZ (neg : Bool) : D → D → M D := fun x y S => match dicOf S x, dicOf S y with
  | some ka, some kb => if shKv ka && shKv kb then .ok (.p (.bool (if neg then !eqKv ka kb else eqKv ka kb))) S else .bad
  | _, _ => opEqX neg x y S
def DpKv (K : PySem.W.Frag) (H : Hp) (ka : List (Key × PyData)) (wa : List (Key × V)) : Prop := ka.map (·.1) = wa.map (·.1) ∧ DpAll K H (wa.map (·.2)) (ka.map (·.2)) ∧ shKv ka = true
def rEqKv (K : PySem.W.Frag) (neg : Bool) : R2 := fun x y H Q => ∃ a b ka kb wa wb, x = .ref a ∧ y = .ref b ∧ H a = some (.dK wa) ∧ H b = some (.dK wb) ∧ DpKv K H ka wa ∧ DpKv K H kb wb ∧ Q (.bl (if neg then !eqKv ka kb else eqKv ka kb)) H
theorem DpKv.inv {K : PySem.W.Frag} {H : Hp} {p : Key × PyData} {ka : List (Key × PyData)} {l : List (Key × V)} (r : DpKv K H (p :: ka) l) : ∃ v wa, l = (p.1, v) :: wa ∧ Dp K H v p.2 ∧ SeqAt.shaped p.2 = true ∧ DpKv K H ka wa := by
  obtain ⟨e, t, s⟩ := r
  cases l with
  | nil => simp at e
  | cons q wa =>
    simp only [List.map_cons, List.cons.injEq] at e
    simp only [shKv, List.all_cons, Bool.and_eq_true] at s
    cases t with
    | cons h t => exact ⟨q.2, wa, by rw [e.1], h, s.1, e.2, t, s.2⟩
theorem DpKv.val {K : PySem.W.Frag} {H : Hp} {k : Key} : ∀ {ka : List (Key × PyData)} {wa : List (Key × V)}, DpKv K H ka wa → (∀ d, valD ka k = some d → ∃ v, valV wa k = some v ∧ Dp K H v d ∧ SeqAt.shaped d = true) ∧ (valD ka k = none → valV wa k = none)
  | [], wa, r => by
    have : wa = [] := by have := r.1; simpa using this
    subst this
    exact ⟨fun d e => (by cases e), fun _ => rfl⟩
  | p :: ka, _, r => by
    obtain ⟨v, ws, rfl, h, sh, t⟩ := r.inv
    have ih := DpKv.val (k := k) t
    by_cases e : p.1 = k
    · have e1 : valD (p :: ka) k = some p.2 := by simp [valD, List.find?_cons, e]
      have e2 : valV ((p.1, v) :: ws) k = some v := by simp [valV, List.find?_cons, e]
      rw [e1, e2]
      exact ⟨fun d q => by cases q; exact ⟨v, rfl, h, sh⟩, fun q => by cases q⟩
    · have e1 : valD (p :: ka) k = valD ka k := by simp [valD, List.find?_cons, e]
      have e2 : valV ((p.1, v) :: ws) k = valV ws k := by simp [valV, List.find?_cons, e]
      rw [e1, e2]
      exact ih
section
variable {X : Cx}
theorem hits_kv {pins : List (Addr × Obj)} {σ : L2.St} {H : Hp} {s : Shared} {A : Around} (I : L2.Inv X pins σ H s) (hu : A.in1.units + 64 < cLine) {kb : List (Key × PyData)} {wb : List (Key × V)} {vb : List (Key × Value)} (rb : KV wb vb) (db : DpKv X.K H kb wb) :
    ∀ {ka : List (Key × PyData)} {wa : List (Key × V)} {va : List (Key × Value)}, KV wa va → DpKv X.K H ka wa → PySem.W.KeqHits A.in1 s vb va (ka.all fun p => match valD kb p.1 with | some y => PyData.eqv p.2 y | none => false)
  | [], wa, va, ra, da => by
    have : wa = [] := by have := da.1; simpa using this
    subst this
    cases ra
    exact .nil
  | p :: ka, _, va, ra, da => by
    obtain ⟨v, wa, rfl, h, sh, t⟩ := da.inv
    cases ra with
    | @cons _ q _ qs h1 t1 =>
      obtain ⟨k, u⟩ := q
      obtain ⟨hk, hr⟩ := h1
      have hk : p.1 = k := hk
      subst hk
      have ih := hits_kv I hu rb db t1 t
      rw [List.all_cons]
      cases e : valD kb p.1 with
      | none =>
        have z : L2.RelO (valV wb p.1) (valueAt vb p.1) := rb.val p.1
        rw [(db.val (k := p.1)).2 e] at z
        have z' : valueAt vb p.1 = none := by cases hz : valueAt vb p.1 with | none => rfl | some y => rw [hz] at z; exact z.elim
        exact .miss z'
      | some d =>
        obtain ⟨y, ey, dy, sy⟩ := (db.val (k := p.1)).1 d e
        have z : L2.RelO (valV wb p.1) (valueAt vb p.1) := rb.val p.1
        rw [ey] at z
        obtain ⟨yv, hy, ry⟩ := z.some_of
        obtain ⟨as, r1⟩ := Dp.reads I p.2 v u h hr
        obtain ⟨bs, r2⟩ := Dp.reads I d y yv dy ry
        exact .hit hy (PySem.W.keq_at r1 r2 sh sy hu) ih
theorem op_eqKv (hu : X.A.units + 65 < cLine) : OpR X (compareOp .Eq) (rEqKv X.K false) := by
  intro pins s σ H x y v u Q I rx ry h
  obtain ⟨a, b, ka, kb, wa, wb, rfl, rfl, ea, eb, da, db, q⟩ := h
  obtain rfl : v = Value.ref a := rx
  obtain rfl : u = Value.ref b := ry
  obtain ⟨_, ya, va, ra, dda⟩ := (show ObjOk X.prog X.w H s.heap a (.dK wa) from I.hok a _ ea)
  obtain ⟨_, yb, vb, rb, ddb⟩ := (show ObjOk X.prog X.w H s.heap b (.dK wb) from I.hok b _ eb)
  have l1 : ka.length = va.length := by rw [← ra.length]; have := congrArg List.length da.1; simpa using this
  have l2 : kb.length = vb.length := by rw [← rb.length]; have := congrArg List.length db.1; simpa using this
  refine PySem.W.keq_eq (knd := mixKind X.prog X.w) ya yb dda ddb (by omega) (fun _ => hits_kv I (by show X.A.units + 1 + 64 < cLine; omega) rb db ra da) ⟨.bl _, H, I, rfl, ?_⟩
  rw [← l1, ← l2]
  exact q
theorem op_neKv (hu : X.A.units + 65 < cLine) : OpR X (compareOp .NotEq) (rEqKv X.K true) := by
  intro pins s σ H x y v u Q I rx ry h
  obtain ⟨a, b, ka, kb, wa, wb, rfl, rfl, ea, eb, da, db, q⟩ := h
  obtain rfl : v = Value.ref a := rx
  obtain rfl : u = Value.ref b := ry
  obtain ⟨_, ya, va, ra, dda⟩ := (show ObjOk X.prog X.w H s.heap a (.dK wa) from I.hok a _ ea)
  obtain ⟨_, yb, vb, rb, ddb⟩ := (show ObjOk X.prog X.w H s.heap b (.dK wb) from I.hok b _ eb)
  have l1 : ka.length = va.length := by rw [← ra.length]; have := congrArg List.length da.1; simpa using this
  have l2 : kb.length = vb.length := by rw [← rb.length]; have := congrArg List.length db.1; simpa using this
  refine PySem.W.keq_ne (knd := mixKind X.prog X.w) ya yb dda ddb (by omega) (fun _ => hits_kv I (by show X.A.units + 1 + 64 < cLine; omega) rb db ra da) ⟨.bl _, H, I, rfl, ?_⟩
  rw [← l1, ← l2]
  exact q
end
theorem shKv_lay : ∀ {ka : List (Key × PyData)}, shKv ka = true → PyData.canLayAll0 (ka.map (·.2)) = true
  | [], _ => rfl
  | p :: ka, h => by
    simp only [shKv, List.all_cons, Bool.and_eq_true] at h
    show (PyData.canLay0 p.2 && PyData.canLayAll0 (ka.map (·.2))) = true
    rw [SeqAt.canLay_of_shaped h.1, shKv_lay (ka := ka) h.2]
    rfl
theorem dpKv_of {K : PySem.W.Frag} {H : Hp} {G : Gh} {S : Sto} (rp : Rep K H G S) {ka : List (Key × PyData)} {wa : List (Key × V)} (r : KvR K G.φ H ka wa) (sh : shKv ka = true) : DpKv K H ka wa :=
  ⟨r.ks, DnAll.dp (fun _ => True) rp.phi (shKv_lay sh) r.vs, sh⟩
def rEqZ (K : PySem.W.Frag) : R2 := fun x y H Q => rEqX K x y H Q ∨ rEqKv K false x y H Q
def rNeZ (K : PySem.W.Frag) : R2 := fun x y H Q => rNeX K x y H Q ∨ rEqKv K true x y H Q
theorem sim_eqZ {K : PySem.W.Frag} : Sim2 K (rEqZ K) (opEqZ false) := by
  intro W σ H G S x y v w Q rp dx dy q
  unfold opEqZ at q
  split at q
  · rename_i ka kb e1 e2
    by_cases c : (shKv ka && shKv kb) = true
    · rw [if_pos c] at q
      rw [Bool.and_eq_true] at c
      obtain ⟨a, wa, rfl, ha, ra⟩ := dicOf_den rp e1 dx
      obtain ⟨b, wb, rfl, hb, rb⟩ := dicOf_den rp e2 dy
      exact .inr ⟨a, b, ka, kb, wa, wb, rfl, rfl, ha, hb, dpKv_of rp ra c.1, dpKv_of rp rb c.2, q.ret rp (.bl _)⟩
    · rw [if_neg c] at q; exact q.elim
  · exact .inl (sim_eqX W σ H G S x y v w Q rp dx dy q)
theorem sim_neZ {K : PySem.W.Frag} : Sim2 K (rNeZ K) (opEqZ true) := by
  intro W σ H G S x y v w Q rp dx dy q
  unfold opEqZ at q
  split at q
  · rename_i ka kb e1 e2
    by_cases c : (shKv ka && shKv kb) = true
    · rw [if_pos c] at q
      rw [Bool.and_eq_true] at c
      obtain ⟨a, wa, rfl, ha, ra⟩ := dicOf_den rp e1 dx
      obtain ⟨b, wb, rfl, hb, rb⟩ := dicOf_den rp e2 dy
      exact .inr ⟨a, b, ka, kb, wa, wb, rfl, rfl, ha, hb, dpKv_of rp ra c.1, dpKv_of rp rb c.2, q.ret rp (.bl _)⟩
    · rw [if_neg c] at q; exact q.elim
  · exact .inl (sim_neX W σ H G S x y v w Q rp dx dy q)
section
variable {X : Cx} {W : WX} {a b : Expr} {f h : FE} {pos : Pos}
theorem op_eqZ (hu : X.A.units + 65 < cLine) : OpR X (compareOp .Eq) (rEqZ X.K) := by
  intro pins s σ H x y v u Q I rx ry h
  rcases h with h | h
  · exact op_eqX (by omega) pins s σ H x y v u Q I rx ry h
  · exact op_eqKv hu pins s σ H x y v u Q I rx ry h
theorem op_neZ (hu : X.A.units + 65 < cLine) : OpR X (compareOp .NotEq) (rNeZ X.K) := by
  intro pins s σ H x y v u Q I rx ry h
  rcases h with h | h
  · exact op_neX (by omega) pins s σ H x y v u Q I rx ry h
  · exact op_neKv hu pins s σ H x y v u Q I rx ry h
theorem de_eqZ (hu : X.A.units + 65 < cLine) (ha : DE X W a f) (hb : DE X W b h) : DE X W (.Compare a [.Eq] [b] pos) (e2 (opEqZ false) f h) := de_cmp (op_eqZ hu) sim_eqZ ha hb (nomark _)
theorem de_neZ (hu : X.A.units + 65 < cLine) (ha : DE X W a f) (hb : DE X W b h) : DE X W (.Compare a [.NotEq] [b] pos) (e2 (opEqZ true) f h) := de_cmp (op_neZ hu) sim_neZ ha hb (nomark _)
theorem dt_eqZ (hu : X.A.units + 65 < cLine) (ha : DE X W a f) (hb : DE X W b h) : DT X W (.Compare a [.Eq] [b] pos) (tC2 (opEqZ false) f h) := dt_cmp (op_eqZ hu) sim_eqZ ha hb (nomark _)
theorem dt_neZ (hu : X.A.units + 65 < cLine) (ha : DE X W a f) (hb : DE X W b h) : DT X W (.Compare a [.NotEq] [b] pos) (tC2 (opEqZ true) f h) := dt_cmp (op_neZ hu) sim_neZ ha hb (nomark _)
end
end DL

namespace DL
open PySem L2 PySem.Spec PyProof.Rows

structure FnX (P : Program) (w : World) (K : PySem.W.Frag) (mg : Str → Option Value) (base : Heap) (k : Nat) (f : Addr) (fd : FuncData) (ps : List Str) (sp : Sp) : Prop where
  len : ∀ vs H Q E, sp vs H Q E → vs.length = ps.length
  run : ∀ (A : Around) (outer : List Env) (s : Shared) (H : Hp) (args : Args) (us : List Value) (vs : List V) (Q : VK) (E : XK), Room k A → A.guards = some [] → Env0 P w K mg base A outer s H → BindsTo s fd args (ps.zip us) → Vals vs us → sp vs H Q E →
    codeAny (model P w) A (.call (.ref f) args) (CR (L2.CX P w) outer P w H s Q E) s
/-- .. called by position -/
structure FnP (P : Program) (w : World) (K : PySem.W.Frag) (mg : Str → Option Value) (base : Heap) (k : Nat) (f : Addr) (sp : Sp) : Prop where
  run : ∀ (A : Around) (outer : List Env) (s : Shared) (H : Hp) (us : List Value) (vs : List V) (Q : VK) (E : XK), Room k A → A.guards = some [] → Env0 P w K mg base A outer s H → Vals vs us → sp vs H Q E →
    codeAny (model P w) A (.call (.ref f) ⟨us, []⟩) (CR (L2.CX P w) outer P w H s Q E) s
theorem FnX.toP {P : Program} {w : World} {K : PySem.W.Frag} {mg : Str → Option Value} {base : Heap} {k : Nat} {f : Addr} {fd : FuncData} {ps : List Str} {sp : Sp} (F : FnX P w K mg base k f fd ps sp) (hb : Binds K fd ps []) : FnP P w K mg base k f sp := by
  refine ⟨fun A outer s H us vs Q E hr hgd e0 r h => ?_⟩
  have hl : us.length = ps.length := by rw [← r.length]; exact F.len _ _ _ _ h
  have KX : K.In s.heap := e0.mod.kin.keeps fun b o e => (e0.bs b o e).1
  have hbs := hb s us KX (by simpa using hl)
  rw [List.append_nil] at hbs
  exact F.run A outer s H ⟨us, []⟩ us vs Q E hr hgd e0 hbs r h
theorem fnX_of {P : Program} {w : World} {K : PySem.W.Frag} {mg : Str → Option Value} {base : Heap} {x qual : Str} {st : Stmt} {f : Addr} {fd : FuncData} {N ps : List Str} {k : Nat} {sp : Sp} (F : Fun K x qual st f fd) (Sc : FnScope N ps (defScope st)) (len : ∀ vs H Q E, sp vs H Q E → vs.length = ps.length)
    (hbody : ∀ (cdv : Value) (A : Around) (outer : List Env) (s : Shared) (H : Hp) (vs : List V) (Q : VK) (E : XK), Room k (A.deeper (envOfC qual (defScope st) s.heap.objs.size f cdv)) → A.guards = some [] → sp vs H Q E →
      ∃ t, PSs (cxOf (L2.CX P w) P w K mg base N qual (defScope st) f cdv A outer s H E) (defBody st) t ∧ t { nx := fun _ H' => Q .non H', rt := Q } (start N vs) H) : FnX P w K mg base (k + 1) f fd ps sp := by
  obtain ⟨oc, od, kV, doc, pm, an, cdv, ct, osl, rfl, lk, hcd⟩ := F.ex
  refine ⟨len, fun A outer s H args us vs Q E hr hgd e0 hb r hsp => ?_⟩
  have hl := len _ _ _ _ hsp
  have keepB : ∀ b o, base.get? b = some o → s.heap.get? b = some o := fun b o e => (e0.bs b o e).1
  have KX : K.In s.heap := e0.mod.kin.keeps keepB
  have lim : s.heap.NoLimit := e0.mod.nolimit.keeps keepB
  obtain ⟨t, ht, hq⟩ := hbody cdv A outer s H vs Q E (hr.deeper _) hgd hsp
  refine codeAny_call_function hr.depth (KX _ _ lk) rfl Sc.co Sc.gen rfl (PySem.W.codeRec_of KX hcd) (hb _ _ _ _ ?_)
  refine wpAny_newFunctionEnv_cells Sc.kind (fun y hy => ?_) fun env he s1 xx => ?_
  · obtain ⟨n, v⟩ := y
    rcases Sc.par n (List.of_mem_zip hy).1 with q | q
    · exact .inl q
    · exact .inr ⟨q, PySem.W.cellsFrom_some _ _ _ (.inl q)⟩
  subst he
  refine ⟨lim.keeps xx.toInCall.keep, codeAny_func ?_⟩
  have I := inv_start (CX := L2.CX P w) (E := E) Sc hr.hd e0 hl r xx
  refine wpAny_mono (ht.run [] s1 (start N vs) H _ I hq) (fun fl s' hs => ?_) fun e s' hs => hs
  cases fl with
  | ret u =>
    obtain ⟨v, σ', H', J, rv, q⟩ := hs
    exact ⟨v, H', J.os, J.bare, J.base, J.hok, rv, q⟩
  | next =>
    obtain ⟨σ', H', J, q⟩ := hs
    exact ⟨.non, H', J.os, J.bare, J.base, J.hok, rfl, q⟩
  | brk =>
    obtain ⟨_, _, _, q⟩ := hs
    exact False.elim q
  | cont =>
    obtain ⟨_, _, _, q⟩ := hs
    exact False.elim q

/-- the later objects are forgotten when a def is left -/
def cutX (n : Nat) : Out D → Out D
  | .ok (.ob i) s => if i < n then .ok (.ob i) (s.take n) else .ok (.ob i) s
  | .ok d s => .ok d (s.take n)
  | .err x s => .err x (s.take n)
  | .bad => .bad
abbrev WE (E : XK) : WX := fun c d _ H => E c d H
def spX (K : PySem.W.Frag) (n : Nat) (g : List D → M D) : Sp := fun vs H Q E => ∃ G S ds, ds.length = n ∧ DenL K H G ds vs ∧ Rep K H G S ∧ Aft K (WE E) [] H G S (cutX S.length (g ds S)) (QD K Q)
def spV (K : PySem.W.Frag) (g : List D → M D) : Sp := fun vs H Q E => ∃ G S ds, DenL K H G ds vs ∧ Rep K H G S ∧ Aft K (WE E) [] H G S (cutX S.length (g ds S)) (QD K Q)
theorem exn_cut {K : PySem.W.Frag} {H : Hp} {G : Gh} {n : Nat} {x : Exn} {d : Option Addr} (h : ExnAt K H G x d) : ExnAt K H ⟨G.ι.take n, G.φ⟩ x d := h
theorem Aft.uncutX {K : PySem.W.Frag} {W : WX} {H : Hp} {G : Gh} {S S' : Sto} {d : D} {Q : VK} (rp : Rep K H G S) (q : Aft K W [] H G S (cutX S.length (.ok d S')) (QD K Q)) {H' : Hp} {G' : Gh} {v : V} (x : Ext H G S H' G' S') (r : Rep K H' G' S') (dv : Den K H' G' d v) : Q v H' := by
  have fin : (∀ i, d = .ob i → i < S.length) → Aft K W [] H G S (.ok d (S'.take S.length)) (QD K Q) → Q v H' := fun hi q => q H' _ (x.cut rp) (r.cut _) v (den_cut dv hi)
  cases d with
  | p y => exact fin (fun i e => nomatch e) q
  | ro y => exact fin (fun i e => nomatch e) q
  | ext y => exact fin (fun i e => nomatch e) q
  | ob i =>
    by_cases hi : i < S.length
    · have q : Aft K W [] H G S (if i < S.length then .ok (.ob i) (S'.take S.length) else .ok (.ob i) S') (QD K Q) := q
      rw [if_pos hi] at q
      exact fin (fun j e => by cases e; exact hi) q
    · have q : Aft K W [] H G S (if i < S.length then .ok (.ob i) (S'.take S.length) else .ok (.ob i) S') (QD K Q) := q
      rw [if_neg hi] at q
      exact q H' G' x r v dv
/-- what stands behind a body, from what is wanted of the def -/
theorem body_read {K : PySem.W.Frag} {H : Hp} {G : Gh} {S : Sto} {Q : VK} {E : XK} {m : Nat} {ds : List D} {body : FS} (rp : Rep K H G S) (q : Aft K (WE E) [] H G S (cutX S.length (runF m body ds S)) (QD K Q)) :
    AftS K (WE E) { nx := fun _ H' => Q .non H', rt := Q } H G S (body (ds.map some ++ List.replicate (m - ds.length) none) S) := by
  unfold runF at q
  cases eo : body (ds.map some ++ List.replicate (m - ds.length) none) S with
  | none => rw [eo] at q; exact q
  | some pr =>
    obtain ⟨fl, S'⟩ := pr
    rw [eo] at q
    cases fl with
    | ret d => exact fun H' G' v x r dv => Aft.uncutX rp q x r dv
    | next ρ' => exact fun H' G' σ' x r rs => Aft.uncutX (d := .p .none) rp q x r .non
    | brk ρ' => exact q.elim
    | cont ρ' => exact q.elim
    | exc y ρ' => exact fun H' G' σ' d x r rs e => q H' ⟨G'.ι.take S.length, G'.φ⟩ d (x.cut rp) (r.cut _) (exn_cut e)
/-- the things a body's derivation may use -/
structure Ctx (X : Cx) (W : WX) (k : Nat) : Prop where
  hr : Room k X.A
  hgd : X.A.guards = some []
  tk : Takes X W
theorem Ctx.blk {X : Cx} {W : WX} {k : Nat} (C : Ctx X W k) {s : Shared} {H : Hp} {sc : Scope} {env : Env} {fp : List Addr} : Ctx (X.blk s H sc env fp) W0 k := ⟨C.hr, C.hgd, takes0⟩
theorem Ctx.u1 {X : Cx} {W : WX} {k : Nat} (C : Ctx X W k) : X.A.units + 1 < cLine := hu_of C.hr
theorem Ctx.u64 {X : Cx} {W : WX} {k : Nat} (C : Ctx X W k) : X.A.units + 64 < cLine := C.hr.units
theorem Ctx.u65 {X : Cx} {W : WX} {k : Nat} (C : Ctx X W k) : X.A.units + 65 < cLine := hu65 C.hr
/-- a loop lets exceptions on -/
abbrev Po (X : Cx) : Prop := PassesOwn (model X.prog X.w) X.A X.env X.xe
theorem fnX_data {P : Program} {w : World} {K : PySem.W.Frag} {mg : Str → Option Value} {base : Heap} {x qual : Str} {st : Stmt} {f : Addr} {fd : FuncData} {N ps : List Str} {k m n : Nat} (F : Fun K x qual st f fd) (Sc : FnScope N ps (defScope st)) (hm : N.length = m) (hn : ps.length = n) (body : FS)
    (hb : ∀ (cdv : Value) (A : Around) (outer : List Env) (s : Shared) (H : Hp) (E : XK), Ctx (cxOf (L2.CX P w) P w K mg base N qual (defScope st) f cdv A outer s H E) (WE E) k → Po (cxOf (L2.CX P w) P w K mg base N qual (defScope st) f cdv A outer s H E) → DSs (cxOf (L2.CX P w) P w K mg base N qual (defScope st) f cdv A outer s H E) (WE E) (defBody st) body) :
    FnX P w K mg base (k + 1) f fd ps (spX K n (runF m body)) := by
  subst hm hn
  refine fnX_of F Sc (fun vs H Q E ⟨G, S, ds, hl, dl, _⟩ => by rw [← dl.length]; exact hl) fun cdv A outer s H vs Q E hr hgd ⟨G, S, ds, hl, dl, rp, q⟩ => ?_
  refine ⟨_, (hb cdv A outer s H E ⟨hr, hgd, takes_of rfl rfl rfl rfl⟩ (passes_of rfl)).run, G, S, ds.map some ++ List.replicate (N.length - ds.length) none, ?_, rp, body_read rp q⟩
  rw [dl.length]
  exact RelS.ofArgs (N.length - vs.length) dl
theorem fnX_none {P : Program} {w : World} {K : PySem.W.Frag} {mg : Str → Option Value} {base : Heap} {f : Addr} {fd : FuncData} {ps : List Str} {k n : Nat} : FnX P w K mg base k f fd ps (spX K n fun _ _ => .bad) :=
  ⟨fun vs H Q E ⟨_, _, _, _, _, _, q⟩ => q.elim, fun _ _ _ _ _ _ _ _ _ _ _ _ _ _ ⟨_, _, _, _, _, _, q⟩ => q.elim⟩
theorem fnP_none {P : Program} {w : World} {K : PySem.W.Frag} {mg : Str → Option Value} {base : Heap} {f : Addr} {k : Nat} : FnP P w K mg base k f (spV K fun _ _ => .bad) :=
  ⟨fun _ _ _ _ _ _ _ _ _ _ _ _ ⟨_, _, _, _, _, q⟩ => q.elim⟩

theorem Aft.from {α : Type} {K : PySem.W.Frag} {W : WX} {σ : L2.St} {H H1 : Hp} {G G1 : Gh} {S S1 : Sto} {o : Out α} {P : α → Hp → Gh → Sto → Prop} (q : Aft K W σ H G S o P) (x : Ext H G S H1 G1 S1) : Aft K W σ H1 G1 S1 o P := by
  cases o with
  | ok a S' => exact fun H' G' x' r => q H' G' (x.trans x') r
  | err y S' => exact fun H' G' d x' r e => q H' G' d (x.trans x') r e
  | bad => exact q
theorem denL_app {K : PySem.W.Frag} {H : Hp} {G : Gh} : ∀ {ds es : List D} {vs us : List V}, DenL K H G ds vs → DenL K H G es us → DenL K H G (ds ++ es) (vs ++ us)
  | _, _, _, _, .nil, s => s
  | _, _, _, _, .cons r t, s => .cons r (denL_app t s)

def runV (n m : Nat) (body : FS) : List D → M D := fun ds S => if n ≤ ds.length ∧ ds.length ≤ LIM then (match pys (ds.drop n) with
  | some xs => runF m body (ds.take n ++ [.p (.tuple xs)]) S
  | none => .bad) else .bad
theorem denL_take {K : PySem.W.Frag} {H : Hp} {G : Gh} : ∀ {ds : List D} {vs : List V} (n : Nat), DenL K H G ds vs → DenL K H G (ds.take n) (vs.take n) ∧ DenL K H G (ds.drop n) (vs.drop n)
  | _, _, 0, h => ⟨.nil, h⟩
  | _, _, _ + 1, .nil => ⟨.nil, .nil⟩
  | _, _, n + 1, .cons a t => ⟨.cons a (denL_take n t).1, (denL_take n t).2⟩
theorem fnP_star {P : Program} {w : World} {K : PySem.W.Frag} {mg : Str → Option Value} {base : Heap} {x qual : Str} {st : Stmt} {f : Addr} {fd : FuncData} {N ps : List Str} {pv : Str} {k m n : Nat} (F : Fun K x qual st f fd) (Sc : FnScope N (ps ++ [pv]) (defScope st)) (hm : N.length = m) (hn : ps.length = n) (body : FS)
    (hbd : ∀ us rest : List Value, us.length = ps.length → bindArgs fd ⟨us ++ rest, []⟩ = (newTuple rest >>= fun t => pure (ps.zip us ++ [(pv, t)])))
    (hb : ∀ (cdv : Value) (A : Around) (outer : List Env) (s : Shared) (H : Hp) (E : XK), Ctx (cxOf (L2.CX P w) P w K mg base N qual (defScope st) f cdv A outer s H E) (WE E) k → Po (cxOf (L2.CX P w) P w K mg base N qual (defScope st) f cdv A outer s H E) → DSs (cxOf (L2.CX P w) P w K mg base N qual (defScope st) f cdv A outer s H E) (WE E) (defBody st) body) :
    FnP P w K mg base (k + 1) f (spV K (runV n m body)) := by
  subst hm hn
  obtain ⟨oc, od, kV, doc, pm, an, cdv, ct, osl, rfl, lk, hcd⟩ := F.ex
  refine ⟨fun A outer s H us vs Q E hr hgd e0 r hsp => ?_⟩
  obtain ⟨G, S, ds, dl, rp, q⟩ := hsp
  unfold runV at q
  by_cases hlen : ps.length ≤ ds.length ∧ ds.length ≤ LIM
  · rw [if_pos hlen] at q
    cases ep : pys (ds.drop ps.length) with
    | none => rw [ep] at q; exact q.elim
    | some xs =>
      rw [ep] at q
      obtain ⟨d1, d2⟩ := denL_take ps.length dl
      have hlv : vs.length = ds.length := dl.length.symm
      have hw : (vs.take ps.length).length = ps.length := by rw [List.length_take, hlv]; omega
      rw [← List.take_append_drop ps.length vs] at r
      obtain ⟨u1, u2, eu, r1, r2⟩ := StX.vals_split r
      subst eu
      have hn0 : H s.heap.objs.size = Option.none := e0.hok.fresh (Nat.le_refl _)
      have hl1 : u1.length = ps.length := by rw [← r1.length]; exact hw
      have hz : (vs.drop ps.length).length ≤ sizeLine := by
        rw [List.length_drop, hlv]
        exact Nat.le_trans (Nat.sub_le _ _) (Nat.le_trans hlen.2 LIM_le)
      have hl2 : u2.length ≤ sizeLine := by rw [← r2.length]; exact hz
      refine StX.run_bnd lk hcd Sc hr e0 (G := fun zs H2 => ∃ p, H p = Option.none ∧ zs = vs.take ps.length ++ [V.ref p] ∧ H2 = upd H p (.tup (vs.drop ps.length))) (fun A' Ex Q' h => ?_) fun s2 H2 zs ⟨p, hp, ex, eH⟩ hr' => ?_
      · rw [hbd u1 u2 hl1]
        refine wpAny_bind (wpAny_newTuple (wpAny_pure ?_) hl2)
        have new : ObjOk P w (upd H s.heap.objs.size (.tup (vs.drop ps.length))) (s.heap.push ({ cls := .type "tuple", data := .seq u2.toArray } : Obj)) s.heap.objs.size (.tup (vs.drop ps.length)) := ⟨hz, u2, r2, ⟨_, Heap.get?_push_size _ rfl, rfl, _, rfl⟩⟩
        have un := StX.un_laid (fs := frs outer) (s := s) (o := ({ cls := .type "tuple", data := .seq u2.toArray } : Obj)) (u := .tup (vs.drop ps.length)) hn0
        have z := h _ _ (vs.take ps.length ++ [V.ref s.heap.objs.size]) (u1 ++ [Value.ref s.heap.objs.size]) (StX.env0_laid e0 new) un rfl (fun e s' => StX.cxUp outer s H _ _ E e s' un (fun b o q => Heap.get?_push_of_some _ q) rfl) (r1.append (.cons rfl .nil))
          (by rw [List.length_append, List.length_append, hw] <;> rfl) ⟨_, hn0, rfl, rfl⟩
        rw [List.zip_append hl1.symm] at z
        exact z
      · subst ex eH
        have x2 : Ext H G S (upd H p (.tup (vs.drop ps.length))) G S := Ext.other rp hp
        have r2' : Rep K (upd H p (.tup (vs.drop ps.length))) G S := Rep.other rp hp
        have dt : Den K (upd H p (.tup (vs.drop ps.length))) G (.p (.tuple xs)) (.ref p) := by
          refine Dn.tup (.inl (.inl upd_same)) ?_
          exact x2.dnAll rp (pys_den ep d2)
        have dl2 : DenL K (upd H p (.tup (vs.drop ps.length))) G (ds.take ps.length ++ [.p (.tuple xs)]) (vs.take ps.length ++ [V.ref p]) := denL_app (x2.denL rp d1) (.cons dt .nil)
        have q2 : Aft K (WE E) [] H G S (cutX S.length (runF N.length body (ds.take ps.length ++ [.p (.tuple xs)]) S)) (QD K Q) := q
        refine ⟨_, (hb cdv A outer s2 _ E ⟨hr', hgd, takes_of rfl rfl rfl rfl⟩ (passes_of rfl)).run, G, S, (ds.take ps.length ++ [D.p (.tuple xs)]).map some ++ List.replicate (N.length - (ds.take ps.length ++ [D.p (.tuple xs)]).length) none, ?_, r2', body_read (K := K) r2' (Aft.from q2 x2)⟩
        rw [dl2.length]
        exact RelS.ofArgs _ dl2
  · rw [if_neg hlen] at q; exact q.elim

def eCallX (n : Nat) (g : List D → M D) (fa : FA) : FE := fun ρ S => (fa ρ S).bind fun ds S1 => if ds.length = n then cutX S1.length (g ds S1) else .bad
section
variable {X : Cx} {W : WX} {k n : Nat} {f : Addr} {fd : FuncData} {ps : List Str} {sp : Sp} {x : Str} {p pos : Pos} {e : Expr} {es : List Expr} {fa : FA} {g : List D → M D}
theorem run_fnP {pins : List (Addr × Obj)} {σ : L2.St} {H : Hp} {s : Shared} {Q : VK} {us : List Value} {vs : List V} (F : FnP X.prog X.w X.K X.mg X.base k f sp) (C : Ctx X W k)
    (I : L2.Inv X pins σ H s) (r : Vals vs us) (h : sp vs H Q fun c d H' => W c d σ H') : wpAny (model X.prog X.w) X.A (call (.ref f) us) (EP X pins σ Q) X.xe s := by
  refine wpAny_call (codeAny_mono (F.run X.A X.stack s H us vs Q _ C.hr C.hgd I.env0 r h) fun res s' hq => ?_)
  match res, hq with
  | .error e, hq => exact C.tk e s' (XE.of_call I (fun cls d H' h => h) hq)
  | .ok (.ret u), hq => exact I.after hq
  | .ok .next, hq => exact False.elim hq
  | .ok .brk, hq => exact False.elim hq
  | .ok .cont, hq => exact False.elim hq
theorem callX_read {σ : L2.St} {H : Hp} {Q : VK} (q : rd X.K W (eCallX n g fa) σ H Q) : rdA X.K W fa σ H fun vs H1 => spX X.K n g vs H1 Q fun c d H' => W c d σ H' := by
  obtain ⟨G, S, ρ, rs, rp, q⟩ := q
  refine ⟨G, S, ρ, rs, rp, (Aft.bind q).mono fun ds H1 G1 S1 x1 r1 q1 vs dv => ?_⟩
  by_cases hl : ds.length = n
  · simp only [if_pos hl] at q1
    refine ⟨G1, S1, ds, hl, dv, r1, ?_⟩
    cases eo : cutX S1.length (g ds S1) with
    | ok a S2 => rw [eo] at q1; exact q1
    | err y S2 => rw [eo] at q1; exact q1
    | bad => rw [eo] at q1; exact q1
  · simp only [if_neg hl] at q1; exact q1.elim
theorem spV_of {vs : List V} {H : Hp} {Q : VK} {E : XK} (h : spX X.K n g vs H Q E) : spV X.K g vs H Q E := by
  obtain ⟨G, S, ds, _, a, b, c⟩ := h
  exact ⟨G, S, ds, a, b, c⟩
theorem de_callP (F : FnP X.prog X.w X.K X.mg X.base k f sp) (hsp : ∀ vs H Q E, spX X.K n g vs H Q E → sp vs H Q E) (C : Ctx X W k) (hg : Gl X x) (hm : X.mg x = some (.ref f)) (hk : PySem.W.keepIn X.K (.ref f) = true)
    (ha : DA X W (e :: es) fa) (hdb : (x == ("__debug__" : Str)) = false := by decide) (he : starEach (e :: es) X.env = (false, eval e X.env) :: starEach es X.env := by rfl) (hpl : (backTo pos (starEach es X.env)).any (·.1) = false := by rfl) :
    DE X W (.Call (.Name x p) (e :: es) [] pos) (eCallX n g fa) := by
  refine ⟨⟨fun pins s σ H Q I h => wpAny_Call_Name_kw (ld_glob I hg hm ?_ hdb)⟩⟩
  refine PySem.W.callWith_K (h₀ := X.base) I.ok.mod.kin hk (thn (ha.run.run pos pins s σ H _ I (callX_read h)) fun us s1 ⟨vs, H1, I1, r, q⟩ => ⟨I1.kIn, run_fnP F C I1 r (hsp _ _ _ _ q)⟩) he hpl
theorem de_callP0 (F : FnP X.prog X.w X.K X.mg X.base k f sp) (hsp : ∀ vs H Q E, spX X.K n g vs H Q E → sp vs H Q E) (C : Ctx X W k) (hg : Gl X x) (hm : X.mg x = some (.ref f)) (hk : PySem.W.keepIn X.K (.ref f) = true)
    (hdb : (x == ("__debug__" : Str)) = false := by decide) : DE X W (.Call (.Name x p) [] [] pos) (eCallX n g aNil) := by
  refine ⟨⟨fun pins s σ H Q I h => wpAny_Call_Name_kw (ld_glob I hg hm ?_ hdb)⟩⟩
  obtain ⟨G, S, ρ, rs, rp, q⟩ := callX_read h
  exact PySem.W.callWith_K0 I.kIn hk (run_fnP (us := []) F C I .nil (hsp _ _ _ _ (q H G Ext.refl rp [] .nil)))
/-- a def with parameters only -/
theorem de_callX (F : FnX X.prog X.w X.K X.mg X.base k f fd ps (spX X.K n g)) (C : Ctx X W k) (hg : Gl X x) (hm : X.mg x = some (.ref f)) (hk : PySem.W.keepIn X.K (.ref f) = true) (hb : Binds X.K fd ps [])
    (ha : DA X W (e :: es) fa) (hdb : (x == ("__debug__" : Str)) = false := by decide) (he : starEach (e :: es) X.env = (false, eval e X.env) :: starEach es X.env := by rfl) (hpl : (backTo pos (starEach es X.env)).any (·.1) = false := by rfl) :
    DE X W (.Call (.Name x p) (e :: es) [] pos) (eCallX n g fa) := de_callP (F.toP hb) (fun _ _ _ _ h => h) C hg hm hk ha hdb he hpl
theorem de_callX0 (F : FnX X.prog X.w X.K X.mg X.base k f fd ps (spX X.K n g)) (C : Ctx X W k) (hg : Gl X x) (hm : X.mg x = some (.ref f)) (hk : PySem.W.keepIn X.K (.ref f) = true) (hb : Binds X.K fd ps [])
    (hdb : (x == ("__debug__" : Str)) = false := by decide) : DE X W (.Call (.Name x p) [] [] pos) (eCallX n g aNil) := de_callP0 (F.toP hb) (fun _ _ _ _ h => h) C hg hm hk hdb
/-- a def with a star parameter -/
theorem de_callV (F : FnP X.prog X.w X.K X.mg X.base k f (spV X.K g)) (C : Ctx X W k) (hg : Gl X x) (hm : X.mg x = some (.ref f)) (hk : PySem.W.keepIn X.K (.ref f) = true)
    (ha : DA X W (e :: es) fa) (hdb : (x == ("__debug__" : Str)) = false := by decide) (he : starEach (e :: es) X.env = (false, eval e X.env) :: starEach es X.env := by rfl) (hpl : (backTo pos (starEach es X.env)).any (·.1) = false := by rfl) :
    DE X W (.Call (.Name x p) (e :: es) [] pos) (eCallX n g fa) := de_callP F (fun _ _ _ _ h => spV_of h) C hg hm hk ha hdb he hpl
theorem de_callV0 (F : FnP X.prog X.w X.K X.mg X.base k f (spV X.K g)) (C : Ctx X W k) (hg : Gl X x) (hm : X.mg x = some (.ref f)) (hk : PySem.W.keepIn X.K (.ref f) = true)
    (hdb : (x == ("__debug__" : Str)) = false := by decide) : DE X W (.Call (.Name x p) [] [] pos) (eCallX n g aNil) := de_callP0 F (fun _ _ _ _ h => spV_of h) C hg hm hk hdb
end

theorem law_goX {P : Program} {w : World} {K : PySem.W.Frag} {mg mb : Str → Option Value} {k : Nat} {fa a : Addr} {fd : FuncData} {x : Str} {sp : Sp} {s₁ : Shared} {vs : List Value} {ns : List Int}
    (KX : K.In s₁.heap) (hns : s₁.heap.Ns mainGlobals mg) (hb : s₁.heap.Ns builtinsNs mb) (hbb : ∀ x : Str, x ≠ "__name__" → mb x = bootBuiltins x) (hlim : s₁.heap.NoLimit) (hg : s₁.gens = #[])
    (ha : s₁.heap.get? a = some { cls := .type "list", data := .seq vs.toArray }) (hi : IntsAre vs ns) (hl : ns.length ≤ sizeLine) (hr : Room k callerA)
    (F : ∀ base : Heap, K.In base → base.Ns mainGlobals mg → FnX P w K mg base k fa fd [x] sp) (hbind : ∀ (s : Shared) (u : Value), BindsTo s fd ⟨[u], []⟩ [(x, u)])
    (hsp : ∀ H : Hp, Only H → SqL K H a (ns.map V.int) → sp [.ref a] H (fun v _ => v = .bl true) fun _ _ _ => False) :
    codeAny (model P w) callerA (.call (.ref fa) ⟨[.ref a], []⟩) (fun r s' => r = .ok (.ret (.bool true)) ∧ OldK s₁.heap s'.heap ∧ s'.os = s₁.os ∧ AllBare s'.gens) s₁ := by
  have rv := vals_ints hi
  have lenV := hi.length
  have main : ∀ H : Hp, Only H → SqL K H a (ns.map V.int) → HOk P w H s₁.heap → (∀ b, H b ≠ none → b = a) → (H a ≠ none → K.lookup a = none) →
      codeAny (model P w) callerA (.call (.ref fa) ⟨[.ref a], []⟩) (fun r s' => r = .ok (.ret (.bool true)) ∧ OldK s₁.heap s'.heap ∧ s'.os = s₁.os ∧ AllBare s'.gens) s₁ := by
    intro H hO hS hok hA hK
    have free : ∀ {b : Addr} {o : Obj} {es : Array DictEntry} {ep : Nat}, s₁.heap.get? b = some o → o.data = .dict es ep → H b = none := fun {b o es ep} e d => by
      by_cases q : H b = none
      · exact q
      · have e' := hA b q
        subst e'
        rw [ha] at e; cases e
        cases (show Data.seq vs.toArray _ = Data.dict es ep from d)
    have nsK : ∀ {b : Addr} {m : Str → Option Value}, s₁.heap.Ns b m → (hidT s₁.heap H).Ns b m := fun ⟨o, es, ep, e, d, r⟩ => ⟨o, es, ep, hidT_get e (free e d), d, r⟩
    have hKb : K.In (hidT s₁.heap H) := fun b o e => hidT_get (KX b o e) (by
      by_cases q : H b = none
      · exact q
      · have e' := hA b q
        subst e'
        rw [hK q] at e; cases e)
    obtain ⟨mc, l1, l2⟩ := id hlim
    have hM : Mod K mg (hidT s₁.heap H) := ⟨hKb, nsK hns, ⟨mb, nsK hb, hbb⟩, ⟨mc, nsK l1, l2⟩⟩
    have e0 : Env0 P w K mg (hidT s₁.heap H) callerA [] s₁ H := ⟨rfl, hM, fun b o e => of_hidT e, Nat.le_of_eq (hidT_size _ _), trivial, fun b hb => absurd (show b ∈ ([] : List Addr) from hb) (by simp), hok, .of_eq hg⟩
    refine codeAny_mono ((F _ hKb (nsK hns)).run callerA [] s₁ H ⟨[.ref a], []⟩ [.ref a] [.ref a] _ _ hr rfl e0 (hbind s₁ (.ref a)) (.cons rfl .nil) (hsp H hO hS)) fun r s' h => ?_
    match r, h with
    | .error e, h =>
      obtain ⟨_, _, _, _, _, _, _, _, _, _, _, _, z⟩ := (show L2.CX P w [] H s₁ (fun _ _ _ => False) e s' from h)
      exact z.elim
    | .ok .next, h => exact False.elim h
    | .ok .brk, h => exact False.elim h
    | .ok .cont, h => exact False.elim h
    | .ok (.ret u), h =>
      obtain ⟨v, H', os, bare, un, hok', r', q⟩ := h
      have q' : v = .bl true := q
      subst q'
      obtain rfl : u = Value.bool true := r'
      refine ⟨rfl, OldK.of_keep fun b o e => ?_, os, bare⟩
      rcases hO b with z | ⟨ob, xs, z⟩
      · exact un.keep b o e z (fun y => absurd (show b ∈ ([] : List Addr) from y) (by simp)) (by simp)
      · obtain ⟨e1, _⟩ := hok b _ z
        obtain ⟨e2, _⟩ := hok' b _ (un.frzs b ob _ z)
        rw [e] at e1; cases e1
        exact e2
  cases hk : K.lookup a with
  | some o =>
    have e := KX a o hk
    rw [ha] at e
    cases e
    refine main (fun _ => none) (fun _ => .inl rfl) (.inr ⟨_, vs.toArray, _, hk, rfl, rfl, rfl, by rw [List.size_toArray, lenV]; exact hl, by simpa using rv⟩) (fun b u z => by cases (show (none : Option HO) = some u from z)) (fun b z => absurd rfl z) fun z => absurd rfl z
  | none =>
    refine main (upd (fun _ => none) a (.frz { cls := .type "list", data := .seq vs.toArray } (.lst (ns.map V.int)))) (fun b => ?_) (.inl (.inr ⟨{ cls := .type "list", data := .seq vs.toArray }, upd_same⟩)) (fun b u z => ?_) (fun b z => ?_) fun _ => hk
    · by_cases hb : b = a
      · subst hb; exact .inr ⟨_, _, upd_same⟩
      · rw [upd_ne hb]; exact .inl rfl
    · by_cases hb : b = a
      · subst hb
        rw [upd_same] at z; cases z
        exact ⟨ha, by rw [List.length_map]; exact hl, vs, _, rv, ha⟩
      · rw [upd_ne hb] at z; cases z
    · by_cases hb : b = a
      · exact hb
      · rw [upd_ne hb] at z; exact absurd rfl z
theorem law_spX {K : PySem.W.Frag} {g : List D → M D} {ns : List Int} {a : Addr} {H : Hp} (h : ∃ S', g [.ro (nums ns)] [] = .ok (.p (.bool true)) S') (hO : Only H) (hS : SqL K H a (ns.map V.int)) : spX K 1 g [.ref a] H (fun v _ => v = .bl true) fun _ _ _ => False := by
  obtain ⟨S', e⟩ := h
  have fin : ∀ (φ : List (Addr × HO)), Holds φ H → RL K φ a (ns.map V.int) → spX K 1 g [.ref a] H (fun v _ => v = .bl true) fun _ _ _ => False := fun φ hφ hr => by
    refine ⟨⟨[], φ⟩, [], [.ro (nums ns)], rfl, .cons ⟨a, _, rfl, hr, nums_dn ns⟩ .nil, ⟨rfl, List.nodup_nil, fun i b o h => by simp at h, hφ, fun p _ l => ?_⟩, ?_⟩
    · obtain ⟨i, o, h, _⟩ := l
      simp at h
    · rw [e]
      exact fun H' G' x r v dv => den_bool dv
  rcases hS with (h | ⟨o, h⟩) | h
  · exact fin [(a, .lst (ns.map V.int))] (fun p hp => by obtain rfl := List.mem_singleton.mp hp; exact h) fun H' q => SqL.of (q _ (List.mem_singleton.mpr rfl))
  · exact fin [(a, .frz o (.lst (ns.map V.int)))] (fun p hp => by obtain rfl := List.mem_singleton.mp hp; exact h) fun H' q => .inl (.inr ⟨o, q _ (List.mem_singleton.mpr rfl)⟩)
  · exact fin [] (fun p hp => by cases hp) fun H' _ => .inr h
theorem walkX_data {l : PySem.W.OpenLaw} {k : Nat} {q : Program} {loose : List Str} {XP : (Str → Option Value) → Heap → Prop} {YP : World → Heap → Prop} {d : DefRec} {K : Params → PySem.W.Frag} {x : Str} {g : List D → M D}
    (hn : l.most = some 63) (hdf : d.params.defaults = []) (hr : Room k callerA) (hY : ∀ (w : World) (h : Heap), YP w h → (K w.params).In h)
    (F : ∀ (w : World) (mg : Str → Option Value) (fa : Addr) (h : Heap), (K w.params).In h → h.Ns mainGlobals mg → mg d.name = some (.ref fa) →
      ∃ fd : FuncData, (∀ (s : Shared) (u : Value), BindsTo s fd ⟨[u], []⟩ [(x, u)]) ∧ ∀ base : Heap, (K w.params).In base → base.Ns mainGlobals mg → FnX l.prog w (K w.params) mg base k fa fd [x] (spX (K w.params) 1 g))
    (hg : ∀ ns : List Int, ns.length ≤ 63 → ∃ S', g [.ro (nums ns)] [] = .ok (.p (.bool true)) S') : PySem.W.WalkO q loose XP YP l.row.toRowW d [] (fun f vs => PySem.call f vs) := by
  refine Att.attach_call hn hdf fun w s₀ s₁ mg mb fa o pm cd doc a vs ns G Y ho hd hcd hmg hobj hints hlen hgn => ?_
  have KX := hY w _ Y
  obtain ⟨fd, hb, hF⟩ := F w mg fa _ KX G.T.g hmg
  exact law_goX KX G.T.g G.T.b G.T.builtins G.T.nolimit hgn hobj hints (Nat.le_trans hlen (by decide)) hr hF hb fun H hO hS => law_spX (hg ns hlen) hO hS
end DL

namespace DL
open PySem L2 PySem.Spec PyProof.Rows

structure SMet (K : PySem.W.Frag) (C : Addr) (mc : Value) (m : Str) (p g : Addr) : Prop where
  rd : PySem.W.readsIn K C mc = true
  ga : PySem.W.specialIn K (.ref C) "__getattribute__" = some (some (.builtin "type.__getattribute__"))
  at_ : PySem.W.findCls K (.ref C) mc m = some (.get (.builtin "staticmethod.__get__") (.ref p) .none (.ref C))
  rc : ∃ rest, PySem.W.recIn K p "staticmethod" = some (.ref g :: rest)
section
variable {X : Cx} {W : WX} {k n : Nat} {C q f : Addr} {mc : Value} {sp : Sp} {x m : Str} {p apos pos : Pos} {e : Expr} {es : List Expr} {fa : FA} {g : List D → M D} {pl : Sem Bool}
theorem de_smethP (c : SMet X.K C mc m q f) (F : FnP X.prog X.w X.K X.mg X.base k f sp) (hsp : ∀ vs H Q E, spX X.K n g vs H Q E → sp vs H Q E) (K' : Ctx X W k) (hg : Gl X x) (hm : X.mg x = some (.ref C)) (hk : PySem.W.keepIn X.K (.ref f) = true)
    (ha : DA X W (e :: es) fa) (hdb : (x == ("__debug__" : Str)) = false := by decide) (he : starEach (e :: es) X.env = (false, eval e X.env) :: starEach es X.env := by rfl) (hpl : (backTo pos (starEach es X.env)).any (·.1) = false := by rfl)
    (ht : eval (.Call (.Attribute (.Name x p) m apos) (e :: es) [] pos) X.env = (do
      let ov ← eval (.Name x p) X.env
      standAt apos.atName
      let (f, first) ← holding [ov] (getMethod ov m pl)
      callWith pos f first (backTo pos (starEach (e :: es) X.env)) (backToKw pos (keywordEach [] X.env))) := by rfl) :
    DE X W (.Call (.Attribute (.Name x p) m apos) (e :: es) [] pos) (eCallX n g fa) := by
  have hx : PE X (.Name x p) (tC (.ref C)) := pe_glob hg hm rfl hdb
  refine ⟨⟨fun pins s σ H Q I h => ?_⟩⟩
  refine PySem.W.methodCall_KW (pl := pl) (thn (hx.run pins s σ H (fun v H1 => v = .ref C ∧ H1 = H) I ⟨rfl, rfl⟩) fun u s1 ⟨y, H1, I1, rx, ex, eH⟩ => ?_) ht
  subst ex eH
  obtain rfl : u = Value.ref C := rx
  obtain ⟨rest, hp⟩ := c.rc
  refine PySem.W.method_cls I1.kIn c.ga (PySem.W.cls_bind I1.kIn c.rd c.at_ (wpAny_call (PySem.W.sm_get (s := { s1 with toks := s1.toks + 1 }) I1.kIn hp (PySem.W.handed_on rfl ?_))))
  have I2 := I1.tok (s1.toks + 1)
  refine PySem.W.callWith_K (h₀ := X.base) I2.ok.mod.kin hk (thn (ha.run.run pos pins _ σ _ _ I2 (callX_read h)) fun us s3 ⟨vs, H2, I3, rv, q2⟩ => ⟨I3.kIn, run_fnP F K' I3 rv (hsp _ _ _ _ q2)⟩) he hpl
theorem de_smethV (c : SMet X.K C mc m q f) (F : FnP X.prog X.w X.K X.mg X.base k f (spV X.K g)) (K' : Ctx X W k) (hg : Gl X x) (hm : X.mg x = some (.ref C)) (hk : PySem.W.keepIn X.K (.ref f) = true)
    (ha : DA X W (e :: es) fa) (hdb : (x == ("__debug__" : Str)) = false := by decide) (he : starEach (e :: es) X.env = (false, eval e X.env) :: starEach es X.env := by rfl) (hpl : (backTo pos (starEach es X.env)).any (·.1) = false := by rfl)
    (ht : eval (.Call (.Attribute (.Name x p) m apos) (e :: es) [] pos) X.env = (do
      let ov ← eval (.Name x p) X.env
      standAt apos.atName
      let (f, first) ← holding [ov] (getMethod ov m pl)
      callWith pos f first (backTo pos (starEach (e :: es) X.env)) (backToKw pos (keywordEach [] X.env))) := by rfl) :
    DE X W (.Call (.Attribute (.Name x p) m apos) (e :: es) [] pos) (eCallX n g fa) := de_smethP c F (fun _ _ _ _ h => spV_of h) K' hg hm hk ha hdb he hpl ht
end

section
variable {X : Cx} {W : WX} {k n : Nat} {f : Addr} {sp : Sp} {x m : Str} {p apos pos : Pos} {e : Expr} {es : List Expr} {fa : FA} {g : List D → M D} {pl : Sem Bool}
theorem de_smethVE (c : ∃ C mc q, X.mg x = some (.ref C) ∧ SMet X.K C mc m q f) (F : FnP X.prog X.w X.K X.mg X.base k f (spV X.K g)) (K' : Ctx X W k) (hg : Gl X x) (hk : PySem.W.keepIn X.K (.ref f) = true)
    (ha : DA X W (e :: es) fa) (hdb : (x == ("__debug__" : Str)) = false := by decide) (he : starEach (e :: es) X.env = (false, eval e X.env) :: starEach es X.env := by rfl) (hpl : (backTo pos (starEach es X.env)).any (·.1) = false := by rfl)
    (ht : eval (.Call (.Attribute (.Name x p) m apos) (e :: es) [] pos) X.env = (do
      let ov ← eval (.Name x p) X.env
      standAt apos.atName
      let (f, first) ← holding [ov] (getMethod ov m pl)
      callWith pos f first (backTo pos (starEach (e :: es) X.env)) (backToKw pos (keywordEach [] X.env))) := by rfl) :
    DE X W (.Call (.Attribute (.Name x p) m apos) (e :: es) [] pos) (eCallX n g fa) := by
  obtain ⟨C, mc, q, hm, c⟩ := c
  exact de_smethV c F K' hg hm hk ha hdb he hpl ht
end
inductive Arm where
  | texts (xs : List Str)
  | any
def armB (x : Str) : Arm → Bool
  | .texts xs => xs.contains x
  | .any => true
def armGo (x : Str) : List (Arm × FS) → FS
  | [] => sNext
  | (a, b) :: r => if armB x a then b else armGo x r
def sMatch (f : FE) (arms : List (Arm × FS)) : FS := fun ρ S => (f ρ S).st ρ fun d S1 => match d with
  | .p (.str x) => armGo x arms ρ S1
  | _ => none
inductive PatT : List Pattern → List Str → Prop
  | nil : PatT [] []
  | cons {x : Str} {j : Nat} {p1 p2 : Pos} {ps : List Pattern} {xs : List Str} : PatT ps xs → PatT (.MatchValue (.Constant (.str x) j p1) p2 :: ps) (x :: xs)
inductive DArms (X : Cx) (W : WX) : List MatchCase → List (Arm × FS) → Prop
  | nil : DArms X W [] []
  | one {x : Str} {j : Nat} {p1 p2 : Pos} {body : List Stmt} {b : FS} {cs : List MatchCase} {r : List (Arm × FS)} : DSs X W body b → DArms X W cs r → DArms X W (⟨.MatchValue (.Constant (.str x) j p1) p2, none, body⟩ :: cs) ((.texts [x], b) :: r)
  | or {ps : List Pattern} {xs : List Str} {p2 : Pos} {body : List Stmt} {b : FS} {cs : List MatchCase} {r : List (Arm × FS)} : PatT ps xs → namesOfAll (ps.take 1) = [] → DSs X W body b → DArms X W cs r → DArms X W (⟨.MatchOr ps p2, none, body⟩ :: cs) ((.texts xs, b) :: r)
  | any {p2 : Pos} {body : List Stmt} {b : FS} {cs : List MatchCase} {r : List (Arm × FS)} : DSs X W body b → DArms X W cs r → DArms X W (⟨.MatchAs none none p2, none, body⟩ :: cs) ((.any, b) :: r)
section
variable {X : Cx} {W : WX} {pins : List (Addr × Obj)} {σ : L2.St} {H : Hp} {s : Shared}
theorem eq_text (I : L2.Inv X pins σ H s) {x y : Str} {t : Tok} {j : Nat} {p1 p2 : Pos} {Q : Option (List (Str × Value)) → Shared → Prop} (h : ∀ s', L2.Inv X pins σ H s' → Q (if (y == x) = true then some [] else none) s') :
    wpAny (model X.prog X.w) X.A (matchPattern (.MatchValue (.Constant (.str y) j p1) p2) X.env (.str x t)) Q X.xe s := by
  refine wpAny_matchPattern_Value ((pe_str (X := X)).run pins s σ H (fun v H1 => v = .str y ∧ H1 = H) I ⟨rfl, rfl⟩ |> fun z => thn z fun u s1 ⟨v, H1, I1, rv, ev, eH⟩ => ?_)
  subst ev eH
  obtain ⟨t2, rfl⟩ := rv
  refine thn ((op_eq (X := X)) pins s1 σ H1 (.str x) (.str y) (.str x t) (.str y t2) (fun v H2 => v = .bl (decide (V.str x = V.str y)) ∧ H2 = H1) I1 ⟨t, rfl⟩ ⟨t2, rfl⟩ ⟨rfl, rfl, rfl⟩) fun c s2 ⟨v, H2, I2, rv, ev, eH⟩ => ?_
  subst ev eH
  cases (show c = Value.bool (decide (V.str x = V.str y)) from rv)
  refine wpAny_truthy_bool ?_
  have e : decide (V.str x = V.str y) = (y == x) := by
    by_cases c : x = y
    · subst c; simp
    · have : ¬ y = x := fun z => c z.symm
      simp [c, this]
  rw [e]
  have z := h s2 I2
  cases hb : (y == x) with
  | true => rw [hb] at z; exact z
  | false => rw [hb] at z; exact z
theorem eq_first : ∀ {ps : List Pattern} {xs : List Str} (_ : PatT ps xs) {s : Shared} (_ : L2.Inv X pins σ H s) {x : Str} {t : Tok} {Q : Option (List (Str × Value)) → Shared → Prop} (_ : ∀ s', L2.Inv X pins σ H s' → Q (if xs.contains x = true then some [] else none) s'),
    wpAny (model X.prog X.w) X.A (matchFirst ps X.env (.str x t)) Q X.xe s
  | _, _, .nil, s, I, x, t, Q, h => wpAny_matchFirst_nil (h s I)
  | _, _, .cons (x := y) (xs := ys) r, s, I, x, t, Q, h => by
    refine wpAny_matchFirst_cons (eq_text I fun s1 I1 => ?_)
    by_cases c : (y == x) = true
    · rw [if_pos c]
      have z := h s1 I1
      have e : (y :: ys).contains x = true := by simp at c; simp [c]
      rw [if_pos e] at z
      exact z
    · rw [if_neg c]
      refine eq_first r I1 fun s2 I2 => ?_
      have z := h s2 I2
      have e : (y :: ys).contains x = ys.contains x := by
        have c' : ¬ x = y := fun q => c (by simp [q])
        simp [c']
      rw [e] at z
      exact z
theorem arms_run {x : Str} {t : Tok} {D : Ends} : ∀ {cs : List MatchCase} {arms : List (Arm × FS)} (_ : DArms X W cs arms) {s : Shared} (_ : L2.Inv X pins σ H s) (first : Bool) (_ : rdS X.K W (armGo x arms) D σ H),
    wpAny (model X.prog X.w) X.A (matchCases cs X.env (.str x t) first) (SP X pins D) X.xe s
  | _, _, .nil, s, I, first, h => by
    obtain ⟨G, S, ρ, rs, rp, q⟩ := h
    exact wpAny_matchCases_nil ⟨σ, H, I, AftS.next q Ext.refl rp rs⟩
  | _, _, .one (x := y) (b := b) (r := r) hb ht, s, I, first, h => by
    refine wpAny_matchCases_cons (eq_text I fun s1 I1 => ?_)
    by_cases c : (y == x) = true
    · rw [if_pos c]
      have e : armGo x ((.texts [y], b) :: r) = b := by simp at c; simp [armGo, armB, c]
      rw [e] at h
      exact wpAny_assignInOrder_none (hb.run.run pins s1 σ H D I1 h)
    · rw [if_neg c]
      have e : armGo x ((.texts [y], b) :: r) = armGo x r := by
        have c' : ¬ x = y := fun q => c (by simp [q])
        simp [armGo, armB, c']
      rw [e] at h
      exact arms_run ht I1 false h
  | _, _, .or (xs := ys) (b := b) (r := r) hp hn hb ht, s, I, first, h => by
    refine wpAny_matchCases_cons (wpAny_matchPattern_Or (eq_first hp I fun s1 I1 => ?_))
    by_cases c : ys.contains x = true
    · rw [if_pos c]
      have e : armGo x ((.texts ys, b) :: r) = b := by simp only [armGo, armB, c, if_true]
      rw [e] at h
      rw [hn]
      exact wpAny_assignInOrder_none (hb.run.run pins s1 σ H D I1 h)
    · rw [if_neg c]
      have e : armGo x ((.texts ys, b) :: r) = armGo x r := by
        rw [Bool.not_eq_true] at c
        simp only [armGo, armB, c, Bool.false_eq_true, if_false]
      rw [e] at h
      exact arms_run ht I1 false h
  | _, _, .any (b := b) (r := r) hb ht, s, I, first, h => by
    refine wpAny_matchCases_cons (wpAny_matchPattern_Capture ?_)
    exact wpAny_assignInOrder_none (hb.run.run pins s σ H D I h)
theorem ds_match {e : Expr} {cs : List MatchCase} {pos : Pos} {f : FE} {arms : List (Arm × FS)} (he : DE X W e f) (ha : DArms X W cs arms) : DS X W (.Match e cs pos) (sMatch f arms) := by
  refine ⟨⟨fun pins s σ H D I ⟨G, S, ρ, rs, rp, q⟩ => ?_⟩⟩
  refine wpAny_Match (thn (he.run.run pins s σ H (fun v H1 => ∃ x, v = .str x ∧ rdS X.K W (armGo x arms) D σ H1) I ⟨G, S, ρ, rs, rp, (AftS.st q rs rp).mono fun d H1 G1 S1 x1 r1 q1 v dv => ?_⟩) fun u s1 ⟨v, H1, I1, rv, x, ev, h⟩ => ?_)
  · split at q1
    · rename_i x
      exact ⟨x, den_str dv, G1, S1, ρ, x1.relS rp rs, r1, q1⟩
    · exact q1.elim
  · subst ev
    obtain ⟨t, rfl⟩ := rv
    exact arms_run ha I1 true h
end

inductive KdEnts (K : PySem.W.Frag) : List DictEntry → List (Str × PyData) → Prop
  | nil : KdEnts K [] []
  | cons {h : Int} {k : Str} {t : Tok} {u : Value} {d : PyData} {es : List DictEntry} {tbl : List (Str × PyData)} : (∃ v, RelV v u ∧ ∀ H G, Den K H G (.p d) v) → KdEnts K es tbl → KdEnts K (⟨h, .str k t, u⟩ :: es) ((k, d) :: tbl)
structure KdIs (K : PySem.W.Frag) (mg : Str → Option Value) (w : World) (x : Str) (tbl : List (Str × PyData)) : Prop where
  ex : ∃ d es n, mg x = some (.ref d) ∧ KDict K w d es n ∧ KdEnts K es.toList tbl
def kdM (tbl : List (Str × PyData)) : D → M D := fun d S => match d with
  | .p (.str z) => (match tbl.lookup z with
    | some x => .ok (.p x) S
    | none => .bad)
  | _ => .bad
def kdInM (neg : Bool) (tbl : List (Str × PyData)) : D → M D := fun d S => match d with
  | .p (.str z) => .ok (.p (.bool (if neg then !(tbl.lookup z).isSome else (tbl.lookup z).isSome))) S
  | _ => .bad
theorem isStr_of (k z : Str) (t : Tok) : (Value.str k t).isStr z = (k == z) := rfl
theorem KdEnts.find {K : PySem.W.Frag} {z : Str} : ∀ {es : List DictEntry} {tbl : List (Str × PyData)}, KdEnts K es tbl →
    (∀ d, tbl.lookup z = some d → ∃ e v, es.find? (·.key.isStr z) = some e ∧ RelV v e.val ∧ ∀ H G, Den K H G (.p d) v) ∧ (tbl.lookup z = none → es.find? (·.key.isStr z) = none ∧ es.any (·.refKey) = false)
  | _, _, .nil => ⟨(fun d e => nomatch e), fun _ => ⟨rfl, rfl⟩⟩
  | _, _, .cons (k := k) (t := t) (u := u) (d := d0) (es := es) (tbl := tbl) hv r => by
    have ih := KdEnts.find (z := z) r
    by_cases c : z = k
    · subst c
      have e1 : ((z, d0) :: tbl).lookup z = some d0 := by simp
      rw [e1]
      refine ⟨fun d e => ?_, (fun e => nomatch e)⟩
      cases e
      obtain ⟨v, h1, h2⟩ := hv
      exact ⟨_, v, List.find?_cons_of_pos (by rw [isStr_of]; simp), h1, h2⟩
    · have e1 : ((k, d0) :: tbl).lookup z = tbl.lookup z := by
        rw [List.lookup_cons]
        have : (z == k) = false := by simp [c]
        rw [this]
      have c' : ¬ k = z := fun q => c q.symm
      have e2 : ∀ h, (⟨h, .str k t, u⟩ :: es : List DictEntry).find? (·.key.isStr z) = es.find? (·.key.isStr z) := fun h => List.find?_cons_of_neg (by rw [isStr_of]; simp [c'])
      rw [e1, e2]
      refine ⟨ih.1, fun e => ⟨(ih.2 e).1, ?_⟩⟩
      rw [List.any_cons, (ih.2 e).2]
      rfl
theorem kd_tup {K : PySem.W.Frag} {a : Addr} {o : Obj} {its : Array Value} {n : Nat} {ps : List (PyData × V)} {d : PyData} (l : K.lookup a = some o) (hc : o.cls = .type "tuple") (hs : o.data = .seq its n) (f : flats its.toList = some ps) (hz : its.size ≤ 1000) (hd : PyData.tuple (ps.map (·.1)) = d) :
    ∃ v, RelV v (.ref a) ∧ ∀ H G, Den K H G (.p d) v := by
  subst hd
  refine ⟨.ref a, rfl, fun H G => .tup (.inr ⟨o, its, n, l, hc, hs, Nat.le_of_lt (small1000 hz), ?_⟩) (flats_ok f).2⟩
  exact (flats_ok (K := K) (φ := []) (H := fun _ => none) f).1
section
variable {X : Cx} {W : WX} {x : Str} {p pos : Pos} {i : Expr} {f : FE} {tbl : List (Str × PyData)}
theorem kd_ns {d : Addr} {es : Array DictEntry} {n : Nat} {z : Str} (D : KDict X.K X.w d es n) (E : KdEnts X.K es.toList tbl) :
    (∀ y, tbl.lookup z = some y → ∃ u v, PySem.W.nsIn X.K d z = some (some u) ∧ RelV v u ∧ ∀ H G, Den X.K H G (.p y) v) ∧ (tbl.lookup z = none → PySem.W.nsIn X.K d z = some none) := by
  have q := E.find (z := z)
  refine ⟨fun y e => ?_, fun e => ?_⟩
  · obtain ⟨en, v, h1, h2, h3⟩ := q.1 y e
    exact ⟨en.val, v, by unfold PySem.W.nsIn; rw [D.at_]; simp only [h1], h2, h3⟩
  · obtain ⟨h1, h2⟩ := q.2 e
    unfold PySem.W.nsIn
    rw [D.at_]
    simp only [h1, h2, Bool.false_eq_true, if_false]
theorem de_kdGet (hg : Gl X x) (h : KdIs X.K X.mg X.w x tbl) (he : DE X W i f) (hs : PlainIx i := by exact fun _ _ => rfl) (hdb : (x == ("__debug__" : Str)) = false := by decide) : DE X W (.Subscript (.Name x p) i pos) (e1 (kdM tbl) f) := by
  obtain ⟨d, es, n, hm, D, E⟩ := h.ex
  refine ⟨PE.imp (pe_ix ix_kdict (pe_glob hg hm (v := .ref d) rfl hdb) he.run hs) fun σ H Q ⟨G, S, ρ, rs, rp, q⟩ => ?_⟩
  refine ⟨G, S, ρ, rs, rp, (Aft.bind q).mono fun a H1 G1 S1 x1 r1 q1 v dv => ?_⟩
  unfold kdM at q1
  split at q1
  · rename_i z
    obtain rfl := den_str dv
    split at q1
    · rename_i y ey
      obtain ⟨u, w, h1, h2, h3⟩ := (kd_ns (z := z) D E).1 y ey
      exact ⟨d, z, w, rfl, rfl, ⟨es, n, u, D.at_, D.lit, h1, h2⟩, q1.ret r1 (h3 H1 G1)⟩
    · exact q1.elim
  · exact q1.elim
theorem de_kdIn (hg : Gl X x) (h : KdIs X.K X.mg X.w x tbl) (he : DE X W i f) (hm' : behindInMarks .In (.Name x p) = false := by rfl) (hdb : (x == ("__debug__" : Str)) = false := by decide) : DE X W (.Compare i [.In] [.Name x p] pos) (e1 (kdInM false tbl) f) := by
  obtain ⟨d, es, n, hm, D, E⟩ := h.ex
  refine ⟨PE.imp (pe_cmpR (op_in_kd D) he.run (pe_glob hg hm (v := .ref d) rfl hdb) hm') fun σ H Q ⟨G, S, ρ, rs, rp, q⟩ => ?_⟩
  refine ⟨G, S, ρ, rs, rp, (Aft.bind q).mono fun a H1 G1 S1 x1 r1 q1 v dv => ?_⟩
  unfold kdInM at q1
  split at q1
  · rename_i z
    obtain rfl := den_str dv
    cases e : tbl.lookup z with
    | none => rw [e] at q1; exact ⟨z, none, rfl, rfl, (kd_ns (z := z) D E).2 e, q1.ret r1 (.bl _)⟩
    | some y =>
      rw [e] at q1
      obtain ⟨u, w, h1, h2, h3⟩ := (kd_ns (z := z) D E).1 y e
      exact ⟨z, some u, rfl, rfl, h1, q1.ret r1 (.bl _)⟩
  · exact q1.elim
theorem de_kdNotIn (hg : Gl X x) (h : KdIs X.K X.mg X.w x tbl) (he : DE X W i f) (hm' : behindInMarks .NotIn (.Name x p) = false := by rfl) (hdb : (x == ("__debug__" : Str)) = false := by decide) : DE X W (.Compare i [.NotIn] [.Name x p] pos) (e1 (kdInM true tbl) f) := by
  obtain ⟨d, es, n, hm, D, E⟩ := h.ex
  refine ⟨PE.imp (pe_cmpR (op_notIn_kd D) he.run (pe_glob hg hm (v := .ref d) rfl hdb) hm') fun σ H Q ⟨G, S, ρ, rs, rp, q⟩ => ?_⟩
  refine ⟨G, S, ρ, rs, rp, (Aft.bind q).mono fun a H1 G1 S1 x1 r1 q1 v dv => ?_⟩
  unfold kdInM at q1
  split at q1
  · rename_i z
    obtain rfl := den_str dv
    cases e : tbl.lookup z with
    | none => rw [e] at q1; exact ⟨z, none, rfl, rfl, (kd_ns (z := z) D E).2 e, q1.ret r1 (.bl _)⟩
    | some y =>
      rw [e] at q1
      obtain ⟨u, w, h1, h2, h3⟩ := (kd_ns (z := z) D E).1 y e
      exact ⟨z, some u, rfl, rfl, h1, q1.ret r1 (.bl _)⟩
  · exact q1.elim
def tKd (neg : Bool) (tbl : List (Str × PyData)) (f : FE) : FT := fun ρ S => (f ρ S).bind fun d S1 => match d with
  | .p (.str z) => .ok (if neg then !(tbl.lookup z).isSome else (tbl.lookup z).isSome) S1
  | _ => .bad
theorem dt_kdIn (hg : Gl X x) (h : KdIs X.K X.mg X.w x tbl) (he : DE X W i f) (hm' : behindInMarks .In (.Name x p) = false := by rfl) (hdb : (x == ("__debug__" : Str)) = false := by decide) : DT X W (.Compare i [.In] [.Name x p] pos) (tKd false tbl f) := by
  obtain ⟨d, es, n, hm, D, E⟩ := h.ex
  refine ⟨PT.imp (pt_cmpR (op_in_kd D) he.run (pe_glob hg hm (v := .ref d) rfl hdb) hm') fun σ H Q ⟨G, S, ρ, rs, rp, q⟩ => ?_⟩
  refine ⟨G, S, ρ, rs, rp, (Aft.bind q).mono fun a H1 G1 S1 x1 r1 q1 v dv => ?_⟩
  split at q1
  · rename_i z
    obtain rfl := den_str dv
    cases e : tbl.lookup z with
    | none => rw [e] at q1; exact ⟨z, none, rfl, rfl, (kd_ns (z := z) D E).2 e, _, rfl, q1 H1 G1 Ext.refl r1⟩
    | some y =>
      rw [e] at q1
      obtain ⟨u, w, h1, h2, h3⟩ := (kd_ns (z := z) D E).1 y e
      exact ⟨z, some u, rfl, rfl, h1, _, rfl, q1 H1 G1 Ext.refl r1⟩
  · exact q1.elim
theorem dt_kdNotIn (hg : Gl X x) (h : KdIs X.K X.mg X.w x tbl) (he : DE X W i f) (hm' : behindInMarks .NotIn (.Name x p) = false := by rfl) (hdb : (x == ("__debug__" : Str)) = false := by decide) : DT X W (.Compare i [.NotIn] [.Name x p] pos) (tKd true tbl f) := by
  obtain ⟨d, es, n, hm, D, E⟩ := h.ex
  refine ⟨PT.imp (pt_cmpR (op_notIn_kd D) he.run (pe_glob hg hm (v := .ref d) rfl hdb) hm') fun σ H Q ⟨G, S, ρ, rs, rp, q⟩ => ?_⟩
  refine ⟨G, S, ρ, rs, rp, (Aft.bind q).mono fun a H1 G1 S1 x1 r1 q1 v dv => ?_⟩
  split at q1
  · rename_i z
    obtain rfl := den_str dv
    cases e : tbl.lookup z with
    | none => rw [e] at q1; exact ⟨z, none, rfl, rfl, (kd_ns (z := z) D E).2 e, _, rfl, q1 H1 G1 Ext.refl r1⟩
    | some y =>
      rw [e] at q1
      obtain ⟨u, w, h1, h2, h3⟩ := (kd_ns (z := z) D E).1 y e
      exact ⟨z, some u, rfl, rfl, h1, _, rfl, q1 H1 G1 Ext.refl r1⟩
  · exact q1.elim
end

def max2M : List D → M D := fun ds S => match ds with
  | [.p (.int i), .p (.int j)] => .ok (.p (.int (if j > i then j else i))) S
  | _ => .bad
def min2M : List D → M D := fun ds S => match ds with
  | [.p (.int i), .p (.int j)] => .ok (.p (.int (if j < i then j else i))) S
  | _ => .bad
def intTM : List D → M D := fun ds S => match ds with
  | [.p (.str z)] => if z.length ≤ 640 then (match PySem.intText? z with
    | some n => .ok (.p (.int n)) S
    | none => .bad) else .bad
  | ds => intM ds S
section
variable {X : Cx} {W : WX} {e e' : Expr} {fa : FA} {p pos : Pos}
theorem de_max2 (hc : X.calm = true) (hg : Gl X "max") (hm : X.mg "max" = none) (ha : DA X W [e, e'] fa) (he : starEach [e, e'] X.env = (false, eval e X.env) :: starEach [e'] X.env := by rfl) (hpl : (backTo pos (starEach [e'] X.env)).any (·.1) = false := by rfl) : DE X W (.Call (.Name "max" p) [e, e'] [] pos) (eA max2M fa) :=
  de_callB (call_max2 hc) (fun W σ H G S ds vs Q rp dv q => by
    unfold max2M at q
    split at q
    · rename_i i j
      obtain ⟨u, v, rfl, d1, d2⟩ := denL2 dv
      obtain rfl := den_int d1
      obtain rfl := den_int d2
      exact ⟨i, j, rfl, q.ret rp (.int _)⟩
    · exact q.elim) hg hm rfl ha (he := he) (hpl := hpl)
theorem de_min2 (hc : X.calm = true) (hg : Gl X "min") (hm : X.mg "min" = none) (ha : DA X W [e, e'] fa) (he : starEach [e, e'] X.env = (false, eval e X.env) :: starEach [e'] X.env := by rfl) (hpl : (backTo pos (starEach [e'] X.env)).any (·.1) = false := by rfl) : DE X W (.Call (.Name "min" p) [e, e'] [] pos) (eA min2M fa) :=
  de_callB (call_min2 hc) (fun W σ H G S ds vs Q rp dv q => by
    unfold min2M at q
    split at q
    · rename_i i j
      obtain ⟨u, v, rfl, d1, d2⟩ := denL2 dv
      obtain rfl := den_int d1
      obtain rfl := den_int d2
      exact ⟨i, j, rfl, q.ret rp (.int _)⟩
    · exact q.elim) hg hm rfl ha (he := he) (hpl := hpl)
theorem de_intT (hg : Gl X "int") (hm : X.mg "int" = none) (ha : DA X W [e] fa) (he : starEach [e] X.env = (false, eval e X.env) :: starEach [] X.env := by rfl) : DE X W (.Call (.Name "int" p) [e] [] pos) (eA intTM fa) :=
  de_callTy (T := "int") (r := fun xs H Q => ((∃ i, xs = [.int i] ∧ Q (.int i) H) ∨ ∃ k, xs = [.bl k] ∧ Q (.int (if k then 1 else 0)) H) ∨ ∃ a n, xs = [.str a] ∧ PySem.intText? a = some n ∧ a.length ≤ 640 ∧ Q (.int n) H) (by
    intro pins s σ H xs us Q I r h
    rcases h with h | h
    · exact call_int1 pins s σ H xs us Q I r h
    · exact call_int_str pins s σ H xs us Q I r h) (by
    intro W σ H G S xs vs Q rp dv q
    unfold intTM at q
    split at q
    · rename_i z
      obtain ⟨v, rfl, dv1⟩ := denL1 dv
      obtain rfl := den_str dv1
      by_cases c : z.length ≤ 640
      · rw [if_pos c] at q
        split at q
        · rename_i n en
          exact .inr ⟨z, n, rfl, en, c, q.ret rp (.int _)⟩
        · exact q.elim
      · rw [if_neg c] at q; exact q.elim
    · unfold intM at q
      split at q
      · obtain ⟨v, rfl, dv1⟩ := denL1 dv
        rw [den_int dv1]
        exact .inl (.inl ⟨_, rfl, q.ret rp (.int _)⟩)
      · obtain ⟨v, rfl, dv1⟩ := denL1 dv
        rw [den_bool dv1]
        exact .inl (.inr ⟨_, rfl, q.ret rp (.int _)⟩)
      · exact q.elim) hg hm (by decide +kernel) ha (by decide) (by decide) he
end
end DL

namespace DL
open PySem L2

section
variable {ρ : Ev} {S : Sto} {f g h : FE} {fa : FA} {n : Nat} {Q : D → Sto → Prop} {X : Exn → Sto → Prop}
@[simp] theorem eCallX_ {m : List D → M D} : eCallX n m fa ρ S = (fa ρ S).bind fun ds S1 => if ds.length = n then cutX S1.length (m ds S1) else .bad := rfl
@[simp] theorem cutX_p {x : PyData} : cutX n (.ok (.p x) S) = .ok (.p x) (S.take n) := rfl
@[simp] theorem cutX_err {x : Exn} : cutX n (.err x S) = .err x (S.take n) := rfl
theorem cutX_len {x : PyData} : cutX S.length (.ok (.p x) S) = .ok (.p x) S := by simp
theorem cutX_same {x : PyData} {S' : Sto} (h : S'.length = S.length) : cutX S.length (.ok (.p x) S') = .ok (.p x) S' := by rw [← h]; simp
theorem wp_cutX {o : Out D} (h : wp o (fun d s => ∃ x, d = .p x ∧ Q (.p x) (s.take n)) (fun x s => X x (s.take n))) : wp (cutX n o) Q X := by
  cases o with
  | ok d s =>
    obtain ⟨x, rfl, q⟩ := h
    exact q
  | err x s => exact h
  | bad => exact h
/-- a def's end where the store keeps its length -/
theorem wp_cutXS {o : Out D} (h : wp o (fun d s => s.length = n ∧ Q d s) (fun x s => s.length = n ∧ X x s)) : wp (cutX n o) Q X := by
  cases o with
  | ok d s =>
    obtain ⟨rfl, q⟩ := h
    cases d with
    | ob i =>
      show wp (if i < s.length then Out.ok (D.ob i) (s.take s.length) else .ok (.ob i) s) Q X
      rw [List.take_of_length_le (Nat.le_refl _)]
      split <;> exact q
    | p x => show Q _ (s.take s.length); rw [List.take_of_length_le (Nat.le_refl _)]; exact q
    | ro x => show Q _ (s.take s.length); rw [List.take_of_length_le (Nat.le_refl _)]; exact q
    | ext x => show Q _ (s.take s.length); rw [List.take_of_length_le (Nat.le_refl _)]; exact q
  | err x s =>
    obtain ⟨rfl, q⟩ := h
    show X x (s.take s.length)
    rw [List.take_of_length_le (Nat.le_refl _)]; exact q
  | bad => exact h
/-- a call that leaves the store -/
theorem wp_callP {o : Out D} {x : PyData} (e : o = .ok (.p x) S) (h : Q (.p x) S) : wp (cutX S.length o) Q X := by rw [e, cutX_len]; exact h
@[simp] theorem eqZ_s {neg : Bool} {a b : Str} : opEqZ neg (.p (.str a)) (.p (.str b)) S = .ok (.p (.bool (if neg then !(a == b) else (a == b)))) S := rfl
@[simp] theorem eqZ_i {neg : Bool} {a b : Int} : opEqZ neg (.p (.int a)) (.p (.int b)) S = .ok (.p (.bool (if neg then !(a == b) else (a == b)))) S := rfl
@[simp] theorem eqZ_b {neg : Bool} {a b : Bool} : opEqZ neg (.p (.bool a)) (.p (.bool b)) S = .ok (.p (.bool (if neg then !(a == b) else (a == b)))) S := rfl
@[simp] theorem eqZ_t0 {neg : Bool} {xs : List PyData} : opEqZ neg (.p (.tuple xs)) (.p (.tuple [])) S = .ok (.p (.bool (if neg then !xs.isEmpty else xs.isEmpty))) S := rfl
theorem eqZ_t {neg : Bool} {xs ys : List PyData} : opEqZ neg (.p (.tuple xs)) (.p (.tuple ys)) S = opEqX neg (.p (.tuple xs)) (.p (.tuple ys)) S := rfl
theorem eqZ_l {neg : Bool} {xs ys : List PyData} : opEqZ neg (.p (.list xs)) (.p (.list ys)) S = opEqX neg (.p (.list xs)) (.p (.list ys)) S := rfl
@[simp] theorem sMatch_ {arms : List (Arm × FS)} : sMatch f arms ρ S = (f ρ S).st ρ fun d S1 => match d with
  | .p (.str x) => armGo x arms ρ S1
  | _ => none := rfl
@[simp] theorem armGo_nil {x : Str} : armGo x [] ρ S = some (.next ρ, S) := rfl
theorem armGo_cons {x : Str} {a : Arm} {b : FS} {r : List (Arm × FS)} : armGo x ((a, b) :: r) = if armB x a then b else armGo x r := rfl
theorem armGo_yes {x : Str} {a : Arm} {b : FS} {r : List (Arm × FS)} (h : armB x a = true) : armGo x ((a, b) :: r) ρ S = b ρ S := by rw [armGo_cons, if_pos h]
theorem armGo_no {x : Str} {a : Arm} {b : FS} {r : List (Arm × FS)} (h : armB x a = false) : armGo x ((a, b) :: r) ρ S = armGo x r ρ S := by rw [armGo_cons, if_neg (by rw [h]; simp)]
@[simp] theorem eIce_ : eIce f ρ S = (f ρ S).bind fun d S1 => .ok (iceD d S1).1 (iceD d S1).2 := rfl
@[simp] theorem iceD_p {x : PyData} : iceD (.p x) S = (.p x, S) := rfl
theorem iceD_l {i : Nat} {xs : List PyData} (h : S[i]? = some (.lst xs)) : iceD (.ob i) S = (.p (.list xs), S.set i .dead) := by simp [iceD, h]
theorem iceD_d {i : Nat} {kvs : List (Key × PyData)} (h : S[i]? = some (.dic kvs)) : iceD (.ob i) S = (.p (.dict (pyKv kvs)), S.set i .dead) := by simp [iceD, h]
@[simp] theorem max2_ {i j : Int} : max2M [.p (.int i), .p (.int j)] S = .ok (.p (.int (if j > i then j else i))) S := rfl
@[simp] theorem min2_ {i j : Int} : min2M [.p (.int i), .p (.int j)] S = .ok (.p (.int (if j < i then j else i))) S := rfl
@[simp] theorem mkLstM0 : mkLstM [] S = .ok (.ob S.length) (S ++ [.lst []]) := rfl
@[simp] theorem iA_ {m : List D → M (List D)} : iA m fa ρ S = (fa ρ S).bind m := rfl
end
section
variable {c : DrC} {cs : List PyData} {i L : Nat} {n m : Int} {S : Sto} {Q : D → Sto → Prop} {X : Exn → Sto → Prop}
theorem drawX_wp (hc0 : c.ok) (hc : Cells cs) (h : Tape cs i L n S) (hn : n ≤ 1000000000000) (hm : 0 < m) (hm2 : m.natAbs.log2 < 9000)
    (q : ∀ g S', 0 ≤ g → g < m → Tape cs i L (n + 1) S' → Q (.p (.int g)) S') : wp (cutX S.length (runF 6 (drawB2 c) [.ob i, .p (.int m)] S)) Q X := by
  obtain ⟨g, S', e, a, b, c⟩ := draw2_ok hc0 hc h hn hm hm2
  rw [e, cutX_same (c.1.trans h.1.symm)]
  exact q g S' a b c
def pickBX (dr : List D → M D) : FS := (sRet (e2 opSubs (eVar 1) (eCallX 2 dr (aCons (eVar 0) (aCons (eA lenM (aCons (eVar 1) aNil)) aNil)))))
theorem pickX_wp (hc0 : c.ok) {xs : List PyData} (hc : Cells cs) (h : Tape cs i L n S) (hn : n ≤ 1000000000000) (hx : xs ≠ []) (hx2 : xs.length < 1000000)
    (q : ∀ d S', d ∈ xs → Tape cs i L (n + 1) S' → Q (.p d) S') : wp (cutX S.length (runF 2 (pickBX (runF 6 (drawB2 c))) [.ob i, .p (.list xs)] S)) Q X := by
  have hl : 0 < xs.length := List.length_pos_iff.mpr hx
  refine wp_cutXS ?_
  rw [wp_run]
  show wpS (pickBX (runF 6 (drawB2 c)) [some (.ob i), some (.p (.list xs))] S) _
  unfold pickBX
  simp
  refine drawX_wp hc0 hc h hn (by omega) (by
    have := lg (n := ((xs.length : Int)).natAbs) (k := 40) (by have : (2 : Nat) ^ 40 = 1099511627776 := by decide
                                                               omega) (by decide)
    omega) fun g S' g0 g1 t => ?_
  obtain ⟨d, e2, hd⟩ := atI_ok g0 g1
  simp [subs_l e2]
  exact ⟨t.1.trans h.1.symm, q d S' hd t⟩
end
end DL

namespace DL
open PySem L2 PySem.Spec PyProof.Rows

set_option maxHeartbeats 1000000 in
theorem meets_enum1 {v : Value} {o : Obj} {H : Heap → Prop} (B : Begins v o H) :
    Meets (Builtin.«enumerate.__new__» ⟨[.type "enumerate", v], []⟩) (fun _ R s => H s.heap ∧
      R (.ok (.ret (.ref (s.heap.push o).objs.size))) { s with heap := (s.heap.push o).push { cls := .type "enumerate", data := .fields #[.none, .bool false, .ref s.heap.objs.size, rawInt 0, .none, .none] } }) :=
  .of_wp fun prog w A R s h => by
    obtain ⟨hp, g, d, tk, os⟩ := s; obtain ⟨h1, h⟩ := h
    have hsub := sub_enumerate
    have q1 : ∀ {A' : Around} {E : Value → Shared → Prop} {Q : Value → Shared → Prop}, Q (.ref hp.objs.size) ⟨hp.push o, g, d, tk, os⟩ → wpAny (model prog w) A' (pyIter v) Q E ⟨hp, g, d, tk, os⟩ :=
      fun q => B.iter prog w _ _ ⟨hp, g, d, tk, os⟩ _ h1 q
    wp_walk using q1
    refine wpAny_stack_any fun st => wpAny_pure ?_
    split
    · rename_i c _ _ _ _ _
      cases (c == Value.type "enumerate")
      · wp_walk using q1
        exact ⟨_, rfl, h⟩
      · wp_walk using q1
        exact ⟨_, rfl, h⟩
    · wp_walk using q1
      exact ⟨_, rfl, h⟩
theorem enum_begins1 {prog : Program} {w : World} {A : Around} {E : Value → Shared → Prop} {s : Shared} {v : Value} {o : Obj} {H : Heap → Prop} {Q : Value → Shared → Prop} (B : Begins v o H) (h1 : H s.heap)
    (h : ∀ h', IsEnum h' (s.heap.objs.size + 1) s.heap.objs.size 0 .none → h'.get? s.heap.objs.size = some o → h'.objs.size = s.heap.objs.size + 2 →
      (∀ b o, s.heap.get? b = some o → h'.get? b = some o) → Q (.ref (s.heap.objs.size + 1)) { s with heap := h' }) :
    wpAny (model prog w) A (call (.type "enumerate") [v]) Q E s := by
  refine callType_new F.called_enumerate (by decide) (F.typeCall_enumerate_1 _) (F.newCall_enumerate_1 _) (fun obj => F.args_object_init_2 obj _) F.entry_enumerate_new (meets_enum1 B) ⟨h1, ?_⟩
  have hz : (s.heap.push o).objs.size = s.heap.objs.size + 1 := Heap.size_push ..
  show _ ∧ _
  rw [hz]
  have he : IsEnum ((s.heap.push o).push { cls := .type "enumerate", data := .fields #[.none, .bool false, .ref s.heap.objs.size, rawInt 0, .none, .none] }) (s.heap.objs.size + 1) s.heap.objs.size 0 .none := by
    have := Heap.get?_push_size (s.heap.push o) (o := { cls := .type "enumerate", data := .fields #[.none, .bool false, .ref s.heap.objs.size, rawInt 0, .none, .none] }) rfl
    rw [hz] at this; exact this
  refine ⟨⟨_, he, rfl⟩, h _ he (Heap.get?_push_of_some _ (Heap.get?_push_size _ B.free)) (by rw [Heap.size_push, hz]) fun b o x => Heap.get?_push_of_some _ (Heap.get?_push_of_some _ x)⟩
/-- the tuple at a, each item in a new pair -/
def IteT (K : PySem.W.Frag) (a : Addr) : It :=
  ⟨fun i H => ∃ (xs : List V) (x : V), SqT K H a xs ∧ xs[i]? = some x, fun i H v H' => ∃ T x, v = .ref T ∧ H T = none ∧ H' = upd H T (.tup [.int (i : Nat), x]) ∧ ∀ xs, SqT K H a xs → xs[i]? = some x, fun i H => ∃ xs : List V, SqT K H a xs ∧ xs.length = i⟩
theorem turn_enumT {P : Program} {w : World} {K : PySem.W.Frag} {elts : List Expr} {kk : Nat} {tpos : Pos} (a e it : Addr) :
    Turn P w K (.Tuple elts kk tpos) (IteT K a) [e, it] e (fun i h => (∃ old, IsEnum h e it ((i : Nat) : Int) old) ∧ h.IsTupleIter it a i ∧ e ≠ it ∧ e ≠ a ∧ it ≠ a) where
  mem := by simp
  obj := fun i h st b hb => by
    obtain ⟨⟨old, he⟩, ⟨o, ho, hc, hd⟩, _⟩ := st
    have e' : b = e ∨ b = it := by simpa using hb
    rcases e' with z | z
    · rw [z]; exact ⟨_, he, fun v q => nomatch q⟩
    · rw [z]; exact ⟨o, ho, fun v q => by rw [hd] at q; cases q⟩
  keep := fun i h h' st k => let ⟨⟨old, he⟩, hi, hne⟩ := st; ⟨⟨old, k e (by simp) _ he⟩, hi.at fun o q => k it (by simp) o q, hne⟩
  item := by
    intro X hP hw hK hc i pins s σ H E I hf st hg
    subst hP hw hK
    obtain ⟨⟨old, he⟩, hit, hne, hea, hia⟩ := st
    obtain ⟨xs, x, hq, hx⟩ := hg
    obtain ⟨its, rv, p, hz⟩ := I.tuple hq
    obtain ⟨u, hu, ru⟩ := rv.get hx
    have hel : e < s.heap.objs.size := Heap.lt_size he
    have hil : it < s.heap.objs.size := by obtain ⟨_, q, _⟩ := hit; exact Heap.lt_size q
    have hlt : i < its.toArray.size := by
      have := (List.getElem?_eq_some_iff.mp hu).1
      simpa using this
    refine wpAny_pyNext_enum_itemC (Draws.tuple (prog := X.prog) (w := X.w) (A := X.A.in1) (I.ok.hd hc) it a (Ne.symm hia) its.toArray) he ⟨hit, p⟩ hlt hne (by simp [hne, hea]) fun u' h' tk hP ho hst' hT hsz hk => ?_
    have eu : u' = u := by
      have h2 : its.toArray[i]? = some u := by simpa using hu
      rw [h2] at hP; cases hP; rfl
    subst eu
    refine ⟨_, rfl, wpAny_letOwnedTupleGo_enum (s := { s with heap := h', toks := tk + 1 }) ho fun h'' he' sb => ?_⟩
    have hT2 : h''.get? s.heap.objs.size = some { cls := .type "tuple", data := .seq #[.int i tk, u'] } := (sb.2 _ (Nat.ne_of_gt hel)).trans hT
    have new : ObjOk X.prog X.w (upd H s.heap.objs.size (.tup [.int (i : Nat), x])) h'' s.heap.objs.size (.tup [.int (i : Nat), x]) :=
      ⟨by show 2 ≤ sizeLine; decide, [.int i tk, u'], .cons ⟨_, rfl⟩ (.cons ru .nil), ⟨_, hT2, rfl, _, rfl⟩⟩
    have I1 : L2.Inv X pins σ (upd H s.heap.objs.size (.tup [.int (i : Nat), x])) { s with heap := h'', toks := tk + 1 } :=
      I.turnedNew (ch := [e, it]) (fun b ob hb q => (sb.2 b (fun z => hb (by simp [z]))).trans (hk b ob (fun z => hb (by simp [z])) (fun z => hb (by simp [z])) q)) hf (Nat.le_refl _) new
    refine ⟨.ref s.heap.objs.size, _, I1, rfl, ⟨_, x, rfl, I.hok.fresh (Nat.le_refl _), rfl, fun ys hy => by rw [I.tuple_inj hy hq]; exact hx⟩, ⟨⟨u', ?_⟩, hst'.1.at fun o q => (sb.2 it (Ne.symm hne)).trans q, hne, hea, hia⟩, fun b hb => ?_⟩
    · have e1 : ((i + 1 : Nat) : Int) = (i : Int) + 1 := by omega
      rw [e1]; exact he'
    · have hb' : b < s.heap.objs.size := by
        have e' : b = e ∨ b = it := by simpa using hb
        rcases e' with z | z
        · rw [z]; exact hel
        · rw [z]; exact hil
      rw [upd_ne (Nat.ne_of_lt hb')]
      exact (hf b hb).1
  done := by
    intro X hP hw hK hc i pins s σ H E I hf st hg
    subst hP hw hK
    obtain ⟨⟨old, he⟩, hit, hne, hea, hia⟩ := st
    obtain ⟨xs, hq, hx⟩ := hg
    obtain ⟨its, rv, p, hz⟩ := I.tuple hq
    obtain ⟨f0, f1, f2, f3, f4, f5⟩ := hf it (by simp)
    have hl := rv.length
    have hi : i = its.toArray.size := by simp; omega
    subst hi
    exact wpAny_pyNext_enum_endD (Draws.tuple (prog := X.prog) (w := X.w) (A := X.A.in1) (I.ok.hd hc) it a (Ne.symm hia) its.toArray) he ⟨hit, p⟩ fun h' eb => ⟨rfl, I.turned (t' := s.toks) (fun b o hb q => eb b o hb q) f0 f1 f3 f4 f5⟩
  self := fun A i s Q E st h => let ⟨⟨_, he⟩, _⟩ := st; wpAny_pyIter_enum he h
def iEnumX (K : PySem.W.Frag) (ta : TA) : TI := fun σ H R => ta σ H fun vs H1 => ∃ a xs, vs = [.ref a] ∧ ((SqT K H1 a xs ∧ R (IteT K a) H1) ∨ (SqL K H1 a xs ∧ R (Ite K a) H1))
theorem pi_enumX {X : Cx} {e : Expr} {ta : TA} {p pos tpos : Pos} {elts : List Expr} {kk : Nat} (hg : Gl X "enumerate") (hm : X.mg "enumerate" = none) (ha : PA X [e] ta) (hs : starEach [e] X.env = [(false, eval e X.env)] := by rfl) :
    PI X (.Tuple elts kk tpos) (.Call (.Name "enumerate" p) [e] [] pos) (iEnumX X.K ta) := by
  refine ⟨fun pins s σ H R I h => ?_⟩
  refine Call_ (ld_blt I hg hm boot_enumerate (PyProof.Rows.callWith_type1 (thn (ha.run pos pins s σ H _ I h) fun us s1 ⟨vs, H1, I1, r1, q1⟩ => ?_) hs rfl))
  obtain ⟨a, xs, ex, q⟩ := q1
  subst ex
  cases r1 with
  | cons r rr =>
    cases rr
    cases r
    have fp : ∀ b ∈ [s1.heap.objs.size + 1, s1.heap.objs.size], FpOk X pins H1 b := fun b hb => by
      have e' : b = s1.heap.objs.size + 1 ∨ b = s1.heap.objs.size := by simpa using hb
      have hle : s1.heap.objs.size ≤ b := by
        rcases e' with z | z
        · rw [z]; exact Nat.le_add_right _ _
        · rw [z]; exact Nat.le_refl _
      exact I1.fpOk hle (I1.hok.fresh hle)
    rcases q with ⟨hq, q⟩ | ⟨hq, q⟩
    · obtain ⟨its, rv, p', hz⟩ := I1.tuple hq
      have hal : a < s1.heap.objs.size := by obtain ⟨_, q, _⟩ := p'; exact Heap.lt_size q
      refine enum_begins1 (begins_tuple a its.toArray) p' fun h' he hit hsz hk => wpAny_pyIter_enum he ?_
      have I2 : L2.Inv X pins σ H1 { s1 with heap := h' } := I1.kept (t' := s1.toks) hk
      exact ⟨s1.heap.objs.size + 1, [s1.heap.objs.size + 1, s1.heap.objs.size], _, _, H1, rfl, I2, turn_enumT a (s1.heap.objs.size + 1) s1.heap.objs.size, ⟨⟨.none, he⟩, ⟨_, hit, rfl, rfl⟩, Nat.succ_ne_self _, Nat.ne_of_gt (Nat.lt_succ_of_lt hal), Nat.ne_of_gt hal⟩, fp, q⟩
    · obtain ⟨its, rv, p', hz⟩ := I1.list hq
      refine call_enumerate_list p'.isList fun h' he hit hsz hk => wpAny_pyIter_enum he ?_
      have I2 : L2.Inv X pins σ H1 { s1 with heap := h' } := I1.kept (t' := s1.toks) hk
      exact ⟨s1.heap.objs.size + 1, [s1.heap.objs.size + 1, s1.heap.objs.size], _, _, H1, rfl, I2, turn_enum a (s1.heap.objs.size + 1) s1.heap.objs.size, ⟨⟨.none, he⟩, hit, Nat.succ_ne_self _⟩, fp, q⟩
theorem gives_enumT {K : PySem.W.Frag} {H : Hp} {G : Gh} {S : Sto} {a : Addr} {vs : List V} {xs : List PyData} (rp : Rep K H G S) (fa : SqT K H a vs) (ta : DnAll K G.φ H xs vs) : Gives K (IteT K a) H G S (enumP 0 xs) where
  go := fun H1 G1 S1 x r i hi => by
    rw [enumP_len, ta.length] at hi
    exact ⟨vs, vs[i], x.tup rp fa, by simp⟩
  yld := fun H1 G1 S1 x r i d e v H' y => by
    obtain ⟨T, u, rfl, hT, rfl, y1⟩ := y
    have e1 := y1 vs (x.tup rp fa)
    obtain ⟨d1, ed1, dn1⟩ := (x.dnAll rp ta).getV e1
    obtain ⟨x', h1, rfl⟩ := enumP_get 0 xs i d e
    rw [ed1] at h1; cases h1
    have e0 : ((0 + i : Nat) : Int) = (i : Int) := by rw [Nat.zero_add]
    rw [e0]
    obtain ⟨p1, p2, p3⟩ := pair_new r hT (Dn.int (i : Int)) dn1
    exact ⟨p1, p2, p3, .inr ⟨T, _, hT, rfl⟩⟩
  stop := fun H1 G1 S1 x r => by
    rw [enumP_len, ta.length]
    exact ⟨vs, x.tup rp fa, rfl⟩
def enumXM : List D → M (List D) := fun ds S => match ds with
  | [.p (.list xs)] => .ok (enumP 0 xs) S
  | [.p (.tuple xs)] => .ok (enumP 0 xs) S
  | _ => .bad
theorem di_enumX {X : Cx} {W : WX} {a : Expr} {p pos : Pos} {fa : FA} {tpos : Pos} {elts : List Expr} {kk : Nat} (hg : Gl X "enumerate") (hm : X.mg "enumerate" = none) (ha : DA X W [a] fa) (hs : starEach [a] X.env = [(false, eval a X.env)] := by rfl) :
    DI X W (.Tuple elts kk tpos) (.Call (.Name "enumerate" p) [a] [] pos) (iA enumXM fa) := by
  refine ⟨PI.imp (pi_enumX hg hm ha.run hs) fun σ H R ⟨G, S, ρ, rs, rp, q⟩ => ⟨G, S, ρ, rs, rp, (Aft.bind q).mono fun ds H1 G1 S1 x1 r1 q1 vs dv => ?_⟩⟩
  unfold enumXM at q1
  split at q1
  · obtain ⟨v, rfl, d1⟩ := denL1 dv
    obtain ⟨a, vs, rfl, fa, ta⟩ := den_lst d1
    exact ⟨a, vs, rfl, .inr ⟨SqL.of (fa _ r1.phi), q1 H1 G1 Ext.refl r1 _ (gives_enum r1 fa ta)⟩⟩
  · obtain ⟨v, rfl, d1⟩ := denL1 dv
    obtain ⟨a, vs, rfl, hq, ta⟩ := den_tup d1
    exact ⟨a, vs, rfl, .inl ⟨hq, q1 H1 G1 Ext.refl r1 _ (gives_enumT r1 hq ta)⟩⟩
  · exact q1.elim
@[simp] theorem enumXM_t {xs : List PyData} {S : Sto} : enumXM [.p (.tuple xs)] S = .ok (enumP 0 xs) S := rfl
@[simp] theorem enumXM_l {xs : List PyData} {S : Sto} : enumXM [.p (.list xs)] S = .ok (enumP 0 xs) S := rfl
end DL

namespace DL
open PySem L2

def opAddX : D → D → M D := fun x y S => match lstOf S x, lstOf S y with
  | some xs, some ys => if xs.length + ys.length ≤ LIM then .ok (.p (.list (xs ++ ys))) S else .bad
  | _, _ => opAdd x y S
theorem sim_addX {K : PySem.W.Frag} : Sim2 K (rAddD K) opAddX := by
  intro W σ H G S x y v w Q rp dx dy q
  unfold opAddX at q
  split at q
  · rename_i xs ys e1 e2
    obtain ⟨a, vs, rfl, ha, ta⟩ := lstOf_den rp e1 dx
    obtain ⟨b, ws, rfl, hb, tb⟩ := lstOf_den rp e2 dy
    by_cases c : xs.length + ys.length ≤ LIM
    · rw [if_pos c] at q
      exact .inr (.inr (.inl ⟨a, b, vs, ws, rfl, rfl, ha, hb, by rw [← ta.length, ← tb.length]; exact Nat.le_trans c LIM_le, fun p hp => q.newLst rp (ta.append tb) hp⟩))
    · rw [if_neg c] at q; exact q.elim
  · exact sim_add W σ H G S x y v w Q rp dx dy q
theorem de_addX {X : Cx} {W : WX} {a b : Expr} {f h : FE} {pos : Pos} (ha : DE X W a f) (hb : DE X W b h) : DE X W (.BinOp a .Add b pos) (e2 opAddX f h) :=
  de_bin (op_add.or (op_add_str.or (op_cat.or op_catA))) sim_addX ha hb
@[simp] theorem opAddX_i {i j : Int} {S : Sto} : opAddX (.p (.int i)) (.p (.int j)) S = .ok (.p (.int (i + j))) S := rfl
theorem addX_s {i j : Str} {S : Sto} (h : i.length + j.length ≤ LIM) : opAddX (.p (.str i)) (.p (.str j)) S = .ok (.p (.str (i ++ j))) S := add_s h
theorem addX_t {i j : List PyData} {S : Sto} (h : i.length + j.length ≤ LIM) : opAddX (.p (.tuple i)) (.p (.tuple j)) S = .ok (.p (.tuple (i ++ j))) S := add_t h
theorem addX_l {i j : List PyData} {S : Sto} (h : i.length + j.length ≤ LIM) : opAddX (.p (.list i)) (.p (.list j)) S = .ok (.p (.list (i ++ j))) S := by simp [opAddX, lstOf, h]
theorem addX_po {i : Nat} {xs ys : List PyData} {S : Sto} (h : S[i]? = some (.lst ys)) (hl : xs.length + ys.length ≤ LIM) : opAddX (.p (.list xs)) (.ob i) S = .ok (.p (.list (xs ++ ys))) S := by simp [opAddX, lstOf, h, hl]
theorem addX_op {i : Nat} {xs ys : List PyData} {S : Sto} (h : S[i]? = some (.lst ys)) (hl : ys.length + xs.length ≤ LIM) : opAddX (.ob i) (.p (.list xs)) S = .ok (.p (.list (ys ++ xs))) S := by simp [opAddX, lstOf, h, hl]

/-- but for the object i the store is as before -/
def Oth (i : Nat) (S S' : Sto) : Prop := ∀ j, j ≠ i → S'[j]? = S[j]?
theorem Oth.refl {i : Nat} {S : Sto} : Oth i S S := fun _ _ => rfl
theorem Oth.trans {i : Nat} {S S1 S2 : Sto} (a : Oth i S S1) (b : Oth i S1 S2) : Oth i S S2 := fun j hj => (b j hj).trans (a j hj)
section
variable {c : DrC} {cs : List PyData} {i L : Nat} {n m : Int} {S : Sto} {Q : D → Sto → Prop} {X : Exn → Sto → Prop}
theorem drawK_ok (hc0 : c.ok) (hc : Cells cs) (h : Tape cs i L n S) (hn : n ≤ 1000000000000) (hm : 0 < m) (hm2 : m.natAbs.log2 < 9000) :
    ∃ g S', runF 6 (drawB2 c) [.ob i, .p (.int m)] S = .ok (.p (.int g)) S' ∧ 0 ≤ g ∧ g < m ∧ Tape cs i L (n + 1) S' ∧ Oth i S S' := by
  obtain ⟨hl, p, l, h0, h1, hS⟩ := h
  obtain ⟨g, p', l', a, b, c', d, e⟩ := drawB2_ok hc0 hc.1 hc.2 hS h0 (by omega) hm hm2
  refine ⟨g, _, e, a, b, ⟨by rw [List.length_set]; exact hl, p', l', c', by omega, tp_at hS⟩, fun j hj => ?_⟩
  rw [List.getElem?_set_ne (Ne.symm hj)]
theorem drawK_wp (hc0 : c.ok) (hc : Cells cs) (h : Tape cs i L n S) (hn : n ≤ 1000000000000) (hm : 0 < m) (hm2 : m.natAbs.log2 < 9000)
    (q : ∀ g S', 0 ≤ g → g < m → Tape cs i L (n + 1) S' → Oth i S S' → Q (.p (.int g)) S') : wp (cutX S.length (runF 6 (drawB2 c) [.ob i, .p (.int m)] S)) Q X := by
  obtain ⟨g, S', e, a, b, c, o⟩ := drawK_ok hc0 hc h hn hm hm2
  rw [e, cutX_same (c.1.trans h.1.symm)]
  exact q g S' a b c o
theorem pickK_wp (hc0 : c.ok) {xs : List PyData} (hc : Cells cs) (h : Tape cs i L n S) (hn : n ≤ 1000000000000) (hx : xs ≠ []) (hx2 : xs.length < 1000000)
    (q : ∀ d S', d ∈ xs → Tape cs i L (n + 1) S' → Oth i S S' → Q (.p d) S') : wp (cutX S.length (runF 2 (pickBX (runF 6 (drawB2 c))) [.ob i, .p (.list xs)] S)) Q X := by
  have hl : 0 < xs.length := List.length_pos_iff.mpr hx
  refine wp_cutXS ?_
  rw [wp_run]
  show wpS (pickBX (runF 6 (drawB2 c)) [some (.ob i), some (.p (.list xs))] S) _
  unfold pickBX
  simp
  refine drawK_wp hc0 hc h hn (by omega) (by
    have := lg (n := ((xs.length : Int)).natAbs) (k := 40) (by have : (2 : Nat) ^ 40 = 1099511627776 := by decide
                                                               omega) (by decide)
    omega) fun g S' g0 g1 t o => ?_
  obtain ⟨d, e2, hd⟩ := atI_ok g0 g1
  simp [subs_l e2]
  exact ⟨t.1.trans h.1.symm, q d S' hd t o⟩
end
section
variable {ρ : Ev} {S : Sto} {i : Nat} {xs ys : List PyData} {y : PyData} {m : D → List D → M D} {f : FE} {fa : FA}
@[simp] theorem eLm_ : eLm m f fa ρ S = (f ρ S).bind fun o S1 => match rlOf S1 o with
  | some _ => (fa ρ S1).bind fun ds S2 => m o ds S2
  | none => .bad := rfl
theorem rlOf_ob (h : S[i]? = some (.lst xs)) : rlOf S (.ob i) = some xs := by simp [rlOf, h]
theorem lstOf_ob (h : S[i]? = some (.lst xs)) : lstOf S (.ob i) = some xs := by simp [lstOf, h]
theorem append_ok (h : S[i]? = some (.lst xs)) (hl : xs.length < 1000000) : appendM (.ob i) [.p y] S = .ok (.p .none) (S.set i (.lst (xs ++ [y]))) := by simp [appendM, h, LIM, hl]
theorem extend_ok (h : S[i]? = some (.lst xs)) (hl : xs.length + ys.length ≤ 1000000) : extendM (.ob i) [.p (.list ys)] S = .ok (.p .none) (S.set i (.lst (xs ++ ys))) := by simp [extendM, h, lstOf, LIM, hl]
theorem pop_ok (h : S[i]? = some (.lst (xs ++ [y]))) : popM (.ob i) [] S = .ok (.p y) (S.set i (.lst xs)) := by simp [popM, h]
theorem popAt_ok {k : Nat} (h : S[i]? = some (.lst xs)) (hk : k ≤ 1000000) (hy : xs[k]? = some y) : popM (.ob i) [.p (.int k)] S = .ok (.p y) (S.set i (.lst (xs.eraseIdx k))) := by
  have : (k : Int) ≤ 1000000 := by omega
  simp [popM, h, this, hy]
theorem set_at {o : MO} (h : i < S.length) : (S.set i o)[i]? = some o := by rw [List.getElem?_set_self h]
theorem set_ne {o : MO} {j : Nat} (h : j ≠ i) : (S.set i o)[j]? = S[j]? := List.getElem?_set_ne (Ne.symm h)
theorem Tape.set {cs : List PyData} {t L : Nat} {n : Int} {o : MO} (h : Tape cs t L n S) (hi : i ≠ t) : Tape cs t L n (S.set i o) := by
  obtain ⟨a, p, l, b, c, d⟩ := h
  exact ⟨by rw [List.length_set]; exact a, p, l, b, c, by rw [List.getElem?_set_ne hi]; exact d⟩
theorem Tape.app {cs : List PyData} {t L : Nat} {n : Int} {o : MO} (h : Tape cs t L n S) (ht : t < L) : Tape cs t (L + 1) n (S ++ [o]) := by
  obtain ⟨a, p, l, b, c, d⟩ := h
  exact ⟨by rw [List.length_append, a]; rfl, p, l, b, c, by rw [List.getElem?_append_left (by omega)]; exact d⟩
theorem Tape.cut {cs : List PyData} {t L L' : Nat} {n : Int} (h : Tape cs t L' n S) (ht : t < L) (hl : L ≤ L') : Tape cs t L n (S.take L) := by
  obtain ⟨a, p, l, b, c, d⟩ := h
  exact ⟨by rw [List.length_take, a]; omega, p, l, b, c, by rw [List.getElem?_take, if_pos ht]; exact d⟩
end
end DL

namespace K57
open PySem L2 DL

inductive Fn where
  | f_is_whole
  | f_is_text
  | f_computed
  | f_value_of
  | f_is_for
  | f_need_primitive
  | f_Primitives_done
  | f_begin_l
  | f_draw_l
  | f_pick_l
  | f_done_l
  | f_whole_l
  | f_numbers_l
  | f_strings_l
  | f_wholes_right_l
  | f_texts_right_l
  | f_law

def g_BOUND : PyData := (.int 1000000000000000000000000000000)
def g_MOST_CHARACTERS : PyData := (.int 200)
def kd_SORTS : List (Str × PyData) := [("plus", (.tuple [(.str "whole"), (.str "whole"), (.str "whole")])), ("minus", (.tuple [(.str "whole"), (.str "whole"), (.str "whole")])), ("times", (.tuple [(.str "whole"), (.str "whole"), (.str "whole")])), ("equal", (.tuple [(.str "whole"), (.str "whole"), (.str "truth")])), ("upto", (.tuple [(.str "whole"), (.str "whole"), (.str "truth")])), ("join", (.tuple [(.str "text"), (.str "text"), (.str "text")])), ("size", (.tuple [(.str "text"), (.str "whole")])), ("eqtext", (.tuple [(.str "text"), (.str "text"), (.str "truth")])), ("uptotext", (.tuple [(.str "text"), (.str "text"), (.str "truth")])), ("spell", (.tuple [(.str "whole"), (.str "text")]))]
def b_f_is_whole (r : Fn → List D → M D) : FS :=
    (sRet (eAnd (e1 (isiM .int) (eVar 0)) (eAnd (eNot (e1 (isiM .bool) (eVar 0))) (eChain opLeX opLeX (e1 opNeg (eC (.p g_BOUND))) (eVar 0) (eC (.p g_BOUND))))))
def f_is_text_1 (r : Fn → List D → M D) : FS :=
    (sRet (eA (allM false) (aCons (eLc (iSeq (eVar 0)) (gN 1) tYesD (eAnd (eChain opLeX opLeX (eC (.p (.str " "))) (eVar 1) (eC (.p (.str "~")))) (e2 (opEqZ true) (eA ordM (aCons (eVar 1) aNil)) (eC (.p (.int 37))))) [1] finL) aNil)))
def b_f_is_text (r : Fn → List D → M D) : FS :=
    (sSeq (sIf (tOrD (tNotD (tVal (e1 (isiM .str) (eVar 0)))) (tC2 (opGt) (eA lenM (aCons (eVar 0) aNil)) (eC (.p g_MOST_CHARACTERS)))) (sRet (eC (.p (.bool false)))) sNext)
    (f_is_text_1 r))
def b_f_computed (r : Fn → List D → M D) : FS :=
    (sSeq (sAsgs (aCons (e2 opSubs (eVar 1) (eC (.p (.int 0)))) (aCons (e2 opSubs (eVar 1) (e1 opNeg (eC (.p (.int 1))))) aNil)) (gConss (gN 2) (gConss (gN 3) gNils)))
    (sMatch (eVar 0) [(.texts ["plus"], (sRet (e2 opAddX (eVar 2) (eVar 3)))), (.texts ["minus"], (sRet (e2 opSub (eVar 2) (eVar 3)))), (.texts ["times"], (sRet (e2 opMulX (eVar 2) (eVar 3)))), (.texts ["equal", "eqtext"], (sRet (e2 (opEqZ false) (eVar 2) (eVar 3)))), (.texts ["upto", "uptotext"], (sRet (e2 (opLeX) (eVar 2) (eVar 3)))), (.texts ["join"], (sRet (e2 opAddX (eVar 2) (eVar 3)))), (.texts ["size"], (sRet (eA lenM (aCons (eVar 2) aNil)))), (.any, (sRet (eA strM (aCons (eVar 2) aNil))))]))
def f_value_of_1 (r : Fn → List D → M D) : FS :=
    (sRet (eA mkTup (aCons (eC (.p (.str "made"))) (aCons (eIf (tVal (eVar 1)) (eC (.p (.str "yes"))) (eC (.p (.str "no")))) (aCons (eA mkTup aNil) aNil)))))
def f_value_of_2 (r : Fn → List D → M D) : FS :=
    (sSeq (sIf (tC2 (opEqZ false) (eVar 0) (eC (.p (.str "text")))) (sRet (eA mkTup (aCons (eC (.p (.str "text"))) (aCons (eSli (eVar 1) oNone (oSome (eC (.p g_MOST_CHARACTERS)))) aNil)))) sNext)
    (f_value_of_1 r))
def b_f_value_of (r : Fn → List D → M D) : FS :=
    (sSeq (sIf (tC2 (opEqZ false) (eVar 0) (eC (.p (.str "whole")))) (sRet (eA mkTup (aCons (eC (.p (.str "whole"))) (aCons (eA max2M (aCons (e1 opNeg (eC (.p g_BOUND))) (aCons (eA min2M (aCons (eC (.p g_BOUND)) (aCons (eVar 1) aNil))) aNil))) aNil)))) sNext)
    (f_value_of_2 r))
def f_is_for_1 (r : Fn → List D → M D) : FS :=
    (sRet (eIf (tC2 (opEqZ false) (eVar 0) (eC (.p (.str "whole")))) (eCallX 1 (r .f_is_whole) (aCons (e2 opSubs (eVar 1) (eC (.p (.int 1)))) aNil)) (eCallX 1 (r .f_is_text) (aCons (e2 opSubs (eVar 1) (eC (.p (.int 1)))) aNil))))
def b_f_is_for (r : Fn → List D → M D) : FS :=
    (sSeq (sIf (tOrD (tNotD (tVal (e1 (isiM .tuple) (eVar 1)))) (tOrD (tC2 (opEqZ true) (eA lenM (aCons (eVar 1) aNil)) (eC (.p (.int 2)))) (tOrD (tNotD (tVal (e1 (isiM .str) (e2 opSubs (eVar 1) (eC (.p (.int 0))))))) (tC2 (opEqZ true) (e2 opSubs (eVar 1) (eC (.p (.int 0)))) (eVar 0))))) (sRet (eC (.p (.bool false)))) sNext)
    (f_is_for_1 r))
def b_f_need_primitive (r : Fn → List D → M D) : FS :=
    (sIf (tOrD (tNotD (tVal (e1 (isiM .str) (eVar 0)))) (tKd true kd_SORTS (eVar 0))) sBad sNext)
def f_Primitives_done_1 (r : Fn → List D → M D) : FS :=
    (sIf (tOrD (tC2 (opGe) (eVar 3) (eA lenM (aCons (eVar 2) aNil))) (tNotD (tVal (eCallX 2 (r .f_is_for) (aCons (e2 opSubs (eVar 2) (eVar 3)) (aCons (eVar 4) aNil)))))) sBad sNext)
def f_Primitives_done_2 (r : Fn → List D → M D) : FS :=
    (sRet (eCallX 2 (r .f_value_of) (aCons (e2 opSubs (e1 (kdM kd_SORTS) (eVar 0)) (e1 opNeg (eC (.p (.int 1))))) (aCons (eCallX 2 (r .f_computed) (aCons (eVar 0) (aCons (eLc (iSeq (eVar 1)) (gN 4) tYesD (e2 opSubs (eVar 4) (eC (.p (.int 1)))) [4] finL) aNil))) aNil))))
def f_Primitives_done_3 (r : Fn → List D → M D) : FS :=
    (sSeq (sIf (tC2 (opLt) (eA lenM (aCons (eVar 1) aNil)) (eA lenM (aCons (eVar 2) aNil))) sBad sNext)
    (f_Primitives_done_2 r))
def b_f_Primitives_done (r : Fn → List D → M D) : FS :=
    (sSeq (sExpr (eCallX 1 (r .f_need_primitive) (aCons (eVar 0) aNil)))
    (sSeq (sSet 2 (eSli (e1 (kdM kd_SORTS) (eVar 0)) oNone (oSome (e1 opNeg (eC (.p (.int 1)))))))
    (sSeq (sFor (iA enumXM (aCons (eVar 1) aNil)) (gTupD 2 (gConss (gN 3) (gConss (gN 4) gNils))) (f_Primitives_done_1 r))
    (f_Primitives_done_3 r))))
def b_f_begin_l (r : Fn → List D → M D) : FS :=
    (sRet (eDisp [((eC (.p (.str "cells"))), (eOr (eSli (eVar 0) oNone (oSome (eC (.p (.int 63))))) (eA mkLst (aCons (eC (.p (.int 0))) aNil)))), ((eC (.p (.str "place"))), (eC (.p (.int 0)))), ((eC (.p (.str "left"))), (eC (.p (.int 0))))] finDM))
def f_draw_l_1 (r : Fn → List D → M D) : FS :=
    (sSeq (sAsgs (aCons (e2 opMod (eA intM (aCons (e2 opSubs (eVar 0) (eC (.p (.str "left")))) aNil)) (eVar 1)) (aCons (e2 opDivX (e2 opSubs (eVar 0) (eC (.p (.str "left")))) (eVar 1)) aNil)) (gConss (gN 2) (gConss (gSubD (eVar 0) (eC (.p (.str "left")))) gNils)))
    (sRet (eVar 2)))
def b_f_draw_l (r : Fn → List D → M D) : FS :=
    (sSeq (sIf (tC2 (opLt) (e2 opSubs (eVar 0) (eC (.p (.str "left")))) (eVar 1)) (sSeq (sAsgs (aCons (e2 opSubs (eVar 0) (eC (.p (.str "place")))) (aCons (eA lenM (aCons (e2 opSubs (eVar 0) (eC (.p (.str "cells")))) aNil)) aNil)) (gConss (gN 3) (gConss (gN 4) gNils)))
    (sSeq (sAsgs (aCons (e2 opSubs (e2 opSubs (eVar 0) (eC (.p (.str "cells")))) (e2 opMod (eA intM (aCons (eVar 3) aNil)) (eVar 4))) (aCons (e2 opAdd (eVar 3) (eC (.p (.int 1)))) aNil)) (gConss (gN 5) (gConss (gSubD (eVar 0) (eC (.p (.str "place")))) gNils)))
    (sSeq (sAsg (e2 opMod (eA intM (aCons (e2 opPow (e2 opAdd (e2 opAdd (e2 opMod (eA intM (aCons (eVar 5) aNil)) (eC (.p (.int 2147483629)))) (e2 opMulX (eC (.p (.int 39373))) (eVar 3))) (eC (.p (.int 69621)))) (eC (.p (.int 19)))) aNil)) (e2 opAdd (e2 opPow (eC (.p (.int 10))) (eC (.p (.int 52)))) (eC (.p (.int 97))))) (gSubD (eVar 0) (eC (.p (.str "left")))))
    (sIf (tAndD (tC2 (opGe) (eVar 5) (e2 opPow (eC (.p (.int 10))) (eC (.p (.int 18))))) (tC2 (opLt) (eVar 3) (eVar 4))) (sAsg (e2 opSub (eVar 5) (e2 opPow (eC (.p (.int 10))) (eC (.p (.int 18))))) (gSubD (eVar 0) (eC (.p (.str "left"))))) sNext)))) sNext)
    (f_draw_l_1 r))
def b_f_pick_l (r : Fn → List D → M D) : FS :=
    (sRet (e2 opSubs (eVar 1) (eCallX 2 (r .f_draw_l) (aCons (eVar 0) (aCons (eA lenM (aCons (eVar 1) aNil)) aNil)))))
def b_f_done_l (r : Fn → List D → M D) : FS :=
    (sSeq (sSet 3 (eCallX 3 (r .f_Primitives_done) (aCons (eVar 0) (aCons (eVar 1) (aCons (eVar 2) aNil)))))
    (sRet (eIf (tC2 (opEqZ false) (e2 opSubs (eVar 3) (eC (.p (.int 0)))) (eC (.p (.str "made")))) (e2 (opEqZ false) (e2 opSubs (eVar 3) (eC (.p (.int 1)))) (eC (.p (.str "yes")))) (e2 opSubs (eVar 3) (eC (.p (.int 1)))))))
def b_f_whole_l (r : Fn → List D → M D) : FS :=
    (sRet (eA mkTup (aCons (eC (.p (.str "whole"))) (aCons (eVar 0) aNil))))
def f_numbers_l_1 (r : Fn → List D → M D) : FS :=
    (sSeq (sSet 3 (eCallX 2 (r .f_pick_l) (aCons (eVar 0) (aCons (e2 opAddX (eA mkLst (aCons (eC (.p (.int 0))) (aCons (eC (.p (.int 0))) (aCons (e2 opPow (eC (.p (.int 10))) (eC (.p (.int 30)))) (aCons (e1 opNeg (e2 opPow (eC (.p (.int 10))) (eC (.p (.int 30))))) (aCons (eCallX 2 (r .f_draw_l) (aCons (eVar 0) (aCons (e2 opPow (eC (.p (.int 10))) (eC (.p (.int 30)))) aNil))) (aCons (e2 opSub (eCallX 2 (r .f_draw_l) (aCons (eVar 0) (aCons (eC (.p (.int 9))) aNil))) (eC (.p (.int 4)))) aNil))))))) (eVar 1)) aNil))))
    (sExpr (eLm appendM (eVar 1) (aCons (eA max2M (aCons (e1 opNeg (e2 opPow (eC (.p (.int 10))) (eC (.p (.int 30))))) (aCons (eA min2M (aCons (e2 opPow (eC (.p (.int 10))) (eC (.p (.int 30)))) (aCons (e2 opSub (e2 opAddX (eVar 3) (eCallX 2 (r .f_draw_l) (aCons (eVar 0) (aCons (eC (.p (.int 3))) aNil)))) (eC (.p (.int 1)))) aNil))) aNil))) aNil))))
def f_numbers_l_2 (r : Fn → List D → M D) : FS :=
    (sRet (eIce (eVar 1)))
def b_f_numbers_l (r : Fn → List D → M D) : FS :=
    (sSeq (sSet 1 (eA mkLstM aNil))
    (sSeq (sFor (iRange (aCons (eC (.p (.int 3))) aNil)) (gN 2) (f_numbers_l_1 r))
    (f_numbers_l_2 r)))
def f_strings_l_1 (r : Fn → List D → M D) : FS :=
    (sSeq (sSet 3 (e2 opAddX (eCallX 2 (r .f_pick_l) (aCons (eVar 0) (aCons (e2 opAddX (eA mkLst (aCons (eC (.p (.str ""))) (aCons (eC (.p (.str "a"))) (aCons (eC (.p (.str "ab"))) (aCons (eC (.p (.str "B"))) (aCons (eC (.p (.str "~"))) (aCons (eC (.p (.str " "))) aNil))))))) (eVar 1)) aNil))) (eCallX 2 (r .f_pick_l) (aCons (eVar 0) (aCons (eA mkLst (aCons (eC (.p (.str ""))) (aCons (eC (.p (.str ""))) (aCons (eC (.p (.str "a"))) (aCons (eC (.p (.str "Z"))) aNil))))) aNil)))))
    (sExpr (eLm appendM (eVar 1) (aCons (eSli (e2 opMulX (eVar 3) (eCallX 2 (r .f_pick_l) (aCons (eVar 0) (aCons (eA mkLst (aCons (eC (.p (.int 1))) (aCons (eC (.p (.int 1))) (aCons (eC (.p (.int 1))) (aCons (eC (.p (.int 40))) (aCons (eC (.p (.int 199))) aNil)))))) aNil)))) oNone (oSome (eC (.p (.int 200))))) aNil))))
def f_strings_l_2 (r : Fn → List D → M D) : FS :=
    (sRet (eIce (eVar 1)))
def b_f_strings_l (r : Fn → List D → M D) : FS :=
    (sSeq (sSet 1 (eA mkLstM aNil))
    (sSeq (sFor (iRange (aCons (eC (.p (.int 3))) aNil)) (gN 2) (f_strings_l_1 r))
    (f_strings_l_2 r)))
def f_wholes_right_l_1 (r : Fn → List D → M D) : FS :=
    (sSeq (sSet 3 (eA mkLst (aCons (eCallX 2 (r .f_Primitives_done) (aCons (eC (.p (.str "spell"))) (aCons (eVar 4) aNil))) (aCons (eCallX 2 (r .f_Primitives_done) (aCons (eC (.p (.str "spell"))) (aCons (eVar 5) aNil))) aNil))))
    (sRet (eAnd (e2 (opEqZ false) (eCallX 3 (r .f_done_l) (aCons (eC (.p (.str "eqtext"))) (aCons (e2 opSubs (eVar 3) (eC (.p (.int 0)))) (aCons (e2 opSubs (eVar 3) (eC (.p (.int 1)))) aNil)))) (eVar 12)) (e2 (opEqZ false) (eA intTM (aCons (e2 opSubs (e2 opSubs (eVar 3) (eC (.p (.int 0)))) (eC (.p (.int 1)))) aNil)) (eVar 0)))))
def f_wholes_right_l_2 (r : Fn → List D → M D) : FS :=
    (sSeq (sIf (tOrD (tC2 (opEqZ true) (eCallX 3 (r .f_done_l) (aCons (eC (.p (.str "minus"))) (aCons (eVar 4) (aCons (eVar 4) aNil)))) (eC (.p (.int 0)))) (tOrD (tC2 (opEqZ true) (eCallX 3 (r .f_done_l) (aCons (eC (.p (.str "times"))) (aCons (eVar 4) (aCons (eCallX 1 (r .f_whole_l) (aCons (eC (.p (.int 1))) aNil)) aNil)))) (eVar 0)) (tC2 (opEqZ true) (eCallX 3 (r .f_done_l) (aCons (eC (.p (.str "plus"))) (aCons (eVar 4) (aCons (eCallX 1 (r .f_whole_l) (aCons (eC (.p (.int 0))) aNil)) aNil)))) (eVar 0)))) (sRet (eC (.p (.bool false)))) sNext)
    (f_wholes_right_l_1 r))
def f_wholes_right_l_3 (r : Fn → List D → M D) : FS :=
    (sSeq (sIf (tAndD (tVal (eVar 10)) (tNotD (tVal (eCallX 3 (r .f_done_l) (aCons (eC (.p (.str "upto"))) (aCons (eCallX 1 (r .f_whole_l) (aCons (eVar 8) aNil)) (aCons (eCallX 1 (r .f_whole_l) (aCons (eCallX 3 (r .f_done_l) (aCons (eC (.p (.str "plus"))) (aCons (eVar 5) (aCons (eVar 5) aNil)))) aNil)) aNil))))))) (sRet (eC (.p (.bool false)))) sNext)
    (f_wholes_right_l_2 r))
def f_wholes_right_l_4 (r : Fn → List D → M D) : FS :=
    (sSeq (sIf (tAndD (tVal (eVar 10)) (tAndD (tVal (eCallX 3 (r .f_done_l) (aCons (eC (.p (.str "upto"))) (aCons (eVar 5) (aCons (eVar 6) aNil))))) (tNotD (tVal (eCallX 3 (r .f_done_l) (aCons (eC (.p (.str "upto"))) (aCons (eVar 4) (aCons (eVar 6) aNil)))))))) (sRet (eC (.p (.bool false)))) sNext)
    (f_wholes_right_l_3 r))
def f_wholes_right_l_5 (r : Fn → List D → M D) : FS :=
    (sSeq (sAsgs (aCons (eCallX 3 (r .f_done_l) (aCons (eC (.p (.str "upto"))) (aCons (eVar 4) (aCons (eVar 5) aNil)))) (aCons (eCallX 3 (r .f_done_l) (aCons (eC (.p (.str "upto"))) (aCons (eVar 5) (aCons (eVar 4) aNil)))) (aCons (eCallX 3 (r .f_done_l) (aCons (eC (.p (.str "equal"))) (aCons (eVar 4) (aCons (eVar 5) aNil)))) aNil))) (gConss (gN 10) (gConss (gN 11) (gConss (gN 12) gNils))))
    (sSeq (sIf (tOrD (tC2 (opEqZ true) (eVar 12) (eAnd (eVar 10) (eVar 11))) (tOrD (tNotD (tOrD (tVal (eVar 10)) (tVal (eVar 11)))) (tNotD (tVal (eCallX 3 (r .f_done_l) (aCons (eC (.p (.str "upto"))) (aCons (eVar 4) (aCons (eVar 4) aNil)))))))) (sRet (eC (.p (.bool false)))) sNext)
    (f_wholes_right_l_4 r)))
def f_wholes_right_l_6 (r : Fn → List D → M D) : FS :=
    (sSeq (sIf (tAndD (tChain opLt opLt (e1 opNeg (eVar 7)) (eVar 8) (eVar 7)) (tAndD (tChain opLt opLt (e1 opNeg (eVar 7)) (e2 opAddX (eVar 1) (eVar 2)) (eVar 7)) (tChain opLeX opLeX (e1 opNeg (eVar 7)) (e2 opAddX (e2 opAddX (eVar 0) (eVar 1)) (eVar 2)) (eVar 7)))) (sIf (tC2 (opEqZ true) (eCallX 3 (r .f_done_l) (aCons (eC (.p (.str "plus"))) (aCons (eCallX 1 (r .f_whole_l) (aCons (eVar 8) aNil)) (aCons (eVar 6) aNil)))) (eCallX 3 (r .f_done_l) (aCons (eC (.p (.str "plus"))) (aCons (eVar 4) (aCons (eCallX 1 (r .f_whole_l) (aCons (e2 opAddX (eVar 1) (eVar 2)) aNil)) aNil))))) (sRet (eC (.p (.bool false)))) sNext) sNext)
    (f_wholes_right_l_5 r))
def f_wholes_right_l_7 (r : Fn → List D → M D) : FS :=
    (sSeq (sIf (tAndD (tChain opLt opLt (e1 opNeg (eVar 7)) (eVar 8) (eVar 7)) (tC2 (opEqZ true) (eCallX 3 (r .f_done_l) (aCons (eC (.p (.str "minus"))) (aCons (eCallX 1 (r .f_whole_l) (aCons (eVar 8) aNil)) (aCons (eVar 5) aNil)))) (eVar 0))) (sRet (eC (.p (.bool false)))) sNext)
    (f_wholes_right_l_6 r))
def b_f_wholes_right_l (r : Fn → List D → M D) : FS :=
    (sSeq (sAsgs (aCons (eCallX 1 (r .f_whole_l) (aCons (eVar 0) aNil)) (aCons (eCallX 1 (r .f_whole_l) (aCons (eVar 1) aNil)) (aCons (eCallX 1 (r .f_whole_l) (aCons (eVar 2) aNil)) (aCons (e2 opPow (eC (.p (.int 10))) (eC (.p (.int 30)))) aNil)))) (gConss (gN 4) (gConss (gN 5) (gConss (gN 6) (gConss (gN 7) gNils)))))
    (sSeq (sAsgs (aCons (eCallX 3 (r .f_done_l) (aCons (eC (.p (.str "plus"))) (aCons (eVar 4) (aCons (eVar 5) aNil)))) (aCons (eCallX 3 (r .f_done_l) (aCons (eC (.p (.str "times"))) (aCons (eVar 4) (aCons (eVar 5) aNil)))) aNil)) (gConss (gN 8) (gConss (gN 9) gNils)))
    (sSeq (sIf (tOrD (tC2 (opEqZ true) (eVar 8) (eCallX 3 (r .f_done_l) (aCons (eC (.p (.str "plus"))) (aCons (eVar 5) (aCons (eVar 4) aNil))))) (tOrD (tC2 (opEqZ true) (eVar 9) (eCallX 3 (r .f_done_l) (aCons (eC (.p (.str "times"))) (aCons (eVar 5) (aCons (eVar 4) aNil))))) (tNotD (tChain opLeX opLeX (e1 opNeg (eVar 7)) (eVar 8) (eVar 7))))) (sRet (eC (.p (.bool false)))) sNext)
    (f_wholes_right_l_7 r))))
def f_texts_right_l_1 (r : Fn → List D → M D) : FS :=
    (sRet (eAnd (eCallX 3 (r .f_done_l) (aCons (eC (.p (.str "uptotext"))) (aCons (eVar 4) (aCons (eVar 7) aNil)))) (eOr (eVar 11) (eAnd (eNot (eVar 11)) (e2 (opEqZ true) (eVar 9) (eVar 10))))))
def f_texts_right_l_2 (r : Fn → List D → M D) : FS :=
    (sSeq (sIf (tAndD (tVal (eVar 9)) (tAndD (tVal (eCallX 3 (r .f_done_l) (aCons (eC (.p (.str "uptotext"))) (aCons (eVar 5) (aCons (eVar 6) aNil))))) (tNotD (tVal (eCallX 3 (r .f_done_l) (aCons (eC (.p (.str "uptotext"))) (aCons (eVar 4) (aCons (eVar 6) aNil)))))))) (sRet (eC (.p (.bool false)))) sNext)
    (f_texts_right_l_1 r))
def f_texts_right_l_3 (r : Fn → List D → M D) : FS :=
    (sSeq (sAsgs (aCons (eCallX 3 (r .f_done_l) (aCons (eC (.p (.str "uptotext"))) (aCons (eVar 4) (aCons (eVar 5) aNil)))) (aCons (eCallX 3 (r .f_done_l) (aCons (eC (.p (.str "uptotext"))) (aCons (eVar 5) (aCons (eVar 4) aNil)))) (aCons (eCallX 3 (r .f_done_l) (aCons (eC (.p (.str "eqtext"))) (aCons (eVar 4) (aCons (eVar 5) aNil)))) aNil))) (gConss (gN 9) (gConss (gN 10) (gConss (gN 11) gNils))))
    (sSeq (sIf (tOrD (tC2 (opEqZ true) (eVar 11) (eAnd (eVar 9) (eVar 10))) (tOrD (tNotD (tOrD (tVal (eVar 9)) (tVal (eVar 10)))) (tC2 (opEqZ true) (eVar 11) (e2 (opEqZ false) (eA reprM (aCons (eVar 4) aNil)) (eA reprM (aCons (eVar 5) aNil)))))) (sRet (eC (.p (.bool false)))) sNext)
    (f_texts_right_l_2 r)))
def f_texts_right_l_4 (r : Fn → List D → M D) : FS :=
    (sSeq (sSet 3 (eLc (iSeq (eA mkTup (aCons (eVar 4) (aCons (eVar 5) (aCons (eVar 7) aNil))))) (gN 12) tYesD (e2 opSubs (eCallX 2 (r .f_Primitives_done) (aCons (eC (.p (.str "size"))) (aCons (eVar 12) aNil))) (eC (.p (.int 1)))) [12] finL))
    (sSeq (sIf (tOrD (tC2 (opEqZ true) (e2 opSubs (eVar 3) (eC (.p (.int 2)))) (eA min2M (aCons (eC (.p (.int 200))) (aCons (e2 opAddX (e2 opSubs (eVar 3) (eC (.p (.int 0)))) (e2 opSubs (eVar 3) (eC (.p (.int 1))))) aNil)))) (tC2 (opEqZ true) (eA reprM (aCons (eCallX 3 (r .f_Primitives_done) (aCons (eC (.p (.str "join"))) (aCons (eVar 4) (aCons (eA mkTup (aCons (eC (.p (.str "text"))) (aCons (eC (.p (.str ""))) aNil))) aNil)))) aNil)) (eA reprM (aCons (eVar 4) aNil)))) (sRet (eC (.p (.bool false)))) sNext)
    (f_texts_right_l_3 r)))
def b_f_texts_right_l (r : Fn → List D → M D) : FS :=
    (sSeq (sAsgs (aCons (eA mkTup (aCons (eC (.p (.str "text"))) (aCons (eVar 0) aNil))) (aCons (eA mkTup (aCons (eC (.p (.str "text"))) (aCons (eVar 1) aNil))) (aCons (eA mkTup (aCons (eC (.p (.str "text"))) (aCons (eVar 2) aNil))) aNil))) (gConss (gN 4) (gConss (gN 5) (gConss (gN 6) gNils))))
    (sSeq (sAsgs (aCons (eCallX 3 (r .f_Primitives_done) (aCons (eC (.p (.str "join"))) (aCons (eVar 4) (aCons (eVar 5) aNil)))) (aCons (eCallX 3 (r .f_Primitives_done) (aCons (eC (.p (.str "join"))) (aCons (eVar 5) (aCons (eVar 6) aNil)))) aNil)) (gConss (gN 7) (gConss (gN 8) gNils)))
    (sSeq (sIf (tC2 (opEqZ true) (eA reprM (aCons (eCallX 3 (r .f_Primitives_done) (aCons (eC (.p (.str "join"))) (aCons (eVar 7) (aCons (eVar 6) aNil)))) aNil)) (eA reprM (aCons (eCallX 3 (r .f_Primitives_done) (aCons (eC (.p (.str "join"))) (aCons (eVar 4) (aCons (eVar 8) aNil)))) aNil))) (sRet (eC (.p (.bool false)))) sNext)
    (f_texts_right_l_4 r))))
def f_law_1 (r : Fn → List D → M D) : FS :=
    (sSeq (sAsg (eCallX 1 (r .f_strings_l) (aCons (eVar 1) aNil)) (gLstD 3 (gConss (gN 3) (gConss (gN 4) (gConss (gN 5) gNils)))))
    (sIf (tNotD (tVal (eCallX 3 (r .f_texts_right_l) (aCons (eVar 3) (aCons (eVar 4) (aCons (eVar 5) aNil)))))) (sRet (eC (.p (.bool false)))) sNext))
def f_law_2 (r : Fn → List D → M D) : FS :=
    (sSeq (sAsg (eCallX 1 (r .f_numbers_l) (aCons (eVar 1) aNil)) (gLstD 3 (gConss (gN 3) (gConss (gN 4) (gConss (gN 5) gNils)))))
    (sSeq (sIf (tNotD (tVal (eCallX 3 (r .f_wholes_right_l) (aCons (eVar 3) (aCons (eVar 4) (aCons (eVar 5) aNil)))))) (sRet (eC (.p (.bool false)))) sNext)
    (f_law_1 r)))
def f_law_3 (r : Fn → List D → M D) : FS :=
    (sRet (eC (.p (.bool true))))
def b_f_law (r : Fn → List D → M D) : FS :=
    (sSeq (sSet 1 (eCallX 1 (r .f_begin_l) (aCons (eVar 0) aNil)))
    (sSeq (sFor (iRange (aCons (eC (.p (.int 20))) aNil)) (gN 2) (f_law_2 r))
    (f_law_3 r)))
def go (r : Fn → List D → M D) : Fn → List D → M D
  | .f_is_whole => runF 1 (b_f_is_whole r)
  | .f_is_text => runF 2 (b_f_is_text r)
  | .f_computed => runF 4 (b_f_computed r)
  | .f_value_of => runF 2 (b_f_value_of r)
  | .f_is_for => runF 2 (b_f_is_for r)
  | .f_need_primitive => runF 1 (b_f_need_primitive r)
  | .f_Primitives_done => runV 1 5 (b_f_Primitives_done r)
  | .f_begin_l => runF 1 (b_f_begin_l r)
  | .f_draw_l => runF 6 (b_f_draw_l r)
  | .f_pick_l => runF 2 (b_f_pick_l r)
  | .f_done_l => runF 4 (b_f_done_l r)
  | .f_whole_l => runF 1 (b_f_whole_l r)
  | .f_numbers_l => runF 4 (b_f_numbers_l r)
  | .f_strings_l => runF 4 (b_f_strings_l r)
  | .f_wholes_right_l => runF 13 (b_f_wholes_right_l r)
  | .f_texts_right_l => runF 13 (b_f_texts_right_l r)
  | .f_law => runF 6 (b_f_law r)

def F : Nat → Fn → List D → M D
  | 0, _ => fun _ _ => .bad
  | k + 1, f => go (F k) f

end K57

namespace K57
open PySem L2 DL

def BD : Int := 1000000000000000000000000000000
def wh (a : Int) : PyData := .tuple [.str "whole", .int a]
def tx (x : Str) : PyData := .tuple [.str "text", .str x]
def okW (a : Int) : Prop := -BD ≤ a ∧ a ≤ BD
def chB (c : Nat) : Bool := decide (32 ≤ c) && (decide (c ≤ 126) && decide (c ≠ 37))
def okT (x : Str) : Prop := x.length ≤ 200 ∧ x.cps.toList.all chB = true
def clamp (a : Int) : Int := if (if a < BD then a else BD) > -BD then (if a < BD then a else BD) else -BD
theorem lt1 {a b : Nat} : decide (([a] : List Nat) < [b]) = decide (a < b) := by
  simp [List.cons_lt_cons_iff]
theorem sp_cps : (Str.ofString " ").cps.toList = [32] := by decide +kernel
theorem ti_cps : (Str.ofString "~").cps.toList = [126] := by decide +kernel
theorem whole_ok {k : Nat} {S : Sto} {a : Int} (hk : 1 ≤ k) (h : okW a) : F k .f_is_whole [.p (.int a)] S = .ok (.p (.bool true)) S := by
  obtain ⟨k, rfl⟩ : ∃ j, k = j + 1 := ⟨k - 1, by omega⟩
  refine run_ret (m := 1) ?_
  show b_f_is_whole (F k) [some (.p (.int a))] S = _
  unfold b_f_is_whole
  have h1 : -1000000000000000000000000000000 ≤ a := h.1
  have h2 : a ≤ 1000000000000000000000000000000 := h.2
  simp [isT, g_BOUND, h1, h2]
theorem bools_true {α : Type} (f : α → PyData) : ∀ l : List α, (∀ x ∈ l, f x = .bool true) → bools (l.map f) = some (l.map fun _ => true)
  | [], _ => rfl
  | a :: l, h => by
    have := bools_true f l fun x hx => h x (List.mem_cons_of_mem _ hx)
    simp [bools, h a List.mem_cons_self, this]
theorem text_ok {k : Nat} {S : Sto} {x : Str} (hk : 1 ≤ k) (h : okT x) : F k .f_is_text [.p (.str x)] S = .ok (.p (.bool true)) S := by
  obtain ⟨k, rfl⟩ : ∃ j, k = j + 1 := ⟨k - 1, by omega⟩
  refine run_ret (m := 2) ?_
  show b_f_is_text (F k) [some (.p (.str x)), none] S = _
  unfold b_f_is_text f_is_text_1
  have hl : x.length ≤ LIM := Nat.le_trans h.1 (by decide)
  have hl' : x.cps.size ≤ LIM := hl
  have h1 : ¬ ((200 : Int) < (x.length : Int)) := by have := h.1; omega
  have lc : lcD (gN 1) tYesD (eAnd (eChain opLeX opLeX (eC (.p (.str " "))) (eVar 1) (eC (.p (.str "~")))) (e2 (opEqZ true) (eA ordM (aCons (eVar 1) aNil)) (eC (.p (.int 37))))) [some (.p (.str x)), none] (x.cps.toList.map fun c => D.p (.str ⟨#[c]⟩)) S = .ok ((x.cps.toList.map fun c => D.p (.str ⟨#[c]⟩)).map fun _ => .bool true) S := by
    refine lcD_map _ fun d hd => ?_
    obtain ⟨c, hc, rfl⟩ := List.mem_map.mp hd
    have q := List.all_eq_true.mp h.2 c hc
    simp [chB] at q
    refine ⟨_, rfl, ?_⟩
    have q1 : ¬ (c < 32) := by omega
    have q2 : ¬ (126 < c) := by omega
    have q3 : ¬ ((c : Int) = 37) := by omega
    simp [sp_cps, ti_cps, lt1, q1, q2, ordM, q3, Str.length]
  simp [sSeq_, isT, lenM_s hl, g_MOST_CHARACTERS, h1, hl', lc, allM, lstOf, bools_true]
theorem for_w {k : Nat} {S : Sto} {a : Int} (hk : 2 ≤ k) (h : okW a) : F k .f_is_for [.p (.str "whole"), .p (wh a)] S = .ok (.p (.bool true)) S := by
  obtain ⟨k, rfl⟩ : ∃ j, k = j + 1 := ⟨k - 1, by omega⟩
  refine run_ret (m := 2) ?_
  show b_f_is_for (F k) [some (.p (.str "whole")), some (.p (wh a))] S = _
  unfold b_f_is_for f_is_for_1 wh
  simp [sSeq_, isT, whole_ok (show 1 ≤ k by omega) h]
theorem for_t {k : Nat} {S : Sto} {x : Str} (hk : 2 ≤ k) (h : okT x) : F k .f_is_for [.p (.str "text"), .p (tx x)] S = .ok (.p (.bool true)) S := by
  obtain ⟨k, rfl⟩ : ∃ j, k = j + 1 := ⟨k - 1, by omega⟩
  refine run_ret (m := 2) ?_
  show b_f_is_for (F k) [some (.p (.str "text")), some (.p (tx x))] S = _
  unfold b_f_is_for f_is_for_1 tx
  simp [sSeq_, isT, text_ok (show 1 ≤ k by omega) h, show ((Str.ofString "text") == (Str.ofString "whole")) = false from by decide +kernel]
def NAMES : List Str := ["plus", "minus", "times", "equal", "upto", "join", "size", "eqtext", "uptotext", "spell"]
theorem need_ok {k : Nat} {S : Sto} {x : Str} (hk : 1 ≤ k) (h : (kd_SORTS.lookup x).isSome = true) : F k .f_need_primitive [.p (.str x)] S = .ok (.p .none) S := by
  obtain ⟨k, rfl⟩ : ∃ j, k = j + 1 := ⟨k - 1, by omega⟩
  show runF 1 (b_f_need_primitive (F k)) [.p (.str x)] S = _
  unfold runF
  have e : b_f_need_primitive (F k) [some (.p (.str x))] S = some (.next [some (.p (.str x))], S) := by
    unfold b_f_need_primitive
    obtain ⟨y, e⟩ := Option.isSome_iff_exists.mp h
    simp [isT, tKd, e]
  show (match b_f_need_primitive (F k) [some (.p (.str x))] S with | some (.ret d, s) => Out.ok d s | some (.next _, s) => .ok (.p .none) s | some (.exc x _, s) => .err x s | _ => .bad) = _
  rw [e]
def sorts (x : Str) : List PyData := match kd_SORTS.lookup x with
  | some (.tuple xs) => xs
  | _ => []
/-- two arguments, all right -/
theorem done2 {k : Nat} {S : Sto} {x s1 s2 s3 : Str} {a b : PyData} {v1 v2 c r : PyData} (hk : 3 ≤ k) (hs : kd_SORTS.lookup x = some (.tuple [.str s1, .str s2, .str s3]))
    (ha : ∃ t, a = .tuple [t, v1]) (hb : ∃ t, b = .tuple [t, v2]) (fa : ∀ S, F (k - 1) .f_is_for [.p (.str s1), .p a] S = .ok (.p (.bool true)) S) (fb : ∀ S, F (k - 1) .f_is_for [.p (.str s2), .p b] S = .ok (.p (.bool true)) S)
    (hc : ∀ S, F (k - 1) .f_computed [.p (.str x), .p (.list [v1, v2])] S = .ok (.p c) S) (hv : ∀ S, F (k - 1) .f_value_of [.p (.str s3), .p c] S = .ok (.p r) S) :
    F k .f_Primitives_done [.p (.str x), .p a, .p b] S = .ok (.p r) S := by
  obtain ⟨k, rfl⟩ : ∃ j, k = j + 1 := ⟨k - 1, by omega⟩
  obtain ⟨t1, rfl⟩ := ha
  obtain ⟨t2, rfl⟩ := hb
  simp only [Nat.add_sub_cancel] at fa fb hc hv
  show runV 1 5 (b_f_Primitives_done (F k)) [.p (.str x), .p (.tuple [t1, v1]), .p (.tuple [t2, v2])] S = _
  unfold runV
  rw [if_pos (by simp [LIM])]
  simp only [List.drop_succ_cons, List.drop_zero, pys_cons, pys_nil, Option.map_some, List.take_succ_cons, List.take_zero, List.cons_append, List.nil_append]
  refine run_ret (m := 5) ?_
  show b_f_Primitives_done (F k) [some (.p (.str x)), some (.p (.tuple [.tuple [t1, v1], .tuple [t2, v2]])), none, none, none] S = _
  have hn : ∀ S, F k .f_need_primitive [.p (.str x)] S = .ok (.p .none) S := fun S => need_ok (by omega) (by rw [hs]; rfl)
  have e1 : ∀ S, sliM (.p (.tuple [.str s1, .str s2, .str s3])) none (some (-1)) S = .ok (.p (.tuple [.str s1, .str s2])) S := fun S => rfl
  have e2 : ∀ S, opSubs (.p (.tuple [.str s1, .str s2, .str s3])) (.p (.int (-1))) S = .ok (.p (.str s3)) S := fun S => rfl
  unfold b_f_Primitives_done f_Primitives_done_3 f_Primitives_done_2 f_Primitives_done_1
  simp [sSeq_, hn, kdM, hs, e1, e2, enumP, forD, gTupD, fa, fb, LIM, lcD, hc, hv]
theorem done1 {k : Nat} {S : Sto} {x s1 s3 : Str} {a : PyData} {v1 c r : PyData} (hk : 3 ≤ k) (hs : kd_SORTS.lookup x = some (.tuple [.str s1, .str s3]))
    (ha : ∃ t, a = .tuple [t, v1]) (fa : ∀ S, F (k - 1) .f_is_for [.p (.str s1), .p a] S = .ok (.p (.bool true)) S)
    (hc : ∀ S, F (k - 1) .f_computed [.p (.str x), .p (.list [v1])] S = .ok (.p c) S) (hv : ∀ S, F (k - 1) .f_value_of [.p (.str s3), .p c] S = .ok (.p r) S) :
    F k .f_Primitives_done [.p (.str x), .p a] S = .ok (.p r) S := by
  obtain ⟨k, rfl⟩ : ∃ j, k = j + 1 := ⟨k - 1, by omega⟩
  obtain ⟨t1, rfl⟩ := ha
  simp only [Nat.add_sub_cancel] at fa hc hv
  show runV 1 5 (b_f_Primitives_done (F k)) [.p (.str x), .p (.tuple [t1, v1])] S = _
  unfold runV
  rw [if_pos (by simp [LIM])]
  simp only [List.drop_succ_cons, List.drop_zero, pys_cons, pys_nil, Option.map_some, List.take_succ_cons, List.take_zero, List.cons_append, List.nil_append]
  refine run_ret (m := 5) ?_
  show b_f_Primitives_done (F k) [some (.p (.str x)), some (.p (.tuple [.tuple [t1, v1]])), none, none, none] S = _
  have hn : ∀ S, F k .f_need_primitive [.p (.str x)] S = .ok (.p .none) S := fun S => need_ok (by omega) (by rw [hs]; rfl)
  have e1 : ∀ S, sliM (.p (.tuple [.str s1, .str s3])) none (some (-1)) S = .ok (.p (.tuple [.str s1])) S := fun S => rfl
  have e2 : ∀ S, opSubs (.p (.tuple [.str s1, .str s3])) (.p (.int (-1))) S = .ok (.p (.str s3)) S := fun S => rfl
  unfold b_f_Primitives_done f_Primitives_done_3 f_Primitives_done_2 f_Primitives_done_1
  simp [sSeq_, hn, kdM, hs, e1, e2, enumP, forD, gTupD, fa, LIM, lcD, hc, hv]

theorem comp_run {k : Nat} {S : Sto} {x : Str} {v1 v2 : PyData} {vs : List PyData} {r : PyData} (hk : 1 ≤ k) (h0 : atI vs 0 = some v1) (h1 : atI vs (-1) = some v2)
    (h : ∀ (ρ : Ev) S, ρ[2]? = some (some (.p v1)) → ρ[3]? = some (some (.p v2)) → armGo x [(.texts ["plus"], (sRet (e2 opAddX (eVar 2) (eVar 3)))), (.texts ["minus"], (sRet (e2 opSub (eVar 2) (eVar 3)))), (.texts ["times"], (sRet (e2 opMulX (eVar 2) (eVar 3)))), (.texts ["equal", "eqtext"], (sRet (e2 (opEqZ false) (eVar 2) (eVar 3)))), (.texts ["upto", "uptotext"], (sRet (e2 (opLeX) (eVar 2) (eVar 3)))), (.texts ["join"], (sRet (e2 opAddX (eVar 2) (eVar 3)))), (.texts ["size"], (sRet (eA lenM (aCons (eVar 2) aNil)))), (.any, (sRet (eA strM (aCons (eVar 2) aNil))))] ρ S = some (.ret (.p r), S)) :
    F k .f_computed [.p (.str x), .p (.list vs)] S = .ok (.p r) S := by
  obtain ⟨k, rfl⟩ : ∃ j, k = j + 1 := ⟨k - 1, by omega⟩
  refine run_ret (m := 4) ?_
  show b_f_computed (F k) [some (.p (.str x)), some (.p (.list vs)), none, none] S = _
  unfold b_f_computed
  rw [sSeq_next (ρ' := [some (.p (.str x)), some (.p (.list vs)), some (.p v1), some (.p v2)]) (S' := S) (by simp [subs_l h0, subs_l h1])]
  simp [h]
theorem arm1 {x y : Str} {ρ : Ev} {S : Sto} {b : FS} {r : List (Arm × FS)} (h : (x == y) = true) : armGo x ((.texts [y], b) :: r) ρ S = b ρ S := armGo_yes (by simpa [armB] using h)
theorem F_value (k : Nat) : F (k + 1) .f_value_of = runF 2 (b_f_value_of (F k)) := rfl
theorem val_w {k : Nat} {S : Sto} {a : Int} (hk : 1 ≤ k) : F k .f_value_of [.p (.str "whole"), .p (.int a)] S = .ok (.p (wh (clamp a))) S := by
  obtain ⟨k, rfl⟩ : ∃ j, k = j + 1 := ⟨k - 1, by omega⟩
  rw [F_value]
  refine run_ret (m := 2) ?_
  show b_f_value_of (F k) [some (.p (.str "whole")), some (.p (.int a))] S = _
  unfold b_f_value_of
  simp [sSeq_, g_BOUND, wh, clamp, BD]
  first | rfl | (repeat' split) <;> first | rfl | omega
theorem val_t {k : Nat} {S : Sto} {x : Str} (hk : 1 ≤ k) (hl : x.length ≤ LIM) : F k .f_value_of [.p (.str "text"), .p (.str x)] S = .ok (.p (tx (cutS x none (some 200)))) S := by
  obtain ⟨k, rfl⟩ : ∃ j, k = j + 1 := ⟨k - 1, by omega⟩
  refine run_ret (m := 2) ?_
  show b_f_value_of (F k) [some (.p (.str "text")), some (.p (.str x))] S = _
  unfold b_f_value_of f_value_of_2
  simp [sSeq_, g_MOST_CHARACTERS, tx, sliM, hl, show ((Str.ofString "text") == (Str.ofString "whole")) = false from by decide +kernel]
def tr (b : Bool) : PyData := .tuple [.str "made", .str (if b then "yes" else "no"), .tuple []]
theorem val_b {k : Nat} {S : Sto} {b : Bool} (hk : 1 ≤ k) : F k .f_value_of [.p (.str "truth"), .p (.bool b)] S = .ok (.p (tr b)) S := by
  obtain ⟨k, rfl⟩ : ∃ j, k = j + 1 := ⟨k - 1, by omega⟩
  refine run_ret (m := 2) ?_
  show b_f_value_of (F k) [some (.p (.str "truth")), some (.p (.bool b))] S = _
  unfold b_f_value_of f_value_of_2 f_value_of_1
  cases b <;> simp [sSeq_, tr, show ((Str.ofString "truth") == (Str.ofString "whole")) = false from by decide +kernel, show ((Str.ofString "truth") == (Str.ofString "text")) = false from by decide +kernel]
theorem at0 {a b : PyData} : atI [a, b] 0 = some a := rfl
theorem at1 {a b : PyData} : atI [a, b] (-1) = some b := rfl
theorem lg2 {a : Int} (h : okW a) : a.natAbs.log2 < 200 := lg (by
  have h1 := h.1
  have h2 := h.2
  unfold BD at h1 h2
  have : (2 : Nat) ^ 200 = 1606938044258990275541962092341162602522202993782792835301376 := by decide
  omega) (by decide)
set_option maxHeartbeats 1000000 in
theorem d_plus {k : Nat} {S : Sto} {a b : Int} (hk : 4 ≤ k) (ha : okW a) (hb : okW b) : F k .f_Primitives_done [.p (.str "plus"), .p (wh a), .p (wh b)] S = .ok (.p (wh (clamp (a + b)))) S :=
  done2 (by omega) (by kernel_rfl) ⟨_, rfl⟩ ⟨_, rfl⟩ (fun S => for_w (by omega) ha) (fun S => for_w (by omega) hb) (c := .int (a + b)) (fun S => comp_run (by omega) at0 at1 fun ρ S h2 h3 => by
    rw [armGo_yes (by decide +kernel)]
    simp [eVar_ok h2, eVar_ok h3]) (fun S => val_w (by omega))
theorem d_minus {k : Nat} {S : Sto} {a b : Int} (hk : 4 ≤ k) (ha : okW a) (hb : okW b) : F k .f_Primitives_done [.p (.str "minus"), .p (wh a), .p (wh b)] S = .ok (.p (wh (clamp (a - b)))) S :=
  done2 (by omega) (by kernel_rfl) ⟨_, rfl⟩ ⟨_, rfl⟩ (fun S => for_w (by omega) ha) (fun S => for_w (by omega) hb) (c := .int (a - b)) (fun S => comp_run (by omega) at0 at1 fun ρ S h2 h3 => by
    rw [armGo_no (by decide +kernel), armGo_yes (by decide +kernel)]
    simp [eVar_ok h2, eVar_ok h3]) (fun S => val_w (by omega))
theorem d_times {k : Nat} {S : Sto} {a b : Int} (hk : 4 ≤ k) (ha : okW a) (hb : okW b) : F k .f_Primitives_done [.p (.str "times"), .p (wh a), .p (wh b)] S = .ok (.p (wh (clamp (a * b)))) S :=
  done2 (by omega) (by kernel_rfl) ⟨_, rfl⟩ ⟨_, rfl⟩ (fun S => for_w (by omega) ha) (fun S => for_w (by omega) hb) (c := .int (a * b)) (fun S => comp_run (by omega) at0 at1 fun ρ S h2 h3 => by
    rw [armGo_no (by decide +kernel), armGo_no (by decide +kernel), armGo_yes (by decide +kernel)]
    have := lg2 ha
    have := lg2 hb
    simp [eVar_ok h2, eVar_ok h3, opMulX_i (show a.natAbs.log2 + b.natAbs.log2 < 1000000 by omega)]) (fun S => val_w (by omega))
theorem d_equal {k : Nat} {S : Sto} {a b : Int} (hk : 4 ≤ k) (ha : okW a) (hb : okW b) : F k .f_Primitives_done [.p (.str "equal"), .p (wh a), .p (wh b)] S = .ok (.p (tr (a == b))) S :=
  done2 (by omega) (by kernel_rfl) ⟨_, rfl⟩ ⟨_, rfl⟩ (fun S => for_w (by omega) ha) (fun S => for_w (by omega) hb) (c := .bool (a == b)) (fun S => comp_run (by omega) at0 at1 fun ρ S h2 h3 => by
    rw [armGo_no (by decide +kernel), armGo_no (by decide +kernel), armGo_no (by decide +kernel), armGo_yes (by decide +kernel)]
    simp [eVar_ok h2, eVar_ok h3]) (fun S => val_b (by omega))
theorem d_upto {k : Nat} {S : Sto} {a b : Int} (hk : 4 ≤ k) (ha : okW a) (hb : okW b) : F k .f_Primitives_done [.p (.str "upto"), .p (wh a), .p (wh b)] S = .ok (.p (tr (decide (a ≤ b)))) S :=
  done2 (by omega) (by kernel_rfl) ⟨_, rfl⟩ ⟨_, rfl⟩ (fun S => for_w (by omega) ha) (fun S => for_w (by omega) hb) (c := .bool (decide (a ≤ b))) (fun S => comp_run (by omega) at0 at1 fun ρ S h2 h3 => by
    rw [armGo_no (by decide +kernel), armGo_no (by decide +kernel), armGo_no (by decide +kernel), armGo_no (by decide +kernel), armGo_yes (by decide +kernel)]
    simp [eVar_ok h2, eVar_ok h3]) (fun S => val_b (by omega))
theorem lim400 {x y : Str} (hx : okT x) (hy : okT y) : x.length + y.length ≤ LIM := by
  have h1 := hx.1
  have h2 := hy.1
  unfold LIM; omega
theorem d_join {k : Nat} {S : Sto} {x y : Str} (hk : 4 ≤ k) (hx : okT x) (hy : okT y) : F k .f_Primitives_done [.p (.str "join"), .p (tx x), .p (tx y)] S = .ok (.p (tx (cutS (x ++ y) none (some 200)))) S :=
  done2 (by omega) (by kernel_rfl) ⟨_, rfl⟩ ⟨_, rfl⟩ (fun S => for_t (by omega) hx) (fun S => for_t (by omega) hy) (c := .str (x ++ y)) (fun S => comp_run (by omega) at0 at1 fun ρ S h2 h3 => by
    rw [armGo_no (by decide +kernel), armGo_no (by decide +kernel), armGo_no (by decide +kernel), armGo_no (by decide +kernel), armGo_no (by decide +kernel), armGo_yes (by decide +kernel)]
    simp [eVar_ok h2, eVar_ok h3, addX_s (lim400 hx hy)]) (fun S => val_t (by omega) (by rw [str_len_app]; exact lim400 hx hy))
theorem d_eqt {k : Nat} {S : Sto} {x y : Str} (hk : 4 ≤ k) (hx : okT x) (hy : okT y) : F k .f_Primitives_done [.p (.str "eqtext"), .p (tx x), .p (tx y)] S = .ok (.p (tr (x == y))) S :=
  done2 (by omega) (by kernel_rfl) ⟨_, rfl⟩ ⟨_, rfl⟩ (fun S => for_t (by omega) hx) (fun S => for_t (by omega) hy) (c := .bool (x == y)) (fun S => comp_run (by omega) at0 at1 fun ρ S h2 h3 => by
    rw [armGo_no (by decide +kernel), armGo_no (by decide +kernel), armGo_no (by decide +kernel), armGo_yes (by decide +kernel)]
    simp [eVar_ok h2, eVar_ok h3]) (fun S => val_b (by omega))
def leT (x y : Str) : Bool := !decide (y.cps.toList < x.cps.toList)
theorem d_upt {k : Nat} {S : Sto} {x y : Str} (hk : 4 ≤ k) (hx : okT x) (hy : okT y) : F k .f_Primitives_done [.p (.str "uptotext"), .p (tx x), .p (tx y)] S = .ok (.p (tr (leT x y))) S :=
  done2 (by omega) (by kernel_rfl) ⟨_, rfl⟩ ⟨_, rfl⟩ (fun S => for_t (by omega) hx) (fun S => for_t (by omega) hy) (c := .bool (leT x y)) (fun S => comp_run (by omega) at0 at1 fun ρ S h2 h3 => by
    rw [armGo_no (by decide +kernel), armGo_no (by decide +kernel), armGo_no (by decide +kernel), armGo_no (by decide +kernel), armGo_yes (by decide +kernel)]
    simp [eVar_ok h2, eVar_ok h3, leT]) (fun S => val_b (by omega))
theorem d_size {k : Nat} {S : Sto} {x : Str} (hk : 4 ≤ k) (hx : okT x) : F k .f_Primitives_done [.p (.str "size"), .p (tx x)] S = .ok (.p (wh (clamp x.length))) S :=
  done1 (by omega) (by kernel_rfl) ⟨_, rfl⟩ (fun S => for_t (by omega) hx) (c := .int x.length) (fun S => comp_run (by omega) (v1 := .str x) (v2 := .str x) rfl rfl fun ρ S h2 h3 => by
    rw [armGo_no (by decide +kernel), armGo_no (by decide +kernel), armGo_no (by decide +kernel), armGo_no (by decide +kernel), armGo_no (by decide +kernel), armGo_no (by decide +kernel), armGo_yes (by decide +kernel)]
    simp [eVar_ok h2, lenM_s (show x.length ≤ LIM from Nat.le_trans hx.1 (by decide))]) (fun S => val_w (by omega))
def spl (a : Int) : Str := toString a
theorem d_spell {k : Nat} {S : Sto} {a : Int} (hk : 4 ≤ k) (ha : okW a) (hl : (spl a).length ≤ LIM) : F k .f_Primitives_done [.p (.str "spell"), .p (wh a)] S = .ok (.p (tx (cutS (spl a) none (some 200)))) S :=
  done1 (by omega) (by kernel_rfl) ⟨_, rfl⟩ (fun S => for_w (by omega) ha) (c := .str (spl a)) (fun S => comp_run (by omega) (v1 := .int a) (v2 := .int a) rfl rfl fun ρ S h2 h3 => by
    rw [armGo_no (by decide +kernel), armGo_no (by decide +kernel), armGo_no (by decide +kernel), armGo_no (by decide +kernel), armGo_no (by decide +kernel), armGo_no (by decide +kernel), armGo_no (by decide +kernel), armGo_yes (by decide +kernel)]
    have := lg2 ha
    simp [eVar_ok h2, strM, spl, show a.natAbs.log2 < 1920 by omega]) (fun S => val_t (by omega) hl)
end K57

namespace K57
open PySem L2 DL TL

theorem cps_of (s : String) : (Str.ofString s).cps.toList = s.toList.map Char.toNat := by
  rw [Str.ofString_eq_toList]
theorem spl_nn (n : Nat) : (spl (n : Int)).cps.toList = numL n := tl_num n
theorem spl_neg (m : Nat) : (spl (Int.negSucc m)).cps.toList = 45 :: numL (m + 1) := by
  have e : spl (Int.negSucc m) = Str.ofString ("-" ++ toString (m + 1)) := rfl
  rw [e, cps_of, String.toList_append, List.map_append]
  have h : (toString (m + 1)).toList.map Char.toNat = numL (m + 1) := by
    rw [← tl_num (m + 1)]
    show _ = (Str.ofString (toString ((m + 1 : Nat) : Int))).cps.toList
    rw [cps_of]
    rfl
  rw [h]
  rfl
theorem num_len {n : Nat} (h : n ≤ 1000000000000000000000000000000) : (numL n).length ≤ 31 := numL_len (by decide) (by
  have : (10 : Nat) ^ 31 = 10000000000000000000000000000000 := by decide
  omega)
theorem digits_ch {l : List Nat} (h : NumText.AllDigits l) : l.all chB = true := by
  rw [List.all_eq_true]
  intro c hc
  have q := h c hc
  simp [chB]
  omega
theorem spl_cases {a : Int} (h : okW a) : (∃ n : Nat, a = n ∧ n ≤ 1000000000000000000000000000000 ∧ (spl a).cps.toList = numL n) ∨ (∃ n : Nat, a = -(n : Int) ∧ n ≤ 1000000000000000000000000000000 ∧ (spl a).cps.toList = 45 :: numL n) := by
  have h1 : -1000000000000000000000000000000 ≤ a := h.1
  have h2 : a ≤ 1000000000000000000000000000000 := h.2
  cases a with
  | ofNat n => exact .inl ⟨n, rfl, by have : (n : Int) ≤ 1000000000000000000000000000000 := h2; omega, spl_nn n⟩
  | negSucc m => exact .inr ⟨m + 1, by omega, by omega, spl_neg m⟩
theorem spl_len {a : Int} (h : okW a) : (spl a).length ≤ 200 := by
  have e : (spl a).length = (spl a).cps.toList.length := by simp [Str.length]
  rw [e]
  rcases spl_cases h with ⟨n, _, hn, e⟩ | ⟨n, _, hn, e⟩
  · rw [e]; have := num_len hn; omega
  · rw [e, List.length_cons]; have := num_len hn; omega
theorem spl_ok {a : Int} (h : okW a) : okT (spl a) := by
  refine ⟨spl_len h, ?_⟩
  rcases spl_cases h with ⟨n, _, hn, e⟩ | ⟨n, _, hn, e⟩
  · rw [e]; exact digits_ch (numL_digits n)
  · rw [e, List.all_cons, digits_ch (numL_digits n)]; rfl
theorem spl_int {a : Int} (h : okW a) : intText? (spl a) = some a := by
  have hl := spl_len h
  rcases spl_cases h with ⟨n, ea, hn, e⟩ | ⟨n, ea, hn, e⟩
  · rw [intText_digits (by rw [e]; exact numL_digits n) (by rw [e]; exact numL_ne n) (by omega), e, numL_val, ea]
  · rw [intText_neg e (numL_digits n) (numL_ne n) (by omega), numL_val, ea]
theorem cut_cps (x : Str) (k : Nat) : (cutS x none (some (k : Int))).cps.toList = x.cps.toList.take k := by
  unfold cutS
  simp only [HT.sIx_nat, HT.sIx_none]
  have e : x.length = x.cps.toList.length := by simp [Str.length]
  rw [e]
  by_cases h : k ≤ x.cps.toList.length
  · rw [Nat.min_eq_left h]; simp
  · rw [Nat.min_eq_right (by omega), List.take_of_length_le (i := k) (by omega)]
    simp only [List.drop_zero, Nat.sub_zero]
    rw [List.take_of_length_le (Nat.le_refl _)]
theorem str_ext {x y : Str} (h : x.cps.toList = y.cps.toList) : x = y := by
  cases x; cases y
  simp at h
  rw [h]
theorem cut200 {x : Str} (h : x.length ≤ 200) : cutS x none (some 200) = x := by
  apply str_ext
  rw [show (200 : Int) = ((200 : Nat) : Int) from rfl, cut_cps, List.take_of_length_le (by simpa [Str.length] using h)]
end K57

namespace K57
open PySem L2 DL

theorem dl_run {k : Nat} {S : Sto} {x a b r : PyData} {v : PyData} (hk : 1 ≤ k) (h : ∀ S, F (k - 1) .f_Primitives_done [.p x, .p a, .p b] S = .ok (.p r) S)
    (hv : (∃ c, r = wh c ∧ v = .int c) ∨ (∃ z, r = tx z ∧ v = .str z) ∨ (∃ t, r = tr t ∧ v = .bool t)) : F k .f_done_l [.p x, .p a, .p b] S = .ok (.p v) S := by
  obtain ⟨k, rfl⟩ : ∃ j, k = j + 1 := ⟨k - 1, by omega⟩
  simp only [Nat.add_sub_cancel] at h
  refine run_ret (m := 4) ?_
  show b_f_done_l (F k) [some (.p x), some (.p a), some (.p b), none] S = _
  unfold b_f_done_l
  rcases hv with ⟨c, rfl, rfl⟩ | ⟨z, rfl, rfl⟩ | ⟨t, rfl, rfl⟩
  · simp [sSeq_, h, wh, show ((Str.ofString "whole") == (Str.ofString "made")) = false from by decide +kernel]
  · simp [sSeq_, h, tx, show ((Str.ofString "text") == (Str.ofString "made")) = false from by decide +kernel]
  · cases t
    · simp [sSeq_, h, tr, show ((Str.ofString "no") == (Str.ofString "yes")) = false from by decide +kernel]
    · simp [sSeq_, h, tr]
section
variable {k : Nat} {S : Sto} {a b : Int}
theorem l_plus (hk : 5 ≤ k) (ha : okW a) (hb : okW b) : F k .f_done_l [.p (.str "plus"), .p (wh a), .p (wh b)] S = .ok (.p (.int (clamp (a + b)))) S := dl_run (by omega) (fun S => d_plus (by omega) ha hb) (.inl ⟨_, rfl, rfl⟩)
theorem l_minus (hk : 5 ≤ k) (ha : okW a) (hb : okW b) : F k .f_done_l [.p (.str "minus"), .p (wh a), .p (wh b)] S = .ok (.p (.int (clamp (a - b)))) S := dl_run (by omega) (fun S => d_minus (by omega) ha hb) (.inl ⟨_, rfl, rfl⟩)
theorem l_times (hk : 5 ≤ k) (ha : okW a) (hb : okW b) : F k .f_done_l [.p (.str "times"), .p (wh a), .p (wh b)] S = .ok (.p (.int (clamp (a * b)))) S := dl_run (by omega) (fun S => d_times (by omega) ha hb) (.inl ⟨_, rfl, rfl⟩)
theorem l_equal (hk : 5 ≤ k) (ha : okW a) (hb : okW b) : F k .f_done_l [.p (.str "equal"), .p (wh a), .p (wh b)] S = .ok (.p (.bool (a == b))) S := dl_run (by omega) (fun S => d_equal (by omega) ha hb) (.inr (.inr ⟨_, rfl, rfl⟩))
theorem l_upto (hk : 5 ≤ k) (ha : okW a) (hb : okW b) : F k .f_done_l [.p (.str "upto"), .p (wh a), .p (wh b)] S = .ok (.p (.bool (decide (a ≤ b)))) S := dl_run (by omega) (fun S => d_upto (by omega) ha hb) (.inr (.inr ⟨_, rfl, rfl⟩))
theorem F_whole (k : Nat) : F (k + 1) .f_whole_l = runF 1 (b_f_whole_l (F k)) := rfl
theorem l_whole (hk : 1 ≤ k) : F k .f_whole_l [.p (.int a)] S = .ok (.p (wh a)) S := by
  obtain ⟨k, rfl⟩ : ∃ j, k = j + 1 := ⟨k - 1, by omega⟩
  rw [F_whole]
  refine run_ret (m := 1) ?_
  show b_f_whole_l (F k) [some (.p (.int a))] S = _
  unfold b_f_whole_l
  simp [wh]
end
theorem tx1 {z : Str} {S : Sto} : opSubs (.p (tx z)) (.p (.int 1)) S = .ok (.p (.str z)) S := by unfold tx; simp
theorem pow30 {S : Sto} : opPow (.p (.int 10)) (.p (.int 30)) S = .ok (.p (.int BD)) S := by
  rw [opPow_i (by decide) (by decide) (by decide)]; rfl
theorem clamp_ok (a : Int) : okW (clamp a) := by
  unfold okW clamp BD
  constructor <;> (repeat' split) <;> omega
theorem clamp_id {a : Int} (h : okW a) : clamp a = a := by
  unfold okW BD at h
  unfold clamp BD
  (repeat' split) <;> omega
theorem clamp_in {a : Int} (h1 : -BD < clamp a) (h2 : clamp a < BD) : clamp a = a := by
  unfold clamp BD at *
  (repeat' split at h1) <;> (repeat' split at h2) <;> (repeat' split) <;> omega
theorem clamp_mono {a b : Int} (h : a ≤ b) : clamp a ≤ clamp b := by
  unfold clamp BD
  (repeat' split) <;> omega
theorem ok0 : okW 0 := ⟨by decide, by decide⟩
theorem ok1 : okW 1 := ⟨by decide, by decide⟩
section
variable {k : Nat} {S : Sto} {a b c : Int}
set_option maxHeartbeats 2000000 in
theorem wholes_ok (hk : 7 ≤ k) (ha : okW a) (hb : okW b) (hc : okW c) : F k .f_wholes_right_l [.p (.int a), .p (.int b), .p (.int c)] S = .ok (.p (.bool true)) S := by
  obtain ⟨k, rfl⟩ : ∃ j, k = j + 1 := ⟨k - 1, by omega⟩
  refine run_ret (m := 13) ?_
  show b_f_wholes_right_l (F k) [some (.p (.int a)), some (.p (.int b)), some (.p (.int c)), none, none, none, none, none, none, none, none, none, none] S = _
  have hw : ∀ (a : Int) S, F k .f_whole_l [.p (.int a)] S = .ok (.p (wh a)) S := fun a S => l_whole (by omega)
  have t0 := clamp_ok (a + b)
  have t1 := t0.1
  have t2 := t0.2
  have p1 : ∀ S, F k .f_done_l [.p (.str "plus"), .p (wh a), .p (wh b)] S = _ := fun S => l_plus (by omega) ha hb
  have p2 : ∀ S, F k .f_done_l [.p (.str "plus"), .p (wh b), .p (wh a)] S = .ok (.p (.int (clamp (a + b)))) S := fun S => by rw [l_plus (by omega) hb ha, Int.add_comm]
  have p3 : ∀ S, F k .f_done_l [.p (.str "times"), .p (wh a), .p (wh b)] S = _ := fun S => l_times (by omega) ha hb
  have p4 : ∀ S, F k .f_done_l [.p (.str "times"), .p (wh b), .p (wh a)] S = .ok (.p (.int (clamp (a * b)))) S := fun S => by rw [l_times (by omega) hb ha, Int.mul_comm]
  unfold b_f_wholes_right_l
  simp [sSeq_, hw, pow30, p1, p2, p3, p4, t1, t2]
  -- minus takes back
  have e7 : f_wholes_right_l_7 (F k) [some (.p (.int a)), some (.p (.int b)), some (.p (.int c)), none, some (.p (wh a)), some (.p (wh b)), some (.p (wh c)), some (.p (.int BD)), some (.p (.int (clamp (a + b)))), some (.p (.int (clamp (a * b)))), none, none, none] S
      = f_wholes_right_l_6 (F k) [some (.p (.int a)), some (.p (.int b)), some (.p (.int c)), none, some (.p (wh a)), some (.p (wh b)), some (.p (wh c)), some (.p (.int BD)), some (.p (.int (clamp (a + b)))), some (.p (.int (clamp (a * b)))), none, none, none] S := by
    unfold f_wholes_right_l_7
    by_cases h1 : -BD < clamp (a + b)
    · by_cases h2 : clamp (a + b) < BD
      · have e := clamp_in h1 h2
        have m1 : ∀ S, F k .f_done_l [.p (.str "minus"), .p (wh (clamp (a + b))), .p (wh b)] S = .ok (.p (.int a)) S := fun S => by
          rw [l_minus (by omega) t0 hb, e, Int.add_sub_cancel, clamp_id ha]
        simp [sSeq_, h1, h2, hw, m1]
      · simp [sSeq_, h1, h2]
    · simp [sSeq_, h1]
  rw [e7]
  -- plus in any grouping
  have e6 : f_wholes_right_l_6 (F k) [some (.p (.int a)), some (.p (.int b)), some (.p (.int c)), none, some (.p (wh a)), some (.p (wh b)), some (.p (wh c)), some (.p (.int BD)), some (.p (.int (clamp (a + b)))), some (.p (.int (clamp (a * b)))), none, none, none] S
      = f_wholes_right_l_5 (F k) [some (.p (.int a)), some (.p (.int b)), some (.p (.int c)), none, some (.p (wh a)), some (.p (wh b)), some (.p (wh c)), some (.p (.int BD)), some (.p (.int (clamp (a + b)))), some (.p (.int (clamp (a * b)))), none, none, none] S := by
    unfold f_wholes_right_l_6
    by_cases h1 : -BD < clamp (a + b)
    · by_cases h2 : clamp (a + b) < BD
      · by_cases h3 : -BD < b + c
        · by_cases h4 : b + c < BD
          · have e := clamp_in h1 h2
            have hbc : okW (b + c) := ⟨by omega, by omega⟩
            have m1 : ∀ S, F k .f_done_l [.p (.str "plus"), .p (wh (clamp (a + b))), .p (wh c)] S = .ok (.p (.int (clamp (a + b + c)))) S := fun S => by
              rw [l_plus (by omega) t0 hc, e]
            have m2 : ∀ S, F k .f_done_l [.p (.str "plus"), .p (wh a), .p (wh (b + c))] S = .ok (.p (.int (clamp (a + b + c)))) S := fun S => by
              rw [l_plus (by omega) ha hbc, Int.add_assoc]
            by_cases h5 : -BD ≤ a + b + c
            · by_cases h6 : a + b + c ≤ BD
              · simp [sSeq_, h1, h2, h3, h4, h5, h6, hw, m1, m2]
              · simp [sSeq_, h1, h2, h3, h4, h5, h6]
            · simp [sSeq_, h1, h2, h3, h4, h5]
          · simp [sSeq_, h1, h2, h3, h4]
        · simp [sSeq_, h1, h2, h3]
      · simp [sSeq_, h1, h2]
    · simp [sSeq_, h1]
  rw [e6]
  have u1 : ∀ S, F k .f_done_l [.p (.str "upto"), .p (wh a), .p (wh b)] S = _ := fun S => l_upto (by omega) ha hb
  have u2 : ∀ S, F k .f_done_l [.p (.str "upto"), .p (wh b), .p (wh a)] S = _ := fun S => l_upto (by omega) hb ha
  have u3 : ∀ S, F k .f_done_l [.p (.str "equal"), .p (wh a), .p (wh b)] S = _ := fun S => l_equal (by omega) ha hb
  have u4 : ∀ S, F k .f_done_l [.p (.str "upto"), .p (wh a), .p (wh a)] S = _ := fun S => l_upto (by omega) ha ha
  have u5 : ∀ S, F k .f_done_l [.p (.str "upto"), .p (wh b), .p (wh c)] S = _ := fun S => l_upto (by omega) hb hc
  have u6 : ∀ S, F k .f_done_l [.p (.str "upto"), .p (wh a), .p (wh c)] S = _ := fun S => l_upto (by omega) ha hc
  have u7 : ∀ S, F k .f_done_l [.p (.str "plus"), .p (wh b), .p (wh b)] S = _ := fun S => l_plus (by omega) hb hb
  have u8 : ∀ S, F k .f_done_l [.p (.str "upto"), .p (wh (clamp (a + b))), .p (wh (clamp (b + b)))] S = _ := fun S => l_upto (by omega) t0 (clamp_ok _)
  have u9 : ∀ S, F k .f_done_l [.p (.str "minus"), .p (wh a), .p (wh a)] S = .ok (.p (.int 0)) S := fun S => by rw [l_minus (by omega) ha ha, Int.sub_self]; rfl
  have v1 : ∀ S, F k .f_done_l [.p (.str "times"), .p (wh a), .p (wh 1)] S = .ok (.p (.int a)) S := fun S => by rw [l_times (by omega) ha ok1, Int.mul_one, clamp_id ha]
  have v2 : ∀ S, F k .f_done_l [.p (.str "plus"), .p (wh a), .p (wh 0)] S = .ok (.p (.int a)) S := fun S => by rw [l_plus (by omega) ha ok0, Int.add_zero, clamp_id ha]
  have v3 : ∀ S, F k .f_Primitives_done [.p (.str "spell"), .p (wh a)] S = .ok (.p (tx (spl a))) S := fun S => by rw [d_spell (by omega) ha (Nat.le_trans (spl_len ha) (by decide)), cut200 (spl_len ha)]
  have v4 : ∀ S, F k .f_Primitives_done [.p (.str "spell"), .p (wh b)] S = .ok (.p (tx (spl b))) S := fun S => by rw [d_spell (by omega) hb (Nat.le_trans (spl_len hb) (by decide)), cut200 (spl_len hb)]
  have v5 : ∀ S, F k .f_done_l [.p (.str "eqtext"), .p (tx (spl a)), .p (tx (spl b))] S = .ok (.p (.bool (spl a == spl b))) S := fun S => dl_run (by omega) (fun S => d_eqt (by omega) (spl_ok ha) (spl_ok hb)) (.inr (.inr ⟨_, rfl, rfl⟩))
  have w1 : (spl a == spl b) = (a == b) := by
    by_cases e : a = b
    · subst e; rw [beq_self_eq_true, beq_self_eq_true]
    · have : ¬ spl a = spl b := fun z => e (by
        have x1 := spl_int ha
        rw [z, spl_int hb] at x1
        exact (Option.some.inj x1).symm)
      rw [beq_eq_false_iff_ne.mpr this, beq_eq_false_iff_ne.mpr e]
  have w2 : intTM [.p (.str (spl a))] S = .ok (.p (.int a)) S := by
    show (if (spl a).length ≤ 640 then (match intText? (spl a) with | some n => Out.ok (D.p (.int n)) S | none => .bad) else .bad) = _
    rw [if_pos (Nat.le_trans (spl_len ha) (by decide)), spl_int ha]
  have hle : a ≤ b → clamp (a + b) ≤ clamp (b + b) := fun h => clamp_mono (by omega)
  unfold f_wholes_right_l_5 f_wholes_right_l_4 f_wholes_right_l_3 f_wholes_right_l_2 f_wholes_right_l_1
  by_cases c1 : a ≤ b
  · have c2 := hle c1
    by_cases c3 : b ≤ a
    · have c4 : (a == b) = true := by simp; omega
      by_cases c5 : b ≤ c
      · have c6 : a ≤ c := by omega
        simp [sSeq_, u1, u2, u3, u4, u5, u6, u7, u8, u9, v1, v2, v3, v4, v5, w1, w2, hw, c1, c2, c3, c4, c5, c6, tx1]
      · simp [sSeq_, u1, u2, u3, u4, u5, u6, u7, u8, u9, v1, v2, v3, v4, v5, w1, w2, hw, c1, c2, c3, c4, c5, tx1]
    · have c4 : (a == b) = false := by simp; omega
      by_cases c5 : b ≤ c
      · have c6 : a ≤ c := by omega
        simp [sSeq_, u1, u2, u3, u4, u5, u6, u7, u8, u9, v1, v2, v3, v4, v5, w1, w2, hw, c1, c2, c3, c4, c5, c6, tx1]
      · simp [sSeq_, u1, u2, u3, u4, u5, u6, u7, u8, u9, v1, v2, v3, v4, v5, w1, w2, hw, c1, c2, c3, c4, c5, tx1]
  · have c3 : b ≤ a := by omega
    have c4 : (a == b) = false := by simp; omega
    simp [sSeq_, u1, u2, u3, u4, u5, u6, u7, u8, u9, v1, v2, v3, v4, v5, w1, w2, hw, c1, c3, c4, tx1]
end
end K57

namespace K57
open PySem L2 DL TL

section
variable {k : Nat} {S : Sto} {x y z : Str}
theorem l_eqt (hk : 5 ≤ k) (hx : okT x) (hy : okT y) : F k .f_done_l [.p (.str "eqtext"), .p (tx x), .p (tx y)] S = .ok (.p (.bool (x == y))) S := dl_run (by omega) (fun S => d_eqt (by omega) hx hy) (.inr (.inr ⟨_, rfl, rfl⟩))
theorem l_upt (hk : 5 ≤ k) (hx : okT x) (hy : okT y) : F k .f_done_l [.p (.str "uptotext"), .p (tx x), .p (tx y)] S = .ok (.p (.bool (leT x y))) S := dl_run (by omega) (fun S => d_upt (by omega) hx hy) (.inr (.inr ⟨_, rfl, rfl⟩))
def jn (x y : Str) : Str := cutS (x ++ y) none (some 200)
theorem jn_cps (x y : Str) : (jn x y).cps.toList = (x.cps.toList ++ y.cps.toList).take 200 := by
  unfold jn
  rw [show (200 : Int) = ((200 : Nat) : Int) from rfl, cut_cps]
  congr 1
  show (x.cps ++ y.cps).toList = _
  simp
theorem okT_len (h : okT x) : x.cps.toList.length ≤ 200 := by
  have := h.1
  simpa [Str.length] using this
theorem jn_ok (hx : okT x) (hy : okT y) : okT (jn x y) := by
  refine ⟨?_, ?_⟩
  · have e : (jn x y).length = (jn x y).cps.toList.length := by simp [Str.length]
    rw [e, jn_cps, List.length_take]; omega
  · rw [jn_cps, List.all_eq_true]
    intro c hc
    rcases List.mem_append.mp (List.mem_of_mem_take hc) with h | h
    · exact List.all_eq_true.mp hx.2 c h
    · exact List.all_eq_true.mp hy.2 c h
theorem take_l (n : Nat) (A Z : List Nat) : (A.take n ++ Z).take n = (A ++ Z).take n := by
  rw [List.take_append, List.take_append, List.take_take, Nat.min_self, List.length_take]
  congr 2
  omega
theorem take_r (n : Nat) (A Z : List Nat) : (A ++ Z.take n).take n = (A ++ Z).take n := by
  rw [List.take_append, List.take_append, List.take_take]
  congr 2
  omega
theorem jn_assoc : jn (jn x y) z = jn x (jn y z) := by
  apply str_ext
  rw [jn_cps, jn_cps, jn_cps, jn_cps, take_l, take_r, List.append_assoc]
theorem jn_len : (jn x y).length = min 200 (x.length + y.length) := by
  have e : ∀ z : Str, z.length = z.cps.toList.length := fun z => by simp [Str.length]
  rw [e (jn x y), jn_cps, List.length_take, List.length_append, ← e x, ← e y]
theorem jn_nil (hx : okT x) : jn x "" = x := by
  apply str_ext
  rw [jn_cps, show (Str.ofString "").cps.toList = [] from by decide +kernel, List.append_nil, List.take_of_length_le (okT_len hx)]
theorem ok_nil : okT "" := ⟨by decide, by decide +kernel⟩
theorem lt_irr : ∀ l : List Nat, ¬ l < l := fun l => List.lt_irrefl l
theorem leT_self : leT x x = true := by simp [leT, List.lt_irrefl]
theorem leT_total : leT x y = true ∨ leT y x = true := by
  unfold leT
  by_cases h : y.cps.toList < x.cps.toList
  · right
    have : ¬ x.cps.toList < y.cps.toList := fun q => List.lt_irrefl _ (List.lt_trans h q)
    simp [this]
  · left; simp [h]
theorem leT_anti (h1 : leT x y = true) (h2 : leT y x = true) : x = y := by
  simp [leT] at h1 h2
  apply str_ext
  exact List.le_antisymm h1 h2
theorem leT_trans (h1 : leT x y = true) (h2 : leT y z = true) : leT x z = true := by
  simp [leT] at *
  exact List.le_trans h1 h2
theorem pre_le (l m : List Nat) : ¬ (l ++ m) < l := by
  induction l with
  | nil => simp
  | cons a l ih =>
    rw [List.cons_append, List.cons_lt_cons_iff]
    rintro (h | ⟨_, h⟩)
    · omega
    · exact ih h
theorem leT_jn (hx : okT x) : leT x (jn x y) = true := by
  unfold leT
  rw [jn_cps, List.take_append, List.take_of_length_le (okT_len hx)]
  simp only [Bool.not_eq_true', decide_eq_false_iff_not]
  exact pre_le _ _
end
theorem tx_repr {x : Str} {S : Sto} (h : okT x) : reprM [.p (tx x)] S = .ok (.p (.str (tx x).shown)) S := by
  have hl := PySem.StrLaws.reprText_len x (fun c hc => by
    have q := List.all_eq_true.mp h.2 c hc
    simp [chB] at q
    have : (16 : Nat) ^ 8 = 4294967296 := by decide
    omega)
  have h1 := h.1
  refine repr_ok rfl ?_ ?_
  · show max 0 (max 0 0) + 1 ≤ 60
    decide
  · show wt (.str "text") + 2 + ((PyData.str x).shown.length + 2 + 0) + 4 ≤ 1000000
    have e1 : wt (.str "text") = 6 := by decide +kernel
    have e2 : (PyData.str x).shown = reprText x := PyData.shown_str x
    rw [e1, e2]
    omega
/-- the signs that the law's texts have -/
def alB (c : Nat) : Bool := [97, 98, 66, 126, 32, 90].contains c
def okA (x : Str) : Prop := x.cps.toList.all alB = true
theorem al_chr {c : Nat} (h : alB c = true) : Builtin.Str.reprChar 39 c = [c] ∧ c ≠ 39 ∧ chB c = true := by
  simp [alB] at h
  rcases h with rfl | rfl | rfl | rfl | rfl | rfl <;> exact ⟨by decide +kernel, by decide, by decide⟩
theorem fold_al : ∀ (l : List Nat) (acc : Array Nat), l.all alB = true → l.foldl (fun out c => out ++ (Builtin.Str.reprChar 39 c).toArray) acc = acc ++ l.toArray
  | [], acc, _ => by simp
  | c :: l, acc, h => by
    simp only [List.all_cons, Bool.and_eq_true] at h
    rw [List.foldl_cons, (al_chr h.1).1, fold_al l _ h.2]
    simp
theorem repr_al {x : Str} (h : okA x) : (reprText x).cps.toList = 39 :: (x.cps.toList ++ [39]) := by
  have hq : reprQuote x = 39 := by
    unfold reprQuote
    have : x.cps.contains 39 = false := by
      rw [Bool.eq_false_iff]
      intro hc
      have hm : 39 ∈ x.cps.toList := by simpa using hc
      have q := List.all_eq_true.mp h 39 hm
      exact absurd q (by decide)
    rw [this]; rfl
  unfold reprText
  rw [hq]
  show ((x.cps.foldl (fun out c => out ++ (Builtin.Str.reprChar 39 c).toArray) #[39]).push 39).toList = _
  rw [← Array.foldl_toList, fold_al _ _ h]
  simp
theorem cps_app (x y : Str) : (x ++ y).cps.toList = x.cps.toList ++ y.cps.toList := by
  show (x.cps ++ y.cps).toList = _
  simp
theorem tx_inj {x y : Str} (hx : okA x) (hy : okA y) : ((tx x).shown == (tx y).shown) = (x == y) := by
  have e : ∀ z : Str, okA z → (tx z).shown.cps.toList = (Str.ofString "(" ++ Str.ofString "'text'" ++ Str.ofString ", ").cps.toList ++ (39 :: (z.cps.toList ++ [39, 41])) := fun z hz => by
    have e0 : (tx z).shown = (Str.ofString "(") ++ ((PyData.str "text").shown ++ Str.ofString ", " ++ (PyData.str z).shown) ++ Str.ofString ")" := by
      show tupleText [(PyData.str "text").shown, (PyData.str z).shown] = _
      rfl
    have e1 : (PyData.str (Str.ofString "text")).shown = Str.ofString "'text'" := by decide +kernel
    rw [e0, e1, PyData.shown_str, cps_app, cps_app, cps_app, cps_app, repr_al hz, cps_app, cps_app]
    have e2 : (Str.ofString ")").cps.toList = [41] := by decide +kernel
    rw [e2]
    simp
  by_cases c : x = y
  · subst c; simp
  · have : ¬ (tx x).shown = (tx y).shown := fun q => c (by
      have q2 := congrArg (fun s : Str => s.cps.toList) q
      simp only [e x hx, e y hy] at q2
      have q3 := List.append_cancel_left q2
      injection q3 with _ q4
      exact str_ext (List.append_cancel_right q4))
    rw [beq_eq_false_iff_ne.mpr this, beq_eq_false_iff_ne.mpr c]
set_option maxHeartbeats 2000000 in
theorem texts_ok {k : Nat} {S : Sto} {x y z : Str} (hk : 7 ≤ k) (hx : okT x) (hy : okT y) (hz : okT z) (ax : okA x) (ay : okA y) : F k .f_texts_right_l [.p (.str x), .p (.str y), .p (.str z)] S = .ok (.p (.bool true)) S := by
  obtain ⟨k, rfl⟩ : ∃ j, k = j + 1 := ⟨k - 1, by omega⟩
  refine run_ret (m := 13) ?_
  show b_f_texts_right_l (F k) [some (.p (.str x)), some (.p (.str y)), some (.p (.str z)), none, none, none, none, none, none, none, none, none, none] S = _
  have hxy := jn_ok hx hy
  have hyz := jn_ok hy hz
  have j1 : ∀ S, F k .f_Primitives_done [.p (.str "join"), .p (tx x), .p (tx y)] S = .ok (.p (tx (jn x y))) S := fun S => d_join (by omega) hx hy
  have j2 : ∀ S, F k .f_Primitives_done [.p (.str "join"), .p (tx y), .p (tx z)] S = .ok (.p (tx (jn y z))) S := fun S => d_join (by omega) hy hz
  have j3 : ∀ S, F k .f_Primitives_done [.p (.str "join"), .p (tx (jn x y)), .p (tx z)] S = .ok (.p (tx (jn x (jn y z)))) S := fun S => by rw [← jn_assoc]; exact d_join (by omega) hxy hz
  have j4 : ∀ S, F k .f_Primitives_done [.p (.str "join"), .p (tx x), .p (tx (jn y z))] S = .ok (.p (tx (jn x (jn y z)))) S := fun S => d_join (by omega) hx hyz
  have j5 : ∀ S, F k .f_Primitives_done [.p (.str "join"), .p (tx x), .p (tx "")] S = .ok (.p (tx x)) S := fun S => by
    have := d_join (k := k) (S := S) (by omega) hx ok_nil
    rw [show cutS (x ++ Str.ofString "") none (some 200) = x from jn_nil hx] at this
    exact this
  have tm : ∀ (w : Str) S, mkTup [.p (.str "text"), .p (.str w)] S = .ok (.p (tx w)) S := fun w S => rfl
  have r1 : ∀ S, reprM [.p (tx (jn x (jn y z)))] S = _ := fun S => tx_repr (jn_ok hx hyz)
  have r2 : ∀ S, reprM [.p (tx x)] S = _ := fun S => tx_repr hx
  have r3 : ∀ S, reprM [.p (tx y)] S = _ := fun S => tx_repr hy
  have sz : ∀ (w : Str), okT w → ∀ S, F k .f_Primitives_done [.p (.str "size"), .p (tx w)] S = .ok (.p (wh (w.length : Int))) S := fun w hw S => by
    have h1 := hw.1
    rw [d_size (by omega) hw, clamp_id ⟨by unfold BD; omega, by unfold BD; omega⟩]
  have wh1 : ∀ (a : Int) S, opSubs (.p (wh a)) (.p (.int 1)) S = .ok (.p (.int a)) S := fun a S => by unfold wh; simp
  have ln : ((jn x y).length : Int) = if (x.length : Int) + y.length < 200 then (x.length : Int) + y.length else 200 := by
    rw [jn_len]; split <;> omega
  have u1 : ∀ S, F k .f_done_l [.p (.str "uptotext"), .p (tx x), .p (tx y)] S = _ := fun S => l_upt (by omega) hx hy
  have u2 : ∀ S, F k .f_done_l [.p (.str "uptotext"), .p (tx y), .p (tx x)] S = _ := fun S => l_upt (by omega) hy hx
  have u3 : ∀ S, F k .f_done_l [.p (.str "eqtext"), .p (tx x), .p (tx y)] S = _ := fun S => l_eqt (by omega) hx hy
  have u4 : ∀ S, F k .f_done_l [.p (.str "uptotext"), .p (tx y), .p (tx z)] S = _ := fun S => l_upt (by omega) hy hz
  have u5 : ∀ S, F k .f_done_l [.p (.str "uptotext"), .p (tx x), .p (tx z)] S = _ := fun S => l_upt (by omega) hx hz
  have u6 : ∀ S, F k .f_done_l [.p (.str "uptotext"), .p (tx x), .p (tx (jn x y))] S = .ok (.p (.bool true)) S := fun S => by rw [l_upt (by omega) hx hxy, leT_jn hx]
  unfold b_f_texts_right_l
  simp [sSeq_, tm, j1, j2, j3, j4, r1]
  unfold f_texts_right_l_4
  simp [sSeq_, LIM, lcD, sz x hx, sz y hy, sz _ hxy, wh1, ← ln, tm, j5, r2]
  have ri := tx_inj ax ay
  unfold f_texts_right_l_3 f_texts_right_l_2 f_texts_right_l_1
  cases c1 : leT x y with
  | true =>
    cases c2 : leT y x with
    | true =>
      have c3 : (x == y) = true := by rw [leT_anti c1 c2]; simp
      cases c4 : leT y z with
      | true =>
        have c5 := leT_trans c1 c4
        simp [sSeq_, u1, u2, u3, u4, u5, u6, r2, r3, ri, c1, c2, c3, c4, c5]
      | false => simp [sSeq_, u1, u2, u3, u4, u5, u6, r2, r3, ri, c1, c2, c3, c4]
    | false =>
      have c3 : (x == y) = false := by
        rw [beq_eq_false_iff_ne]
        rintro rfl
        rw [c1] at c2; cases c2
      cases c4 : leT y z with
      | true =>
        have c5 := leT_trans c1 c4
        simp [sSeq_, u1, u2, u3, u4, u5, u6, r2, r3, ri, c1, c2, c3, c4, c5]
      | false => simp [sSeq_, u1, u2, u3, u4, u5, u6, r2, r3, ri, c1, c2, c3, c4]
  | false =>
    have c2 : leT y x = true := by
      rcases leT_total (x := x) (y := y) with h | h
      · rw [c1] at h; cases h
      · exact h
    have c3 : (x == y) = false := by
      rw [beq_eq_false_iff_ne]
      rintro rfl
      rw [leT_self] at c1; cases c1
    simp [sSeq_, u1, u2, u3, u4, u5, u6, r2, r3, ri, c1, c2, c3]
end K57

namespace K57
open PySem L2 DL

def C57 : DrC := ⟨2147483629, 39373, 69621, 19, 52, 97⟩
theorem C57_ok : C57.ok := by unfold DrC.ok C57; decide
theorem F_draw (k : Nat) : F (k + 1) .f_draw_l = runF 6 (drawB2 C57) := rfl
theorem F_pick (k : Nat) : F (k + 2) .f_pick_l = runF 2 (pickBX (runF 6 (drawB2 C57))) := rfl
section
variable {cs : List PyData} {L : Nat} {n m : Int} {S : Sto} {k : Nat} {Q : D → Sto → Prop} {X : Exn → Sto → Prop}
theorem dr_wp (hc : Cells cs) (h : Tape cs 0 L n S) (hk : 1 ≤ k) (hn : n ≤ 1000000000000) (hm : 0 < m) (hm2 : m ≤ BD) (q : ∀ g S', 0 ≤ g → g < m → Tape cs 0 L (n + 1) S' → Oth 0 S S' → Q (.p (.int g)) S') : wp (cutX S.length (F k .f_draw_l [.ob 0, .p (.int m)] S)) Q X := by
  obtain ⟨k, rfl⟩ : ∃ j, k = j + 1 := ⟨k - 1, by omega⟩
  rw [F_draw]
  exact drawK_wp C57_ok hc h hn hm (by
    have := lg2 (a := m) ⟨by unfold BD; omega, hm2⟩
    omega) q
theorem pk_wp {xs : List PyData} (hc : Cells cs) (h : Tape cs 0 L n S) (hk : 2 ≤ k) (hn : n ≤ 1000000000000) (hx : xs ≠ []) (hx2 : xs.length < 1000000) (q : ∀ d S', d ∈ xs → Tape cs 0 L (n + 1) S' → Oth 0 S S' → Q (.p d) S') : wp (cutX S.length (F k .f_pick_l [.ob 0, .p (.list xs)] S)) Q X := by
  obtain ⟨k, rfl⟩ : ∃ j, k = j + 2 := ⟨k - 2, by omega⟩
  rw [F_pick]
  exact pickK_wp C57_ok hc h hn hx hx2 q
end
def inW (d : PyData) : Prop := ∃ a, d = .int a ∧ okW a
def inT (d : PyData) : Prop := ∃ x, d = .str x ∧ okT x ∧ okA x
theorem clamp_max (z : Int) : (if -BD < (if z < BD then z else BD) then (if z < BD then z else BD) else -BD) = clamp z := rfl
set_option maxHeartbeats 2000000 in
theorem numbers_wp {cs : List PyData} (hc : Cells cs) {n : Int} {S : Sto} {k : Nat} {Q : D → Sto → Prop} {X : Exn → Sto → Prop} (h : Tape cs 0 1 n S) (hn : n ≤ 100000000) (hk : 4 ≤ k)
    (q : ∀ a b c S', okW a → okW b → okW c → Tape cs 0 1 (n + 12) S' → Q (.p (.list [.int a, .int b, .int c])) S') : wp (cutX S.length (F k .f_numbers_l [.ob 0] S)) Q X := by
  obtain ⟨k, rfl⟩ : ∃ j, k = j + 1 := ⟨k - 1, by omega⟩
  have hL : S.length = 1 := h.1
  refine wp_cutX ?_
  show wp (runF 4 (b_f_numbers_l (F k)) _ S) _ _
  rw [wp_run]
  show wpS (b_f_numbers_l (F k) [some (.ob 0), none, none, none] S) _
  unfold b_f_numbers_l
  simp [range_ok (j := 3) (by decide) (by decide), hL]
  refine forD_wp (fun j ρ S' => ∃ x y xs, ρ = [some (.ob 0), some (.ob 1), x, y] ∧ Tape cs 0 2 (n + 4 * j) S' ∧ S'[1]? = some (.lst xs) ∧ xs.length = j ∧ ∀ d ∈ xs, inW d) (j := 0) ⟨none, none, [], rfl, by simpa using h.app (o := .lst []) (by decide), by simp [hL], rfl, fun d hd => nomatch hd⟩ ?_ ?_
  · rintro j d ρ S' he ⟨x, y, xs, rfl, t, hx, hl, hxs⟩
    have hj : j < 3 := by have := (List.getElem?_eq_some_iff.mp he).1; simpa using this
    rw [Nat.zero_add] at t hl ⊢
    have hd := List.mem_of_getElem? he
    simp at hd
    obtain ⟨a, ha, rfl⟩ := hd
    unfold f_numbers_l_1
    simp [pow30]
    refine dr_wp hc t (by omega) (by omega) (by decide) (by decide) fun g1 S1 g10 g11 t1 o1 => ?_
    refine dr_wp hc t1 (by omega) (by omega) (by decide) (by decide) fun g2 S2 g20 g21 t2 o2 => ?_
    have hx2 : S2[1]? = some (.lst xs) := ((o1.trans o2) 1 (by decide)).trans hx
    simp [mkLst, LIM]
    rw [addX_po hx2 (by simp [LIM]; omega)]
    simp
    refine pk_wp hc t2 (by omega) (by omega) (by simp) (by simp; omega) fun v S3 hv t3 o3 => ?_
    have hvi : ∃ z, v = .int z := by
      simp at hv
      rcases hv with rfl | rfl | rfl | rfl | rfl | hv
      · exact ⟨_, rfl⟩
      · exact ⟨_, rfl⟩
      · exact ⟨_, rfl⟩
      · exact ⟨_, rfl⟩
      · exact ⟨_, rfl⟩
      · obtain ⟨z, rfl, _⟩ := hxs v hv; exact ⟨z, rfl⟩
    obtain ⟨z, rfl⟩ := hvi
    have hx3 : S3[1]? = some (.lst xs) := (o3 1 (by decide)).trans hx2
    simp [rlOf_ob hx3, pow30]
    refine dr_wp hc t3 (by omega) (by omega) (by decide) (by decide) fun g4 S4 g40 g41 t4 o4 => ?_
    have hx4 : S4[1]? = some (.lst xs) := (o4 1 (by decide)).trans hx3
    simp [clamp_max, append_ok hx4 (show xs.length < 1000000 by omega)]
    refine ⟨(t4.set (by decide)).mono (by omega), xs ++ [.int (clamp (z + g4 - 1))], ?_, by simp [hl], fun d hd => ?_⟩
    · have : 1 < S4.length := by rw [t4.1]; decide
      simp [this]
    · rcases List.mem_append.mp hd with hd | hd
      · exact hxs d hd
      · simp at hd; exact ⟨_, hd, clamp_ok _⟩
  · rintro ρ S' ⟨x, y, xs, rfl, t, hx, hl, hxs⟩
    unfold f_numbers_l_2
    simp [iceD_l hx]
    have : xs.length = 3 := by simpa using hl
    match xs, this, hxs with
    | [d1, d2, d3], _, hxs =>
      obtain ⟨a, rfl, ha⟩ := hxs d1 (by simp)
      obtain ⟨b, rfl, hb⟩ := hxs d2 (by simp)
      obtain ⟨c, rfl, hc'⟩ := hxs d3 (by simp)
      refine q a b c _ ha hb hc' ?_
      have t' : Tape cs 0 2 (n + 12) (S'.set 1 .dead) := (t.set (by decide)).mono (by simp)
      exact t'.cut (by decide) (by decide)
theorem rep_all {x : Array Nat} {f : Nat → Bool} (h : x.toList.all f = true) : ∀ (k : Nat) (acc : Array Nat), acc.toList.all f = true → ((List.replicate k x).foldl (· ++ ·) acc).toList.all f = true
  | 0, acc, ha => by simpa using ha
  | k + 1, acc, ha => by
    rw [List.replicate_succ, List.foldl_cons]
    refine rep_all h k (acc ++ x) ?_
    rw [Array.toList_append, List.all_append, ha, h]
    rfl
theorem repS_A {x : Str} {n : Int} (h : okA x) : okA (repS x n) := by
  unfold repS okA
  split
  · rfl
  · split
    · exact h
    · exact rep_all h _ #[] rfl
theorem repS_len {x : Str} {n : Int} (h : x.length ≤ 201) (hn : n ≤ 199) : (repS x n).length ≤ 39999 := by
  unfold repS
  split
  · decide
  · split
    · omega
    · show ((List.replicate n.toNat x.cps).foldl (· ++ ·) #[]).size ≤ 39999
      rw [rep_size]
      have h1 : x.cps.size ≤ 201 := h
      have h2 : n.toNat ≤ 199 := by omega
      have := Nat.mul_le_mul h2 h1
      simp at this ⊢
      omega
theorem cut_T {x : Str} (h : okA x) : okT (cutS x none (some 200)) ∧ okA (cutS x none (some 200)) := by
  have e : (cutS x none (some 200)).cps.toList = x.cps.toList.take 200 := cut_cps x 200
  have ha : okA (cutS x none (some 200)) := by
    unfold okA
    rw [e, List.all_eq_true]
    intro c hc
    exact List.all_eq_true.mp h c (List.mem_of_mem_take hc)
  refine ⟨⟨?_, ?_⟩, ha⟩
  · have e2 : (cutS x none (some 200)).length = (cutS x none (some 200)).cps.toList.length := by simp [Str.length]
    rw [e2, e, List.length_take]; omega
  · rw [List.all_eq_true]
    intro c hc
    exact (al_chr (List.all_eq_true.mp ha c hc)).2.2
theorem app_A {x y : Str} (hx : okA x) (hy : okA y) : okA (x ++ y) := by
  unfold okA
  rw [cps_app, List.all_append, hx, hy]; rfl
theorem mulX_s {x : Str} {n : Int} {S : Sto} (h : x.length ≤ 1000) (h1 : -1000 ≤ n) (h2 : n ≤ 1000) : opMulX (.p (.str x)) (.p (.int n)) S = .ok (.p (.str (repS x n))) S := by
  simp [opMulX, h, h1, h2]
def stA (d : PyData) : Bool := match d with
  | .str x => x.cps.toList.all alB && decide (x.length ≤ 2)
  | _ => false
def P1 : List PyData := [.str "", .str "a", .str "ab", .str "B", .str "~", .str " "]
def P2 : List PyData := [.str "", .str "", .str "a", .str "Z"]
theorem P1_ok : P1.all stA = true := by decide +kernel
theorem P2_ok : P2.all stA = true := by decide +kernel
theorem P2_len : P2.all (fun d => match d with | .str x => decide (x.length ≤ 1) | _ => false) = true := by decide +kernel
set_option maxHeartbeats 2000000 in
theorem strings_wp {cs : List PyData} (hc : Cells cs) {n : Int} {S : Sto} {k : Nat} {Q : D → Sto → Prop} {X : Exn → Sto → Prop} (h : Tape cs 0 1 n S) (hn : n ≤ 100000000) (hk : 4 ≤ k)
    (q : ∀ x y z S', okT x → okA x → okT y → okA y → okT z → Tape cs 0 1 (n + 9) S' → Q (.p (.list [.str x, .str y, .str z])) S') : wp (cutX S.length (F k .f_strings_l [.ob 0] S)) Q X := by
  obtain ⟨k, rfl⟩ : ∃ j, k = j + 1 := ⟨k - 1, by omega⟩
  have hL : S.length = 1 := h.1
  refine wp_cutX ?_
  show wp (runF 4 (b_f_strings_l (F k)) _ S) _ _
  rw [wp_run]
  show wpS (b_f_strings_l (F k) [some (.ob 0), none, none, none] S) _
  unfold b_f_strings_l
  simp [range_ok (j := 3) (by decide) (by decide), hL]
  refine forD_wp (fun j ρ S' => ∃ x y xs, ρ = [some (.ob 0), some (.ob 1), x, y] ∧ Tape cs 0 2 (n + 3 * j) S' ∧ S'[1]? = some (.lst xs) ∧ xs.length = j ∧ ∀ d ∈ xs, inT d) (j := 0) ⟨none, none, [], rfl, by simpa using h.app (o := .lst []) (by decide), by simp [hL], rfl, fun d hd => nomatch hd⟩ ?_ ?_
  · rintro j d ρ S' he ⟨x, y, xs, rfl, t, hx, hl, hxs⟩
    have hj : j < 3 := by have := (List.getElem?_eq_some_iff.mp he).1; simpa using this
    rw [Nat.zero_add] at t hl ⊢
    have hd := List.mem_of_getElem? he
    simp at hd
    obtain ⟨a, ha, rfl⟩ := hd
    unfold f_strings_l_1
    simp [mkLst, LIM]
    rw [addX_po hx (by simp [LIM]; omega)]
    simp
    refine pk_wp hc t (by omega) (by omega) (by simp) (by simp; omega) fun v S3 hv t3 o3 => ?_
    have hv1 : ∃ z, v = .str z ∧ okA z ∧ z.length ≤ 200 := by
      by_cases hm : v ∈ P1
      · have := List.all_eq_true.mp P1_ok v hm
        cases v with
        | str z => simp [stA] at this; exact ⟨z, rfl, by unfold okA; simpa using this.1, by omega⟩
        | _ => simp [stA] at this
      · have hv2 : v ∈ P1 ++ xs := by simpa [P1] using hv
        rcases List.mem_append.mp hv2 with z | z
        · exact absurd z hm
        · obtain ⟨w, rfl, h1, h2⟩ := hxs v z
          exact ⟨w, rfl, h2, h1.1⟩
    obtain ⟨z, rfl, az, lz⟩ := hv1
    refine pk_wp hc t3 (by omega) (by omega) (by simp) (by simp) fun w S4 hw t4 o4 => ?_
    have hw1 : ∃ u, w = .str u ∧ okA u ∧ u.length ≤ 1 := by
      have hm : w ∈ P2 := hw
      have h1 := List.all_eq_true.mp P2_ok w hm
      have h2 := List.all_eq_true.mp P2_len w hm
      cases w with
      | str u => simp [stA] at h1 h2; exact ⟨u, rfl, by unfold okA; simpa using h1.1, h2⟩
      | _ => simp [stA] at h1
    obtain ⟨u, rfl, au, lu⟩ := hw1
    have azu := app_A az au
    have lzu : (z ++ u).length ≤ 201 := by rw [str_len_app]; omega
    rw [addX_s (by unfold LIM; omega)]
    have hx4 : S4[1]? = some (.lst xs) := ((o3.trans o4) 1 (by decide)).trans hx
    simp [rlOf_ob hx4, mkLst, LIM]
    refine pk_wp hc t4 (by omega) (by omega) (by simp) (by simp) fun w S5 hw t5 o5 => ?_
    have hw2 : ∃ i, w = .int i ∧ 1 ≤ i ∧ i ≤ 199 := by
      simp at hw
      rcases hw with rfl | rfl | rfl
      · exact ⟨_, rfl, by decide, by decide⟩
      · exact ⟨_, rfl, by decide, by decide⟩
      · exact ⟨_, rfl, by decide, by decide⟩
    obtain ⟨i, rfl, i1, i2⟩ := hw2
    have hx5 : S5[1]? = some (.lst xs) := (o5 1 (by decide)).trans hx4
    have lr := repS_len (n := i) lzu i2
    simp [mulX_s (show (z ++ u).length ≤ 1000 by omega) (show -1000 ≤ i by omega) (show i ≤ 1000 by omega), sliM, LIM, show (repS (z ++ u) i).length ≤ 1000000 by omega, append_ok hx5 (show xs.length < 1000000 by omega)]
    have cT := cut_T (repS_A (n := i) azu)
    refine ⟨(t5.set (by decide)).mono (by omega), xs ++ [.str (cutS (repS (z ++ u) i) none (some 200))], ?_, by simp [hl], fun d hd => ?_⟩
    · have : 1 < S5.length := by rw [t5.1]; decide
      simp [this]
    · rcases List.mem_append.mp hd with hd | hd
      · exact hxs d hd
      · simp at hd; exact ⟨_, hd, cT⟩
  · rintro ρ S' ⟨x, y, xs, rfl, t, hx, hl, hxs⟩
    unfold f_strings_l_2
    simp [iceD_l hx]
    have : xs.length = 3 := by simpa using hl
    match xs, this, hxs with
    | [d1, d2, d3], _, hxs =>
      obtain ⟨a, rfl, ha⟩ := hxs d1 (by simp)
      obtain ⟨b, rfl, hb⟩ := hxs d2 (by simp)
      obtain ⟨c, rfl, hc'⟩ := hxs d3 (by simp)
      refine q a b c _ ha.1 ha.2 hb.1 hb.2 hc'.1 ?_
      have t' : Tape cs 0 2 (n + 9) (S'.set 1 .dead) := (t.set (by decide)).mono (by simp)
      exact t'.cut (by decide) (by decide)
end K57

namespace K57
open PySem L2 DL

def TOP : Nat := 40
set_option maxHeartbeats 2000000 in
theorem holds : ∀ ns : List Int, ns.length ≤ 63 → ∃ S', F TOP .f_law [.ro (nums ns)] [] = .ok (.p (.bool true)) S' := by
  intro ns hl
  obtain ⟨cs, hc, e0⟩ := begin_ok ns
  suffices h : wp (F TOP .f_law [.ro (nums ns)] []) (fun d s => d = .p (.bool true)) noX by
    obtain ⟨a, s, e, rfl⟩ := wp_ex h
    exact ⟨s, e⟩
  show wp (runF 6 (b_f_law (F 39)) _ []) _ _
  rw [wp_run]
  show wpS (b_f_law (F 39) [some (.ro (nums ns)), none, none, none, none, none] []) _
  unfold b_f_law
  have eb : F 39 .f_begin_l [.ro (nums ns)] [] = .ok (.ob 0) [.dic (tpd cs 0 0)] := e0
  simp [eb, cutX, range_ok (j := 20) (by decide) (by decide)]
  refine forT_wp 20 (fun j ρ => ∃ x2 x3 x4 x5, ρ = [some (.ro (nums ns)), some (.ob 0), x2, x3, x4, x5]) (c := 30) (by decide) (by simp) ⟨_, _, _, _, rfl⟩ (tape0 (cs := cs)) ?_ ?_
  · rintro j d ρ n' S' he ⟨x2, x3, x4, x5, rfl⟩ hn1 hn2 t0
    have hd := List.mem_of_getElem? he
    simp at hd
    obtain ⟨a, ha, rfl⟩ := hd
    unfold f_law_2
    simp
    refine numbers_wp hc t0 (by omega) (by decide) fun a b c S1 ha hb hc' t1 => ?_
    have w := wholes_ok (k := 39) (S := S1) (by decide) ha hb hc'
    simp [gLstD, lstOf, w]
    unfold f_law_1
    simp
    refine strings_wp hc t1 (by omega) (by decide) fun x y z S2 hx ax hy ay hz t2 => ?_
    have w2 := texts_ok (k := 39) (S := S2) (by decide) hx hy hz ax ay
    simp [gLstD, lstOf, w2]
    exact t2.mono (by omega)
  · rintro ρ S ⟨x2, x3, x4, x5, rfl⟩ t
    unfold f_law_3
    simp
end K57

namespace K57
open PySem L2 DL PySem.Spec PyProof.Rows

def top (i : Nat) : Stmt := PySem.Challenge.pw_leastneeds_k57_whole_rules_of_primitives.main.body.getD i (.Pass ⟨0, 0, 0, 0⟩)
def inCls (s : Stmt) (j : Nat) : Stmt := match s with
  | .ClassDef _ _ _ b _ _ _ _ _ _ _ => b.getD j (.Pass ⟨0, 0, 0, 0⟩)
  | s => s
abbrev s_f_is_whole : Stmt := top 7
abbrev s_f_is_text : Stmt := top 8
abbrev s_f_computed : Stmt := top 11
abbrev s_f_value_of : Stmt := top 12
abbrev s_f_is_for : Stmt := top 13
abbrev s_f_need_primitive : Stmt := top 14
abbrev s_f_Primitives_done : Stmt := inCls (top 15) 2
abbrev s_f_begin_l : Stmt := top 17
abbrev s_f_draw_l : Stmt := top 18
abbrev s_f_pick_l : Stmt := top 19
abbrev s_f_done_l : Stmt := top 20
abbrev s_f_whole_l : Stmt := top 21
abbrev s_f_numbers_l : Stmt := top 22
abbrev s_f_strings_l : Stmt := top 23
abbrev s_f_wholes_right_l : Stmt := top 24
abbrev s_f_texts_right_l : Stmt := top 25
abbrev s_f_law : Stmt := top 26
structure Tops (K : PySem.W.Frag) (mg : Str → Option Value) (w : World) (ad : Fn → Addr) (fd : Fn → FuncData) : Prop where
  kp_f_is_whole : PySem.W.keepIn K (.ref (ad .f_is_whole)) = true
  fn_f_is_whole : Fun K "is_whole" "is_whole" s_f_is_whole (ad .f_is_whole) (fd .f_is_whole)
  m_f_is_whole : mg "is_whole" = some (.ref (ad .f_is_whole))
  b_f_is_whole : Binds K (fd .f_is_whole) ["value"] []
  kp_f_is_text : PySem.W.keepIn K (.ref (ad .f_is_text)) = true
  fn_f_is_text : Fun K "is_text" "is_text" s_f_is_text (ad .f_is_text) (fd .f_is_text)
  m_f_is_text : mg "is_text" = some (.ref (ad .f_is_text))
  b_f_is_text : Binds K (fd .f_is_text) ["value"] []
  kp_f_computed : PySem.W.keepIn K (.ref (ad .f_computed)) = true
  fn_f_computed : Fun K "computed" "computed" s_f_computed (ad .f_computed) (fd .f_computed)
  m_f_computed : mg "computed" = some (.ref (ad .f_computed))
  b_f_computed : Binds K (fd .f_computed) ["name", "given"] []
  kp_f_value_of : PySem.W.keepIn K (.ref (ad .f_value_of)) = true
  fn_f_value_of : Fun K "value_of" "value_of" s_f_value_of (ad .f_value_of) (fd .f_value_of)
  m_f_value_of : mg "value_of" = some (.ref (ad .f_value_of))
  b_f_value_of : Binds K (fd .f_value_of) ["sort", "found"] []
  kp_f_is_for : PySem.W.keepIn K (.ref (ad .f_is_for)) = true
  fn_f_is_for : Fun K "is_for" "is_for" s_f_is_for (ad .f_is_for) (fd .f_is_for)
  m_f_is_for : mg "is_for" = some (.ref (ad .f_is_for))
  b_f_is_for : Binds K (fd .f_is_for) ["sort", "value"] []
  kp_f_need_primitive : PySem.W.keepIn K (.ref (ad .f_need_primitive)) = true
  fn_f_need_primitive : Fun K "need_primitive" "need_primitive" s_f_need_primitive (ad .f_need_primitive) (fd .f_need_primitive)
  m_f_need_primitive : mg "need_primitive" = some (.ref (ad .f_need_primitive))
  b_f_need_primitive : Binds K (fd .f_need_primitive) ["name"] []
  kp_f_Primitives_done : PySem.W.keepIn K (.ref (ad .f_Primitives_done)) = true
  fn_f_Primitives_done : Fun K "done" "Primitives.done" s_f_Primitives_done (ad .f_Primitives_done) (fd .f_Primitives_done)
  sm_f_Primitives_done : ∃ C mc p, mg "Primitives" = some (.ref C) ∧ SMet K C mc "done" p (ad .f_Primitives_done)
  v_f_Primitives_done : ∀ us rest : List Value, us.length = (["name"] : List Str).length → bindArgs (fd .f_Primitives_done) ⟨us ++ rest, []⟩ = (newTuple rest >>= fun t => pure ((["name"] : List Str).zip us ++ [(("values" : Str), t)]))
  kp_f_begin_l : PySem.W.keepIn K (.ref (ad .f_begin_l)) = true
  fn_f_begin_l : Fun K "_law_begin" "_law_begin" s_f_begin_l (ad .f_begin_l) (fd .f_begin_l)
  m_f_begin_l : mg "_law_begin" = some (.ref (ad .f_begin_l))
  b_f_begin_l : Binds K (fd .f_begin_l) ["_law_script"] []
  kp_f_draw_l : PySem.W.keepIn K (.ref (ad .f_draw_l)) = true
  fn_f_draw_l : Fun K "_law_draw" "_law_draw" s_f_draw_l (ad .f_draw_l) (fd .f_draw_l)
  m_f_draw_l : mg "_law_draw" = some (.ref (ad .f_draw_l))
  b_f_draw_l : Binds K (fd .f_draw_l) ["_law_tape", "_law_many"] []
  kp_f_pick_l : PySem.W.keepIn K (.ref (ad .f_pick_l)) = true
  fn_f_pick_l : Fun K "_law_pick" "_law_pick" s_f_pick_l (ad .f_pick_l) (fd .f_pick_l)
  m_f_pick_l : mg "_law_pick" = some (.ref (ad .f_pick_l))
  b_f_pick_l : Binds K (fd .f_pick_l) ["_law_tape", "_law_items"] []
  kp_f_done_l : PySem.W.keepIn K (.ref (ad .f_done_l)) = true
  fn_f_done_l : Fun K "_law_done" "_law_done" s_f_done_l (ad .f_done_l) (fd .f_done_l)
  m_f_done_l : mg "_law_done" = some (.ref (ad .f_done_l))
  b_f_done_l : Binds K (fd .f_done_l) ["_law_which", "_law_one", "_law_other"] []
  kp_f_whole_l : PySem.W.keepIn K (.ref (ad .f_whole_l)) = true
  fn_f_whole_l : Fun K "_law_whole" "_law_whole" s_f_whole_l (ad .f_whole_l) (fd .f_whole_l)
  m_f_whole_l : mg "_law_whole" = some (.ref (ad .f_whole_l))
  b_f_whole_l : Binds K (fd .f_whole_l) ["_law_number"] []
  kp_f_numbers_l : PySem.W.keepIn K (.ref (ad .f_numbers_l)) = true
  fn_f_numbers_l : Fun K "_law_numbers" "_law_numbers" s_f_numbers_l (ad .f_numbers_l) (fd .f_numbers_l)
  m_f_numbers_l : mg "_law_numbers" = some (.ref (ad .f_numbers_l))
  b_f_numbers_l : Binds K (fd .f_numbers_l) ["_law_tape"] []
  kp_f_strings_l : PySem.W.keepIn K (.ref (ad .f_strings_l)) = true
  fn_f_strings_l : Fun K "_law_strings" "_law_strings" s_f_strings_l (ad .f_strings_l) (fd .f_strings_l)
  m_f_strings_l : mg "_law_strings" = some (.ref (ad .f_strings_l))
  b_f_strings_l : Binds K (fd .f_strings_l) ["_law_tape"] []
  kp_f_wholes_right_l : PySem.W.keepIn K (.ref (ad .f_wholes_right_l)) = true
  fn_f_wholes_right_l : Fun K "_law_wholes_right" "_law_wholes_right" s_f_wholes_right_l (ad .f_wholes_right_l) (fd .f_wholes_right_l)
  m_f_wholes_right_l : mg "_law_wholes_right" = some (.ref (ad .f_wholes_right_l))
  b_f_wholes_right_l : Binds K (fd .f_wholes_right_l) ["_law_a", "_law_b", "_law_c"] []
  kp_f_texts_right_l : PySem.W.keepIn K (.ref (ad .f_texts_right_l)) = true
  fn_f_texts_right_l : Fun K "_law_texts_right" "_law_texts_right" s_f_texts_right_l (ad .f_texts_right_l) (fd .f_texts_right_l)
  m_f_texts_right_l : mg "_law_texts_right" = some (.ref (ad .f_texts_right_l))
  b_f_texts_right_l : Binds K (fd .f_texts_right_l) ["_law_a", "_law_b", "_law_c"] []
  kp_f_law : PySem.W.keepIn K (.ref (ad .f_law)) = true
  fn_f_law : Fun K "law" "law" s_f_law (ad .f_law) (fd .f_law)
  m_f_law : mg "law" = some (.ref (ad .f_law))
  b_f_law : Binds K (fd .f_law) ["_law_script"] []
  b_all : mg "all" = none
  b_bool : mg "bool" = none
  b_enumerate : mg "enumerate" = none
  b_int : mg "int" = none
  b_isinstance : mg "isinstance" = none
  b_len : mg "len" = none
  b_max : mg "max" = none
  b_min : mg "min" = none
  b_ord : mg "ord" = none
  b_range : mg "range" = none
  b_repr : mg "repr" = none
  b_str : mg "str" = none
  b_tuple : mg "tuple" = none
  g_BOUND : GlobIs K mg "BOUND" g_BOUND
  g_MOST_CHARACTERS : GlobIs K mg "MOST_CHARACTERS" g_MOST_CHARACTERS
  kd_SORTS : KdIs K mg w "SORTS" kd_SORTS
structure Rk (P : Program) (w : World) (K : PySem.W.Frag) (mg : Str → Option Value) (base : Heap) (ad : Fn → Addr) (fd : Fn → FuncData) (k : Nat) (r : Fn → List D → M D) : Prop where
  f_is_whole : FnX P w K mg base k (ad .f_is_whole) (fd .f_is_whole) ["value"] (spX K 1 (r .f_is_whole))
  f_is_text : FnX P w K mg base k (ad .f_is_text) (fd .f_is_text) ["value"] (spX K 1 (r .f_is_text))
  f_computed : FnX P w K mg base k (ad .f_computed) (fd .f_computed) ["name", "given"] (spX K 2 (r .f_computed))
  f_value_of : FnX P w K mg base k (ad .f_value_of) (fd .f_value_of) ["sort", "found"] (spX K 2 (r .f_value_of))
  f_is_for : FnX P w K mg base k (ad .f_is_for) (fd .f_is_for) ["sort", "value"] (spX K 2 (r .f_is_for))
  f_need_primitive : FnX P w K mg base k (ad .f_need_primitive) (fd .f_need_primitive) ["name"] (spX K 1 (r .f_need_primitive))
  f_Primitives_done : FnP P w K mg base k (ad .f_Primitives_done) (spV K (r .f_Primitives_done))
  f_begin_l : FnX P w K mg base k (ad .f_begin_l) (fd .f_begin_l) ["_law_script"] (spX K 1 (r .f_begin_l))
  f_draw_l : FnX P w K mg base k (ad .f_draw_l) (fd .f_draw_l) ["_law_tape", "_law_many"] (spX K 2 (r .f_draw_l))
  f_pick_l : FnX P w K mg base k (ad .f_pick_l) (fd .f_pick_l) ["_law_tape", "_law_items"] (spX K 2 (r .f_pick_l))
  f_done_l : FnX P w K mg base k (ad .f_done_l) (fd .f_done_l) ["_law_which", "_law_one", "_law_other"] (spX K 3 (r .f_done_l))
  f_whole_l : FnX P w K mg base k (ad .f_whole_l) (fd .f_whole_l) ["_law_number"] (spX K 1 (r .f_whole_l))
  f_numbers_l : FnX P w K mg base k (ad .f_numbers_l) (fd .f_numbers_l) ["_law_tape"] (spX K 1 (r .f_numbers_l))
  f_strings_l : FnX P w K mg base k (ad .f_strings_l) (fd .f_strings_l) ["_law_tape"] (spX K 1 (r .f_strings_l))
  f_wholes_right_l : FnX P w K mg base k (ad .f_wholes_right_l) (fd .f_wholes_right_l) ["_law_a", "_law_b", "_law_c"] (spX K 3 (r .f_wholes_right_l))
  f_texts_right_l : FnX P w K mg base k (ad .f_texts_right_l) (fd .f_texts_right_l) ["_law_a", "_law_b", "_law_c"] (spX K 3 (r .f_texts_right_l))
  f_law : FnX P w K mg base k (ad .f_law) (fd .f_law) ["_law_script"] (spX K 1 (r .f_law))

section
variable {P : Program} {w : World} {K : PySem.W.Frag} {mg : Str → Option Value} {base : Heap} {ad : Fn → Addr} {fd : Fn → FuncData} {k : Nat} {r : Fn → List D → M D}
theorem sc_f_is_whole : FnScope ["value"] ["value"] (defScope s_f_is_whole) := ⟨rfl, rfl, rfl, by decide +kernel, rfl, by decide +kernel, by decide +kernel⟩
theorem sc_f_is_text : FnScope ["value", "sign"] ["value"] (defScope s_f_is_text) := ⟨rfl, rfl, rfl, by decide +kernel, rfl, by decide +kernel, by decide +kernel⟩
theorem sc_f_computed : FnScope ["name", "given", "first", "last"] ["name", "given"] (defScope s_f_computed) := ⟨rfl, rfl, rfl, by decide +kernel, rfl, by decide +kernel, by decide +kernel⟩
theorem sc_f_value_of : FnScope ["sort", "found"] ["sort", "found"] (defScope s_f_value_of) := ⟨rfl, rfl, rfl, by decide +kernel, rfl, by decide +kernel, by decide +kernel⟩
theorem sc_f_is_for : FnScope ["sort", "value"] ["sort", "value"] (defScope s_f_is_for) := ⟨rfl, rfl, rfl, by decide +kernel, rfl, by decide +kernel, by decide +kernel⟩
theorem sc_f_need_primitive : FnScope ["name"] ["name"] (defScope s_f_need_primitive) := ⟨rfl, rfl, rfl, by decide +kernel, rfl, by decide +kernel, by decide +kernel⟩
theorem sc_f_Primitives_done : FnScope ["name", "values", "sorts", "index", "value"] ["name", "values"] (defScope s_f_Primitives_done) := ⟨rfl, rfl, rfl, by decide +kernel, rfl, by decide +kernel, by decide +kernel⟩
theorem sc_f_begin_l : FnScope ["_law_script"] ["_law_script"] (defScope s_f_begin_l) := ⟨rfl, rfl, rfl, by decide +kernel, rfl, by decide +kernel, by decide +kernel⟩
theorem sc_f_draw_l : FnScope ["_law_tape", "_law_many", "_law_found", "_law_place", "_law_count", "_law_cell"] ["_law_tape", "_law_many"] (defScope s_f_draw_l) := ⟨rfl, rfl, rfl, by decide +kernel, rfl, by decide +kernel, by decide +kernel⟩
theorem sc_f_pick_l : FnScope ["_law_tape", "_law_items"] ["_law_tape", "_law_items"] (defScope s_f_pick_l) := ⟨rfl, rfl, rfl, by decide +kernel, rfl, by decide +kernel, by decide +kernel⟩
theorem sc_f_done_l : FnScope ["_law_which", "_law_one", "_law_other", "_law_found"] ["_law_which", "_law_one", "_law_other"] (defScope s_f_done_l) := ⟨rfl, rfl, rfl, by decide +kernel, rfl, by decide +kernel, by decide +kernel⟩
theorem sc_f_whole_l : FnScope ["_law_number"] ["_law_number"] (defScope s_f_whole_l) := ⟨rfl, rfl, rfl, by decide +kernel, rfl, by decide +kernel, by decide +kernel⟩
theorem sc_f_numbers_l : FnScope ["_law_tape", "_law_found", "_law_k", "_law_near"] ["_law_tape"] (defScope s_f_numbers_l) := ⟨rfl, rfl, rfl, by decide +kernel, rfl, by decide +kernel, by decide +kernel⟩
theorem sc_f_strings_l : FnScope ["_law_tape", "_law_found", "_law_k", "_law_some"] ["_law_tape"] (defScope s_f_strings_l) := ⟨rfl, rfl, rfl, by decide +kernel, rfl, by decide +kernel, by decide +kernel⟩
theorem sc_f_wholes_right_l : FnScope ["_law_a", "_law_b", "_law_c", "_law_spelt", "_law_one", "_law_other", "_law_third", "_law_bound", "_law_total", "_law_product", "_law_is_upto", "_law_is_back", "_law_is_like"] ["_law_a", "_law_b", "_law_c"] (defScope s_f_wholes_right_l) := ⟨rfl, rfl, rfl, by decide +kernel, rfl, by decide +kernel, by decide +kernel⟩
theorem sc_f_texts_right_l : FnScope ["_law_a", "_law_b", "_law_c", "_law_sizes", "_law_one", "_law_other", "_law_third", "_law_both", "_law_later", "_law_is_upto", "_law_is_back", "_law_is_like", "_law_some"] ["_law_a", "_law_b", "_law_c"] (defScope s_f_texts_right_l) := ⟨rfl, rfl, rfl, by decide +kernel, rfl, by decide +kernel, by decide +kernel⟩
theorem sc_f_law : FnScope ["_law_script", "_law_tape", "_law_turn", "_law_a", "_law_b", "_law_c"] ["_law_script"] (defScope s_f_law) := ⟨rfl, rfl, rfl, by decide +kernel, rfl, by decide +kernel, by decide +kernel⟩
set_option maxHeartbeats 4000000 in
theorem ok_f_is_whole (T : Tops K mg w ad fd) (R : Rk P w K mg base ad fd k r) : FnX P w K mg base (k + 1) (ad .f_is_whole) (fd .f_is_whole) ["value"] (spX K 1 (runF 1 (b_f_is_whole r))) := by
  refine fnX_data T.fn_f_is_whole sc_f_is_whole rfl rfl _ fun cdv A outer s H E C po => ?_
  unfold b_f_is_whole
  exact (dss_one (ds_ret (de_and (de_isi .int rfl T.b_isinstance rfl T.b_int rfl (de_var 0)) (de_and (de_not (de_isi .bool rfl T.b_isinstance rfl T.b_bool rfl (de_var 0))) (de_one (de_leXleX (de_neg (de_globD rfl T.g_BOUND)) (de_var 0) (de_globD rfl T.g_BOUND)))))))
set_option maxHeartbeats 4000000 in
theorem ok_f_is_text (T : Tops K mg w ad fd) (R : Rk P w K mg base ad fd k r) : FnX P w K mg base (k + 1) (ad .f_is_text) (fd .f_is_text) ["value"] (spX K 1 (runF 2 (b_f_is_text r))) := by
  refine fnX_data T.fn_f_is_text sc_f_is_text rfl rfl _ fun cdv A outer s H E C po => ?_
  unfold b_f_is_text f_is_text_1
  exact (dss_cons (ds_if (dt_bool (dw_or (dt_not (dt_val (de_isi .str rfl T.b_isinstance rfl T.b_str rfl (de_var 0)))) (dt_or1 (dt_gt  (de_len rfl T.b_len (da_cons (de_var 0) da_nil)) (de_globD rfl T.g_MOST_CHARACTERS))))) (dss_one (ds_ret de_bl)) dss_nil)
    (dss_one (ds_ret (de_all rfl rfl T.b_all (da_cons (de_lc (own := [("sign", 1)]) finL_ok rfl sc_f_is_text.nd (di_seq (de_var 0)) (blkOk_by (by show blkC ["value", "sign"] (defScope s_f_is_text) _ _ = true; decide +kernel)) (fun _ _ _ _ _ => (dg_name (i := 1) sc_f_is_text.nd rfl (by first | exact Or.inl rfl | exact Or.inr rfl) (by decide))) (fun _ _ _ _ _ => dts_nil) (fun _ _ _ _ _ => (de_and (de_leXleX de_str (de_var 1) de_str) (de_one (de_neZ C.blk.u65 (de_ord rfl T.b_ord (da_cons (de_var 1) da_nil)) de_int))))) da_nil)))))
set_option maxHeartbeats 4000000 in
theorem ok_f_computed (T : Tops K mg w ad fd) (R : Rk P w K mg base ad fd k r) : FnX P w K mg base (k + 1) (ad .f_computed) (fd .f_computed) ["name", "given"] (spX K 2 (runF 4 (b_f_computed r))) := by
  refine fnX_data T.fn_f_computed sc_f_computed rfl rfl _ fun cdv A outer s H E C po => ?_
  unfold b_f_computed
  exact (dss_cons (ds_par (i := 2) (j := 3) rfl sc_f_computed.nd rfl rfl (by decide) rfl rfl (da_cons (de_subs C.u1 (de_var 1) de_int) (da_cons (de_subs C.u1 (de_var 1) (de_neg de_int)) da_nil)))
    (dss_one (ds_match (de_var 0) (.one (dss_one (ds_ret (de_addX (de_var 2) (de_var 3)))) (.one (dss_one (ds_ret (de_sub (de_var 2) (de_var 3)))) (.one (dss_one (ds_ret (de_mulX (de_var 2) (de_var 3)))) (.or (.cons (.cons .nil)) rfl (dss_one (ds_ret (de_eqZ C.u65 (de_var 2) (de_var 3)))) (.or (.cons (.cons .nil)) rfl (dss_one (ds_ret (de_leX  (de_var 2) (de_var 3)))) (.one (dss_one (ds_ret (de_addX (de_var 2) (de_var 3)))) (.one (dss_one (ds_ret (de_len rfl T.b_len (da_cons (de_var 2) da_nil)))) (.any (dss_one (ds_ret (de_strI rfl T.b_str (da_cons (de_var 2) da_nil)))) .nil)))))))))))
set_option maxHeartbeats 4000000 in
theorem ok_f_value_of (T : Tops K mg w ad fd) (R : Rk P w K mg base ad fd k r) : FnX P w K mg base (k + 1) (ad .f_value_of) (fd .f_value_of) ["sort", "found"] (spX K 2 (runF 2 (b_f_value_of r))) := by
  refine fnX_data T.fn_f_value_of sc_f_value_of rfl rfl _ fun cdv A outer s H E C po => ?_
  unfold b_f_value_of f_value_of_2 f_value_of_1
  exact (dss_cons (ds_if (dt_eqZ C.u65 (de_var 0) de_str) (dss_one (ds_ret (de_tup (da_cons de_str (da_cons (de_max2 rfl rfl T.b_max (da_cons (de_neg (de_globD rfl T.g_BOUND)) (da_cons (de_min2 rfl rfl T.b_min (da_cons (de_globD rfl T.g_BOUND) (da_cons (de_var 1) da_nil))) da_nil))) da_nil))))) dss_nil)
    (dss_cons (ds_if (dt_eqZ C.u65 (de_var 0) de_str) (dss_one (ds_ret (de_tup (da_cons de_str (da_cons (de_slice (de_var 1) do_none (do_some (de_globD rfl T.g_MOST_CHARACTERS))) da_nil))))) dss_nil)
    (dss_one (ds_ret (de_tup (da_cons de_str (da_cons (de_if (dt_val (de_var 1)) de_str de_str) (da_cons (de_tup da_nil) da_nil))))))))
set_option maxHeartbeats 4000000 in
theorem ok_f_is_for (T : Tops K mg w ad fd) (R : Rk P w K mg base ad fd k r) : FnX P w K mg base (k + 1) (ad .f_is_for) (fd .f_is_for) ["sort", "value"] (spX K 2 (runF 2 (b_f_is_for r))) := by
  refine fnX_data T.fn_f_is_for sc_f_is_for rfl rfl _ fun cdv A outer s H E C po => ?_
  unfold b_f_is_for f_is_for_1
  exact (dss_cons (ds_if (dt_bool (dw_or (dt_not (dt_val (de_isi .tuple rfl T.b_isinstance rfl T.b_tuple rfl (de_var 1)))) (dw_or (dt_neZ C.u65 (de_len rfl T.b_len (da_cons (de_var 1) da_nil)) de_int) (dw_or (dt_not (dt_val (de_isi .str rfl T.b_isinstance rfl T.b_str rfl (de_subs C.u1 (de_var 1) de_int)))) (dt_or1 (dt_neZ C.u65 (de_subs C.u1 (de_var 1) de_int) (de_var 0))))))) (dss_one (ds_ret de_bl)) dss_nil)
    (dss_one (ds_ret (de_if (dt_eqZ C.u65 (de_var 0) de_str) (de_callX R.f_is_whole C rfl T.m_f_is_whole T.kp_f_is_whole T.b_f_is_whole (da_cons (de_subs C.u1 (de_var 1) de_int) da_nil)) (de_callX R.f_is_text C rfl T.m_f_is_text T.kp_f_is_text T.b_f_is_text (da_cons (de_subs C.u1 (de_var 1) de_int) da_nil))))))
set_option maxHeartbeats 4000000 in
theorem ok_f_need_primitive (T : Tops K mg w ad fd) (R : Rk P w K mg base ad fd k r) : FnX P w K mg base (k + 1) (ad .f_need_primitive) (fd .f_need_primitive) ["name"] (spX K 1 (runF 1 (b_f_need_primitive r))) := by
  refine fnX_data T.fn_f_need_primitive sc_f_need_primitive rfl rfl _ fun cdv A outer s H E C po => ?_
  unfold b_f_need_primitive
  exact (dss_one (ds_if (dt_bool (dw_or (dt_not (dt_val (de_isi .str rfl T.b_isinstance rfl T.b_str rfl (de_var 0)))) (dt_or1 (dt_kdNotIn rfl T.kd_SORTS (de_var 0))))) (dss_one ds_bad) dss_nil))
set_option maxHeartbeats 4000000 in
theorem ok_f_Primitives_done (T : Tops K mg w ad fd) (R : Rk P w K mg base ad fd k r) : FnP P w K mg base (k + 1) (ad .f_Primitives_done) (spV K (runV 1 5 (b_f_Primitives_done r))) := by
  refine fnP_star (ps := ["name"]) (pv := "values") T.fn_f_Primitives_done sc_f_Primitives_done rfl rfl _ T.v_f_Primitives_done fun cdv A outer s H E C po => ?_
  unfold b_f_Primitives_done f_Primitives_done_3 f_Primitives_done_2 f_Primitives_done_1
  exact (dss_cons (ds_expr (de_callX R.f_need_primitive C rfl T.m_f_need_primitive T.kp_f_need_primitive T.b_f_need_primitive (da_cons (de_var 0) da_nil)))
    (dss_cons (ds_set (i := 2) sc_f_Primitives_done.nd rfl (by first | exact Or.inl rfl | exact Or.inr rfl) (de_slice (de_kdGet rfl T.kd_SORTS (de_var 0)) do_none (do_some (de_neg de_int))))
    (dss_cons (ds_for (vs := [3, 4]) po rfl (di_enumX rfl T.b_enumerate (da_cons (de_var 1) da_nil)) (dg_tup rfl (dgs_cons (dg_name (i := 3) sc_f_Primitives_done.nd rfl (by first | exact Or.inl rfl | exact Or.inr rfl) (by decide)) (dgs_cons (dg_name (i := 4) sc_f_Primitives_done.nd rfl (by first | exact Or.inl rfl | exact Or.inr rfl) (by decide)) dgs_nil))) (dss_one (ds_if (dt_bool (dw_or (dt_ge  (de_var 3) (de_len rfl T.b_len (da_cons (de_var 2) da_nil))) (dt_or1 (dt_not (dt_val (de_callX R.f_is_for C rfl T.m_f_is_for T.kp_f_is_for T.b_f_is_for (da_cons (de_subs C.u1 (de_var 2) (de_var 3)) (da_cons (de_var 4) da_nil)))))))) (dss_one ds_bad) dss_nil)))
    (dss_cons (ds_if (dt_lt  (de_len rfl T.b_len (da_cons (de_var 1) da_nil)) (de_len rfl T.b_len (da_cons (de_var 2) da_nil))) (dss_one ds_bad) dss_nil)
    (dss_one (ds_ret (de_callX R.f_value_of C rfl T.m_f_value_of T.kp_f_value_of T.b_f_value_of (da_cons (de_subs C.u1 (de_kdGet rfl T.kd_SORTS (de_var 0)) (de_neg de_int)) (da_cons (de_callX R.f_computed C rfl T.m_f_computed T.kp_f_computed T.b_f_computed (da_cons (de_var 0) (da_cons (de_lc (own := [("value", 4)]) finL_ok rfl sc_f_Primitives_done.nd (di_seq (de_var 1)) (blkOk_by (by show blkC ["name", "values", "sorts", "index", "value"] (defScope s_f_Primitives_done) _ _ = true; decide +kernel)) (fun _ _ _ _ _ => (dg_name (i := 4) sc_f_Primitives_done.nd rfl (by first | exact Or.inl rfl | exact Or.inr rfl) (by decide))) (fun _ _ _ _ _ => dts_nil) (fun _ _ _ _ _ => (de_subs C.blk.u1 (de_var 4) de_int))) da_nil))) da_nil)))))))))
set_option maxHeartbeats 4000000 in
theorem ok_f_begin_l (T : Tops K mg w ad fd) (R : Rk P w K mg base ad fd k r) : FnX P w K mg base (k + 1) (ad .f_begin_l) (fd .f_begin_l) ["_law_script"] (spX K 1 (runF 1 (b_f_begin_l r))) := by
  refine fnX_data T.fn_f_begin_l sc_f_begin_l rfl rfl _ fun cdv A outer s H E C po => ?_
  unfold b_f_begin_l
  exact (dss_one (ds_ret (de_dispM (.cons de_str (de_or (de_slice (de_var 0) do_none (do_some de_int)) (de_one (de_lst (da_cons de_int da_nil)))) (.cons de_str de_int (.cons de_str de_int .nil))))))
set_option maxHeartbeats 4000000 in
theorem ok_f_draw_l (T : Tops K mg w ad fd) (R : Rk P w K mg base ad fd k r) : FnX P w K mg base (k + 1) (ad .f_draw_l) (fd .f_draw_l) ["_law_tape", "_law_many"] (spX K 2 (runF 6 (b_f_draw_l r))) := by
  refine fnX_data T.fn_f_draw_l sc_f_draw_l rfl rfl _ fun cdv A outer s H E C po => ?_
  unfold b_f_draw_l f_draw_l_1
  exact (dss_cons (ds_if (dt_lt  (de_subs C.u1 (de_var 0) de_str) (de_var 1)) (dss_cons (ds_par (i := 3) (j := 4) rfl sc_f_draw_l.nd rfl rfl (by decide) rfl rfl (da_cons (de_subs C.u1 (de_var 0) de_str) (da_cons (de_len rfl T.b_len (da_cons (de_subs C.u1 (de_var 0) de_str) da_nil)) da_nil)))
    (dss_cons (ds_asgTT (vs := [5]) rfl (da_cons (de_subs C.u1 (de_subs C.u1 (de_var 0) de_str) (de_mod (de_int1 rfl T.b_int (da_cons (de_var 3) da_nil)) (de_var 4))) (da_cons (de_add (de_var 3) de_int) da_nil)) (dgs_cons (dg_name (i := 5) sc_f_draw_l.nd rfl (by first | exact Or.inl rfl | exact Or.inr rfl) (by decide)) (dgs_cons (dg_sub (W := W0) C.u1 (de_var 0) de_str) dgs_nil)) (hd := (lenCons (lenCons lenNil))))
    (dss_cons (ds_asg (vs := []) (de_mod (de_int1 rfl T.b_int (da_cons (de_pow (de_add (de_add (de_mod (de_int1 rfl T.b_int (da_cons (de_var 5) da_nil)) de_int) (de_mulX de_int (de_var 3))) de_int) de_int) da_nil)) (de_add (de_pow de_int de_int) de_int)) (dg_sub (W := W0) C.u1 (de_var 0) de_str))
    (dss_one (ds_if (dt_bool (dw_and (dt_ge  (de_var 5) (de_pow de_int de_int)) (dt_and1 (dt_lt  (de_var 3) (de_var 4))))) (dss_one (ds_asg (vs := []) (de_sub (de_var 5) (de_pow de_int de_int)) (dg_sub (W := W0) C.u1 (de_var 0) de_str))) dss_nil))))) dss_nil)
    (dss_cons (ds_asgTT (vs := [2]) rfl (da_cons (de_mod (de_int1 rfl T.b_int (da_cons (de_subs C.u1 (de_var 0) de_str) da_nil)) (de_var 1)) (da_cons (de_divX (de_subs C.u1 (de_var 0) de_str) (de_var 1)) da_nil)) (dgs_cons (dg_name (i := 2) sc_f_draw_l.nd rfl (by first | exact Or.inl rfl | exact Or.inr rfl) (by decide)) (dgs_cons (dg_sub (W := W0) C.u1 (de_var 0) de_str) dgs_nil)) (hd := (lenCons (lenCons lenNil))))
    (dss_one (ds_ret (de_var 2)))))
set_option maxHeartbeats 4000000 in
theorem ok_f_pick_l (T : Tops K mg w ad fd) (R : Rk P w K mg base ad fd k r) : FnX P w K mg base (k + 1) (ad .f_pick_l) (fd .f_pick_l) ["_law_tape", "_law_items"] (spX K 2 (runF 2 (b_f_pick_l r))) := by
  refine fnX_data T.fn_f_pick_l sc_f_pick_l rfl rfl _ fun cdv A outer s H E C po => ?_
  unfold b_f_pick_l
  exact (dss_one (ds_ret (de_subs C.u1 (de_var 1) (de_callX R.f_draw_l C rfl T.m_f_draw_l T.kp_f_draw_l T.b_f_draw_l (da_cons (de_var 0) (da_cons (de_len rfl T.b_len (da_cons (de_var 1) da_nil)) da_nil))))))
set_option maxHeartbeats 4000000 in
theorem ok_f_done_l (T : Tops K mg w ad fd) (R : Rk P w K mg base ad fd k r) : FnX P w K mg base (k + 1) (ad .f_done_l) (fd .f_done_l) ["_law_which", "_law_one", "_law_other"] (spX K 3 (runF 4 (b_f_done_l r))) := by
  refine fnX_data T.fn_f_done_l sc_f_done_l rfl rfl _ fun cdv A outer s H E C po => ?_
  unfold b_f_done_l
  exact (dss_cons (ds_set (i := 3) sc_f_done_l.nd rfl (by first | exact Or.inl rfl | exact Or.inr rfl) (de_smethVE T.sm_f_Primitives_done R.f_Primitives_done C rfl T.kp_f_Primitives_done (da_cons (de_var 0) (da_cons (de_var 1) (da_cons (de_var 2) da_nil)))))
    (dss_one (ds_ret (de_if (dt_eqZ C.u65 (de_subs C.u1 (de_var 3) de_int) de_str) (de_eqZ C.u65 (de_subs C.u1 (de_var 3) de_int) de_str) (de_subs C.u1 (de_var 3) de_int)))))
set_option maxHeartbeats 4000000 in
theorem ok_f_whole_l (T : Tops K mg w ad fd) (R : Rk P w K mg base ad fd k r) : FnX P w K mg base (k + 1) (ad .f_whole_l) (fd .f_whole_l) ["_law_number"] (spX K 1 (runF 1 (b_f_whole_l r))) := by
  refine fnX_data T.fn_f_whole_l sc_f_whole_l rfl rfl _ fun cdv A outer s H E C po => ?_
  unfold b_f_whole_l
  exact (dss_one (ds_ret (de_tup (da_cons de_str (da_cons (de_var 0) da_nil)))))
set_option maxHeartbeats 4000000 in
theorem ok_f_numbers_l (T : Tops K mg w ad fd) (R : Rk P w K mg base ad fd k r) : FnX P w K mg base (k + 1) (ad .f_numbers_l) (fd .f_numbers_l) ["_law_tape"] (spX K 1 (runF 4 (b_f_numbers_l r))) := by
  refine fnX_data T.fn_f_numbers_l sc_f_numbers_l rfl rfl _ fun cdv A outer s H E C po => ?_
  unfold b_f_numbers_l f_numbers_l_2 f_numbers_l_1
  exact (dss_cons (ds_set (i := 1) sc_f_numbers_l.nd rfl (by first | exact Or.inl rfl | exact Or.inr rfl) (de_lstM da_nil))
    (dss_cons (ds_for (vs := [2]) po rfl (di_range rfl T.b_range (da_cons de_int da_nil)) (dg_name (i := 2) sc_f_numbers_l.nd rfl (by first | exact Or.inl rfl | exact Or.inr rfl) (by decide)) (dss_cons (ds_set (i := 3) sc_f_numbers_l.nd rfl (by first | exact Or.inl rfl | exact Or.inr rfl) (de_callX R.f_pick_l C rfl T.m_f_pick_l T.kp_f_pick_l T.b_f_pick_l (da_cons (de_var 0) (da_cons (de_addX (de_lst (da_cons de_int (da_cons de_int (da_cons (de_pow de_int de_int) (da_cons (de_neg (de_pow de_int de_int)) (da_cons (de_callX R.f_draw_l C rfl T.m_f_draw_l T.kp_f_draw_l T.b_f_draw_l (da_cons (de_var 0) (da_cons (de_pow de_int de_int) da_nil))) (da_cons (de_sub (de_callX R.f_draw_l C rfl T.m_f_draw_l T.kp_f_draw_l T.b_f_draw_l (da_cons (de_var 0) (da_cons de_int da_nil))) de_int) da_nil))))))) (de_var 1)) da_nil))))
    (dss_one (ds_expr (de_append (de_var 1) (da_cons (de_max2 rfl rfl T.b_max (da_cons (de_neg (de_pow de_int de_int)) (da_cons (de_min2 rfl rfl T.b_min (da_cons (de_pow de_int de_int) (da_cons (de_sub (de_addX (de_var 3) (de_callX R.f_draw_l C rfl T.m_f_draw_l T.kp_f_draw_l T.b_f_draw_l (da_cons (de_var 0) (da_cons de_int da_nil)))) de_int) da_nil))) da_nil))) da_nil))))))
    (dss_one (ds_ret (de_ice (de_var 1))))))
set_option maxHeartbeats 4000000 in
theorem ok_f_strings_l (T : Tops K mg w ad fd) (R : Rk P w K mg base ad fd k r) : FnX P w K mg base (k + 1) (ad .f_strings_l) (fd .f_strings_l) ["_law_tape"] (spX K 1 (runF 4 (b_f_strings_l r))) := by
  refine fnX_data T.fn_f_strings_l sc_f_strings_l rfl rfl _ fun cdv A outer s H E C po => ?_
  unfold b_f_strings_l f_strings_l_2 f_strings_l_1
  exact (dss_cons (ds_set (i := 1) sc_f_strings_l.nd rfl (by first | exact Or.inl rfl | exact Or.inr rfl) (de_lstM da_nil))
    (dss_cons (ds_for (vs := [2]) po rfl (di_range rfl T.b_range (da_cons de_int da_nil)) (dg_name (i := 2) sc_f_strings_l.nd rfl (by first | exact Or.inl rfl | exact Or.inr rfl) (by decide)) (dss_cons (ds_set (i := 3) sc_f_strings_l.nd rfl (by first | exact Or.inl rfl | exact Or.inr rfl) (de_addX (de_callX R.f_pick_l C rfl T.m_f_pick_l T.kp_f_pick_l T.b_f_pick_l (da_cons (de_var 0) (da_cons (de_addX (de_lst (da_cons de_str (da_cons de_str (da_cons de_str (da_cons de_str (da_cons de_str (da_cons de_str da_nil))))))) (de_var 1)) da_nil))) (de_callX R.f_pick_l C rfl T.m_f_pick_l T.kp_f_pick_l T.b_f_pick_l (da_cons (de_var 0) (da_cons (de_lst (da_cons de_str (da_cons de_str (da_cons de_str (da_cons de_str da_nil))))) da_nil)))))
    (dss_one (ds_expr (de_append (de_var 1) (da_cons (de_slice (de_mulX (de_var 3) (de_callX R.f_pick_l C rfl T.m_f_pick_l T.kp_f_pick_l T.b_f_pick_l (da_cons (de_var 0) (da_cons (de_lst (da_cons de_int (da_cons de_int (da_cons de_int (da_cons de_int (da_cons de_int da_nil)))))) da_nil)))) do_none (do_some de_int)) da_nil))))))
    (dss_one (ds_ret (de_ice (de_var 1))))))
set_option maxHeartbeats 4000000 in
theorem ok_f_wholes_right_l (T : Tops K mg w ad fd) (R : Rk P w K mg base ad fd k r) : FnX P w K mg base (k + 1) (ad .f_wholes_right_l) (fd .f_wholes_right_l) ["_law_a", "_law_b", "_law_c"] (spX K 3 (runF 13 (b_f_wholes_right_l r))) := by
  refine fnX_data T.fn_f_wholes_right_l sc_f_wholes_right_l rfl rfl _ fun cdv A outer s H E C po => ?_
  unfold b_f_wholes_right_l f_wholes_right_l_7 f_wholes_right_l_6 f_wholes_right_l_5 f_wholes_right_l_4 f_wholes_right_l_3 f_wholes_right_l_2 f_wholes_right_l_1
  exact (dss_cons (ds_asgTT (vs := [4, 5, 6, 7]) rfl (da_cons (de_callX R.f_whole_l C rfl T.m_f_whole_l T.kp_f_whole_l T.b_f_whole_l (da_cons (de_var 0) da_nil)) (da_cons (de_callX R.f_whole_l C rfl T.m_f_whole_l T.kp_f_whole_l T.b_f_whole_l (da_cons (de_var 1) da_nil)) (da_cons (de_callX R.f_whole_l C rfl T.m_f_whole_l T.kp_f_whole_l T.b_f_whole_l (da_cons (de_var 2) da_nil)) (da_cons (de_pow de_int de_int) da_nil)))) (dgs_cons (dg_name (i := 4) sc_f_wholes_right_l.nd rfl (by first | exact Or.inl rfl | exact Or.inr rfl) (by decide)) (dgs_cons (dg_name (i := 5) sc_f_wholes_right_l.nd rfl (by first | exact Or.inl rfl | exact Or.inr rfl) (by decide)) (dgs_cons (dg_name (i := 6) sc_f_wholes_right_l.nd rfl (by first | exact Or.inl rfl | exact Or.inr rfl) (by decide)) (dgs_cons (dg_name (i := 7) sc_f_wholes_right_l.nd rfl (by first | exact Or.inl rfl | exact Or.inr rfl) (by decide)) dgs_nil)))) (hd := (lenCons (lenCons (lenCons (lenCons lenNil))))))
    (dss_cons (ds_par (i := 8) (j := 9) rfl sc_f_wholes_right_l.nd rfl rfl (by decide) rfl rfl (da_cons (de_callX R.f_done_l C rfl T.m_f_done_l T.kp_f_done_l T.b_f_done_l (da_cons de_str (da_cons (de_var 4) (da_cons (de_var 5) da_nil)))) (da_cons (de_callX R.f_done_l C rfl T.m_f_done_l T.kp_f_done_l T.b_f_done_l (da_cons de_str (da_cons (de_var 4) (da_cons (de_var 5) da_nil)))) da_nil)))
    (dss_cons (ds_if (dt_bool (dw_or (dt_neZ C.u65 (de_var 8) (de_callX R.f_done_l C rfl T.m_f_done_l T.kp_f_done_l T.b_f_done_l (da_cons de_str (da_cons (de_var 5) (da_cons (de_var 4) da_nil))))) (dw_or (dt_neZ C.u65 (de_var 9) (de_callX R.f_done_l C rfl T.m_f_done_l T.kp_f_done_l T.b_f_done_l (da_cons de_str (da_cons (de_var 5) (da_cons (de_var 4) da_nil))))) (dt_or1 (dt_not (dt_leXleX (de_neg (de_var 7)) (de_var 8) (de_var 7))))))) (dss_one (ds_ret de_bl)) dss_nil)
    (dss_cons (ds_if (dt_bool (dw_and (dt_ltlt (de_neg (de_var 7)) (de_var 8) (de_var 7)) (dt_and1 (dt_neZ C.u65 (de_callX R.f_done_l C rfl T.m_f_done_l T.kp_f_done_l T.b_f_done_l (da_cons de_str (da_cons (de_callX R.f_whole_l C rfl T.m_f_whole_l T.kp_f_whole_l T.b_f_whole_l (da_cons (de_var 8) da_nil)) (da_cons (de_var 5) da_nil)))) (de_var 0))))) (dss_one (ds_ret de_bl)) dss_nil)
    (dss_cons (ds_if (dt_bool (dw_and (dt_ltlt (de_neg (de_var 7)) (de_var 8) (de_var 7)) (dw_and (dt_ltlt (de_neg (de_var 7)) (de_addX (de_var 1) (de_var 2)) (de_var 7)) (dt_and1 (dt_leXleX (de_neg (de_var 7)) (de_addX (de_addX (de_var 0) (de_var 1)) (de_var 2)) (de_var 7)))))) (dss_one (ds_if (dt_neZ C.u65 (de_callX R.f_done_l C rfl T.m_f_done_l T.kp_f_done_l T.b_f_done_l (da_cons de_str (da_cons (de_callX R.f_whole_l C rfl T.m_f_whole_l T.kp_f_whole_l T.b_f_whole_l (da_cons (de_var 8) da_nil)) (da_cons (de_var 6) da_nil)))) (de_callX R.f_done_l C rfl T.m_f_done_l T.kp_f_done_l T.b_f_done_l (da_cons de_str (da_cons (de_var 4) (da_cons (de_callX R.f_whole_l C rfl T.m_f_whole_l T.kp_f_whole_l T.b_f_whole_l (da_cons (de_addX (de_var 1) (de_var 2)) da_nil)) da_nil))))) (dss_one (ds_ret de_bl)) dss_nil)) dss_nil)
    (dss_cons (ds_par3 (i := 10) (j := 11) (l := 12) rfl sc_f_wholes_right_l.nd rfl rfl rfl (by decide) (by decide) (by decide) rfl rfl rfl (da_cons (de_callX R.f_done_l C rfl T.m_f_done_l T.kp_f_done_l T.b_f_done_l (da_cons de_str (da_cons (de_var 4) (da_cons (de_var 5) da_nil)))) (da_cons (de_callX R.f_done_l C rfl T.m_f_done_l T.kp_f_done_l T.b_f_done_l (da_cons de_str (da_cons (de_var 5) (da_cons (de_var 4) da_nil)))) (da_cons (de_callX R.f_done_l C rfl T.m_f_done_l T.kp_f_done_l T.b_f_done_l (da_cons de_str (da_cons (de_var 4) (da_cons (de_var 5) da_nil)))) da_nil))))
    (dss_cons (ds_if (dt_bool (dw_or (dt_neZ C.u65 (de_var 12) (de_and (de_var 10) (de_one (de_var 11)))) (dw_or (dt_not (dt_bool (dw_or (dt_val (de_var 10)) (dt_or1 (dt_val (de_var 11)))))) (dt_or1 (dt_not (dt_val (de_callX R.f_done_l C rfl T.m_f_done_l T.kp_f_done_l T.b_f_done_l (da_cons de_str (da_cons (de_var 4) (da_cons (de_var 4) da_nil)))))))))) (dss_one (ds_ret de_bl)) dss_nil)
    (dss_cons (ds_if (dt_bool (dw_and (dt_val (de_var 10)) (dw_and (dt_val (de_callX R.f_done_l C rfl T.m_f_done_l T.kp_f_done_l T.b_f_done_l (da_cons de_str (da_cons (de_var 5) (da_cons (de_var 6) da_nil))))) (dt_and1 (dt_not (dt_val (de_callX R.f_done_l C rfl T.m_f_done_l T.kp_f_done_l T.b_f_done_l (da_cons de_str (da_cons (de_var 4) (da_cons (de_var 6) da_nil)))))))))) (dss_one (ds_ret de_bl)) dss_nil)
    (dss_cons (ds_if (dt_bool (dw_and (dt_val (de_var 10)) (dt_and1 (dt_not (dt_val (de_callX R.f_done_l C rfl T.m_f_done_l T.kp_f_done_l T.b_f_done_l (da_cons de_str (da_cons (de_callX R.f_whole_l C rfl T.m_f_whole_l T.kp_f_whole_l T.b_f_whole_l (da_cons (de_var 8) da_nil)) (da_cons (de_callX R.f_whole_l C rfl T.m_f_whole_l T.kp_f_whole_l T.b_f_whole_l (da_cons (de_callX R.f_done_l C rfl T.m_f_done_l T.kp_f_done_l T.b_f_done_l (da_cons de_str (da_cons (de_var 5) (da_cons (de_var 5) da_nil)))) da_nil)) da_nil))))))))) (dss_one (ds_ret de_bl)) dss_nil)
    (dss_cons (ds_if (dt_bool (dw_or (dt_neZ C.u65 (de_callX R.f_done_l C rfl T.m_f_done_l T.kp_f_done_l T.b_f_done_l (da_cons de_str (da_cons (de_var 4) (da_cons (de_var 4) da_nil)))) de_int) (dw_or (dt_neZ C.u65 (de_callX R.f_done_l C rfl T.m_f_done_l T.kp_f_done_l T.b_f_done_l (da_cons de_str (da_cons (de_var 4) (da_cons (de_callX R.f_whole_l C rfl T.m_f_whole_l T.kp_f_whole_l T.b_f_whole_l (da_cons de_int da_nil)) da_nil)))) (de_var 0)) (dt_or1 (dt_neZ C.u65 (de_callX R.f_done_l C rfl T.m_f_done_l T.kp_f_done_l T.b_f_done_l (da_cons de_str (da_cons (de_var 4) (da_cons (de_callX R.f_whole_l C rfl T.m_f_whole_l T.kp_f_whole_l T.b_f_whole_l (da_cons de_int da_nil)) da_nil)))) (de_var 0)))))) (dss_one (ds_ret de_bl)) dss_nil)
    (dss_cons (ds_set (i := 3) sc_f_wholes_right_l.nd rfl (by first | exact Or.inl rfl | exact Or.inr rfl) (de_lst (da_cons (de_smethVE T.sm_f_Primitives_done R.f_Primitives_done C rfl T.kp_f_Primitives_done (da_cons de_str (da_cons (de_var 4) da_nil))) (da_cons (de_smethVE T.sm_f_Primitives_done R.f_Primitives_done C rfl T.kp_f_Primitives_done (da_cons de_str (da_cons (de_var 5) da_nil))) da_nil))))
    (dss_one (ds_ret (de_and (de_eqZ C.u65 (de_callX R.f_done_l C rfl T.m_f_done_l T.kp_f_done_l T.b_f_done_l (da_cons de_str (da_cons (de_subs C.u1 (de_var 3) de_int) (da_cons (de_subs C.u1 (de_var 3) de_int) da_nil)))) (de_var 12)) (de_one (de_eqZ C.u65 (de_intT rfl T.b_int (da_cons (de_subs C.u1 (de_subs C.u1 (de_var 3) de_int) de_int) da_nil)) (de_var 0)))))))))))))))))
set_option maxHeartbeats 4000000 in
theorem ok_f_texts_right_l (T : Tops K mg w ad fd) (R : Rk P w K mg base ad fd k r) : FnX P w K mg base (k + 1) (ad .f_texts_right_l) (fd .f_texts_right_l) ["_law_a", "_law_b", "_law_c"] (spX K 3 (runF 13 (b_f_texts_right_l r))) := by
  refine fnX_data T.fn_f_texts_right_l sc_f_texts_right_l rfl rfl _ fun cdv A outer s H E C po => ?_
  unfold b_f_texts_right_l f_texts_right_l_4 f_texts_right_l_3 f_texts_right_l_2 f_texts_right_l_1
  exact (dss_cons (ds_par3 (i := 4) (j := 5) (l := 6) rfl sc_f_texts_right_l.nd rfl rfl rfl (by decide) (by decide) (by decide) rfl rfl rfl (da_cons (de_tup (da_cons de_str (da_cons (de_var 0) da_nil))) (da_cons (de_tup (da_cons de_str (da_cons (de_var 1) da_nil))) (da_cons (de_tup (da_cons de_str (da_cons (de_var 2) da_nil))) da_nil))))
    (dss_cons (ds_par (i := 7) (j := 8) rfl sc_f_texts_right_l.nd rfl rfl (by decide) rfl rfl (da_cons (de_smethVE T.sm_f_Primitives_done R.f_Primitives_done C rfl T.kp_f_Primitives_done (da_cons de_str (da_cons (de_var 4) (da_cons (de_var 5) da_nil)))) (da_cons (de_smethVE T.sm_f_Primitives_done R.f_Primitives_done C rfl T.kp_f_Primitives_done (da_cons de_str (da_cons (de_var 5) (da_cons (de_var 6) da_nil)))) da_nil)))
    (dss_cons (ds_if (dt_neZ C.u65 (de_repr C.hgd C.u64 rfl T.b_repr (da_cons (de_smethVE T.sm_f_Primitives_done R.f_Primitives_done C rfl T.kp_f_Primitives_done (da_cons de_str (da_cons (de_var 7) (da_cons (de_var 6) da_nil)))) da_nil)) (de_repr C.hgd C.u64 rfl T.b_repr (da_cons (de_smethVE T.sm_f_Primitives_done R.f_Primitives_done C rfl T.kp_f_Primitives_done (da_cons de_str (da_cons (de_var 4) (da_cons (de_var 8) da_nil)))) da_nil))) (dss_one (ds_ret de_bl)) dss_nil)
    (dss_cons (ds_setLc (i := 3) (own := [("_law_some", 12)]) finL_ok rfl sc_f_texts_right_l.nd rfl rfl (sw_true rfl rfl rfl rfl) (di_seq (de_tup (da_cons (de_var 4) (da_cons (de_var 5) (da_cons (de_var 7) da_nil))))) (blkOk_by (by show blkC ["_law_a", "_law_b", "_law_c", "_law_sizes", "_law_one", "_law_other", "_law_third", "_law_both", "_law_later", "_law_is_upto", "_law_is_back", "_law_is_like", "_law_some"] (defScope s_f_texts_right_l) _ _ = true; decide +kernel)) (fun _ _ _ _ _ => (dg_name (i := 12) sc_f_texts_right_l.nd rfl (by first | exact Or.inl rfl | exact Or.inr rfl) (by decide))) (fun _ _ _ _ _ => dts_nil) (fun _ _ _ _ _ => (de_subs C.blk.u1 (de_smethVE T.sm_f_Primitives_done R.f_Primitives_done C.blk rfl T.kp_f_Primitives_done (da_cons de_str (da_cons (de_var 12) da_nil))) de_int)))
    (dss_cons (ds_if (dt_bool (dw_or (dt_neZ C.u65 (de_subs C.u1 (de_var 3) de_int) (de_min2 rfl rfl T.b_min (da_cons de_int (da_cons (de_addX (de_subs C.u1 (de_var 3) de_int) (de_subs C.u1 (de_var 3) de_int)) da_nil)))) (dt_or1 (dt_neZ C.u65 (de_repr C.hgd C.u64 rfl T.b_repr (da_cons (de_smethVE T.sm_f_Primitives_done R.f_Primitives_done C rfl T.kp_f_Primitives_done (da_cons de_str (da_cons (de_var 4) (da_cons (de_tup (da_cons de_str (da_cons de_str da_nil))) da_nil)))) da_nil)) (de_repr C.hgd C.u64 rfl T.b_repr (da_cons (de_var 4) da_nil)))))) (dss_one (ds_ret de_bl)) dss_nil)
    (dss_cons (ds_par3 (i := 9) (j := 10) (l := 11) rfl sc_f_texts_right_l.nd rfl rfl rfl (by decide) (by decide) (by decide) rfl rfl rfl (da_cons (de_callX R.f_done_l C rfl T.m_f_done_l T.kp_f_done_l T.b_f_done_l (da_cons de_str (da_cons (de_var 4) (da_cons (de_var 5) da_nil)))) (da_cons (de_callX R.f_done_l C rfl T.m_f_done_l T.kp_f_done_l T.b_f_done_l (da_cons de_str (da_cons (de_var 5) (da_cons (de_var 4) da_nil)))) (da_cons (de_callX R.f_done_l C rfl T.m_f_done_l T.kp_f_done_l T.b_f_done_l (da_cons de_str (da_cons (de_var 4) (da_cons (de_var 5) da_nil)))) da_nil))))
    (dss_cons (ds_if (dt_bool (dw_or (dt_neZ C.u65 (de_var 11) (de_and (de_var 9) (de_one (de_var 10)))) (dw_or (dt_not (dt_bool (dw_or (dt_val (de_var 9)) (dt_or1 (dt_val (de_var 10)))))) (dt_or1 (dt_neZ C.u65 (de_var 11) (de_eqZ C.u65 (de_repr C.hgd C.u64 rfl T.b_repr (da_cons (de_var 4) da_nil)) (de_repr C.hgd C.u64 rfl T.b_repr (da_cons (de_var 5) da_nil)))))))) (dss_one (ds_ret de_bl)) dss_nil)
    (dss_cons (ds_if (dt_bool (dw_and (dt_val (de_var 9)) (dw_and (dt_val (de_callX R.f_done_l C rfl T.m_f_done_l T.kp_f_done_l T.b_f_done_l (da_cons de_str (da_cons (de_var 5) (da_cons (de_var 6) da_nil))))) (dt_and1 (dt_not (dt_val (de_callX R.f_done_l C rfl T.m_f_done_l T.kp_f_done_l T.b_f_done_l (da_cons de_str (da_cons (de_var 4) (da_cons (de_var 6) da_nil)))))))))) (dss_one (ds_ret de_bl)) dss_nil)
    (dss_one (ds_ret (de_and (de_callX R.f_done_l C rfl T.m_f_done_l T.kp_f_done_l T.b_f_done_l (da_cons de_str (da_cons (de_var 4) (da_cons (de_var 7) da_nil)))) (de_one (de_or (de_var 11) (de_one (de_and (de_not (de_var 11)) (de_one (de_neZ C.u65 (de_var 9) (de_var 10))))))))))))))))))
set_option maxHeartbeats 4000000 in
theorem ok_f_law (T : Tops K mg w ad fd) (R : Rk P w K mg base ad fd k r) : FnX P w K mg base (k + 1) (ad .f_law) (fd .f_law) ["_law_script"] (spX K 1 (runF 6 (b_f_law r))) := by
  refine fnX_data T.fn_f_law sc_f_law rfl rfl _ fun cdv A outer s H E C po => ?_
  unfold b_f_law f_law_3 f_law_2 f_law_1
  exact (dss_cons (ds_set (i := 1) sc_f_law.nd rfl (by first | exact Or.inl rfl | exact Or.inr rfl) (de_callX R.f_begin_l C rfl T.m_f_begin_l T.kp_f_begin_l T.b_f_begin_l (da_cons (de_var 0) da_nil)))
    (dss_cons (ds_for (vs := [2]) po rfl (di_range rfl T.b_range (da_cons de_int da_nil)) (dg_name (i := 2) sc_f_law.nd rfl (by first | exact Or.inl rfl | exact Or.inr rfl) (by decide)) (dss_cons (ds_asg (vs := [3, 4, 5]) (de_callX R.f_numbers_l C rfl T.m_f_numbers_l T.kp_f_numbers_l T.b_f_numbers_l (da_cons (de_var 1) da_nil)) (dg_lst rfl (dgs_cons (dg_name (i := 3) sc_f_law.nd rfl (by first | exact Or.inl rfl | exact Or.inr rfl) (by decide)) (dgs_cons (dg_name (i := 4) sc_f_law.nd rfl (by first | exact Or.inl rfl | exact Or.inr rfl) (by decide)) (dgs_cons (dg_name (i := 5) sc_f_law.nd rfl (by first | exact Or.inl rfl | exact Or.inr rfl) (by decide)) dgs_nil)))))
    (dss_cons (ds_if (dt_not (dt_val (de_callX R.f_wholes_right_l C rfl T.m_f_wholes_right_l T.kp_f_wholes_right_l T.b_f_wholes_right_l (da_cons (de_var 3) (da_cons (de_var 4) (da_cons (de_var 5) da_nil)))))) (dss_one (ds_ret de_bl)) dss_nil)
    (dss_cons (ds_asg (vs := [3, 4, 5]) (de_callX R.f_strings_l C rfl T.m_f_strings_l T.kp_f_strings_l T.b_f_strings_l (da_cons (de_var 1) da_nil)) (dg_lst rfl (dgs_cons (dg_name (i := 3) sc_f_law.nd rfl (by first | exact Or.inl rfl | exact Or.inr rfl) (by decide)) (dgs_cons (dg_name (i := 4) sc_f_law.nd rfl (by first | exact Or.inl rfl | exact Or.inr rfl) (by decide)) (dgs_cons (dg_name (i := 5) sc_f_law.nd rfl (by first | exact Or.inl rfl | exact Or.inr rfl) (by decide)) dgs_nil)))))
    (dss_one (ds_if (dt_not (dt_val (de_callX R.f_texts_right_l C rfl T.m_f_texts_right_l T.kp_f_texts_right_l T.b_f_texts_right_l (da_cons (de_var 3) (da_cons (de_var 4) (da_cons (de_var 5) da_nil)))))) (dss_one (ds_ret de_bl)) dss_nil))))))
    (dss_one (ds_ret de_bl))))
theorem all_ok (T : Tops K mg w ad fd) : ∀ k, Rk P w K mg base ad fd k (F k)
  | 0 => ⟨fnX_none, fnX_none, fnX_none, fnX_none, fnX_none, fnX_none, fnP_none, fnX_none, fnX_none, fnX_none, fnX_none, fnX_none, fnX_none, fnX_none, fnX_none, fnX_none, fnX_none⟩
  | k + 1 => by
    have R := all_ok T k
    exact ⟨ok_f_is_whole T R, ok_f_is_text T R, ok_f_computed T R, ok_f_value_of T R, ok_f_is_for T R, ok_f_need_primitive T R, ok_f_Primitives_done T R, ok_f_begin_l T R, ok_f_draw_l T R, ok_f_pick_l T R, ok_f_done_l T R, ok_f_whole_l T R, ok_f_numbers_l T R, ok_f_strings_l T R, ok_f_wholes_right_l T R, ok_f_texts_right_l T R, ok_f_law T R⟩
end
end K57

namespace K57
open PySem L2 DL PySem.Spec PyProof.Rows
theorem all_mk {l : PySem.W.OpenLaw} {w : World} {k : Nat} {K : PySem.W.Frag} {h : Heap} {mg : Str → Option Value} {fa : Addr} (X : K.In h) (G : h.Ns mainGlobals mg) (hfa : mg "law" = some (.ref fa))
    {f0 : Addr} {od0 an0 : Option Addr} {sl0 : Array (Option Value)} {oc0 kV0 dc0 pm0 cd0 ct0 : Value}
    {f1 : Addr} {od1 an1 : Option Addr} {sl1 : Array (Option Value)} {oc1 kV1 dc1 pm1 cd1 ct1 : Value}
    {f2 : Addr} {od2 an2 : Option Addr} {sl2 : Array (Option Value)} {oc2 kV2 dc2 pm2 cd2 ct2 : Value}
    {f3 : Addr} {od3 an3 : Option Addr} {sl3 : Array (Option Value)} {oc3 kV3 dc3 pm3 cd3 ct3 : Value}
    {f4 : Addr} {od4 an4 : Option Addr} {sl4 : Array (Option Value)} {oc4 kV4 dc4 pm4 cd4 ct4 : Value}
    {f5 : Addr} {od5 an5 : Option Addr} {sl5 : Array (Option Value)} {oc5 kV5 dc5 pm5 cd5 ct5 : Value}
    {f6 : Addr} {od6 an6 : Option Addr} {sl6 : Array (Option Value)} {oc6 kV6 dc6 pm6 cd6 ct6 : Value}
    {C_Primitives : Addr} {mc_Primitives : Value}
    {p6 : Addr} {rs6 : List Value}
    {f7 : Addr} {od7 an7 : Option Addr} {sl7 : Array (Option Value)} {oc7 kV7 dc7 pm7 cd7 ct7 : Value}
    {f8 : Addr} {od8 an8 : Option Addr} {sl8 : Array (Option Value)} {oc8 kV8 dc8 pm8 cd8 ct8 : Value}
    {f9 : Addr} {od9 an9 : Option Addr} {sl9 : Array (Option Value)} {oc9 kV9 dc9 pm9 cd9 ct9 : Value}
    {f10 : Addr} {od10 an10 : Option Addr} {sl10 : Array (Option Value)} {oc10 kV10 dc10 pm10 cd10 ct10 : Value}
    {f11 : Addr} {od11 an11 : Option Addr} {sl11 : Array (Option Value)} {oc11 kV11 dc11 pm11 cd11 ct11 : Value}
    {f12 : Addr} {od12 an12 : Option Addr} {sl12 : Array (Option Value)} {oc12 kV12 dc12 pm12 cd12 ct12 : Value}
    {f13 : Addr} {od13 an13 : Option Addr} {sl13 : Array (Option Value)} {oc13 kV13 dc13 pm13 cd13 ct13 : Value}
    {f14 : Addr} {od14 an14 : Option Addr} {sl14 : Array (Option Value)} {oc14 kV14 dc14 pm14 cd14 ct14 : Value}
    {f15 : Addr} {od15 an15 : Option Addr} {sl15 : Array (Option Value)} {oc15 kV15 dc15 pm15 cd15 ct15 : Value}
    {f16 : Addr} {od16 an16 : Option Addr} {sl16 : Array (Option Value)} {oc16 kV16 dc16 pm16 cd16 ct16 : Value}
    {t_BOUND : Nat}
    {t_MOST_CHARACTERS : Nat}
    {a_SORTS : Addr} {es_SORTS : Array DictEntry} {n_SORTS : Nat}
    {b_SORTS_0 : Addr} {d_SORTS_0 : Option Addr} {its_SORTS_0 : Array Value} {m_SORTS_0 : Nat} {sl_SORTS_0 : Array (Option Value)} {ps_SORTS_0 : List (PyData × V)} {h_SORTS_0 : Int} {t_SORTS_0 : Tok}
    {b_SORTS_1 : Addr} {d_SORTS_1 : Option Addr} {its_SORTS_1 : Array Value} {m_SORTS_1 : Nat} {sl_SORTS_1 : Array (Option Value)} {ps_SORTS_1 : List (PyData × V)} {h_SORTS_1 : Int} {t_SORTS_1 : Tok}
    {b_SORTS_2 : Addr} {d_SORTS_2 : Option Addr} {its_SORTS_2 : Array Value} {m_SORTS_2 : Nat} {sl_SORTS_2 : Array (Option Value)} {ps_SORTS_2 : List (PyData × V)} {h_SORTS_2 : Int} {t_SORTS_2 : Tok}
    {b_SORTS_3 : Addr} {d_SORTS_3 : Option Addr} {its_SORTS_3 : Array Value} {m_SORTS_3 : Nat} {sl_SORTS_3 : Array (Option Value)} {ps_SORTS_3 : List (PyData × V)} {h_SORTS_3 : Int} {t_SORTS_3 : Tok}
    {b_SORTS_4 : Addr} {d_SORTS_4 : Option Addr} {its_SORTS_4 : Array Value} {m_SORTS_4 : Nat} {sl_SORTS_4 : Array (Option Value)} {ps_SORTS_4 : List (PyData × V)} {h_SORTS_4 : Int} {t_SORTS_4 : Tok}
    {b_SORTS_5 : Addr} {d_SORTS_5 : Option Addr} {its_SORTS_5 : Array Value} {m_SORTS_5 : Nat} {sl_SORTS_5 : Array (Option Value)} {ps_SORTS_5 : List (PyData × V)} {h_SORTS_5 : Int} {t_SORTS_5 : Tok}
    {b_SORTS_6 : Addr} {d_SORTS_6 : Option Addr} {its_SORTS_6 : Array Value} {m_SORTS_6 : Nat} {sl_SORTS_6 : Array (Option Value)} {ps_SORTS_6 : List (PyData × V)} {h_SORTS_6 : Int} {t_SORTS_6 : Tok}
    {b_SORTS_7 : Addr} {d_SORTS_7 : Option Addr} {its_SORTS_7 : Array Value} {m_SORTS_7 : Nat} {sl_SORTS_7 : Array (Option Value)} {ps_SORTS_7 : List (PyData × V)} {h_SORTS_7 : Int} {t_SORTS_7 : Tok}
    {b_SORTS_8 : Addr} {d_SORTS_8 : Option Addr} {its_SORTS_8 : Array Value} {m_SORTS_8 : Nat} {sl_SORTS_8 : Array (Option Value)} {ps_SORTS_8 : List (PyData × V)} {h_SORTS_8 : Int} {t_SORTS_8 : Tok}
    {b_SORTS_9 : Addr} {d_SORTS_9 : Option Addr} {its_SORTS_9 : Array Value} {m_SORTS_9 : Nat} {sl_SORTS_9 : Array (Option Value)} {ps_SORTS_9 : List (PyData × V)} {h_SORTS_9 : Int} {t_SORTS_9 : Tok}
    (a0 : PySem.W.nsIn K mainGlobals "is_whole" = some (some (.ref f0)))
    (l0 : K.lookup f0 = some ⟨oc0, od0, .func (PySem.W.fnOf "is_whole" "is_whole" (defArgs s_f_is_whole) (defBody s_f_is_whole) (defScope s_f_is_whole) .none kV0 dc0 pm0 an0 cd0 ct0), sl0⟩)
    (c0 : PySem.W.codeIn K cd0 "is_whole" = true)
    (k0 : PySem.W.keepIn K (.ref f0) = true)
    (a1 : PySem.W.nsIn K mainGlobals "is_text" = some (some (.ref f1)))
    (l1 : K.lookup f1 = some ⟨oc1, od1, .func (PySem.W.fnOf "is_text" "is_text" (defArgs s_f_is_text) (defBody s_f_is_text) (defScope s_f_is_text) .none kV1 dc1 pm1 an1 cd1 ct1), sl1⟩)
    (c1 : PySem.W.codeIn K cd1 "is_text" = true)
    (k1 : PySem.W.keepIn K (.ref f1) = true)
    (a2 : PySem.W.nsIn K mainGlobals "computed" = some (some (.ref f2)))
    (l2 : K.lookup f2 = some ⟨oc2, od2, .func (PySem.W.fnOf "computed" "computed" (defArgs s_f_computed) (defBody s_f_computed) (defScope s_f_computed) .none kV2 dc2 pm2 an2 cd2 ct2), sl2⟩)
    (c2 : PySem.W.codeIn K cd2 "computed" = true)
    (k2 : PySem.W.keepIn K (.ref f2) = true)
    (a3 : PySem.W.nsIn K mainGlobals "value_of" = some (some (.ref f3)))
    (l3 : K.lookup f3 = some ⟨oc3, od3, .func (PySem.W.fnOf "value_of" "value_of" (defArgs s_f_value_of) (defBody s_f_value_of) (defScope s_f_value_of) .none kV3 dc3 pm3 an3 cd3 ct3), sl3⟩)
    (c3 : PySem.W.codeIn K cd3 "value_of" = true)
    (k3 : PySem.W.keepIn K (.ref f3) = true)
    (a4 : PySem.W.nsIn K mainGlobals "is_for" = some (some (.ref f4)))
    (l4 : K.lookup f4 = some ⟨oc4, od4, .func (PySem.W.fnOf "is_for" "is_for" (defArgs s_f_is_for) (defBody s_f_is_for) (defScope s_f_is_for) .none kV4 dc4 pm4 an4 cd4 ct4), sl4⟩)
    (c4 : PySem.W.codeIn K cd4 "is_for" = true)
    (k4 : PySem.W.keepIn K (.ref f4) = true)
    (a5 : PySem.W.nsIn K mainGlobals "need_primitive" = some (some (.ref f5)))
    (l5 : K.lookup f5 = some ⟨oc5, od5, .func (PySem.W.fnOf "need_primitive" "need_primitive" (defArgs s_f_need_primitive) (defBody s_f_need_primitive) (defScope s_f_need_primitive) .none kV5 dc5 pm5 an5 cd5 ct5), sl5⟩)
    (c5 : PySem.W.codeIn K cd5 "need_primitive" = true)
    (k5 : PySem.W.keepIn K (.ref f5) = true)
    (ca_Primitives : PySem.W.nsIn K mainGlobals "Primitives" = some (some (.ref C_Primitives)))
    (ct_Primitives : PySem.W.typeIn K (.ref C_Primitives) = some mc_Primitives)
    (cr_Primitives : PySem.W.readsIn K C_Primitives mc_Primitives = true)
    (cg_Primitives : PySem.W.specialIn K (.ref C_Primitives) "__getattribute__" = some (some (.builtin "type.__getattribute__")))
    (sf6 : PySem.W.findCls K (.ref C_Primitives) mc_Primitives "done" = some (.get (.builtin "staticmethod.__get__") (.ref p6) .none (.ref C_Primitives)))
    (sr6 : PySem.W.recIn K p6 "staticmethod" = some (.ref f6 :: rs6))
    (l6 : K.lookup f6 = some ⟨oc6, od6, .func (PySem.W.fnOf "done" "Primitives.done" (defArgs s_f_Primitives_done) (defBody s_f_Primitives_done) (defScope s_f_Primitives_done) .none kV6 dc6 pm6 an6 cd6 ct6), sl6⟩)
    (c6 : PySem.W.codeIn K cd6 "Primitives.done" = true)
    (k6 : PySem.W.keepIn K (.ref f6) = true)
    (a7 : PySem.W.nsIn K mainGlobals "_law_begin" = some (some (.ref f7)))
    (l7 : K.lookup f7 = some ⟨oc7, od7, .func (PySem.W.fnOf "_law_begin" "_law_begin" (defArgs s_f_begin_l) (defBody s_f_begin_l) (defScope s_f_begin_l) .none kV7 dc7 pm7 an7 cd7 ct7), sl7⟩)
    (c7 : PySem.W.codeIn K cd7 "_law_begin" = true)
    (k7 : PySem.W.keepIn K (.ref f7) = true)
    (a8 : PySem.W.nsIn K mainGlobals "_law_draw" = some (some (.ref f8)))
    (l8 : K.lookup f8 = some ⟨oc8, od8, .func (PySem.W.fnOf "_law_draw" "_law_draw" (defArgs s_f_draw_l) (defBody s_f_draw_l) (defScope s_f_draw_l) .none kV8 dc8 pm8 an8 cd8 ct8), sl8⟩)
    (c8 : PySem.W.codeIn K cd8 "_law_draw" = true)
    (k8 : PySem.W.keepIn K (.ref f8) = true)
    (a9 : PySem.W.nsIn K mainGlobals "_law_pick" = some (some (.ref f9)))
    (l9 : K.lookup f9 = some ⟨oc9, od9, .func (PySem.W.fnOf "_law_pick" "_law_pick" (defArgs s_f_pick_l) (defBody s_f_pick_l) (defScope s_f_pick_l) .none kV9 dc9 pm9 an9 cd9 ct9), sl9⟩)
    (c9 : PySem.W.codeIn K cd9 "_law_pick" = true)
    (k9 : PySem.W.keepIn K (.ref f9) = true)
    (a10 : PySem.W.nsIn K mainGlobals "_law_done" = some (some (.ref f10)))
    (l10 : K.lookup f10 = some ⟨oc10, od10, .func (PySem.W.fnOf "_law_done" "_law_done" (defArgs s_f_done_l) (defBody s_f_done_l) (defScope s_f_done_l) .none kV10 dc10 pm10 an10 cd10 ct10), sl10⟩)
    (c10 : PySem.W.codeIn K cd10 "_law_done" = true)
    (k10 : PySem.W.keepIn K (.ref f10) = true)
    (a11 : PySem.W.nsIn K mainGlobals "_law_whole" = some (some (.ref f11)))
    (l11 : K.lookup f11 = some ⟨oc11, od11, .func (PySem.W.fnOf "_law_whole" "_law_whole" (defArgs s_f_whole_l) (defBody s_f_whole_l) (defScope s_f_whole_l) .none kV11 dc11 pm11 an11 cd11 ct11), sl11⟩)
    (c11 : PySem.W.codeIn K cd11 "_law_whole" = true)
    (k11 : PySem.W.keepIn K (.ref f11) = true)
    (a12 : PySem.W.nsIn K mainGlobals "_law_numbers" = some (some (.ref f12)))
    (l12 : K.lookup f12 = some ⟨oc12, od12, .func (PySem.W.fnOf "_law_numbers" "_law_numbers" (defArgs s_f_numbers_l) (defBody s_f_numbers_l) (defScope s_f_numbers_l) .none kV12 dc12 pm12 an12 cd12 ct12), sl12⟩)
    (c12 : PySem.W.codeIn K cd12 "_law_numbers" = true)
    (k12 : PySem.W.keepIn K (.ref f12) = true)
    (a13 : PySem.W.nsIn K mainGlobals "_law_strings" = some (some (.ref f13)))
    (l13 : K.lookup f13 = some ⟨oc13, od13, .func (PySem.W.fnOf "_law_strings" "_law_strings" (defArgs s_f_strings_l) (defBody s_f_strings_l) (defScope s_f_strings_l) .none kV13 dc13 pm13 an13 cd13 ct13), sl13⟩)
    (c13 : PySem.W.codeIn K cd13 "_law_strings" = true)
    (k13 : PySem.W.keepIn K (.ref f13) = true)
    (a14 : PySem.W.nsIn K mainGlobals "_law_wholes_right" = some (some (.ref f14)))
    (l14 : K.lookup f14 = some ⟨oc14, od14, .func (PySem.W.fnOf "_law_wholes_right" "_law_wholes_right" (defArgs s_f_wholes_right_l) (defBody s_f_wholes_right_l) (defScope s_f_wholes_right_l) .none kV14 dc14 pm14 an14 cd14 ct14), sl14⟩)
    (c14 : PySem.W.codeIn K cd14 "_law_wholes_right" = true)
    (k14 : PySem.W.keepIn K (.ref f14) = true)
    (a15 : PySem.W.nsIn K mainGlobals "_law_texts_right" = some (some (.ref f15)))
    (l15 : K.lookup f15 = some ⟨oc15, od15, .func (PySem.W.fnOf "_law_texts_right" "_law_texts_right" (defArgs s_f_texts_right_l) (defBody s_f_texts_right_l) (defScope s_f_texts_right_l) .none kV15 dc15 pm15 an15 cd15 ct15), sl15⟩)
    (c15 : PySem.W.codeIn K cd15 "_law_texts_right" = true)
    (k15 : PySem.W.keepIn K (.ref f15) = true)
    (a16 : PySem.W.nsIn K mainGlobals "law" = some (some (.ref f16)))
    (l16 : K.lookup f16 = some ⟨oc16, od16, .func (PySem.W.fnOf "law" "law" (defArgs s_f_law) (defBody s_f_law) (defScope s_f_law) .none kV16 dc16 pm16 an16 cd16 ct16), sl16⟩)
    (c16 : PySem.W.codeIn K cd16 "law" = true)
    (k16 : PySem.W.keepIn K (.ref f16) = true)
    (z_all : PySem.W.nsIn K mainGlobals "all" = some none)
    (z_bool : PySem.W.nsIn K mainGlobals "bool" = some none)
    (z_enumerate : PySem.W.nsIn K mainGlobals "enumerate" = some none)
    (z_int : PySem.W.nsIn K mainGlobals "int" = some none)
    (z_isinstance : PySem.W.nsIn K mainGlobals "isinstance" = some none)
    (z_len : PySem.W.nsIn K mainGlobals "len" = some none)
    (z_max : PySem.W.nsIn K mainGlobals "max" = some none)
    (z_min : PySem.W.nsIn K mainGlobals "min" = some none)
    (z_ord : PySem.W.nsIn K mainGlobals "ord" = some none)
    (z_range : PySem.W.nsIn K mainGlobals "range" = some none)
    (z_repr : PySem.W.nsIn K mainGlobals "repr" = some none)
    (z_str : PySem.W.nsIn K mainGlobals "str" = some none)
    (z_tuple : PySem.W.nsIn K mainGlobals "tuple" = some none)
    (e_BOUND : PySem.W.nsIn K mainGlobals "BOUND" = some (some (.int 1000000000000000000000000000000 t_BOUND)))
    (e_MOST_CHARACTERS : PySem.W.nsIn K mainGlobals "MOST_CHARACTERS" = some (some (.int 200 t_MOST_CHARACTERS)))
    (e_SORTS : PySem.W.nsIn K mainGlobals "SORTS" = some (some (.ref a_SORTS)))
    (l_SORTS : K.lookup a_SORTS = some ⟨.type "dict", none, .dict es_SORTS n_SORTS, #[]⟩)
    (q_SORTS : PySem.W.KeysLit w.params es_SORTS.toList)
    (h_SORTS : (a_SORTS == sysModules) = false)
    (v_SORTS : es_SORTS.toList = [⟨h_SORTS_0, .str "plus" t_SORTS_0, .ref b_SORTS_0⟩, ⟨h_SORTS_1, .str "minus" t_SORTS_1, .ref b_SORTS_1⟩, ⟨h_SORTS_2, .str "times" t_SORTS_2, .ref b_SORTS_2⟩, ⟨h_SORTS_3, .str "equal" t_SORTS_3, .ref b_SORTS_3⟩, ⟨h_SORTS_4, .str "upto" t_SORTS_4, .ref b_SORTS_4⟩, ⟨h_SORTS_5, .str "join" t_SORTS_5, .ref b_SORTS_5⟩, ⟨h_SORTS_6, .str "size" t_SORTS_6, .ref b_SORTS_6⟩, ⟨h_SORTS_7, .str "eqtext" t_SORTS_7, .ref b_SORTS_7⟩, ⟨h_SORTS_8, .str "uptotext" t_SORTS_8, .ref b_SORTS_8⟩, ⟨h_SORTS_9, .str "spell" t_SORTS_9, .ref b_SORTS_9⟩])
    (l_SORTS_0 : K.lookup b_SORTS_0 = some ⟨.type "tuple", d_SORTS_0, .seq its_SORTS_0 m_SORTS_0, sl_SORTS_0⟩)
    (q_SORTS_0 : flats its_SORTS_0.toList = some ps_SORTS_0)
    (w_SORTS_0 : its_SORTS_0.size ≤ 1000)
    (x_SORTS_0 : PyData.tuple (ps_SORTS_0.map (·.1)) = (.tuple [(.str "whole"), (.str "whole"), (.str "whole")]))
    (l_SORTS_1 : K.lookup b_SORTS_1 = some ⟨.type "tuple", d_SORTS_1, .seq its_SORTS_1 m_SORTS_1, sl_SORTS_1⟩)
    (q_SORTS_1 : flats its_SORTS_1.toList = some ps_SORTS_1)
    (w_SORTS_1 : its_SORTS_1.size ≤ 1000)
    (x_SORTS_1 : PyData.tuple (ps_SORTS_1.map (·.1)) = (.tuple [(.str "whole"), (.str "whole"), (.str "whole")]))
    (l_SORTS_2 : K.lookup b_SORTS_2 = some ⟨.type "tuple", d_SORTS_2, .seq its_SORTS_2 m_SORTS_2, sl_SORTS_2⟩)
    (q_SORTS_2 : flats its_SORTS_2.toList = some ps_SORTS_2)
    (w_SORTS_2 : its_SORTS_2.size ≤ 1000)
    (x_SORTS_2 : PyData.tuple (ps_SORTS_2.map (·.1)) = (.tuple [(.str "whole"), (.str "whole"), (.str "whole")]))
    (l_SORTS_3 : K.lookup b_SORTS_3 = some ⟨.type "tuple", d_SORTS_3, .seq its_SORTS_3 m_SORTS_3, sl_SORTS_3⟩)
    (q_SORTS_3 : flats its_SORTS_3.toList = some ps_SORTS_3)
    (w_SORTS_3 : its_SORTS_3.size ≤ 1000)
    (x_SORTS_3 : PyData.tuple (ps_SORTS_3.map (·.1)) = (.tuple [(.str "whole"), (.str "whole"), (.str "truth")]))
    (l_SORTS_4 : K.lookup b_SORTS_4 = some ⟨.type "tuple", d_SORTS_4, .seq its_SORTS_4 m_SORTS_4, sl_SORTS_4⟩)
    (q_SORTS_4 : flats its_SORTS_4.toList = some ps_SORTS_4)
    (w_SORTS_4 : its_SORTS_4.size ≤ 1000)
    (x_SORTS_4 : PyData.tuple (ps_SORTS_4.map (·.1)) = (.tuple [(.str "whole"), (.str "whole"), (.str "truth")]))
    (l_SORTS_5 : K.lookup b_SORTS_5 = some ⟨.type "tuple", d_SORTS_5, .seq its_SORTS_5 m_SORTS_5, sl_SORTS_5⟩)
    (q_SORTS_5 : flats its_SORTS_5.toList = some ps_SORTS_5)
    (w_SORTS_5 : its_SORTS_5.size ≤ 1000)
    (x_SORTS_5 : PyData.tuple (ps_SORTS_5.map (·.1)) = (.tuple [(.str "text"), (.str "text"), (.str "text")]))
    (l_SORTS_6 : K.lookup b_SORTS_6 = some ⟨.type "tuple", d_SORTS_6, .seq its_SORTS_6 m_SORTS_6, sl_SORTS_6⟩)
    (q_SORTS_6 : flats its_SORTS_6.toList = some ps_SORTS_6)
    (w_SORTS_6 : its_SORTS_6.size ≤ 1000)
    (x_SORTS_6 : PyData.tuple (ps_SORTS_6.map (·.1)) = (.tuple [(.str "text"), (.str "whole")]))
    (l_SORTS_7 : K.lookup b_SORTS_7 = some ⟨.type "tuple", d_SORTS_7, .seq its_SORTS_7 m_SORTS_7, sl_SORTS_7⟩)
    (q_SORTS_7 : flats its_SORTS_7.toList = some ps_SORTS_7)
    (w_SORTS_7 : its_SORTS_7.size ≤ 1000)
    (x_SORTS_7 : PyData.tuple (ps_SORTS_7.map (·.1)) = (.tuple [(.str "text"), (.str "text"), (.str "truth")]))
    (l_SORTS_8 : K.lookup b_SORTS_8 = some ⟨.type "tuple", d_SORTS_8, .seq its_SORTS_8 m_SORTS_8, sl_SORTS_8⟩)
    (q_SORTS_8 : flats its_SORTS_8.toList = some ps_SORTS_8)
    (w_SORTS_8 : its_SORTS_8.size ≤ 1000)
    (x_SORTS_8 : PyData.tuple (ps_SORTS_8.map (·.1)) = (.tuple [(.str "text"), (.str "text"), (.str "truth")]))
    (l_SORTS_9 : K.lookup b_SORTS_9 = some ⟨.type "tuple", d_SORTS_9, .seq its_SORTS_9 m_SORTS_9, sl_SORTS_9⟩)
    (q_SORTS_9 : flats its_SORTS_9.toList = some ps_SORTS_9)
    (w_SORTS_9 : its_SORTS_9.size ≤ 1000)
    (x_SORTS_9 : PyData.tuple (ps_SORTS_9.map (·.1)) = (.tuple [(.str "whole"), (.str "text")])) :
    ∃ fd : FuncData, (∀ (s : Shared) (u : Value), BindsTo s fd ⟨[u], []⟩ [("_law_script", u)]) ∧ ∀ base : Heap, K.In base → base.Ns mainGlobals mg → FnX l.prog w K mg base k fa fd ["_law_script"] (spX K 1 (F k .f_law)) := by
  have e := (PySem.W.mg_of X G a16).symm.trans hfa
  obtain rfl : f16 = fa := by injection e with e; injection e
  have F0 := fun_mk (st := s_f_is_whole) l0 c0 k0
  have B0 := F0.binds (ps := ["value"]) fun _ _ _ _ _ _ us hl => match us, hl with | [_], _ => rfl
  have F1 := fun_mk (st := s_f_is_text) l1 c1 k1
  have B1 := F1.binds (ps := ["value"]) fun _ _ _ _ _ _ us hl => match us, hl with | [_], _ => rfl
  have F2 := fun_mk (st := s_f_computed) l2 c2 k2
  have B2 := F2.binds (ps := ["name", "given"]) fun _ _ _ _ _ _ us hl => match us, hl with | [_, _], _ => rfl
  have F3 := fun_mk (st := s_f_value_of) l3 c3 k3
  have B3 := F3.binds (ps := ["sort", "found"]) fun _ _ _ _ _ _ us hl => match us, hl with | [_, _], _ => rfl
  have F4 := fun_mk (st := s_f_is_for) l4 c4 k4
  have B4 := F4.binds (ps := ["sort", "value"]) fun _ _ _ _ _ _ us hl => match us, hl with | [_, _], _ => rfl
  have F5 := fun_mk (st := s_f_need_primitive) l5 c5 k5
  have B5 := F5.binds (ps := ["name"]) fun _ _ _ _ _ _ us hl => match us, hl with | [_], _ => rfl
  have F6 := fun_mk (st := s_f_Primitives_done) l6 c6 k6
  have B6 : ∀ us rest : List Value, us.length = (["name"] : List Str).length → bindArgs (PySem.W.fnOf "done" "Primitives.done" (defArgs s_f_Primitives_done) (defBody s_f_Primitives_done) (defScope s_f_Primitives_done) .none kV6 dc6 pm6 an6 cd6 ct6) ⟨us ++ rest, []⟩ = (newTuple rest >>= fun t => pure ((["name"] : List Str).zip us ++ [(("values" : Str), t)])) := fun us rest hl => match us, rest, hl with | [_], [], _ => rfl | [_], _ :: _, _ => rfl
  have F7 := fun_mk (st := s_f_begin_l) l7 c7 k7
  have B7 := F7.binds (ps := ["_law_script"]) fun _ _ _ _ _ _ us hl => match us, hl with | [_], _ => rfl
  have F8 := fun_mk (st := s_f_draw_l) l8 c8 k8
  have B8 := F8.binds (ps := ["_law_tape", "_law_many"]) fun _ _ _ _ _ _ us hl => match us, hl with | [_, _], _ => rfl
  have F9 := fun_mk (st := s_f_pick_l) l9 c9 k9
  have B9 := F9.binds (ps := ["_law_tape", "_law_items"]) fun _ _ _ _ _ _ us hl => match us, hl with | [_, _], _ => rfl
  have F10 := fun_mk (st := s_f_done_l) l10 c10 k10
  have B10 := F10.binds (ps := ["_law_which", "_law_one", "_law_other"]) fun _ _ _ _ _ _ us hl => match us, hl with | [_, _, _], _ => rfl
  have F11 := fun_mk (st := s_f_whole_l) l11 c11 k11
  have B11 := F11.binds (ps := ["_law_number"]) fun _ _ _ _ _ _ us hl => match us, hl with | [_], _ => rfl
  have F12 := fun_mk (st := s_f_numbers_l) l12 c12 k12
  have B12 := F12.binds (ps := ["_law_tape"]) fun _ _ _ _ _ _ us hl => match us, hl with | [_], _ => rfl
  have F13 := fun_mk (st := s_f_strings_l) l13 c13 k13
  have B13 := F13.binds (ps := ["_law_tape"]) fun _ _ _ _ _ _ us hl => match us, hl with | [_], _ => rfl
  have F14 := fun_mk (st := s_f_wholes_right_l) l14 c14 k14
  have B14 := F14.binds (ps := ["_law_a", "_law_b", "_law_c"]) fun _ _ _ _ _ _ us hl => match us, hl with | [_, _, _], _ => rfl
  have F15 := fun_mk (st := s_f_texts_right_l) l15 c15 k15
  have B15 := F15.binds (ps := ["_law_a", "_law_b", "_law_c"]) fun _ _ _ _ _ _ us hl => match us, hl with | [_, _, _], _ => rfl
  have F16 := fun_mk (st := s_f_law) l16 c16 k16
  have B16 := F16.binds (ps := ["_law_script"]) fun _ _ _ _ _ _ us hl => match us, hl with | [_], _ => rfl
  have T : Tops K mg w (fun i => match i with | .f_is_whole => f0 | .f_is_text => f1 | .f_computed => f2 | .f_value_of => f3 | .f_is_for => f4 | .f_need_primitive => f5 | .f_Primitives_done => f6 | .f_begin_l => f7 | .f_draw_l => f8 | .f_pick_l => f9 | .f_done_l => f10 | .f_whole_l => f11 | .f_numbers_l => f12 | .f_strings_l => f13 | .f_wholes_right_l => f14 | .f_texts_right_l => f15 | .f_law => f16) (fun i => match i with | .f_is_whole => PySem.W.fnOf "is_whole" "is_whole" (defArgs s_f_is_whole) (defBody s_f_is_whole) (defScope s_f_is_whole) .none kV0 dc0 pm0 an0 cd0 ct0 | .f_is_text => PySem.W.fnOf "is_text" "is_text" (defArgs s_f_is_text) (defBody s_f_is_text) (defScope s_f_is_text) .none kV1 dc1 pm1 an1 cd1 ct1 | .f_computed => PySem.W.fnOf "computed" "computed" (defArgs s_f_computed) (defBody s_f_computed) (defScope s_f_computed) .none kV2 dc2 pm2 an2 cd2 ct2 | .f_value_of => PySem.W.fnOf "value_of" "value_of" (defArgs s_f_value_of) (defBody s_f_value_of) (defScope s_f_value_of) .none kV3 dc3 pm3 an3 cd3 ct3 | .f_is_for => PySem.W.fnOf "is_for" "is_for" (defArgs s_f_is_for) (defBody s_f_is_for) (defScope s_f_is_for) .none kV4 dc4 pm4 an4 cd4 ct4 | .f_need_primitive => PySem.W.fnOf "need_primitive" "need_primitive" (defArgs s_f_need_primitive) (defBody s_f_need_primitive) (defScope s_f_need_primitive) .none kV5 dc5 pm5 an5 cd5 ct5 | .f_Primitives_done => PySem.W.fnOf "done" "Primitives.done" (defArgs s_f_Primitives_done) (defBody s_f_Primitives_done) (defScope s_f_Primitives_done) .none kV6 dc6 pm6 an6 cd6 ct6 | .f_begin_l => PySem.W.fnOf "_law_begin" "_law_begin" (defArgs s_f_begin_l) (defBody s_f_begin_l) (defScope s_f_begin_l) .none kV7 dc7 pm7 an7 cd7 ct7 | .f_draw_l => PySem.W.fnOf "_law_draw" "_law_draw" (defArgs s_f_draw_l) (defBody s_f_draw_l) (defScope s_f_draw_l) .none kV8 dc8 pm8 an8 cd8 ct8 | .f_pick_l => PySem.W.fnOf "_law_pick" "_law_pick" (defArgs s_f_pick_l) (defBody s_f_pick_l) (defScope s_f_pick_l) .none kV9 dc9 pm9 an9 cd9 ct9 | .f_done_l => PySem.W.fnOf "_law_done" "_law_done" (defArgs s_f_done_l) (defBody s_f_done_l) (defScope s_f_done_l) .none kV10 dc10 pm10 an10 cd10 ct10 | .f_whole_l => PySem.W.fnOf "_law_whole" "_law_whole" (defArgs s_f_whole_l) (defBody s_f_whole_l) (defScope s_f_whole_l) .none kV11 dc11 pm11 an11 cd11 ct11 | .f_numbers_l => PySem.W.fnOf "_law_numbers" "_law_numbers" (defArgs s_f_numbers_l) (defBody s_f_numbers_l) (defScope s_f_numbers_l) .none kV12 dc12 pm12 an12 cd12 ct12 | .f_strings_l => PySem.W.fnOf "_law_strings" "_law_strings" (defArgs s_f_strings_l) (defBody s_f_strings_l) (defScope s_f_strings_l) .none kV13 dc13 pm13 an13 cd13 ct13 | .f_wholes_right_l => PySem.W.fnOf "_law_wholes_right" "_law_wholes_right" (defArgs s_f_wholes_right_l) (defBody s_f_wholes_right_l) (defScope s_f_wholes_right_l) .none kV14 dc14 pm14 an14 cd14 ct14 | .f_texts_right_l => PySem.W.fnOf "_law_texts_right" "_law_texts_right" (defArgs s_f_texts_right_l) (defBody s_f_texts_right_l) (defScope s_f_texts_right_l) .none kV15 dc15 pm15 an15 cd15 ct15 | .f_law => PySem.W.fnOf "law" "law" (defArgs s_f_law) (defBody s_f_law) (defScope s_f_law) .none kV16 dc16 pm16 an16 cd16 ct16) := ⟨k0, F0, PySem.W.mg_of X G a0, B0, k1, F1, PySem.W.mg_of X G a1, B1, k2, F2, PySem.W.mg_of X G a2, B2, k3, F3, PySem.W.mg_of X G a3, B3, k4, F4, PySem.W.mg_of X G a4, B4, k5, F5, PySem.W.mg_of X G a5, B5, k6, F6, ⟨C_Primitives, mc_Primitives, p6, PySem.W.mg_of X G ca_Primitives, ⟨cr_Primitives, cg_Primitives, sf6, ⟨rs6, sr6⟩⟩⟩, B6, k7, F7, PySem.W.mg_of X G a7, B7, k8, F8, PySem.W.mg_of X G a8, B8, k9, F9, PySem.W.mg_of X G a9, B9, k10, F10, PySem.W.mg_of X G a10, B10, k11, F11, PySem.W.mg_of X G a11, B11, k12, F12, PySem.W.mg_of X G a12, B12, k13, F13, PySem.W.mg_of X G a13, B13, k14, F14, PySem.W.mg_of X G a14, B14, k15, F15, PySem.W.mg_of X G a15, B15, k16, F16, PySem.W.mg_of X G a16, B16, PySem.W.mg_none_of X G z_all, PySem.W.mg_none_of X G z_bool, PySem.W.mg_none_of X G z_enumerate, PySem.W.mg_none_of X G z_int, PySem.W.mg_none_of X G z_isinstance, PySem.W.mg_none_of X G z_len, PySem.W.mg_none_of X G z_max, PySem.W.mg_none_of X G z_min, PySem.W.mg_none_of X G z_ord, PySem.W.mg_none_of X G z_range, PySem.W.mg_none_of X G z_repr, PySem.W.mg_none_of X G z_str, PySem.W.mg_none_of X G z_tuple, (glob_flat X G e_BOUND rfl), (glob_flat X G e_MOST_CHARACTERS rfl), ⟨⟨a_SORTS, es_SORTS, n_SORTS, PySem.W.mg_of X G e_SORTS, ⟨l_SORTS, q_SORTS, h_SORTS⟩, v_SORTS ▸ (.cons (kd_tup l_SORTS_0 rfl rfl q_SORTS_0 w_SORTS_0 x_SORTS_0) (.cons (kd_tup l_SORTS_1 rfl rfl q_SORTS_1 w_SORTS_1 x_SORTS_1) (.cons (kd_tup l_SORTS_2 rfl rfl q_SORTS_2 w_SORTS_2 x_SORTS_2) (.cons (kd_tup l_SORTS_3 rfl rfl q_SORTS_3 w_SORTS_3 x_SORTS_3) (.cons (kd_tup l_SORTS_4 rfl rfl q_SORTS_4 w_SORTS_4 x_SORTS_4) (.cons (kd_tup l_SORTS_5 rfl rfl q_SORTS_5 w_SORTS_5 x_SORTS_5) (.cons (kd_tup l_SORTS_6 rfl rfl q_SORTS_6 w_SORTS_6 x_SORTS_6) (.cons (kd_tup l_SORTS_7 rfl rfl q_SORTS_7 w_SORTS_7 x_SORTS_7) (.cons (kd_tup l_SORTS_8 rfl rfl q_SORTS_8 w_SORTS_8 x_SORTS_8) (.cons (kd_tup l_SORTS_9 rfl rfl q_SORTS_9 w_SORTS_9 x_SORTS_9) .nil))))))))))⟩⟩⟩
  exact ⟨_, fun s v => .of_eq rfl, fun base _ _ => (all_ok T k).f_law⟩
end K57

open PySem PySem.W PyProof.Rows
set_option maxRecDepth 100000 in
set_option maxHeartbeats 0 in
theorem PySem.Challenge.cw_leastneeds_k57_whole_rules_of_primitives_holds : PySem.Challenge.rw_leastneeds_k57_whole_rules_of_primitives.Holds := by
  w_on; o_law; k_head; (case hw => w_witness2)
  k_fill
  refine DL.walkX_data (k := K57.TOP) (x := "_law_script") (g := K57.F K57.TOP .f_law) (l := PySem.Challenge.rw_leastneeds_k57_whole_rules_of_primitives) rfl rfl ⟨rfl, by decide, by decide⟩ (fun w h Y => PySem.W.kIn_of Y) ?F K57.holds
  case F =>
    intro w mg fa h KX G hmg
    refine' K57.all_mk KX G hmg ?a0 ?l0 ?c0 ?k0 ?a1 ?l1 ?c1 ?k1 ?a2 ?l2 ?c2 ?k2 ?a3 ?l3 ?c3 ?k3 ?a4 ?l4 ?c4 ?k4 ?a5 ?l5 ?c5 ?k5 ?ca_Primitives ?ct_Primitives ?cr_Primitives ?cg_Primitives ?sf6 ?sr6 ?l6 ?c6 ?k6 ?a7 ?l7 ?c7 ?k7 ?a8 ?l8 ?c8 ?k8 ?a9 ?l9 ?c9 ?k9 ?a10 ?l10 ?c10 ?k10 ?a11 ?l11 ?c11 ?k11 ?a12 ?l12 ?c12 ?k12 ?a13 ?l13 ?c13 ?k13 ?a14 ?l14 ?c14 ?k14 ?a15 ?l15 ?c15 ?k15 ?a16 ?l16 ?c16 ?k16 ?z_all ?z_bool ?z_enumerate ?z_int ?z_isinstance ?z_len ?z_max ?z_min ?z_ord ?z_range ?z_repr ?z_str ?z_tuple ?e_BOUND ?e_MOST_CHARACTERS ?e_SORTS ?l_SORTS ?q_SORTS ?h_SORTS ?v_SORTS ?l_SORTS_0 ?q_SORTS_0 ?w_SORTS_0 ?x_SORTS_0 ?l_SORTS_1 ?q_SORTS_1 ?w_SORTS_1 ?x_SORTS_1 ?l_SORTS_2 ?q_SORTS_2 ?w_SORTS_2 ?x_SORTS_2 ?l_SORTS_3 ?q_SORTS_3 ?w_SORTS_3 ?x_SORTS_3 ?l_SORTS_4 ?q_SORTS_4 ?w_SORTS_4 ?x_SORTS_4 ?l_SORTS_5 ?q_SORTS_5 ?w_SORTS_5 ?x_SORTS_5 ?l_SORTS_6 ?q_SORTS_6 ?w_SORTS_6 ?x_SORTS_6 ?l_SORTS_7 ?q_SORTS_7 ?w_SORTS_7 ?x_SORTS_7 ?l_SORTS_8 ?q_SORTS_8 ?w_SORTS_8 ?x_SORTS_8 ?l_SORTS_9 ?q_SORTS_9 ?w_SORTS_9 ?x_SORTS_9
    (case a0 => k_is)
    (case l0 => k_is)
    (case c0 => k_is)
    (case k0 => k_is)
    (case a1 => k_is)
    (case l1 => k_is)
    (case c1 => k_is)
    (case k1 => k_is)
    (case a2 => k_is)
    (case l2 => k_is)
    (case c2 => k_is)
    (case k2 => k_is)
    (case a3 => k_is)
    (case l3 => k_is)
    (case c3 => k_is)
    (case k3 => k_is)
    (case a4 => k_is)
    (case l4 => k_is)
    (case c4 => k_is)
    (case k4 => k_is)
    (case a5 => k_is)
    (case l5 => k_is)
    (case c5 => k_is)
    (case k5 => k_is)
    (case ca_Primitives => k_is)
    (case ct_Primitives => k_is)
    (case cr_Primitives => k_is)
    (case cg_Primitives => k_is)
    (case sf6 => k_is)
    (case sr6 => k_is)
    (case l6 => k_is)
    (case c6 => k_is)
    (case k6 => k_is)
    (case a7 => k_is)
    (case l7 => k_is)
    (case c7 => k_is)
    (case k7 => k_is)
    (case a8 => k_is)
    (case l8 => k_is)
    (case c8 => k_is)
    (case k8 => k_is)
    (case a9 => k_is)
    (case l9 => k_is)
    (case c9 => k_is)
    (case k9 => k_is)
    (case a10 => k_is)
    (case l10 => k_is)
    (case c10 => k_is)
    (case k10 => k_is)
    (case a11 => k_is)
    (case l11 => k_is)
    (case c11 => k_is)
    (case k11 => k_is)
    (case a12 => k_is)
    (case l12 => k_is)
    (case c12 => k_is)
    (case k12 => k_is)
    (case a13 => k_is)
    (case l13 => k_is)
    (case c13 => k_is)
    (case k13 => k_is)
    (case a14 => k_is)
    (case l14 => k_is)
    (case c14 => k_is)
    (case k14 => k_is)
    (case a15 => k_is)
    (case l15 => k_is)
    (case c15 => k_is)
    (case k15 => k_is)
    (case a16 => k_is)
    (case l16 => k_is)
    (case c16 => k_is)
    (case k16 => k_is)
    (case z_all => k_is)
    (case z_bool => k_is)
    (case z_enumerate => k_is)
    (case z_int => k_is)
    (case z_isinstance => k_is)
    (case z_len => k_is)
    (case z_max => k_is)
    (case z_min => k_is)
    (case z_ord => k_is)
    (case z_range => k_is)
    (case z_repr => k_is)
    (case z_str => k_is)
    (case z_tuple => k_is)
    (case e_BOUND => k_is)
    (case e_MOST_CHARACTERS => k_is)
    (case e_SORTS => k_is)
    (case l_SORTS => k_is)
    (case q_SORTS => k_keys)
    (case h_SORTS => rfl)
    (case v_SORTS => rfl)
    (case l_SORTS_0 => k_is)
    (case q_SORTS_0 => rfl)
    (case w_SORTS_0 => decide)
    (case x_SORTS_0 => rfl)
    (case l_SORTS_1 => k_is)
    (case q_SORTS_1 => rfl)
    (case w_SORTS_1 => decide)
    (case x_SORTS_1 => rfl)
    (case l_SORTS_2 => k_is)
    (case q_SORTS_2 => rfl)
    (case w_SORTS_2 => decide)
    (case x_SORTS_2 => rfl)
    (case l_SORTS_3 => k_is)
    (case q_SORTS_3 => rfl)
    (case w_SORTS_3 => decide)
    (case x_SORTS_3 => rfl)
    (case l_SORTS_4 => k_is)
    (case q_SORTS_4 => rfl)
    (case w_SORTS_4 => decide)
    (case x_SORTS_4 => rfl)
    (case l_SORTS_5 => k_is)
    (case q_SORTS_5 => rfl)
    (case w_SORTS_5 => decide)
    (case x_SORTS_5 => rfl)
    (case l_SORTS_6 => k_is)
    (case q_SORTS_6 => rfl)
    (case w_SORTS_6 => decide)
    (case x_SORTS_6 => rfl)
    (case l_SORTS_7 => k_is)
    (case q_SORTS_7 => rfl)
    (case w_SORTS_7 => decide)
    (case x_SORTS_7 => rfl)
    (case l_SORTS_8 => k_is)
    (case q_SORTS_8 => rfl)
    (case w_SORTS_8 => decide)
    (case x_SORTS_8 => rfl)
    (case l_SORTS_9 => k_is)
    (case q_SORTS_9 => rfl)
    (case w_SORTS_9 => decide)
    (case x_SORTS_9 => rfl)
#print axioms PySem.Challenge.cw_leastneeds_k57_whole_rules_of_primitives_holds
