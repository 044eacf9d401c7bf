import PyProof.Rows.All
import Wide.All
import OpenK.AllK
import Wide.FinOn
import HandS.ForMost
import HandS.Exc
import HandS.WordsExc
import HandS.TupAny
import HandS.Flow
import HandS.Style
import HandS.SetKeys
import HandS.More
import HandS.TryOnly
import HandS.Zip
import HandS.IsInst
import HandS.FStr
import HandS.Text
import HandS.Deep
import HandS.Wide
import HandS.DictComp
import HandS.Star
import HandS.ClsMeth
import PyProof.RulesMatch
import KE.GoesEnum
import KE.GoesZip
import KE.GoesMore
import KE.KDictZip
import HandS.Conv
import HandS.Rev
import KE.KDictSum
import KE.KDictList
import PySem.Challenge.RW_leastneeds_k07_whole_most_general_ways
set_option Elab.async false
set_option linter.all false
set_option maxRecDepth 100000
namespace DL
open PySem L2

/-- a value: plain data, a mutable object of the store, a list that is only read (the script), any other thing -/
inductive D where
  | p (x : PyData)
  | ob (i : Nat)
  | ro (xs : List PyData)
  | ext (v : V)

/-- a mutable object -/
inductive MO where
  | dead
  | lst (xs : List PyData)
  | dic (kvs : List (Key × PyData))

abbrev Sto := List MO

/-- the ghost: where the objects of the store stand; what is frozen -/
structure Gh where
  ι : List Addr
  φ : List (Addr × HO)

def Holds (φ : List (Addr × HO)) (H : Hp) : Prop := ∀ p ∈ φ, H p.1 = some p.2
/-- a frozen list, a frozen dict -/
def FL (φ : List (Addr × HO)) (a : Addr) (vs : List V) : Prop := ∀ H : Hp, Holds φ H → H a = some (.lst vs)
def RL (K : PySem.W.Frag) (φ : List (Addr × HO)) (a : Addr) (vs : List V) : Prop := ∀ H : Hp, Holds φ H → SqL K H a vs
def FD (φ : List (Addr × HO)) (a : Addr) (ws : List (Key × V)) : Prop := ∃ o : Obj, ∀ H : Hp, Holds φ H → H a = some (.frz o (.dK ws))
theorem FL.mono {φ φ' : List (Addr × HO)} {a : Addr} {vs : List V} (h : FL φ a vs) (s : ∀ p ∈ φ, p ∈ φ') : FL φ' a vs := fun H q => h H fun p hp => q p (s p hp)
theorem RL.mono {K : PySem.W.Frag} {φ φ' : List (Addr × HO)} {a : Addr} {vs : List V} (h : RL K φ a vs) (s : ∀ p ∈ φ, p ∈ φ') : RL K φ' a vs := fun H q => h H fun p hp => q p (s p hp)
theorem FD.mono {φ φ' : List (Addr × HO)} {a : Addr} {vs : List (Key × V)} (h : FD φ a vs) (s : ∀ p ∈ φ, p ∈ φ') : FD φ' a vs := let ⟨o, h⟩ := h; ⟨o, fun H q => h H fun p hp => q p (s p hp)⟩

def keyPy : Key → PyData
  | .inl i => .int i
  | .inr x => .str x

mutual
/-- plain data at a value -/
inductive Dn (K : PySem.W.Frag) (φ : List (Addr × HO)) (H : Hp) : PyData → V → Prop
  | non : Dn K φ H .none .non
  | bl (b : Bool) : Dn K φ H (.bool b) (.bl b)
  | int (i : Int) : Dn K φ H (.int i) (.int i)
  | str (x : Str) : Dn K φ H (.str x) (.str x)
  | lst {a : Addr} {vs : List V} {ds : List PyData} : FL φ a vs → DnAll K φ H ds vs → Dn K φ H (.list ds) (.ref a)
  | tup {a : Addr} {vs : List V} {ds : List PyData} : SqT K H a vs → DnAll K φ H ds vs → Dn K φ H (.tuple ds) (.ref a)
  | dic {a : Addr} {ws : List (Key × V)} {kvs : List (PyData × PyData)} : FD φ a ws → kvs.map (·.1) = ws.map (fun p => keyPy p.1) → DnAll K φ H (kvs.map (·.2)) (ws.map (·.2)) → Dn K φ H (.dict kvs) (.ref a)
inductive DnAll (K : PySem.W.Frag) (φ : List (Addr × HO)) (H : Hp) : List PyData → List V → Prop
  | nil : DnAll K φ H [] []
  | cons {d : PyData} {ds : List PyData} {v : V} {vs : List V} : Dn K φ H d v → DnAll K φ H ds vs → DnAll K φ H (d :: ds) (v :: vs)
end

def Den (K : PySem.W.Frag) (H : Hp) (G : Gh) : D → V → Prop
  | .p x, v => Dn K G.φ H x v
  | .ob i, v => ∃ a, v = .ref a ∧ G.ι[i]? = some a
  | .ro xs, v => ∃ a vs, v = .ref a ∧ RL K G.φ a vs ∧ DnAll K G.φ H xs vs
  | .ext u, v => v = u

inductive DenL (K : PySem.W.Frag) (H : Hp) (G : Gh) : List D → List V → Prop
  | nil : DenL K H G [] []
  | cons {d : D} {ds : List D} {v : V} {vs : List V} : Den K H G d v → DenL K H G ds vs → DenL K H G (d :: ds) (v :: vs)

theorem DnAll.length {K : PySem.W.Frag} {φ : List (Addr × HO)} {H : Hp} : ∀ {ds : List PyData} {vs : List V}, DnAll K φ H ds vs → ds.length = vs.length
  | _, _, .nil => rfl
  | _, _, .cons _ t => by rw [List.length_cons, List.length_cons, t.length]
theorem DenL.length {K : PySem.W.Frag} {G : Gh} {H : Hp} : ∀ {ds : List D} {vs : List V}, DenL K H G ds vs → ds.length = vs.length
  | _, _, .nil => rfl
  | _, _, .cons _ t => by rw [List.length_cons, List.length_cons, t.length]
theorem DnAll.get {K : PySem.W.Frag} {φ : List (Addr × HO)} {H : Hp} : ∀ {ds : List PyData} {vs : List V} {i : Nat} {d : PyData}, DnAll K φ H ds vs → ds[i]? = some d → ∃ v, vs[i]? = some v ∧ Dn K φ H d v
  | _, _, _, _, .nil, e => by simp at e
  | _, _, 0, _, .cons r _, e => by simp at e; subst e; exact ⟨_, rfl, r⟩
  | _, _, i + 1, d, .cons _ t, e => by
    obtain ⟨v, h1, h2⟩ := DnAll.get (i := i) (d := d) t (by simpa using e)
    exact ⟨v, by simpa using h1, h2⟩
theorem DnAll.getV {K : PySem.W.Frag} {φ : List (Addr × HO)} {H : Hp} : ∀ {ds : List PyData} {vs : List V} {i : Nat} {v : V}, DnAll K φ H ds vs → vs[i]? = some v → ∃ d, ds[i]? = some d ∧ Dn K φ H d v
  | _, _, _, _, .nil, e => by simp at e
  | _, _, 0, _, .cons r _, e => by simp at e; subst e; exact ⟨_, rfl, r⟩
  | _, _, i + 1, d, .cons _ t, e => by
    obtain ⟨v, h1, h2⟩ := DnAll.getV (i := i) (v := d) t (by simpa using e)
    exact ⟨v, by simpa using h1, h2⟩
theorem DnAll.append {K : PySem.W.Frag} {φ : List (Addr × HO)} {H : Hp} : ∀ {ds es : List PyData} {vs us : List V}, DnAll K φ H ds vs → DnAll K φ H es us → DnAll K φ H (ds ++ es) (vs ++ us)
  | _, _, _, _, .nil, s => s
  | _, _, _, _, .cons r t, s => .cons r (t.append s)
theorem DnAll.set {K : PySem.W.Frag} {φ : List (Addr × HO)} {H : Hp} {d : PyData} {v : V} (h : Dn K φ H d v) : ∀ {ds : List PyData} {vs : List V} (i : Nat), DnAll K φ H ds vs → DnAll K φ H (ds.set i d) (vs.set i v)
  | _, _, _, .nil => .nil
  | _, _, 0, .cons _ t => .cons h t
  | _, _, i + 1, .cons r t => .cons r (DnAll.set h i t)
theorem DnAll.take {K : PySem.W.Frag} {φ : List (Addr × HO)} {H : Hp} : ∀ {ds : List PyData} {vs : List V} (n : Nat), DnAll K φ H ds vs → DnAll K φ H (ds.take n) (vs.take n)
  | _, _, 0, _ => .nil
  | _, _, _ + 1, .nil => .nil
  | _, _, n + 1, .cons r t => .cons r (DnAll.take n t)
theorem DnAll.drop {K : PySem.W.Frag} {φ : List (Addr × HO)} {H : Hp} : ∀ {ds : List PyData} {vs : List V} (n : Nat), DnAll K φ H ds vs → DnAll K φ H (ds.drop n) (vs.drop n)
  | _, _, 0, r => r
  | _, _, _ + 1, .nil => .nil
  | _, _, n + 1, .cons _ t => DnAll.drop n t
theorem DnAll.reverse {K : PySem.W.Frag} {φ : List (Addr × HO)} {H : Hp} : ∀ {ds : List PyData} {vs : List V}, DnAll K φ H ds vs → DnAll K φ H ds.reverse vs.reverse
  | _, _, .nil => .nil
  | _, _, .cons r t => by
    rw [List.reverse_cons, List.reverse_cons]
    exact t.reverse.append (.cons r .nil)

def Live (G : Gh) (S : Sto) (b : Addr) : Prop := ∃ (i : Nat) (o : MO), G.ι[i]? = some b ∧ S[i]? = some o ∧ o ≠ .dead
def OkO (K : PySem.W.Frag) (H : Hp) (φ : List (Addr × HO)) (a : Addr) : MO → Prop
  | .dead => H a ≠ none
  | .lst xs => ∃ vs, H a = some (.lst vs) ∧ DnAll K φ H xs vs
  | .dic kvs => ∃ ws : List (Key × V), H a = some (.dK ws) ∧ kvs.map (·.1) = ws.map (·.1) ∧ DnAll K φ H (kvs.map (·.2)) (ws.map (·.2))
structure Rep (K : PySem.W.Frag) (H : Hp) (G : Gh) (S : Sto) : Prop where
  len : G.ι.length = S.length
  nd : G.ι.Nodup
  ok : ∀ (i : Nat) (a : Addr) (o : MO), G.ι[i]? = some a → S[i]? = some o → OkO K H G.φ a o
  phi : Holds G.φ H
  pnl : ∀ p ∈ G.φ, ¬ Live G S p.1
structure Ext (H : Hp) (G : Gh) (S : Sto) (H' : Hp) (G' : Gh) (S' : Sto) : Prop where
  pre : ∀ (i : Nat) (a : Addr), G.ι[i]? = some a → G'.ι[i]? = some a
  phi : ∀ p ∈ G.φ, p ∈ G'.φ
  frame : ∀ b o, H b = some o → ¬ Live G S b → H' b = some o
  fresh : ∀ b, Live G' S' b → Live G S b ∨ H b = none
  iot : ∀ b, b ∈ G'.ι → b ∈ G.ι ∨ H b = none
  phf : ∀ p ∈ G'.φ, p ∈ G.φ ∨ H p.1 = none ∨ Live G S p.1

section
variable {K : PySem.W.Frag} {H H1 H2 : Hp} {G G1 G2 : Gh} {S S1 S2 : Sto}
theorem Ext.refl : Ext H G S H G S := ⟨fun _ _ h => h, fun _ h => h, fun _ _ h _ => h, fun _ h => .inl h, fun _ h => .inl h, fun _ h => .inl h⟩
theorem Ext.back (a : Ext H G S H1 G1 S1) {c : Addr} (q : H1 c = none) : Live G S c ∨ H c = none := by
  by_cases l : Live G S c
  · exact .inl l
  · cases e : H c with
    | none => exact .inr rfl
    | some o => rw [a.frame c o e l] at q; cases q
theorem Live.mem {c : Addr} (l : Live G S c) : c ∈ G.ι := by
  obtain ⟨i, o, h, _⟩ := l
  exact List.mem_of_getElem? h
theorem Ext.trans (a : Ext H G S H1 G1 S1) (b : Ext H1 G1 S1 H2 G2 S2) : Ext H G S H2 G2 S2 := by
  refine ⟨fun i x h => b.pre i x (a.pre i x h), fun p h => b.phi p (a.phi p h), fun c o h n => ?_, fun c h => ?_, fun c h => ?_, fun p h => ?_⟩
  · refine b.frame c o (a.frame c o h n) fun l => ?_
    rcases a.fresh c l with q | q
    · exact n q
    · rw [h] at q; cases q
  · rcases b.fresh c h with q | q
    · exact a.fresh c q
    · exact a.back q
  · rcases b.iot c h with q | q
    · exact a.iot c q
    · rcases a.back q with q | q
      · exact .inl q.mem
      · exact .inr q
  · rcases b.phf p h with q | q | q
    · exact a.phf p q
    · rcases a.back q with q | q
      · exact .inr (.inr q)
      · exact .inr (.inl q)
    · rcases a.fresh _ q with q | q
      · exact .inr (.inr q)
      · exact .inr (.inl q)
/-- what stands at a live place is a list or a dict -/
theorem Rep.live (r : Rep K H G S) {b : Addr} (l : Live G S b) : (∃ vs, H b = some (.lst vs)) ∨ ∃ ws, H b = some (.dK ws) := by
  obtain ⟨i, o, h1, h2, h3⟩ := l
  have q := r.ok i b o h1 h2
  cases o with
  | dead => exact absurd rfl h3
  | lst xs => obtain ⟨vs, e, _⟩ := q; exact .inl ⟨vs, e⟩
  | dic kvs => obtain ⟨ws, e, _⟩ := q; exact .inr ⟨ws, e⟩
theorem Rep.notLive {b : Addr} {o : HO} (r : Rep K H G S) (e : H b = some o) (h1 : ∀ vs, o ≠ .lst vs) (h2 : ∀ ws, o ≠ .dK ws) : ¬ Live G S b := fun l => by
  rcases r.live l with ⟨vs, q⟩ | ⟨ws, q⟩
  · rw [e] at q; cases q; exact h1 vs rfl
  · rw [e] at q; cases q; exact h2 ws rfl
theorem Rep.tr (r : Rep K H G S) {b : Addr} (h : b ∈ G.ι) : H b ≠ none := by
  obtain ⟨i, hi, e⟩ := List.getElem_of_mem h
  have hS : i < S.length := by rw [← r.len]; exact hi
  have q := r.ok i b S[i] (by rw [List.getElem?_eq_getElem hi, e]) (by rw [List.getElem?_eq_getElem hS])
  intro z
  cases o : S[i] with
  | dead => rw [o] at q; exact q z
  | lst xs => rw [o] at q; obtain ⟨vs, e, _⟩ := q; rw [z] at e; cases e
  | dic kvs => rw [o] at q; obtain ⟨ws, e, _⟩ := q; rw [z] at e; cases e
theorem Ext.tup (r : Rep K H G S) (x : Ext H G S H1 G1 S1) {a : Addr} {vs : List V} (h : SqT K H a vs) : SqT K H1 a vs := by
  rcases h with (h | ⟨o, h⟩) | h
  · exact .inl (.inl (x.frame _ _ h (r.notLive h (fun _ z => nomatch z) fun _ z => nomatch z)))
  · exact .inl (.inr ⟨o, x.frame _ _ h (r.notLive h (fun _ z => nomatch z) fun _ z => nomatch z)⟩)
  · exact .inr h
end

mutual
theorem Dn.mono {K : PySem.W.Frag} {φ φ' : List (Addr × HO)} {H H' : Hp} (hs : ∀ p ∈ φ, p ∈ φ') (ht : ∀ a vs, SqT K H a vs → SqT K H' a vs) : ∀ {d : PyData} {v : V}, Dn K φ H d v → Dn K φ' H' d v
  | _, _, .non => .non
  | _, _, .bl b => .bl b
  | _, _, .int i => .int i
  | _, _, .str x => .str x
  | _, _, .lst h t => .lst (h.mono hs) (DnAll.mono hs ht t)
  | _, _, .tup h t => .tup (ht _ _ h) (DnAll.mono hs ht t)
  | _, _, .dic h e t => .dic (h.mono hs) e (DnAll.mono hs ht t)
theorem DnAll.mono {K : PySem.W.Frag} {φ φ' : List (Addr × HO)} {H H' : Hp} (hs : ∀ p ∈ φ, p ∈ φ') (ht : ∀ a vs, SqT K H a vs → SqT K H' a vs) : ∀ {ds : List PyData} {vs : List V}, DnAll K φ H ds vs → DnAll K φ' H' ds vs
  | _, _, .nil => .nil
  | _, _, .cons h t => .cons (Dn.mono hs ht h) (DnAll.mono hs ht t)
end

section
variable {K : PySem.W.Frag} {H H1 H2 : Hp} {G G1 G2 : Gh} {S S1 S2 : Sto}
theorem Ext.dn (r : Rep K H G S) (x : Ext H G S H1 G1 S1) {d : PyData} {v : V} (h : Dn K G.φ H d v) : Dn K G1.φ H1 d v := h.mono x.phi fun _ _ => x.tup r
theorem Ext.dnAll (r : Rep K H G S) (x : Ext H G S H1 G1 S1) {ds : List PyData} {vs : List V} (h : DnAll K G.φ H ds vs) : DnAll K G1.φ H1 ds vs := h.mono x.phi fun _ _ => x.tup r
theorem Ext.den (r : Rep K H G S) (x : Ext H G S H1 G1 S1) : ∀ {d : D} {v : V}, Den K H G d v → Den K H1 G1 d v
  | .p _, _, h => x.dn r h
  | .ob _, _, ⟨a, e, h⟩ => ⟨a, e, x.pre _ _ h⟩
  | .ro _, _, ⟨a, vs, e, h, t⟩ => ⟨a, vs, e, h.mono x.phi, x.dnAll r t⟩
  | .ext _, _, h => h
theorem Ext.denL (r : Rep K H G S) (x : Ext H G S H1 G1 S1) : ∀ {ds : List D} {vs : List V}, DenL K H G ds vs → DenL K H1 G1 ds vs
  | _, _, .nil => .nil
  | _, _, .cons h t => .cons (x.den r h) (x.denL r t)
end

abbrev Ev := List (Option D)
def RelO (K : PySem.W.Frag) (H : Hp) (G : Gh) : Option D → Option V → Prop
  | none, _ => True
  | some d, some v => Den K H G d v
  | some _, none => False
inductive RelS (K : PySem.W.Frag) (H : Hp) (G : Gh) : Ev → St → Prop
  | nil : RelS K H G [] []
  | cons {d : Option D} {ds : Ev} {v : Option V} {vs : St} : RelO K H G d v → RelS K H G ds vs → RelS K H G (d :: ds) (v :: vs)
section
variable {K : PySem.W.Frag} {H H1 : Hp} {G G1 : Gh} {S S1 : Sto}
theorem RelS.length : ∀ {ρ : Ev} {σ : St}, RelS K H G ρ σ → ρ.length = σ.length
  | _, _, .nil => rfl
  | _, _, .cons _ t => by rw [List.length_cons, List.length_cons, t.length]
theorem Ext.relS (r : Rep K H G S) (x : Ext H G S H1 G1 S1) : ∀ {ρ : Ev} {σ : St}, RelS K H G ρ σ → RelS K H1 G1 ρ σ
  | _, _, .nil => .nil
  | _, _, .cons (d := d) (v := v) h t => .cons (by
      cases d with
      | none => trivial
      | some d => cases v with
        | none => exact h
        | some v => exact x.den r h) (x.relS r t)
theorem RelS.get : ∀ {ρ : Ev} {σ : St} {i : Nat} {d : D}, RelS K H G ρ σ → ρ[i]? = some (some d) → ∃ v, σ[i]? = some (some v) ∧ Den K H G d v
  | _, _, _, _, .nil, e => by simp at e
  | _, _, 0, d, .cons (v := v) h _, e => by
    simp at e; subst e
    cases v with
    | none => exact False.elim h
    | some v => exact ⟨v, rfl, h⟩
  | _, _, i + 1, d, .cons _ t, e => by
    obtain ⟨v, h1, h2⟩ := RelS.get (i := i) (d := d) t (by simpa using e)
    exact ⟨v, by simpa using h1, h2⟩
theorem RelS.set {d : D} {v : V} (h : Den K H G d v) : ∀ {ρ : Ev} {σ : St} (i : Nat), RelS K H G ρ σ → RelS K H G (ρ.set i (some d)) (σ.set i (some v))
  | _, _, _, .nil => .nil
  | _, _, 0, .cons _ t => .cons h t
  | _, _, i + 1, .cons r t => .cons r (RelS.set h i t)
theorem RelS.setNone {w : Option V} : ∀ {ρ : Ev} {σ : St} (i : Nat), RelS K H G ρ σ → RelS K H G (ρ.set i none) (σ.set i w)
  | _, _, _, .nil => .nil
  | _, _, 0, .cons _ t => .cons trivial t
  | _, _, i + 1, .cons r t => .cons r (RelS.setNone i t)
theorem RelS.forget : ∀ {ρ : Ev} {σ : St} (i : Nat), RelS K H G ρ σ → RelS K H G (ρ.set i none) σ
  | _, _, _, .nil => .nil
  | _, _, 0, .cons _ t => .cons trivial t
  | _, _, i + 1, .cons r t => .cons r (RelS.forget i t)
theorem RelS.ofArgs : ∀ {ds : List D} {vs : List V} (n : Nat), DenL K H G ds vs → RelS K H G (ds.map some ++ List.replicate n none) (vs.map some ++ List.replicate n none)
  | _, _, 0, .nil => .nil
  | _, _, n + 1, .nil => by
    rw [List.replicate_succ, List.replicate_succ]
    exact .cons trivial (RelS.ofArgs (ds := []) (vs := []) n .nil)
  | _, _, n, .cons h t => .cons h (RelS.ofArgs n t)
end

/-- an exception: its class, its fields (where it has an own dict) -/
structure Exn where
  cls : Value
  fs : Option (List (Str × PyData))
def ExnAt (K : PySem.W.Frag) (H : Hp) (G : Gh) (x : Exn) (d : Option Addr) : Prop :=
  match x.fs with
  | none => d = none
  | some fs => ∃ a ws, d = some a ∧ H a = some (.xd ws) ∧ fs.map (·.1) = ws.map (·.1) ∧ DnAll K G.φ H (fs.map (·.2)) (ws.map (·.2))

inductive Out (α : Type) where
  | ok (a : α) (s : Sto)
  | err (x : Exn) (s : Sto)
  | bad
abbrev M (α : Type) := Sto → Out α
def Out.bind {α β : Type} : Out α → (α → M β) → Out β
  | .ok a s, k => k a s
  | .err x s, _ => .err x s
  | .bad, _ => .bad
@[simp] theorem Out.bind_ok {α β : Type} (a : α) (s : Sto) (k : α → M β) : (Out.ok a s).bind k = k a s := rfl
@[simp] theorem Out.bind_err {α β : Type} (x : Exn) (s : Sto) (k : α → M β) : (Out.err x s : Out α).bind k = .err x s := rfl
@[simp] theorem Out.bind_bad {α β : Type} (k : α → M β) : (Out.bad : Out α).bind k = .bad := rfl

abbrev FE := Ev → M D
abbrev FT := Ev → M Bool
abbrev FA := Ev → M (List D)
inductive Fl where
  | next (ρ : Ev)
  | ret (d : D)
  | brk (ρ : Ev)
  | cont (ρ : Ev)
  | exc (x : Exn) (ρ : Ev)
abbrev FS := Ev → Sto → Option (Fl × Sto)

def Aft {α : Type} (K : PySem.W.Frag) (W : WX) (σ : St) (H : Hp) (G : Gh) (S : Sto) (o : Out α) (P : α → Hp → Gh → Sto → Prop) : Prop :=
  match o with
  | .ok a S' => ∀ H' G', Ext H G S H' G' S' → Rep K H' G' S' → P a H' G' S'
  | .err x S' => ∀ H' G' d, Ext H G S H' G' S' → Rep K H' G' S' → ExnAt K H' G' x d → W x.cls d σ H'
  | .bad => False
theorem Aft.bind {α β : Type} {K : PySem.W.Frag} {W : WX} {σ : St} {H : Hp} {G : Gh} {S : Sto} {o : Out α} {k : α → M β} {P : β → Hp → Gh → Sto → Prop} (h : Aft K W σ H G S (o.bind k) P) :
    Aft K W σ H G S o fun a H1 G1 S1 => Aft K W σ H1 G1 S1 (k a S1) P := by
  cases o with
  | ok a S1 =>
    intro H1 G1 x1 r1
    have h' : Aft K W σ H G S (k a S1) P := h
    show Aft K W σ H1 G1 S1 (k a S1) P
    cases e : k a S1 with
    | ok b S2 =>
      rw [e] at h'
      exact fun H2 G2 x2 r2 => h' H2 G2 (x1.trans x2) r2
    | err x S2 =>
      rw [e] at h'
      exact fun H2 G2 d x2 r2 z => h' H2 G2 d (x1.trans x2) r2 z
    | bad => rw [e] at h'; exact h'
  | err x S1 => exact h
  | bad => exact h
theorem Aft.mono {α : Type} {K : PySem.W.Frag} {W : WX} {σ : St} {H : Hp} {G : Gh} {S : Sto} {o : Out α} {P P' : α → Hp → Gh → Sto → Prop} (h : Aft K W σ H G S o P) (f : ∀ a H' G' S', Ext H G S H' G' S' → Rep K H' G' S' → P a H' G' S' → P' a H' G' S') :
    Aft K W σ H G S o P' := by
  cases o with
  | ok a S1 => exact fun H1 G1 x1 r1 => f a H1 G1 S1 x1 r1 (h H1 G1 x1 r1)
  | err x S1 => exact h
  | bad => exact h
/-- the outcome is known -/
theorem Aft.here {α : Type} {K : PySem.W.Frag} {W : WX} {σ : St} {H : Hp} {G : Gh} {S : Sto} {a : α} {S' : Sto} {P : α → Hp → Gh → Sto → Prop} (h : Aft K W σ H G S (.ok a S') P) {H' : Hp} {G' : Gh} (x : Ext H G S H' G' S') (r : Rep K H' G' S') : P a H' G' S' := h H' G' x r

def AftS (K : PySem.W.Frag) (W : WX) (E : Ends) (H : Hp) (G : Gh) (S : Sto) (o : Option (Fl × Sto)) : Prop :=
  match o with
  | none => False
  | some (.next ρ', S') => ∀ H' G' σ', Ext H G S H' G' S' → Rep K H' G' S' → RelS K H' G' ρ' σ' → E.nx σ' H'
  | some (.ret d, S') => ∀ H' G' v, Ext H G S H' G' S' → Rep K H' G' S' → Den K H' G' d v → E.rt v H'
  | some (.brk ρ', S') => ∀ H' G' σ', Ext H G S H' G' S' → Rep K H' G' S' → RelS K H' G' ρ' σ' → E.bk σ' H'
  | some (.cont ρ', S') => ∀ H' G' σ', Ext H G S H' G' S' → Rep K H' G' S' → RelS K H' G' ρ' σ' → E.ct σ' H'
  | some (.exc x ρ', S') => ∀ H' G' σ' d, Ext H G S H' G' S' → Rep K H' G' S' → RelS K H' G' ρ' σ' → ExnAt K H' G' x d → W x.cls d σ' H'
theorem AftS.ext {K : PySem.W.Frag} {W : WX} {E : Ends} {H H1 : Hp} {G G1 : Gh} {S S1 : Sto} {o : Option (Fl × Sto)} (h : AftS K W E H G S o) (x : Ext H G S H1 G1 S1) : AftS K W E H1 G1 S1 o := by
  match o with
  | none => exact h
  | some (.next ρ', S') => exact fun H' G' σ' x' => h H' G' σ' (x.trans x')
  | some (.ret d, S') => exact fun H' G' v x' => h H' G' v (x.trans x')
  | some (.brk ρ', S') => exact fun H' G' σ' x' => h H' G' σ' (x.trans x')
  | some (.cont ρ', S') => exact fun H' G' σ' x' => h H' G' σ' (x.trans x')
  | some (.exc y ρ', S') => exact fun H' G' σ' d x' => h H' G' σ' d (x.trans x')

def rd (K : PySem.W.Frag) (W : WX) (f : FE) : TE := fun σ H Q => ∃ G S ρ, RelS K H G ρ σ ∧ Rep K H G S ∧ Aft K W σ H G S (f ρ S) fun d H' G' _ => ∀ v, Den K H' G' d v → Q v H'
def rdT (K : PySem.W.Frag) (W : WX) (f : FT) : TT := fun σ H Q => ∃ G S ρ, RelS K H G ρ σ ∧ Rep K H G S ∧ Aft K W σ H G S (f ρ S) fun b H' _ _ => Q b H'
def rdA (K : PySem.W.Frag) (W : WX) (f : FA) : TA := fun σ H Q => ∃ G S ρ, RelS K H G ρ σ ∧ Rep K H G S ∧ Aft K W σ H G S (f ρ S) fun ds H' G' _ => ∀ vs, DenL K H' G' ds vs → Q vs H'
def rdS (K : PySem.W.Frag) (W : WX) (f : FS) : TS := fun E σ H => ∃ G S ρ, RelS K H G ρ σ ∧ Rep K H G S ∧ AftS K W E H G S (f ρ S)

structure DE (X : Cx) (W : WX) (e : Expr) (f : FE) : Prop where
  run : PE X e (rd X.K W f)
structure DT (X : Cx) (W : WX) (e : Expr) (f : FT) : Prop where
  run : PT X e (rdT X.K W f)
structure DA (X : Cx) (W : WX) (es : List Expr) (f : FA) : Prop where
  run : PA X es (rdA X.K W f)
structure DS (X : Cx) (W : WX) (st : Stmt) (f : FS) : Prop where
  run : PS X st (rdS X.K W f)
structure DSs (X : Cx) (W : WX) (sts : List Stmt) (f : FS) : Prop where
  run : PSs X sts (rdS X.K W f)

section
variable {X : Cx}
theorem PE.imp {e : Expr} {t t' : TE} (h : PE X e t) (i : ∀ σ H Q, t' σ H Q → t σ H Q) : PE X e t' := ⟨fun pins s σ H Q I q => h.run pins s σ H Q I (i σ H Q q)⟩
theorem PT.imp {e : Expr} {t t' : TT} (h : PT X e t) (i : ∀ σ H Q, t' σ H Q → t σ H Q) : PT X e t' := ⟨fun pins s σ H Q I q => h.run pins s σ H Q I (i σ H Q q)⟩
theorem PA.imp {es : List Expr} {t t' : TA} (h : PA X es t) (i : ∀ σ H Q, t' σ H Q → t σ H Q) : PA X es t' := ⟨fun pos pins s σ H Q I q => h.run pos pins s σ H Q I (i σ H Q q)⟩
theorem PS.imp {st : Stmt} {t t' : TS} (h : PS X st t) (i : ∀ D σ H, t' D σ H → t D σ H) : PS X st t' := ⟨fun pins s σ H D I q => h.run pins s σ H D I (i D σ H q)⟩
theorem PSs.imp {sts : List Stmt} {t t' : TS} (h : PSs X sts t) (i : ∀ D σ H, t' D σ H → t D σ H) : PSs X sts t' := ⟨fun pins s σ H D I q => h.run pins s σ H D I (i D σ H q)⟩
end

section
variable {K : PySem.W.Frag} {H : Hp} {G : Gh} {S : Sto}
theorem Rep.notIn (r : Rep K H G S) {p : Addr} (hp : H p = none) : p ∉ G.ι := fun h => r.tr h hp
theorem Rep.notPhi (r : Rep K H G S) {p : Addr} (hp : H p = none) : ∀ q ∈ G.φ, q.1 ≠ p := fun q hq e => by
  have := r.phi q hq
  rw [e, hp] at this; cases this
/-- a new object that is not tracked by the ghost -/
theorem Ext.other (r : Rep K H G S) {p : Addr} {o : HO} (hp : H p = none) : Ext H G S (upd H p o) G S :=
  ⟨fun _ _ h => h, fun _ h => h, fun b u h _ => by rw [upd_ne (ne_of_none h hp)]; exact h, fun b l => .inl l, fun _ h => .inl h, fun _ h => .inl h⟩
theorem OkO.ext {H' : Hp} {φ' : List (Addr × HO)} {a : Addr} {o : MO} (hs : ∀ p ∈ G.φ, p ∈ φ') (ht : ∀ a vs, SqT K H a vs → SqT K H' a vs) (e : ∀ u, H a = some u → H' a = some u) (h : OkO K H G.φ a o) : OkO K H' φ' a o := by
  cases o with
  | dead =>
    intro z
    cases q : H a with
    | none => exact h q
    | some u => rw [e u q] at z; cases z
  | lst xs => obtain ⟨vs, q, t⟩ := h; exact ⟨vs, e _ q, t.mono hs ht⟩
  | dic kvs => obtain ⟨ws, q, k, t⟩ := h; exact ⟨ws, e _ q, k, t.mono hs ht⟩
theorem Rep.other (r : Rep K H G S) {p : Addr} {o : HO} (hp : H p = none) : Rep K (upd H p o) G S := by
  have x := Ext.other (o := o) r hp
  have nn : ∀ {b : Addr} {u : HO}, H b = some u → upd H p o b = some u := fun h => by rw [upd_ne (ne_of_none h hp)]; exact h
  exact ⟨r.len, r.nd, fun i a m h1 h2 => OkO.ext (fun _ h => h) (fun _ _ => x.tup r) (fun u => nn) (r.ok i a m h1 h2), fun q hq => nn (r.phi q hq), r.pnl⟩
/-- a new frozen object -/
theorem Ext.froz (r : Rep K H G S) {p : Addr} {o : HO} (hp : H p = none) : Ext H G S (upd H p o) ⟨G.ι, (p, o) :: G.φ⟩ S :=
  ⟨fun _ _ h => h, fun _ h => List.mem_cons_of_mem _ h, fun b u h _ => by rw [upd_ne (ne_of_none h hp)]; exact h, fun b l => .inl l, fun _ h => .inl h, fun q h => by
    rcases List.mem_cons.mp h with e | h
    · rw [e]; exact .inr (.inl hp)
    · exact .inl h⟩
theorem Rep.froz (r : Rep K H G S) {p : Addr} {o : HO} (hp : H p = none) : Rep K (upd H p o) ⟨G.ι, (p, o) :: G.φ⟩ S := by
  have x := Ext.froz (o := o) r hp
  have nn : ∀ {b : Addr} {u : HO}, H b = some u → upd H p o b = some u := fun h => by rw [upd_ne (ne_of_none h hp)]; exact h
  refine ⟨r.len, r.nd, fun i a m h1 h2 => OkO.ext (G := G) (fun _ h => List.mem_cons_of_mem _ h) (fun _ _ => x.tup r) (fun u => nn) (r.ok i a m h1 h2), fun q hq => ?_, fun q hq => ?_⟩
  · rcases List.mem_cons.mp hq with e | hq
    · subst e; exact upd_same
    · exact nn (r.phi q hq)
  · rcases List.mem_cons.mp hq with e | hq
    · subst e
      rintro ⟨i, m, h1, _, _⟩
      exact r.notIn hp (List.mem_of_getElem? h1)
    · exact r.pnl q hq
/-- a new mutable object -/
def Gh.add (G : Gh) (p : Addr) : Gh := ⟨G.ι ++ [p], G.φ⟩
theorem Gh.add_last (r : Rep K H G S) (p : Addr) : (G.add p).ι[S.length]? = some p := by
  show (G.ι ++ [p])[S.length]? = _
  rw [← r.len]; simp
theorem Live.add {p b : Addr} {m : MO} (r : Rep K H G S) (l : Live (G.add p) (S ++ [m]) b) : Live G S b ∨ b = p := by
  obtain ⟨i, o, h1, h2, h3⟩ := l
  have h1 : (G.ι ++ [p])[i]? = some b := h1
  by_cases hi : i < S.length
  · rw [List.getElem?_append_left (by rw [r.len]; exact hi)] at h1
    rw [List.getElem?_append_left hi] at h2
    exact .inl ⟨i, o, h1, h2, h3⟩
  · rw [List.getElem?_append_right (by rw [r.len]; omega)] at h1
    have : b ∈ [p] := List.mem_of_getElem? h1
    exact .inr (by simpa using this)
theorem Ext.new (r : Rep K H G S) {p : Addr} {o : HO} (m : MO) (hp : H p = none) : Ext H G S (upd H p o) (G.add p) (S ++ [m]) := by
  refine ⟨fun i a h => ?_, fun _ h => h, fun b u h _ => by rw [upd_ne (ne_of_none h hp)]; exact h, fun b l => ?_, fun b h => ?_, fun _ h => .inl h⟩
  · show (G.ι ++ [p])[i]? = some a
    rw [List.getElem?_append_left (List.getElem?_eq_some_iff.mp h).1]; exact h
  · rcases Live.add r l with q | q
    · exact .inl q
    · rw [q]; exact .inr hp
  · rcases List.mem_append.mp (show b ∈ G.ι ++ [p] from h) with q | q
    · exact .inl q
    · have e : b = p := by simpa using q
      rw [e]; exact .inr hp
theorem Rep.new (r : Rep K H G S) {p : Addr} {o : HO} {m : MO} (hp : H p = none) (h : OkO K (upd H p o) G.φ p m) : Rep K (upd H p o) (G.add p) (S ++ [m]) := by
  have x := Ext.new (o := o) r m hp
  have nn : ∀ {b : Addr} {u : HO}, H b = some u → upd H p o b = some u := fun h => by rw [upd_ne (ne_of_none h hp)]; exact h
  refine ⟨?_, ?_, fun i a mo h1 h2 => ?_, fun q hq => nn (r.phi q hq), fun q hq l => ?_⟩
  · show (G.ι ++ [p]).length = (S ++ [m]).length
    rw [List.length_append, List.length_append, r.len]; rfl
  · show (G.ι ++ [p]).Nodup
    rw [List.nodup_append]
    refine ⟨r.nd, by simp, fun a ha b hb => ?_⟩
    have e : b = p := by simpa using hb
    subst e
    intro z; subst z; exact r.notIn hp ha
  · have h1 : (G.ι ++ [p])[i]? = some a := h1
    by_cases hi : i < S.length
    · rw [List.getElem?_append_left (by rw [r.len]; exact hi)] at h1
      rw [List.getElem?_append_left hi] at h2
      exact OkO.ext (G := G) (fun _ h => h) (fun _ _ => x.tup r) (fun u => nn) (r.ok i a mo h1 h2)
    · have hl : i < (S ++ [m]).length := (List.getElem?_eq_some_iff.mp h2).1
      rw [List.length_append] at hl
      have e : i = S.length := by have : i < S.length + 1 := hl; omega
      subst e
      rw [← r.len] at h1
      simp at h1 h2
      subst h1 h2
      exact h
  · rcases Live.add r l with z | z
    · exact r.pnl q hq z
    · exact r.notPhi hp q hq z
/-- a mutable object is changed -/
theorem Live.set {i : Nat} {m m' : MO} {b : Addr} (hm : S[i]? = some m) (hl : m ≠ .dead) (l : Live G (S.set i m') b) : Live G S b := by
  obtain ⟨j, o, h1, h2, h3⟩ := l
  by_cases e : i = j
  · subst e
    exact ⟨i, m, h1, hm, hl⟩
  · rw [List.getElem?_set_ne e] at h2
    exact ⟨j, o, h1, h2, h3⟩
theorem Ext.chg (r : Rep K H G S) {i : Nat} {a : Addr} {m m' : MO} {o : HO} (ha : G.ι[i]? = some a) (hm : S[i]? = some m) (hl : m ≠ .dead) : Ext H G S (upd H a o) G (S.set i m') := by
  refine ⟨fun _ _ h => h, fun _ h => h, fun b u h n => ?_, fun b l => .inl (Live.set hm hl l), fun _ h => .inl h, fun _ h => .inl h⟩
  rw [upd_ne (fun z => n ⟨i, m, by rw [z]; exact ha, hm, hl⟩)]; exact h
theorem Rep.chg (r : Rep K H G S) {i : Nat} {a : Addr} {m m' : MO} {o : HO} (ha : G.ι[i]? = some a) (hm : S[i]? = some m) (hl : m ≠ .dead) (h : OkO K (upd H a o) G.φ a m') : Rep K (upd H a o) G (S.set i m') := by
  have x := Ext.chg (o := o) (m' := m') r ha hm hl
  refine ⟨by rw [List.length_set]; exact r.len, r.nd, fun j b mo h1 h2 => ?_, fun q hq => x.frame _ _ (r.phi q hq) (r.pnl q hq), fun q hq l => r.pnl q hq (Live.set hm hl l)⟩
  by_cases e : i = j
  · subst e
    rw [ha] at h1; cases h1
    have hlt : i < S.length := (List.getElem?_eq_some_iff.mp hm).1
    rw [List.getElem?_set_self hlt] at h2
    cases h2
    exact h
  · rw [List.getElem?_set_ne e] at h2
    have hne : b ≠ a := fun z => e (nodup_ix' r.nd ha (by rw [← z]; exact h1))
    exact OkO.ext (G := G) (fun _ h => h) (fun _ _ => x.tup r) (fun u hu => by rw [upd_ne hne]; exact hu) (r.ok j b mo h1 h2)
  where
  nodup_ix' {l : List Addr} (hN : l.Nodup) {i j : Nat} {x : Addr} (a : l[i]? = some x) (b : l[j]? = some x) : i = j := by
    obtain ⟨h1, e1⟩ := List.getElem?_eq_some_iff.mp a
    obtain ⟨h2, e2⟩ := List.getElem?_eq_some_iff.mp b
    exact (List.getElem_inj hN).mp (e1.trans e2.symm)
/-- a mutable object is frozen -/
theorem Ext.ice {i : Nat} {a : Addr} {m : MO} {o : HO} (ha : G.ι[i]? = some a) (hm : S[i]? = some m) (hl : m ≠ .dead) : Ext H G S H ⟨G.ι, (a, o) :: G.φ⟩ (S.set i .dead) :=
  ⟨fun _ _ h => h, fun _ h => List.mem_cons_of_mem _ h, fun b u h _ => h, fun b l => .inl (by
    obtain ⟨j, u, h1, h2, h3⟩ := l
    exact Live.set hm hl ⟨j, u, h1, h2, h3⟩), fun _ h => .inl h, fun q h => by
      rcases List.mem_cons.mp h with e | h
      · rw [e]; exact .inr (.inr ⟨i, m, ha, hm, hl⟩)
      · exact .inl h⟩
theorem Rep.ice (r : Rep K H G S) {i : Nat} {a : Addr} {m : MO} {o : HO} (ha : G.ι[i]? = some a) (hm : S[i]? = some m) (hl : m ≠ .dead) (ho : H a = some o) : Rep K H ⟨G.ι, (a, o) :: G.φ⟩ (S.set i .dead) := by
  have hlt : i < S.length := (List.getElem?_eq_some_iff.mp hm).1
  refine ⟨by rw [List.length_set]; exact r.len, r.nd, fun j b mo h1 h2 => ?_, fun q hq => ?_, fun q hq l => ?_⟩
  · by_cases e : i = j
    · subst e
      rw [List.getElem?_set_self hlt] at h2
      cases h2
      have h1 : G.ι[i]? = some b := h1
      rw [ha] at h1; cases h1
      show H a ≠ none
      rw [ho]; exact fun z => nomatch z
    · rw [List.getElem?_set_ne e] at h2
      exact OkO.ext (G := G) (fun _ h => List.mem_cons_of_mem _ h) (fun _ _ h => h) (fun _ h => h) (r.ok j b mo h1 h2)
  · rcases List.mem_cons.mp hq with e | hq
    · subst e; exact ho
    · exact r.phi q hq
  · rcases List.mem_cons.mp hq with e | hq
    · subst e
      obtain ⟨j, u, h1, h2, h3⟩ := l
      have h1 : G.ι[j]? = some a := h1
      by_cases e : i = j
      · subst e
        rw [List.getElem?_set_self hlt] at h2
        cases h2
        exact h3 rfl
      · exact e (Rep.chg.nodup_ix' r.nd ha h1)
    · obtain ⟨j, u, h1, h2, h3⟩ := l
      exact r.pnl q hq (Live.set hm hl ⟨j, u, h1, h2, h3⟩)
/-- the later objects of the store are forgotten -/
theorem Live.cut {n : Nat} {b : Addr} (l : Live ⟨G.ι.take n, G.φ⟩ (S.take n) b) : Live G S b := by
  obtain ⟨i, o, h1, h2, h3⟩ := l
  have h1 : (G.ι.take n)[i]? = some b := h1
  rw [List.getElem?_take] at h1 h2
  by_cases hi : i < n
  · rw [if_pos hi] at h1 h2
    exact ⟨i, o, h1, h2, h3⟩
  · rw [if_neg hi] at h1; cases h1
theorem Rep.cut (r : Rep K H G S) (n : Nat) : Rep K H ⟨G.ι.take n, G.φ⟩ (S.take n) := by
  refine ⟨by rw [List.length_take, List.length_take, r.len], r.nd.sublist (List.take_sublist _ _), fun i a o h1 h2 => ?_, r.phi, fun q hq l => r.pnl q hq l.cut⟩
  have h1 : (G.ι.take n)[i]? = some a := h1
  rw [List.getElem?_take] at h1 h2
  by_cases hi : i < n
  · rw [if_pos hi] at h1 h2
    exact r.ok i a o h1 h2
  · rw [if_neg hi] at h1; cases h1
theorem Ext.cut {H1 : Hp} {G1 : Gh} {S1 : Sto} (r : Rep K H G S) (x : Ext H G S H1 G1 S1) : Ext H G S H1 ⟨G1.ι.take S.length, G1.φ⟩ (S1.take S.length) := by
  refine ⟨fun i a h => ?_, x.phi, x.frame, fun b l => x.fresh b l.cut, fun b h => x.iot b (List.mem_of_mem_take h), x.phf⟩
  have hi : i < S.length := by rw [← r.len]; exact (List.getElem?_eq_some_iff.mp h).1
  show (G1.ι.take S.length)[i]? = some a
  rw [List.getElem?_take, if_pos hi]
  exact x.pre i a h
end
end DL

namespace DL
open PySem L2

def LIM : Nat := 1000000
theorem LIM_le : LIM ≤ sizeLine := by unfold LIM; rw [sizeLine_eq]; decide
theorem LIM_lt : LIM < sizeLine := by unfold LIM; rw [sizeLine_eq]; decide

def pys : List D → Option (List PyData)
  | [] => some []
  | .p x :: r => match pys r with
    | some xs => some (x :: xs)
    | none => none
  | _ :: _ => none
section
variable {K : PySem.W.Frag} {H : Hp} {G : Gh} {S : Sto}
theorem pys_den : ∀ {ds : List D} {xs : List PyData} {vs : List V}, pys ds = some xs → DenL K H G ds vs → DnAll K G.φ H xs vs
  | [], xs, _, e, .nil => by cases e; exact .nil
  | .p x :: r, xs, _, e, .cons h t => by
    simp only [pys] at e
    cases q : pys r with
    | none => rw [q] at e; cases e
    | some ys =>
      rw [q] at e; cases e
      exact .cons h (pys_den q t)
  | .ob _ :: _, _, _, e, _ => by cases e
  | .ro _ :: _, _, _, e, _ => by cases e
  | .ext _ :: _, _, _, e, _ => by cases e
theorem pys_len : ∀ {ds : List D} {xs : List PyData}, pys ds = some xs → ds.length = xs.length
  | [], xs, e => by cases e; rfl
  | .p x :: r, xs, e => by
    simp only [pys] at e
    cases q : pys r with
    | none => rw [q] at e; cases e
    | some ys =>
      rw [q] at e; cases e
      rw [List.length_cons, List.length_cons, pys_len q]
  | .ob _ :: _, _, e => by cases e
  | .ro _ :: _, _, e => by cases e
  | .ext _ :: _, _, e => by cases e
end

abbrev QD (K : PySem.W.Frag) (Q : VK) : D → Hp → Gh → Sto → Prop := fun d H' G' _ => ∀ v, Den K H' G' d v → Q v H'
section
variable {K : PySem.W.Frag} {W : WX} {σ : St} {H : Hp} {G : Gh} {S : Sto} {Q : VK} {p : Addr}
theorem Aft.ret {d : D} {v : V} (h : Aft K W σ H G S (.ok d S) (QD K Q)) (r : Rep K H G S) (dv : Den K H G d v) : Q v H := h H G Ext.refl r v dv
theorem Aft.newTup {xs : List PyData} {vs : List V} (h : Aft K W σ H G S (.ok (.p (.tuple xs)) S) (QD K Q)) (r : Rep K H G S) (t : DnAll K G.φ H xs vs) (hp : H p = none) : Q (.ref p) (upd H p (.tup vs)) :=
  h _ G (Ext.other r hp) (Rep.other r hp) _ (Dn.tup (SqT.of upd_same) ((Ext.other r hp).dnAll r t))
theorem Aft.newLst {xs : List PyData} {vs : List V} (h : Aft K W σ H G S (.ok (.p (.list xs)) S) (QD K Q)) (r : Rep K H G S) (t : DnAll K G.φ H xs vs) (hp : H p = none) : Q (.ref p) (upd H p (.lst vs)) :=
  h _ _ (Ext.froz r hp) (Rep.froz r hp) _ (Dn.lst (fun _ q => q _ List.mem_cons_self) ((Ext.froz r hp).dnAll r t))
theorem Aft.newLstM {xs : List PyData} {vs : List V} (h : Aft K W σ H G S (.ok (.ob S.length) (S ++ [.lst xs])) (QD K Q)) (r : Rep K H G S) (t : DnAll K G.φ H xs vs) (hp : H p = none) : Q (.ref p) (upd H p (.lst vs)) :=
  h _ _ (Ext.new r _ hp) (Rep.new r hp ⟨vs, upd_same, (Ext.new r (.lst xs) hp).dnAll r t⟩) _ ⟨p, rfl, Gh.add_last r p⟩
theorem Aft.newDicM {kvs : List (Key × PyData)} {ws : List (Key × V)} (h : Aft K W σ H G S (.ok (.ob S.length) (S ++ [.dic kvs])) (QD K Q)) (r : Rep K H G S) (e : kvs.map (·.1) = ws.map (·.1)) (t : DnAll K G.φ H (kvs.map (·.2)) (ws.map (·.2))) (hp : H p = none) : Q (.ref p) (upd H p (.dK ws)) :=
  h _ _ (Ext.new r _ hp) (Rep.new r hp ⟨ws, upd_same, e, (Ext.new r (.dic kvs) hp).dnAll r t⟩) _ ⟨p, rfl, Gh.add_last r p⟩
def pyKv (kvs : List (Key × PyData)) : List (PyData × PyData) := kvs.map fun p => (keyPy p.1, p.2)
theorem pyKv_keys (kvs : List (Key × PyData)) : (pyKv kvs).map (·.1) = kvs.map (fun p => keyPy p.1) := by simp [pyKv]
theorem pyKv_vals (kvs : List (Key × PyData)) : (pyKv kvs).map (·.2) = kvs.map (·.2) := by simp [pyKv]
theorem Dn.dicOf {φ : List (Addr × HO)} {a : Addr} {kvs : List (Key × PyData)} {ws : List (Key × V)} (f : FD φ a ws) (e : kvs.map (·.1) = ws.map (·.1)) (t : DnAll K φ H (kvs.map (·.2)) (ws.map (·.2))) : Dn K φ H (.dict (pyKv kvs)) (.ref a) := by
  refine .dic f ?_ (by rw [pyKv_vals]; exact t)
  rw [pyKv_keys]
  have := congrArg (List.map keyPy) e
  simpa [List.map_map, Function.comp_def] using this
theorem Aft.newDic {kvs : List (Key × PyData)} {ws : List (Key × V)} (h : Aft K W σ H G S (.ok (.p (.dict (pyKv kvs))) S) (QD K Q)) (r : Rep K H G S) (e : kvs.map (·.1) = ws.map (·.1)) (t : DnAll K G.φ H (kvs.map (·.2)) (ws.map (·.2))) (hp : H p = none) (od : Obj) : Q (.ref p) (upd H p (.frz od (.dK ws))) :=
  h _ _ (Ext.froz r hp) (Rep.froz r hp) _ (Dn.dicOf ⟨od, fun _ q => q _ List.mem_cons_self⟩ e ((Ext.froz r hp).dnAll r t))
theorem upd_twice {H : Hp} {p : Addr} {a b : HO} : upd (upd H p a) p b = upd H p b := by
  funext c
  by_cases h : c = p
  · rw [h, upd_same, upd_same]
  · rw [upd_ne h, upd_ne h, upd_ne h]
/-- what is told behind a step in which a thing may be locked -/
def Lk (Q : VK) : VK := fun v H => Q v H ∨ ∃ d u, H d = some u ∧ Mut (some u) ∧ ∀ od, Q v (upd H d (.frz od u))
theorem Lk.of {Q : VK} {v : V} {H : Hp} (h : Q v H) : Lk Q v H := .inl h
theorem Aft.newDicL {kvs : List (Key × PyData)} {ws : List (Key × V)} (h : Aft K W σ H G S (.ok (.p (.dict (pyKv kvs))) S) (QD K Q)) (r : Rep K H G S) (e : kvs.map (·.1) = ws.map (·.1)) (t : DnAll K G.φ H (kvs.map (·.2)) (ws.map (·.2))) (hp : H p = none) : Lk Q (.ref p) (upd H p (.dK ws)) :=
  .inr ⟨p, .dK ws, upd_same, trivial, fun od => by rw [upd_twice]; exact h.newDic r e t hp od⟩
theorem PE.lk {X : Cx} {e : Expr} {t : TE} (h : PE X e t) : PE X e (fun σ H Q => t σ H (Lk Q)) := by
  refine ⟨fun pins s σ H Q I hw => thn (h.run pins s σ H _ I hw) fun v s1 ⟨x, H1, I1, r, q⟩ => ?_⟩
  rcases q with q | ⟨d, u, hd, mu, q⟩
  · exact ⟨x, H1, I1, r, q⟩
  · obtain ⟨od, I2⟩ := I1.lock hd mu
    exact ⟨x, _, I2, r, q od⟩
theorem CallR.lk {X : Cx} {f : Value} {r : List V → Hp → VK → Prop} (h : CallR X f r) : CallR X f (fun xs H Q => r xs H (Lk Q)) := by
  intro pins s σ H xs us Q I rv hw
  refine thn (h pins s σ H xs us _ I rv hw) fun v s1 ⟨x, H1, I1, r, q⟩ => ?_
  rcases q with q | ⟨d, u, hd, mu, q⟩
  · exact ⟨x, H1, I1, r, q⟩
  · obtain ⟨od, I2⟩ := I1.lock hd mu
    exact ⟨x, _, I2, r, q od⟩
def LkS (nx : L2.St → Hp → Prop) : L2.St → Hp → Prop := fun σ H => nx σ H ∨ ∃ d u, H d = some u ∧ Mut (some u) ∧ ∀ od, nx σ (upd H d (.frz od u))
theorem PS.lkN {X : Cx} {st : Stmt} {t : TS} (h : PS X st t) : PS X st (fun D σ H => t { D with nx := LkS D.nx } σ H) := by
  refine ⟨fun pins s σ H D I hw => thn (h.run pins s σ H _ I hw) fun f s1 q => ?_⟩
  cases f with
  | next =>
    obtain ⟨σ', H', I1, q⟩ := q
    rcases q with q | ⟨d, u, hd, mu, q⟩
    · exact ⟨σ', H', I1, q⟩
    · obtain ⟨od, I2⟩ := I1.lock hd mu
      exact ⟨σ', _, I2, q od⟩
  | brk => exact q
  | cont => exact q
  | ret v => exact q
theorem PSs.lk {X : Cx} {sts : List Stmt} {t : TS} (h : PSs X sts t) : PSs X sts (fun D σ H => t D σ H ∨ ∃ d u, H d = some u ∧ Mut (some u) ∧ ∀ od, t D σ (upd H d (.frz od u))) := by
  refine ⟨fun pins s σ H D I hw => ?_⟩
  rcases hw with hw | ⟨d, u, hd, mu, hw⟩
  · exact h.run pins s σ H D I hw
  · obtain ⟨od, I2⟩ := I.lock hd mu
    exact h.run pins s σ _ D I2 (hw od)
end

def eVar (i : Nat) : FE := fun ρ S => match ρ[i]? with
  | some (some d) => .ok d S
  | _ => .bad
def eC (d : D) : FE := fun _ S => .ok d S
section
variable {X : Cx} {W : WX}
theorem de_var (i : Nat) {x : Str} {pos : Pos} (hN : X.N[i]? = some x := by rfl) (hv : Vis X.env.scope x := by first | exact Or.inl rfl | exact Or.inr (Or.inl rfl) | exact Or.inr (Or.inr rfl)) (hd : (x == ("__debug__" : Str)) = false := by decide)
    (hcd : (x == ("__classdict__" : Str)) = false := by decide) : DE X W (.Name x pos) (eVar i) := by
  refine ⟨PE.imp (pe_var hN hv hd hcd) fun σ H Q ⟨G, S, ρ, rs, rp, h⟩ => ?_⟩
  unfold eVar at h
  split at h
  · rename_i d e
    obtain ⟨v, h1, h2⟩ := rs.get e
    exact ⟨v, h1, h.ret rp h2⟩
  · exact h.elim
theorem de_int {i : Int} {j pos} : DE X W (.Constant (.int i) j pos) (eC (.p (.int i))) := ⟨PE.imp pe_int fun σ H Q ⟨G, S, ρ, rs, rp, h⟩ => Aft.ret h rp (.int i)⟩
theorem de_bl {b : Bool} {j pos} : DE X W (.Constant (.bool b) j pos) (eC (.p (.bool b))) := ⟨PE.imp pe_bl fun σ H Q ⟨G, S, ρ, rs, rp, h⟩ => Aft.ret h rp (.bl b)⟩
theorem de_non {j pos} : DE X W (.Constant .none j pos) (eC (.p .none)) := ⟨PE.imp pe_non fun σ H Q ⟨G, S, ρ, rs, rp, h⟩ => Aft.ret h rp .non⟩
theorem de_str {x : Str} {j pos} : DE X W (.Constant (.str x) j pos) (eC (.p (.str x))) := ⟨PE.imp pe_str fun σ H Q ⟨G, S, ρ, rs, rp, h⟩ => Aft.ret h rp (.str x)⟩
/-- a constant of the module, by its data -/
theorem de_glob {x : Str} {v : V} {u : Value} {d : D} {pos : Pos} (hg : Gl X x) (hm : X.mg x = some u) (r : RelV v u) (hd : ∀ H G, Den X.K H G d v) (hdb : (x == ("__debug__" : Str)) = false := by decide) : DE X W (.Name x pos) (eC d) :=
  ⟨PE.imp (pe_glob hg hm r hdb) fun σ H Q ⟨G, S, ρ, rs, rp, h⟩ => Aft.ret h rp (hd H G)⟩
end

def aNil : FA := fun _ S => .ok [] S
def aCons (f : FE) (g : FA) : FA := fun ρ S => (f ρ S).bind fun d S1 => (g ρ S1).bind fun ds S2 => .ok (d :: ds) S2
def mkTup : List D → M D := fun ds S => match pys ds with
  | some xs => if xs.length ≤ LIM then .ok (.p (.tuple xs)) S else .bad
  | none => .bad
def mkLst : List D → M D := fun ds S => match pys ds with
  | some xs => if xs.length ≤ LIM then .ok (.p (.list xs)) S else .bad
  | none => .bad
def mkLstM : List D → M D := fun ds S => match pys ds with
  | some xs => if xs.length ≤ LIM then .ok (.ob S.length) (S ++ [.lst xs]) else .bad
  | none => .bad
def eA (g : List D → M D) (f : FA) : FE := fun ρ S => (f ρ S).bind g
section
variable {X : Cx} {W : WX} {e : Expr} {es : List Expr} {f : FE} {g : FA} {pos : Pos}
theorem da_nil : DA X W [] aNil := ⟨PA.imp pa_nil fun σ H Q ⟨G, S, ρ, rs, rp, h⟩ => h H G Ext.refl rp _ .nil⟩
theorem da_cons (he : DE X W e f) (hr : DA X W es g) (hs : starEach (e :: es) X.env = (false, eval e X.env) :: starEach es X.env := by rfl) : DA X W (e :: es) (aCons f g) := by
  refine ⟨PA.imp (pa_cons he.run hr.run hs) fun σ H Q ⟨G, S, ρ, rs, rp, h⟩ => ?_⟩
  refine ⟨G, S, ρ, rs, rp, (Aft.bind h).mono fun d H1 G1 S1 x1 r1 h1 v dv => ?_⟩
  refine ⟨G1, S1, ρ, x1.relS rp rs, r1, (Aft.bind h1).mono fun ds H2 G2 S2 x2 r2 h2 vs dvs => ?_⟩
  exact h2 H2 G2 Ext.refl r2 _ (.cons (x2.den r1 dv) dvs)
theorem de_tup {k} (h : DA X W es g) : DE X W (.Tuple es k pos) (eA mkTup g) := by
  refine ⟨PE.imp (pe_tup h.run) fun σ H Q ⟨G, S, ρ, rs, rp, h⟩ => ?_⟩
  refine ⟨G, S, ρ, rs, rp, (Aft.bind h).mono fun ds H1 G1 S1 x1 r1 h1 vs dvs => ?_⟩
  unfold mkTup at h1
  split at h1
  · rename_i xs e
    have t := pys_den e dvs
    by_cases hl : xs.length ≤ LIM
    · rw [if_pos hl] at h1
      exact ⟨by rw [← t.length]; exact Nat.le_trans hl LIM_le, fun p hp => h1.newTup r1 t hp⟩
    · rw [if_neg hl] at h1; exact h1.elim
  · exact h1.elim
theorem de_lst (h : DA X W es g) : DE X W (.List es pos) (eA mkLst g) := by
  refine ⟨PE.imp (pe_lst h.run) fun σ H Q ⟨G, S, ρ, rs, rp, h⟩ => ?_⟩
  refine ⟨G, S, ρ, rs, rp, (Aft.bind h).mono fun ds H1 G1 S1 x1 r1 h1 vs dvs => ?_⟩
  unfold mkLst at h1
  split at h1
  · rename_i xs e
    have t := pys_den e dvs
    by_cases hl : xs.length ≤ LIM
    · rw [if_pos hl] at h1
      exact ⟨by rw [← t.length]; exact Nat.le_trans hl LIM_le, fun p hp => h1.newLst r1 t hp⟩
    · rw [if_neg hl] at h1; exact h1.elim
  · exact h1.elim
theorem de_lstM (h : DA X W es g) : DE X W (.List es pos) (eA mkLstM g) := by
  refine ⟨PE.imp (pe_lst h.run) fun σ H Q ⟨G, S, ρ, rs, rp, h⟩ => ?_⟩
  refine ⟨G, S, ρ, rs, rp, (Aft.bind h).mono fun ds H1 G1 S1 x1 r1 h1 vs dvs => ?_⟩
  unfold mkLstM at h1
  split at h1
  · rename_i xs e
    have t := pys_den e dvs
    by_cases hl : xs.length ≤ LIM
    · rw [if_pos hl] at h1
      exact ⟨by rw [← t.length]; exact Nat.le_trans hl LIM_le, fun p hp => h1.newLstM r1 t hp⟩
    · rw [if_neg hl] at h1; exact h1.elim
  · exact h1.elim
end

/-- the data's operation g is what the reading r asks -/
def Sim2 (K : PySem.W.Frag) (r : R2) (g : D → D → M D) : Prop :=
  ∀ (W : WX) (σ : St) (H : Hp) (G : Gh) (S : Sto) (x y : D) (v w : V) (Q : VK), Rep K H G S → Den K H G x v → Den K H G y w → Aft K W σ H G S (g x y S) (QD K Q) → r v w H Q
def Sim1 (K : PySem.W.Frag) (r : V → Hp → VK → Prop) (g : D → M D) : Prop :=
  ∀ (W : WX) (σ : St) (H : Hp) (G : Gh) (S : Sto) (x : D) (v : V) (Q : VK), Rep K H G S → Den K H G x v → Aft K W σ H G S (g x S) (QD K Q) → r v H Q
def SimA (K : PySem.W.Frag) (r : List V → Hp → VK → Prop) (g : List D → M D) : Prop :=
  ∀ (W : WX) (σ : St) (H : Hp) (G : Gh) (S : Sto) (xs : List D) (vs : List V) (Q : VK), Rep K H G S → DenL K H G xs vs → Aft K W σ H G S (g xs S) (QD K Q) → r vs H Q
def e2 (g : D → D → M D) (a b : FE) : FE := fun ρ S => (a ρ S).bind fun x S1 => (b ρ S1).bind fun y S2 => g x y S2
def e1 (g : D → M D) (a : FE) : FE := fun ρ S => (a ρ S).bind g
section
variable {X : Cx} {W : WX} {a b : Expr} {f h : FE} {pos : Pos}
theorem sim_op {r : R2} {g : D → D → M D} (m : Sim2 X.K r g) {σ : St} {H : Hp} {Q : VK} (q : rd X.K W (e2 g f h) σ H Q) : tOp r (rd X.K W f) (rd X.K W h) σ H Q := by
  obtain ⟨G, S, ρ, rs, rp, q⟩ := q
  refine ⟨G, S, ρ, rs, rp, (Aft.bind q).mono fun x H1 G1 S1 x1 r1 q1 v dv => ?_⟩
  refine ⟨G1, S1, ρ, x1.relS rp rs, r1, (Aft.bind q1).mono fun y H2 G2 S2 x2 r2 q2 w dw => ?_⟩
  exact m W σ H2 G2 S2 x y v w Q r2 (x2.den r1 dv) dw q2
theorem de_bin {op : Operator} {r : R2} {g : D → D → M D} (o : OpR X (binaryOp op) r) (m : Sim2 X.K r g) (ha : DE X W a f) (hb : DE X W b h) : DE X W (.BinOp a op b pos) (e2 g f h) :=
  ⟨PE.imp (pe_op o ha.run hb.run) fun _ _ _ q => sim_op m q⟩
theorem de_cmp {op : CmpOp} {r : R2} {g : D → D → M D} (o : OpR X (compareOp op) r) (m : Sim2 X.K r g) (ha : DE X W a f) (hb : DE X W b h) (hm : behindInMarks op b = false) : DE X W (.Compare a [op] [b] pos) (e2 g f h) :=
  ⟨PE.imp (pe_cmpR o ha.run hb.run hm) fun _ _ _ q => sim_op m q⟩
theorem de_ix {r : R2} {g : D → D → M D} (o : IxR X r) (m : Sim2 X.K r g) (ha : DE X W a f) (hb : DE X W b h) (hs : PlainIx b) : DE X W (.Subscript a b pos) (e2 g f h) :=
  ⟨PE.imp (pe_ix o ha.run hb.run hs) fun _ _ _ q => sim_op m q⟩
theorem de_un {op : UnaryOp} {r : V → Hp → VK → Prop} {g : D → M D} (o : UnR X (unaryOp op) r) (m : Sim1 X.K r g) (ha : DE X W a f) : DE X W (.UnaryOp op a pos) (e1 g f) := by
  refine ⟨PE.imp (pe_un o ha.run) fun σ H Q ⟨G, S, ρ, rs, rp, q⟩ => ?_⟩
  exact ⟨G, S, ρ, rs, rp, (Aft.bind q).mono fun x H1 G1 S1 x1 r1 q1 v dv => m W σ H1 G1 S1 x v Q r1 dv q1⟩
end

def opI (C : Int → Int → Bool) (g : Int → Int → Int) : D → D → M D := fun x y S => match x, y with
  | .p (.int i), .p (.int j) => if C i j then .ok (.p (.int (g i j))) S else .bad
  | _, _ => .bad
def opC (g : Int → Int → Bool) : D → D → M D := fun x y S => match x, y with
  | .p (.int i), .p (.int j) => .ok (.p (.bool (g i j))) S
  | _, _ => .bad
section
variable {K : PySem.W.Frag} {H : Hp} {G : Gh}
theorem den_int {i : Int} {v : V} (h : Den K H G (.p (.int i)) v) : v = .int i := by cases h; rfl
theorem den_str {i : Str} {v : V} (h : Den K H G (.p (.str i)) v) : v = .str i := by cases h; rfl
theorem den_bool {i : Bool} {v : V} (h : Den K H G (.p (.bool i)) v) : v = .bl i := by cases h; rfl
theorem den_none {v : V} (h : Den K H G (.p .none) v) : v = .non := by cases h; rfl
theorem den_tup {xs : List PyData} {v : V} (h : Den K H G (.p (.tuple xs)) v) : ∃ a vs, v = .ref a ∧ SqT K H a vs ∧ DnAll K G.φ H xs vs := by
  cases h with
  | tup h t => exact ⟨_, _, rfl, h, t⟩
theorem den_lst {xs : List PyData} {v : V} (h : Den K H G (.p (.list xs)) v) : ∃ a vs, v = .ref a ∧ FL G.φ a vs ∧ DnAll K G.φ H xs vs := by
  cases h with
  | lst h t => exact ⟨_, _, rfl, h, t⟩
theorem den_dic {kvs : List (PyData × PyData)} {v : V} (h : Den K H G (.p (.dict kvs)) v) : ∃ a ws, v = .ref a ∧ FD G.φ a ws ∧ kvs.map (·.1) = ws.map (fun p => keyPy p.1) ∧ DnAll K G.φ H (kvs.map (·.2)) (ws.map (·.2)) := by
  cases h with
  | dic h e t => exact ⟨_, _, rfl, h, e, t⟩
theorem sim_int {C : Int → Int → Bool} {P : Int → Int → Prop} {g : Int → Int → Int} (hC : ∀ i j, C i j = true → P i j) : Sim2 K (rI P fun i j => .int (g i j)) (opI C g) := by
  intro W σ H G S x y v w Q rp dx dy q
  unfold opI at q
  split at q
  · rename_i i j
    by_cases hc : C i j = true
    · rw [if_pos hc] at q
      exact ⟨i, j, den_int dx, den_int dy, hC i j hc, q.ret rp (.int _)⟩
    · rw [if_neg hc] at q; exact q.elim
  · exact q.elim
theorem sim_int0 {g : Int → Int → Int} : Sim2 K (rI0 fun i j => .int (g i j)) (opI (fun _ _ => true) g) := by
  intro W σ H G S x y v w Q rp dx dy q
  unfold opI at q
  split at q
  · rename_i i j
    exact ⟨i, j, den_int dx, den_int dy, q.ret rp (.int _)⟩
  · exact q.elim
theorem sim_cmp {g : Int → Int → Bool} : Sim2 K (rI0 fun i j => .bl (g i j)) (opC g) := by
  intro W σ H G S x y v w Q rp dx dy q
  unfold opC at q
  split at q
  · rename_i i j
    exact ⟨i, j, den_int dx, den_int dy, q.ret rp (.bl _)⟩
  · exact q.elim
end
def opSub : D → D → M D := opI (fun _ _ => true) fun i j => i - j
def opMulI : D → D → M D := opI (fun i j => (decide (-(2 ^ 64) < i) && decide (i < 2 ^ 64)) || (decide (-(2 ^ 64) < j) && decide (j < 2 ^ 64))) fun i j => i * j
def opMod : D → D → M D := opI (fun _ j => decide (0 < j)) fun i j => i % j
def opDiv : D → D → M D := opI (fun _ j => decide (0 < j) && decide (j < 1073741824)) fun i j => i / j
def opPow : D → D → M D := opI (fun i j => decide (0 ≤ j) && (decide (j ≤ 1000000) && decide (i.natAbs < 2 ^ 64))) fun i j => i ^ j.toNat
def opLt : D → D → M D := opC fun i j => decide (i < j)
def opLe : D → D → M D := opC fun i j => decide (i ≤ j)
def opGt : D → D → M D := opC fun i j => decide (j < i)
def opGe : D → D → M D := opC fun i j => decide (j ≤ i)
section
variable {X : Cx} {W : WX} {a b : Expr} {f h : FE} {pos : Pos}
theorem de_sub (ha : DE X W a f) (hb : DE X W b h) : DE X W (.BinOp a .Sub b pos) (e2 opSub f h) := de_bin op_sub sim_int0 ha hb
theorem de_mod (ha : DE X W a f) (hb : DE X W b h) : DE X W (.BinOp a .Mod b pos) (e2 opMod f h) := de_bin op_mod (sim_int fun i j q => of_decide_eq_true q) ha hb
theorem de_div (ha : DE X W a f) (hb : DE X W b h) : DE X W (.BinOp a .FloorDiv b pos) (e2 opDiv f h) := de_bin op_fdiv (sim_int fun i j q => by
  rw [Bool.and_eq_true, decide_eq_true_iff, decide_eq_true_iff] at q; exact q) ha hb
theorem de_pow (ha : DE X W a f) (hb : DE X W b h) : DE X W (.BinOp a .Pow b pos) (e2 opPow f h) := de_bin op_pow (sim_int fun i j q => by
  rw [Bool.and_eq_true, Bool.and_eq_true, decide_eq_true_iff, decide_eq_true_iff, decide_eq_true_iff] at q; exact q) ha hb
theorem de_lt (ha : DE X W a f) (hb : DE X W b h) : DE X W (.Compare a [.Lt] [b] pos) (e2 opLt f h) := de_cmp op_lt sim_cmp ha hb (nomark _)
theorem de_le (ha : DE X W a f) (hb : DE X W b h) : DE X W (.Compare a [.LtE] [b] pos) (e2 opLe f h) := de_cmp op_le sim_cmp ha hb (nomark _)
theorem de_gt (ha : DE X W a f) (hb : DE X W b h) : DE X W (.Compare a [.Gt] [b] pos) (e2 opGt f h) := de_cmp op_gt sim_cmp ha hb (nomark _)
theorem de_ge (ha : DE X W a f) (hb : DE X W b h) : DE X W (.Compare a [.GtE] [b] pos) (e2 opGe f h) := de_cmp op_ge sim_cmp ha hb (nomark _)
def opNeg : D → M D := fun x S => match x with
  | .p (.int i) => .ok (.p (.int (-i))) S
  | _ => .bad
theorem de_neg (ha : DE X W a f) : DE X W (.UnaryOp .USub a pos) (e1 opNeg f) := de_un un_neg (fun W σ H G S x v Q rp dx q => by
  unfold opNeg at q
  split at q
  · rename_i i
    exact ⟨i, den_int dx, q.ret rp (.int _)⟩
  · exact q.elim) ha
/-- + of ints, texts, lists, tuples -/
def opAdd : D → D → M D := fun x y S => match x, y with
  | .p (.int i), .p (.int j) => .ok (.p (.int (i + j))) S
  | .p (.str i), .p (.str j) => if i.length + j.length ≤ LIM then .ok (.p (.str (i ++ j))) S else .bad
  | .p (.list i), .p (.list j) => if i.length + j.length ≤ LIM then .ok (.p (.list (i ++ j))) S else .bad
  | .p (.tuple i), .p (.tuple j) => if i.length + j.length ≤ LIM then .ok (.p (.tuple (i ++ j))) S else .bad
  | _, _ => .bad
def rAddD (K : PySem.W.Frag) : R2 := fun x y H Q => rI0 (fun i j => .int (i + j)) x y H Q ∨ (∃ i j, x = .str i ∧ y = .str j ∧ i.length + j.length ≤ sizeLine ∧ Q (.str (i ++ j)) H) ∨ rCat x y H Q ∨ rCatA K x y H Q
theorem DnAll.nil_iff {K : PySem.W.Frag} {φ : List (Addr × HO)} {H : Hp} {ds : List PyData} {vs : List V} (h : DnAll K φ H ds vs) : vs = [] ↔ ds = [] := by
  cases h <;> simp
theorem sim_add {K : PySem.W.Frag} : Sim2 K (rAddD K) opAdd := by
  intro W σ H G S x y v w Q rp dx dy q
  unfold opAdd at q
  split at q
  · rename_i i j
    exact .inl ⟨i, j, den_int dx, den_int dy, q.ret rp (.int _)⟩
  · rename_i i j
    by_cases hc : i.length + j.length ≤ LIM
    · rw [if_pos hc] at q
      exact .inr (.inl ⟨i, j, den_str dx, den_str dy, Nat.le_trans hc LIM_le, q.ret rp (.str _)⟩)
    · rw [if_neg hc] at q; exact q.elim
  · rename_i i j
    by_cases hc : i.length + j.length ≤ LIM
    · rw [if_pos hc] at q
      obtain ⟨a, vs, rfl, fa, ta⟩ := den_lst dx
      obtain ⟨b, ws, rfl, fb, tb⟩ := den_lst dy
      exact .inr (.inr (.inl ⟨a, b, vs, ws, rfl, rfl, fa H rp.phi, fb H rp.phi, by rw [← ta.length, ← tb.length]; exact Nat.le_trans hc LIM_le, fun p hp => q.newLst rp (ta.append tb) hp⟩))
    · rw [if_neg hc] at q; exact q.elim
  · rename_i i j
    by_cases hc : i.length + j.length ≤ LIM
    · rw [if_pos hc] at q
      obtain ⟨a, vs, rfl, fa, ta⟩ := den_tup dx
      obtain ⟨b, ws, rfl, fb, tb⟩ := den_tup dy
      refine .inr (.inr (.inr ⟨a, b, vs, ws, rfl, rfl, fa, fb, by rw [← ta.length, ← tb.length]; exact Nat.le_trans hc LIM_le, fun e => ?_, fun _ e => ?_, fun _ _ p hp => q.newTup rp (ta.append tb) hp⟩))
      · have e' := ta.nil_iff.mp e
        rw [e', List.nil_append] at q
        exact q.ret rp dy
      · have e' := tb.nil_iff.mp e
        rw [e', List.append_nil] at q
        exact q.ret rp dx
    · rw [if_neg hc] at q; exact q.elim
  · exact q.elim
theorem de_add (ha : DE X W a f) (hb : DE X W b h) : DE X W (.BinOp a .Add b pos) (e2 opAdd f h) :=
  de_bin (op_add.or (op_add_str.or (op_cat.or op_catA))) sim_add ha hb
theorem de_mulI (ha : DE X W a f) (hb : DE X W b h) : DE X W (.BinOp a .Mult b pos) (e2 opMulI f h) := de_bin op_mul (sim_int fun i j q => by
  simp only [Bool.or_eq_true, Bool.and_eq_true, decide_eq_true_eq] at q; exact q) ha hb
end

def val (S : Sto) : D → Option PyData
  | .p x => some x
  | .ob i => match S[i]? with
    | some (.lst xs) => some (.list xs)
    | _ => none
  | _ => none
def opEq (neg : Bool) : D → D → M D := fun x y S => match val S x, val S y with
  | some a, some b => if SeqAt.shaped a && SeqAt.shaped b then .ok (.p (.bool (if neg then !PyData.eqv a b else PyData.eqv a b))) S else .bad
  | _, _ => .bad
mutual
theorem Dn.dp {K : PySem.W.Frag} {φ : List (Addr × HO)} {H : Hp} (ph : L2.Hp → Prop := fun _ => True) (hφ : Holds φ H) : ∀ {d : PyData} {v : V}, d.canLay0 = true → Dn K φ H d v → Dp K H v d
  | _, _, _, .non => .non
  | _, _, _, .bl b => .bl b
  | _, _, _, .int i => .int i
  | _, _, _, .str x => .str x
  | _, _, h, .lst f t => .lst (SqL.of (f H hφ)) (DnAll.dp ph hφ (by simpa only [PyData.canLay0] using h) t)
  | _, _, h, .tup f t => .tup f (DnAll.dp ph hφ (by simpa only [PyData.canLay0] using h) t)
  | _, _, h, .dic _ _ _ => by simp only [PyData.canLay0] at h; cases h
theorem DnAll.dp {K : PySem.W.Frag} {φ : List (Addr × HO)} {H : Hp} (ph : L2.Hp → Prop := fun _ => True) (hφ : Holds φ H) : ∀ {ds : List PyData} {vs : List V}, PyData.canLayAll0 ds = true → DnAll K φ H ds vs → DpAll K H vs ds
  | _, _, _, .nil => .nil
  | _, _, h, .cons a t => by
    simp only [PyData.canLayAll0, Bool.and_eq_true] at h
    exact .cons (Dn.dp ph hφ h.1 a) (DnAll.dp ph hφ h.2 t)
end
theorem val_dp {K : PySem.W.Frag} {H : Hp} {G : Gh} {S : Sto} (rp : Rep K H G S) {d : D} {v : V} {a : PyData} (e : val S d = some a) (hs : SeqAt.shaped a = true) (h : Den K H G d v) : Dp K H v a := by
  have hc := SeqAt.canLay_of_shaped hs
  cases d with
  | p x => cases e; exact Dn.dp (fun _ => True) rp.phi hc h
  | ob i =>
    simp only [val] at e
    split at e
    · rename_i xs ei
      cases e
      obtain ⟨ad, rfl, ha⟩ := h
      obtain ⟨vs, e1, t⟩ := rp.ok i ad _ ha ei
      exact .lst (SqL.of e1) (DnAll.dp (fun _ => True) rp.phi (by simpa only [PyData.canLay0] using hc) t)
    · cases e
  | ro _ => cases e
  | ext _ => cases e
section
variable {X : Cx} {W : WX} {a b : Expr} {f h : FE} {pos : Pos}
theorem sim_eq {K : PySem.W.Frag} : Sim2 K (rEqD K) (opEq false) := by
  intro W σ H G S x y v w Q rp dx dy q
  unfold opEq at q
  split at q
  · rename_i a b ea eb
    by_cases hc : (SeqAt.shaped a && SeqAt.shaped b) = true
    · rw [if_pos hc] at q
      rw [Bool.and_eq_true] at hc
      exact ⟨a, b, val_dp rp ea hc.1 dx, val_dp rp eb hc.2 dy, hc.1, hc.2, q.ret rp (.bl _)⟩
    · rw [if_neg hc] at q; exact q.elim
  · exact q.elim
theorem sim_ne {K : PySem.W.Frag} : Sim2 K (rNeD K) (opEq true) := by
  intro W σ H G S x y v w Q rp dx dy q
  unfold opEq at q
  split at q
  · rename_i a b ea eb
    by_cases hc : (SeqAt.shaped a && SeqAt.shaped b) = true
    · rw [if_pos hc] at q
      rw [Bool.and_eq_true] at hc
      exact ⟨a, b, val_dp rp ea hc.1 dx, val_dp rp eb hc.2 dy, hc.1, hc.2, q.ret rp (.bl _)⟩
    · rw [if_neg hc] at q; exact q.elim
  · exact q.elim
theorem de_eq (hu : X.A.units + 64 < cLine) (ha : DE X W a f) (hb : DE X W b h) : DE X W (.Compare a [.Eq] [b] pos) (e2 (opEq false) f h) := de_cmp (op_eqD hu) sim_eq ha hb (nomark _)
theorem de_ne (hu : X.A.units + 64 < cLine) (ha : DE X W a f) (hb : DE X W b h) : DE X W (.Compare a [.NotEq] [b] pos) (e2 (opEq true) f h) := de_cmp (op_neD hu) sim_ne ha hb (nomark _)
/-- is None, is not None -/
def opIsN (neg : Bool) : D → D → M D := fun x y S => match y with
  | .p .none => match x with
    | .p .none => .ok (.p (.bool (!neg))) S
    | .ext _ => .bad
    | _ => .ok (.p (.bool neg)) S
  | _ => .bad
theorem isN_of {K : PySem.W.Frag} {H : Hp} {G : Gh} {x : D} {v : V} (h : Den K H G x v) (hx : ∀ u, x ≠ .ext u) : decide (v = .non) = (match x with | .p .none => true | _ => false) := by
  cases x with
  | p d => cases h <;> rfl
  | ob i => obtain ⟨a, rfl, _⟩ := h; rfl
  | ro xs => obtain ⟨a, vs, rfl, _⟩ := h; rfl
  | ext u => exact absurd rfl (hx u)
theorem sim_isN {K : PySem.W.Frag} : Sim2 K (fun x y H Q => y = .non ∧ Q (.bl (decide (x = .non))) H) (opIsN false) := by
  intro W σ H G S x y v w Q rp dx dy q
  unfold opIsN at q
  split at q
  · refine ⟨den_none dy, ?_⟩
    split at q
    · rw [den_none dx]; exact q.ret rp (.bl _)
    · exact q.elim
    · rename_i h1 h2
      rw [isN_of dx fun u e => h2 u e]
      refine q.ret rp ?_
      split
      · exact absurd rfl h1
      · exact .bl _
  · exact q.elim
theorem sim_notN {K : PySem.W.Frag} : Sim2 K (fun x y H Q => y = .non ∧ Q (.bl (!decide (x = .non))) H) (opIsN true) := by
  intro W σ H G S x y v w Q rp dx dy q
  unfold opIsN at q
  split at q
  · refine ⟨den_none dy, ?_⟩
    split at q
    · rw [den_none dx]; exact q.ret rp (.bl _)
    · exact q.elim
    · rename_i h1 h2
      rw [isN_of dx fun u e => h2 u e]
      refine q.ret rp ?_
      split
      · exact absurd rfl h1
      · exact .bl _
  · exact q.elim
theorem de_isN (ha : DE X W a f) (hb : DE X W b h) : DE X W (.Compare a [.Is] [b] pos) (e2 (opIsN false) f h) := de_cmp op_isN sim_isN ha hb (nomark _)
theorem de_notN (ha : DE X W a f) (hb : DE X W b h) : DE X W (.Compare a [.IsNot] [b] pos) (e2 (opIsN true) f h) := de_cmp op_notN sim_notN ha hb (nomark _)
end
end DL

namespace DL
open PySem L2

def pyKey : PyData → Option Key
  | .int i => some (.inl i)
  | .str x => some (.inr x)
  | _ => none
theorem pyKey_keyPy (k : Key) : pyKey (keyPy k) = some k := by cases k <;> rfl
theorem keyPy_of {d : PyData} {k : Key} (h : pyKey d = some k) : d = keyPy k := by
  cases d <;> first | (cases h; rfl) | cases h
def unKv : List (PyData × PyData) → Option (List (Key × PyData))
  | [] => some []
  | (k, d) :: r => match pyKey k, unKv r with
    | some k', some r' => some ((k', d) :: r')
    | _, _ => none
@[simp] theorem unKv_pyKv : ∀ kvs : List (Key × PyData), unKv (pyKv kvs) = some kvs
  | [] => rfl
  | (k, d) :: r => by
    show unKv ((keyPy k, d) :: pyKv r) = _
    simp only [unKv, pyKey_keyPy, unKv_pyKv r]
theorem unKv_eq : ∀ {l : List (PyData × PyData)} {kvs : List (Key × PyData)}, unKv l = some kvs → l = pyKv kvs
  | [], kvs, h => by cases h; rfl
  | (k, d) :: r, kvs, h => by
    simp only [unKv] at h
    split at h
    · rename_i k' r' e1 e2
      cases h
      rw [unKv_eq e2, keyPy_of e1]; rfl
    · cases h
def valD (kvs : List (Key × PyData)) (k : Key) : Option PyData := (kvs.find? fun kv => decide (kv.1 = k)).map (·.2)
def putD (kvs : List (Key × PyData)) (k : Key) (d : PyData) : List (Key × PyData) :=
  if (kvs.any fun kv => decide (kv.1 = k)) = true then kvs.map (fun kv => if kv.1 = k then (kv.1, d) else kv) else kvs ++ [(k, d)]
section
variable {K : PySem.W.Frag} {φ : List (Addr × HO)} {H : Hp}
structure KvR (K : PySem.W.Frag) (φ : List (Addr × HO)) (H : Hp) (kvs : List (Key × PyData)) (ws : List (Key × V)) : Prop where
  ks : kvs.map (·.1) = ws.map (·.1)
  vs : DnAll K φ H (kvs.map (·.2)) (ws.map (·.2))
theorem KvR.nil : KvR K φ H [] [] := ⟨rfl, .nil⟩
theorem KvR.cons {k : Key} {d : PyData} {v : V} {kvs : List (Key × PyData)} {ws : List (Key × V)} (h : Dn K φ H d v) (t : KvR K φ H kvs ws) : KvR K φ H ((k, d) :: kvs) ((k, v) :: ws) := ⟨by simp [t.ks], .cons h t.vs⟩
theorem KvR.inv {p : Key × PyData} {kvs : List (Key × PyData)} {l : List (Key × V)} (r : KvR K φ H (p :: kvs) l) : ∃ v ws, l = (p.1, v) :: ws ∧ Dn K φ H p.2 v ∧ KvR K φ H kvs ws := by
  obtain ⟨e, t⟩ := r
  cases l with
  | nil => simp at e
  | cons q ws =>
    simp only [List.map_cons, List.cons.injEq] at e
    cases t with
    | cons h t => exact ⟨q.2, ws, by rw [e.1], h, ⟨e.2, t⟩⟩
theorem KvR.nil_inv {l : List (Key × V)} (r : KvR K φ H [] l) : l = [] := by
  have := r.ks
  simpa using this
theorem KvR.length {kvs : List (Key × PyData)} {ws : List (Key × V)} (r : KvR K φ H kvs ws) : kvs.length = ws.length := by
  have := congrArg List.length r.ks
  simpa using this
theorem KvR.val {k : Key} : ∀ {kvs : List (Key × PyData)} {ws : List (Key × V)}, KvR K φ H kvs ws → (∀ d, valD kvs k = some d → ∃ v, valV ws k = some v ∧ Dn K φ H d v) ∧ (valD kvs k = none → valV ws k = none)
  | [], _, r => by
    rw [r.nil_inv]
    exact ⟨fun d e => (by cases e), fun _ => rfl⟩
  | p :: kvs, _, r => by
    obtain ⟨v, ws, rfl, h, t⟩ := r.inv
    have ih := KvR.val (k := k) t
    by_cases e : p.1 = k
    · have e1 : valD (p :: kvs) k = some p.2 := by simp [valD, List.find?_cons, e]
      have e2 : valV ((p.1, v) :: ws) k = some v := by simp [valV, List.find?_cons, e]
      rw [e1, e2]
      exact ⟨fun d q => by cases q; exact ⟨v, rfl, h⟩, fun q => by cases q⟩
    · have e1 : valD (p :: kvs) k = valD kvs k := by simp [valD, List.find?_cons, e]
      have e2 : valV ((p.1, v) :: ws) k = valV ws k := by simp [valV, List.find?_cons, e]
      rw [e1, e2]; exact ih
theorem KvR.mapPut {k : Key} {d : PyData} {v : V} (h : Dn K φ H d v) : ∀ {kvs : List (Key × PyData)} {ws : List (Key × V)}, KvR K φ H kvs ws → KvR K φ H (kvs.map fun kv => if kv.1 = k then (kv.1, d) else kv) (ws.map fun kv => if kv.1 = k then (kv.1, v) else kv)
  | [], _, r => by rw [r.nil_inv]; exact .nil
  | p :: kvs, _, r => by
    obtain ⟨u, ws, rfl, hu, t⟩ := r.inv
    rw [List.map_cons, List.map_cons]
    by_cases e : p.1 = k
    · rw [if_pos e, if_pos e]; exact .cons h (KvR.mapPut h t)
    · rw [if_neg e, if_neg e]; exact .cons hu (KvR.mapPut h t)
theorem KvR.snoc {k : Key} {d : PyData} {v : V} (h : Dn K φ H d v) : ∀ {kvs : List (Key × PyData)} {ws : List (Key × V)}, KvR K φ H kvs ws → KvR K φ H (kvs ++ [(k, d)]) (ws ++ [(k, v)])
  | [], _, r => by rw [r.nil_inv]; exact .cons h .nil
  | p :: kvs, _, r => by
    obtain ⟨u, ws, rfl, hu, t⟩ := r.inv
    exact .cons hu (KvR.snoc h t)
theorem KvR.any {k : Key} : ∀ {kvs : List (Key × PyData)} {ws : List (Key × V)}, KvR K φ H kvs ws → (kvs.any fun kv => decide (kv.1 = k)) = (ws.any fun kv => decide (kv.1 = k))
  | [], _, r => by rw [r.nil_inv]; rfl
  | p :: kvs, _, r => by
    obtain ⟨u, ws, rfl, hu, t⟩ := r.inv
    rw [List.any_cons, List.any_cons, KvR.any t]
theorem KvR.put {k : Key} {d : PyData} {v : V} {kvs : List (Key × PyData)} {ws : List (Key × V)} (r : KvR K φ H kvs ws) (h : Dn K φ H d v) : KvR K φ H (putD kvs k d) (putK ws k v) := by
  unfold putD putK
  rw [r.any]
  split
  · exact r.mapPut h
  · exact r.snoc h
end

def dicOf (S : Sto) : D → Option (List (Key × PyData))
  | .p (.dict l) => unKv l
  | .ob i => match S[i]? with
    | some (.dic kvs) => some kvs
    | _ => none
  | _ => none
def lstOf (S : Sto) : D → Option (List PyData)
  | .p (.list l) => some l
  | .ob i => match S[i]? with
    | some (.lst l) => some l
    | _ => none
  | _ => none
/-- lists (also the script) and tuples -/
def seqOf (S : Sto) : D → Option (List PyData)
  | .p (.list l) => some l
  | .p (.tuple l) => some l
  | .ro l => some l
  | .ob i => match S[i]? with
    | some (.lst l) => some l
    | _ => none
  | _ => none
section
variable {K : PySem.W.Frag} {H : Hp} {G : Gh} {S : Sto}
theorem dicOf_den (rp : Rep K H G S) {d : D} {v : V} {kvs : List (Key × PyData)} (e : dicOf S d = some kvs) (h : Den K H G d v) : ∃ a ws, v = .ref a ∧ Rd H a (.dK ws) ∧ KvR K G.φ H kvs ws := by
  cases d with
  | p x =>
    cases x with
    | dict l =>
      obtain ⟨a, ws, rfl, f, ek, t⟩ := den_dic h
      have el := unKv_eq (show unKv l = some kvs from e)
      subst el
      refine ⟨a, ws, rfl, .inr ⟨f.choose, f.choose_spec H rp.phi⟩, ?_, by rw [pyKv_vals] at t; exact t⟩
      rw [pyKv_keys] at ek
      have q := congrArg (List.map pyKey) ek
      simp only [List.map_map, Function.comp_def, pyKey_keyPy] at q
      have q2 := congrArg (List.filterMap id) q
      simpa [List.filterMap_map, Function.comp_def] using q2
    | _ => cases e
  | ob i =>
    simp only [dicOf] at e
    split at e
    · rename_i ks ei
      cases e
      obtain ⟨a, rfl, ha⟩ := h
      obtain ⟨ws, e1, e2, t⟩ := rp.ok i a _ ha ei
      exact ⟨a, ws, rfl, .inl e1, e2, t⟩
    · cases e
  | ro _ => cases e
  | ext _ => cases e
theorem lstOf_den (rp : Rep K H G S) {d : D} {v : V} {xs : List PyData} (e : lstOf S d = some xs) (h : Den K H G d v) : ∃ a vs, v = .ref a ∧ H a = some (.lst vs) ∧ DnAll K G.φ H xs vs := by
  cases d with
  | p x =>
    cases x with
    | list l =>
      cases e
      obtain ⟨a, vs, rfl, f, t⟩ := den_lst h
      exact ⟨a, vs, rfl, f H rp.phi, t⟩
    | _ => cases e
  | ob i =>
    simp only [lstOf] at e
    split at e
    · rename_i ks ei
      cases e
      obtain ⟨a, rfl, ha⟩ := h
      obtain ⟨vs, e1, t⟩ := rp.ok i a _ ha ei
      exact ⟨a, vs, rfl, e1, t⟩
    · cases e
  | ro _ => cases e
  | ext _ => cases e
theorem seqOf_den (rp : Rep K H G S) {d : D} {v : V} {xs : List PyData} (e : seqOf S d = some xs) (h : Den K H G d v) : ∃ a vs, v = .ref a ∧ (SqL K H a vs ∨ SqT K H a vs) ∧ DnAll K G.φ H xs vs := by
  cases d with
  | p x =>
    cases x with
    | list l =>
      cases e
      obtain ⟨a, vs, rfl, f, t⟩ := den_lst h
      exact ⟨a, vs, rfl, .inl (SqL.of (f H rp.phi)), t⟩
    | tuple l =>
      cases e
      obtain ⟨a, vs, rfl, f, t⟩ := den_tup h
      exact ⟨a, vs, rfl, .inr f, t⟩
    | _ => cases e
  | ob i =>
    simp only [seqOf] at e
    split at e
    · rename_i ks ei
      cases e
      obtain ⟨a, rfl, ha⟩ := h
      obtain ⟨vs, e1, t⟩ := rp.ok i a _ ha ei
      exact ⟨a, vs, rfl, .inl (SqL.of e1), t⟩
    · cases e
  | ro l =>
    cases e
    obtain ⟨a, vs, rfl, f, t⟩ := h
    exact ⟨a, vs, rfl, .inl (f H rp.phi), t⟩
  | ext _ => cases e
end

theorem atI_dn {K : PySem.W.Frag} {φ : List (Addr × HO)} {H : Hp} {xs : List PyData} {vs : List V} {i : Int} {d : PyData} (t : DnAll K φ H xs vs) (e : atI xs i = some d) : ∃ v, atI vs i = some v ∧ Dn K φ H d v := by
  unfold atI at e ⊢
  rw [← t.length]
  cases q : ixN xs.length i with
  | none => rw [q] at e; cases e
  | some j =>
    rw [q] at e
    exact t.get e
def opSubs : D → D → M D := fun x y S => match y with
  | .p (.int i) => match x with
    | .p (.str z) => if z.length ≤ LIM then (match atI z.cps.toList i with
      | some c => .ok (.p (.str ⟨#[c]⟩)) S
      | none => .bad) else .bad
    | x => match seqOf S x with
      | some xs => (match atI xs i with
        | some d => .ok (.p d) S
        | none => .bad)
      | none => match dicOf S x with
        | some kvs => (match valD kvs (.inl i) with
          | some d => .ok (.p d) S
          | none => .bad)
        | none => .bad
  | .p (.str k) => match dicOf S x with
    | some kvs => (match valD kvs (.inr k) with
      | some d => .ok (.p d) S
      | none => .bad)
    | none => .bad
  | _ => .bad
def rIxDic : R2 := fun x y H Q => ∃ a v, x = .ref a ∧ DGet H a y (some v) ∧ Q v H
section
variable {X : Cx} {W : WX} {a b : Expr} {f h : FE} {pos : Pos}
theorem ix_dic (hu : X.A.units + 1 < cLine) : IxR X rIxDic := by
  intro value slice pins s σ H x y v u Q I rx ry q hs
  obtain ⟨a, w, rfl, g, q⟩ := q
  cases rx
  exact PyProof.Rows.tail_any (dict_typeIs I g) PySem.F.slot_dict_getitem.lookup (d_getItem hu I g ry fun w' s3 I3 rw' => ⟨w, H, I3, rw', q⟩) hs
theorem sim_subs {K : PySem.W.Frag} : Sim2 K (fun x y H Q => rIx K x y H Q ∨ rIxDic x y H Q) opSubs := by
  intro W σ H G S x y v w Q rp dx dy q
  unfold opSubs at q
  split at q
  · rename_i i
    obtain rfl := den_int dy
    split at q
    · rename_i z
      obtain rfl := den_str dx
      by_cases hz : z.length ≤ LIM
      · rw [if_pos hz] at q
        split at q
        · rename_i c e
          exact .inl (.inr (.inr ⟨z, i, c, rfl, rfl, Nat.le_trans hz LIM_le, e, q.ret rp (.str _)⟩))
        · exact q.elim
      · rw [if_neg hz] at q; exact q.elim
    · split at q
      · rename_i xs es
        obtain ⟨a, vs, rfl, hq, t⟩ := seqOf_den rp es dx
        split at q
        · rename_i d e
          obtain ⟨v, e1, dv⟩ := atI_dn t e
          rcases hq with hq | hq
          · exact .inl (.inl ⟨a, vs, i, v, rfl, rfl, hq, e1, q.ret rp dv⟩)
          · exact .inl (.inr (.inl ⟨a, vs, i, v, rfl, rfl, hq, e1, q.ret rp dv⟩))
        · exact q.elim
      · split at q
        · rename_i kvs es
          obtain ⟨a, ws, rfl, hH, r⟩ := dicOf_den rp es dx
          split at q
          · rename_i d e
            obtain ⟨v, e1, dv⟩ := (r.val (k := .inl i)).1 d e
            refine .inr ⟨a, v, rfl, ?_, q.ret rp dv⟩
            rw [← e1]; exact .inl ⟨ws, Sum.inl i, hH, rfl, rfl⟩
          · exact q.elim
        · exact q.elim
  · rename_i k
    obtain rfl := den_str dy
    split at q
    · rename_i kvs es
      obtain ⟨a, ws, rfl, hH, r⟩ := dicOf_den rp es dx
      split at q
      · rename_i d e
        obtain ⟨v, e1, dv⟩ := (r.val (k := .inr k)).1 d e
        refine .inr ⟨a, v, rfl, ?_, q.ret rp dv⟩
        rw [← e1]; exact .inl ⟨ws, Sum.inr k, hH, rfl, rfl⟩
      · exact q.elim
    · exact q.elim
  · exact q.elim
theorem de_subs (hu : X.A.units + 1 < cLine) (ha : DE X W a f) (hb : DE X W b h) (hs : PlainIx b := by exact fun _ _ => rfl) : DE X W (.Subscript a b pos) (e2 opSubs f h) :=
  de_ix (ix_seq.or (ix_dic hu)) sim_subs ha hb hs

def flatP : PyData → Bool
  | .none => true
  | .bool _ => true
  | .int _ => true
  | .str _ => true
  | _ => false
def eqP : PyData → PyData → Bool
  | .none, .none => true
  | .bool a, .bool b => a == b
  | .bool a, .int b => (if a then 1 else 0) == b
  | .int a, .bool b => a == (if b then 1 else 0)
  | .int a, .int b => a == b
  | .str a, .str b => a == b
  | _, _ => false
def inP (x : PyData) (xs : List PyData) : Bool := xs.any fun y => eqP y x
theorem flat_dn {K : PySem.W.Frag} {φ : List (Addr × HO)} {H : Hp} {d : PyData} {v : V} (f : flatP d = true) (h : Dn K φ H d v) : flatV v = true := by
  cases h <;> first | rfl | cases f
theorem eq_dn {K : PySem.W.Frag} {φ : List (Addr × HO)} {H : Hp} {d e : PyData} {v w : V} (f : flatP d = true) (g : flatP e = true) (h : Dn K φ H d v) (k : Dn K φ H e w) : eqV v w = eqP d e := by
  cases h <;> first | exact absurd (show false = true from f) Bool.false_ne_true | (cases k <;> first | exact absurd (show false = true from g) Bool.false_ne_true | rfl)
theorem flat_all {K : PySem.W.Frag} {φ : List (Addr × HO)} {H : Hp} : ∀ {ds : List PyData} {vs : List V}, ds.all flatP = true → DnAll K φ H ds vs → vs.all flatV = true
  | _, _, _, .nil => rfl
  | _, _, f, .cons h t => by
    rw [List.all_cons, Bool.and_eq_true] at f ⊢
    exact ⟨flat_dn f.1 h, flat_all f.2 t⟩
theorem in_all {K : PySem.W.Frag} {φ : List (Addr × HO)} {H : Hp} {x : PyData} {v : V} (fx : flatP x = true) (hx : Dn K φ H x v) : ∀ {ds : List PyData} {vs : List V}, ds.all flatP = true → DnAll K φ H ds vs → inV v vs = inP x ds
  | _, _, _, .nil => rfl
  | _, _, f, .cons h t => by
    rw [List.all_cons, Bool.and_eq_true] at f
    show (eqV _ v || inV v _) = (eqP _ x || inP x _)
    rw [eq_dn f.1 fx h hx, in_all fx hx f.2 t]
/-- a text within a text -/
def inStr (i j : Str) : Bool := !(Builtin.Str.occurrences j i 0 j.length 1).isEmpty
def opIn (neg : Bool) : D → D → M D := fun x y S => match x with
  | .p a => match y, a with
    | .p (.str j), .str i => .ok (.p (.bool (if neg then !inStr i j else inStr i j))) S
    | y, a => match seqOf S y with
      | some xs => if flatP a && xs.all flatP then .ok (.p (.bool (if neg then !inP a xs else inP a xs))) S else .bad
      | none => match dicOf S y, pyKey a with
        | some kvs, some k => .ok (.p (.bool (if neg then !(valD kvs k).isSome else (valD kvs k).isSome))) S
        | _, _ => .bad
  | _ => .bad
def rInD (K : PySem.W.Frag) (neg : Bool) : R2 := fun x y H Q => (∃ i j, x = .str i ∧ y = .str j ∧ Q (.bl (if neg then !inStr i j else inStr i j)) H) ∨ rIn K neg x y H Q ∨ ∃ a ov, y = .ref a ∧ DGet H a x ov ∧ Q (.bl (if neg then !ov.isSome else ov.isSome)) H
theorem sim_in {K : PySem.W.Frag} (neg : Bool) : Sim2 K (rInD K neg) (opIn neg) := by
  intro W σ H G S x y v w Q rp dx dy q
  unfold opIn at q
  split at q
  · rename_i a
    split at q
    · rename_i j i
      obtain rfl := den_str dx
      obtain rfl := den_str dy
      exact .inl ⟨i, j, rfl, rfl, q.ret rp (.bl _)⟩
    · split at q
      · rename_i xs es
        by_cases hc : (flatP a && xs.all flatP) = true
        · rw [if_pos hc] at q
          rw [Bool.and_eq_true] at hc
          obtain ⟨b, vs, rfl, hq, t⟩ := seqOf_den rp es dy
          refine .inr (.inl ⟨b, vs, rfl, hq, flat_dn hc.1 dx, flat_all hc.2 t, ?_⟩)
          rw [in_all hc.1 dx hc.2 t]
          exact q.ret rp (.bl _)
        · rw [if_neg hc] at q; exact q.elim
      · split at q
        · rename_i kvs k es ek
          obtain ⟨b, ws, rfl, hH, r⟩ := dicOf_den rp es dy
          have ea := keyPy_of ek
          subst ea
          have ev : v = kV k := by
            cases k with
            | inl i => exact den_int dx
            | inr z => exact den_str dx
          subst ev
          have e1 : (valV ws k).isSome = (valD kvs k).isSome := by
            cases e : valD kvs k with
            | none => rw [(r.val (k := k)).2 e]; rfl
            | some d => obtain ⟨u, e1, _⟩ := (r.val (k := k)).1 d e; rw [e1]; rfl
          refine .inr (.inr ⟨b, valV ws k, rfl, .inl ⟨ws, k, hH, rfl, rfl⟩, ?_⟩)
          rw [e1]
          exact q.ret rp (.bl _)
        · exact q.elim
  · exact q.elim
theorem op_inD (hu : X.A.units + 1 < cLine) : OpR X (compareOp .In) (rInD X.K false) := by
  intro pins s σ H x y v u Q I rx ry q
  rcases q with q | q | ⟨a, ov, rfl, g, q⟩
  · exact op_in_str pins s σ H x y v u Q I rx ry q
  · exact op_in_seq pins s σ H x y v u Q I rx ry q
  · cases ry
    exact d_in hu I g rx fun s3 I3 => ⟨.bl ov.isSome, H, I3, rfl, q⟩
theorem op_notInD (hu : X.A.units + 1 < cLine) : OpR X (compareOp .NotIn) (rInD X.K true) := by
  intro pins s σ H x y v u Q I rx ry q
  rcases q with q | q | ⟨a, ov, rfl, g, q⟩
  · exact L2.op_notIn_str pins s σ H x y v u Q I rx ry q
  · exact op_notIn_seq pins s σ H x y v u Q I rx ry q
  · cases ry
    exact d_notIn hu I g rx fun s3 I3 => ⟨.bl (!ov.isSome), H, I3, rfl, q⟩
theorem de_in (hu : X.A.units + 1 < cLine) (ha : DE X W a f) (hb : DE X W b h) (hm : behindInMarks .In b = false := by rfl) : DE X W (.Compare a [.In] [b] pos) (e2 (opIn false) f h) := de_cmp (op_inD hu) (sim_in false) ha hb hm
theorem de_notIn (hu : X.A.units + 1 < cLine) (ha : DE X W a f) (hb : DE X W b h) (hm : behindInMarks .NotIn b = false := by rfl) : DE X W (.Compare a [.NotIn] [b] pos) (e2 (opIn true) f h) := de_cmp (op_notInD hu) (sim_in true) ha hb hm
end

def tru (S : Sto) : D → Option Bool
  | .p .none => some false
  | .p (.bool b) => some b
  | .p (.int i) => some (i != 0)
  | .p (.str x) => if x.length ≤ LIM then some ((x.length : Int) != 0) else none
  | .p (.list xs) => some (!xs.isEmpty)
  | .p (.tuple xs) => some (!xs.isEmpty)
  | .p (.dict _) => none
  | .ro xs => some (!xs.isEmpty)
  | .ob i => match S[i]? with
    | some (.lst l) => some (!l.isEmpty)
    | some (.dic l) => some (!l.isEmpty)
    | _ => none
  | .ext _ => none
theorem DnAll.isEmpty {K : PySem.W.Frag} {φ : List (Addr × HO)} {H : Hp} {ds : List PyData} {vs : List V} (h : DnAll K φ H ds vs) : vs.isEmpty = ds.isEmpty := by cases h <;> rfl
theorem KvR.isEmpty {K : PySem.W.Frag} {φ : List (Addr × HO)} {H : Hp} {ds : List (Key × PyData)} {vs : List (Key × V)} (h : KvR K φ H ds vs) : vs.isEmpty = ds.isEmpty := by
  have := h.length
  cases ds <;> cases vs <;> first | rfl | (simp at this)
theorem tru_den {K : PySem.W.Frag} {H : Hp} {G : Gh} {S : Sto} (rp : Rep K H G S) {d : D} {v : V} {b : Bool} (e : tru S d = some b) (h : Den K H G d v) : TruV K v H b := by
  cases d with
  | p x =>
    cases x with
    | none => cases e; rw [den_none h]; rfl
    | bool c => cases e; rw [den_bool h]; rfl
    | int i => cases e; rw [den_int h]; rfl
    | str z =>
      simp only [tru] at e
      by_cases hz : z.length ≤ LIM
      · rw [if_pos hz] at e; cases e; rw [den_str h]; exact ⟨Nat.le_trans hz LIM_le, rfl⟩
      · rw [if_neg hz] at e; cases e
    | list l =>
      cases e
      obtain ⟨a, vs, rfl, f, t⟩ := den_lst h
      exact .inl ⟨vs, SqL.of (f H rp.phi), by rw [t.isEmpty]⟩
    | tuple l =>
      cases e
      obtain ⟨a, vs, rfl, f, t⟩ := den_tup h
      exact .inr (.inl ⟨vs, f, by rw [t.isEmpty]⟩)
    | dict l => cases e
  | ro l =>
    cases e
    obtain ⟨a, vs, rfl, f, t⟩ := h
    exact .inl ⟨vs, f H rp.phi, by rw [t.isEmpty]⟩
  | ob i =>
    obtain ⟨a, rfl, ha⟩ := h
    simp only [tru] at e
    split at e
    · rename_i l ei
      cases e
      obtain ⟨vs, e1, t⟩ := rp.ok i a _ ha ei
      exact .inl ⟨vs, SqL.of e1, by rw [t.isEmpty]⟩
    · rename_i l ei
      cases e
      obtain ⟨ws, e1, e2, t⟩ := rp.ok i a _ ha ei
      exact .inr (.inr ⟨ws, e1, by rw [KvR.isEmpty ⟨e2, t⟩]⟩)
    · cases e
  | ext _ => cases e
def truM : D → M Bool := fun d S => match tru S d with
  | some b => .ok b S
  | none => .bad
def tVal (f : FE) : FT := fun ρ S => (f ρ S).bind truM
def tAndD (f g : FT) : FT := fun ρ S => (f ρ S).bind fun b S1 => if b = true then g ρ S1 else .ok false S1
def tOrD (f g : FT) : FT := fun ρ S => (f ρ S).bind fun b S1 => if b = true then .ok true S1 else g ρ S1
def tNotD (f : FT) : FT := fun ρ S => (f ρ S).bind fun b S1 => .ok (!b) S1
def eIf (t : FT) (f g : FE) : FE := fun ρ S => (t ρ S).bind fun b S1 => if b = true then f ρ S1 else g ρ S1
def eAnd (f g : FE) : FE := fun ρ S => (f ρ S).bind fun d S1 => (truM d S1).bind fun b S2 => if b = true then g ρ S2 else .ok d S2
def eOr (f g : FE) : FE := fun ρ S => (f ρ S).bind fun d S1 => (truM d S1).bind fun b S2 => if b = true then .ok d S2 else g ρ S2
def eNot (f : FE) : FE := fun ρ S => (f ρ S).bind fun d S1 => (truM d S1).bind fun b S2 => .ok (.p (.bool (!b))) S2
section
variable {X : Cx} {W : WX} {a b c : Expr} {rest : List Expr} {f g : FE} {t u : FT} {pos : Pos}
theorem dt_val (ha : DE X W a f) (he : ∀ whole, isTrue a X.env whole = (do let v ← whole; standAt a.pos; holding [v] (truthy v)) := by intro _; rfl) : DT X W a (tVal f) := by
  refine ⟨PT.imp (pt_truth ha.run he) fun σ H Q ⟨G, S, ρ, rs, rp, q⟩ => ?_⟩
  refine ⟨G, S, ρ, rs, rp, (Aft.bind q).mono fun d H1 G1 S1 x1 r1 q1 v dv => ?_⟩
  unfold truM at q1
  split at q1
  · rename_i b e
    exact ⟨b, tru_den r1 e dv, q1 H1 G1 Ext.refl r1⟩
  · exact q1.elim
/-- a comparison as a test -/
theorem dt_cmp {op : CmpOp} {r : R2} {g2 : D → D → M D} (o : OpR X (compareOp op) r) (m : Sim2 X.K r g2) (ha : DE X W a f) (hb : DE X W b g) (hm : behindInMarks op b = false) : DT X W (.Compare a [op] [b] pos) (fun ρ S => (e2 g2 f g ρ S).bind fun d S1 => match d with | .p (.bool c) => .ok c S1 | _ => .bad) := by
  refine ⟨PT.imp (pt_cmpR o ha.run hb.run hm) fun σ H Q ⟨G, S, ρ, rs, rp, q⟩ => ?_⟩
  refine sim_op m ⟨G, S, ρ, rs, rp, (Aft.bind q).mono fun d H1 G1 S1 x1 r1 q1 v dv => ?_⟩
  split at q1
  · rename_i c
    exact ⟨c, den_bool dv, q1 H1 G1 Ext.refl r1⟩
  · exact q1.elim
theorem dt_and1 (ha : DT X W a t) : PW X (.BoolOp .And [a] pos) (rdT X.K W t) := pw_and1 ha.run
theorem dt_or1 (ha : DT X W a t) : PW X (.BoolOp .Or [a] pos) (rdT X.K W t) := pw_or1 ha.run
theorem PW.imp {e : Expr} {t t' : TT} (h : PW X e t) (i : ∀ σ H Q, t' σ H Q → t σ H Q) : PW X e t' := ⟨fun wh pins s σ H Q I q => h.run wh pins s σ H Q I (i σ H Q q)⟩
theorem dw_and (ha : DT X W a t) (hb : PW X (.BoolOp .And (b :: rest) pos) (rdT X.K W u)) : PW X (.BoolOp .And (a :: b :: rest) pos) (rdT X.K W (tAndD t u)) := by
  refine PW.imp (pw_and ha.run hb) fun σ H Q ⟨G, S, ρ, rs, rp, q⟩ => ?_
  refine ⟨G, S, ρ, rs, rp, (Aft.bind q).mono fun c H1 G1 S1 x1 r1 q1 => ?_⟩
  cases c with
  | true => exact ⟨G1, S1, ρ, x1.relS rp rs, r1, q1⟩
  | false => exact q1 H1 G1 Ext.refl r1
theorem dw_or (ha : DT X W a t) (hb : PW X (.BoolOp .Or (b :: rest) pos) (rdT X.K W u)) : PW X (.BoolOp .Or (a :: b :: rest) pos) (rdT X.K W (tOrD t u)) := by
  refine PW.imp (pw_or ha.run hb) fun σ H Q ⟨G, S, ρ, rs, rp, q⟩ => ?_
  refine ⟨G, S, ρ, rs, rp, (Aft.bind q).mono fun c H1 G1 S1 x1 r1 q1 => ?_⟩
  cases c with
  | false => exact ⟨G1, S1, ρ, x1.relS rp rs, r1, q1⟩
  | true => exact q1 H1 G1 Ext.refl r1
theorem dt_bool (h : PW X a (rdT X.K W t)) : DT X W a t := ⟨h.pt⟩
theorem dt_not (ha : DT X W a t) : DT X W (.UnaryOp .Not a pos) (tNotD t) := by
  refine ⟨PT.imp (pt_not ha.run) fun σ H Q ⟨G, S, ρ, rs, rp, q⟩ => ?_⟩
  exact ⟨G, S, ρ, rs, rp, (Aft.bind q).mono fun c H1 G1 S1 x1 r1 q1 => q1 H1 G1 Ext.refl r1⟩
theorem de_if (hc : DT X W c t) (ha : DE X W a f) (hb : DE X W b g) : DE X W (.IfExp c a b pos) (eIf t f g) := by
  refine ⟨PE.imp (pe_ifExp hc.run ha.run hb.run) fun σ H Q ⟨G, S, ρ, rs, rp, q⟩ => ?_⟩
  refine ⟨G, S, ρ, rs, rp, (Aft.bind q).mono fun c H1 G1 S1 x1 r1 q1 => ?_⟩
  cases c with
  | true => exact ⟨G1, S1, ρ, x1.relS rp rs, r1, q1⟩
  | false => exact ⟨G1, S1, ρ, x1.relS rp rs, r1, q1⟩
theorem de_one {op} (h : DE X W a f) : DE X W (.BoolOp op [a] pos) f := ⟨pe_one h.run⟩
theorem de_and (ha : DE X W a f) (hb : DE X W (.BoolOp .And (b :: rest) pos) g) : DE X W (.BoolOp .And (a :: b :: rest) pos) (eAnd f g) := by
  refine ⟨PE.imp (pe_andT ha.run hb.run) fun σ H Q ⟨G, S, ρ, rs, rp, q⟩ => ?_⟩
  refine ⟨G, S, ρ, rs, rp, (Aft.bind q).mono fun d H1 G1 S1 x1 r1 q1 v dv => ?_⟩
  unfold truM at q1
  split at q1
  · rename_i b e
    refine ⟨b, tru_den r1 e dv, ?_⟩
    cases b with
    | true => exact ⟨G1, S1, ρ, x1.relS rp rs, r1, q1⟩
    | false => exact Aft.ret q1 r1 dv
  · exact q1.elim
theorem de_or (ha : DE X W a f) (hb : DE X W (.BoolOp .Or (b :: rest) pos) g) : DE X W (.BoolOp .Or (a :: b :: rest) pos) (eOr f g) := by
  refine ⟨PE.imp (pe_orT ha.run hb.run) fun σ H Q ⟨G, S, ρ, rs, rp, q⟩ => ?_⟩
  refine ⟨G, S, ρ, rs, rp, (Aft.bind q).mono fun d H1 G1 S1 x1 r1 q1 v dv => ?_⟩
  unfold truM at q1
  split at q1
  · rename_i b e
    refine ⟨b, tru_den r1 e dv, ?_⟩
    cases b with
    | false => exact ⟨G1, S1, ρ, x1.relS rp rs, r1, q1⟩
    | true => exact Aft.ret q1 r1 dv
  · exact q1.elim
theorem de_not (ha : DE X W a f) : DE X W (.UnaryOp .Not a pos) (eNot f) := by
  refine ⟨PE.imp (pe_notT ha.run) fun σ H Q ⟨G, S, ρ, rs, rp, q⟩ => ?_⟩
  refine ⟨G, S, ρ, rs, rp, (Aft.bind q).mono fun d H1 G1 S1 x1 r1 q1 v dv => ?_⟩
  unfold truM at q1
  split at q1
  · rename_i b e
    exact ⟨b, tru_den r1 e dv, Aft.ret q1 r1 (.bl _)⟩
  · exact q1.elim
/-- the test of a comparison, by the comparison's data -/
def tC2 (g2 : D → D → M D) (f g : FE) : FT := fun ρ S => (e2 g2 f g ρ S).bind fun d S1 => match d with | .p (.bool c) => .ok c S1 | _ => .bad
theorem dt_eq (hu : X.A.units + 64 < cLine) (ha : DE X W a f) (hb : DE X W b g) : DT X W (.Compare a [.Eq] [b] pos) (tC2 (opEq false) f g) := dt_cmp (op_eqD hu) sim_eq ha hb (nomark _)
theorem dt_ne (hu : X.A.units + 64 < cLine) (ha : DE X W a f) (hb : DE X W b g) : DT X W (.Compare a [.NotEq] [b] pos) (tC2 (opEq true) f g) := dt_cmp (op_neD hu) sim_ne ha hb (nomark _)
theorem dt_lt (ha : DE X W a f) (hb : DE X W b g) : DT X W (.Compare a [.Lt] [b] pos) (tC2 opLt f g) := dt_cmp op_lt sim_cmp ha hb (nomark _)
theorem dt_le (ha : DE X W a f) (hb : DE X W b g) : DT X W (.Compare a [.LtE] [b] pos) (tC2 opLe f g) := dt_cmp op_le sim_cmp ha hb (nomark _)
theorem dt_gt (ha : DE X W a f) (hb : DE X W b g) : DT X W (.Compare a [.Gt] [b] pos) (tC2 opGt f g) := dt_cmp op_gt sim_cmp ha hb (nomark _)
theorem dt_ge (ha : DE X W a f) (hb : DE X W b g) : DT X W (.Compare a [.GtE] [b] pos) (tC2 opGe f g) := dt_cmp op_ge sim_cmp ha hb (nomark _)
theorem dt_isN (ha : DE X W a f) (hb : DE X W b g) : DT X W (.Compare a [.Is] [b] pos) (tC2 (opIsN false) f g) := dt_cmp op_isN sim_isN ha hb (nomark _)
theorem dt_notN (ha : DE X W a f) (hb : DE X W b g) : DT X W (.Compare a [.IsNot] [b] pos) (tC2 (opIsN true) f g) := dt_cmp op_notN sim_notN ha hb (nomark _)
theorem dt_in (hu : X.A.units + 1 < cLine) (ha : DE X W a f) (hb : DE X W b g) (hm : behindInMarks .In b = false := by rfl) : DT X W (.Compare a [.In] [b] pos) (tC2 (opIn false) f g) := dt_cmp (op_inD hu) (sim_in false) ha hb hm
theorem dt_notIn (hu : X.A.units + 1 < cLine) (ha : DE X W a f) (hb : DE X W b g) (hm : behindInMarks .NotIn b = false := by rfl) : DT X W (.Compare a [.NotIn] [b] pos) (tC2 (opIn true) f g) := dt_cmp (op_notInD hu) (sim_in true) ha hb hm
end
end DL

namespace DL
open PySem L2

def Out.st {α : Type} (o : Out α) (ρ : Ev) (k : α → Sto → Option (Fl × Sto)) : Option (Fl × Sto) :=
  match o with
  | .ok a s => k a s
  | .err x s => some (.exc x ρ, s)
  | .bad => none
@[simp] theorem Out.st_ok {α : Type} (a : α) (s : Sto) (ρ : Ev) (k : α → Sto → Option (Fl × Sto)) : (Out.ok a s).st ρ k = k a s := rfl
@[simp] theorem Out.st_err {α : Type} (x : Exn) (s : Sto) (ρ : Ev) (k : α → Sto → Option (Fl × Sto)) : (Out.err x s : Out α).st ρ k = some (.exc x ρ, s) := rfl
@[simp] theorem Out.st_bad {α : Type} (ρ : Ev) (k : α → Sto → Option (Fl × Sto)) : (Out.bad : Out α).st ρ k = none := rfl
section
variable {K : PySem.W.Frag} {W : WX} {E : Ends} {H : Hp} {G : Gh} {S : Sto} {σ : St} {ρ : Ev}
theorem AftS.st {α : Type} {o : Out α} {k : α → Sto → Option (Fl × Sto)} (h : AftS K W E H G S (o.st ρ k)) (rs : RelS K H G ρ σ) (rp : Rep K H G S) : Aft K W σ H G S o fun a H1 G1 S1 => AftS K W E H1 G1 S1 (k a S1) := by
  cases o with
  | ok a S1 => exact fun H1 G1 x1 _ => AftS.ext (show AftS K W E H G S (k a S1) from h) x1
  | err x S1 => exact fun H1 G1 d x1 r1 e => h H1 G1 σ d x1 r1 (x1.relS rp rs) e
  | bad => exact h
theorem AftS.next {ρ' : Ev} {S' : Sto} (h : AftS K W E H G S (some (.next ρ', S'))) {H' : Hp} {G' : Gh} {σ' : St} (x : Ext H G S H' G' S') (r : Rep K H' G' S') (s : RelS K H' G' ρ' σ') : E.nx σ' H' := h H' G' σ' x r s
end

def sNext : FS := fun ρ S => some (.next ρ, S)
def sSeq (f g : FS) : FS := fun ρ S => match f ρ S with
  | some (.next ρ', S') => g ρ' S'
  | o => o
def sExpr (f : FE) : FS := fun ρ S => (f ρ S).st ρ fun _ S1 => some (.next ρ, S1)
def sRet (f : FE) : FS := fun ρ S => (f ρ S).st ρ fun d S1 => some (.ret d, S1)
def sSet (i : Nat) (f : FE) : FS := fun ρ S => (f ρ S).st ρ fun d S1 => some (.next (ρ.set i (some d)), S1)
def sIf (t : FT) (f g : FS) : FS := fun ρ S => (t ρ S).st ρ fun b S1 => if b = true then f ρ S1 else g ρ S1
section
variable {X : Cx} {W : WX} {e c : Expr} {st : Stmt} {sts as bs : List Stmt} {f : FE} {g h : FS} {t : FT} {pos : Pos}
theorem dss_nil : DSs X W [] sNext := ⟨PSs.imp pss_nil fun E σ H ⟨G, S, ρ, rs, rp, q⟩ => AftS.next q Ext.refl rp rs⟩
theorem AftS.seq {K : PySem.W.Frag} {E : Ends} {H : Hp} {G : Gh} {S : Sto} {ρ : Ev} (q : AftS K W E H G S (sSeq g h ρ S)) (rp : Rep K H G S) : AftS K W { E with nx := rdS K W h E } H G S (g ρ S) := by
  unfold sSeq at q
  cases eo : g ρ S with
  | none => rw [eo] at q; exact q
  | some p =>
    obtain ⟨fl, S1⟩ := p
    rw [eo] at q
    cases fl with
    | next ρ1 => exact fun H1 G1 σ1 x1 r1 s1 => ⟨G1, S1, ρ1, s1, r1, AftS.ext q x1⟩
    | ret d => exact q
    | brk ρ1 => exact q
    | cont ρ1 => exact q
    | exc x ρ1 => exact q
theorem dss_cons (h1 : DS X W st g) (h2 : DSs X W sts h) : DSs X W (st :: sts) (sSeq g h) :=
  ⟨PSs.imp (pss_cons h1.run h2.run) fun E σ H ⟨G, S, ρ, rs, rp, q⟩ => ⟨G, S, ρ, rs, rp, AftS.seq q rp⟩⟩
theorem dss_one (h1 : DS X W st g) : DSs X W [st] g := ⟨pss_one h1.run⟩
theorem ds_expr (he : DE X W e f) (hs : swapsWith e none pos.line X.env = pure false := by rfl) : DS X W (.Expr e pos) (sExpr f) :=
  ⟨PS.imp (ps_expr he.run hs) fun E σ H ⟨G, S, ρ, rs, rp, q⟩ => ⟨G, S, ρ, rs, rp, (AftS.st q rs rp).mono fun d H1 G1 S1 x1 r1 q1 v dv => AftS.next q1 Ext.refl r1 (x1.relS rp rs)⟩⟩
theorem ds_ret (he : DE X W e f) : DS X W (.Return (some e) pos) (sRet f) :=
  ⟨PS.imp (ps_ret he.run) fun E σ H ⟨G, S, ρ, rs, rp, q⟩ => ⟨G, S, ρ, rs, rp, (AftS.st q rs rp).mono fun d H1 G1 S1 x1 r1 q1 v dv => q1 H1 G1 v Ext.refl r1 dv⟩⟩
theorem ds_retN : DS X W (.Return none pos) (sRet (eC (.p .none))) :=
  ⟨PS.imp ps_retN fun E σ H ⟨G, S, ρ, rs, rp, q⟩ => q H G _ Ext.refl rp .non⟩
theorem ds_set {i : Nat} {x : Str} {pos' : Pos} (hN : X.N.Nodup) (hi : X.N[i]? = some x) (hx : Loc X.env.scope x) (he : DE X W e f) (hs : swapsWith e (some (.Name x pos')) pos.line X.env = pure false := by rfl)
    (hf : X.fn x = true ∨ X.env.scope.names.lookup x = some .local := by first | exact .inl rfl | exact .inr rfl | assumption) : DS X W (.Assign [.Name x pos'] e pos) (sSet i f) :=
  ⟨PS.imp (ps_set hN hi hx he.run hs hf) fun E σ H ⟨G, S, ρ, rs, rp, q⟩ => ⟨G, S, ρ, rs, rp, (AftS.st q rs rp).mono fun d H1 G1 S1 x1 r1 q1 v dv => AftS.next q1 Ext.refl r1 ((x1.relS rp rs).set dv i)⟩⟩
theorem ds_if (hc : DT X W c t) (ha : DSs X W as g) (hb : DSs X W bs h) : DS X W (.If c as bs pos) (sIf t g h) := by
  refine ⟨PS.imp (ps_if hc.run ha.run hb.run) fun E σ H ⟨G, S, ρ, rs, rp, q⟩ => ⟨G, S, ρ, rs, rp, (AftS.st q rs rp).mono fun b H1 G1 S1 x1 r1 q1 => ?_⟩⟩
  cases b with
  | true => exact ⟨G1, S1, ρ, x1.relS rp rs, r1, q1⟩
  | false => exact ⟨G1, S1, ρ, x1.relS rp rs, r1, q1⟩
theorem ds_never : DS X W st (fun _ _ => none) := ⟨PS.imp ps_never fun E σ H ⟨G, S, ρ, rs, rp, q⟩ => q.elim⟩
theorem ds_pass : DS X W (.Pass pos) sNext := ⟨PS.imp ps_pass fun E σ H ⟨G, S, ρ, rs, rp, q⟩ => AftS.next q Ext.refl rp rs⟩
theorem ds_cont : DS X W (.Continue pos) (fun ρ S => some (.cont ρ, S)) := ⟨PS.imp ps_continue fun E σ H ⟨G, S, ρ, rs, rp, q⟩ => q H G σ Ext.refl rp rs⟩
theorem ds_brk : DS X W (.Break pos) (fun ρ S => some (.brk ρ, S)) := ⟨PS.imp ps_break fun E σ H ⟨G, S, ρ, rs, rp, q⟩ => q H G σ Ext.refl rp rs⟩

def iceD (d : D) (S : Sto) : D × Sto := match d with
  | .ob j => match S[j]? with
    | some (.lst xs) => (.p (.list xs), S.set j .dead)
    | some (.dic kvs) => (.p (.dict (pyKv kvs)), S.set j .dead)
    | _ => (d, S)
  | _ => (d, S)
theorem ice_den {K : PySem.W.Frag} {H : Hp} {G : Gh} {S : Sto} {d : D} {v : V} (rp : Rep K H G S) (dv : Den K H G d v) : (∃ G', Ext H G S H G' (iceD d S).2 ∧ Rep K H G' (iceD d S).2 ∧ Den K H G' (iceD d S).1 v) ∨ ∃ a ws, H a = some (.dK ws) ∧ ∀ od, ∃ G', Ext H G S (upd H a (.frz od (.dK ws))) G' (iceD d S).2 ∧ Rep K (upd H a (.frz od (.dK ws))) G' (iceD d S).2 ∧ Den K (upd H a (.frz od (.dK ws))) G' (iceD d S).1 v := by
  unfold iceD
  cases d with
  | p x => exact .inl ⟨G, Ext.refl, rp, dv⟩
  | ro x => exact .inl ⟨G, Ext.refl, rp, dv⟩
  | ext x => exact .inl ⟨G, Ext.refl, rp, dv⟩
  | ob j =>
    obtain ⟨a, rfl, ha⟩ := id dv
    cases e : S[j]? with
    | none => simp only [e]; exact .inl ⟨G, Ext.refl, rp, dv⟩
    | some m =>
      cases m with
      | dead => simp only [e]; exact .inl ⟨G, Ext.refl, rp, dv⟩
      | lst xs =>
        simp only [e]
        obtain ⟨vs, e1, t⟩ := rp.ok j a _ ha e
        exact .inl ⟨⟨G.ι, (a, .lst vs) :: G.φ⟩, Ext.ice ha e (fun z => nomatch z), rp.ice ha e (fun z => nomatch z) e1, Dn.lst (fun _ q => q _ List.mem_cons_self) (t.mono (fun _ h => List.mem_cons_of_mem _ h) fun _ _ h => h)⟩
      | dic kvs =>
        simp only [e]
        obtain ⟨ws, e1, e2, t⟩ := rp.ok j a _ ha e
        refine .inr ⟨a, ws, e1, fun od => ?_⟩
        have x1 := Ext.chg (o := .frz od (.dK ws)) (m' := .dic kvs) rp ha e (fun z => nomatch z)
        have xt : ∀ b vs, SqT K H b vs → SqT K (upd H a (.frz od (.dK ws))) b vs := fun b vs => x1.tup rp
        have hlt : j < S.length := (List.getElem?_eq_some_iff.mp e).1
        have r1 : Rep K (upd H a (.frz od (.dK ws))) G (S.set j .dead) := rp.chg ha e (fun z => nomatch z) (by show upd H a _ a ≠ none; rw [upd_same]; exact fun z => nomatch z)
        have x2 : Ext H G S (upd H a (.frz od (.dK ws))) ⟨G.ι, (a, .frz od (.dK ws)) :: G.φ⟩ (S.set j .dead) := by
          have y := Ext.chg (o := .frz od (.dK ws)) (m' := .dead) rp ha e (fun z => nomatch z)
          exact ⟨y.pre, fun _ h => List.mem_cons_of_mem _ h, y.frame, y.fresh, y.iot, fun q h => by
            rcases List.mem_cons.mp h with e' | h
            · rw [e']; exact .inr (.inr ⟨j, _, ha, e, fun z => nomatch z⟩)
            · exact .inl h⟩
        have nl : ¬ Live G (S.set j .dead) a := fun ⟨i, u, h1, h2, h3⟩ => by
          by_cases ei : j = i
          · subst ei
            rw [List.getElem?_set_self hlt] at h2
            cases h2
            exact h3 rfl
          · exact ei (Rep.chg.nodup_ix' rp.nd ha h1)
        refine ⟨⟨G.ι, (a, .frz od (.dK ws)) :: G.φ⟩, x2, ⟨r1.len, r1.nd, fun i b mo h1 h2 => OkO.ext (G := G) (fun _ h => List.mem_cons_of_mem _ h) (fun _ _ h => h) (fun _ h => h) (r1.ok i b mo h1 h2), fun q hq => ?_, fun q hq l => ?_⟩, Dn.dicOf ⟨od, fun _ q => q _ List.mem_cons_self⟩ e2 (t.mono (fun _ h => List.mem_cons_of_mem _ h) xt)⟩
        · rcases List.mem_cons.mp hq with e' | hq
          · subst e'; exact upd_same
          · exact r1.phi q hq
        · rcases List.mem_cons.mp hq with e' | hq
          · subst e'; exact nl l
          · exact r1.pnl q hq l
def sIce (i : Nat) (f : FS) : FS := fun ρ S => match ρ[i]? with
  | some (some d) => f (ρ.set i (some (iceD d S).1)) (iceD d S).2
  | _ => none
theorem RelS.set' {K : PySem.W.Frag} {H : Hp} {G : Gh} {d : D} : ∀ {ρ : Ev} {σ : St} (i : Nat) {v : V}, σ[i]? = some (some v) → Den K H G d v → RelS K H G ρ σ → RelS K H G (ρ.set i (some d)) σ
  | _, _, _, _, e, _, .nil => .nil
  | _, _, 0, _, e, h, .cons _ t => .cons (by simp at e; subst e; exact h) t
  | _, _, i + 1, _, e, h, .cons r t => .cons r (RelS.set' i (by simpa using e) h t)
theorem dss_ice (i : Nat) (h1 : DSs X W sts g) : DSs X W sts (sIce i g) := by
  refine ⟨PSs.imp (PSs.lk h1.run) fun E σ H ⟨G, S, ρ, rs, rp, q⟩ => ?_⟩
  unfold sIce at q
  split at q
  · rename_i d e
    obtain ⟨v, h1, h2⟩ := rs.get e
    rcases ice_den rp h2 with ⟨G', x, r, dv⟩ | ⟨a, ws, ha, h⟩
    · exact .inl ⟨G', _, _, (x.relS rp rs).set' i h1 dv, r, AftS.ext q x⟩
    · refine .inr ⟨a, .dK ws, ha, trivial, fun od => ?_⟩
      obtain ⟨G', x, r, dv⟩ := h od
      exact ⟨G', _, _, (x.relS rp rs).set' i h1 dv, r, AftS.ext q x⟩
  · exact q.elim
/-- an expression's value frozen -/
def eIce (f : FE) : FE := fun ρ S => (f ρ S).bind fun d S1 => .ok (iceD d S1).1 (iceD d S1).2
theorem de_ice (he : DE X W e f) : DE X W e (eIce f) := by
  refine ⟨PE.imp (PE.lk he.run) fun σ H Q ⟨G, S, ρ, rs, rp, q⟩ => ⟨G, S, ρ, rs, rp, (Aft.bind q).mono fun d H1 G1 S1 x1 r1 q1 v dv => ?_⟩⟩
  rcases ice_den r1 dv with ⟨G', x, r, dv'⟩ | ⟨a, ws, ha, h⟩
  · exact .inl (q1 H1 G' x r v dv')
  · refine .inr ⟨a, .dK ws, ha, trivial, fun od => ?_⟩
    obtain ⟨G', x, r, dv'⟩ := h od
    exact q1 _ G' x r v dv'
end

abbrev FG := D → Ev → Sto → Option (Ev × Sto)
abbrev FGs := List D → Ev → Sto → Option (Ev × Sto)
def AftG (K : PySem.W.Frag) (H : Hp) (G : Gh) (S : Sto) (o : Option (Ev × Sto)) (P : Ev → Hp → Gh → Sto → Prop) : Prop :=
  match o with
  | none => False
  | some (ρ', S') => ∀ H' G', Ext H G S H' G' S' → Rep K H' G' S' → P ρ' H' G' S'
def rdG (K : PySem.W.Frag) (vs : List Nat) (g : FG) : TG := fun v σ H Q => ∃ G S ρ d, RelS K H G ρ σ ∧ Rep K H G S ∧ Den K H G d v ∧ AftG K H G S (g d ρ S) fun ρ' H' G' _ => ∀ σ', RelS K H' G' ρ' σ' → wipe σ' vs = wipe σ vs → Q σ' H'
def rdGs (K : PySem.W.Frag) (vs : List Nat) (g : FGs) : TGs := fun us σ H Q => ∃ G S ρ ds, RelS K H G ρ σ ∧ Rep K H G S ∧ DenL K H G ds us ∧ AftG K H G S (g ds ρ S) fun ρ' H' G' _ => ∀ σ', RelS K H' G' ρ' σ' → wipe σ' vs = wipe σ vs → Q σ' H'
/-- the target stores in the places vs alone -/
structure DG (X : Cx) (vs : List Nat) (tg : Expr) (g : FG) : Prop where
  run : PG X tg (rdG X.K vs g)
structure DGs (X : Cx) (vs : List Nat) (tgs : List Expr) (g : FGs) : Prop where
  run : PGs X tgs (rdGs X.K vs g)
theorem PG.imp {X : Cx} {tg : Expr} {t t' : TG} (h : PG X tg t) (i : ∀ v σ H Q, t' v σ H Q → t v σ H Q) : PG X tg t' := ⟨fun pins s σ H v u Q I r q => h.run pins s σ H v u Q I r (i v σ H Q q)⟩
theorem PGs.imp {X : Cx} {tg : List Expr} {t t' : TGs} (h : PGs X tg t) (i : ∀ v σ H Q, t' v σ H Q → t v σ H Q) : PGs X tg t' := ⟨fun pins s σ H v u Q I r q => h.run pins s σ H v u Q I r (i v σ H Q q)⟩
theorem wipe_set (σ : St) (i : Nat) (x : Option V) : ∀ vs : List Nat, i ∈ vs → wipe (σ.set i x) vs = wipe σ vs
  | [], h => by cases h
  | v :: vs, h => by
    show (wipe (σ.set i x) vs).set v none = (wipe σ vs).set v none
    by_cases hv : i ∈ vs
    · rw [wipe_set σ i x vs hv]
    · have e : i = v := by rcases List.mem_cons.mp h with e | e; exact e; exact absurd e hv
      subst e
      have : ∀ (l : List Nat), i ∉ l → wipe (σ.set i x) l = (wipe σ l).set i x := by
        intro l
        induction l with
        | nil => intro _; rfl
        | cons a l ih =>
          intro hl
          show (wipe (σ.set i x) l).set a none = ((wipe σ l).set a none).set i x
          rw [ih (fun z => hl (List.mem_cons_of_mem _ z)), List.set_comm _ _ (fun z => hl (by rw [z]; exact List.mem_cons_self))]
      rw [this vs hv, List.set_set]
theorem wipe_wipe (σ : St) (vs : List Nat) : wipe (wipe σ vs) vs = wipe σ vs := by
  have : ∀ (l vs : List Nat), (∀ a ∈ l, a ∈ vs) → wipe (wipe σ l) vs = wipe σ vs := by
    intro l
    induction l with
    | nil => intro vs _; rfl
    | cons a l ih =>
      intro vs h
      show wipe ((wipe σ l).set a none) vs = wipe σ vs
      rw [wipe_set _ a none vs (h a List.mem_cons_self)]
      exact ih vs fun b hb => h b (List.mem_cons_of_mem _ hb)
  exact this vs vs fun _ h => h
def gN (i : Nat) : FG := fun d ρ S => some (ρ.set i (some d), S)
def gNils : FGs := fun ds ρ S => match ds with
  | [] => some (ρ, S)
  | _ => none
def gConss (g : FG) (h : FGs) : FGs := fun ds ρ S => match ds with
  | d :: r => match g d ρ S with
    | some (ρ1, S1) => h r ρ1 S1
    | none => none
  | [] => none
/-- a tuple (list) of n things is taken apart -/
def gTupD (n : Nat) (h : FGs) : FG := fun d ρ S => match d with
  | .p (.tuple xs) => if xs.length = n then h (xs.map .p) ρ S else none
  | _ => none
def gLstD (n : Nat) (h : FGs) : FG := fun d ρ S => match lstOf S d with
  | some xs => if xs.length = n then h (xs.map .p) ρ S else none
  | none => none
theorem DnAll.denL {K : PySem.W.Frag} {G : Gh} {H : Hp} : ∀ {ds : List PyData} {vs : List V}, DnAll K G.φ H ds vs → DenL K H G (ds.map .p) vs
  | _, _, .nil => .nil
  | _, _, .cons h t => .cons h t.denL
theorem AftG.ext {K : PySem.W.Frag} {H H1 : Hp} {G G1 : Gh} {S S1 : Sto} {o : Option (Ev × Sto)} {P : Ev → Hp → Gh → Sto → Prop} (h : AftG K H G S o P) (x : Ext H G S H1 G1 S1) : AftG K H1 G1 S1 o P := by
  match o with
  | none => exact h
  | some (ρ', S') => exact fun H' G' x' => h H' G' (x.trans x')
theorem AftG.mono {K : PySem.W.Frag} {H : Hp} {G : Gh} {S : Sto} {o : Option (Ev × Sto)} {P P' : Ev → Hp → Gh → Sto → Prop} (h : AftG K H G S o P) (f : ∀ ρ' H' G' S', Ext H G S H' G' S' → Rep K H' G' S' → P ρ' H' G' S' → P' ρ' H' G' S') : AftG K H G S o P' := by
  match o with
  | none => exact h
  | some (ρ', S') => exact fun H' G' x' r => f ρ' H' G' S' x' r (h H' G' x' r)
/-- o[i] = v of a list, of a dict -/
def setD : D → D → D → Sto → Option Sto := fun o i v S => match o, v with
  | .ob j, .p d => match S[j]?, i with
    | some (.lst xs), .p (.int k) => match ixN xs.length k with
      | some n => some (S.set j (.lst (xs.set n d)))
      | none => none
    | some (.dic kvs), .p k => match pyKey k with
      | some k' => if kvs.length < LIM then some (S.set j (.dic (putD kvs k' d))) else none
      | none => none
    | _, _ => none
  | _, _ => none
def gSubD (f h : FE) : FG := fun d ρ S => match f ρ S with
  | .ok o S1 => match h ρ S1 with
    | .ok i S2 => match setD o i d S2 with
      | some S3 => some (ρ, S3)
      | none => none
    | _ => none
  | _ => none
def rSetD : V → V → V → Hp → (Hp → Prop) → Prop := fun o i v H Q => rSetL o i v H Q ∨ ∃ a H', o = .ref a ∧ DPut H a i v H' ∧ Q H'
section
variable {X : Cx} {W : WX} {e : Expr} {es : List Expr} {f : FE} {g : FG} {h : FGs} {pos : Pos} {vs : List Nat}
theorem dg_name {i : Nat} {x : Str} (hN : X.N.Nodup) (hi : X.N[i]? = some x) (hx : Loc X.env.scope x) (hv : i ∈ vs) (hf : X.fn x = true ∨ X.env.scope.names.lookup x = some .local := by first | exact .inl rfl | exact .inr rfl | assumption) : DG X vs (.Name x pos) (gN i) :=
  ⟨PG.imp (pg_name hN hi hx hf) fun v σ H Q ⟨G, S, ρ, d, rs, rp, dv, q⟩ => q H G Ext.refl rp _ (rs.set dv i) (wipe_set σ i _ vs hv)⟩
theorem dgs_nil : DGs X vs [] gNils := by
  refine ⟨PGs.imp pgs_nil fun us σ H Q ⟨G, S, ρ, ds, rs, rp, dv, q⟩ => ?_⟩
  cases dv with
  | nil => exact ⟨rfl, q H G Ext.refl rp σ rs rfl⟩
  | cons _ _ => exact q.elim
theorem dgs_cons (h1 : DG X vs e g) (h2 : DGs X vs es h) (hs : (assignEach (e :: es) X.env).map (·.2) = assign e X.env :: (assignEach es X.env).map (·.2) := by rfl) : DGs X vs (e :: es) (gConss g h) := by
  refine ⟨PGs.imp (pgs_cons h1.run h2.run hs) fun us σ H Q ⟨G, S, ρ, ds, rs, rp, dv, q⟩ => ?_⟩
  cases dv with
  | nil => exact q.elim
  | cons d1 d2 =>
    rename_i d ds v us _x
    refine ⟨_, _, rfl, G, S, ρ, d, rs, rp, d1, ?_⟩
    have q : AftG X.K H G S (match g d ρ S with | some (ρ1, S1) => h ds ρ1 S1 | none => none) _ := q
    cases eg : g d ρ S with
    | none => rw [eg] at q; exact q
    | some p =>
      obtain ⟨ρ1, S1⟩ := p
      rw [eg] at q
      exact fun H1 G1 x1 r1 σ1 rs1 w1 => ⟨G1, S1, ρ1, ds, rs1, r1, x1.denL rp d2, (q.ext x1).mono fun ρ2 H2 G2 S2 x2 r2 q2 σ2 rs2 w2 => q2 σ2 rs2 (w2.trans w1)⟩
theorem dg_tup {n k : Nat} (hc : X.calm = true) (hg : DGs X vs es h) (hn : (assignEach es X.env).length = n := by rfl) (hst : (assignEach es X.env).findIdx? (·.1) = none := by rfl) : DG X vs (.Tuple es k pos) (gTupD n h) := by
  refine ⟨PG.imp (pg_tup hc hg.run hn hst) fun v σ H Q ⟨G, S, ρ, d, rs, rp, dv, q⟩ => ?_⟩
  unfold gTupD at q
  split at q
  · rename_i xs
    by_cases hl : xs.length = n
    · rw [if_pos hl] at q
      obtain ⟨a, us, rfl, hq, t⟩ := den_tup dv
      exact ⟨a, us, rfl, hq, by rw [← t.length]; exact hl, G, S, ρ, _, rs, rp, t.denL, q⟩
    · rw [if_neg hl] at q; exact q.elim
  · exact q.elim
theorem dg_lst {n k : Nat} (hc : X.calm = true) (hg : DGs X vs es h) (hn : (assignEach es X.env).length = n := by rfl) (hst : (assignEach es X.env).findIdx? (·.1) = none := by rfl) : DG X vs (.Tuple es k pos) (gLstD n h) := by
  refine ⟨PG.imp (pg_lst hc hg.run hn hst) fun v σ H Q ⟨G, S, ρ, d, rs, rp, dv, q⟩ => ?_⟩
  unfold gLstD at q
  split at q
  · rename_i xs e
    by_cases hl : xs.length = n
    · rw [if_pos hl] at q
      obtain ⟨a, us, rfl, hq, t⟩ := lstOf_den rp e dv
      exact ⟨a, us, rfl, SqL.of hq, by rw [← t.length]; exact hl, G, S, ρ, _, rs, rp, t.denL, q⟩
    · rw [if_neg hl] at q; exact q.elim
  · exact q.elim
theorem set_D (hu : X.A.units + 1 < cLine) : PSet X rSetD := by
  intro pins s σ H o i v ov iv u Q I ro ri rv q
  rcases q with q | ⟨a, H', rfl, g, q⟩
  · exact set_list pins s σ H o i v ov iv u Q I ro ri rv q
  · cases ro
    exact d_setItem hu I g ri rv fun s' I' => ⟨H', I', q⟩
theorem setD_den {K : PySem.W.Frag} {H : Hp} {G : Gh} {S S' : Sto} {o i d : D} {ov iv v : V} (rp : Rep K H G S) (e : setD o i d S = some S') (ho : Den K H G o ov) (hi : Den K H G i iv) (hd : Den K H G d v) {Q : Hp → Prop}
    (q : ∀ H', Ext H G S H' G S' → Rep K H' G S' → Q H') : rSetD ov iv v H Q := by
  unfold setD at e
  split at e
  · rename_i j x
    obtain ⟨a, rfl, ha⟩ := ho
    split at e
    · rename_i xs k em
      obtain rfl := den_int hi
      obtain ⟨us, e1, t⟩ := rp.ok j a _ ha em
      split at e
      · rename_i n en
        cases e
        refine .inl ⟨a, us, k, n, rfl, rfl, e1, by rw [← t.length]; exact en, ?_⟩
        have x := Ext.chg (o := .lst (us.set n v)) (m' := .lst (xs.set n x)) rp ha em (fun z => nomatch z)
        exact q _ x (rp.chg ha em (fun z => nomatch z) ⟨_, upd_same, x.dnAll rp (t.set hd n)⟩)
      · cases e
    · rename_i kvs k em
      obtain ⟨ws, e1, e2, t⟩ := rp.ok j a _ ha em
      have r : KvR K G.φ H kvs ws := ⟨e2, t⟩
      split at e
      · rename_i k' ek
        by_cases hl : kvs.length < LIM
        · rw [if_pos hl] at e
          cases e
          have ea := keyPy_of ek
          subst ea
          have ev : iv = kV k' := by
            cases k' with
            | inl i => exact den_int hi
            | inr z => exact den_str hi
          subst ev
          refine .inr ⟨a, _, rfl, DPut.k e1 (by rw [← r.length]; exact Nat.lt_trans hl LIM_lt), ?_⟩
          have rr := r.put (k := k') hd
          have x := Ext.chg (o := .dK (putK ws k' v)) (m' := .dic (putD kvs k' x)) rp ha em (fun z => nomatch z)
          exact q _ x (rp.chg ha em (fun z => nomatch z) ⟨_, upd_same, rr.ks, x.dnAll rp rr.vs⟩)
        · rw [if_neg hl] at e; cases e
      · cases e
    · cases e
  · cases e
theorem Aft.of_ok {α : Type} {K : PySem.W.Frag} {σ : St} {H : Hp} {G : Gh} {S : Sto} {o : Out α} {a : α} {S' : Sto} {P : α → Hp → Gh → Sto → Prop} (e : o = .ok a S') (h : ∀ H' G', Ext H G S H' G' S' → Rep K H' G' S' → P a H' G' S') : Aft K W σ H G S o P := by
  rw [e]; exact h
theorem dg_sub {o i : Expr} {fo fi : FE} (hu : X.A.units + 1 < cLine) (ho : DE X W o fo) (hi : DE X W i fi) (ha : ∀ v, assign (.Subscript o i pos) X.env v = (do
      let ov ← holding [v] (eval o X.env)
      let iv ← holding [v, ov] (eval i X.env)
      standAt pos
      holding [v, ov, iv] (setItem ov iv v)
      release [v, ov, iv] []) := by intro _; rfl) : DG X vs (.Subscript o i pos) (gSubD fo fi) := by
  refine ⟨PG.imp (pg_sub ho.run hi.run (set_D hu) ha) fun v σ H Q ⟨G, S, ρ, d, rs, rp, dv, q⟩ => ?_⟩
  unfold gSubD at q
  split at q
  · rename_i od S1 e1
    split at q
    · rename_i id S2 e2
      split at q
      · rename_i S3 e3
        refine ⟨G, S, ρ, rs, rp, Aft.of_ok e1 fun H1 G1 x1 r1 ov dov => ?_⟩
        refine ⟨G1, S1, ρ, x1.relS rp rs, r1, Aft.of_ok e2 fun H2 G2 x2 r2 iv div => ?_⟩
        refine setD_den r2 e3 (x2.den r1 dov) div ((x1.trans x2).den rp dv) fun H3 x3 r3 => ?_
        exact q H3 G2 ((x1.trans x2).trans x3) r3 σ (((x1.trans x2).trans x3).relS rp rs) rfl
      · exact q.elim
    · exact q.elim
  · exact q.elim
end

def sAsg (f : FE) (g : FG) : FS := fun ρ S => (f ρ S).st ρ fun d S1 => match g d ρ S1 with
  | some (ρ', S2) => some (.next ρ', S2)
  | none => none
def sAsgs (f : FA) (g : FGs) : FS := fun ρ S => (f ρ S).st ρ fun ds S1 => match g ds ρ S1 with
  | some (ρ', S2) => some (.next ρ', S2)
  | none => none
section
variable {X : Cx} {W : WX} {e tg : Expr} {es ts : List Expr} {f : FE} {fa : FA} {g : FG} {h : FGs} {pos : Pos} {vs : List Nat}
theorem AftS.tgt {K : PySem.W.Frag} {E : Ends} {H : Hp} {G : Gh} {S : Sto} {σ : St} {o : Option (Ev × Sto)} (q : AftS K W E H G S (match o with | some (ρ', S2) => some (.next ρ', S2) | none => none)) :
    AftG K H G S o fun ρ' H' G' _ => ∀ σ', RelS K H' G' ρ' σ' → wipe σ' vs = wipe σ vs → E.nx σ' H' := by
  match o with
  | none => exact q
  | some (ρ', S') => exact fun H' G' x r σ' rs _ => AftS.next q x r rs
theorem ds_asg (he : DE X W e f) (hg : DG X vs tg g) (hs : swapsWithSole [tg] e pos.line X.env = pure false := by rfl) (hw : swappedStores [tg] e X.env = pure none := by rfl)
    (h1 : (assignEach [tg] X.env).map (·.2) = [assign tg X.env] := by rfl) : DS X W (.Assign [tg] e pos) (sAsg f g) := by
  refine ⟨PS.imp (ps_asg he.run hg.run hs hw h1) fun E σ H ⟨G, S, ρ, rs, rp, q⟩ => ⟨G, S, ρ, rs, rp, (AftS.st q rs rp).mono fun d H1 G1 S1 x1 r1 q1 v dv => ?_⟩⟩
  exact ⟨G1, S1, ρ, d, x1.relS rp rs, r1, dv, AftS.tgt q1⟩
/-- (a, b, ..) = (x, y, ..), by a tuple that is taken apart at once -/
theorem ds_asgTT {n k k' : Nat} {p1 p2 : Pos} (hc : X.calm = true) (ha : DA X W es fa) (hg : DGs X vs ts h) (hl : ts.length = es.length := by rfl) (hn : (assignEach ts X.env).length = n := by rfl) (hst : (assignEach ts X.env).findIdx? (·.1) = none := by rfl)
    (hd : ∀ (ds : List D) ρ S ρ' S', h ds ρ S = some (ρ', S') → ds.length = n) (h100 : n ≤ 100 := by decide)
    (hs : swapsWithSole [.Tuple ts k p1] (.Tuple es k' p2) pos.line X.env = pure false := by rfl) (hw : swappedStores [.Tuple ts k p1] (.Tuple es k' p2) X.env = pure none := by rfl)
    (h1 : (assignEach [.Tuple ts k p1] X.env).map (·.2) = [assign (.Tuple ts k p1) X.env] := by rfl) : DS X W (.Assign [.Tuple ts k p1] (.Tuple es k' p2) pos) (sAsgs fa h) := by
  refine ⟨PS.imp (ps_asg (pe_tup ha.run) (pg_tup hc hg.run hn hst) hs hw h1) fun E σ H ⟨G, S, ρ, rs, rp, q⟩ => ⟨G, S, ρ, rs, rp, (AftS.st q rs rp).mono fun ds H1 G1 S1 x1 r1 q1 us dv => ?_⟩⟩
  cases eo : h ds ρ S1 with
  | none => rw [eo] at q1; exact q1.elim
  | some p =>
    obtain ⟨ρ', S2⟩ := p
    have hlen := hd ds ρ S1 ρ' S2 eo
    have hul : us.length = n := by rw [← dv.length]; exact hlen
    refine ⟨by rw [hul]; exact Nat.le_trans h100 (Nat.le_trans (by decide) LIM_le), fun p hp => ⟨p, us, rfl, SqT.of upd_same, hul, ?_⟩⟩
    have x2 := Ext.other (o := .tup us) r1 hp
    have r2 := Rep.other (o := .tup us) r1 hp
    refine ⟨G1, S1, ρ, ds, x2.relS r1 (x1.relS rp rs), r2, x2.denL r1 dv, ?_⟩
    exact (AftS.tgt q1).ext x2
def gsLen (n : Nat) (h : FGs) : FGs := fun ds ρ S => if ds.length = n then h ds ρ S else none
end
end DL

namespace DL
open PySem L2

def W0 : WX := fun _ _ _ _ => False
/-- no exception may come out of it -/
def noErr {α : Type} : Out α → Out α
  | .ok a s => .ok a s
  | _ => .bad
@[simp] theorem noErr_ok {α : Type} (a : α) (s : Sto) : noErr (.ok a s) = .ok a s := rfl
theorem Aft.noErr {α : Type} {K : PySem.W.Frag} {W W' : WX} {σ σ' : St} {H : Hp} {G : Gh} {S : Sto} {o : Out α} {P : α → Hp → Gh → Sto → Prop} (h : Aft K W σ H G S (noErr o) P) : Aft K W' σ' H G S o P := by
  cases o with
  | ok a s => exact h
  | err x s => exact h.elim
  | bad => exact h.elim

section
variable {X : Cx} {W : WX} {a b : Expr} {fa : FA} {pos : Pos}
theorem lenNil : ∀ (ds : List D) ρ S ρ' S', gNils ds ρ S = some (ρ', S') → ds.length = 0 := by
  intro ds ρ S ρ' S' h
  cases ds with
  | nil => rfl
  | cons _ _ => cases h
theorem lenCons {g : FG} {h : FGs} {n : Nat} (i : ∀ (ds : List D) ρ S ρ' S', h ds ρ S = some (ρ', S') → ds.length = n) : ∀ (ds : List D) ρ S ρ' S', gConss g h ds ρ S = some (ρ', S') → ds.length = n + 1 := by
  intro ds ρ S ρ' S' q
  cases ds with
  | nil => cases q
  | cons d r =>
    simp only [gConss] at q
    split at q
    · rename_i ρ1 S1 e
      rw [List.length_cons, i r ρ1 S1 ρ' S' q]
    · cases q
theorem ds_par {i j : Nat} {x y : Str} {px py pt : Pos} {kt k2 pt2} (hc : X.calm = true) (hN : X.N.Nodup) (hi : X.N[i]? = some x) (hj : X.N[j]? = some y) (hij : i ≠ j)
    (hx : X.env.scope.names.lookup x = some .local) (hy : X.env.scope.names.lookup y = some .local) (ha : DA X W [a, b] fa)
    (hw : swappedStores [.Tuple [.Name x px, .Name y py] kt pt] (.Tuple [a, b] k2 pt2) X.env = pure (some [x, y]) := by rfl)
    (hs : swapsWithSole [.Tuple [.Name x px, .Name y py] kt pt] (.Tuple [a, b] k2 pt2) pos.line X.env = pure false := by rfl) :
    DS X W (.Assign [.Tuple [.Name x px, .Name y py] kt pt] (.Tuple [a, b] k2 pt2) pos) (sAsgs fa (gConss (gN i) (gConss (gN j) gNils))) := by
  refine ⟨PS.imp (ps_par hc hN hi hj hij hx hy ha.run hw hs) fun E σ H ⟨G, S, ρ, rs, rp, q⟩ => ⟨G, S, ρ, rs, rp, (AftS.st q rs rp).mono fun ds H1 G1 S1 x1 r1 q1 us dv => ?_⟩⟩
  cases dv with
  | nil => exact q1.elim
  | cons d1 t1 =>
    cases t1 with
    | nil => exact q1.elim
    | cons d2 t2 =>
      cases t2 with
      | nil => exact ⟨_, _, rfl, AftS.next q1 Ext.refl r1 (((x1.relS rp rs).set d1 i).set d2 j)⟩
      | cons _ _ => exact q1.elim
theorem ds_par3 {i j l : Nat} {x y z : Str} {c : Expr} {px py pz pt : Pos} {kt k2 pt2} (hc : X.calm = true) (hN : X.N.Nodup) (hi : X.N[i]? = some x) (hj : X.N[j]? = some y) (hl : X.N[l]? = some z) (hij : i ≠ j) (hil : i ≠ l) (hjl : j ≠ l)
    (hx : X.env.scope.names.lookup x = some .local) (hy : X.env.scope.names.lookup y = some .local) (hz : X.env.scope.names.lookup z = some .local) (ha : DA X W [a, b, c] fa)
    (hw : swappedStores [.Tuple [.Name x px, .Name y py, .Name z pz] kt pt] (.Tuple [a, b, c] k2 pt2) X.env = pure (some [x, y, z]) := by rfl)
    (hs : swapsWithSole [.Tuple [.Name x px, .Name y py, .Name z pz] kt pt] (.Tuple [a, b, c] k2 pt2) pos.line X.env = pure false := by rfl) :
    DS X W (.Assign [.Tuple [.Name x px, .Name y py, .Name z pz] kt pt] (.Tuple [a, b, c] k2 pt2) pos) (sAsgs fa (gConss (gN i) (gConss (gN j) (gConss (gN l) gNils)))) := by
  refine ⟨PS.imp (ps_par3 hc hN hi hj hl hij hil hjl hx hy hz ha.run hw hs) fun E σ H ⟨G, S, ρ, rs, rp, q⟩ => ⟨G, S, ρ, rs, rp, (AftS.st q rs rp).mono fun ds H1 G1 S1 x1 r1 q1 us dv => ?_⟩⟩
  cases dv with
  | nil => exact q1.elim
  | cons d1 t1 =>
    cases t1 with
    | nil => exact q1.elim
    | cons d2 t2 =>
      cases t2 with
      | nil => exact q1.elim
      | cons d3 t3 =>
        cases t3 with
        | nil => exact ⟨_, _, _, rfl, AftS.next q1 Ext.refl r1 ((((x1.relS rp rs).set d1 i).set d2 j).set d3 l)⟩
        | cons _ _ => exact q1.elim
end

def whileD : Nat → FT → FS → FS
  | 0, _, _ => fun _ _ => none
  | n + 1, t, b => fun ρ S => (t ρ S).st ρ fun c S1 => if c = true then (match b ρ S1 with
      | some (.next ρ', S2) => whileD n t b ρ' S2
      | some (.cont ρ', S2) => whileD n t b ρ' S2
      | some (.brk ρ', S2) => some (.next ρ', S2)
      | o => o) else some (.next ρ, S1)
section
variable {X : Cx} {W : WX} {c : Expr} {body : List Stmt} {t : FT} {b : FS} {pos : Pos}
theorem ds_while (n : Nat) (hp : PassesOwn (model X.prog X.w) X.A X.env X.xe) (hc : DT X W c t) (hb : DSs X W body b) : DS X W (.While c body [] pos) (whileD n t b) := by
  refine ⟨PS.imp (ps_while hp hc.run hb.run) fun E σ H ⟨G, S, ρ, rs, rp, q⟩ => ?_⟩
  refine ⟨fun m σ H => ∃ G S ρ, RelS X.K H G ρ σ ∧ Rep X.K H G S ∧ AftS X.K W E H G S (whileD m t b ρ S), ⟨n, G, S, ρ, rs, rp, q⟩, ?_⟩
  rintro m σ H ⟨G, S, ρ, rs, rp, q⟩
  cases m with
  | zero => exact q.elim
  | succ m =>
    refine ⟨G, S, ρ, rs, rp, (AftS.st q rs rp).mono fun d H1 G1 S1 x1 r1 q1 => ?_⟩
    cases d with
    | false => exact AftS.next q1 Ext.refl r1 (x1.relS rp rs)
    | true =>
      refine ⟨fun σ' H' => ∃ G S ρ, RelS X.K H' G ρ σ' ∧ Rep X.K H' G S ∧ AftS X.K W E H' G S (whileD m t b ρ S), fun σ' H' h => ⟨m, Nat.lt_succ_self m, h⟩, G1, S1, ρ, x1.relS rp rs, r1, ?_⟩
      have q1 : AftS X.K W E H1 G1 S1 (match b ρ S1 with
        | some (.next ρ', S2) => whileD m t b ρ' S2
        | some (.cont ρ', S2) => whileD m t b ρ' S2
        | some (.brk ρ', S2) => some (.next ρ', S2)
        | o => o) := q1
      cases eo : b ρ S1 with
      | none => rw [eo] at q1; exact q1
      | some p =>
        obtain ⟨fl, S2⟩ := p
        rw [eo] at q1
        cases fl with
        | next ρ1 => exact fun H2 G2 σ2 x2 r2 s2 => ⟨G2, S2, ρ1, s2, r2, AftS.ext q1 x2⟩
        | cont ρ1 => exact fun H2 G2 σ2 x2 r2 s2 => ⟨G2, S2, ρ1, s2, r2, AftS.ext q1 x2⟩
        | brk ρ1 => exact q1
        | ret d => exact q1
        | exc x ρ1 => exact q1
end

structure Gives (K : PySem.W.Frag) (J : It) (H0 : Hp) (G0 : Gh) (S0 : Sto) (ds : List D) : Prop where
  go : ∀ (H : Hp) (G : Gh) (S : Sto), Ext H0 G0 S0 H G S → Rep K H G S → ∀ (i : Nat), i < ds.length → J.go i H
  yld : ∀ (H : Hp) (G : Gh) (S : Sto), Ext H0 G0 S0 H G S → Rep K H G S → ∀ (i : Nat) (d : D), ds[i]? = some d → ∀ x H', J.yld i H x H' → Ext H G S H' G S ∧ Rep K H' G S ∧ Den K H' G d x ∧ (H' = H ∨ ∃ T o, H T = none ∧ H' = upd H T o)
  stop : ∀ (H : Hp) (G : Gh) (S : Sto), Ext H0 G0 S0 H G S → Rep K H G S → J.stop ds.length H
abbrev FI := Ev → M (List D)
def rdI (K : PySem.W.Frag) (W : WX) (f : FI) : TI := fun σ H R => ∃ G S ρ, RelS K H G ρ σ ∧ Rep K H G S ∧ Aft K W σ H G S (f ρ S) fun ds H' G' S' => ∀ J, Gives K J H' G' S' ds → R J H'
structure DI (X : Cx) (W : WX) (tg iter : Expr) (f : FI) : Prop where
  run : PI X tg iter (rdI X.K W f)
theorem PI.imp {X : Cx} {tg iter : Expr} {t t' : TI} (h : PI X tg iter t) (i : ∀ σ H R, t' σ H R → t σ H R) : PI X tg iter t' := ⟨fun pins s σ H R I q => h.run pins s σ H R I (i σ H R q)⟩
/-- a list that stays, a tuple -/
theorem gives_list {K : PySem.W.Frag} {H : Hp} {G : Gh} {S : Sto} {a : Addr} {vs : List V} {xs : List PyData} (rp : Rep K H G S) (f : RL K G.φ a vs) (t : DnAll K G.φ H xs vs) : Gives K (Itl K a) H G S (xs.map .p) where
  go := fun H1 G1 S1 x r i hi => by
    rw [List.length_map, t.length] at hi
    exact ⟨vs, vs[i], (f.mono x.phi) H1 r.phi, by simp [hi]⟩
  yld := fun H1 G1 S1 x r i d e v H' y => by
    obtain ⟨e1, y⟩ := y
    subst e1
    have e2 := y vs ((f.mono x.phi) _ r.phi)
    obtain ⟨d', ed, dn⟩ := (x.dnAll rp t).getV e2
    rw [List.getElem?_map, ed] at e
    cases e
    exact ⟨Ext.refl, r, dn, .inl rfl⟩
  stop := fun H1 G1 S1 x r => by
    rw [List.length_map, t.length]
    exact ⟨vs, (f.mono x.phi) H1 r.phi, Nat.le_refl _⟩
theorem gives_tup {K : PySem.W.Frag} {H : Hp} {G : Gh} {S : Sto} {a : Addr} {vs : List V} {xs : List PyData} (rp : Rep K H G S) (f : SqT K H a vs) (t : DnAll K G.φ H xs vs) : Gives K (Itt K a) H G S (xs.map .p) where
  go := fun H1 G1 S1 x r i hi => by
    rw [List.length_map, t.length] at hi
    exact ⟨vs, vs[i], x.tup rp f, by simp [hi]⟩
  yld := fun H1 G1 S1 x r i d e v H' y => by
    obtain ⟨e1, y⟩ := y
    subst e1
    have e2 := y vs (x.tup rp f)
    obtain ⟨d', ed, dn⟩ := (x.dnAll rp t).getV e2
    rw [List.getElem?_map, ed] at e
    cases e
    exact ⟨Ext.refl, r, dn, .inl rfl⟩
  stop := fun H1 G1 S1 x r => by
    rw [List.length_map, t.length]
    exact ⟨vs, x.tup rp f, Nat.le_refl _⟩
theorem gives_range {K : PySem.W.Frag} {H : Hp} {G : Gh} {S : Sto} {lo : Int} {n : Nat} : Gives K (Itr lo n) H G S ((List.range n).map fun i : Nat => D.p (.int (lo + (i : Int)))) where
  go := fun H1 G1 S1 x r i hi => by simpa [Itr] using hi
  yld := fun H1 G1 S1 x r i d e v H' y => by
    obtain ⟨e1, e2⟩ := y
    subst e1 e2
    rw [List.getElem?_map] at e
    by_cases hi : i < n
    · rw [List.getElem?_range hi] at e
      cases e
      exact ⟨Ext.refl, r, .int _, .inl rfl⟩
    · rw [List.getElem?_eq_none (by simpa using hi)] at e; cases e
  stop := fun H1 G1 S1 x r => by simp [Itr]
theorem gives_str {K : PySem.W.Frag} {H : Hp} {G : Gh} {S : Sto} {z : Str} : Gives K (Its z) H G S (z.cps.toList.map fun c => D.p (.str ⟨#[c]⟩)) where
  go := fun H1 G1 S1 x r i hi => by simpa [Its] using hi
  yld := fun H1 G1 S1 x r i d e v H' y => by
    obtain ⟨e1, c, e2, e3⟩ := y
    subst e1 e3
    rw [List.getElem?_map, Array.getElem?_toList, e2] at e
    cases e
    exact ⟨Ext.refl, r, .str _, .inl rfl⟩
  stop := fun H1 G1 S1 x r => by simp [Its]
/-- x in (a list, a tuple, a text) -/
def itM : D → M (List D) := fun d S => match d with
  | .p (.list xs) => .ok (xs.map .p) S
  | .ro xs => .ok (xs.map .p) S
  | .p (.tuple xs) => .ok (xs.map .p) S
  | .p (.str z) => .ok (z.cps.toList.map fun c => D.p (.str ⟨#[c]⟩)) S
  | _ => .bad
def iSeq (f : FE) : FI := fun ρ S => (f ρ S).bind itM
def rangeM : List D → M (List D) := fun ds S => match ds with
  | [.p (.int j)] => if -1000000 ≤ j ∧ j ≤ 1000000 then .ok ((List.range j.toNat).map fun i : Nat => D.p (.int (0 + (i : Int)))) S else .bad
  | _ => .bad
def iRange (f : FA) : FI := fun ρ S => (f ρ S).bind rangeM
section
variable {X : Cx} {W : WX} {l tg : Expr} {f : FE} {pos : Pos}
/-- whatever is walked: a list, a tuple, a text -/
theorem pi_any {t : TE} (hl : PE X l t) : PI X tg l (fun σ H R => t σ H fun x H1 => (∃ a, x = .ref a ∧ (∃ xs, SqL X.K H1 a xs) ∧ R (Itl X.K a) H1) ∨ (∃ a, x = .ref a ∧ (∃ xs, SqT X.K H1 a xs) ∧ R (Itt X.K a) H1) ∨ ∃ z, x = .str z ∧ R (Its z) H1) := by
  refine ⟨fun pins s σ H R I h => ?_⟩
  refine thn (hl.run pins s σ H _ I h) fun v s1 ⟨x, H1, I1, r1, q1⟩ => ?_
  rcases q1 with ⟨a, rfl, ⟨xs, hq⟩, q⟩ | ⟨a, rfl, ⟨xs, hq⟩, q⟩ | ⟨z, rfl, q⟩
  · cases r1
    obtain ⟨its, rv, p, hz⟩ := I1.list hq
    refine wpAny_pyIter_list p.isList ⟨s1.heap.objs.size, [s1.heap.objs.size], _, _, H1, rfl, I1.kept (t' := s1.toks) fun b o e => Heap.get?_push_of_some _ e, turn_list a _, ⟨_, Heap.get?_push_size _ rfl, rfl, rfl⟩, fun b hb => ?_, q⟩
    obtain rfl : b = s1.heap.objs.size := by simpa using hb
    exact I1.fpOk (Nat.le_refl _) (I1.hok.fresh (Nat.le_refl _))
  · cases r1
    obtain ⟨its, rv, p, hz⟩ := I1.tuple hq
    refine wpAny_pyIter_tuple (show s1.heap.IsTuple a its.toArray from p) ⟨s1.heap.objs.size, [s1.heap.objs.size], _, _, H1, rfl, I1.kept (t' := s1.toks) fun b o e => Heap.get?_push_of_some _ e, turn_tuple a _, ⟨_, Heap.get?_push_size _ rfl, rfl, rfl⟩, fun b hb => ?_, q⟩
    obtain rfl : b = s1.heap.objs.size := by simpa using hb
    exact I1.fpOk (Nat.le_refl _) (I1.hok.fresh (Nat.le_refl _))
  · obtain ⟨t, rfl⟩ := r1
    cases ha : z.cps.all (· < 128)
    · exact wpAny_pyIter_wide ha (pi_one (tk := s1.toks) I1 _ (turn_str _ z t "str_iterator" (.inr rfl)) ⟨_, Heap.get?_push_size _ rfl, rfl, rfl⟩ q)
    · exact wpAny_pyIter_ascii ha (pi_one (tk := s1.toks) I1 _ (turn_str _ z t "str_ascii_iterator" (.inl rfl)) ⟨_, Heap.get?_push_size _ rfl, rfl, rfl⟩ q)
theorem di_seq (he : DE X W l f) : DI X W tg l (iSeq f) := by
  refine ⟨PI.imp (pi_any he.run) fun σ H R ⟨G, S, ρ, rs, rp, q⟩ => ⟨G, S, ρ, rs, rp, (Aft.bind q).mono fun d H1 G1 S1 x1 r1 q1 v dv => ?_⟩⟩
  unfold itM at q1
  split at q1
  · obtain ⟨a, vs, rfl, fl, t⟩ := den_lst dv
    exact .inl ⟨a, rfl, ⟨vs, SqL.of (fl H1 r1.phi)⟩, q1 H1 G1 Ext.refl r1 _ (gives_list r1 (fun H' h' => SqL.of (fl H' h')) t)⟩
  · obtain ⟨a, vs, rfl, fl, t⟩ := dv
    exact .inl ⟨a, rfl, ⟨vs, fl H1 r1.phi⟩, q1 H1 G1 Ext.refl r1 _ (gives_list r1 fl t)⟩
  · obtain ⟨a, vs, rfl, fl, t⟩ := den_tup dv
    exact .inr (.inl ⟨a, rfl, ⟨vs, fl⟩, q1 H1 G1 Ext.refl r1 _ (gives_tup r1 fl t)⟩)
  · rename_i z
    obtain rfl := den_str dv
    exact .inr (.inr ⟨z, rfl, q1 H1 G1 Ext.refl r1 _ gives_str⟩)
  · exact q1.elim
end

section
variable {X : Cx} {W : WX} {a tg : Expr} {f : FE} {p pos : Pos}
theorem di_range {fa : FA} (hg : Gl X "range") (hm : X.mg "range" = none) (ha : DA X W [a] fa) (hs : starEach [a] X.env = [(false, eval a X.env)] := by rfl) : DI X W tg (.Call (.Name "range" p) [a] [] pos) (iRange fa) := by
  refine ⟨PI.imp (pi_range1 hg hm ha.run hs) fun σ H R ⟨G, S, ρ, rs, rp, q⟩ => ⟨G, S, ρ, rs, rp, (Aft.bind q).mono fun ds H1 G1 S1 x1 r1 q1 vs dv => ?_⟩⟩
  unfold rangeM at q1
  split at q1
  · rename_i j
    cases dv with
    | cons dv t =>
      cases t
      obtain rfl := den_int dv
      by_cases hj : -1000000 ≤ j ∧ j ≤ 1000000
      · rw [if_pos hj] at q1
        exact ⟨j, rfl, by omega, by omega, q1 H1 G1 Ext.refl r1 _ gives_range⟩
      · rw [if_neg hj] at q1; exact q1.elim
  · exact q1.elim

def zipP : List PyData → List PyData → List D
  | x :: xs, y :: ys => .p (.tuple [x, y]) :: zipP xs ys
  | _, _ => []
theorem zipP_len : ∀ (xs ys : List PyData), (zipP xs ys).length = min xs.length ys.length
  | [], _ => by simp [zipP]
  | _ :: _, [] => by simp [zipP]
  | x :: xs, y :: ys => by simp only [zipP, List.length_cons, zipP_len xs ys]; omega
theorem zipP_get : ∀ (xs ys : List PyData) (i : Nat) (d : D), (zipP xs ys)[i]? = some d → ∃ x y, xs[i]? = some x ∧ ys[i]? = some y ∧ d = .p (.tuple [x, y])
  | [], _, i, d, h => by simp [zipP] at h
  | _ :: _, [], i, d, h => by simp [zipP] at h
  | x :: xs, y :: ys, 0, d, h => by simp [zipP] at h; exact ⟨x, y, rfl, rfl, h.symm⟩
  | x :: xs, y :: ys, i + 1, d, h => by
    obtain ⟨x', y', h1, h2, h3⟩ := zipP_get xs ys i d (by simpa [zipP] using h)
    exact ⟨x', y', by simpa using h1, by simpa using h2, h3⟩
def enumP (n : Nat) : List PyData → List D
  | x :: xs => .p (.tuple [.int (n : Nat), x]) :: enumP (n + 1) xs
  | [] => []
theorem enumP_len : ∀ (n : Nat) (xs : List PyData), (enumP n xs).length = xs.length
  | _, [] => rfl
  | n, x :: xs => by simp only [enumP, List.length_cons, enumP_len]
theorem enumP_get : ∀ (n : Nat) (xs : List PyData) (i : Nat) (d : D), (enumP n xs)[i]? = some d → ∃ x, xs[i]? = some x ∧ d = .p (.tuple [.int ((n + i : Nat) : Int), x])
  | n, [], i, d, h => by simp [enumP] at h
  | n, x :: xs, 0, d, h => by simp [enumP] at h; exact ⟨x, rfl, h.symm⟩
  | n, x :: xs, i + 1, d, h => by
    obtain ⟨x', h1, h3⟩ := enumP_get (n + 1) xs i d (by simpa [enumP] using h)
    exact ⟨x', by simpa using h1, by rw [h3, show n + 1 + i = n + (i + 1) by omega]⟩
def zipM : List D → M (List D) := fun ds S => match ds with
  | [.p (.list xs), .p (.list ys)] => .ok (zipP xs ys) S
  | [.p (.tuple xs), .p (.tuple ys)] => .ok (zipP xs ys) S
  | _ => .bad
def enumM : List D → M (List D) := fun ds S => match ds with
  | [.p (.list xs)] => .ok (enumP 0 xs) S
  | _ => .bad
def iA (g : List D → M (List D)) (fa : FA) : FI := fun ρ S => (fa ρ S).bind g
theorem pair_new {K : PySem.W.Frag} {H : Hp} {G : Gh} {S : Sto} {T : Addr} {x y : PyData} {v w : V} (r : Rep K H G S) (hT : H T = none) (h1 : Dn K G.φ H x v) (h2 : Dn K G.φ H y w) : Ext H G S (upd H T (.tup [v, w])) G S ∧ Rep K (upd H T (.tup [v, w])) G S ∧ Den K (upd H T (.tup [v, w])) G (.p (.tuple [x, y])) (.ref T) := by
  have e := Ext.other (o := .tup [v, w]) r hT
  exact ⟨e, Rep.other r hT, Dn.tup (SqT.of upd_same) (.cons (e.dn r h1) (.cons (e.dn r h2) .nil))⟩
theorem gives_zip {K : PySem.W.Frag} {H : Hp} {G : Gh} {S : Sto} {a b : Addr} {vs ws : List V} {xs ys : List PyData} (rp : Rep K H G S) (fa : FL G.φ a vs) (ta : DnAll K G.φ H xs vs) (fb : FL G.φ b ws) (tb : DnAll K G.φ H ys ws) : Gives K (Itz K a b) H G S (zipP xs ys) where
  go := fun H1 G1 S1 x r i hi => by
    rw [zipP_len, ta.length, tb.length] at hi
    exact ⟨vs, ws, vs[i], ws[i], SqL.of ((fa.mono x.phi) H1 r.phi), SqL.of ((fb.mono x.phi) H1 r.phi), by simp, by simp⟩
  yld := fun H1 G1 S1 x r i d e v H' y => by
    obtain ⟨T, u, w, rfl, hT, rfl, y1, y2⟩ := y
    have e1 := y1 vs (SqL.of ((fa.mono x.phi) H1 r.phi))
    have e2 := y2 ws (SqL.of ((fb.mono x.phi) H1 r.phi))
    obtain ⟨d1, ed1, dn1⟩ := (x.dnAll rp ta).getV e1
    obtain ⟨d2, ed2, dn2⟩ := (x.dnAll rp tb).getV e2
    obtain ⟨x', y', h1, h2, rfl⟩ := zipP_get xs ys i d e
    rw [ed1] at h1; cases h1
    rw [ed2] at h2; cases h2
    obtain ⟨p1, p2, p3⟩ := pair_new r hT dn1 dn2
    exact ⟨p1, p2, p3, .inr ⟨T, _, hT, rfl⟩⟩
  stop := fun H1 G1 S1 x r => by
    rw [zipP_len, ta.length, tb.length]
    exact ⟨vs, ws, SqL.of ((fa.mono x.phi) H1 r.phi), SqL.of ((fb.mono x.phi) H1 r.phi), by omega⟩
theorem gives_zipT {K : PySem.W.Frag} {H : Hp} {G : Gh} {S : Sto} {a b : Addr} {vs ws : List V} {xs ys : List PyData} (rp : Rep K H G S) (fa : SqT K H a vs) (ta : DnAll K G.φ H xs vs) (fb : SqT K H b ws) (tb : DnAll K G.φ H ys ws) : Gives K (RZ.ItzT K a b) H G S (zipP xs ys) where
  go := fun H1 G1 S1 x r i hi => by
    rw [zipP_len, ta.length, tb.length] at hi
    exact ⟨vs, ws, vs[i], ws[i], x.tup rp fa, x.tup rp fb, by simp, by simp⟩
  yld := fun H1 G1 S1 x r i d e v H' y => by
    obtain ⟨T, u, w, rfl, hT, rfl, y1, y2⟩ := y
    have e1 := y1 vs (x.tup rp fa)
    have e2 := y2 ws (x.tup rp fb)
    obtain ⟨d1, ed1, dn1⟩ := (x.dnAll rp ta).getV e1
    obtain ⟨d2, ed2, dn2⟩ := (x.dnAll rp tb).getV e2
    obtain ⟨x', y', h1, h2, rfl⟩ := zipP_get xs ys i d e
    rw [ed1] at h1; cases h1
    rw [ed2] at h2; cases h2
    obtain ⟨p1, p2, p3⟩ := pair_new r hT dn1 dn2
    exact ⟨p1, p2, p3, .inr ⟨T, _, hT, rfl⟩⟩
  stop := fun H1 G1 S1 x r => by
    rw [zipP_len, ta.length, tb.length]
    exact ⟨vs, ws, x.tup rp fa, x.tup rp fb, by omega⟩
theorem gives_enum {K : PySem.W.Frag} {H : Hp} {G : Gh} {S : Sto} {a : Addr} {vs : List V} {xs : List PyData} (rp : Rep K H G S) (fa : FL G.φ a vs) (ta : DnAll K G.φ H xs vs) : Gives K (Ite K a) H G S (enumP 0 xs) where
  go := fun H1 G1 S1 x r i hi => by
    rw [enumP_len, ta.length] at hi
    exact ⟨vs, vs[i], SqL.of ((fa.mono x.phi) H1 r.phi), by simp⟩
  yld := fun H1 G1 S1 x r i d e v H' y => by
    obtain ⟨T, u, rfl, hT, rfl, y1⟩ := y
    have e1 := y1 vs (SqL.of ((fa.mono x.phi) H1 r.phi))
    obtain ⟨d1, ed1, dn1⟩ := (x.dnAll rp ta).getV e1
    obtain ⟨x', h1, rfl⟩ := enumP_get 0 xs i d e
    rw [ed1] at h1; cases h1
    have e0 : ((0 + i : Nat) : Int) = (i : Int) := by rw [Nat.zero_add]
    rw [e0]
    obtain ⟨p1, p2, p3⟩ := pair_new r hT (Dn.int (i : Int)) dn1
    exact ⟨p1, p2, p3, .inr ⟨T, _, hT, rfl⟩⟩
  stop := fun H1 G1 S1 x r => by
    rw [enumP_len, ta.length]
    exact ⟨vs, SqL.of ((fa.mono x.phi) H1 r.phi), Nat.le_refl _⟩
theorem di_zip {b : Expr} {fa : FA} {tpos : Pos} {elts : List Expr} {kk : Nat} (hg : Gl X "zip") (hm : X.mg "zip" = none) (ha : DA X W [a, b] fa) (hs : starEach [a, b] X.env = (false, eval a X.env) :: starEach [b] X.env := by rfl) (hpl : (backTo pos (starEach [b] X.env)).any (·.1) = false := by rfl) :
    DI X W (.Tuple elts kk tpos) (.Call (.Name "zip" p) [a, b] [] pos) (iA zipM fa) := by
  refine ⟨PI.imp (RZ.pi_zipA hg hm ha.run hs hpl) fun σ H R ⟨G, S, ρ, rs, rp, q⟩ => ⟨G, S, ρ, rs, rp, (Aft.bind q).mono fun ds H1 G1 S1 x1 r1 q1 vs dv => ?_⟩⟩
  unfold zipM at q1
  split at q1
  · cases dv with
    | cons d1 t =>
      cases t with
      | cons d2 t =>
        cases t
        obtain ⟨a, vs, rfl, fa, ta⟩ := den_lst d1
        obtain ⟨b, ws, rfl, fb, tb⟩ := den_lst d2
        exact ⟨a, b, vs, ws, rfl, .inl ⟨SqL.of (fa _ r1.phi), SqL.of (fb _ r1.phi), q1 H1 G1 Ext.refl r1 _ (gives_zip r1 fa ta fb tb)⟩⟩
  · cases dv with
    | cons d1 t =>
      cases t with
      | cons d2 t =>
        cases t
        obtain ⟨a, vs, rfl, fa, ta⟩ := den_tup d1
        obtain ⟨b, ws, rfl, fb, tb⟩ := den_tup d2
        exact ⟨a, b, vs, ws, rfl, .inr ⟨fa, fb, q1 H1 G1 Ext.refl r1 _ (gives_zipT r1 fa ta fb tb)⟩⟩
  · exact q1.elim
theorem di_enum {fa : FA} {tpos : Pos} {elts : List Expr} {kk : Nat} (hg : Gl X "enumerate") (hm : X.mg "enumerate" = none) (ha : DA X W [a] fa) (hs : starEach [a] X.env = [(false, eval a X.env)] := by rfl) :
    DI X W (.Tuple elts kk tpos) (.Call (.Name "enumerate" p) [a] [] pos) (iA enumM fa) := by
  refine ⟨PI.imp (pi_enum hg hm ha.run hs) fun σ H R ⟨G, S, ρ, rs, rp, q⟩ => ⟨G, S, ρ, rs, rp, (Aft.bind q).mono fun ds H1 G1 S1 x1 r1 q1 vs dv => ?_⟩⟩
  unfold enumM at q1
  split at q1
  · cases dv with
    | cons d1 t =>
      cases t
      obtain ⟨a, vs, rfl, fa, ta⟩ := den_lst d1
      exact ⟨a, vs, rfl, SqL.of (fa _ r1.phi), q1 H1 G1 Ext.refl r1 _ (gives_enum r1 fa ta)⟩
  · exact q1.elim
end

def forD (g : FG) (b : FS) : List D → FS
  | [] => fun ρ S => some (.next ρ, S)
  | d :: r => fun ρ S => match g d ρ S with
    | none => none
    | some (ρ1, S1) => match b ρ1 S1 with
      | some (.next ρ2, S2) => forD g b r ρ2 S2
      | some (.cont ρ2, S2) => forD g b r ρ2 S2
      | some (.brk ρ2, S2) => some (.next ρ2, S2)
      | o => o
def sFor (f : FI) (g : FG) (b : FS) : FS := fun ρ S => (f ρ S).st ρ fun ds S1 => forD g b ds ρ S1
section
variable {X : Cx} {W : WX} {tg iter : Expr} {body : List Stmt} {f : FI} {g : FG} {b : FS} {pos : Pos} {vs : List Nat}
theorem ds_for (hp : PassesOwn (model X.prog X.w) X.A X.env X.xe) (hc : X.calm = true) (hi : DI X W tg iter f) (hg : DG X vs tg g) (hb : DSs X W body b) (hs : ∀ x, foldedSetIterable iter X.env x = pure x := by intro _; rfl) : DS X W (.For tg iter body [] pos) (sFor f g b) := by
  refine ⟨PS.imp (ps_for hp hc hi.run hg.run hb.run hs) fun E σ H ⟨G, S, ρ, rs, rp, q⟩ => ⟨G, S, ρ, rs, rp, (AftS.st q rs rp).mono fun ds H1 G1 S1 x1 r1 q1 J gv => ?_⟩⟩
  refine ⟨fun i m σ H => ∃ G S ρ, m = ds.length - i ∧ i ≤ ds.length ∧ Ext H1 G1 S1 H G S ∧ RelS X.K H G ρ σ ∧ Rep X.K H G S ∧ AftS X.K W E H G S (forD g b (ds.drop i) ρ S),
    ⟨ds.length, G1, S1, ρ, by simp, Nat.zero_le _, Ext.refl, x1.relS rp rs, r1, by simpa using q1⟩, ?_⟩
  rintro i m σ H ⟨G, S, ρ, rfl, hi, x, rs, rp, q⟩
  by_cases hlt : i < ds.length
  · refine .inr ⟨gv.go H G S x rp i hlt, fun σ' H' => ∃ G' S' ρ', Ext H1 G1 S1 H' G' S' ∧ RelS X.K H' G' ρ' σ' ∧ Rep X.K H' G' S' ∧ AftS X.K W E H' G' S' (forD g b (ds.drop (i + 1)) ρ' S'),
      fun σ' H' ⟨G', S', ρ', x', rs', rp', q'⟩ => ⟨ds.length - (i + 1), by omega, G', S', ρ', rfl, hlt, x', rs', rp', q'⟩, fun v H' y => ?_⟩
    obtain ⟨ex, rp', dv, _⟩ := gv.yld H G S x rp i ds[i] (by simp [hlt]) v H' y
    refine ⟨G, S, ρ, ds[i], ex.relS rp rs, rp', dv, ?_⟩
    rw [List.drop_eq_getElem_cons hlt] at q
    have q : AftS X.K W E H G S (match g ds[i] ρ S with
      | none => none
      | some (ρ1, S1) => match b ρ1 S1 with
        | some (.next ρ2, S2) => forD g b (ds.drop (i + 1)) ρ2 S2
        | some (.cont ρ2, S2) => forD g b (ds.drop (i + 1)) ρ2 S2
        | some (.brk ρ2, S2) => some (.next ρ2, S2)
        | o => o) := q
    cases eg : g ds[i] ρ S with
    | none => rw [eg] at q; exact q.elim
    | some pr =>
      obtain ⟨ρ1, S2⟩ := pr
      rw [eg] at q
      refine fun H2 G2 x2 r2 σ2 rs2 _ => ⟨G2, S2, ρ1, rs2, r2, ?_⟩
      have xx := ex.trans x2
      have q := AftS.ext q xx
      simp only at q
      cases eb : b ρ1 S2 with
      | none => rw [eb] at q; exact q
      | some pb =>
        obtain ⟨fl, S3⟩ := pb
        rw [eb] at q
        cases fl with
        | next ρ2 => exact fun H3 G3 σ3 x3 r3 s3 => ⟨G3, S3, ρ2, (x.trans xx).trans x3, s3, r3, AftS.ext q x3⟩
        | cont ρ2 => exact fun H3 G3 σ3 x3 r3 s3 => ⟨G3, S3, ρ2, (x.trans xx).trans x3, s3, r3, AftS.ext q x3⟩
        | brk ρ2 => exact q
        | ret d => exact q
        | exc y ρ2 => exact q
  · have e : i = ds.length := by omega
    subst e
    rw [List.drop_length] at q
    exact .inl ⟨gv.stop H G S x rp, AftS.next q Ext.refl rp rs⟩
end
end DL

namespace DL
open PySem L2

structure Beside (H : Hp) (G : Gh) (D : Addr) (o : HO) : Prop where
  at_ : H D = some o
  ι : D ∉ G.ι
  φ : ∀ p ∈ G.φ, p.1 ≠ D
section
variable {K : PySem.W.Frag} {H H1 : Hp} {G G1 : Gh} {S S1 : Sto} {D : Addr} {o : HO}
theorem Beside.ext (b : Beside H G D o) (x : Ext H G S H1 G1 S1) : Beside H1 G1 D o := by
  have nl : ¬ Live G S D := fun l => b.ι l.mem
  refine ⟨x.frame D o b.at_ nl, fun h => ?_, fun p hp e => ?_⟩
  · rcases x.iot D h with q | q
    · exact b.ι q
    · rw [b.at_] at q; cases q
  · rcases x.phf p hp with q | q | q
    · exact b.φ p q e
    · rw [e, b.at_] at q; cases q
    · rw [e] at q; exact nl q
theorem Rep.aside (r : Rep K H G S) {xs ys : List V} (b : Beside H G D (.lst xs)) : Rep K (upd H D (.lst ys)) G S := by
  have ht : ∀ a vs, SqT K H a vs → SqT K (upd H D (.lst ys)) a vs := fun a vs h => by
    rcases h with (h | ⟨u, h⟩) | h
    · exact .inl (.inl (by rw [upd_ne (ne_of h b.at_ (fun z => nomatch z))]; exact h))
    · exact .inl (.inr ⟨u, by rw [upd_ne (ne_of h b.at_ (fun z => nomatch z))]; exact h⟩)
    · exact .inr h
  refine ⟨r.len, r.nd, fun i a m h1 h2 => OkO.ext (G := G) (fun _ h => h) ht (fun u hu => ?_) (r.ok i a m h1 h2), fun p hp => ?_, r.pnl⟩
  · rw [upd_ne (fun z => b.ι (by rw [← z]; exact List.mem_of_getElem? h1))]; exact hu
  · rw [upd_ne (b.φ p hp)]; exact r.phi p hp
theorem dn_aside {φ : List (Addr × HO)} {xs ys : List V} (e : H D = some (.lst xs)) {ds : List PyData} {vs : List V} (t : DnAll K φ H ds vs) : DnAll K φ (upd H D (.lst ys)) ds vs :=
  t.mono (fun _ h => h) fun a vs h => by
    rcases h with (h | ⟨u, h⟩) | h
    · exact .inl (.inl (by rw [upd_ne (ne_of h e (fun z => nomatch z))]; exact h))
    · exact .inl (.inr ⟨u, by rw [upd_ne (ne_of h e (fun z => nomatch z))]; exact h⟩)
    · exact .inr h
theorem Ext.aside {H0 : Hp} {G0 : Gh} {S0 : Sto} {u : HO} (x : Ext H0 G0 S0 H G S) (h0 : H0 D = none) : Ext H0 G0 S0 (upd H D u) G S :=
  ⟨x.pre, x.phi, fun b o h n => by rw [upd_ne (ne_of_none h h0)]; exact x.frame b o h n, x.fresh, x.iot, x.phf⟩
/-- it is frozen at last -/
theorem Ext.iceD {H0 : Hp} {G0 : Gh} {S0 : Sto} (x : Ext H0 G0 S0 H G S) (h0 : H0 D = none) : Ext H0 G0 S0 H ⟨G.ι, (D, o) :: G.φ⟩ S :=
  ⟨x.pre, fun p hp => List.mem_cons_of_mem _ (x.phi p hp), x.frame, x.fresh, x.iot, fun p hp => by
    rcases List.mem_cons.mp hp with e | hp
    · rw [e]; exact .inr (.inl h0)
    · exact x.phf p hp⟩
theorem Rep.iceD (r : Rep K H G S) (b : Beside H G D o) : Rep K H ⟨G.ι, (D, o) :: G.φ⟩ S := by
  refine ⟨r.len, r.nd, fun i a m h1 h2 => OkO.ext (G := G) (fun _ h => List.mem_cons_of_mem _ h) (fun _ _ h => h) (fun _ h => h) (r.ok i a m h1 h2), fun p hp => ?_, fun p hp => ?_⟩
  · rcases List.mem_cons.mp hp with e | hp
    · rw [e]; exact b.at_
    · exact r.phi p hp
  · rcases List.mem_cons.mp hp with e | hp
    · rw [e]; exact fun l => b.ι (Live.mem l)
    · exact r.pnl p hp
end

def wipeD (ρ : Ev) : List Nat → Ev
  | [] => ρ
  | v :: vs => (wipeD ρ vs).set v none
theorem RelS.wipe {K : PySem.W.Frag} {H : Hp} {G : Gh} {ρ : Ev} {σ : St} (r : RelS K H G ρ σ) : ∀ vs : List Nat, RelS K H G (wipeD ρ vs) (L2.wipe σ vs)
  | [] => r
  | v :: vs => (r.wipe vs).setNone v
def lcD (g : FG) (t : FT) (e : FE) (ρ : Ev) : List D → M (List PyData)
  | [] => fun S => .ok [] S
  | d :: r => fun S => match g d ρ S with
    | none => .bad
    | some (ρ1, S1) => (t ρ1 S1).bind fun b S2 => if b = true then (e ρ1 S2).bind (fun y S3 => match y with
        | .p v => (lcD g t e ρ r S3).bind fun vs S4 => .ok (v :: vs) S4
        | _ => .bad) else lcD g t e ρ r S2
def eLc (f : FI) (g : FG) (t : FT) (e : FE) (vs : List Nat) (fin : List PyData → M D) : FE := fun ρ S => (f ρ S).bind fun ds S1 => if ds.length ≤ LIM then (noErr (lcD g t e (wipeD ρ vs) ds S1)).bind fin else .bad
def finL : List PyData → M D := fun ys S => .ok (.p (.list ys)) S
def finM : List PyData → M D := fun ys S => .ok (.ob S.length) (S ++ [.lst ys])
def tYesD : FT := fun _ S => .ok true S
/-- how the new list is handed on -/
def FinOk (fin : List PyData → M D) : Prop := ∀ (K : PySem.W.Frag) (W : WX) (σ : St) (H0 H : Hp) (G0 G : Gh) (S0 S : Sto) (ys : List PyData) (vs : List V) (D : Addr) (Q : VK),
  Ext H0 G0 S0 H G S → H0 D = none → Rep K H G S → Beside H G D (.lst vs) → DnAll K G.φ H ys vs → (∀ (S' : Sto) (d : DL.D), fin ys S = .ok d S' → ∀ H' G', Ext H0 G0 S0 H' G' S' → Rep K H' G' S' → ∀ v, Den K H' G' d v → Q v H') → Q (.ref D) H
theorem finL_ok : FinOk finL := fun K W σ H0 H G0 G S0 S ys vs D Q x h0 r b t q =>
  q S _ rfl H _ (x.iceD h0) (r.iceD b) _ (Dn.lst (fun _ q => q _ List.mem_cons_self) (t.mono (fun _ h => List.mem_cons_of_mem _ h) fun _ _ h => h))
theorem finM_ok : FinOk finM := fun K W σ H0 H G0 G S0 S ys vs D Q x h0 r b t q => by
  refine q (S ++ [.lst ys]) (.ob S.length) rfl H (G.add D) ?_ ?_ _ (show Den K H (G.add D) (.ob S.length) (.ref D) from ⟨D, rfl, Gh.add_last r D⟩)
  · refine ⟨fun i a h => ?_, x.phi, x.frame, fun c l => ?_, fun c h => ?_, x.phf⟩
    · have h := x.pre i a h
      show (G.ι ++ [D])[i]? = some a
      rw [List.getElem?_append_left (List.getElem?_eq_some_iff.mp h).1]; exact h
    · rcases Live.add r l with q | q
      · exact x.fresh c q
      · rw [q]; exact .inr h0
    · rcases List.mem_append.mp (show c ∈ G.ι ++ [D] from h) with q | q
      · exact x.iot c q
      · have e : c = D := by simpa using q
        rw [e]; exact .inr h0
  · refine ⟨?_, ?_, fun i a mo h1 h2 => ?_, r.phi, fun q hq l => ?_⟩
    · show (G.ι ++ [D]).length = (S ++ [MO.lst ys]).length
      rw [List.length_append, List.length_append, r.len]; rfl
    · show (G.ι ++ [D]).Nodup
      rw [List.nodup_append]
      refine ⟨r.nd, by simp, fun a ha c hc => ?_⟩
      have e : c = D := by simpa using hc
      subst e
      intro z; subst z; exact b.ι ha
    · have h1 : (G.ι ++ [D])[i]? = some a := h1
      by_cases hi : i < S.length
      · rw [List.getElem?_append_left (by rw [r.len]; exact hi)] at h1
        rw [List.getElem?_append_left hi] at h2
        exact r.ok i a mo h1 h2
      · have hl : i < (S ++ [MO.lst ys]).length := (List.getElem?_eq_some_iff.mp h2).1
        rw [List.length_append] at hl
        have e : i = S.length := by have : i < S.length + 1 := hl; omega
        subst e
        rw [← r.len] at h1
        simp at h1 h2
        subst h1 h2
        exact ⟨vs, b.at_, t⟩
    · rcases Live.add r l with z | z
      · exact r.pnl q hq z
      · exact b.φ q hq z
section
variable {X : Cx} {W : WX}
/-- the reading of a comprehension, by data -/
theorem lc_read {f : FI} {g : FG} {t : FT} {e : FE} {vs : List Nat} {fin : List PyData → M D} (fo : FinOk fin) {σ : St} {H : Hp} {Q : VK} (q : rd X.K W (eLc f g t e vs fin) σ H Q) :
    tLc (rdI X.K W f) (rdG X.K vs g) (rdT X.K W0 t) (rd X.K W0 e) vs σ H Q := by
  obtain ⟨G, S, ρ, rs, rp, q⟩ := q
  refine ⟨G, S, ρ, rs, rp, (Aft.bind q).mono fun ds H1 G1 S1 x1 r1 q1 J gv Da hDa => ?_⟩
  by_cases hl : ds.length ≤ LIM
  · simp only [if_pos hl] at q1
    cases eo : lcD g t e (wipeD ρ vs) ds S1 with
    | bad => rw [eo] at q1; exact q1.elim
    | err x s => rw [eo] at q1; exact q1.elim
    | ok ys Sn =>
      rw [eo] at q1
      have q2 : Aft X.K W σ H1 G1 S1 (fin ys Sn) (QD X.K Q) := q1
      have rs1 : RelS X.K H1 G1 (wipeD ρ vs) (wipe σ vs) := (x1.relS rp rs).wipe vs
      have b0 : Beside (upd H1 Da (.lst [])) G1 Da (.lst []) := ⟨upd_same, r1.notIn hDa, r1.notPhi hDa⟩
      refine ⟨fun i m H => ∃ G S accV accD rest, m = ds.length - i ∧ i ≤ ds.length ∧ Ext H1 G1 S1 H G S ∧ Rep X.K H G S ∧ Beside H G Da (.lst accV) ∧ DnAll X.K G.φ H accD accV ∧ accV.length ≤ i ∧ lcD g t e (wipeD ρ vs) (ds.drop i) S = .ok rest Sn ∧ ys = accD ++ rest,
        ⟨ds.length, G1, S1, [], [], ys, by simp, Nat.zero_le _, Ext.other r1 hDa, Rep.other r1 hDa, b0, .nil, Nat.le_refl _, by simpa using eo, rfl⟩, ?_⟩
      rintro i m H ⟨G, S, accV, accD, rest, rfl, hi, x, r, b, ta, hlen, el, rfl⟩
      by_cases hlt : i < ds.length
      · refine .inr ⟨gv.go H G S x r i hlt, fun H' => ∃ G' S' accV' accD' rest', Ext H1 G1 S1 H' G' S' ∧ Rep X.K H' G' S' ∧ Beside H' G' Da (.lst accV') ∧ DnAll X.K G'.φ H' accD' accV' ∧ accV'.length ≤ i + 1 ∧ lcD g t e (wipeD ρ vs) (ds.drop (i + 1)) S' = .ok rest' Sn ∧ accD ++ rest = accD' ++ rest',
          fun H' ⟨G', S', accV', accD', rest', h1, h2, h3, h4, h5, h6, h7⟩ => ⟨ds.length - (i + 1), by omega, G', S', accV', accD', rest', rfl, hlt, h1, h2, h3, h4, h5, h6, h7⟩, fun v H' y => ?_⟩
        obtain ⟨ex, rp', dv, _⟩ := gv.yld H G S x r i ds[i] (by simp [hlt]) v H' y
        rw [List.drop_eq_getElem_cons hlt] at el
        unfold lcD at el
        split at el
        · cases el
        · rename_i ρ1 S2 eg
          refine ⟨G, S, wipeD ρ vs, ds[i], (x.trans ex).relS r1 rs1, rp', dv, ?_⟩
          rw [eg]
          refine fun H2 G2 x2 r2 σ2 rs2 w2 => ⟨by rw [w2, wipe_wipe], ?_⟩
          have xa := x.trans (ex.trans x2)
          cases et : t ρ1 S2 with
          | bad => rw [et] at el; cases el
          | err _ _ => rw [et] at el; cases el
          | ok bb S3 =>
            rw [et] at el
            refine ⟨G2, S2, ρ1, rs2, r2, Aft.of_ok et fun H3 G3 x3 r3 => ?_⟩
            have xb := xa.trans x3
            have b3 := b.ext ((ex.trans x2).trans x3)
            have ta3 : DnAll X.K G3.φ H3 accD accV := ((ex.trans x2).trans x3).dnAll r ta
            cases bb with
            | false =>
              refine L2.iteF ?_
              simp only [Out.bind_ok, if_neg Bool.false_ne_true] at el
              exact ⟨G3, S3, accV, accD, rest, xb, r3, b3, ta3, by omega, el, rfl⟩
            | true =>
              refine L2.iteT ?_
              simp only [Out.bind_ok, if_pos] at el
              cases ee : e ρ1 S3 with
              | bad => rw [ee] at el; cases el
              | err _ _ => rw [ee] at el; cases el
              | ok yd S4 =>
                rw [ee] at el
                refine ⟨G3, S3, ρ1, x3.relS r2 rs2, r3, Aft.of_ok ee fun H4 G4 x4 r4 w dw => ?_⟩
                have b4 := b3.ext x4
                cases yd with
                | p pv =>
                  simp only [Out.bind_ok] at el
                  cases er : lcD g t e (wipeD ρ vs) (ds.drop (i + 1)) S4 with
                  | bad => rw [er] at el; cases el
                  | err _ _ => rw [er] at el; cases el
                  | ok vs' S5 =>
                    rw [er] at el
                    have el : Out.ok (pv :: vs') S5 = Out.ok rest Sn := el
                    cases el
                    refine ⟨accV, b4.at_, Nat.lt_of_le_of_lt hlen (Nat.lt_of_lt_of_le hlt (Nat.le_trans hl LIM_le)), G4, S4, accV ++ [w], accD ++ [pv], vs', (xb.trans x4).aside hDa, r4.aside b4, ⟨upd_same, b4.ι, b4.φ⟩, ?_, by rw [List.length_append, List.length_singleton]; omega, er, by rw [List.append_assoc]; rfl⟩
                    exact (dn_aside b4.at_ (x4.dnAll r3 ta3)).append (dn_aside b4.at_ (.cons dw .nil))
                | ob _ => cases el
                | ro _ => cases el
                | ext _ => cases el
      · have e : i = ds.length := by omega
        subst e
        rw [List.drop_length] at el
        unfold lcD at el
        cases el
        rw [List.append_nil] at q2
        refine .inl ⟨gv.stop H G _ x r, fo X.K W σ H1 H G1 G S1 _ accD accV Da Q x hDa r b ta fun S' d ef H' G' x' r' v dv => ?_⟩
        rw [ef] at q2
        exact q2 H' G' x' r' v dv
  · simp only [if_neg hl] at q1; exact q1.elim
theorem PTs.imp {ifs : List Expr} {t t' : TT} (h : PTs X ifs t) (i : ∀ σ H Q, t' σ H Q → t σ H Q) : PTs X ifs t' := ⟨fun pins s σ H Q I q => h.run pins s σ H Q I (i σ H Q q)⟩
variable {elt tg iter : Expr} {ifs : List Expr} {scope : Scope} {own : List (Str × Nat)} {pos spos : Pos} {f : FI} {g : FG} {t : FT} {e : FE} {fin : List PyData → M D}
theorem dts_nil : PTs X [] (rdT X.K W tYesD) := PTs.imp pts_nil fun σ H Q ⟨G, S, ρ, rs, rp, q⟩ => q H G Ext.refl rp
theorem dts_one {c : Expr} (h : DT X W c t) : PTs X [c] (rdT X.K W t) := pts_one h.run
theorem de_lc (fo : FinOk fin) (hc : X.calm = true) (hN : X.N.Nodup) (hi : DI X W tg iter f) (ok : BlkOk X.N X.env.scope scope own)
    (hg : ∀ (s : Shared) (H : Hp) (C : Addr) (cl : List (Str × Addr)) (fp : List Addr), DG (X.blk s H scope (compEnvC scope cl C X.env) fp) (own.map (·.2)) tg g)
    (ht : ∀ (s : Shared) (H : Hp) (C : Addr) (cl : List (Str × Addr)) (fp : List Addr), PTs (X.blk s H scope (compEnvC scope cl C X.env) fp) ifs (rdT X.K W0 t))
    (he : ∀ (s : Shared) (H : Hp) (C : Addr) (cl : List (Str × Addr)) (fp : List Addr), DE (X.blk s H scope (compEnvC scope cl C X.env) fp) W0 elt e) (hs : ∀ x, foldedSetIterable iter X.env x = pure x := by intro _; rfl) :
    DE X W (.ListComp elt [⟨tg, iter, ifs, 0⟩] scope pos) (eLc f g t e (own.map (·.2)) fin) :=
  ⟨PE.imp (pe_lc (g := rdG X.K (own.map (·.2)) g) (te := rd X.K W0 e) hc hN hi.run ok (fun s H C cl fp => (hg s H C cl fp).run) ht (fun s H C cl fp => (he s H C cl fp).run) hs) fun _ _ _ q => lc_read fo q⟩
theorem ds_setLc {i : Nat} {y : Str} {py : Pos} (fo : FinOk fin) (hc : X.calm = true) (hN : X.N.Nodup) (hy : X.N[i]? = some y) (hyl : X.env.scope.names.lookup y = some .local)
    (hsw : swapsWith (.ListComp elt [⟨tg, iter, ifs, 0⟩] scope pos) (some (.Name y py)) spos.line X.env = pure true) (hi : DI X W tg iter f) (ok : BlkOk X.N X.env.scope scope own)
    (hg : ∀ (s : Shared) (H : Hp) (C : Addr) (cl : List (Str × Addr)) (fp : List Addr), DG (X.blk s H scope (compEnvC scope cl C X.env) fp) (own.map (·.2)) tg g)
    (ht : ∀ (s : Shared) (H : Hp) (C : Addr) (cl : List (Str × Addr)) (fp : List Addr), PTs (X.blk s H scope (compEnvC scope cl C X.env) fp) ifs (rdT X.K W0 t))
    (he : ∀ (s : Shared) (H : Hp) (C : Addr) (cl : List (Str × Addr)) (fp : List Addr), DE (X.blk s H scope (compEnvC scope cl C X.env) fp) W0 elt e) (hs : ∀ x, foldedSetIterable iter X.env x = pure x := by intro _; rfl) :
    DS X W (.Assign [.Name y py] (.ListComp elt [⟨tg, iter, ifs, 0⟩] scope pos) spos) (sSet i (eLc f g t e (own.map (·.2)) fin)) := by
  refine ⟨PS.imp (ps_setLc (g := rdG X.K (own.map (·.2)) g) (te := rd X.K W0 e) hc hN hy hyl hsw hi.run ok (fun s H C cl fp => (hg s H C cl fp).run) ht (fun s H C cl fp => (he s H C cl fp).run) hs) fun E σ H ⟨G, S, ρ, rs, rp, q⟩ => ?_⟩
  exact lc_read fo ⟨G, S, ρ, rs, rp, (AftS.st q rs rp).mono fun d H1 G1 S1 x1 r1 q1 v dv => AftS.next q1 Ext.refl r1 ((x1.relS rp rs).set dv i)⟩
end
end DL

namespace DL
open PySem L2 PySem.Spec PyProof.Rows

/-- a def keeps its promise wherever no repr is under way -/
structure FnG (P : Program) (w : World) (K : PySem.W.Frag) (mg : Str → Option Value) (base : Heap) (k : Nat) (f : Addr) (fd : FuncData) (ps : List Str) (sp : Sp) : Prop where
  len : ∀ vs H Q E, sp vs H Q E → vs.length = ps.length
  run : ∀ (A : Around) (outer : List Env) (s : Shared) (H : Hp) (args : Args) (us : List Value) (vs : List V) (Q : VK) (E : XK), Room k A → A.guards = some [] → Env0 P w K mg base A outer s H → BindsTo s fd args (ps.zip us) → Vals vs us → sp vs H Q E →
    codeAny (model P w) A (.call (.ref f) args) (CR CX0 outer P w H s Q E) s

theorem fnG_of {P : Program} {w : World} {K : PySem.W.Frag} {mg : Str → Option Value} {base : Heap} {x qual : Str} {st : Stmt} {f : Addr} {fd : FuncData} {N ps : List Str} {k : Nat} {sp : Sp} (F : Fun K x qual st f fd) (Sc : FnScope N ps (defScope st)) (len : ∀ vs H Q E, sp vs H Q E → vs.length = ps.length)
    (hbody : ∀ (cdv : Value) (A : Around) (outer : List Env) (s : Shared) (H : Hp) (vs : List V) (Q : VK) (E : XK), Room k (A.deeper (envOfC qual (defScope st) s.heap.objs.size f cdv)) → A.guards = some [] → sp vs H Q E →
      ∃ t, PSs (cxOf CX0 P w K mg base N qual (defScope st) f cdv A outer s H E).nox (defBody st) t ∧ t { nx := fun _ H' => Q .non H', rt := Q } (start N vs) H) : FnG P w K mg base (k + 1) f fd ps sp := by
  obtain ⟨oc, od, kV, doc, pm, an, cdv, ct, osl, rfl, lk, hcd⟩ := F.ex
  refine ⟨len, fun A outer s H args us vs Q E hr hgd e0 hb r hsp => ?_⟩
  have hl := len _ _ _ _ hsp
  have keepB : ∀ b o, base.get? b = some o → s.heap.get? b = some o := fun b o e => (e0.bs b o e).1
  have KX : K.In s.heap := e0.mod.kin.keeps keepB
  have lim : s.heap.NoLimit := e0.mod.nolimit.keeps keepB
  obtain ⟨t, ht, hq⟩ := hbody cdv A outer s H vs Q E (hr.deeper _) hgd hsp
  refine codeAny_call_function hr.depth (KX _ _ lk) rfl Sc.co Sc.gen rfl (PySem.W.codeRec_of KX hcd) (hb _ _ _ _ ?_)
  refine wpAny_newFunctionEnv_cells Sc.kind (fun y hy => ?_) fun env he s1 xx => ?_
  · obtain ⟨n, v⟩ := y
    rcases Sc.par n (List.of_mem_zip hy).1 with q | q
    · exact .inl q
    · exact .inr ⟨q, PySem.W.cellsFrom_some _ _ _ (.inl q)⟩
  subst he
  refine ⟨lim.keeps xx.toInCall.keep, codeAny_func ?_⟩
  have I := inv_start (CX := CX0) (E := E) Sc hr.hd e0 hl r xx
  refine wpAny_mono (ht.nox.run [] s1 (start N vs) H _ I hq) (fun fl s' hs => ?_) fun e s' hs => hs
  cases fl with
  | ret u =>
    obtain ⟨v, σ', H', J, rv, q⟩ := hs
    exact ⟨v, H', J.os, J.bare, J.base, J.hok, rv, q⟩
  | next =>
    obtain ⟨σ', H', J, q⟩ := hs
    exact ⟨.non, H', J.os, J.bare, J.base, J.hok, rfl, q⟩
  | brk =>
    obtain ⟨_, _, _, q⟩ := hs
    exact False.elim q
  | cont =>
    obtain ⟨_, _, _, q⟩ := hs
    exact False.elim q

/-- the later objects of the store are forgotten when a def is left -/
def cutD (n : Nat) : Out D → Out D
  | .ok (.ob i) s => if i < n then .ok (.ob i) (s.take n) else .ok (.ob i) s
  | .ok d s => .ok d (s.take n)
  | o => o
def runF (m : Nat) (body : FS) : List D → M D := fun ds S => match body (ds.map some ++ List.replicate (m - ds.length) none) S with
  | some (.ret d, s) => .ok d s
  | some (.next _, s) => .ok (.p .none) s
  | some (.exc x _, s) => .err x s
  | _ => .bad
def spD (K : PySem.W.Frag) (n : Nat) (g : List D → M D) : Sp := fun vs H Q _ => ∃ G S ds, ds.length = n ∧ DenL K H G ds vs ∧ Rep K H G S ∧ Aft K W0 [] H G S (cutD S.length (g ds S)) (QD K Q)
theorem den_cut {K : PySem.W.Frag} {H : Hp} {G : Gh} {n : Nat} {d : D} {v : V} (h : Den K H G d v) (hi : ∀ i, d = .ob i → i < n) : Den K H ⟨G.ι.take n, G.φ⟩ d v := by
  cases d with
  | p x => exact h
  | ob i =>
    obtain ⟨a, rfl, ha⟩ := h
    exact ⟨a, rfl, by show (G.ι.take n)[i]? = some a; rw [List.getElem?_take, if_pos (hi i rfl)]; exact ha⟩
  | ro xs => exact h
  | ext u => exact h
theorem Aft.uncut {K : PySem.W.Frag} {H : Hp} {G : Gh} {S S' : Sto} {d : D} {Q : VK} (rp : Rep K H G S) (q : Aft K W0 [] H G S (cutD S.length (.ok d S')) (QD K Q)) {H' : Hp} {G' : Gh} {v : V} (x : Ext H G S H' G' S') (r : Rep K H' G' S') (dv : Den K H' G' d v) : Q v H' := by
  have fin : (∀ i, d = .ob i → i < S.length) → Aft K W0 [] H G S (.ok d (S'.take S.length)) (QD K Q) → Q v H' := fun hi q => q H' _ (x.cut rp) (r.cut _) v (den_cut dv hi)
  cases d with
  | p y => exact fin (fun i e => nomatch e) q
  | ro y => exact fin (fun i e => nomatch e) q
  | ext y => exact fin (fun i e => nomatch e) q
  | ob i =>
    by_cases hi : i < S.length
    · have q : Aft K W0 [] H G S (if i < S.length then .ok (.ob i) (S'.take S.length) else .ok (.ob i) S') (QD K Q) := q
      rw [if_pos hi] at q
      exact fin (fun j e => by cases e; exact hi) q
    · have q : Aft K W0 [] H G S (if i < S.length then .ok (.ob i) (S'.take S.length) else .ok (.ob i) S') (QD K Q) := q
      rw [if_neg hi] at q
      exact q H' G' x r v dv
theorem fn_data {P : Program} {w : World} {K : PySem.W.Frag} {mg : Str → Option Value} {base : Heap} {x qual : Str} {st : Stmt} {f : Addr} {fd : FuncData} {N ps : List Str} {k m n : Nat} (F : Fun K x qual st f fd) (Sc : FnScope N ps (defScope st)) (hm : N.length = m) (hn : ps.length = n) (body : FS)
    (hb : ∀ (cdv : Value) (A : Around) (outer : List Env) (s : Shared) (H : Hp) (E : XK), Room k (A.deeper (envOfC qual (defScope st) s.heap.objs.size f cdv)) → A.guards = some [] → DSs (cxOf CX0 P w K mg base N qual (defScope st) f cdv A outer s H E).nox W0 (defBody st) body) :
    FnG P w K mg base (k + 1) f fd ps (spD K n (runF m body)) := by
  subst hm hn
  refine fnG_of F Sc (fun vs H Q E ⟨G, S, ds, hl, dl, _⟩ => by rw [← dl.length]; exact hl) fun cdv A outer s H vs Q E hr hgd ⟨G, S, ds, hl, dl, rp, q⟩ => ?_
  refine ⟨_, (hb cdv A outer s H E hr hgd).run, G, S, ds.map some ++ List.replicate (N.length - ds.length) none, ?_, rp, ?_⟩
  · rw [dl.length]
    exact RelS.ofArgs (N.length - vs.length) dl
  · unfold runF at q
    cases eo : body (ds.map some ++ List.replicate (N.length - ds.length) none) S with
    | none => rw [eo] at q; exact q
    | some pr =>
      obtain ⟨fl, S'⟩ := pr
      rw [eo] at q
      cases fl with
      | ret d => exact fun H' G' v x r dv => Aft.uncut rp q x r dv
      | next ρ' => exact fun H' G' σ' x r rs => Aft.uncut (d := .p .none) rp q x r .non
      | brk ρ' => exact q.elim
      | cont ρ' => exact q.elim
      | exc y ρ' => exact fun H' G' σ' d x r rs e => q H' G' d x r e
/-- nothing can be asked of a def without fuel -/
theorem fn_none {P : Program} {w : World} {K : PySem.W.Frag} {mg : Str → Option Value} {base : Heap} {f : Addr} {fd : FuncData} {ps : List Str} {k n : Nat} (hn : ps.length = n) : FnG P w K mg base k f fd ps (spD K n fun _ _ => .bad) :=
  ⟨fun vs H Q E ⟨_, _, _, _, _, _, q⟩ => q.elim, fun _ _ _ _ _ _ _ _ _ _ _ _ _ _ ⟨_, _, _, _, _, _, q⟩ => q.elim⟩

def eCall (n : Nat) (g : List D → M D) (fa : FA) : FE := fun ρ S => (fa ρ S).bind fun ds S1 => if ds.length = n then noErr (cutD S1.length (g ds S1)) else .bad
section
variable {X : Cx} {W : WX} {k n : Nat} {f : Addr} {fd : FuncData} {ps : List Str} {sp : Sp} {x : Str} {p pos : Pos} {e : Expr} {es : List Expr} {fa : FA} {g : List D → M D}
theorem run_fnG {pins : List (Addr × Obj)} {σ : L2.St} {H : Hp} {s : Shared} {Q : VK} {us : List Value} {vs : List V} (F : FnG X.prog X.w X.K X.mg X.base k f fd ps sp) (hr : Room k X.A) (hgd : X.A.guards = some []) (hb : Binds X.K fd ps [])
    (I : Inv X pins σ H s) (r : Vals vs us) (h : sp vs H Q E0) : wpAny (model X.prog X.w) X.A (call (.ref f) us) (EP X pins σ Q) X.xe s := by
  have hl : us.length = ps.length := by rw [← r.length]; exact F.len _ _ _ _ h
  have hbs := hb s us I.kIn (by simpa using hl)
  rw [List.append_nil] at hbs
  refine wpAny_call (codeAny_mono (F.run X.A X.stack s H ⟨us, []⟩ us vs Q E0 hr hgd I.env0 hbs r h) fun res s' hq => ?_)
  match res, hq with
  | .error e, hq => exact False.elim hq
  | .ok (.ret u), hq => exact I.after hq
  | .ok .next, hq => exact False.elim hq
  | .ok .brk, hq => exact False.elim hq
  | .ok .cont, hq => exact False.elim hq
theorem call_read {σ : L2.St} {H : Hp} {Q : VK} (q : rd X.K W (eCall n g fa) σ H Q) : rdA X.K W fa σ H fun vs H1 => spD X.K n g vs H1 Q E0 := by
  obtain ⟨G, S, ρ, rs, rp, q⟩ := q
  refine ⟨G, S, ρ, rs, rp, (Aft.bind q).mono fun ds H1 G1 S1 x1 r1 q1 vs dv => ?_⟩
  by_cases hl : ds.length = n
  · simp only [if_pos hl] at q1
    exact ⟨G1, S1, ds, hl, dv, r1, Aft.noErr q1⟩
  · simp only [if_neg hl] at q1; exact q1.elim
theorem de_call (F : FnG X.prog X.w X.K X.mg X.base k f fd ps (spD X.K n g)) (hr : Room k X.A) (hgd : X.A.guards = some []) (hg : Gl X x) (hm : X.mg x = some (.ref f)) (hk : PySem.W.keepIn X.K (.ref f) = true) (hb : Binds X.K fd ps [])
    (ha : DA X W (e :: es) fa) (hdb : (x == ("__debug__" : Str)) = false := by decide) (he : starEach (e :: es) X.env = (false, eval e X.env) :: starEach es X.env := by rfl) (hpl : (backTo pos (starEach es X.env)).any (·.1) = false := by rfl) :
    DE X W (.Call (.Name x p) (e :: es) [] pos) (eCall n g fa) := by
  refine ⟨⟨fun pins s σ H Q I h => wpAny_Call_Name_kw (ld_glob I hg hm ?_ hdb)⟩⟩
  refine PySem.W.callWith_K (h₀ := X.base) I.ok.mod.kin hk (thn (ha.run.run pos pins s σ H _ I (call_read h)) fun us s1 ⟨vs, H1, I1, r, q⟩ => ⟨I1.kIn, run_fnG F hr hgd hb I1 r q⟩) he hpl
theorem de_call0 (F : FnG X.prog X.w X.K X.mg X.base k f fd ps (spD X.K n g)) (hr : Room k X.A) (hgd : X.A.guards = some []) (hg : Gl X x) (hm : X.mg x = some (.ref f)) (hk : PySem.W.keepIn X.K (.ref f) = true) (hb : Binds X.K fd ps [])
    (hdb : (x == ("__debug__" : Str)) = false := by decide) : DE X W (.Call (.Name x p) [] [] pos) (eCall n g aNil) := by
  refine ⟨⟨fun pins s σ H Q I h => wpAny_Call_Name_kw (ld_glob I hg hm ?_ hdb)⟩⟩
  obtain ⟨G, S, ρ, rs, rp, q⟩ := call_read h
  exact PySem.W.callWith_K0 I.kIn hk (run_fnG (us := []) F hr hgd hb I .nil (q H G Ext.refl rp [] .nil))
end

/-- what the law's def is to do: at every script, True -/
def spLaw (K : PySem.W.Frag) (g : List D → M D) : Sp := spD K 1 g
theorem law_go {P : Program} {w : World} {K : PySem.W.Frag} {mg mb : Str → Option Value} {k : Nat} {fa a : Addr} {fd : FuncData} {x : Str} {sp : Sp} {s₁ : Shared} {vs : List Value} {ns : List Int}
    (KX : K.In s₁.heap) (hns : s₁.heap.Ns mainGlobals mg) (hb : s₁.heap.Ns builtinsNs mb) (hbb : ∀ x : Str, x ≠ "__name__" → mb x = bootBuiltins x) (hlim : s₁.heap.NoLimit) (hg : s₁.gens = #[])
    (ha : s₁.heap.get? a = some { cls := .type "list", data := .seq vs.toArray }) (hi : IntsAre vs ns) (hl : ns.length ≤ sizeLine) (hr : Room k callerA)
    (F : ∀ base : Heap, K.In base → base.Ns mainGlobals mg → FnG P w K mg base k fa fd [x] sp) (hbind : ∀ (s : Shared) (u : Value), BindsTo s fd ⟨[u], []⟩ [(x, u)])
    (hsp : ∀ H : Hp, Only H → SqL K H a (ns.map V.int) → sp [.ref a] H (fun v _ => v = .bl true) fun _ _ _ => False) :
    codeAny (model P w) callerA (.call (.ref fa) ⟨[.ref a], []⟩) (fun r s' => r = .ok (.ret (.bool true)) ∧ OldK s₁.heap s'.heap ∧ s'.os = s₁.os ∧ AllBare s'.gens) s₁ := by
  have rv := vals_ints hi
  have lenV := hi.length
  have main : ∀ H : Hp, Only H → SqL K H a (ns.map V.int) → HOk P w H s₁.heap → (∀ b, H b ≠ none → b = a) → (H a ≠ none → K.lookup a = none) →
      codeAny (model P w) callerA (.call (.ref fa) ⟨[.ref a], []⟩) (fun r s' => r = .ok (.ret (.bool true)) ∧ OldK s₁.heap s'.heap ∧ s'.os = s₁.os ∧ AllBare s'.gens) s₁ := by
    intro H hO hS hok hA hK
    have free : ∀ {b : Addr} {o : Obj} {es : Array DictEntry} {ep : Nat}, s₁.heap.get? b = some o → o.data = .dict es ep → H b = none := fun {b o es ep} e d => by
      by_cases q : H b = none
      · exact q
      · have e' := hA b q
        subst e'
        rw [ha] at e; cases e
        cases (show Data.seq vs.toArray _ = Data.dict es ep from d)
    have nsK : ∀ {b : Addr} {m : Str → Option Value}, s₁.heap.Ns b m → (hidT s₁.heap H).Ns b m := fun ⟨o, es, ep, e, d, r⟩ => ⟨o, es, ep, hidT_get e (free e d), d, r⟩
    have hKb : K.In (hidT s₁.heap H) := fun b o e => hidT_get (KX b o e) (by
      by_cases q : H b = none
      · exact q
      · have e' := hA b q
        subst e'
        rw [hK q] at e; cases e)
    obtain ⟨mc, l1, l2⟩ := id hlim
    have hM : Mod K mg (hidT s₁.heap H) := ⟨hKb, nsK hns, ⟨mb, nsK hb, hbb⟩, ⟨mc, nsK l1, l2⟩⟩
    have e0 : Env0 P w K mg (hidT s₁.heap H) callerA [] s₁ H := ⟨rfl, hM, fun b o e => of_hidT e, Nat.le_of_eq (hidT_size _ _), trivial, fun b hb => absurd (show b ∈ ([] : List Addr) from hb) (by simp), hok, .of_eq hg⟩
    refine codeAny_mono ((F _ hKb (nsK hns)).run callerA [] s₁ H ⟨[.ref a], []⟩ [.ref a] [.ref a] _ _ hr rfl e0 (hbind s₁ (.ref a)) (.cons rfl .nil) (hsp H hO hS)) fun r s' h => ?_
    match r, h with
    | .error e, h => exact False.elim h
    | .ok .next, h => exact False.elim h
    | .ok .brk, h => exact False.elim h
    | .ok .cont, h => exact False.elim h
    | .ok (.ret u), h =>
      obtain ⟨v, H', os, bare, un, hok', r', q⟩ := h
      have q' : v = .bl true := q
      subst q'
      obtain rfl : u = Value.bool true := r'
      refine ⟨rfl, OldK.of_keep fun b o e => ?_, os, bare⟩
      rcases hO b with z | ⟨ob, xs, z⟩
      · exact un.keep b o e z (fun y => absurd (show b ∈ ([] : List Addr) from y) (by simp)) (by simp)
      · obtain ⟨e1, _⟩ := hok b _ z
        obtain ⟨e2, _⟩ := hok' b _ (un.frzs b ob _ z)
        rw [e] at e1; cases e1
        exact e2
  cases hk : K.lookup a with
  | some o =>
    have e := KX a o hk
    rw [ha] at e
    cases e
    refine main (fun _ => none) (fun _ => .inl rfl) (.inr ⟨_, vs.toArray, _, hk, rfl, rfl, rfl, by rw [List.size_toArray, lenV]; exact hl, by simpa using rv⟩) (fun b u z => by cases (show (none : Option HO) = some u from z)) (fun b z => absurd rfl z) fun z => absurd rfl z
  | none =>
    refine main (upd (fun _ => none) a (.frz { cls := .type "list", data := .seq vs.toArray } (.lst (ns.map V.int)))) (fun b => ?_) (.inl (.inr ⟨{ cls := .type "list", data := .seq vs.toArray }, upd_same⟩)) (fun b u z => ?_) (fun b z => ?_) fun _ => hk
    · by_cases hb : b = a
      · subst hb; exact .inr ⟨_, _, upd_same⟩
      · rw [upd_ne hb]; exact .inl rfl
    · by_cases hb : b = a
      · subst hb
        rw [upd_same] at z; cases z
        exact ⟨ha, by rw [List.length_map]; exact hl, vs, _, rv, ha⟩
      · rw [upd_ne hb] at z; cases z
    · by_cases hb : b = a
      · exact hb
      · rw [upd_ne hb] at z; exact absurd rfl z
def nums (ns : List Int) : List PyData := ns.map .int
theorem nums_dn {K : PySem.W.Frag} {φ : List (Addr × HO)} {H : Hp} : ∀ ns : List Int, DnAll K φ H (nums ns) (ns.map V.int)
  | [] => .nil
  | n :: ns => .cons (.int n) (nums_dn ns)
/-- at the law's entry: the store is empty, the script is a list that is only read -/
theorem law_sp {K : PySem.W.Frag} {g : List D → M D} {ns : List Int} {a : Addr} {H : Hp} (h : ∃ S', g [.ro (nums ns)] [] = .ok (.p (.bool true)) S') (hO : Only H) (hS : SqL K H a (ns.map V.int)) : spD K 1 g [.ref a] H (fun v _ => v = .bl true) fun _ _ _ => False := by
  obtain ⟨S', e⟩ := h
  have fin : ∀ (φ : List (Addr × HO)), Holds φ H → RL K φ a (ns.map V.int) → spD K 1 g [.ref a] H (fun v _ => v = .bl true) fun _ _ _ => False := fun φ hφ hr => by
    refine ⟨⟨[], φ⟩, [], [.ro (nums ns)], rfl, .cons ⟨a, _, rfl, hr, nums_dn ns⟩ .nil, ⟨rfl, List.nodup_nil, fun i b o h => by simp at h, hφ, fun p _ l => ?_⟩, ?_⟩
    · obtain ⟨i, o, h, _⟩ := l
      simp at h
    · rw [e]
      exact fun H' G' x r v dv => den_bool dv
  rcases hS with (h | ⟨o, h⟩) | h
  · exact fin [(a, .lst (ns.map V.int))] (fun p hp => by obtain rfl := List.mem_singleton.mp hp; exact h) fun H' q => SqL.of (q _ (List.mem_singleton.mpr rfl))
  · exact fin [(a, .frz o (.lst (ns.map V.int)))] (fun p hp => by obtain rfl := List.mem_singleton.mp hp; exact h) fun H' q => .inl (.inr ⟨o, q _ (List.mem_singleton.mpr rfl)⟩)
  · exact fin [] (fun p hp => by cases hp) fun H' _ => .inr h
/-- from the law's mirror to the walk that k_head leaves -/
theorem walk_data {l : PySem.W.OpenLaw} {k : Nat} {q : Program} {loose : List Str} {XP : (Str → Option Value) → Heap → Prop} {YP : World → Heap → Prop} {d : DefRec} {K : Params → PySem.W.Frag} {x : Str} {g : List D → M D}
    (hn : l.most = some 63) (hdf : d.params.defaults = []) (hr : Room k callerA) (hY : ∀ (w : World) (h : Heap), YP w h → (K w.params).In h)
    (F : ∀ (w : World) (mg : Str → Option Value) (fa : Addr) (h : Heap), (K w.params).In h → h.Ns mainGlobals mg → mg d.name = some (.ref fa) →
      ∃ fd : FuncData, (∀ (s : Shared) (u : Value), BindsTo s fd ⟨[u], []⟩ [(x, u)]) ∧ ∀ base : Heap, (K w.params).In base → base.Ns mainGlobals mg → FnG l.prog w (K w.params) mg base k fa fd [x] (spD (K w.params) 1 g))
    (hg : ∀ ns : List Int, ns.length ≤ 63 → ∃ S', g [.ro (nums ns)] [] = .ok (.p (.bool true)) S') : PySem.W.WalkO q loose XP YP l.row.toRowW d [] (fun f vs => PySem.call f vs) := by
  refine Att.attach_call hn hdf fun w s₀ s₁ mg mb fa o pm cd doc a vs ns G Y ho hd hcd hmg hobj hints hlen hgn => ?_
  have KX := hY w _ Y
  obtain ⟨fd, hb, hF⟩ := F w mg fa _ KX G.T.g hmg
  exact law_go KX G.T.g G.T.b G.T.builtins G.T.nolimit hgn hobj hints (Nat.le_trans hlen (by decide)) hr hF hb fun H hO hS => law_sp (hg ns hlen) hO hS
end DL

namespace DL
open PySem L2 PySem.Spec PyProof.Rows

mutual
inductive RD (h : Heap) : Value → PyData → Prop
  | none : RD h .none .none
  | bool (b) : RD h (.bool b) (.bool b)
  | int (i t) : RD h (.int i t) (.int i)
  | str (x t) : RD h (.str x t) (.str x)
  | list {a o vs n xs} : h.get? a = some o → o.cls = .type "list" → o.data = .seq vs n → RDs h vs.toList xs → RD h (.ref a) (.list xs)
  | tuple {a o vs n xs} : h.get? a = some o → o.cls = .type "tuple" → o.data = .seq vs n → RDs h vs.toList xs → RD h (.ref a) (.tuple xs)
  | dict {a o es n kvs} : h.get? a = some o → o.cls = .type "dict" → o.data = .dict es n → (a == sysModules) = false → RDs h (es.toList.map (·.key)) (kvs.map (·.1)) → RDs h (es.toList.map (·.val)) (kvs.map (·.2)) → RD h (.ref a) (.dict kvs)
inductive RDs (h : Heap) : List Value → List PyData → Prop
  | nil : RDs h [] []
  | cons {v vs d ds} : RD h v d → RDs h vs ds → RDs h (v :: vs) (d :: ds)
end
mutual
theorem RD.reads {h : Heap} : ∀ {v : Value} {d : PyData}, RD h v d → ∃ as, Reads h v d as
  | _, _, .none => ⟨_, .none⟩
  | _, _, .bool b => ⟨_, .bool b⟩
  | _, _, .int i t => ⟨_, .int i t⟩
  | _, _, .str x t => ⟨_, .str x t⟩
  | _, _, .list h1 h2 h3 h4 => let ⟨as, r⟩ := h4.reads; ⟨_, .list h1 h2 h3 r⟩
  | _, _, .tuple h1 h2 h3 h4 => let ⟨as, r⟩ := h4.reads; ⟨_, .tuple h1 h2 h3 r⟩
  | _, _, .dict h1 h2 h3 _ h4 h5 => let ⟨as, r⟩ := h4.reads; let ⟨bs, r'⟩ := h5.reads; ⟨_, .dict h1 h2 h3 r r'⟩
theorem RDs.reads {h : Heap} : ∀ {vs : List Value} {ds : List PyData}, RDs h vs ds → ∃ as, ReadsAll h vs ds as
  | _, _, .nil => ⟨_, .nil⟩
  | _, _, .cons a b => let ⟨as, r⟩ := a.reads; let ⟨bs, r'⟩ := b.reads; ⟨_, .cons r r'⟩
end
section
variable {prog : Program} {w : World} {h₀ : Heap}
theorem deepD {n m : Nat} : n < 1 + max n m := by omega
mutual
theorem RD.reprK : ∀ {v : Value} {d : PyData}, RD h₀ v d → d.showable = true → d.shown.length ≤ sizeLine → ∃ bs, ReadAtMost h₀ d.depth bs ∧ ReprK prog w bs h₀ d.depth v d.shown
  | _, _, .none, _, _ => ⟨[], (fun _ h => nomatch h), by simp only [PyData.shown]; exact .of_is ReprIs.none _ _ _⟩
  | _, _, .bool b, _, _ => ⟨[], (fun _ h => nomatch h), by simp only [PyData.shown]; exact .of_is (ReprIs.bool b) _ _ _⟩
  | _, _, .int i t, hs, _ => ⟨[], (fun _ h => nomatch h), by simp only [PyData.shown]; exact .of_is (ReprIs.int t (by simpa [PyData.showable] using hs)) _ _ _⟩
  | _, _, .str x t, _, hz => ⟨[], (fun _ h => nomatch h), by simp only [PyData.shown]; exact .of_is (ReprIs.str x t (by simpa only [PyData.shown] using hz)) _ _ _⟩
  | _, _, .list (a := a) (vs := vs) (xs := xs) h1 h2 h3 h4, hs, hz => by
    simp only [PyData.shown] at hz
    obtain ⟨bs, hb, hk⟩ := RDs.reprK h4 (by simpa [PyData.showable] using hs) fun t ht => Nat.le_trans (listText_mem_le ht) hz
    obtain ⟨as, rr⟩ := h4.reads
    have r := Reads.list h1 h2 h3 rr
    refine ⟨a :: bs, ReadAtMost.cons r (by simp only [PyData.depth]; omega) hb, ?_⟩
    have hna := not_mem_of_deeper r (by simp only [PyData.depth]; omega) hb
    simp only [PyData.depth, PyData.shown]
    obtain ⟨l⟩ := vs
    cases l with
    | nil =>
      cases (show RDs h₀ [] xs from h4)
      simp only [PyData.shownAll, listText_nil]
      exact ReprK.listEmpty h1 h2 h3
    | cons x l => exact ReprK.list h1 h2 h3 hna (by simpa using hk.length_eq) fun i y e => hk.item i y (by simpa using e)
  | _, _, .tuple (a := a) (xs := xs) h1 h2 h3 h4, hs, hz => by
    simp only [PyData.shown] at hz
    obtain ⟨bs, hb, hk⟩ := RDs.reprK h4 (by simpa [PyData.showable] using hs) fun t ht => Nat.le_trans (tupleText_mem_le ht) hz
    obtain ⟨as, rr⟩ := h4.reads
    have r := Reads.tuple h1 h2 h3 rr
    refine ⟨a :: bs, ReadAtMost.cons r (by simp only [PyData.depth]; omega) hb, ?_⟩
    have hna := not_mem_of_deeper r (by simp only [PyData.depth]; omega) hb
    simp only [PyData.depth, PyData.shown]
    exact ReprK.tuple h1 h2 h3 hna hk
  | _, _, .dict (a := a) (es := es) (kvs := kvs) h1 h2 h3 hsys h4 h5, hs, hz => by
    simp only [PyData.shown] at hz
    obtain ⟨hs1, hs2⟩ := PyData.showableKv_split kvs (by simpa [PyData.showable] using hs)
    have z1 : ∀ t ∈ PyData.shownAll (kvs.map (·.1)), t.length ≤ sizeLine := fun t ht => by
      obtain ⟨p, hp, hl⟩ := PyData.shownKv_key_le kvs t ht
      exact Nat.le_trans hl (Nat.le_trans (dictText_mem_le hp) hz)
    have z2 : ∀ t ∈ PyData.shownAll (kvs.map (·.2)), t.length ≤ sizeLine := fun t ht => by
      obtain ⟨p, hp, hl⟩ := PyData.shownKv_val_le kvs t ht
      exact Nat.le_trans hl (Nat.le_trans (dictText_mem_le hp) hz)
    obtain ⟨b1, hb1, k1⟩ := RDs.reprK h4 hs1 z1
    obtain ⟨b2, hb2, k2⟩ := RDs.reprK h5 hs2 z2
    obtain ⟨as, r1⟩ := h4.reads
    obtain ⟨cs, r2⟩ := h5.reads
    have r := Reads.dict h1 h2 h3 r1 r2
    have hb : ReadAtMost h₀ (PyData.depthKv kvs) (b1 ++ b2) := (hb1.mono (PyData.depthAll_keys_le kvs)).append (hb2.mono (PyData.depthAll_vals_le kvs))
    refine ⟨a :: (b1 ++ b2), ReadAtMost.cons r (by simp only [PyData.depth]; omega) hb, ?_⟩
    have hna := not_mem_of_deeper r (by simp only [PyData.depth]; omega) hb
    simp only [PyData.depth, PyData.shown, PyData.shownKv_eq]
    exact ReprK.dict h1 h2 h3 hsys hna (ReprEntriesK.of_two es.toList _ _ (k1.more_le (fun b hb => List.mem_append_left _ hb) (PyData.depthAll_keys_le kvs)) (k2.more_le (fun b hb => List.mem_append_right _ hb) (PyData.depthAll_vals_le kvs)))
theorem RDs.reprK : ∀ {vs : List Value} {ds : List PyData}, RDs h₀ vs ds → PyData.showableAll ds = true → (∀ t ∈ PyData.shownAll ds, t.length ≤ sizeLine) → ∃ bs, ReadAtMost h₀ (PyData.depthAll ds) bs ∧ ReprAllK prog w bs h₀ (PyData.depthAll ds) vs (PyData.shownAll ds)
  | _, _, .nil, _, _ => ⟨[], (fun _ h => nomatch h), by simp only [PyData.shownAll]; exact .nil⟩
  | _, _, .cons (d := d) (ds := ds) r rs, hs, hz => by
    simp only [PyData.showableAll, Bool.and_eq_true] at hs
    simp only [PyData.shownAll] at hz
    obtain ⟨b1, hb1, k1⟩ := RD.reprK r hs.1 (hz _ List.mem_cons_self)
    obtain ⟨b2, hb2, k2⟩ := RDs.reprK rs hs.2 fun t ht => hz t (List.mem_cons_of_mem _ ht)
    simp only [PyData.depthAll, PyData.shownAll]
    exact ⟨b1 ++ b2, (hb1.mono (Nat.le_max_left _ _)).append (hb2.mono (Nat.le_max_right _ _)), .cons ((k1.more fun b hb => List.mem_append_left _ hb).level_le (Nat.le_max_left _ _)) (k2.more_le (fun b hb => List.mem_append_right _ hb) (Nat.le_max_right _ _))⟩
end
theorem repr_RD {v : Value} {d : PyData} {A : Around} {E : Value → Shared → Prop} {s : Shared} {Q : Value → Shared → Prop} (r : RD s.heap v d) (hs : d.showable = true) (hz : d.shown.length ≤ sizeLine) (hg : A.guards = some []) (hu : A.units + (d.depth + 1) < cLine)
    (hQ : ∀ h' u tk, (∀ b o, s.heap.get? b = some o → h'.get? b = some o) → Q (.str d.shown u) { s with heap := h', toks := tk }) : wpAny (model prog w) A (call (.builtin "repr") [v]) Q E s := by
  have hu1 : A.in1.units + d.depth < cLine := by show A.units + 1 + d.depth < cLine; omega
  cases r with
  | none => exact PySem.P.repr_of_none (by simpa only [PyData.shown] using hQ s.heap s.toks (s.toks + 1) fun _ _ e => e)
  | bool b => exact PySem.P.repr_of_bool (by simpa only [PyData.shown] using hQ s.heap s.toks (s.toks + 1) fun _ _ e => e)
  | int i t => exact PySem.P.repr_of_int (by simpa [PyData.showable] using hs) (by simpa only [PyData.shown] using hQ s.heap s.toks (s.toks + 1) fun _ _ e => e)
  | str x t => exact PySem.P.repr_of_str (by simpa only [PyData.shown] using hQ s.heap s.toks (s.toks + 1) fun _ _ e => e) (by simpa only [PyData.shown] using hz)
  | list h1 h2 h3 h4 =>
    rename_i a o vs n xs
    simp only [PyData.shown] at hz hQ
    obtain ⟨bs, hb, hk⟩ := RDs.reprK (prog := prog) (w := w) h4 (by simpa [PyData.showable] using hs) fun t ht => Nat.le_trans (listText_mem_le ht) hz
    obtain ⟨as, rr⟩ := h4.reads
    have hna := not_mem_of_deeper (Reads.list h1 h2 h3 rr) (by simp only [PyData.depth]; omega) hb
    simp only [PyData.depth] at hu1
    refine call_repr_slot (by omega) ⟨o, h1, h2⟩ F.slot_list_repr.toG ?_
    obtain ⟨l⟩ := vs
    cases l with
    | nil =>
      cases (show RDs s.heap [] xs from h4)
      simp only [PyData.shownAll, listText_nil] at hQ
      exact call_list_repr_empty ⟨o, h1, h2⟩ h1 h3 ⟨_, _, rfl, hQ s.heap _ _ fun _ _ e => e⟩
    | cons x l => exact call_list_reprK h1 h2 h3 hna (by simpa using hk.length_eq) (fun i y e => hk.item i y (by simpa using e)) hg (fun b _ => Clear.nil b) hu1 (fun _ _ e => e) (fun h' u tk hk => ⟨_, _, rfl, hQ h' u tk hk⟩) hz
  | tuple h1 h2 h3 h4 =>
    rename_i a o vs n xs
    simp only [PyData.shown] at hz hQ
    obtain ⟨bs, hb, hk⟩ := RDs.reprK (prog := prog) (w := w) h4 (by simpa [PyData.showable] using hs) fun t ht => Nat.le_trans (tupleText_mem_le ht) hz
    obtain ⟨as, rr⟩ := h4.reads
    have hna := not_mem_of_deeper (Reads.tuple h1 h2 h3 rr) (by simp only [PyData.depth]; omega) hb
    simp only [PyData.depth] at hu1
    exact call_repr_slot (by omega) ⟨o, h1, h2⟩ F.slot_tuple_repr (call_tuple_reprK h1 h2 h3 hna hk hg (fun b _ => Clear.nil b) hu1 (fun _ _ e => e) (fun h' u tk hk => ⟨_, _, rfl, hQ h' u tk hk⟩) hz)
  | dict h1 h2 h3 hsys h4 h5 =>
    rename_i a o es n kvs
    simp only [PyData.shown] at hz hQ
    obtain ⟨hs1, hs2⟩ := PyData.showableKv_split kvs (by simpa [PyData.showable] using hs)
    have z1 : ∀ t ∈ PyData.shownAll (kvs.map (·.1)), t.length ≤ sizeLine := fun t ht => by
      obtain ⟨p, hp, hl⟩ := PyData.shownKv_key_le kvs t ht
      exact Nat.le_trans hl (Nat.le_trans (dictText_mem_le hp) hz)
    have z2 : ∀ t ∈ PyData.shownAll (kvs.map (·.2)), t.length ≤ sizeLine := fun t ht => by
      obtain ⟨p, hp, hl⟩ := PyData.shownKv_val_le kvs t ht
      exact Nat.le_trans hl (Nat.le_trans (dictText_mem_le hp) hz)
    obtain ⟨b1, hb1, k1⟩ := RDs.reprK (prog := prog) (w := w) h4 hs1 z1
    obtain ⟨b2, hb2, k2⟩ := RDs.reprK (prog := prog) (w := w) h5 hs2 z2
    obtain ⟨as, r1⟩ := h4.reads
    obtain ⟨cs, r2⟩ := h5.reads
    have hb : ReadAtMost s.heap (PyData.depthKv kvs) (b1 ++ b2) := (hb1.mono (PyData.depthAll_keys_le kvs)).append (hb2.mono (PyData.depthAll_vals_le kvs))
    have hna := not_mem_of_deeper (Reads.dict h1 h2 h3 r1 r2) (by simp only [PyData.depth]; omega) hb
    simp only [PyData.depth] at hu1
    rw [PyData.shownKv_eq] at hz hQ
    exact call_repr_slot (by omega) ⟨o, h1, h2⟩ F.slot_dict_repr (call_dict_reprK h1 h2 h3 hsys hna (ReprEntriesK.of_two es.toList _ _
      (k1.more_le (fun b hb => List.mem_append_left _ hb) (PyData.depthAll_keys_le kvs)) (k2.more_le (fun b hb => List.mem_append_right _ hb) (PyData.depthAll_vals_le kvs))) hg (fun b _ => Clear.nil b) hu1 (fun _ _ e => e) (fun h' u tk hk => ⟨_, _, rfl, hQ h' u tk hk⟩) hz)
end
end DL

namespace DL
open PySem L2 PySem.Spec PyProof.Rows

section
variable {X : Cx} {W : WX} {x : Str} {p pos : Pos} {e : Expr} {es : List Expr} {fa : FA} {id T : String} {r : List V → Hp → VK → Prop} {g : List D → M D}
theorem sim_A (m : SimA X.K r g) {σ : L2.St} {H : Hp} {Q : VK} (q : rd X.K W (eA g fa) σ H Q) : tCB r (rdA X.K W fa) σ H Q := by
  obtain ⟨G, S, ρ, rs, rp, q⟩ := q
  exact ⟨G, S, ρ, rs, rp, (Aft.bind q).mono fun ds H1 G1 S1 x1 r1 q1 vs dv => m W σ H1 G1 S1 ds vs Q r1 dv q1⟩
theorem de_callB (hc : CallR X (.builtin id) r) (m : SimA X.K r g) (hg : Gl X x) (hm : X.mg x = none) (hv : bootBuiltins x = some (.builtin id)) (ha : DA X W (e :: es) fa) (hn : x ≠ "__name__" := by decide) (hdb : (x == ("__debug__" : Str)) = false := by decide)
    (he : starEach (e :: es) X.env = (false, eval e X.env) :: starEach es X.env := by rfl) (hpl : (backTo pos (starEach es X.env)).any (·.1) = false := by rfl) : DE X W (.Call (.Name x p) (e :: es) [] pos) (eA g fa) :=
  ⟨PE.imp (pe_callB hc hg hm hv ha.run hn hdb he hpl) fun _ _ _ q => sim_A m q⟩
theorem de_callTy (hc : CallR X (.type T) r) (m : SimA X.K r g) (hg : Gl X x) (hm : X.mg x = none) (hv : bootBuiltins x = some (.type T)) (ha : DA X W (e :: es) fa) (hn : x ≠ "__name__" := by decide) (hdb : (x == ("__debug__" : Str)) = false := by decide)
    (he : starEach (e :: es) X.env = (false, eval e X.env) :: starEach es X.env := by rfl) (hpl : (backTo pos (starEach es X.env)).any (·.1) = false := by rfl) : DE X W (.Call (.Name x p) (e :: es) [] pos) (eA g fa) :=
  ⟨PE.imp (pe_callTy hc hg hm hv ha.run hn hdb he hpl) fun _ _ _ q => sim_A m q⟩
end
section
variable {K : PySem.W.Frag} {H : Hp} {G : Gh}
theorem denL1 {d : D} {vs : List V} (h : DenL K H G [d] vs) : ∃ v, vs = [v] ∧ Den K H G d v := by
  cases h with
  | cons h t => cases t; exact ⟨_, rfl, h⟩
theorem denL2 {d e : D} {vs : List V} (h : DenL K H G [d, e] vs) : ∃ v w, vs = [v, w] ∧ Den K H G d v ∧ Den K H G e w := by
  cases h with
  | cons h t => cases t with
    | cons h2 t => cases t; exact ⟨_, _, rfl, h, h2⟩
end

def lenM : List D → M D := fun ds S => match ds with
  | [d] => match d with
    | .p (.str z) => if z.length ≤ LIM then .ok (.p (.int z.length)) S else .bad
    | d => match seqOf S d with
      | some xs => .ok (.p (.int xs.length)) S
      | none => match dicOf S d with
        | some kvs => .ok (.p (.int kvs.length)) S
        | none => .bad
  | _ => .bad
def rLen (K : PySem.W.Frag) : List V → Hp → VK → Prop := fun xs H Q => (∃ p ys, xs = [.ref p] ∧ (SqL K H p ys ∨ SqT K H p ys) ∧ Q (.int ys.length) H) ∨ (∃ z, xs = [.str z] ∧ z.length ≤ sizeLine ∧ Q (.int z.length) H) ∨ ∃ a kvs, xs = [V.ref a] ∧ Rd H a (.dK kvs) ∧ Q (.int kvs.length) H
theorem sim_len {K : PySem.W.Frag} : SimA K (rLen K) lenM := by
  intro W σ H G S xs vs Q rp dv q
  unfold lenM at q
  split at q
  · rename_i d
    obtain ⟨v, rfl, dv1⟩ := denL1 dv
    replace dv := dv1
    split at q
    · rename_i z
      by_cases hz : z.length ≤ LIM
      · rw [if_pos hz] at q
        rw [den_str dv]
        exact .inr (.inl ⟨z, rfl, Nat.le_trans hz LIM_le, q.ret rp (.int _)⟩)
      · rw [if_neg hz] at q; exact q.elim
    · split at q
      · rename_i xs es
        obtain ⟨a, us, rfl, hq, t⟩ := seqOf_den rp es dv
        refine .inl ⟨a, us, rfl, hq, ?_⟩
        rw [← t.length]
        exact q.ret rp (.int _)
      · split at q
        · rename_i kvs es
          obtain ⟨a, ws, rfl, hH, r⟩ := dicOf_den rp es dv
          refine .inr (.inr ⟨a, ws, rfl, hH, ?_⟩)
          rw [← r.length]
          exact q.ret rp (.int _)
        · exact q.elim
  · exact q.elim
section
variable {X : Cx} {W : WX} {p pos : Pos} {e : Expr} {fa : FA}
theorem call_lenRd : CallR X (.builtin "len") (fun xs H Q => ∃ a kvs, xs = [V.ref a] ∧ Rd H a (.dK kvs) ∧ Q (.int kvs.length) H) := by
  intro pins s σ H vs us Q I r h
  obtain ⟨a, kvs, rfl, e, q⟩ := h
  rw [Vals.ref1 r]
  exact d_len I e fun t s' I' => ⟨.int _, H, I', ⟨t, rfl⟩, q⟩
theorem de_len (hg : Gl X "len") (hm : X.mg "len" = none) (ha : DA X W [e] fa) (he : starEach [e] X.env = (false, eval e X.env) :: starEach [] X.env := by rfl) : DE X W (.Call (.Name "len" p) [e] [] pos) (eA lenM fa) :=
  de_callB (call_len_seq.or (call_len_str.or call_lenRd)) sim_len hg hm PySem.boot_len ha (by decide) (by decide) he

def intM : List D → M D := fun ds S => match ds with
  | [.p (.int i)] => .ok (.p (.int i)) S
  | [.p (.bool b)] => .ok (.p (.int (if b then 1 else 0))) S
  | _ => .bad
theorem de_int1 (hg : Gl X "int") (hm : X.mg "int" = none) (ha : DA X W [e] fa) (he : starEach [e] X.env = (false, eval e X.env) :: starEach [] X.env := by rfl) : DE X W (.Call (.Name "int" p) [e] [] pos) (eA intM fa) :=
  de_callTy (r := fun xs H Q => (∃ i, xs = [.int i] ∧ Q (.int i) H) ∨ ∃ k, xs = [.bl k] ∧ Q (.int (if k then 1 else 0)) H) call_int1 (by
    intro W σ H G S xs vs Q rp dv q
    unfold intM at q
    split at q
    · rename_i i
      obtain ⟨v, rfl, dv1⟩ := denL1 dv
      replace dv := dv1
      rw [den_int dv]
      exact .inl ⟨i, rfl, q.ret rp (.int _)⟩
    · rename_i b
      obtain ⟨v, rfl, dv1⟩ := denL1 dv
      replace dv := dv1
      rw [den_bool dv]
      exact .inr ⟨b, rfl, q.ret rp (.int _)⟩
    · exact q.elim) hg hm (by decide +kernel) ha (by decide) (by decide) he
def listM (fin : List PyData → M D) : List D → M D := fun ds S => match ds with
  | [d] => match seqOf S d with
    | some xs => fin xs S
    | none => .bad
  | _ => .bad
def rList (K : PySem.W.Frag) : List V → Hp → VK → Prop := fun xs H Q => ∃ p ys, xs = [.ref p] ∧ (SqL K H p ys ∨ SqT K H p ys) ∧ ∀ l, H l = none → Q (.ref l) (upd H l (.lst ys))
theorem sim_listL {K : PySem.W.Frag} : SimA K (rList K) (listM finL) := by
  intro W σ H G S xs vs Q rp dv q
  unfold listM at q
  split at q
  · obtain ⟨v, rfl, dv1⟩ := denL1 dv
    replace dv := dv1
    split at q
    · rename_i xs es
      obtain ⟨a, us, rfl, hq, t⟩ := seqOf_den rp es dv
      exact ⟨a, us, rfl, hq, fun l hl => Aft.newLst q rp t hl⟩
    · exact q.elim
  · exact q.elim
theorem sim_listM {K : PySem.W.Frag} : SimA K (rList K) (listM finM) := by
  intro W σ H G S xs vs Q rp dv q
  unfold listM at q
  split at q
  · obtain ⟨v, rfl, dv1⟩ := denL1 dv
    replace dv := dv1
    split at q
    · rename_i xs es
      obtain ⟨a, us, rfl, hq, t⟩ := seqOf_den rp es dv
      exact ⟨a, us, rfl, hq, fun l hl => Aft.newLstM q rp t hl⟩
    · exact q.elim
  · exact q.elim
theorem de_list (hg : Gl X "list") (hm : X.mg "list" = none) (ha : DA X W [e] fa) (he : starEach [e] X.env = (false, eval e X.env) :: starEach [] X.env := by rfl) : DE X W (.Call (.Name "list" p) [e] [] pos) (eA (listM finL) fa) :=
  de_callTy call_list_of sim_listL hg hm (by decide +kernel) ha (by decide) (by decide) he
theorem de_listM (hg : Gl X "list") (hm : X.mg "list" = none) (ha : DA X W [e] fa) (he : starEach [e] X.env = (false, eval e X.env) :: starEach [] X.env := by rfl) : DE X W (.Call (.Name "list" p) [e] [] pos) (eA (listM finM) fa) :=
  de_callTy call_list_of sim_listM hg hm (by decide +kernel) ha (by decide) (by decide) he
def tupleM : List D → M D := fun ds S => match ds with
  | [.p (.tuple xs)] => .ok (.p (.tuple xs)) S
  | [d] => match lstOf S d with
    | some xs => .ok (.p (.tuple xs)) S
    | none => .bad
  | _ => .bad
theorem de_tuple (hg : Gl X "tuple") (hm : X.mg "tuple" = none) (ha : DA X W [e] fa) (he : starEach [e] X.env = (false, eval e X.env) :: starEach [] X.env := by rfl) : DE X W (.Call (.Name "tuple" p) [e] [] pos) (eA tupleM fa) :=
  de_callTy call_tuple_of (by
    intro W σ H G S xs vs Q rp dv q
    unfold tupleM at q
    split at q
    · obtain ⟨v, rfl, dv1⟩ := denL1 dv
      replace dv := dv1
      obtain ⟨a, us, rfl, hq, t⟩ := den_tup dv
      exact ⟨a, us, rfl, .inr ⟨hq, q.ret rp dv⟩⟩
    · obtain ⟨v, rfl, dv1⟩ := denL1 dv
      replace dv := dv1
      split at q
      · rename_i xs es
        obtain ⟨a, us, rfl, hq, t⟩ := lstOf_den rp es dv
        exact ⟨a, us, rfl, .inl ⟨SqL.of hq, fun l hl => Aft.newTup q rp t hl⟩⟩
      · exact q.elim
    · exact q.elim) hg hm (by decide +kernel) ha (by decide) (by decide) he
def bools : List PyData → Option (List Bool)
  | [] => some []
  | .bool b :: r => match bools r with
    | some bs => some (b :: bs)
    | none => none
  | _ :: _ => none
theorem bools_dn {K : PySem.W.Frag} {φ : List (Addr × HO)} {H : Hp} : ∀ {xs : List PyData} {bs : List Bool} {vs : List V}, bools xs = some bs → DnAll K φ H xs vs → vs = bs.map V.bl
  | [], bs, _, e, .nil => by cases e; rfl
  | .bool b :: r, bs, _, e, .cons h t => by
    simp only [bools] at e
    cases q : bools r with
    | none => rw [q] at e; cases e
    | some cs =>
      rw [q] at e; cases e
      cases h
      rw [bools_dn q t]; rfl
  | .none :: _, _, _, e, _ => by cases e
  | .int _ :: _, _, _, e, _ => by cases e
  | .str _ :: _, _, _, e, _ => by cases e
  | .list _ :: _, _, _, e, _ => by cases e
  | .tuple _ :: _, _, _, e, _ => by cases e
  | .dict _ :: _, _, _, e, _ => by cases e
def allM (any : Bool) : List D → M D := fun ds S => match ds with
  | [d] => match lstOf S d with
    | some xs => match bools xs with
      | some bs => .ok (.p (.bool (if any then bs.any id else bs.all id))) S
      | none => .bad
    | none => .bad
  | _ => .bad
theorem de_all (hc : X.calm = true) (hg : Gl X "all") (hm : X.mg "all" = none) (ha : DA X W [e] fa) (he : starEach [e] X.env = (false, eval e X.env) :: starEach [] X.env := by rfl) : DE X W (.Call (.Name "all" p) [e] [] pos) (eA (allM false) fa) :=
  de_callB (cr_all hc) (by
    intro W σ H G S xs vs Q rp dv q
    unfold allM at q
    split at q
    · obtain ⟨v, rfl, dv1⟩ := denL1 dv
      replace dv := dv1
      split at q
      · rename_i xs es
        split at q
        · rename_i bs eb
          obtain ⟨a, us, rfl, hq, t⟩ := lstOf_den rp es dv
          refine ⟨a, bs, rfl, ?_, q.ret rp (.bl _)⟩
          rw [← bools_dn eb t]; exact SqL.of hq
        · exact q.elim
      · exact q.elim
    · exact q.elim) hg hm (by decide +kernel) ha (by decide) (by decide) he
theorem de_any (hc : X.calm = true) (hg : Gl X "any") (hm : X.mg "any" = none) (ha : DA X W [e] fa) (he : starEach [e] X.env = (false, eval e X.env) :: starEach [] X.env := by rfl) : DE X W (.Call (.Name "any" p) [e] [] pos) (eA (allM true) fa) :=
  de_callB (cr_any hc) (by
    intro W σ H G S xs vs Q rp dv q
    unfold allM at q
    split at q
    · obtain ⟨v, rfl, dv1⟩ := denL1 dv
      replace dv := dv1
      split at q
      · rename_i xs es
        split at q
        · rename_i bs eb
          obtain ⟨a, us, rfl, hq, t⟩ := lstOf_den rp es dv
          refine ⟨a, bs, rfl, ?_, q.ret rp (.bl _)⟩
          rw [← bools_dn eb t]; exact SqL.of hq
        · exact q.elim
      · exact q.elim
    · exact q.elim) hg hm (by decide +kernel) ha (by decide) (by decide) he

def reprM : List D → M D := fun ds S => match ds with
  | [.p d] => if d.showable && (decide (d.depth ≤ 60) && decide (d.shown.length ≤ LIM)) then .ok (.p (.str d.shown)) S else .bad
  | _ => .bad
def rRepr (K : PySem.W.Frag) : List V → Hp → VK → Prop := fun xs H Q => ∃ v d φ, xs = [v] ∧ Holds φ H ∧ Dn K φ H d v ∧ d.showable = true ∧ d.depth ≤ 60 ∧ d.shown.length ≤ LIM ∧ Q (.str d.shown) H
theorem pairs_keys {P : Program} {w : World} {h : Heap} : ∀ {es : List DictEntry} {kvs : List (Key × Value)} {ds : List PyData} {ws : List (Key × V)}, Pairs (mixKind P w) es kvs → KV ws kvs → ds = ws.map (fun p => keyPy p.1) → RDs h (es.map (·.key)) ds
  | _, _, _, _, .nil, r, e => by
    cases r
    subst e
    exact .nil
  | _, _, _, _, .cons (e := en) hk hv t, r, e => by
    cases r with
    | cons r1 r2 =>
      rename_i pw ws
      subst e
      refine .cons ?_ (pairs_keys t r2 rfl)
      have hk : keyIs _ en.key = true := hk
      rw [← r1.1] at hk
      rcases keyIs_shape hk with ⟨i, tk, e1, e2⟩ | ⟨z, tk, e1, e2⟩
      · show RD h en.key (keyPy pw.1)
        rw [e2, e1]; exact .int i tk
      · show RD h en.key (keyPy pw.1)
        rw [e2, e1]; exact .str z tk
theorem pairs_vals {P : Program} {w : World} : ∀ {es : List DictEntry} {kvs : List (Key × Value)} {ws : List (Key × V)}, Pairs (mixKind P w) es kvs → KV ws kvs → Vals (ws.map (·.2)) (es.map (·.val))
  | _, _, _, .nil, r => by cases r; exact .nil
  | _, _, _, .cons hk hv t, r => by
    cases r with
    | cons r1 r2 => exact .cons (by rw [← hv] at r1; exact r1.2) (pairs_vals t r2)
mutual
theorem Dn.rd {φ : List (Addr × HO)} {pins : List (Addr × Obj)} {σ : L2.St} {H : Hp} {s : Shared} (I : Inv X pins σ H s) (hφ : Holds φ H) : ∀ {d : PyData} {v : V} {u : Value}, Dn X.K φ H d v → RelV v u → RD s.heap u d
  | _, _, _, .non, r => by cases r; exact .none
  | _, _, _, .bl b, r => by cases r; exact .bool b
  | _, _, _, .int i, r => by obtain ⟨t, rfl⟩ := r; exact .int i t
  | _, _, _, .str x, r => by obtain ⟨t, rfl⟩ := r; exact .str x t
  | _, _, _, .lst f t, r => by
    cases r
    obtain ⟨its, n, rv, e, _⟩ := I.lst (f H hφ)
    exact .list e rfl rfl (DnAll.rd I hφ t (by simpa using rv))
  | _, _, _, .tup f t, r => by
    cases r
    obtain ⟨its, rv, ⟨o, e, c, n, dd⟩, _⟩ := I.tuple f
    exact .tuple e c dd (DnAll.rd I hφ t (by simpa using rv))
  | _, _, _, .dic (ws := ws) f ek t, r => by
    cases r
    obtain ⟨_, hsys, vs, rel, o, es, ep, e, ex, dd, _, pr, _⟩ := dk_rd I.hok (.inr ⟨f.choose, f.choose_spec H hφ⟩)
    exact .dict e ex.1 dd hsys (pairs_keys pr rel ek) (DnAll.rd I hφ t (pairs_vals pr rel))
theorem DnAll.rd {φ : List (Addr × HO)} {pins : List (Addr × Obj)} {σ : L2.St} {H : Hp} {s : Shared} (I : Inv X pins σ H s) (hφ : Holds φ H) : ∀ {ds : List PyData} {vs : List V} {us : List Value}, DnAll X.K φ H ds vs → Vals vs us → RDs s.heap us ds
  | _, _, _, .nil, r => by cases r; exact .nil
  | _, _, _, .cons h t, r => by
    cases r with
    | cons r1 r2 => exact .cons (Dn.rd I hφ h r1) (DnAll.rd I hφ t r2)
end
theorem call_reprD (hgd : X.A.guards = some []) (hu : X.A.units + 64 < cLine) : CallR X (.builtin "repr") (rRepr X.K) := by
  intro pins s σ H xs us Q I r q
  obtain ⟨v, d, φ, rfl, hφ, dn, hs, hd, hz, q⟩ := q
  obtain ⟨u, rfl, rv⟩ := vals1 r
  exact repr_RD (Dn.rd I hφ dn rv) hs (Nat.le_trans hz LIM_le) hgd (by omega) fun h' t tk hk => ⟨.str d.shown, H, I.kept hk, ⟨t, rfl⟩, q⟩
theorem de_repr (hgd : X.A.guards = some []) (hu : X.A.units + 64 < cLine) (hg : Gl X "repr") (hm : X.mg "repr" = none) (ha : DA X W [e] fa) (he : starEach [e] X.env = (false, eval e X.env) :: starEach [] X.env := by rfl) : DE X W (.Call (.Name "repr" p) [e] [] pos) (eA reprM fa) :=
  de_callB (call_reprD hgd hu) (by
    intro W σ H G S xs vs Q rp dv q
    unfold reprM at q
    split at q
    · rename_i d
      obtain ⟨v, rfl, dv1⟩ := denL1 dv
      by_cases hc : (d.showable && (decide (d.depth ≤ 60) && decide (d.shown.length ≤ LIM))) = true
      · rw [if_pos hc] at q
        simp only [Bool.and_eq_true, decide_eq_true_eq] at hc
        exact ⟨v, d, G.φ, rfl, rp.phi, dv1, hc.1, hc.2.1, hc.2.2, q.ret rp (.str _)⟩
      · rw [if_neg hc] at q; exact q.elim
    · exact q.elim) hg hm (by decide +kernel) ha (by decide) (by decide) he
end

inductive Tg where
  | str | tuple | int | bool | list | dict
def Tg.nm : Tg → String
  | .str => "str" | .tuple => "tuple" | .int => "int" | .bool => "bool" | .list => "list" | .dict => "dict"
def isT : Tg → PyData → Bool
  | .str, .str _ => true
  | .tuple, .tuple _ => true
  | .int, .int _ => true
  | .int, .bool _ => true
  | .bool, .bool _ => true
  | .list, .list _ => true
  | .dict, .dict _ => true
  | _, _ => false
def isiM (T : Tg) : D → M D := fun d S => match d with
  | .p x => .ok (.p (.bool (isT T x))) S
  | _ => .bad
def tyP : PyData → String
  | .none => "NoneType" | .bool _ => "bool" | .int _ => "int" | .str _ => "str" | .list _ => "list" | .tuple _ => "tuple" | .dict _ => "dict"
theorem isT_ok {K : PySem.W.Frag} (T : Tg) (x : PyData) : PySem.W.kitOne K (.type (tyP x)) (.type T.nm) = some (isT T x) := by
  cases T <;> cases x <;> exact kit_ty (by first | rfl | kernel_rfl)
theorem tyP_ok {K : PySem.W.Frag} {H : Hp} {G : Gh} {S : Sto} (rp : Rep K H G S) {x : PyData} {v : V} (h : Dn K G.φ H x v) : TyX K H v (.type (tyP x)) := by
  cases h with
  | non => exact .base .non
  | bl b => exact .base (.bl b)
  | int i => exact .base (.int i)
  | str z => exact .base (.str z)
  | lst f t => exact .base (.lst (f H rp.phi))
  | tup f t =>
    rcases f with (f | ⟨o, f⟩) | ⟨o, its, n, k1, k2, _⟩
    · exact .base (.tup f)
    · exact .fTuple f
    · exact .kTuple k1 k2
  | dic f e t => exact .fDict (f.choose_spec H rp.phi)
section
variable {X : Cx} {W : WX} {p pos pT : Pos} {e : Expr} {f : FE}
theorem de_isi (T : Tg) (hg : Gl X "isinstance") (hm : X.mg "isinstance" = none) (hgT : Gl X (Str.ofString T.nm)) (hmT : X.mg (Str.ofString T.nm) = none) (hvT : bootBuiltins (Str.ofString T.nm) = some (.type T.nm)) (ha : DE X W e f) (hnT : Str.ofString T.nm ≠ "__name__" := by decide) (hdT : (Str.ofString T.nm == ("__debug__" : Str)) = false := by decide)
    (he : starEach [e, .Name (Str.ofString T.nm) pT] X.env = (false, eval e X.env) :: starEach [.Name (Str.ofString T.nm) pT] X.env := by rfl) (hpl : (backTo pos (starEach [.Name (Str.ofString T.nm) pT] X.env)).any (·.1) = false := by rfl) (he2 : starEach [.Name (Str.ofString T.nm) pT] X.env = (false, eval (.Name (Str.ofString T.nm) pT) X.env) :: starEach [] X.env := by rfl) :
    DE X W (.Call (.Name "isinstance" p) [e, .Name (Str.ofString T.nm) pT] [] pos) (e1 (isiM T) f) := by
  refine ⟨PE.imp (pe_callB call_isi hg hm (by decide +kernel) (pa_cons ha.run (pa_cons (pe_bltn (v := .ty T.nm) hgT hmT hvT rfl hnT hdT) pa_nil he2) he) (by decide) (by decide) he hpl) fun σ H Q ⟨G, S, ρ, rs, rp, q⟩ => ?_⟩
  refine ⟨G, S, ρ, rs, rp, (Aft.bind q).mono fun d H1 G1 S1 x1 r1 q1 v dv => ?_⟩
  unfold isiM at q1
  split at q1
  · rename_i x
    exact ⟨v, .ty T.nm, .type (tyP x), .type T.nm, isT T x, rfl, .ty _, tyP_ok r1 dv, isT_ok T x, q1.ret r1 (.bl _)⟩
  · exact q1.elim
end

def rdO (K : PySem.W.Frag) (W : WX) (f : Ev → M (Option Int)) : TO := fun σ H Q => ∃ G S ρ, RelS K H G ρ σ ∧ Rep K H G S ∧ Aft K W σ H G S (f ρ S) fun o H' _ _ => Q o H'
def oNone : Ev → M (Option Int) := fun _ S => .ok none S
def oInt : D → M (Option Int) := fun d S => match d with
  | .p (.int i) => .ok (some i) S
  | _ => .bad
def oSome (f : FE) : Ev → M (Option Int) := fun ρ S => (f ρ S).bind oInt
/-- a list, also the script -/
def rlOf (S : Sto) : D → Option (List PyData)
  | .p (.list l) => some l
  | .ro l => some l
  | .ob i => match S[i]? with
    | some (.lst l) => some l
    | _ => none
  | _ => none
theorem rlOf_den {K : PySem.W.Frag} {H : Hp} {G : Gh} {S : Sto} (rp : Rep K H G S) {d : D} {v : V} {xs : List PyData} (e : rlOf S d = some xs) (h : Den K H G d v) : ∃ a vs, v = .ref a ∧ SqL K H a vs ∧ DnAll K G.φ H xs vs := by
  cases d with
  | p x =>
    cases x with
    | list l =>
      cases e
      obtain ⟨a, vs, rfl, f, t⟩ := den_lst h
      exact ⟨a, vs, rfl, SqL.of (f H rp.phi), t⟩
    | _ => cases e
  | ob i =>
    simp only [rlOf] at e
    split at e
    · rename_i ks ei
      cases e
      obtain ⟨a, rfl, ha⟩ := h
      obtain ⟨vs, e1, t⟩ := rp.ok i a _ ha ei
      exact ⟨a, vs, rfl, SqL.of e1, t⟩
    · cases e
  | ro l =>
    cases e
    obtain ⟨a, vs, rfl, f, t⟩ := h
    exact ⟨a, vs, rfl, f H rp.phi, t⟩
  | ext _ => cases e
def cutP (xs : List PyData) (lo hi : Option Int) : List PyData := (xs.drop (HT.sIx xs.length 0 lo)).take (HT.sIx xs.length xs.length hi - HT.sIx xs.length 0 lo)
theorem cut_dn {K : PySem.W.Frag} {φ : List (Addr × HO)} {H : Hp} {xs : List PyData} {vs : List V} {lo hi : Option Int} (t : DnAll K φ H xs vs) : DnAll K φ H (cutP xs lo hi) (cutV vs lo hi) := by
  unfold cutP cutV
  rw [t.length]
  exact (t.drop _).take _
def sliM : D → Option Int → Option Int → M D := fun d lo hi S => match d with
  | .p (.tuple xs) => .ok (.p (.tuple (cutP xs lo hi))) S
  | .p (.str z) => if z.length ≤ LIM then .ok (.p (.str (cutS z lo hi))) S else .bad
  | d => match rlOf S d with
    | some xs => .ok (.p (.list (cutP xs lo hi))) S
    | none => .bad
def eSli (f : FE) (lo hi : Ev → M (Option Int)) : FE := fun ρ S => (f ρ S).bind fun d S1 => (lo ρ S1).bind fun l S2 => (hi ρ S2).bind fun u S3 => sliM d l u S3
theorem cut_whole {xs : List PyData} {lo hi : Option Int} (h : HT.sIx xs.length 0 lo = 0 ∧ HT.sIx xs.length xs.length hi = xs.length) : cutP xs lo hi = xs := by
  unfold cutP
  rw [h.1, h.2]; simp
section
variable {X : Cx} {W : WX} {p2 pos : Pos} {e : Expr} {lo hi : Option Expr} {f : FE} {l u : Ev → M (Option Int)}
theorem do_none : PO X none (rdO X.K W oNone) := ⟨fun pins s σ H Q I ⟨G, S, ρ, rs, rp, q⟩ => po_none.run pins s σ H Q I (q H G Ext.refl rp)⟩
theorem do_some (h : DE X W e f) : PO X (some e) (rdO X.K W (oSome f)) := by
  refine ⟨fun pins s σ H Q I ⟨G, S, ρ, rs, rp, q⟩ => (po_some h.run).run pins s σ H Q I ⟨G, S, ρ, rs, rp, (Aft.bind q).mono fun d H1 G1 S1 x1 r1 q1 v dv => ?_⟩⟩
  unfold oInt at q1
  split at q1
  · rename_i i
    exact ⟨i, den_int dv, q1 H1 G1 Ext.refl r1⟩
  · exact q1.elim
theorem de_slice (he : DE X W e f) (hl : PO X lo (rdO X.K W l)) (hu : PO X hi (rdO X.K W u)) : DE X W (.Subscript e (.Slice lo hi none p2) pos) (eSli f l u) := by
  refine ⟨PE.imp (pe_slice (sl_list.or (sl_tupA.or sl_str)) he.run hl hu) fun σ H Q ⟨G, S, ρ, rs, rp, q⟩ => ?_⟩
  refine ⟨G, S, ρ, rs, rp, (Aft.bind q).mono fun d H1 G1 S1 x1 r1 q1 v dv => ?_⟩
  refine ⟨G1, S1, ρ, x1.relS rp rs, r1, (Aft.bind q1).mono fun lv H2 G2 S2 x2 r2 q2 => ?_⟩
  refine ⟨G2, S2, ρ, x2.relS r1 (x1.relS rp rs), r2, (Aft.bind q2).mono fun uv H3 G3 S3 x3 r3 q3 => ?_⟩
  have dv3 := (x2.trans x3).den r1 dv
  clear dv
  unfold sliM at q3
  split at q3
  · obtain ⟨a, vs, rfl, hq, t⟩ := den_tup dv3
    refine .inr (.inl ⟨a, vs, rfl, hq, fun hw => ?_, fun _ p hp => q3.newTup r3 (cut_dn t) hp⟩)
    rw [← t.length] at hw
    rw [cut_whole hw] at q3
    exact q3.ret r3 dv3
  · rename_i z
    by_cases hz : z.length ≤ LIM
    · rw [if_pos hz] at q3
      exact .inr (.inr ⟨z, den_str dv3, Nat.le_trans hz LIM_le, q3.ret r3 (.str _)⟩)
    · rw [if_neg hz] at q3; exact q3.elim
  · split at q3
    · rename_i xs es
      obtain ⟨a, vs, rfl, hq, t⟩ := rlOf_den r3 es dv3
      exact .inl ⟨a, vs, rfl, hq, fun p hp => q3.newLst r3 (cut_dn t) hp⟩
    · exact q3.elim
def revM : D → M D := fun d S => match rlOf S d with
  | some xs => .ok (.p (.list xs.reverse)) S
  | none => .bad
theorem de_rev {k : Nat} {p1 p3 : Pos} (he : DE X W e f) : DE X W (.Subscript e (.Slice none none (some (.UnaryOp .USub (.Constant (.int 1) k p1) p2)) p3) pos) (e1 revM f) := by
  refine ⟨PE.imp (pe_revL he.run) fun σ H Q ⟨G, S, ρ, rs, rp, q⟩ => ⟨G, S, ρ, rs, rp, (Aft.bind q).mono fun d H1 G1 S1 x1 r1 q1 v dv => ?_⟩⟩
  unfold revM at q1
  split at q1
  · rename_i xs es
    obtain ⟨a, vs, rfl, hq, t⟩ := rlOf_den r1 es dv
    exact ⟨a, vs, rfl, hq, fun p hp => q1.newLst r1 t.reverse hp⟩
  · exact q1.elim
end
end DL

namespace DL
open PySem L2 PySem.Spec PyProof.Rows

def pairsD : List (FE × FE) → Ev → M (List (Key × PyData))
  | [] => fun _ S => .ok [] S
  | (fk, fv) :: r => fun ρ S => (fk ρ S).bind fun k S1 => (fv ρ S1).bind fun v S2 => (pairsD r ρ S2).bind fun kvs S3 => match k, v with
    | .p kd, .p vd => (match pyKey kd with
      | some key => .ok ((key, vd) :: kvs) S3
      | none => .bad)
    | _, _ => .bad
def mergeD (kvs : List (Key × PyData)) : List (Key × PyData) := kvs.foldl (fun acc kv => putD acc kv.1 kv.2) []
def finDL : List (Key × PyData) → M D := fun kvs S => .ok (.p (.dict (pyKv kvs))) S
def finDM : List (Key × PyData) → M D := fun kvs S => .ok (.ob S.length) (S ++ [.dic kvs])
def eDisp (fs : List (FE × FE)) (fin : List (Key × PyData) → M D) : FE := fun ρ S => (pairsD fs ρ S).bind fun kvs S1 => if kvs.length ≤ 15 then fin (mergeD kvs) S1 else .bad
inductive DPs (X : Cx) (W : WX) (pos : Pos) : List (Option Expr) → List Expr → List (FE × FE) → Prop where
  | nil : DPs X W pos [] [] []
  | cons {k v : Expr} {ks : List (Option Expr)} {vs : List Expr} {fk fv : FE} {fs : List (FE × FE)} (hk : DE X W k fk) (hv : DE X W v fv) (hr : DPs X W pos ks vs fs) : DPs X W pos (some k :: ks) (v :: vs) ((fk, fv) :: fs)
section
variable {K : PySem.W.Frag} {φ : List (Addr × HO)} {H H1 : Hp} {G G1 : Gh} {S S1 : Sto} {D : Addr} {o : HO}
theorem KvR.mono {φ' : List (Addr × HO)} {H' : Hp} {kvs : List (Key × PyData)} {ws : List (Key × V)} (r : KvR K φ H kvs ws) (hs : ∀ p ∈ φ, p ∈ φ') (ht : ∀ a vs, SqT K H a vs → SqT K H' a vs) : KvR K φ' H' kvs ws := ⟨r.ks, r.vs.mono hs ht⟩
theorem KvR.merge : ∀ {kvs : List (Key × PyData)} {ws : List (Key × V)} {acc : List (Key × PyData)} {bcc : List (Key × V)}, KvR K φ H kvs ws → KvR K φ H acc bcc → KvR K φ H (kvs.foldl (fun acc kv => putD acc kv.1 kv.2) acc) (ws.foldl (fun acc kv => putK acc kv.1 kv.2) bcc)
  | [], _, _, _, r, b => by rw [r.nil_inv]; exact b
  | p :: kvs, _, _, _, r, b => by
    obtain ⟨v, ws, rfl, h, t⟩ := r.inv
    rw [List.foldl_cons, List.foldl_cons]
    exact KvR.merge t (b.put h)
theorem tup_aside {u : HO} (e : H D = some o) (h1 : ∀ xs, o ≠ .tup xs) (h2 : ∀ ob v, o ≠ .frz ob v) : ∀ a vs, SqT K H a vs → SqT K (upd H D u) a vs := fun a vs h => by
  rcases h with (h | ⟨ob, h⟩) | h
  · exact .inl (.inl (by rw [upd_ne (ne_of h e (fun z => h1 _ z.symm))]; exact h))
  · exact .inl (.inr ⟨ob, by rw [upd_ne (ne_of h e (fun z => h2 _ _ z.symm))]; exact h⟩)
  · exact .inr h
theorem Rep.asideD {u : HO} (r : Rep K H G S) (b : Beside H G D o) (h1 : ∀ xs, o ≠ .tup xs) (h2 : ∀ ob v, o ≠ .frz ob v) : Rep K (upd H D u) G S := by
  refine ⟨r.len, r.nd, fun i a m g1 g2 => OkO.ext (G := G) (fun _ h => h) (tup_aside b.at_ h1 h2) (fun v hv => ?_) (r.ok i a m g1 g2), fun p hp => ?_, r.pnl⟩
  · rw [upd_ne (fun z => b.ι (by rw [← z]; exact List.mem_of_getElem? g1))]; exact hv
  · rw [upd_ne (b.φ p hp)]; exact r.phi p hp
end
section
variable {X : Cx} {W : WX} {pos : Pos} {keys : List (Option Expr)} {values : List Expr} {fs : List (FE × FE)}
theorem DPs.run (h : DPs X W pos keys values fs) : PPs X pos keys values (fs.map fun p => (rd X.K W p.1, rd X.K W p.2)) := by
  induction h with
  | nil => exact pps_nil
  | cons hk hv hr ih => exact pps_cons hk.run hv.run ih
theorem pairs_read {K : PySem.W.Frag} : ∀ (fs : List (FE × FE)) {σ : L2.St} {H : Hp} {G : Gh} {S : Sto} {ρ : Ev} {R : List (V × V) → Hp → Prop}, RelS K H G ρ σ → Rep K H G S →
    Aft K W σ H G S (pairsD fs ρ S) (fun kvs H' G' _ => ∀ ws, KvR K G'.φ H' kvs ws → R (ws.map fun kv => (kV kv.1, kv.2)) H') → tPairs (fs.map fun p => (rd K W p.1, rd K W p.2)) σ H R
  | [], σ, H, G, S, ρ, R, rs, rp, q => q H G Ext.refl rp [] .nil
  | (fk, fv) :: r, σ, H, G, S, ρ, R, rs, rp, q => by
    refine ⟨G, S, ρ, rs, rp, (Aft.bind q).mono fun k H1 G1 S1 x1 r1 q1 kv dk => ?_⟩
    refine ⟨G1, S1, ρ, x1.relS rp rs, r1, (Aft.bind q1).mono fun v H2 G2 S2 x2 r2 q2 vv dv => ?_⟩
    refine pairs_read r (x2.relS r1 (x1.relS rp rs)) r2 ((Aft.bind q2).mono fun kvs H3 G3 S3 x3 r3 q3 ws kr => ?_)
    have dk3 := (x2.trans x3).den r1 dk
    have dv3 := x3.den r2 dv
    split at q3
    · split at q3
      · rename_i kd vd key ek
        have ekd := keyPy_of ek
        subst ekd
        have ev : kv = kV key := by
          cases key with
          | inl i => exact den_int dk3
          | inr z => exact den_str dk3
        subst ev
        exact q3 H3 G3 Ext.refl r3 ((key, vv) :: ws) (kr.cons dv3)
      · exact q3.elim
    · exact q3.elim
theorem de_dispL (h : DPs X W pos keys values fs) (hall : keys.all (·.isSome) = true := by rfl) (hl : keys.length = values.length := by rfl) (h0 : keys ≠ [] := by exact (fun z => nomatch z)) (h15 : keys.length ≤ 15 := by decide) : DE X W (.Dict keys values pos) (eDisp fs finDL) := by
  refine ⟨PE.imp (PE.lk (pe_disp h.run hall hl h0 h15)) fun σ H Q ⟨G, S, ρ, rs, rp, q⟩ p hp => ?_⟩
  have x0 := Ext.other (o := .dK []) rp hp
  have r0 := Rep.other (o := .dK []) rp hp
  have b0 : Beside (upd H p (.dK [])) G p (.dK []) := ⟨upd_same, rp.notIn hp, rp.notPhi hp⟩
  refine pairs_read fs (x0.relS rp rs) r0 ?_
  have q' := Aft.bind q
  cases eo : pairsD fs ρ S with
  | bad => rw [eo] at q'; exact q'
  | err x s => rw [eo] at q'; exact fun H1 G1 d x1 r1 e => q' H1 G1 d (x0.trans x1) r1 e
  | ok kvs S1 =>
    rw [eo] at q'
    intro H1 G1 x1 r1 ws kr
    have b1 := b0.ext x1
    have q1 := q' H1 G1 (x0.trans x1) r1
    by_cases hk : kvs.length ≤ 15
    · simp only [if_pos hk] at q1
      refine ⟨b1.at_, ws, rfl, by rw [← kr.length]; exact hk, ?_⟩
      have nt : ∀ xs, HO.dK [] ≠ .tup xs := fun _ z => nomatch z
      have nf : ∀ ob v, HO.dK [] ≠ .frz ob v := fun _ _ z => nomatch z
      refine .inr ⟨p, .dK (mergeK [] ws), upd_same, trivial, fun od => ?_⟩
      rw [upd_twice]
      have b2 : Beside (upd H1 p (.frz od (.dK (mergeK [] ws)))) G1 p (.frz od (.dK (mergeK [] ws))) := ⟨upd_same, b1.ι, b1.φ⟩
      have r2 : Rep X.K (upd H1 p (.frz od (.dK (mergeK [] ws)))) G1 S1 := r1.asideD b1 nt nf
      have kr2 : KvR X.K G1.φ (upd H1 p (.frz od (.dK (mergeK [] ws)))) (mergeD kvs) (mergeK [] ws) := (kr.merge .nil).mono (fun _ h => h) (tup_aside b1.at_ nt nf)
      have xx : Ext H G S (upd H1 p (.frz od (.dK (mergeK [] ws)))) ⟨G1.ι, (p, .frz od (.dK (mergeK [] ws))) :: G1.φ⟩ S1 := ((x0.trans x1).aside hp).iceD hp
      have q2 := q'
      have fin : Aft X.K W σ H G S (.ok (.p (.dict (pyKv (mergeD kvs)))) S1) (QD X.K Q) := fun H9 G9 x9 r9 => by
        have := q' H9 G9 x9 r9
        simp only [if_pos hk] at this
        exact this H9 G9 Ext.refl r9
      exact fin _ _ xx (r2.iceD b2) _ (Dn.dicOf ⟨od, fun _ z => z _ List.mem_cons_self⟩ kr2.ks (kr2.vs.mono (fun _ h => List.mem_cons_of_mem _ h) fun _ _ h => h))
    · simp only [if_neg hk] at q1; exact q1.elim
theorem de_dispM (h : DPs X W pos keys values fs) (hall : keys.all (·.isSome) = true := by rfl) (hl : keys.length = values.length := by rfl) (h0 : keys ≠ [] := by exact (fun z => nomatch z)) (h15 : keys.length ≤ 15 := by decide) : DE X W (.Dict keys values pos) (eDisp fs finDM) := by
  refine ⟨PE.imp (pe_disp h.run hall hl h0 h15) fun σ H Q ⟨G, S, ρ, rs, rp, q⟩ p hp => ?_⟩
  have x0 := Ext.other (o := .dK []) rp hp
  have r0 := Rep.other (o := .dK []) rp hp
  have b0 : Beside (upd H p (.dK [])) G p (.dK []) := ⟨upd_same, rp.notIn hp, rp.notPhi hp⟩
  refine pairs_read fs (x0.relS rp rs) r0 ?_
  have q' := Aft.bind q
  cases eo : pairsD fs ρ S with
  | bad => rw [eo] at q'; exact q'
  | err x s => rw [eo] at q'; exact fun H1 G1 d x1 r1 e => q' H1 G1 d (x0.trans x1) r1 e
  | ok kvs S1 =>
    rw [eo] at q'
    intro H1 G1 x1 r1 ws kr
    have b1 := b0.ext x1
    have q1 := q' H1 G1 (x0.trans x1) r1
    by_cases hk : kvs.length ≤ 15
    · refine ⟨b1.at_, ws, rfl, by rw [← kr.length]; exact hk, ?_⟩
      have nt : ∀ xs, HO.dK [] ≠ .tup xs := fun _ z => nomatch z
      have nf : ∀ ob v, HO.dK [] ≠ .frz ob v := fun _ _ z => nomatch z
      have r2 : Rep X.K (upd H1 p (.dK (mergeK [] ws))) G1 S1 := r1.asideD b1 nt nf
      have kr2 : KvR X.K G1.φ (upd H1 p (.dK (mergeK [] ws))) (mergeD kvs) (mergeK [] ws) := (kr.merge .nil).mono (fun _ h => h) (tup_aside b1.at_ nt nf)
      have x2 : Ext H G S (upd H1 p (.dK (mergeK [] ws))) G1 S1 := (x0.trans x1).aside hp
      have fin : Aft X.K W σ H G S (.ok (.ob S1.length) (S1 ++ [.dic (mergeD kvs)])) (QD X.K Q) := by
        have q'' := Aft.bind q
        rw [eo] at q''
        intro H9 G9 x9 r9
        simp only [eDisp] at q
        rw [eo] at q
        simp only [Out.bind_ok, if_pos hk] at q
        exact q H9 G9 x9 r9
      refine fin _ (G1.add p) ?_ ?_ _ (show Den X.K _ (G1.add p) (.ob S1.length) (.ref p) from ⟨p, rfl, Gh.add_last r1 p⟩)
      · refine ⟨fun i a h => ?_, x2.phi, x2.frame, fun c l => ?_, fun c h => ?_, x2.phf⟩
        · have h := x2.pre i a h
          show (G1.ι ++ [p])[i]? = some a
          rw [List.getElem?_append_left (List.getElem?_eq_some_iff.mp h).1]; exact h
        · rcases Live.add r1 l with z | z
          · exact x2.fresh c z
          · rw [z]; exact .inr hp
        · rcases List.mem_append.mp (show c ∈ G1.ι ++ [p] from h) with z | z
          · exact x2.iot c z
          · have e : c = p := by simpa using z
            rw [e]; exact .inr hp
      · refine ⟨?_, ?_, fun i a mo h1 h2 => ?_, r2.phi, fun z hz l => ?_⟩
        · show (G1.ι ++ [p]).length = (S1 ++ [MO.dic (mergeD kvs)]).length
          rw [List.length_append, List.length_append, r1.len]; rfl
        · show (G1.ι ++ [p]).Nodup
          rw [List.nodup_append]
          refine ⟨r1.nd, by simp, fun a ha c hc => ?_⟩
          have e : c = p := by simpa using hc
          subst e
          intro z; subst z; exact b1.ι ha
        · have h1 : (G1.ι ++ [p])[i]? = some a := h1
          by_cases hi : i < S1.length
          · rw [List.getElem?_append_left (by rw [r1.len]; exact hi)] at h1
            rw [List.getElem?_append_left hi] at h2
            exact r2.ok i a mo h1 h2
          · have hl : i < (S1 ++ [MO.dic (mergeD kvs)]).length := (List.getElem?_eq_some_iff.mp h2).1
            rw [List.length_append] at hl
            have e : i = S1.length := by have : i < S1.length + 1 := hl; omega
            subst e
            rw [← r1.len] at h1
            simp at h1 h2
            subst h1 h2
            exact ⟨_, upd_same, kr2.ks, kr2.vs⟩
        · rcases Live.add r1 l with y | y
          · exact r2.pnl z hz y
          · exact b1.φ z hz y
    · simp only [if_neg hk] at q1; exact q1.elim
/-- {} -/
theorem de_dnewM : DE X W (.Dict [] [] pos) (fun _ S => .ok (.ob S.length) (S ++ [.dic []])) :=
  ⟨PE.imp pe_dnewK fun σ H Q ⟨G, S, ρ, rs, rp, q⟩ d hd => Aft.newDicM (kvs := []) (ws := []) q rp rfl .nil hd⟩
theorem de_dnewL : DE X W (.Dict [] [] pos) (fun _ S => .ok (.p (.dict [])) S) :=
  ⟨PE.imp (PE.lk pe_dnewK) fun σ H Q ⟨G, S, ρ, rs, rp, q⟩ d hd => Aft.newDicL (kvs := []) (ws := []) q rp rfl .nil hd⟩
end

def strsP : List PyData → Option (List Str)
  | [] => some []
  | .str z :: r => match strsP r with
    | some zs => some (z :: zs)
    | none => none
  | _ :: _ => none
theorem strsP_dn {K : PySem.W.Frag} {φ : List (Addr × HO)} {H : Hp} : ∀ {xs : List PyData} {zs : List Str} {vs : List V}, strsP xs = some zs → DnAll K φ H xs vs → vs = zs.map V.str
  | [], zs, _, e, .nil => by cases e; rfl
  | .str b :: r, zs, _, e, .cons h t => by
    simp only [strsP] at e
    cases q : strsP r with
    | none => rw [q] at e; cases e
    | some cs =>
      rw [q] at e; cases e
      cases h
      rw [strsP_dn q t]; rfl
  | .none :: _, _, _, e, _ => by cases e
  | .int _ :: _, _, _, e, _ => by cases e
  | .bool _ :: _, _, _, e, _ => by cases e
  | .list _ :: _, _, _, e, _ => by cases e
  | .tuple _ :: _, _, _, e, _ => by cases e
  | .dict _ :: _, _, _, e, _ => by cases e
def joinM (a : Str) : D → M D := fun l S => match seqOf S l with
  | some xs => (match strsP xs with
    | some ys => if (ys.map (·.length)).sum + ys.length * a.length ≤ 16777216 then .ok (.p (.str (Txt.join a ys))) S else .bad
    | none => .bad)
  | none => .bad
def eJoin (f g : FE) : FE := fun ρ S => (f ρ S).bind fun d S1 => match d with
  | .p (.str a) => (g ρ S1).bind (joinM a)
  | _ => .bad
def fmtM : D → M D := fun d S => match d with
  | .p (.str z) => if z.length ≤ LIM then .ok (.p (.str z)) S else .bad
  | .p (.int i) => if i.natAbs.log2 < 1920 then .ok (.p (.str (toString i))) S else .bad
  | _ => .bad
def jsD : List FE → Str → Ev → M D
  | [], acc => fun _ S => .ok (.p (.str acc)) S
  | f :: r, acc => fun ρ S => (f ρ S).bind fun d S1 => match d with
    | .p (.str y) => if (acc ++ y).length ≤ LIM then jsD r (acc ++ y) ρ S1 else .bad
    | _ => .bad
inductive DJ (X : Cx) (W : WX) : List Expr → List FE → Prop where
  | nil : DJ X W [] []
  | cons {e : Expr} {f : FE} {es : List Expr} {fs : List FE} (h : DE X W e f) (r : DJ X W es fs) : DJ X W (e :: es) (f :: fs)
section
variable {X : Cx} {W : WX} {pos apos : Pos} {o e : Expr} {f g : FE}
theorem de_join (ho : DE X W o f) (he : DE X W e g) (hs : starEach [e] X.env = [(false, eval e X.env)] := by rfl) (hbase : attributeBase o "join" X.env (eval o X.env) = eval o X.env := by rfl) (hline : (apos.endLine == pos.line) = true := by rfl) : DE X W (.Call (.Attribute o "join" apos) [e] [] pos) (eJoin f g) := by
  refine ⟨PE.imp (pe_join ho.run he.run hs hbase hline) fun σ H Q ⟨G, S, ρ, rs, rp, q⟩ => ⟨G, S, ρ, rs, rp, (Aft.bind q).mono fun d H1 G1 S1 x1 r1 q1 v dv => ?_⟩⟩
  split at q1
  · rename_i a
    refine ⟨⟨a, den_str dv⟩, G1, S1, ρ, x1.relS rp rs, r1, (Aft.bind q1).mono fun l H2 G2 S2 x2 r2 q2 w dw => ?_⟩
    unfold joinM at q2
    split at q2
    · rename_i xs es
      split at q2
      · rename_i ys ey
        obtain ⟨b, vs, rfl, hq, t⟩ := seqOf_den r2 es dw
        have ev := strsP_dn ey t
        subst ev
        by_cases hz : (ys.map (·.length)).sum + ys.length * a.length ≤ 16777216
        · rw [if_pos hz] at q2
          exact ⟨a, b, ys, den_str dv, rfl, hq, hz, q2.ret r2 (.str _)⟩
        · rw [if_neg hz] at q2; exact q2.elim
      · exact q2.elim
    · exact q2.elim
  · exact q1.elim
theorem de_fmt (he : DE X W e f) : DE X W (.FormattedValue e (-1) none pos) (e1 fmtM f) := by
  refine ⟨PE.imp (pe_fmt he.run) fun σ H Q ⟨G, S, ρ, rs, rp, q⟩ => ⟨G, S, ρ, rs, rp, (Aft.bind q).mono fun d H1 G1 S1 x1 r1 q1 v dv => ?_⟩⟩
  unfold fmtM at q1
  split at q1
  · rename_i z
    by_cases hz : z.length ≤ LIM
    · rw [if_pos hz] at q1
      exact .inl ⟨z, den_str dv, Nat.le_trans hz LIM_le, q1.ret r1 (.str _)⟩
    · rw [if_neg hz] at q1; exact q1.elim
  · rename_i i
    by_cases hz : i.natAbs.log2 < 1920
    · rw [if_pos hz] at q1
      exact .inr ⟨i, den_int dv, hz, q1.ret r1 (.str _)⟩
    · rw [if_neg hz] at q1; exact q1.elim
  · exact q1.elim
theorem DJ.run {es : List Expr} {fs : List FE} (h : DJ X W es fs) : PJ X es (fs.map (rd X.K W)) := by
  induction h with
  | nil => exact .nil
  | cons h r ih => exact .cons h.run ih
theorem js_read {K : PySem.W.Frag} {Q : VK} : ∀ (fs : List FE) (acc : Str) {σ : L2.St} {H : Hp} {G : Gh} {S : Sto} {ρ : Ev}, RelS K H G ρ σ → Rep K H G S → Aft K W σ H G S (jsD fs acc ρ S) (QD K Q) → tJs (fs.map (rd K W)) acc σ H fun out H1 => Q (.str out) H1
  | [], acc, σ, H, G, S, ρ, rs, rp, q => Aft.ret q rp (.str acc)
  | f :: r, acc, σ, H, G, S, ρ, rs, rp, q => by
    refine ⟨G, S, ρ, rs, rp, (Aft.bind q).mono fun d H1 G1 S1 x1 r1 q1 v dv => ?_⟩
    split at q1
    · rename_i y
      by_cases hz : (acc ++ y).length ≤ LIM
      · rw [if_pos hz] at q1
        exact ⟨y, den_str dv, Nat.le_trans hz LIM_le, js_read r (acc ++ y) (x1.relS rp rs) r1 q1⟩
      · rw [if_neg hz] at q1; exact q1.elim
    · exact q1.elim
theorem de_fstr {v1 v2 : Expr} {rest : List Expr} {fs : List FE} (h : DJ X W (v1 :: v2 :: rest) fs) : DE X W (.JoinedStr (v1 :: v2 :: rest) pos) (jsD fs Str.empty) :=
  ⟨PE.imp (pe_joined h.run) fun σ H Q ⟨G, S, ρ, rs, rp, q⟩ => js_read fs Str.empty rs rp q⟩
end
end DL

namespace DL
open PySem L2 PySem.Spec PyProof.Rows

def eChain (g g' : D → D → M D) (a b c : FE) : FE := fun ρ S => (a ρ S).bind fun x S1 => (b ρ S1).bind fun y S2 => (g x y S2).bind fun z S3 => match z with
  | .p (.bool true) => (c ρ S3).bind fun w S4 => g' y w S4
  | .p (.bool false) => .ok (.p (.bool false)) S3
  | _ => .bad
def boolM : D → M Bool := fun d S => match d with
  | .p (.bool c) => .ok c S
  | _ => .bad
def tChain (g g' : D → D → M D) (a b c : FE) : FT := fun ρ S => (eChain g g' a b c ρ S).bind boolM
section
variable {X : Cx} {W : WX} {a b c : Expr} {fa fb fc : FE} {pos : Pos} {r r' : R2} {g g' : D → D → M D}
theorem chain_read (m : Sim2 X.K r g) (m' : Sim2 X.K r' g') {σ : L2.St} {H : Hp} {Q : VK} (q : rd X.K W (eChain g g' fa fb fc) σ H Q) : L2.tChain r r' (rd X.K W fa) (rd X.K W fb) (rd X.K W fc) σ H Q := by
  obtain ⟨G, S, ρ, rs, rp, q⟩ := q
  refine ⟨G, S, ρ, rs, rp, (Aft.bind q).mono fun x H1 G1 S1 x1 r1 q1 v dv => ?_⟩
  refine ⟨G1, S1, ρ, x1.relS rp rs, r1, (Aft.bind q1).mono fun y H2 G2 S2 x2 r2 q2 w dw => ?_⟩
  refine m W σ H2 G2 S2 x y v w _ r2 (x2.den r1 dv) dw ((Aft.bind q2).mono fun z H3 G3 S3 x3 r3 q3 u du => ?_)
  split at q3
  · refine ⟨true, den_bool du, L2.iteT ⟨G3, S3, ρ, (x2.trans x3).relS r1 (x1.relS rp rs), r3, (Aft.bind q3).mono fun w' H4 G4 S4 x4 r4 q4 u' du' => ?_⟩⟩
    exact m' W σ H4 G4 S4 y w' w u' Q r4 ((x3.trans x4).den r2 dw) du' q4
  · exact ⟨false, den_bool du, L2.iteF (q3.ret r3 (.bl _))⟩
  · exact q3.elim
theorem de_chain {op op' : CmpOp} (o : OpR X (compareOp op) r) (m : Sim2 X.K r g) (o' : OpR X (compareOp op') r') (m' : Sim2 X.K r' g') (ha : DE X W a fa) (hb : DE X W b fb) (hc : DE X W c fc) (hm : lastMarks [op, op'] [b, c] = false := by with_unfolding_all rfl) : DE X W (.Compare a [op, op'] [b, c] pos) (eChain g g' fa fb fc) :=
  ⟨PE.imp (pe_chain o o' ha.run hb.run hc.run hm) fun _ _ _ q => chain_read m m' q⟩
theorem dt_chain {op op' : CmpOp} (o : OpR X (compareOp op) r) (m : Sim2 X.K r g) (o' : OpR X (compareOp op') r') (m' : Sim2 X.K r' g') (ha : DE X W a fa) (hb : DE X W b fb) (hc : DE X W c fc) (hm : lastMarks [op, op'] [b, c] = false := by with_unfolding_all rfl) : DT X W (.Compare a [op, op'] [b, c] pos) (tChain g g' fa fb fc) := by
  refine ⟨PT.imp (pt_chain o o' ha.run hb.run hc.run hm) fun σ H Q ⟨G, S, ρ, rs, rp, q⟩ => ?_⟩
  refine chain_read m m' ⟨G, S, ρ, rs, rp, (Aft.bind q).mono fun d H1 G1 S1 x1 r1 q1 v dv => ?_⟩
  unfold boolM at q1
  split at q1
  · rename_i c
    exact ⟨c, den_bool dv, q1 H1 G1 Ext.refl r1⟩
  · exact q1.elim
theorem de_lele (ha : DE X W a fa) (hb : DE X W b fb) (hc : DE X W c fc) (hm : lastMarks [.LtE, .LtE] [b, c] = false := by with_unfolding_all rfl) : DE X W (.Compare a [.LtE, .LtE] [b, c] pos) (eChain opLe opLe fa fb fc) := de_chain op_le sim_cmp op_le sim_cmp ha hb hc hm
theorem dt_lele (ha : DE X W a fa) (hb : DE X W b fb) (hc : DE X W c fc) (hm : lastMarks [.LtE, .LtE] [b, c] = false := by with_unfolding_all rfl) : DT X W (.Compare a [.LtE, .LtE] [b, c] pos) (tChain opLe opLe fa fb fc) := dt_chain op_le sim_cmp op_le sim_cmp ha hb hc hm
theorem dt_lelt (ha : DE X W a fa) (hb : DE X W b fb) (hc : DE X W c fc) (hm : lastMarks [.LtE, .Lt] [b, c] = false := by with_unfolding_all rfl) : DT X W (.Compare a [.LtE, .Lt] [b, c] pos) (tChain opLe opLt fa fb fc) := dt_chain op_le sim_cmp op_lt sim_cmp ha hb hc hm
theorem dt_ltlt (ha : DE X W a fa) (hb : DE X W b fb) (hc : DE X W c fc) (hm : lastMarks [.Lt, .Lt] [b, c] = false := by with_unfolding_all rfl) : DT X W (.Compare a [.Lt, .Lt] [b, c] pos) (tChain opLt opLt fa fb fc) := dt_chain op_lt sim_cmp op_lt sim_cmp ha hb hc hm
/-- is not, of bools -/
def opNotB : D → D → M D := fun x y S => match x, y with
  | .p (.bool a), .p (.bool b) => .ok (.p (.bool (!decide (a = b)))) S
  | _, _ => .bad
theorem sim_notB {K : PySem.W.Frag} : Sim2 K rNotB opNotB := by
  intro W σ H G S x y v w Q rp dx dy q
  unfold opNotB at q
  split at q
  · rename_i a b
    exact ⟨a, b, den_bool dx, den_bool dy, q.ret rp (.bl _)⟩
  · exact q.elim
theorem dt_notB (ha : DE X W a fa) (hb : DE X W b fb) : DT X W (.Compare a [.IsNot] [b] pos) (tC2 opNotB fa fb) := dt_cmp op_notBl sim_notB ha hb (nomark _)
end

section
variable {X : Cx} {W : WX} {k : Nat} {f : Addr} {fd : FuncData} {y x : Str} {p pos kpos : Pos} {e : Expr} {fe : FE} {g : List D → M D}
theorem de_callKw1 (F : FnG X.prog X.w X.K X.mg X.base k f fd [y] (spD X.K 1 g)) (hr : Room k X.A) (hgd : X.A.guards = some []) (hg : Gl X x) (hm : X.mg x = some (.ref f)) (hk : PySem.W.keepIn X.K (.ref f) = true) (hb : ∀ (s : Shared) (u : Value), BindsTo s fd ⟨[], [(y, u)]⟩ [(y, u)])
    (ha : DE X W e fe) (hall : (backToKw pos (keywordEach [⟨some y, e, kpos⟩] X.env)).all (·.1.isSome) = true := by rfl) (hks : (backToKw pos (keywordEach [⟨some y, e, kpos⟩] X.env)).filterMap (·.1) = [y] := by rfl)
    (hdb : (x == ("__debug__" : Str)) = false := by decide) (hpl : ((backTo pos (starEach [] X.env)).any (·.1) || (backToKw pos (keywordEach [⟨some y, e, kpos⟩] X.env)).any (·.1.isNone)) = false := by rfl) :
    DE X W (.Call (.Name x p) [] [⟨some y, e, kpos⟩] pos) (eCall 1 g (aCons fe aNil)) := by
  refine ⟨⟨fun pins s σ H Q I h => wpAny_Call_Name_kw (ld_glob I hg hm ?_ hdb)⟩⟩
  have hkw : PK X [⟨some y, e, kpos⟩] (tCons (rd X.K W fe) tNil) := pk_cons ha.run pk_nil
  have hq : tCons (rd X.K W fe) tNil σ H fun vs H1 => spD X.K 1 g vs H1 Q E0 := by
    obtain ⟨G, S, ρ, rs, rp, q⟩ := h
    refine ⟨G, S, ρ, rs, rp, ?_⟩
    have q : Aft X.K W σ H G S (((fe ρ S).bind fun d S1 => .ok [d] S1).bind fun ds S1 => if ds.length = 1 then noErr (cutD S1.length (g ds S1)) else .bad) (QD X.K Q) := q
    cases eo : fe ρ S with
    | bad => rw [eo] at q; exact q
    | err z S1 => rw [eo] at q; exact q
    | ok d S1 =>
      rw [eo] at q
      intro H1 G1 x1 r1 v dv
      have q1 : Aft X.K W σ H G S (noErr (cutD S1.length (g [d] S1))) (QD X.K Q) := q
      refine ⟨G1, S1, [d], rfl, .cons dv .nil, r1, ?_⟩
      have q2 : Aft X.K W0 [] H G S (cutD S1.length (g [d] S1)) (QD X.K Q) := Aft.noErr q1
      cases ec : cutD S1.length (g [d] S1) with
      | bad => rw [ec] at q2; exact q2
      | err z S2 => rw [ec] at q1; exact q1.elim
      | ok d2 S2 => rw [ec] at q2; exact fun H2 G2 x2 r2 => q2 H2 G2 (x1.trans x2) r2
  refine PySem.W.callWith_KW0 (h₀ := X.base) I.ok.mod.kin hk hall (thn (hkw.run pos pins s σ H _ I hq) fun ws s2 ⟨zs, H2, I2, rz, q2⟩ => ⟨I2.kIn, ?_⟩) hpl
  rw [hks]
  have hl : zs.length = 1 := F.len _ _ _ _ q2
  have rl := rz.length
  obtain ⟨z, rfl⟩ := List.length_eq_one_iff.mp hl
  obtain ⟨u, rfl⟩ := List.length_eq_one_iff.mp (rl.symm.trans hl)
  · refine wpAny_call (codeAny_mono (F.run X.A X.stack s2 H2 ⟨[], [(y, u)]⟩ [u] [z] Q E0 hr hgd I2.env0 (hb s2 u) rz q2) fun res s' hq => ?_)
    match res, hq with
    | .error e, hq => exact False.elim hq
    | .ok (.ret u), hq => exact I2.after hq
    | .ok .next, hq => exact False.elim hq
    | .ok .brk, hq => exact False.elim hq
    | .ok .cont, hq => exact False.elim hq
end

def appendM : D → List D → M D := fun o ds S => match o, ds with
  | .ob i, [.p x] => match S[i]? with
    | some (.lst xs) => if xs.length < LIM then .ok (.p .none) (S.set i (.lst (xs ++ [x]))) else .bad
    | _ => .bad
  | _, _ => .bad
def extendM : D → List D → M D := fun o ds S => match o, ds with
  | .ob i, [l] => match S[i]?, lstOf S l with
    | some (.lst xs), some ys => if xs.length + ys.length ≤ LIM then .ok (.p .none) (S.set i (.lst (xs ++ ys))) else .bad
    | _, _ => .bad
  | _, _ => .bad
def popM : D → List D → M D := fun o ds S => match o, ds with
  | .ob i, [] => match S[i]? with
    | some (.lst xs) => (match xs[xs.length - 1]? with
      | some y => .ok (.p y) (S.set i (.lst xs.dropLast))
      | none => .bad)
    | _ => .bad
  | .ob i, [.p (.int k)] => match S[i]? with
    | some (.lst xs) => if 0 ≤ k ∧ k ≤ 1000000 then (match xs[k.toNat]? with
      | some y => .ok (.p y) (S.set i (.lst (xs.eraseIdx k.toNat)))
      | none => .bad) else .bad
    | _ => .bad
  | _, _ => .bad
/-- o.m(..) of a list -/
def eLm (m : D → List D → M D) (f : FE) (fa : FA) : FE := fun ρ S => (f ρ S).bind fun o S1 => match rlOf S1 o with
  | some _ => (fa ρ S1).bind fun ds S2 => m o ds S2
  | none => .bad
def SimM (K : PySem.W.Frag) (r : V → List V → Hp → VK → Prop) (m : D → List D → M D) : Prop :=
  ∀ (W : WX) (σ : L2.St) (H : Hp) (G : Gh) (S : Sto) (o : D) (ds : List D) (v : V) (vs : List V) (Q : VK), Rep K H G S → Den K H G o v → DenL K H G ds vs → Aft K W σ H G S (m o ds S) (QD K Q) → r v vs H Q
theorem DnAll.dropLast {K : PySem.W.Frag} {φ : List (Addr × HO)} {H : Hp} {ds : List PyData} {vs : List V} (t : DnAll K φ H ds vs) : DnAll K φ H ds.dropLast vs.dropLast := by
  rw [List.dropLast_eq_take, List.dropLast_eq_take, t.length]
  exact t.take _
theorem DnAll.eraseIdx {K : PySem.W.Frag} {φ : List (Addr × HO)} {H : Hp} {ds : List PyData} {vs : List V} (k : Nat) (t : DnAll K φ H ds vs) : DnAll K φ H (ds.eraseIdx k) (vs.eraseIdx k) := by
  rw [List.eraseIdx_eq_take_drop_succ, List.eraseIdx_eq_take_drop_succ]
  exact (t.take k).append (t.drop (k + 1))
section
variable {K : PySem.W.Frag}
theorem Aft.chgLst {W : WX} {σ : L2.St} {H : Hp} {G : Gh} {S : Sto} {Q : VK} {i : Nat} {a : Addr} {m : MO} {xs : List PyData} {vs : List V} {d : PyData} {v : V} (q : Aft K W σ H G S (.ok (.p d) (S.set i (.lst xs))) (QD K Q)) (rp : Rep K H G S) (ha : G.ι[i]? = some a) (hm : S[i]? = some m) (hl : m ≠ .dead) (t : DnAll K G.φ H xs vs) (dv : Dn K G.φ H d v) : Q v (upd H a (.lst vs)) := by
  have x := Ext.chg (o := .lst vs) (m' := .lst xs) rp ha hm hl
  exact q _ G x (rp.chg ha hm hl ⟨vs, upd_same, x.dnAll rp t⟩) v (x.dn rp dv)
theorem sim_append : SimM K rAppend appendM := by
  intro W σ H G S o ds v vs Q rp dv dvs q
  unfold appendM at q
  split at q
  · rename_i i x
    obtain ⟨a, rfl, ha⟩ := dv
    obtain ⟨u, rfl, du⟩ := denL1 dvs
    split at q
    · rename_i xs em
      obtain ⟨us, e1, t⟩ := rp.ok i a _ ha em
      by_cases hl : xs.length < LIM
      · rw [if_pos hl] at q
        exact ⟨a, us, u, rfl, rfl, e1, by rw [← t.length]; exact Nat.lt_trans hl LIM_lt, q.chgLst rp ha em (fun z => nomatch z) (t.append (.cons du .nil)) .non⟩
      · rw [if_neg hl] at q; exact q.elim
    · exact q.elim
  · exact q.elim
theorem sim_extend : SimM K rExtend extendM := by
  intro W σ H G S o ds v vs Q rp dv dvs q
  unfold extendM at q
  split at q
  · rename_i i l
    obtain ⟨a, rfl, ha⟩ := dv
    obtain ⟨u, rfl, du⟩ := denL1 dvs
    split at q
    · rename_i xs ys em el
      obtain ⟨us, e1, t⟩ := rp.ok i a _ ha em
      obtain ⟨b, ws, rfl, e2, t2⟩ := lstOf_den rp el du
      by_cases hl : xs.length + ys.length ≤ LIM
      · rw [if_pos hl] at q
        exact ⟨a, b, us, ws, rfl, rfl, e1, e2, by rw [← t.length, ← t2.length]; exact Nat.le_trans hl LIM_le, q.chgLst rp ha em (fun z => nomatch z) (t.append t2) .non⟩
      · rw [if_neg hl] at q; exact q.elim
    · exact q.elim
  · exact q.elim
theorem sim_pop : SimM K (fun x vs H Q => rPop x vs H Q ∨ rPopAt x vs H Q) popM := by
  intro W σ H G S o ds v vs Q rp dv dvs q
  unfold popM at q
  split at q
  · rename_i i
    obtain ⟨a, rfl, ha⟩ := dv
    cases dvs
    split at q
    · rename_i xs em
      obtain ⟨us, e1, t⟩ := rp.ok i a _ ha em
      split at q
      · rename_i y ey
        obtain ⟨u, eu, du⟩ := t.get ey
        exact .inl ⟨a, us, u, rfl, rfl, e1, by rw [← t.length]; exact eu, q.chgLst rp ha em (fun z => nomatch z) t.dropLast du⟩
      · exact q.elim
    · exact q.elim
  · rename_i i k
    obtain ⟨a, rfl, ha⟩ := dv
    obtain ⟨u, rfl, du⟩ := denL1 dvs
    obtain rfl := den_int du
    split at q
    · rename_i xs em
      obtain ⟨us, e1, t⟩ := rp.ok i a _ ha em
      by_cases hk : 0 ≤ k ∧ k ≤ 1000000
      · rw [if_pos hk] at q
        split at q
        · rename_i y ey
          obtain ⟨w, ew, dw⟩ := t.get ey
          have hlt : k.toNat < us.length := (List.getElem?_eq_some_iff.mp ew).1
          exact .inr ⟨a, us, k, k.toNat, w, rfl, rfl, e1, by omega, by omega, seqIndex_of hk.1 (by omega), ew, q.chgLst rp ha em (fun z => nomatch z) (t.eraseIdx _) dw⟩
        · exact q.elim
      · rw [if_neg hk] at q; exact q.elim
    · exact q.elim
  · exact q.elim
end
section
variable {X : Cx} {W : WX} {o e : Expr} {es : List Expr} {f : FE} {fa : FA} {apos cpos : Pos} {r : V → List V → Hp → VK → Prop} {m : D → List D → M D}
theorem lm_read (sm : SimM X.K r m) {σ : L2.St} {H : Hp} {Q : VK} (q : rd X.K W (eLm m f fa) σ H Q) : tBM X.K "list" r (rd X.K W f) (rdA X.K W fa) σ H Q := by
  obtain ⟨G, S, ρ, rs, rp, q⟩ := q
  refine ⟨G, S, ρ, rs, rp, (Aft.bind q).mono fun od H1 G1 S1 x1 r1 q1 v dv => ?_⟩
  split at q1
  · rename_i xs eo
    obtain ⟨a, vs, rfl, hq, t⟩ := rlOf_den r1 eo dv
    refine ⟨.inl ⟨rfl, vs, hq⟩, G1, S1, ρ, x1.relS rp rs, r1, (Aft.bind q1).mono fun ds H2 G2 S2 x2 r2 q2 us dus => ?_⟩
    exact sm W σ H2 G2 S2 od ds _ us Q r2 (x2.den r1 dv) dus q2
  · exact q1.elim
theorem de_append (ho : DE X W o f) (ha : DA X W (e :: es) fa) (hbase : attributeBase o "append" X.env (eval o X.env) = eval o X.env := by rfl)
    (hfew : ((backTo cpos (starEach (e :: es) X.env)).all (fun x => !x.1) && (backToKw cpos (keywordEach [] X.env)).all (fun x => x.1.isSome)
      && decide ((e :: es).length + ([] : List Keyword).length + (if ([] : List Keyword).isEmpty then 0 else 1) < 30)) = true := by rfl)
    (hline : (apos.endLine == cpos.line) = true := by rfl) (hs : starEach (e :: es) X.env = (false, eval e X.env) :: starEach es X.env := by rfl) (hplain : (backTo cpos (starEach es X.env)).any (·.1) = false := by rfl) :
    DE X W (.Call (.Attribute o "append" apos) (e :: es) [] cpos) (eLm appendM f fa) :=
  ⟨PE.imp (pe_bm PySem.F.plainAttrs_list PySem.F.slot_list_append PySem.F.type_list_append mt_append ho.run ha.run hbase hfew hline hs hplain) fun _ _ _ q => lm_read sim_append q⟩
theorem de_extend (ho : DE X W o f) (ha : DA X W (e :: es) fa) (hbase : attributeBase o "extend" X.env (eval o X.env) = eval o X.env := by rfl)
    (hfew : ((backTo cpos (starEach (e :: es) X.env)).all (fun x => !x.1) && (backToKw cpos (keywordEach [] X.env)).all (fun x => x.1.isSome)
      && decide ((e :: es).length + ([] : List Keyword).length + (if ([] : List Keyword).isEmpty then 0 else 1) < 30)) = true := by rfl)
    (hline : (apos.endLine == cpos.line) = true := by rfl) (hs : starEach (e :: es) X.env = (false, eval e X.env) :: starEach es X.env := by rfl) (hplain : (backTo cpos (starEach es X.env)).any (·.1) = false := by rfl) :
    DE X W (.Call (.Attribute o "extend" apos) (e :: es) [] cpos) (eLm extendM f fa) :=
  ⟨PE.imp (pe_bm PySem.F.plainAttrs_list PySem.F.slot_list_extend PySem.F.type_list_extend mt_extend ho.run ha.run hbase hfew hline hs hplain) fun _ _ _ q => lm_read sim_extend q⟩
theorem de_popAt (ho : DE X W o f) (ha : DA X W (e :: es) fa) (hbase : attributeBase o "pop" X.env (eval o X.env) = eval o X.env := by rfl)
    (hfew : ((backTo cpos (starEach (e :: es) X.env)).all (fun x => !x.1) && (backToKw cpos (keywordEach [] X.env)).all (fun x => x.1.isSome)
      && decide ((e :: es).length + ([] : List Keyword).length + (if ([] : List Keyword).isEmpty then 0 else 1) < 30)) = true := by rfl)
    (hline : (apos.endLine == cpos.line) = true := by rfl) (hs : starEach (e :: es) X.env = (false, eval e X.env) :: starEach es X.env := by rfl) (hplain : (backTo cpos (starEach es X.env)).any (·.1) = false := by rfl) :
    DE X W (.Call (.Attribute o "pop" apos) (e :: es) [] cpos) (eLm popM f fa) :=
  ⟨PE.imp (pe_bm PySem.F.plainAttrs_list PySem.F.slot_list_pop PySem.F.type_list_pop (MtR.or (show MtR X "list.pop" _ from mt_pop) mt_popAt) ho.run ha.run hbase hfew hline hs hplain) fun _ _ _ q => lm_read sim_pop q⟩
theorem de_pop (ho : DE X W o f) (hbase : attributeBase o "pop" X.env (eval o X.env) = eval o X.env := by rfl) (hline : (apos.endLine == cpos.line) = true := by rfl) : DE X W (.Call (.Attribute o "pop" apos) [] [] cpos) (eLm popM f aNil) := by
  refine ⟨PE.imp (pe_bm0 PySem.F.plainAttrs_list PySem.F.slot_list_pop PySem.F.type_list_pop (MtR.or (show MtR X "list.pop" _ from mt_pop) mt_popAt) ho.run hbase hline) fun σ H Q q => ?_⟩
  obtain ⟨G, S, ρ, rs, rp, q⟩ := q
  refine ⟨G, S, ρ, rs, rp, (Aft.bind q).mono fun od H1 G1 S1 x1 r1 q1 v dv => ?_⟩
  split at q1
  · rename_i xs eo
    obtain ⟨a, vs, rfl, hq, t⟩ := rlOf_den r1 eo dv
    exact ⟨.inl ⟨rfl, vs, hq⟩, sim_pop W σ H1 G1 S1 od [] _ [] Q r1 dv .nil q1⟩
  · exact q1.elim

def getM : D → D → D → M D := fun o k x S => match dicOf S o, k with
  | some kvs, .p kd => (match pyKey kd with
    | some key => (match valD kvs key with
      | some d => .ok (.p d) S
      | none => .ok x S)
    | none => .bad)
  | _, _ => .bad
def setdM : D → D → D → M D := fun o k x S => match o, k, x with
  | .ob i, .p kd, .p xd => match S[i]?, pyKey kd with
    | some (.dic kvs), some key => if kvs.length < LIM then (match valD kvs key with
      | some d => .ok (.p d) S
      | none => .ok (.p xd) (S.set i (.dic (putD kvs key xd)))) else .bad
    | _, _ => .bad
  | _, _, _ => .bad
def eDm (m : D → D → D → M D) (f g h : FE) : FE := fun ρ S => (f ρ S).bind fun o S1 => match dicOf S1 o with
  | some _ => (g ρ S1).bind fun k S2 => (h ρ S2).bind fun x S3 => m o k x S3
  | none => .bad
variable {g h : FE} {e2 : Expr}
theorem de_get (hu : X.A.units + 1 < cLine) (ho : DE X W o f) (he : DE X W e g) (hf : DE X W e2 h) (m : M2 X o "get" apos e e2 cpos := by exact ⟨rfl, rfl, rfl, rfl⟩) : DE X W (.Call (.Attribute o "get" apos) [e, e2] [] cpos) (eDm getM f g h) := by
  refine ⟨PE.imp (pe_dget2 hu ho.run he.run hf.run m) fun σ H Q ⟨G, S, ρ, rs, rp, q⟩ => ⟨G, S, ρ, rs, rp, (Aft.bind q).mono fun od H1 G1 S1 x1 r1 q1 v dv => ?_⟩⟩
  split at q1
  · rename_i kv0 eo
    obtain ⟨a, ws, rfl, hH, _⟩ := dicOf_den r1 eo dv
    refine ⟨a, rfl, .inl ⟨ws, hH⟩, G1, S1, ρ, x1.relS rp rs, r1, (Aft.bind q1).mono fun k H2 G2 S2 x2 r2 q2 kv dk => ?_⟩
    refine ⟨G2, S2, ρ, x2.relS r1 (x1.relS rp rs), r2, (Aft.bind q2).mono fun x H3 G3 S3 x3 r3 q3 xv dx => ?_⟩
    unfold getM at q3
    split at q3
    · rename_i kvs kd eo3
      obtain ⟨b, ws3, eb, hH3, kr⟩ := dicOf_den r3 eo3 ((x2.trans x3).den r1 dv)
      cases eb
      split at q3
      · rename_i key ek
        have ekd := keyPy_of ek
        subst ekd
        have dk3 := x3.den r2 dk
        have ev : kv = kV key := by
          cases key with
          | inl i => exact den_int dk3
          | inr z => exact den_str dk3
        subst ev
        refine ⟨valV ws3 key, .inl ⟨ws3, key, hH3, rfl, rfl⟩, ?_⟩
        split at q3
        · rename_i d ed
          obtain ⟨u, eu, du⟩ := (kr.val (k := key)).1 d ed
          rw [eu]
          exact q3.ret r3 du
        · rename_i ed
          rw [(kr.val (k := key)).2 ed]
          exact q3.ret r3 dx
      · exact q3.elim
    · exact q3.elim
  · exact q1.elim
theorem de_setd (ho : DE X W o f) (he : DE X W e g) (hf : DE X W e2 h) (m : M2 X o "setdefault" apos e e2 cpos := by exact ⟨rfl, rfl, rfl, rfl⟩) : DE X W (.Call (.Attribute o "setdefault" apos) [e, e2] [] cpos) (eDm setdM f g h) := by
  refine ⟨PE.imp (pe_dsetd ho.run he.run hf.run m) fun σ H Q ⟨G, S, ρ, rs, rp, q⟩ => ⟨G, S, ρ, rs, rp, (Aft.bind q).mono fun od H1 G1 S1 x1 r1 q1 v dv => ?_⟩⟩
  split at q1
  · rename_i kv0 eo
    obtain ⟨a, ws, rfl, hH, _⟩ := dicOf_den r1 eo dv
    refine ⟨a, rfl, .inl ⟨ws, hH⟩, G1, S1, ρ, x1.relS rp rs, r1, (Aft.bind q1).mono fun k H2 G2 S2 x2 r2 q2 kv dk => ?_⟩
    refine ⟨G2, S2, ρ, x2.relS r1 (x1.relS rp rs), r2, (Aft.bind q2).mono fun x H3 G3 S3 x3 r3 q3 xv dx => ?_⟩
    have dv3 := (x2.trans x3).den r1 dv
    have dk3 := x3.den r2 dk
    unfold setdM at q3
    split at q3
    · rename_i i kd xd
      obtain ⟨b, eb, ha⟩ := dv3
      cases eb
      split at q3
      · rename_i kvs key em ek
        have ekd := keyPy_of ek
        subst ekd
        have ev : kv = kV key := by
          cases key with
          | inl i => exact den_int dk3
          | inr z => exact den_str dk3
        subst ev
        obtain ⟨ws3, e1, e2, t⟩ := r3.ok i a _ ha em
        have kr : KvR X.K G3.φ H3 kvs ws3 := ⟨e2, t⟩
        by_cases hl : kvs.length < LIM
        · rw [if_pos hl] at q3
          refine ⟨ws3, key, e1, rfl, by rw [← kr.length]; exact Nat.lt_trans hl LIM_lt, fun u eu => ?_, fun eu => ?_⟩
          · split at q3
            · rename_i d ed
              obtain ⟨u', eu', du⟩ := (kr.val (k := key)).1 d ed
              rw [eu] at eu'; cases eu'
              exact q3.ret r3 du
            · rename_i ed
              rw [(kr.val (k := key)).2 ed] at eu; cases eu
          · split at q3
            · rename_i d ed
              obtain ⟨u', eu', du⟩ := (kr.val (k := key)).1 d ed
              rw [eu] at eu'; cases eu'
            · have rr := kr.put (k := key) dx
              have xx := Ext.chg (o := .dK (putK ws3 key xv)) (m' := .dic (putD kvs key xd)) r3 ha em (fun z => nomatch z)
              exact q3 _ G3 xx (r3.chg ha em (fun z => nomatch z) ⟨_, upd_same, rr.ks, xx.dnAll r3 rr.vs⟩) xv (xx.dn r3 dx)
        · rw [if_neg hl] at q3; exact q3.elim
      · exact q3.elim
    · exact q3.elim
  · exact q1.elim
end
end DL

namespace DL
open PySem L2 PySem.Spec PyProof.Rows

def GlobIs (K : PySem.W.Frag) (mg : Str → Option Value) (x : Str) (d : PyData) : Prop := ∃ (u : Value) (v : V), mg x = some u ∧ RelV v u ∧ ∀ H G, Den K H G (.p d) v
theorem de_globD {X : Cx} {W : WX} {x : Str} {d : PyData} {pos : Pos} (hg : Gl X x) (h : GlobIs X.K X.mg x d) (hdb : (x == ("__debug__" : Str)) = false := by decide) : DE X W (.Name x pos) (eC (.p d)) := by
  obtain ⟨u, v, hm, r, hd⟩ := h
  exact de_glob hg hm r hd hdb
/-- flat values of the top -/
def flatOf : Value → Option (PyData × V)
  | .none => some (.none, .non)
  | .bool b => some (.bool b, .bl b)
  | .int i _ => some (.int i, .int i)
  | .str x _ => some (.str x, .str x)
  | _ => none
def flats : List Value → Option (List (PyData × V))
  | [] => some []
  | u :: us => match flatOf u, flats us with
    | some p, some ps => some (p :: ps)
    | _, _ => none
theorem flat_ok {K : PySem.W.Frag} {φ : List (Addr × HO)} {H : Hp} {u : Value} {p : PyData × V} (e : flatOf u = some p) : RelV p.2 u ∧ Dn K φ H p.1 p.2 := by
  unfold flatOf at e
  split at e <;> first | (cases e; exact ⟨rfl, .non⟩) | (cases e; exact ⟨rfl, .bl _⟩) | (cases e; exact ⟨⟨_, rfl⟩, .int _⟩) | (cases e; exact ⟨⟨_, rfl⟩, .str _⟩) | cases e
theorem flats_ok {K : PySem.W.Frag} {φ : List (Addr × HO)} {H : Hp} : ∀ {us : List Value} {ps : List (PyData × V)}, flats us = some ps → Vals (ps.map (·.2)) us ∧ DnAll K φ H (ps.map (·.1)) (ps.map (·.2))
  | [], ps, e => by cases e; exact ⟨.nil, .nil⟩
  | u :: us, ps, e => by
    unfold flats at e
    split at e
    · rename_i p ps' e1 e2
      cases e
      have h := flat_ok (K := K) (φ := φ) (H := H) e1
      have t := flats_ok (K := K) (φ := φ) (H := H) e2
      exact ⟨.cons h.1 t.1, .cons h.2 t.2⟩
    · cases e
section
variable {K : PySem.W.Frag} {h : Heap} {mg : Str → Option Value} {x : Str}
theorem glob_flat {u : Value} {p : PyData × V} {d : PyData} (X : K.In h) (G : h.Ns mainGlobals mg) (e : PySem.W.nsIn K mainGlobals x = some (some u)) (f : flatOf u = some p) (hd : p.1 = d := by rfl) : GlobIs K mg x d := by
  subst hd
  exact ⟨u, p.2, PySem.W.mg_of X G e, (flat_ok (K := K) (φ := []) (H := fun _ => none) f).1, fun H G => (flat_ok f).2⟩
theorem glob_tup {a : Addr} {o : Obj} {its : Array Value} {n : Nat} {ps : List (PyData × V)} {d : PyData} (X : K.In h) (G : h.Ns mainGlobals mg) (e : PySem.W.nsIn K mainGlobals x = some (some (.ref a))) (l : K.lookup a = some o) (hc : o.cls = .type "tuple") (hs : o.data = .seq its n)
    (f : flats its.toList = some ps) (hz : its.size ≤ 1000) (hd : PyData.tuple (ps.map (·.1)) = d) : GlobIs K mg x d := by
  subst hd
  refine ⟨.ref a, .ref a, PySem.W.mg_of X G e, rfl, fun H G => .tup (.inr ⟨o, its, n, l, hc, hs, Nat.le_of_lt (small1000 hz), ?_⟩) (flats_ok f).2⟩
  exact (flats_ok (K := K) (φ := []) (H := fun _ => none) f).1
end

def opEqX (neg : Bool) : D → D → M D := fun x y S => match x, y with
  | .p (.str a), .p (.str b) => .ok (.p (.bool (if neg then !(a == b) else (a == b)))) S
  | .p (.int a), .p (.int b) => .ok (.p (.bool (if neg then !(a == b) else (a == b)))) S
  | .p (.bool a), .p (.bool b) => .ok (.p (.bool (if neg then !(a == b) else (a == b)))) S
  | .p (.tuple xs), .p (.tuple []) => .ok (.p (.bool (if neg then !xs.isEmpty else xs.isEmpty))) S
  | x, y => opEq neg x y S
def rT0 (K : PySem.W.Frag) (neg : Bool) : R2 := fun x y H Q => ∃ a b vs, x = .ref a ∧ y = .ref b ∧ SqT K H a vs ∧ SqT K H b [] ∧ Q (.bl (if neg then !vs.isEmpty else vs.isEmpty)) H
section
variable {X : Cx}
theorem op_eqT0 (hu : X.A.units < cLine) : OpR X (compareOp .Eq) (rT0 X.K false) := by
  intro pins s σ H x y v u Q I rx ry h
  obtain ⟨a, b, vs, rfl, rfl, ha, hb, q⟩ := h
  cases (show v = Value.ref a from rx)
  cases (show u = Value.ref b from ry)
  obtain ⟨its, r1, p1, _⟩ := I.tuple ha
  obtain ⟨jts, r2, p2, _⟩ := I.tuple hb
  cases r2
  have e1 : its.length = vs.length := r1.length.symm
  refine SeqAt.RcAt.tuples (e := fun _ => true) p1 p2 hu (fun j h1 h2 => absurd h2 (by simp)) X.prog X.w X.xe _ ?_
  refine ⟨.bl _, H, I, rfl, ?_⟩
  have e : vs.isEmpty = ((List.range (min its.toArray.size ([] : List Value).toArray.size)).all (fun _ => true) && its.toArray.size == ([] : List Value).toArray.size) := by
    cases vs <;> cases its <;> simp at e1 ⊢
  rw [← e]
  exact q
theorem op_neT0 (hu : X.A.units < cLine) : OpR X (compareOp .NotEq) (rT0 X.K true) := by
  intro pins s σ H x y v u Q I rx ry h
  obtain ⟨a, b, vs, rfl, rfl, ha, hb, q⟩ := h
  cases (show v = Value.ref a from rx)
  cases (show u = Value.ref b from ry)
  obtain ⟨its, r1, p1, _⟩ := I.tuple ha
  obtain ⟨jts, r2, p2, _⟩ := I.tuple hb
  cases r2
  have e1 : its.length = vs.length := r1.length.symm
  refine SeqAt.RcNeAt.tuples (e := fun _ => true) p1 p2 hu (fun j h1 h2 => absurd h2 (by simp)) X.prog X.w X.xe _ ?_
  refine ⟨.bl _, H, I, rfl, ?_⟩
  have e : vs.isEmpty = ((List.range (min its.toArray.size ([] : List Value).toArray.size)).all (fun _ => true) && its.toArray.size == ([] : List Value).toArray.size) := by
    cases vs <;> cases its <;> simp at e1 ⊢
  rw [← e]
  exact q
def rEqX (K : PySem.W.Frag) : R2 := fun x y H Q => rEq x y H Q ∨ rT0 K false x y H Q ∨ rEqD K x y H Q
def rNeX (K : PySem.W.Frag) : R2 := fun x y H Q => rNe x y H Q ∨ rT0 K true x y H Q ∨ rNeD K x y H Q
theorem op_eqX (hu : X.A.units + 64 < cLine) : OpR X (compareOp .Eq) (rEqX X.K) := by
  intro pins s σ H x y v u Q I rx ry h
  rcases h with h | h | h
  · exact op_eq pins s σ H x y v u Q I rx ry h
  · exact op_eqT0 (by omega) pins s σ H x y v u Q I rx ry h
  · exact op_eqD hu pins s σ H x y v u Q I rx ry h
theorem op_neX (hu : X.A.units + 64 < cLine) : OpR X (compareOp .NotEq) (rNeX X.K) := by
  intro pins s σ H x y v u Q I rx ry h
  rcases h with h | h | h
  · exact op_ne pins s σ H x y v u Q I rx ry h
  · exact op_neT0 (by omega) pins s σ H x y v u Q I rx ry h
  · exact op_neD hu pins s σ H x y v u Q I rx ry h
end
theorem DnAll.isE {K : PySem.W.Frag} {φ : List (Addr × HO)} {H : Hp} {ds : List PyData} {vs : List V} (h : DnAll K φ H ds vs) : ds.isEmpty = vs.isEmpty := by cases h <;> rfl
theorem sim_eqX {K : PySem.W.Frag} : Sim2 K (rEqX K) (opEqX false) := by
  intro W σ H G S x y v w Q rp dx dy q
  unfold opEqX at q
  split at q
  · rename_i a b
    obtain rfl := den_str dx; obtain rfl := den_str dy
    exact .inl ⟨rfl, by rw [dec_str]; exact q.ret rp (.bl _)⟩
  · rename_i a b
    obtain rfl := den_int dx; obtain rfl := den_int dy
    exact .inl ⟨rfl, by rw [dec_int]; exact q.ret rp (.bl _)⟩
  · rename_i a b
    obtain rfl := den_bool dx; obtain rfl := den_bool dy
    exact .inl ⟨rfl, by rw [dec_bl]; exact q.ret rp (.bl _)⟩
  · rename_i xs
    obtain ⟨a, vs, rfl, ha, t⟩ := den_tup dx
    obtain ⟨b, ws, rfl, hb, t2⟩ := den_tup dy
    cases t2
    refine .inr (.inl ⟨a, b, vs, rfl, rfl, ha, hb, ?_⟩)
    rw [t.isE] at q
    exact q.ret rp (.bl _)
  · exact .inr (.inr (sim_eq W σ H G S x y v w Q rp dx dy q))
theorem sim_neX {K : PySem.W.Frag} : Sim2 K (rNeX K) (opEqX true) := by
  intro W σ H G S x y v w Q rp dx dy q
  unfold opEqX at q
  split at q
  · rename_i a b
    obtain rfl := den_str dx; obtain rfl := den_str dy
    exact .inl ⟨rfl, by rw [dec_str]; exact q.ret rp (.bl _)⟩
  · rename_i a b
    obtain rfl := den_int dx; obtain rfl := den_int dy
    exact .inl ⟨rfl, by rw [dec_int]; exact q.ret rp (.bl _)⟩
  · rename_i a b
    obtain rfl := den_bool dx; obtain rfl := den_bool dy
    exact .inl ⟨rfl, by rw [dec_bl]; exact q.ret rp (.bl _)⟩
  · rename_i xs
    obtain ⟨a, vs, rfl, ha, t⟩ := den_tup dx
    obtain ⟨b, ws, rfl, hb, t2⟩ := den_tup dy
    cases t2
    refine .inr (.inl ⟨a, b, vs, rfl, rfl, ha, hb, ?_⟩)
    rw [t.isE] at q
    exact q.ret rp (.bl _)
  · exact .inr (.inr (sim_ne W σ H G S x y v w Q rp dx dy q))
section
variable {X : Cx} {W : WX} {a b : Expr} {f h : FE} {pos : Pos}
theorem de_eqX (hu : X.A.units + 64 < cLine) (ha : DE X W a f) (hb : DE X W b h) : DE X W (.Compare a [.Eq] [b] pos) (e2 (opEqX false) f h) := de_cmp (op_eqX hu) sim_eqX ha hb (nomark _)
theorem de_neX (hu : X.A.units + 64 < cLine) (ha : DE X W a f) (hb : DE X W b h) : DE X W (.Compare a [.NotEq] [b] pos) (e2 (opEqX true) f h) := de_cmp (op_neX hu) sim_neX ha hb (nomark _)
theorem dt_eqX (hu : X.A.units + 64 < cLine) (ha : DE X W a f) (hb : DE X W b h) : DT X W (.Compare a [.Eq] [b] pos) (tC2 (opEqX false) f h) := dt_cmp (op_eqX hu) sim_eqX ha hb (nomark _)
theorem dt_neX (hu : X.A.units + 64 < cLine) (ha : DE X W a f) (hb : DE X W b h) : DT X W (.Compare a [.NotEq] [b] pos) (tC2 (opEqX true) f h) := dt_cmp (op_neX hu) sim_neX ha hb (nomark _)
end
end DL

namespace DL
open PySem L2

section
variable {ρ : Ev} {S : Sto} {f g h : FE} {fa : FA} {t u : FT} {a b c : FS} {d : D}
@[simp] theorem eC_ : eC d ρ S = .ok d S := rfl
@[simp] theorem aNil_ : aNil ρ S = .ok [] S := rfl
@[simp] theorem aCons_ : aCons f fa ρ S = (f ρ S).bind fun d S1 => (fa ρ S1).bind fun ds S2 => .ok (d :: ds) S2 := rfl
@[simp] theorem eA_ {m : List D → M D} : eA m fa ρ S = (fa ρ S).bind m := rfl
@[simp] theorem e2_ {m : D → D → M D} : e2 m f g ρ S = (f ρ S).bind fun x S1 => (g ρ S1).bind fun y S2 => m x y S2 := rfl
@[simp] theorem e1_ {m : D → M D} : e1 m f ρ S = (f ρ S).bind m := rfl
@[simp] theorem sNext_ : sNext ρ S = some (.next ρ, S) := rfl
theorem sSeq_ : sSeq a b ρ S = (match a ρ S with | some (.next ρ', S') => b ρ' S' | o => o) := rfl
theorem sSeq_next {ρ' : Ev} {S' : Sto} (e : a ρ S = some (.next ρ', S')) : sSeq a b ρ S = b ρ' S' := by unfold sSeq; rw [e]
theorem sSeq_ret {d : D} {S' : Sto} (e : a ρ S = some (.ret d, S')) : sSeq a b ρ S = some (.ret d, S') := by unfold sSeq; rw [e]
@[simp] theorem sExpr_ : sExpr f ρ S = (f ρ S).st ρ fun _ S1 => some (.next ρ, S1) := rfl
@[simp] theorem sRet_ : sRet f ρ S = (f ρ S).st ρ fun d S1 => some (.ret d, S1) := rfl
@[simp] theorem sSet_ {i : Nat} : sSet i f ρ S = (f ρ S).st ρ fun d S1 => some (.next (ρ.set i (some d)), S1) := rfl
@[simp] theorem sIf_ : sIf t a b ρ S = (t ρ S).st ρ fun c S1 => if c = true then a ρ S1 else b ρ S1 := rfl
@[simp] theorem st_ok {α : Type} {x : α} {k : α → Sto → Option (Fl × Sto)} : (Out.ok x S).st ρ k = k x S := rfl
@[simp] theorem gN_ {i : Nat} : gN i d ρ S = some (ρ.set i (some d), S) := rfl
@[simp] theorem gNils_ : gNils [] ρ S = some (ρ, S) := rfl
@[simp] theorem gConss_ {x : FG} {y : FGs} {ds : List D} : gConss x y (d :: ds) ρ S = (match x d ρ S with | some (ρ1, S1) => y ds ρ1 S1 | none => none) := by
  unfold gConss; rfl
@[simp] theorem gSubD_ : gSubD f g d ρ S = (match f ρ S with
  | .ok o S1 => match g ρ S1 with
    | .ok i S2 => match setD o i d S2 with
      | some S3 => some (ρ, S3)
      | none => none
    | _ => none
  | _ => none) := rfl
@[simp] theorem sAsg_ {x : FG} : sAsg f x ρ S = (f ρ S).st ρ fun d S1 => match x d ρ S1 with
  | some (ρ', S2) => some (.next ρ', S2)
  | none => none := rfl
@[simp] theorem sAsgs_ {x : FGs} : sAsgs fa x ρ S = (fa ρ S).st ρ fun d S1 => match x d ρ S1 with
  | some (ρ', S2) => some (.next ρ', S2)
  | none => none := rfl
@[simp] theorem tVal_ : tVal f ρ S = (f ρ S).bind truM := rfl
@[simp] theorem tAnd_ : tAndD t u ρ S = (t ρ S).bind fun b S1 => if b = true then u ρ S1 else .ok false S1 := rfl
@[simp] theorem tOr_ : tOrD t u ρ S = (t ρ S).bind fun b S1 => if b = true then .ok true S1 else u ρ S1 := rfl
@[simp] theorem tNot_ : tNotD t ρ S = (t ρ S).bind fun b S1 => .ok (!b) S1 := rfl
@[simp] theorem eIf_ : eIf t f g ρ S = (t ρ S).bind fun b S1 => if b = true then f ρ S1 else g ρ S1 := rfl
@[simp] theorem eAnd_ : eAnd f g ρ S = (f ρ S).bind fun d S1 => (truM d S1).bind fun b S2 => if b = true then g ρ S2 else .ok d S2 := rfl
@[simp] theorem eOr_ : eOr f g ρ S = (f ρ S).bind fun d S1 => (truM d S1).bind fun b S2 => if b = true then .ok d S2 else g ρ S2 := rfl
@[simp] theorem eNot_ : eNot f ρ S = (f ρ S).bind fun d S1 => (truM d S1).bind fun b S2 => .ok (.p (.bool (!b))) S2 := rfl
@[simp] theorem tC2_ {m : D → D → M D} : tC2 m f g ρ S = (e2 m f g ρ S).bind fun d S1 => match d with | .p (.bool c) => .ok c S1 | _ => .bad := rfl
@[simp] theorem truM_b {b : Bool} : truM (.p (.bool b)) S = .ok b S := rfl
@[simp] theorem truM_l {xs : List PyData} : truM (.p (.list xs)) S = .ok (!xs.isEmpty) S := rfl
@[simp] theorem truM_t {xs : List PyData} : truM (.p (.tuple xs)) S = .ok (!xs.isEmpty) S := rfl
@[simp] theorem noErr_k {α : Type} {x : α} : noErr (.ok x S) = .ok x S := rfl
@[simp] theorem iSeq_ : iSeq f ρ S = (f ρ S).bind itM := rfl
@[simp] theorem iRange_ : iRange fa ρ S = (fa ρ S).bind rangeM := rfl
@[simp] theorem sFor_ {i : FI} {x : FG} : sFor i x a ρ S = (i ρ S).st ρ fun ds S1 => forD x a ds ρ S1 := rfl
@[simp] theorem oNone_ : oNone ρ S = .ok none S := rfl
@[simp] theorem oSome_ : oSome f ρ S = (f ρ S).bind oInt := rfl
@[simp] theorem oInt_ {i : Int} : oInt (.p (.int i)) S = .ok (some i) S := rfl
@[simp] theorem eSli_ {lo hi : Ev → M (Option Int)} : eSli f lo hi ρ S = (f ρ S).bind fun d S1 => (lo ρ S1).bind fun l S2 => (hi ρ S2).bind fun u S3 => sliM d l u S3 := rfl
@[simp] theorem tYes_ : tYesD ρ S = .ok true S := rfl
@[simp] theorem finL_ {ys : List PyData} : finL ys S = .ok (.p (.list ys)) S := rfl
@[simp] theorem tChain_ {m m' : D → D → M D} : tChain m m' f g h ρ S = (eChain m m' f g h ρ S).bind boolM := rfl
@[simp] theorem boolM_ {b : Bool} : boolM (.p (.bool b)) S = .ok b S := rfl
@[simp] theorem eChain_ {m m' : D → D → M D} : eChain m m' f g h ρ S = (f ρ S).bind fun x S1 => (g ρ S1).bind fun y S2 => (m x y S2).bind fun z S3 => match z with
  | .p (.bool true) => (h ρ S3).bind fun w S4 => m' y w S4
  | .p (.bool false) => .ok (.p (.bool false)) S3
  | _ => .bad := rfl
@[simp] theorem eCall_ {n : Nat} {m : List D → M D} : eCall n m fa ρ S = (fa ρ S).bind fun ds S1 => if ds.length = n then noErr (cutD S1.length (m ds S1)) else .bad := rfl
@[simp] theorem cutD_p {x : PyData} {n : Nat} : cutD n (.ok (.p x) S) = .ok (.p x) (S.take n) := rfl
end
theorem eVar_ok {i : Nat} {ρ : Ev} {S : Sto} {d : D} (h : ρ[i]? = some (some d)) : eVar i ρ S = .ok d S := by unfold eVar; rw [h]
@[simp] theorem eVar0 {d : D} {r : Ev} {S : Sto} : eVar 0 (some d :: r) S = .ok d S := rfl
@[simp] theorem eVarS {i : Nat} {d : Option D} {r : Ev} {S : Sto} : eVar (i + 1) (d :: r) S = eVar i r S := by unfold eVar; simp
@[simp] theorem pys_nil : pys [] = some [] := rfl
@[simp] theorem pys_cons {x : PyData} {r : List D} : pys (.p x :: r) = (pys r).map (x :: ·) := by
  simp only [pys]; cases pys r <;> rfl
@[simp] theorem opLt_i {i j : Int} {S : Sto} : opLt (.p (.int i)) (.p (.int j)) S = .ok (.p (.bool (decide (i < j)))) S := rfl
@[simp] theorem opLe_i {i j : Int} {S : Sto} : opLe (.p (.int i)) (.p (.int j)) S = .ok (.p (.bool (decide (i ≤ j)))) S := rfl
@[simp] theorem opGt_i {i j : Int} {S : Sto} : opGt (.p (.int i)) (.p (.int j)) S = .ok (.p (.bool (decide (j < i)))) S := rfl
@[simp] theorem opGe_i {i j : Int} {S : Sto} : opGe (.p (.int i)) (.p (.int j)) S = .ok (.p (.bool (decide (j ≤ i)))) S := rfl
@[simp] theorem opAdd_i {i j : Int} {S : Sto} : opAdd (.p (.int i)) (.p (.int j)) S = .ok (.p (.int (i + j))) S := rfl
@[simp] theorem opSub_i {i j : Int} {S : Sto} : opSub (.p (.int i)) (.p (.int j)) S = .ok (.p (.int (i - j))) S := rfl
@[simp] theorem opNeg_i {i : Int} {S : Sto} : opNeg (.p (.int i)) S = .ok (.p (.int (-i))) S := rfl
theorem opMod_i {i j : Int} {S : Sto} (h : 0 < j) : opMod (.p (.int i)) (.p (.int j)) S = .ok (.p (.int (i % j))) S := by simp [opMod, opI, h]
theorem opDiv_i {i j : Int} {S : Sto} (h : 0 < j) (h2 : j < 1073741824) : opDiv (.p (.int i)) (.p (.int j)) S = .ok (.p (.int (i / j))) S := by simp [opDiv, opI, h, h2]
theorem opMul_i {i j : Int} {S : Sto} (h : -(2 ^ 64) < i ∧ i < 2 ^ 64) : opMulI (.p (.int i)) (.p (.int j)) S = .ok (.p (.int (i * j))) S := by
  have h1 : -18446744073709551616 < i := h.1
  have h2 : i < 18446744073709551616 := h.2
  simp [opMulI, opI, h1, h2]
theorem opPow_i {i j : Int} {S : Sto} (h0 : 0 ≤ j) (h1 : j ≤ 1000000) (h2 : i.natAbs < 2 ^ 64) : opPow (.p (.int i)) (.p (.int j)) S = .ok (.p (.int (i ^ j.toNat))) S := by
  have h3 : i.natAbs < 18446744073709551616 := h2
  simp [opPow, opI, h0, h1, h3]
@[simp] theorem intM_i {i : Int} {S : Sto} : intM [.p (.int i)] S = .ok (.p (.int i)) S := rfl
@[simp] theorem lenM_l {xs : List PyData} {S : Sto} : lenM [.p (.list xs)] S = .ok (.p (.int xs.length)) S := rfl
@[simp] theorem lenM_t {xs : List PyData} {S : Sto} : lenM [.p (.tuple xs)] S = .ok (.p (.int xs.length)) S := rfl
theorem lenM_s {x : Str} {S : Sto} (h : x.length ≤ LIM) : lenM [.p (.str x)] S = .ok (.p (.int x.length)) S := by simp [lenM, h]
theorem atI_ok {xs : List PyData} {i : Int} (h0 : 0 ≤ i) (h1 : i < xs.length) : ∃ d, atI xs i = some d ∧ d ∈ xs := by
  have hk : i.toNat < xs.length := by omega
  have ek : i = ((i.toNat : Nat) : Int) := by omega
  refine ⟨xs[i.toNat], ?_, List.getElem_mem hk⟩
  have q : atI xs ((i.toNat : Nat) : Int) = some xs[i.toNat] := atI_nat (by simp [hk])
  rw [← ek] at q
  exact q
theorem subs_l {xs : List PyData} {i : Int} {d : PyData} {S : Sto} (h : atI xs i = some d) : opSubs (.p (.list xs)) (.p (.int i)) S = .ok (.p d) S := by simp [opSubs, seqOf, h]
theorem subs_t {xs : List PyData} {i : Int} {d : PyData} {S : Sto} (h : atI xs i = some d) : opSubs (.p (.tuple xs)) (.p (.int i)) S = .ok (.p d) S := by simp [opSubs, seqOf, h]

def tpd (cs : List PyData) (p l : Int) : List (Key × PyData) := [(.inr "cells", .list cs), (.inr "place", .int p), (.inr "left", .int l)]
section
variable {cs : List PyData} {p l : Int} {S : Sto} {i : Nat}
theorem tp_cells (h : S[i]? = some (.dic (tpd cs p l))) : opSubs (.ob i) (.p (.str "cells")) S = .ok (.p (.list cs)) S := by
  have e : valD (tpd cs p l) (.inr "cells") = some (.list cs) := rfl
  simp only [opSubs, dicOf, h, e]
theorem tp_place (h : S[i]? = some (.dic (tpd cs p l))) : opSubs (.ob i) (.p (.str "place")) S = .ok (.p (.int p)) S := by
  have e : valD (tpd cs p l) (.inr "place") = some (.int p) := rfl
  simp only [opSubs, dicOf, h, e]
theorem tp_left (h : S[i]? = some (.dic (tpd cs p l))) : opSubs (.ob i) (.p (.str "left")) S = .ok (.p (.int l)) S := by
  have e : valD (tpd cs p l) (.inr "left") = some (.int l) := rfl
  simp only [opSubs, dicOf, h, e]
theorem tp_setL {l' : Int} (h : S[i]? = some (.dic (tpd cs p l))) : setD (.ob i) (.p (.str "left")) (.p (.int l')) S = some (S.set i (.dic (tpd cs p l'))) := by
  have e : putD (tpd cs p l) (.inr "left") (.int l') = tpd cs p l' := rfl
  have e2 : pyKey (.str "left") = some (.inr "left") := rfl
  have e3 : (tpd cs p l).length < LIM := by show 3 < LIM; decide
  simp only [setD, h, e2, e, if_pos e3]
theorem tp_setP {p' : Int} (h : S[i]? = some (.dic (tpd cs p l))) : setD (.ob i) (.p (.str "place")) (.p (.int p')) S = some (S.set i (.dic (tpd cs p' l))) := by
  have e : putD (tpd cs p l) (.inr "place") (.int p') = tpd cs p' l := rfl
  have e2 : pyKey (.str "place") = some (.inr "place") := rfl
  have e3 : (tpd cs p l).length < LIM := by show 3 < LIM; decide
  simp only [setD, h, e2, e, if_pos e3]
theorem tp_at {o : MO} (h : S[i]? = some (.dic (tpd cs p l))) : (S.set i o)[i]? = some o := by
  rw [List.getElem?_set_self]
  exact (List.getElem?_eq_some_iff.mp h).1
end
def drawA : FS := (sSeq (sAsgs (aCons (e2 opSubs (eVar 0) (eC (.p (.str "place")))) (aCons (eA lenM (aCons (e2 opSubs (eVar 0) (eC (.p (.str "cells")))) aNil)) aNil)) (gConss (gN 3) (gConss (gN 4) gNils)))
    (sSeq (sAsgs (aCons (e2 opSubs (e2 opSubs (eVar 0) (eC (.p (.str "cells")))) (e2 opMod (eA intM (aCons (eVar 3) aNil)) (eVar 4))) (aCons (e2 opAdd (eVar 3) (eC (.p (.int 1)))) aNil)) (gConss (gN 5) (gConss (gSubD (eVar 0) (eC (.p (.str "place")))) gNils)))
    (sSeq (sAsg (e2 opMod (eA intM (aCons (e2 opPow (e2 opAdd (e2 opAdd (e2 opMod (eA intM (aCons (eVar 5) aNil)) (eC (.p (.int 2147483587)))) (e2 opMulI (eC (.p (.int 48271))) (eVar 3))) (eC (.p (.int 16807)))) (eC (.p (.int 13)))) aNil)) (e2 opAdd (e2 opPow (eC (.p (.int 10))) (eC (.p (.int 50)))) (eC (.p (.int 57))))) (gSubD (eVar 0) (eC (.p (.str "left")))))
    (sIf (tAndD (tC2 (opGe) (eVar 5) (e2 opPow (eC (.p (.int 10))) (eC (.p (.int 18))))) (tC2 (opLt) (eVar 3) (eVar 4))) (sAsg (e2 opSub (eVar 5) (e2 opPow (eC (.p (.int 10))) (eC (.p (.int 18))))) (gSubD (eVar 0) (eC (.p (.str "left"))))) sNext))))
def drawB : FS := (sSeq (sIf (tC2 (opLt) (e2 opSubs (eVar 0) (eC (.p (.str "left")))) (eVar 1)) drawA sNext)
    (sSeq (sAsgs (aCons (e2 opMod (eA intM (aCons (e2 opSubs (eVar 0) (eC (.p (.str "left")))) aNil)) (eVar 1)) (aCons (e2 opDiv (e2 opSubs (eVar 0) (eC (.p (.str "left")))) (eVar 1)) aNil)) (gConss (gN 2) (gConss (gSubD (eVar 0) (eC (.p (.str "left")))) gNils)))
    (sRet (eVar 2))))
theorem drawA_ok {cs : List PyData} {p l m : Int} {S : Sto} {i : Nat} (hc : ∀ d ∈ cs, ∃ z, d = .int z) (hne : cs ≠ []) (h : S[i]? = some (.dic (tpd cs p l))) (hp : 0 ≤ p) (hp2 : p ≤ 1000000000000) :
    ∃ x y z l', drawA [some (.ob i), some (.p (.int m)), none, none, none, none] S = some (.next [some (.ob i), some (.p (.int m)), none, x, y, z], S.set i (.dic (tpd cs (p + 1) l'))) := by
  have hl : 0 < cs.length := List.length_pos_iff.mpr hne
  obtain ⟨d, e1, hd⟩ := atI_ok (xs := cs) (i := p % (cs.length : Int)) (Int.emod_nonneg _ (by omega)) (Int.emod_lt_of_pos _ (by omega))
  obtain ⟨z, rfl⟩ := hc d hd
  have hS1 := tp_at (o := .dic (tpd cs (p + 1) l)) h
  have hb : (z % 2147483587 + 48271 * p + 16807).natAbs < 2 ^ 64 := by
    have a1 := Int.emod_nonneg z (show (2147483587 : Int) ≠ 0 by decide)
    have a2 := Int.emod_lt_of_pos z (show (0 : Int) < 2147483587 by decide)
    have : (2 : Nat) ^ 64 = 18446744073709551616 := by decide
    omega
  have hz : (0 : Int) < 10 ^ (50 : Int).toNat + 57 := by decide
  unfold drawA
  simp [sSeq_, gSubD, tp_place h, tp_cells h, opMod_i (show (0 : Int) < (cs.length : Int) by omega), subs_l e1, tp_setP h, hS1]
  simp [sSeq_, opMod_i (show (0 : Int) < 2147483587 by decide), opMul_i (show -(2 ^ 64) < (48271 : Int) ∧ (48271 : Int) < 2 ^ 64 by decide), opPow_i (show (0 : Int) ≤ 13 by decide) (by decide) hb, opPow_i (show (0 : Int) ≤ 50 by decide) (by decide) (show (10 : Int).natAbs < 2 ^ 64 by decide), opMod_i hz, tp_setL hS1]
  have hS2 : ∀ l2, (List.set S i (.dic (tpd cs (p + 1) l2)))[i]? = some (.dic (tpd cs (p + 1) l2)) := fun l2 => tp_at h
  simp [sSeq_, opMod_i (show (0 : Int) < 100000000000000000000000000000000000000000000000057 by decide), opPow_i (show (0 : Int) ≤ 18 by decide) (by decide) (show (10 : Int).natAbs < 2 ^ 64 by decide), tp_setL hS1]
  by_cases c1 : 1000000000000000000 ≤ z
  · by_cases c2 : p < (cs.length : Int)
    · simp [sSeq_, c1, c2, tp_setL (hS2 _)]
      exact ⟨_, rfl⟩
    · simp [sSeq_, c1, c2]
      exact ⟨_, rfl⟩
  · simp [sSeq_, c1]
    exact ⟨_, rfl⟩
theorem drawB_ok {cs : List PyData} {p l m : Int} {S : Sto} {i : Nat} (hc : ∀ d ∈ cs, ∃ z, d = .int z) (hne : cs ≠ []) (h : S[i]? = some (.dic (tpd cs p l))) (hp : 0 ≤ p) (hp2 : p ≤ 1000000000000) (hm : 0 < m) (hm2 : m < 1073741824) :
    ∃ g p' l', 0 ≤ g ∧ g < m ∧ 0 ≤ p' ∧ p' ≤ p + 1 ∧ runF 6 drawB [.ob i, .p (.int m)] S = .ok (.p (.int g)) (S.set i (.dic (tpd cs p' l'))) := by
  have second : ∀ {x y z : Option D} {S : Sto} {p l : Int}, S[i]? = some (.dic (tpd cs p l)) → (sSeq (sAsgs (aCons (e2 opMod (eA intM (aCons (e2 opSubs (eVar 0) (eC (.p (.str "left")))) aNil)) (eVar 1)) (aCons (e2 opDiv (e2 opSubs (eVar 0) (eC (.p (.str "left")))) (eVar 1)) aNil)) (gConss (gN 2) (gConss (gSubD (eVar 0) (eC (.p (.str "left")))) gNils)))
      (sRet (eVar 2))) [some (.ob i), some (.p (.int m)), none, x, y, z] S = some (.ret (.p (.int (l % m))), S.set i (.dic (tpd cs p (l / m)))) := by
    intro x y z S p l h
    simp [sSeq_, tp_left h, opMod_i hm, opDiv_i hm hm2, tp_setL h]
  have g0 : ∀ l, 0 ≤ l % m := fun l => Int.emod_nonneg _ (by omega)
  have g1 : ∀ l, l % m < m := fun l => Int.emod_lt_of_pos _ hm
  by_cases c : l < m
  · obtain ⟨x, y, z, l', e⟩ := drawA_ok (m := m) hc hne h hp hp2
    have s2 := second (x := x) (y := y) (z := z) (tp_at (o := .dic (tpd cs (p + 1) l')) h)
    refine ⟨l' % m, p + 1, l' / m, g0 _, g1 _, by omega, by omega, ?_⟩
    have e0 : drawB [some (.ob i), some (.p (.int m)), none, none, none, none] S = some (.ret (.p (.int (l' % m))), S.set i (.dic (tpd cs (p + 1) (l' / m)))) := by
      unfold drawB
      rw [sSeq_next (a := sIf _ _ _) (ρ' := [some (.ob i), some (.p (.int m)), none, x, y, z]) (S' := S.set i (.dic (tpd cs (p + 1) l'))) (by simp [sSeq_, tp_left h, c, e]), s2, List.set_set]
    show runF 6 drawB [.ob i, .p (.int m)] S = _
    unfold runF
    show (match drawB [some (.ob i), some (.p (.int m)), none, none, none, none] S with | some (.ret d, s) => Out.ok d s | some (.next _, s) => .ok (.p .none) s | some (.exc x _, s) => .err x s | _ => .bad) = _
    rw [e0]
  · refine ⟨l % m, p, l / m, g0 _, g1 _, by omega, by omega, ?_⟩
    have e0 : drawB [some (.ob i), some (.p (.int m)), none, none, none, none] S = some (.ret (.p (.int (l % m))), S.set i (.dic (tpd cs p (l / m)))) := by
      unfold drawB
      rw [sSeq_next (a := sIf _ _ _) (ρ' := [some (.ob i), some (.p (.int m)), none, none, none, none]) (S' := S) (by simp [sSeq_, tp_left h, c]), second h]
    unfold runF
    show (match drawB [some (.ob i), some (.p (.int m)), none, none, none, none] S with | some (.ret d, s) => Out.ok d s | some (.next _, s) => .ok (.p .none) s | some (.exc x _, s) => .err x s | _ => .bad) = _
    rw [e0]
end DL

namespace DL
open PySem L2

theorem run_ret {m : Nat} {b : FS} {ds : List D} {S S' : Sto} {d : D} (e : b (ds.map some ++ List.replicate (m - ds.length) none) S = some (.ret d, S')) : runF m b ds S = .ok d S' := by unfold runF; rw [e]
@[simp] theorem cut_len {x : PyData} {S : Sto} : cutD S.length (.ok (.p x) S) = .ok (.p x) S := by simp
theorem cut_same {x : PyData} {S S' : Sto} (h : S'.length = S.length) : cutD S.length (.ok (.p x) S') = .ok (.p x) S' := by
  rw [← h]; simp
/-- a comprehension whose test and value leave the store as it is -/
theorem lcD_filter {g : FG} {t : FT} {e : FE} {ρ : Ev} {S : Sto} (c : D → Bool) (h : D → PyData) : ∀ {ds : List D}, (∀ d ∈ ds, ∃ ρ1, g d ρ S = some (ρ1, S) ∧ t ρ1 S = .ok (c d) S ∧ (c d = true → e ρ1 S = .ok (.p (h d)) S)) → lcD g t e ρ ds S = .ok ((ds.filter c).map h) S
  | [], _ => rfl
  | d :: r, H => by
    obtain ⟨ρ1, h1, h2, h3⟩ := H d List.mem_cons_self
    have ih := lcD_filter (ds := r) c h fun x hx => H x (List.mem_cons_of_mem _ hx)
    unfold lcD
    rw [h1]
    show (t ρ1 S).bind _ = _
    rw [h2]
    by_cases hc : c d = true
    · simp [hc, h3 hc, ih]
    · simp [hc, ih]
theorem lcD_map {g : FG} {e : FE} {ρ : Ev} {S : Sto} (h : D → PyData) {ds : List D} (H : ∀ d ∈ ds, ∃ ρ1, g d ρ S = some (ρ1, S) ∧ e ρ1 S = .ok (.p (h d)) S) : lcD g tYesD e ρ ds S = .ok (ds.map h) S := by
  have q := lcD_filter (t := tYesD) (e := e) (g := g) (ρ := ρ) (S := S) (fun _ => true) h (ds := ds) fun d hd => by
    obtain ⟨ρ1, h1, h2⟩ := H d hd
    exact ⟨ρ1, h1, rfl, fun _ => h2⟩
  rw [q, List.filter_eq_self.mpr fun _ _ => rfl]
@[simp] theorem eLc_ {f : FI} {g : FG} {t : FT} {e : FE} {vs : List Nat} {fin : List PyData → M D} {ρ : Ev} {S : Sto} : eLc f g t e vs fin ρ S = (f ρ S).bind fun ds S1 => if ds.length ≤ LIM then (noErr (lcD g t e (wipeD ρ vs) ds S1)).bind fin else .bad := rfl
@[simp] theorem itM_s {z : Str} {S : Sto} : itM (.p (.str z)) S = .ok (z.cps.toList.map fun c => D.p (.str ⟨#[c]⟩)) S := rfl
@[simp] theorem itM_l {xs : List PyData} {S : Sto} : itM (.p (.list xs)) S = .ok (xs.map .p) S := rfl
@[simp] theorem itM_t {xs : List PyData} {S : Sto} : itM (.p (.tuple xs)) S = .ok (xs.map .p) S := rfl
@[simp] theorem wipe1 {ρ : Ev} {v : Nat} : wipeD ρ [v] = ρ.set v none := rfl
@[simp] theorem isi_ {T : Tg} {x : PyData} {S : Sto} : isiM T (.p x) S = .ok (.p (.bool (isT T x))) S := rfl
@[simp] theorem in_ss {neg : Bool} {i j : Str} {S : Sto} : opIn neg (.p (.str i)) (.p (.str j)) S = .ok (.p (.bool (if neg then !inStr i j else inStr i j))) S := rfl
theorem in_t {neg : Bool} {a : PyData} {xs : List PyData} {S : Sto} (h : flatP a = true) (h2 : xs.all flatP = true) : opIn neg (.p a) (.p (.tuple xs)) S = .ok (.p (.bool (if neg then !inP a xs else inP a xs))) S := by
  cases a <;> simp_all [opIn, seqOf]
theorem in_l {neg : Bool} {a : PyData} {xs : List PyData} {S : Sto} (h : flatP a = true) (h2 : xs.all flatP = true) : opIn neg (.p a) (.p (.list xs)) S = .ok (.p (.bool (if neg then !inP a xs else inP a xs))) S := by
  cases a <;> simp_all [opIn, seqOf]
theorem mkTup_ {ds : List D} {xs : List PyData} {S : Sto} (h : pys ds = some xs) (hl : xs.length ≤ LIM) : mkTup ds S = .ok (.p (.tuple xs)) S := by simp [mkTup, h, hl]
theorem mkLst_ {ds : List D} {xs : List PyData} {S : Sto} (h : pys ds = some xs) (hl : xs.length ≤ LIM) : mkLst ds S = .ok (.p (.list xs)) S := by simp [mkLst, h, hl]
@[simp] theorem mkTup0 {S : Sto} : mkTup [] S = .ok (.p (.tuple [])) S := rfl
@[simp] theorem mkTup1 {S : Sto} {a : PyData} : mkTup [.p a] S = .ok (.p (.tuple [a])) S := rfl
@[simp] theorem mkTup2 {S : Sto} {a b : PyData} : mkTup [.p a, .p b] S = .ok (.p (.tuple [a, b])) S := rfl
@[simp] theorem mkTup3 {S : Sto} {a b c : PyData} : mkTup [.p a, .p b, .p c] S = .ok (.p (.tuple [a, b, c])) S := rfl
@[simp] theorem mkLst0 {S : Sto} : mkLst [] S = .ok (.p (.list [])) S := rfl
@[simp] theorem mkLst1 {S : Sto} {a : PyData} : mkLst [.p a] S = .ok (.p (.list [a])) S := rfl
@[simp] theorem mkLst2 {S : Sto} {a b : PyData} : mkLst [.p a, .p b] S = .ok (.p (.list [a, b])) S := rfl
@[simp] theorem mkLst3 {S : Sto} {a b c : PyData} : mkLst [.p a, .p b, .p c] S = .ok (.p (.list [a, b, c])) S := rfl
@[simp] theorem eqX_s {neg : Bool} {a b : Str} {S : Sto} : opEqX neg (.p (.str a)) (.p (.str b)) S = .ok (.p (.bool (if neg then !(a == b) else (a == b)))) S := rfl
@[simp] theorem eqX_i {neg : Bool} {a b : Int} {S : Sto} : opEqX neg (.p (.int a)) (.p (.int b)) S = .ok (.p (.bool (if neg then !(a == b) else (a == b)))) S := rfl
@[simp] theorem eqX_b {neg : Bool} {a b : Bool} {S : Sto} : opEqX neg (.p (.bool a)) (.p (.bool b)) S = .ok (.p (.bool (if neg then !(a == b) else (a == b)))) S := rfl
@[simp] theorem eqX_t0 {neg : Bool} {xs : List PyData} {S : Sto} : opEqX neg (.p (.tuple xs)) (.p (.tuple [])) S = .ok (.p (.bool (if neg then !xs.isEmpty else xs.isEmpty))) S := rfl
theorem eqX_l {neg : Bool} {xs ys : List PyData} {S : Sto} (h1 : SeqAt.shaped (.list xs) = true) (h2 : SeqAt.shaped (.list ys) = true) : opEqX neg (.p (.list xs)) (.p (.list ys)) S = .ok (.p (.bool (if neg then !PyData.eqvAll xs ys else PyData.eqvAll xs ys))) S := by
  unfold opEqX
  simp [opEq, val, h1, h2, PyData.eqv]
theorem eqX_t {neg : Bool} {xs : List PyData} {y : PyData} {ys : List PyData} {S : Sto} (h1 : SeqAt.shaped (.tuple xs) = true) (h2 : SeqAt.shaped (.tuple (y :: ys)) = true) : opEqX neg (.p (.tuple xs)) (.p (.tuple (y :: ys))) S = .ok (.p (.bool (if neg then !PyData.eqvAll xs (y :: ys) else PyData.eqvAll xs (y :: ys)))) S := by
  unfold opEqX
  simp [opEq, val, h1, h2, PyData.eqv]
@[simp] theorem subs_t0 {a : PyData} {r : List PyData} {S : Sto} : opSubs (.p (.tuple (a :: r))) (.p (.int 0)) S = .ok (.p a) S := subs_t (by rw [show (0 : Int) = ((0 : Nat) : Int) from rfl]; exact atI_nat rfl)
@[simp] theorem subs_t1 {a b : PyData} {r : List PyData} {S : Sto} : opSubs (.p (.tuple (a :: b :: r))) (.p (.int 1)) S = .ok (.p b) S := subs_t (by rw [show (1 : Int) = ((1 : Nat) : Int) from rfl]; exact atI_nat rfl)
@[simp] theorem subs_t2 {a b c : PyData} {r : List PyData} {S : Sto} : opSubs (.p (.tuple (a :: b :: c :: r))) (.p (.int 2)) S = .ok (.p c) S := subs_t (by rw [show (2 : Int) = ((2 : Nat) : Int) from rfl]; exact atI_nat rfl)
@[simp] theorem subs_l0 {a : PyData} {r : List PyData} {S : Sto} : opSubs (.p (.list (a :: r))) (.p (.int 0)) S = .ok (.p a) S := subs_l (by rw [show (0 : Int) = ((0 : Nat) : Int) from rfl]; exact atI_nat rfl)
@[simp] theorem subs_l1 {a b : PyData} {r : List PyData} {S : Sto} : opSubs (.p (.list (a :: b :: r))) (.p (.int 1)) S = .ok (.p b) S := subs_l (by rw [show (1 : Int) = ((1 : Nat) : Int) from rfl]; exact atI_nat rfl)
@[simp] theorem subs_l2 {a b c : PyData} {r : List PyData} {S : Sto} : opSubs (.p (.list (a :: b :: c :: r))) (.p (.int 2)) S = .ok (.p c) S := subs_l (by rw [show (2 : Int) = ((2 : Nat) : Int) from rfl]; exact atI_nat rfl)
theorem add_s {i j : Str} {S : Sto} (h : i.length + j.length ≤ LIM) : opAdd (.p (.str i)) (.p (.str j)) S = .ok (.p (.str (i ++ j))) S := by simp [opAdd, h]
theorem add_l {i j : List PyData} {S : Sto} (h : i.length + j.length ≤ LIM) : opAdd (.p (.list i)) (.p (.list j)) S = .ok (.p (.list (i ++ j))) S := by simp [opAdd, h]
theorem add_t {i j : List PyData} {S : Sto} (h : i.length + j.length ≤ LIM) : opAdd (.p (.tuple i)) (.p (.tuple j)) S = .ok (.p (.tuple (i ++ j))) S := by simp [opAdd, h]
/-- a loop over a list with an invariant by the turn -/
theorem forD_inv {g : FG} {b : FS} (Inv : Nat → Ev → Sto → Prop) : ∀ {ds : List D} {j : Nat} {ρ : Ev} {S : Sto}, Inv j ρ S →
    (∀ i d ρ S, ds[i]? = some d → Inv (j + i) ρ S → ∃ ρ1 S1 ρ2 S2, g d ρ S = some (ρ1, S1) ∧ b ρ1 S1 = some (.next ρ2, S2) ∧ Inv (j + i + 1) ρ2 S2) →
    ∃ ρ' S', forD g b ds ρ S = some (.next ρ', S') ∧ Inv (j + ds.length) ρ' S'
  | [], j, ρ, S, h, _ => ⟨ρ, S, rfl, h⟩
  | d :: r, j, ρ, S, h, st => by
    obtain ⟨ρ1, S1, ρ2, S2, e1, e2, h2⟩ := st 0 d ρ S rfl h
    obtain ⟨ρ', S', e3, h3⟩ := forD_inv Inv (ds := r) (j := j + 1) (ρ := ρ2) (S := S2) h2 fun i x ρ S hx hi => by
      have q := st (i + 1) x ρ S (by simpa using hx) (by rw [show j + (i + 1) = j + 1 + i by omega]; exact hi)
      rw [show j + (i + 1) + 1 = j + 1 + i + 1 by omega] at q
      exact q
    refine ⟨ρ', S', ?_, by rw [List.length_cons, show j + (r.length + 1) = j + 1 + r.length by omega]; exact h3⟩
    unfold forD
    rw [e1]
    show (match b ρ1 S1 with | some (.next ρ2, S2) => forD g b r ρ2 S2 | some (.cont ρ2, S2) => forD g b r ρ2 S2 | some (.brk ρ2, S2) => some (.next ρ2, S2) | o => o) = _
    rw [e2]
    exact e3

def Cells (cs : List PyData) : Prop := (∀ d ∈ cs, ∃ z, d = .int z) ∧ cs ≠ []
def Tape (cs : List PyData) (i L : Nat) (n : Int) (S : Sto) : Prop := S.length = L ∧ ∃ p l, 0 ≤ p ∧ p ≤ n ∧ S[i]? = some (.dic (tpd cs p l))
theorem Tape.mono {cs : List PyData} {i L : Nat} {n n' : Int} {S : Sto} (h : Tape cs i L n S) (hn : n ≤ n') : Tape cs i L n' S := by
  obtain ⟨a, p, l, b, c, d⟩ := h
  exact ⟨a, p, l, b, by omega, d⟩
theorem draw_ok {cs : List PyData} {i L : Nat} {n m : Int} {S : Sto} (hc : Cells cs) (h : Tape cs i L n S) (hn : n ≤ 1000000000000) (hm : 0 < m) (hm2 : m < 1073741824) :
    ∃ g S', runF 6 drawB [.ob i, .p (.int m)] S = .ok (.p (.int g)) S' ∧ 0 ≤ g ∧ g < m ∧ Tape cs i L (n + 1) S' := by
  obtain ⟨hl, p, l, h0, h1, hS⟩ := h
  obtain ⟨g, p', l', a, b, c, d, e⟩ := drawB_ok hc.1 hc.2 hS h0 (by omega) hm hm2
  exact ⟨g, _, e, a, b, by rw [List.length_set]; exact hl, p', l', c, by omega, tp_at hS⟩
def pickB (dr : List D → M D) : FS := (sRet (e2 opSubs (eVar 1) (eCall 2 dr (aCons (eVar 0) (aCons (eA lenM (aCons (eVar 1) aNil)) aNil)))))
theorem pick_ok {cs : List PyData} {i L : Nat} {n : Int} {S : Sto} {xs : List PyData} (hc : Cells cs) (h : Tape cs i L n S) (hn : n ≤ 1000000000000) (hx : xs ≠ []) (hx2 : xs.length < 1000000) :
    ∃ d S', runF 2 (pickB (runF 6 drawB)) [.ob i, .p (.list xs)] S = .ok (.p d) S' ∧ d ∈ xs ∧ Tape cs i L (n + 1) S' := by
  have hl : 0 < xs.length := List.length_pos_iff.mpr hx
  obtain ⟨g, S', e, g0, g1, ht⟩ := draw_ok (m := (xs.length : Int)) hc h hn (by omega) (by omega)
  obtain ⟨d, e2, hd⟩ := atI_ok g0 g1
  refine ⟨d, S', run_ret ?_, hd, ht⟩
  show pickB (runF 6 drawB) [some (.ob i), some (.p (.list xs))] S = _
  unfold pickB
  simp [sSeq_, e, cut_same (ht.1.trans h.1.symm), subs_l e2]
end DL

namespace DL
open PySem L2

theorem cutP_mem {xs : List PyData} {lo hi : Option Int} {d : PyData} (h : d ∈ cutP xs lo hi) : d ∈ xs := List.mem_of_mem_drop (List.mem_of_mem_take h)
def beginB : FS := (sRet (eDisp [((eC (.p (.str "cells"))), (eOr (eSli (eVar 0) oNone (oSome (eC (.p (.int 63))))) (eA mkLst (aCons (eC (.p (.int 0))) aNil)))), ((eC (.p (.str "place"))), (eC (.p (.int 0)))), ((eC (.p (.str "left"))), (eC (.p (.int 0))))] finDM))
theorem begin_ok (ns : List Int) : ∃ cs, Cells cs ∧ runF 1 beginB [.ro (nums ns)] [] = .ok (.ob 0) [.dic (tpd cs 0 0)] := by
  have go : ∀ {v : PyData}, (eOr (eSli (eVar 0) oNone (oSome (eC (.p (.int 63))))) (eA mkLst (aCons (eC (.p (.int 0))) aNil))) [some (.ro (nums ns))] [] = .ok (.p v) [] → runF 1 beginB [.ro (nums ns)] [] = .ok (.ob 0) [.dic [(.inr "cells", v), (.inr "place", .int 0), (.inr "left", .int 0)]] := by
    intro v e
    refine run_ret ?_
    show beginB [some (.ro (nums ns))] [] = _
    unfold beginB
    have m : mergeD [(.inr "cells", v), (.inr "place", .int 0), (.inr "left", .int 0)] = [(.inr "cells", v), (.inr "place", .int 0), (.inr "left", .int 0)] := rfl
    simp only [sSeq_, sRet_, eDisp, pairsD, eC_, Out.bind_ok, e, pyKey, List.length_cons, List.length_nil]
    rw [if_pos (by decide), m]
    rfl
  have es : sliM (.ro (nums ns)) none (some 63) [] = .ok (.p (.list (cutP (nums ns) none (some 63)))) [] := rfl
  cases hx : cutP (nums ns) none (some 63) with
  | nil =>
    rw [hx] at es
    refine ⟨[.int 0], ⟨fun d hd => ⟨0, by simpa using hd⟩, by simp⟩, go ?_⟩
    simp [es]
  | cons a r =>
    rw [hx] at es
    refine ⟨a :: r, ⟨fun d hd => ?_, by simp⟩, go ?_⟩
    · have : d ∈ nums ns := cutP_mem (lo := none) (hi := some 63) (by rw [hx]; exact hd)
      obtain ⟨z, _, rfl⟩ := List.mem_map.mp this
      exact ⟨z, rfl⟩
    · simp [es]
theorem tape0 {cs : List PyData} : Tape cs 0 1 0 [.dic (tpd cs 0 0)] := ⟨rfl, 0, 0, Int.le_refl 0, Int.le_refl 0, rfl⟩
theorem cutP_drop {xs : List PyData} {k : Nat} : cutP xs (some (k : Int)) none = xs.drop k := by
  unfold cutP
  rw [HT.sIx_nat, HT.sIx_none]
  by_cases h : k ≤ xs.length
  · rw [Nat.min_eq_left h]
    exact List.take_of_length_le (by simp)
  · rw [Nat.min_eq_right (by omega), List.drop_eq_nil_of_le (Nat.le_refl _), List.drop_eq_nil_of_le (by omega)]
    simp
theorem cutP_take {xs : List PyData} {k : Nat} : cutP xs none (some (k : Int)) = xs.take k := by
  unfold cutP
  rw [HT.sIx_nat, HT.sIx_none]
  by_cases h : k ≤ xs.length
  · rw [Nat.min_eq_left h]
    simp
  · rw [Nat.min_eq_right (by omega), List.take_of_length_le (i := k) (by omega)]
    simp
end DL

namespace DL
open PySem L2

mutual
/-- a bound of the repr's length -/
def wt : PyData → Nat
  | .list xs => wtAll xs + 4
  | .tuple xs => wtAll xs + 4
  | .none => 4
  | .bool _ => 5
  | .int i => (PyData.int i).shown.length
  | .str x => (PyData.str x).shown.length
  | .dict kvs => (PyData.dict kvs).shown.length
def wtAll : List PyData → Nat
  | [] => 0
  | x :: xs => wt x + 2 + wtAll xs
end
theorem str_len_app (a b : Str) : (a ++ b).length = a.length + b.length := Str.length_append a b
theorem textFrom_le : ∀ (ts : List Str) (k : Nat) (acc : Str), (textFrom k acc ts).length ≤ acc.length + (ts.map fun t => t.length + 2).sum
  | [], k, acc => by show acc.length ≤ _; omega
  | t :: r, k, acc => by
    have q := textFrom_le r (k + 1) (acc ++ (if k > 0 then ", " else "" : String) ++ t)
    show (textFrom (k + 1) (acc ++ (if k > 0 then ", " else "" : String) ++ t) r).length ≤ _
    have e : (Str.ofString (if k > 0 then ", " else "" : String)).length ≤ 2 := by
      split
      · decide +kernel
      · decide +kernel
    rw [str_len_app, str_len_app] at q
    simp only [List.map_cons, List.sum_cons]
    omega
theorem join_le (ts : List Str) : (Str.join ", " ts).length ≤ (ts.map fun t => t.length + 2).sum := by
  have q := StrLaws.join_length_le ", " ts
  have e : (Str.ofString ", ").length = 2 := by decide +kernel
  rw [e] at q
  have : ∀ ts : List Str, (ts.map fun t => t.length + 2).sum = (ts.map (·.length)).sum + ts.length * 2 := fun ts => by
    induction ts with
    | nil => rfl
    | cons t r ih => simp only [List.map_cons, List.sum_cons, List.length_cons, ih]; omega
  rw [this]
  exact q
mutual
theorem shown_le : ∀ d : PyData, d.shown.length ≤ wt d
  | .none => by decide +kernel
  | .bool b => by cases b <;> decide +kernel
  | .int i => Nat.le_refl _
  | .str x => Nat.le_refl _
  | .dict kvs => Nat.le_refl _
  | .list xs => by
    have q := shownAll_le xs
    have t := textFrom_le (PyData.shownAll xs) 0 "["
    show (textFrom 0 (Str.ofString "[") (PyData.shownAll xs) ++ Str.ofString "]").length ≤ wtAll xs + 4
    rw [str_len_app]
    have e1 : (Str.ofString "[").length = 1 := by decide +kernel
    have e2 : (Str.ofString "]").length = 1 := by decide +kernel
    omega
  | .tuple xs => by
    have q := shownAll_le xs
    have t := join_le (PyData.shownAll xs)
    show (Str.ofString "(" ++ Str.join ", " (PyData.shownAll xs) ++ Str.ofString (if (PyData.shownAll xs).length == 1 then ",)" else ")" : String)).length ≤ wtAll xs + 4
    rw [str_len_app, str_len_app]
    have e1 : (Str.ofString "(").length = 1 := by decide +kernel
    have e2 : (Str.ofString (if (PyData.shownAll xs).length == 1 then ",)" else ")" : String)).length ≤ 2 := by
      split
      · decide +kernel
      · decide +kernel
    omega
theorem shownAll_le : ∀ xs : List PyData, ((PyData.shownAll xs).map fun t => t.length + 2).sum ≤ wtAll xs
  | [] => Nat.le_refl _
  | x :: xs => by
    have q1 := shown_le x
    have q2 := shownAll_le xs
    show (x.shown.length + 2) + ((PyData.shownAll xs).map fun t => t.length + 2).sum ≤ wt x + 2 + wtAll xs
    omega
end
theorem wtAll_app : ∀ (xs ys : List PyData), wtAll (xs ++ ys) = wtAll xs + wtAll ys
  | [], ys => by simp [wtAll]
  | x :: xs, ys => by
    show wt x + 2 + wtAll (xs ++ ys) = wt x + 2 + wtAll xs + wtAll ys
    rw [wtAll_app xs ys]
    omega
theorem depthAll_app : ∀ (xs ys : List PyData), PyData.depthAll (xs ++ ys) = max (PyData.depthAll xs) (PyData.depthAll ys)
  | [], ys => by show _ = max 0 _; simp
  | x :: xs, ys => by
    show max x.depth (PyData.depthAll (xs ++ ys)) = max (max x.depth (PyData.depthAll xs)) (PyData.depthAll ys)
    rw [depthAll_app xs ys]
    omega
theorem repr_ok {d : PyData} {S : Sto} (h1 : d.showable = true) (h2 : d.depth ≤ 60) (h3 : wt d ≤ 1000000) : reprM [.p d] S = .ok (.p (.str d.shown)) S := by
  have q := shown_le d
  have h4 : d.shown.length ≤ LIM := by unfold LIM; omega
  simp [reprM, h1, h2, h4]
end DL

namespace DL
open PySem L2 PySem.Spec PyProof.Rows

def ordM : List D → M D := fun ds S => match ds with
  | [.p (.str x)] => if x.length = 1 then .ok (.p (.int (x.cps.getD 0 0 : Nat))) S else .bad
  | _ => .bad
def absM : List D → M D := fun ds S => match ds with
  | [.p (.int i)] => .ok (.p (.int (if i < 0 then -i else i))) S
  | _ => .bad
def strM : List D → M D := fun ds S => match ds with
  | [.p (.int i)] => if i.natAbs.log2 < 1920 then .ok (.p (.str (toString i))) S else .bad
  | _ => .bad
def intsP : List PyData → Option (List Int)
  | [] => some []
  | .int i :: r => (intsP r).map (i :: ·)
  | _ :: _ => none
theorem intsP_dn {K : PySem.W.Frag} {φ : List (Addr × HO)} {H : Hp} : ∀ {xs : List PyData} {ns : List Int} {vs : List V}, intsP xs = some ns → DnAll K φ H xs vs → vs = ns.map V.int
  | [], ns, _, e, .nil => by cases e; rfl
  | x :: r, ns, _, e, .cons h t => by
    cases x with
    | int i =>
      simp only [intsP, Option.map_eq_some_iff] at e
      obtain ⟨ms, e1, rfl⟩ := e
      have q := intsP_dn e1 t
      cases h
      rw [q]
      rfl
    | _ => simp [intsP] at e
def sumM : List D → M D := fun ds S => match ds with
  | [d] => (match rlOf S d with
    | some xs => (match intsP xs with
      | some ns => .ok (.p (.int ns.sum)) S
      | none => .bad)
    | none => .bad)
  | _ => .bad
def maxI : List Int → Int
  | [] => 0
  | [x] => x
  | x :: y :: r => max x (maxI (y :: r))
theorem maxI_ge : ∀ {ns : List Int} {y : Int}, y ∈ ns → y ≤ maxI ns
  | [x], y, h => by simp at h; subst h; exact Int.le_refl _
  | x :: z :: r, y, h => by
    show y ≤ max x (maxI (z :: r))
    rcases List.mem_cons.mp h with rfl | h
    · exact Int.le_max_left ..
    · exact Int.le_trans (maxI_ge h) (Int.le_max_right ..)
theorem maxI_mem : ∀ {ns : List Int}, ns ≠ [] → maxI ns ∈ ns
  | [], h => absurd rfl h
  | [x], _ => by simp [maxI]
  | x :: z :: r, _ => by
    show max x (maxI (z :: r)) ∈ _
    by_cases c : x ≤ maxI (z :: r)
    · rw [Int.max_eq_right c]; exact List.mem_cons_of_mem _ (maxI_mem (by simp))
    · rw [Int.max_eq_left (by omega)]; exact List.mem_cons_self
def maxM : List D → M D := fun ds S => match ds with
  | [d] => (match rlOf S d with
    | some xs => (match intsP xs with
      | some (n :: ns) => .ok (.p (.int (maxI (n :: ns)))) S
      | _ => .bad)
    | none => .bad)
  | _ => .bad
section
variable {X : Cx} {W : WX} {e : Expr} {fa : FA} {p pos : Pos}
theorem de_ord (hg : Gl X "ord") (hm : X.mg "ord" = none) (ha : DA X W [e] fa) (he : starEach [e] X.env = (false, eval e X.env) :: starEach [] X.env := by rfl) : DE X W (.Call (.Name "ord" p) [e] [] pos) (eA ordM fa) :=
  de_callB call_ord (fun W σ H G S ds vs Q rp dv q => by
    unfold ordM at q
    split at q
    · rename_i x
      obtain ⟨v, rfl, dv1⟩ := denL1 dv
      obtain rfl := den_str dv1
      by_cases c : x.length = 1
      · rw [if_pos c] at q
        exact ⟨x, rfl, c, q.ret rp (.int _)⟩
      · rw [if_neg c] at q; exact q.elim
    · exact q.elim) hg hm rfl ha (he := he)
theorem de_abs (hg : Gl X "abs") (hm : X.mg "abs" = none) (ha : DA X W [e] fa) (he : starEach [e] X.env = (false, eval e X.env) :: starEach [] X.env := by rfl) : DE X W (.Call (.Name "abs" p) [e] [] pos) (eA absM fa) :=
  de_callB call_abs (fun W σ H G S ds vs Q rp dv q => by
    unfold absM at q
    split at q
    · rename_i x
      obtain ⟨v, rfl, dv1⟩ := denL1 dv
      obtain rfl := den_int dv1
      exact ⟨x, rfl, q.ret rp (.int _)⟩
    · exact q.elim) hg hm rfl ha (he := he)
theorem de_strI (hg : Gl X "str") (hm : X.mg "str" = none) (ha : DA X W [e] fa) (he : starEach [e] X.env = (false, eval e X.env) :: starEach [] X.env := by rfl) : DE X W (.Call (.Name "str" p) [e] [] pos) (eA strM fa) :=
  de_callTy call_str_int (fun W σ H G S ds vs Q rp dv q => by
    unfold strM at q
    split at q
    · rename_i x
      obtain ⟨v, rfl, dv1⟩ := denL1 dv
      obtain rfl := den_int dv1
      by_cases c : x.natAbs.log2 < 1920
      · rw [if_pos c] at q
        exact ⟨x, rfl, c, q.ret rp (.str _)⟩
      · rw [if_neg c] at q; exact q.elim
    · exact q.elim) hg hm rfl ha (he := he)
theorem de_sum (hc : X.calm = true) (hg : Gl X "sum") (hm : X.mg "sum" = none) (ha : DA X W [e] fa) (he : starEach [e] X.env = (false, eval e X.env) :: starEach [] X.env := by rfl) : DE X W (.Call (.Name "sum" p) [e] [] pos) (eA sumM fa) :=
  de_callB (cr_sum hc) (fun W σ H G S ds vs Q rp dv q => by
    unfold sumM at q
    split at q
    · rename_i d
      obtain ⟨v, rfl, dv1⟩ := denL1 dv
      split at q
      · rename_i xs ex
        obtain ⟨a, us, rfl, hq, t⟩ := rlOf_den rp ex dv1
        split at q
        · rename_i ns en
          obtain rfl := intsP_dn en t
          exact ⟨a, ns, rfl, hq, q.ret rp (.int _)⟩
        · exact q.elim
      · exact q.elim
    · exact q.elim) hg hm rfl ha (he := he)
theorem de_max (hc : X.calm = true) (hg : Gl X "max") (hm : X.mg "max" = none) (ha : DA X W [e] fa) (he : starEach [e] X.env = (false, eval e X.env) :: starEach [] X.env := by rfl) : DE X W (.Call (.Name "max" p) [e] [] pos) (eA maxM fa) :=
  de_callB (cr_max hc) (fun W σ H G S ds vs Q rp dv q => by
    unfold maxM at q
    split at q
    · rename_i d
      obtain ⟨v, rfl, dv1⟩ := denL1 dv
      split at q
      · rename_i xs ex
        obtain ⟨a, us, rfl, hq, t⟩ := rlOf_den rp ex dv1
        split at q
        · rename_i n ns en
          obtain rfl := intsP_dn en t
          refine ⟨a, n :: ns, rfl, hq, by simp, fun m hm1 hm2 => ?_⟩
          have e1 : m = maxI (n :: ns) := Int.le_antisymm (maxI_ge hm1) (hm2 _ (maxI_mem (by simp)))
          subst e1
          exact q.ret rp (.int _)
        · exact q.elim
      · exact q.elim
    · exact q.elim) hg hm rfl ha (he := he)
end

def repS (x : Str) (n : Int) : Str := if n < 1 then Str.empty else if (n == 1 || x.length == 0) = true then x else ⟨(List.replicate n.toNat x.cps).foldl (· ++ ·) #[]⟩
def opMulX : D → D → M D := fun x y S => match x, y with
  | .p (.int i), .p (.int j) => if i.natAbs.log2 + j.natAbs.log2 < 1000000 then .ok (.p (.int (i * j))) S else .bad
  | .p (.str z), .p (.int n) => if z.length ≤ 1000 ∧ -1000 ≤ n ∧ n ≤ 1000 then .ok (.p (.str (repS z n))) S else .bad
  | x, .p (.int n) => match lstOf S x with
    | some xs => if xs.length ≤ 1000 ∧ -1000 ≤ n ∧ n ≤ 1000 then .ok (.p (.list (List.replicate n.toNat xs).flatten)) S else .bad
    | none => .bad
  | _, _ => .bad
def rMulX : R2 := fun x y H Q => rI CMulW (fun i j => .int (i * j)) x y H Q ∨ rRep x y H Q ∨ ∃ z n, x = .str z ∧ y = .int n ∧ z.length ≤ 1000 ∧ -1000 ≤ n ∧ n ≤ 1000 ∧ Q (.str (repS z n)) H
theorem rep_size : ∀ (k : Nat) (x acc : Array Nat), ((List.replicate k x).foldl (· ++ ·) acc).size = acc.size + k * x.size
  | 0, x, acc => by simp
  | k + 1, x, acc => by
    rw [List.replicate_succ, List.foldl_cons, rep_size k x (acc ++ x), Array.size_append, Nat.succ_mul]
    omega
theorem rep_dn {K : PySem.W.Frag} {φ : List (Addr × HO)} {H : Hp} {xs : List PyData} {vs : List V} (t : DnAll K φ H xs vs) : ∀ k : Nat, DnAll K φ H (List.replicate k xs).flatten (List.replicate k vs).flatten
  | 0 => .nil
  | k + 1 => by
    rw [List.replicate_succ, List.replicate_succ, List.flatten_cons, List.flatten_cons]
    exact t.append (rep_dn t k)
section
variable {X : Cx}
theorem op_mulX1 : OpR X (binaryOp .Mult) rMulX := by
  intro pins s σ H x y v u Q I rx ry h
  rcases h with h | h | h
  · exact op_mulW pins s σ H x y v u Q I rx ry h
  · exact op_rep pins s σ H x y v u Q I rx ry h
  · obtain ⟨z, n, rfl, rfl, hz, h1, h2, q⟩ := h
    obtain ⟨t, rfl⟩ := rx
    obtain ⟨t', rfl⟩ := ry
    refine PySem.P.mul_str (by
      rw [decide_eq_false (show ¬ n < -(2 ^ 63 : Int) by omega), decide_eq_false (show ¬ n ≥ 2 ^ 63 by omega)]; rfl) (fun c1 c2 => ?_) (fun c1 c2 => ?_) ?_
    · have : (2 ^ 63 - 1 : Int) / n ≥ 1000 := by
        refine (Int.le_ediv_iff_mul_le (by omega)).mpr ?_
        omega
      omega
    · have hk : z.length * n.toNat ≤ 1000 * 1000 := Nat.mul_le_mul hz (by omega)
      show decide (z.length * n.toNat > sizeLine) = false
      exact decide_eq_false (by have := LIM_le; unfold LIM at this; omega)
    · by_cases c1 : n < 1
      · have q' : Q (.str Str.empty) H := by unfold repS at q; rw [if_pos c1] at q; exact q
        rw [if_pos c1]
        exact ⟨Nat.zero_le _, .str _, H, I.tok _, ⟨_, rfl⟩, q'⟩
      · by_cases c2 : (n == 1 || z.length == 0) = true
        · have q' : Q (.str z) H := by unfold repS at q; rw [if_neg c1, if_pos c2] at q; exact q
          rw [if_neg c1, if_pos c2]
          exact ⟨.str _, H, I, ⟨_, rfl⟩, q'⟩
        · have q' : Q (.str ⟨(List.replicate n.toNat z.cps).foldl (· ++ ·) #[]⟩) H := by unfold repS at q; rw [if_neg c1, if_neg c2] at q; exact q
          rw [if_neg c1, if_neg c2]
          refine ⟨?_, .str _, H, I.tok _, ⟨_, rfl⟩, q'⟩
          show ((List.replicate n.toNat z.cps).foldl (· ++ ·) #[]).size ≤ sizeLine
          rw [rep_size]
          have hk : n.toNat * z.cps.size ≤ 1000 * 1000 := Nat.mul_le_mul (by omega) hz
          have := LIM_le
          unfold LIM at this
          simp
          omega
end
theorem sim_mulX {K : PySem.W.Frag} : Sim2 K rMulX opMulX := by
  intro W σ H G S x y v w Q rp dx dy q
  unfold opMulX at q
  split at q
  · rename_i i j
    obtain rfl := den_int dx; obtain rfl := den_int dy
    by_cases c : i.natAbs.log2 + j.natAbs.log2 < 1000000
    · rw [if_pos c] at q
      exact .inl ⟨i, j, rfl, rfl, c, q.ret rp (.int _)⟩
    · rw [if_neg c] at q; exact q.elim
  · rename_i z n
    obtain rfl := den_str dx; obtain rfl := den_int dy
    by_cases c : z.length ≤ 1000 ∧ -1000 ≤ n ∧ n ≤ 1000
    · rw [if_pos c] at q
      exact .inr (.inr ⟨z, n, rfl, rfl, c.1, c.2.1, c.2.2, q.ret rp (.str _)⟩)
    · rw [if_neg c] at q; exact q.elim
  · rename_i x' n _ _
    obtain rfl := den_int dy
    split at q
    · rename_i xs ex
      obtain ⟨a, vs, rfl, hH, t⟩ := lstOf_den rp ex dx
      by_cases c : xs.length ≤ 1000 ∧ -1000 ≤ n ∧ n ≤ 1000
      · rw [if_pos c] at q
        refine .inr (.inl ⟨a, n, vs, rfl, rfl, hH, by omega, by omega, ?_, fun p hp => q.newLst rp (rep_dn t n.toNat) hp⟩)
        rw [← t.length]
        have hk : xs.length * n.toNat ≤ 1000 * 1000 := Nat.mul_le_mul c.1 (by omega)
        have := LIM_le
        unfold LIM at this
        omega
      · rw [if_neg c] at q; exact q.elim
    · exact q.elim
  · exact q.elim
def opDivX : D → D → M D := opI (fun _ j => decide (0 < j) && decide (j.natAbs.log2 < 9000)) fun i j => i / j
/-- <= of numbers, of texts -/
def opLeX : D → D → M D := fun x y S => match x, y with
  | .p (.int i), .p (.int j) => .ok (.p (.bool (decide (i ≤ j)))) S
  | .p (.str i), .p (.str j) => .ok (.p (.bool (!decide (j.cps.toList < i.cps.toList)))) S
  | _, _ => .bad
def rLeX : R2 := fun x y H Q => rI0 (fun i j => .bl (decide (i ≤ j))) x y H Q ∨ ∃ i j, x = .str i ∧ y = .str j ∧ Q (.bl (!decide (j.cps.toList < i.cps.toList))) H
theorem sim_leX {K : PySem.W.Frag} : Sim2 K rLeX opLeX := by
  intro W σ H G S x y v w Q rp dx dy q
  unfold opLeX at q
  split at q
  · rename_i i j
    obtain rfl := den_int dx; obtain rfl := den_int dy
    exact .inl ⟨i, j, rfl, rfl, q.ret rp (.bl _)⟩
  · rename_i i j
    obtain rfl := den_str dx; obtain rfl := den_str dy
    exact .inr ⟨i, j, rfl, rfl, q.ret rp (.bl _)⟩
  · exact q.elim
section
variable {X : Cx} {W : WX} {a b c : Expr} {f g h : FE} {pos : Pos}
theorem op_leX1 : OpR X (compareOp .LtE) rLeX := by
  intro pins s σ H x y v u Q I rx ry h
  rcases h with h | h
  · exact op_le pins s σ H x y v u Q I rx ry h
  · exact op_le_str pins s σ H x y v u Q I rx ry h
theorem de_mulX (ha : DE X W a f) (hb : DE X W b h) : DE X W (.BinOp a .Mult b pos) (e2 opMulX f h) := de_bin op_mulX1 sim_mulX ha hb
theorem de_divX (ha : DE X W a f) (hb : DE X W b h) : DE X W (.BinOp a .FloorDiv b pos) (e2 opDivX f h) := de_bin op_fdivW (sim_int fun i j q => by
  simp only [Bool.and_eq_true, decide_eq_true_eq] at q
  exact q) ha hb
theorem de_leX (ha : DE X W a f) (hb : DE X W b h) : DE X W (.Compare a [.LtE] [b] pos) (e2 opLeX f h) := de_cmp op_leX1 sim_leX ha hb (nomark _)
theorem dt_leX (ha : DE X W a f) (hb : DE X W b h) : DT X W (.Compare a [.LtE] [b] pos) (tC2 opLeX f h) := dt_cmp op_leX1 sim_leX ha hb (nomark _)
theorem de_leXleX (ha : DE X W a f) (hb : DE X W b g) (hc : DE X W c h) (hm : lastMarks [.LtE, .LtE] [b, c] = false := by with_unfolding_all rfl) : DE X W (.Compare a [.LtE, .LtE] [b, c] pos) (eChain opLeX opLeX f g h) := de_chain op_leX1 sim_leX op_leX1 sim_leX ha hb hc hm
theorem dt_leXleX (ha : DE X W a f) (hb : DE X W b g) (hc : DE X W c h) (hm : lastMarks [.LtE, .LtE] [b, c] = false := by with_unfolding_all rfl) : DT X W (.Compare a [.LtE, .LtE] [b, c] pos) (tChain opLeX opLeX f g h) := dt_chain op_leX1 sim_leX op_leX1 sim_leX ha hb hc hm
theorem dt_leXlt (ha : DE X W a f) (hb : DE X W b g) (hc : DE X W c h) (hm : lastMarks [.LtE, .Lt] [b, c] = false := by with_unfolding_all rfl) : DT X W (.Compare a [.LtE, .Lt] [b, c] pos) (tChain opLeX opLt f g h) := dt_chain op_leX1 sim_leX op_lt sim_cmp ha hb hc hm
end
end DL

namespace DL
open PySem L2 PySem.Spec PyProof.Rows

def deepIn (neg : Bool) : D → D → M D := fun x y S => match val S x, val S y with
  | some d, some (.list ds) => if SeqAt.shaped d && SeqAt.shaped (.list ds) then .ok (.p (.bool (if neg then !(ds.any fun z => PyData.eqv z d) else ds.any fun z => PyData.eqv z d))) S else .bad
  | _, _ => .bad
def opInX (neg : Bool) : D → D → M D := fun x y S => match opIn neg x y S with
  | .bad => deepIn neg x y S
  | o => o
def rInX (K : PySem.W.Frag) (neg : Bool) : R2 := fun x y H Q => DL.rInD K neg x y H Q ∨ ∃ d ds, Dp K H x d ∧ Dp K H y (.list ds) ∧ SeqAt.shaped d = true ∧ SeqAt.shaped (.list ds) = true ∧ Q (.bl (if neg then !(ds.any fun z => PyData.eqv z d) else ds.any fun z => PyData.eqv z d)) H
theorem sim_inX {K : PySem.W.Frag} (neg : Bool) : Sim2 K (rInX K neg) (opInX neg) := by
  intro W σ H G S x y v w Q rp dx dy q
  unfold opInX at q
  cases e : opIn neg x y S with
  | ok d S1 =>
    rw [e] at q
    exact .inl (sim_in neg W σ H G S x y v w Q rp dx dy (by rw [e]; exact q))
  | err z S1 =>
    rw [e] at q
    exact .inl (sim_in neg W σ H G S x y v w Q rp dx dy (by rw [e]; exact q))
  | bad =>
    rw [e] at q
    have q : Aft K W σ H G S (deepIn neg x y S) (QD K Q) := q
    unfold deepIn at q
    split at q
    · rename_i d ds e1 e2
      by_cases c : (SeqAt.shaped d && SeqAt.shaped (.list ds)) = true
      · rw [if_pos c] at q
        simp only [Bool.and_eq_true] at c
        exact .inr ⟨d, ds, val_dp rp e1 c.1 dx, val_dp rp e2 c.2 dy, c.1, c.2, q.ret rp (.bl _)⟩
      · rw [if_neg c] at q; exact q.elim
    · exact q.elim
def eSplit (f g : FE) : FE := fun ρ S => (f ρ S).bind fun d S1 => match d with
  | .p (.str a) => (g ρ S1).bind fun e S2 => (match e with
    | .p (.str b) => if (b.length == 0) = false ∧ a.length + 2 ≤ LIM then .ok (.p (.list ((Txt.split a b).map .str))) S2 else .bad
    | _ => .bad)
  | _ => .bad
theorem strs_dn {K : PySem.W.Frag} {φ : List (Addr × HO)} {H : Hp} : ∀ xs : List Str, DnAll K φ H (xs.map .str) (xs.map V.str)
  | [] => .nil
  | x :: xs => .cons (.str x) (strs_dn xs)
section
variable {X : Cx} {W : WX} {a b o e : Expr} {f g h : FE} {pos apos : Pos}
theorem op_inX1 (hu : X.A.units + 65 < cLine) : OpR X (compareOp .In) (rInX X.K false) := by
  intro pins s σ H x y v u Q I rx ry h
  rcases h with h | h
  · exact DL.op_inD (by omega) pins s σ H x y v u Q I rx ry h
  · exact L2.op_inD hu pins s σ H x y v u Q I rx ry h
theorem op_notInX1 (hu : X.A.units + 65 < cLine) : OpR X (compareOp .NotIn) (rInX X.K true) := by
  intro pins s σ H x y v u Q I rx ry h
  rcases h with h | h
  · exact DL.op_notInD (by omega) pins s σ H x y v u Q I rx ry h
  · exact L2.op_notInD hu pins s σ H x y v u Q I rx ry h
theorem hu65 {A : Around} {k : Nat} (hr : Room k A) : A.units + 65 < cLine := by have := hr.un; omega
theorem de_inX (hu : X.A.units + 65 < cLine) (ha : DE X W a f) (hb : DE X W b h) (hm : behindInMarks .In b = false := by rfl) : DE X W (.Compare a [.In] [b] pos) (e2 (opInX false) f h) := de_cmp (op_inX1 hu) (sim_inX false) ha hb hm
theorem de_notInX (hu : X.A.units + 65 < cLine) (ha : DE X W a f) (hb : DE X W b h) (hm : behindInMarks .NotIn b = false := by rfl) : DE X W (.Compare a [.NotIn] [b] pos) (e2 (opInX true) f h) := de_cmp (op_notInX1 hu) (sim_inX true) ha hb hm
theorem dt_inX (hu : X.A.units + 65 < cLine) (ha : DE X W a f) (hb : DE X W b h) (hm : behindInMarks .In b = false := by rfl) : DT X W (.Compare a [.In] [b] pos) (tC2 (opInX false) f h) := dt_cmp (op_inX1 hu) (sim_inX false) ha hb hm
theorem dt_notInX (hu : X.A.units + 65 < cLine) (ha : DE X W a f) (hb : DE X W b h) (hm : behindInMarks .NotIn b = false := by rfl) : DT X W (.Compare a [.NotIn] [b] pos) (tC2 (opInX true) f h) := dt_cmp (op_notInX1 hu) (sim_inX true) ha hb hm
theorem de_split (ho : DE X W o f) (he : DE X W e g) (hs : starEach [e] X.env = [(false, eval e X.env)] := by rfl) (hbase : attributeBase o "split" X.env (eval o X.env) = eval o X.env := by rfl) (hline : (apos.endLine == pos.line) = true := by rfl) : DE X W (.Call (.Attribute o "split" apos) [e] [] pos) (eSplit f g) := by
  refine ⟨PE.imp (pe_split ho.run he.run hs hbase hline) fun σ H Q ⟨G, S, ρ, rs, rp, q⟩ => ⟨G, S, ρ, rs, rp, (Aft.bind q).mono fun d H1 G1 S1 x1 r1 q1 v dv => ?_⟩⟩
  split at q1
  · rename_i z
    obtain rfl := den_str dv
    refine ⟨⟨z, rfl⟩, G1, S1, ρ, x1.relS rp rs, r1, (Aft.bind q1).mono fun d2 H2 G2 S2 x2 r2 q2 u du => ?_⟩
    split at q2
    · rename_i b'
      obtain rfl := den_str du
      by_cases c : (b'.length == 0) = false ∧ z.length + 2 ≤ LIM
      · rw [if_pos c] at q2
        exact ⟨z, b', rfl, rfl, c.1, Nat.le_trans c.2 LIM_le, fun p hp => q2.newLst r2 (strs_dn _) hp⟩
      · rw [if_neg c] at q2; exact q2.elim
    · exact q2.elim
  · exact q1.elim
end
end DL

namespace DL
open PySem L2

theorem lg {n k : Nat} (h : n < 2 ^ k) (hk : 0 < k) : n.log2 < k := by
  by_cases c : n = 0
  · subst c; simpa using hk
  · exact (Nat.log2_lt c).mpr h
@[simp] theorem opLeX_i {i j : Int} {S : Sto} : opLeX (.p (.int i)) (.p (.int j)) S = .ok (.p (.bool (decide (i ≤ j)))) S := rfl
@[simp] theorem opLeX_s {i j : Str} {S : Sto} : opLeX (.p (.str i)) (.p (.str j)) S = .ok (.p (.bool (!decide (j.cps.toList < i.cps.toList)))) S := rfl
theorem opMulX_i {i j : Int} {S : Sto} (h : i.natAbs.log2 + j.natAbs.log2 < 1000000) : opMulX (.p (.int i)) (.p (.int j)) S = .ok (.p (.int (i * j))) S := by simp [opMulX, h]
theorem opDivX_i {i j : Int} {S : Sto} (h : 0 < j) (h2 : j.natAbs.log2 < 9000) : opDivX (.p (.int i)) (.p (.int j)) S = .ok (.p (.int (i / j))) S := by simp [opDivX, opI, h, h2]
@[simp] theorem inX_ss {neg : Bool} {i j : Str} {S : Sto} : opInX neg (.p (.str i)) (.p (.str j)) S = .ok (.p (.bool (if neg then !inStr i j else inStr i j))) S := rfl
theorem inX_t {neg : Bool} {a : PyData} {xs : List PyData} {S : Sto} (h : flatP a = true) (h2 : xs.all flatP = true) : opInX neg (.p a) (.p (.tuple xs)) S = .ok (.p (.bool (if neg then !inP a xs else inP a xs))) S := by
  unfold opInX; rw [in_t h h2]
theorem inX_l {neg : Bool} {a : PyData} {xs : List PyData} {S : Sto} (h : flatP a = true) (h2 : xs.all flatP = true) : opInX neg (.p a) (.p (.list xs)) S = .ok (.p (.bool (if neg then !inP a xs else inP a xs))) S := by
  unfold opInX; rw [in_l h h2]
/-- the draw's constants: q, a, b, the power, the ten's power and what is added -/
structure DrC where
  q : Int
  a : Int
  b : Int
  e : Int
  t : Int
  z : Int
def DrC.ok (c : DrC) : Prop := 0 < c.q ∧ c.q ≤ 4294967296 ∧ 0 ≤ c.a ∧ c.a ≤ 100000 ∧ 0 ≤ c.b ∧ c.b ≤ 100000 ∧ 0 ≤ c.e ∧ c.e ≤ 1000 ∧ 0 ≤ c.t ∧ c.t ≤ 1000 ∧ 0 ≤ c.z
def drawA2 (c : DrC) : FS := (sSeq (sAsgs (aCons (e2 opSubs (eVar 0) (eC (.p (.str "place")))) (aCons (eA lenM (aCons (e2 opSubs (eVar 0) (eC (.p (.str "cells")))) aNil)) aNil)) (gConss (gN 3) (gConss (gN 4) gNils)))
    (sSeq (sAsgs (aCons (e2 opSubs (e2 opSubs (eVar 0) (eC (.p (.str "cells")))) (e2 opMod (eA intM (aCons (eVar 3) aNil)) (eVar 4))) (aCons (e2 opAdd (eVar 3) (eC (.p (.int 1)))) aNil)) (gConss (gN 5) (gConss (gSubD (eVar 0) (eC (.p (.str "place")))) gNils)))
    (sSeq (sAsg (e2 opMod (eA intM (aCons (e2 opPow (e2 opAdd (e2 opAdd (e2 opMod (eA intM (aCons (eVar 5) aNil)) (eC (.p (.int c.q)))) (e2 opMulX (eC (.p (.int c.a))) (eVar 3))) (eC (.p (.int c.b)))) (eC (.p (.int c.e)))) aNil)) (e2 opAdd (e2 opPow (eC (.p (.int 10))) (eC (.p (.int c.t)))) (eC (.p (.int c.z))))) (gSubD (eVar 0) (eC (.p (.str "left")))))
    (sIf (tAndD (tC2 (opGe) (eVar 5) (e2 opPow (eC (.p (.int 10))) (eC (.p (.int 18))))) (tC2 (opLt) (eVar 3) (eVar 4))) (sAsg (e2 opSub (eVar 5) (e2 opPow (eC (.p (.int 10))) (eC (.p (.int 18))))) (gSubD (eVar 0) (eC (.p (.str "left"))))) sNext))))
def drawB2 (c : DrC) : FS := (sSeq (sIf (tC2 (opLt) (e2 opSubs (eVar 0) (eC (.p (.str "left")))) (eVar 1)) (drawA2 c) sNext)
    (sSeq (sAsgs (aCons (e2 opMod (eA intM (aCons (e2 opSubs (eVar 0) (eC (.p (.str "left")))) aNil)) (eVar 1)) (aCons (e2 opDivX (e2 opSubs (eVar 0) (eC (.p (.str "left")))) (eVar 1)) aNil)) (gConss (gN 2) (gConss (gSubD (eVar 0) (eC (.p (.str "left")))) gNils)))
    (sRet (eVar 2))))
theorem drawA2_ok {c : DrC} (hc0 : c.ok) {cs : List PyData} {p l m : Int} {S : Sto} {i : Nat} (hc : ∀ d ∈ cs, ∃ z, d = .int z) (hne : cs ≠ []) (h : S[i]? = some (.dic (tpd cs p l))) (hp : 0 ≤ p) (hp2 : p ≤ 1000000000000) :
    ∃ x y z l', drawA2 c [some (.ob i), some (.p (.int m)), none, none, none, none] S = some (.next [some (.ob i), some (.p (.int m)), none, x, y, z], S.set i (.dic (tpd cs (p + 1) l'))) := by
  obtain ⟨h1, h2, h3, h4, h5, h6, h7, h8, h9, h10, h11⟩ := hc0
  have hl : 0 < cs.length := List.length_pos_iff.mpr hne
  obtain ⟨d, e1, hd⟩ := atI_ok (xs := cs) (i := p % (cs.length : Int)) (Int.emod_nonneg _ (by omega)) (Int.emod_lt_of_pos _ (by omega))
  obtain ⟨z, rfl⟩ := hc d hd
  have hS1 := tp_at (o := .dic (tpd cs (p + 1) l)) h
  have hap : c.a * p ≤ 100000 * 1000000000000 := Int.mul_le_mul h4 hp2 hp (by decide)
  have hap0 : 0 ≤ c.a * p := Int.mul_nonneg h3 hp
  have hb : (z % c.q + c.a * p + c.b).natAbs < 2 ^ 64 := by
    have a1 := Int.emod_nonneg z (show c.q ≠ 0 by omega)
    have a2 := Int.emod_lt_of_pos z h1
    have : (2 : Nat) ^ 64 = 18446744073709551616 := by decide
    omega
  have hz : (0 : Int) < 10 ^ c.t.toNat + c.z := by
    have : (0 : Int) < 10 ^ c.t.toNat := Int.pow_pos (by decide)
    omega
  have hlg : c.a.natAbs.log2 + p.natAbs.log2 < 1000000 := by
    have a1 := lg (n := c.a.natAbs) (k := 40) (by have : (2 : Nat) ^ 40 = 1099511627776 := by decide
                                                  omega) (by decide)
    have a2 := lg (n := p.natAbs) (k := 41) (by have : (2 : Nat) ^ 41 = 2199023255552 := by decide
                                                omega) (by decide)
    omega
  have k1 := fun S => opMod_i (i := z) (S := S) h1
  have k2 := fun S => opMulX_i (S := S) hlg
  have k3 := fun S => opPow_i (S := S) h7 (show c.e ≤ 1000000 by omega) hb
  have k4 := fun S => opPow_i (S := S) h9 (show c.t ≤ 1000000 by omega) (show (10 : Int).natAbs < 2 ^ 64 by decide)
  have k5 := fun x S => opMod_i (i := x) (S := S) hz
  have k6 := fun S => opPow_i (i := 10) (S := S) (show (0 : Int) ≤ 18 by decide) (by decide) (show (10 : Int).natAbs < 2 ^ 64 by decide)
  have hS2 : ∀ l2, (List.set S i (.dic (tpd cs (p + 1) l2)))[i]? = some (.dic (tpd cs (p + 1) l2)) := fun l2 => tp_at h
  unfold drawA2
  simp only [sSeq_, sAsgs_, aCons_, aNil_, e2_, eVarS, eVar0, eC_, Out.bind_ok, tp_place h, eA_, tp_cells h, lenM_l, st_ok, gConss_, gN_, gNils_, List.set_cons_succ, List.set_cons_zero, intM_i, opMod_i (show (0 : Int) < (cs.length : Int) by omega), subs_l e1, opAdd_i, gSubD_, tp_setP h, sAsg_, k1, k2, k3, k4, k5, tp_setL hS1, List.set_set]
  by_cases c1 : (10 : Int) ^ (18 : Int).toNat ≤ z
  · by_cases c2 : p < (cs.length : Int)
    · simp only [sIf_, tAnd_, tC2_, e2_, eVarS, eVar0, eC_, Out.bind_ok, k6, opGe_i, c1, decide_true, if_true, opLt_i, c2, st_ok, sAsg_, opSub_i, gSubD_, tp_setL (hS2 _), List.set_set]
      exact ⟨_, _, _, _, rfl⟩
    · simp only [sIf_, tAnd_, tC2_, e2_, eVarS, eVar0, eC_, Out.bind_ok, k6, opGe_i, c1, decide_true, if_true, opLt_i, c2, decide_false, Bool.false_eq_true, if_false, st_ok, sNext_]
      exact ⟨_, _, _, _, rfl⟩
  · simp only [sIf_, tAnd_, tC2_, e2_, eVarS, eVar0, eC_, Out.bind_ok, k6, opGe_i, c1, decide_false, Bool.false_eq_true, if_false, st_ok, sNext_]
    exact ⟨_, _, _, _, rfl⟩
theorem drawB2_ok {c : DrC} (hc0 : c.ok) {cs : List PyData} {p l m : Int} {S : Sto} {i : Nat} (hc : ∀ d ∈ cs, ∃ z, d = .int z) (hne : cs ≠ []) (h : S[i]? = some (.dic (tpd cs p l))) (hp : 0 ≤ p) (hp2 : p ≤ 1000000000000) (hm : 0 < m) (hm2 : m.natAbs.log2 < 9000) :
    ∃ g p' l', 0 ≤ g ∧ g < m ∧ 0 ≤ p' ∧ p' ≤ p + 1 ∧ runF 6 (drawB2 c) [.ob i, .p (.int m)] S = .ok (.p (.int g)) (S.set i (.dic (tpd cs p' l'))) := by
  have second : ∀ {x y z : Option D} {S : Sto} {p l : Int}, S[i]? = some (.dic (tpd cs p l)) → (sSeq (sAsgs (aCons (e2 opMod (eA intM (aCons (e2 opSubs (eVar 0) (eC (.p (.str "left")))) aNil)) (eVar 1)) (aCons (e2 opDivX (e2 opSubs (eVar 0) (eC (.p (.str "left")))) (eVar 1)) aNil)) (gConss (gN 2) (gConss (gSubD (eVar 0) (eC (.p (.str "left")))) gNils)))
      (sRet (eVar 2))) [some (.ob i), some (.p (.int m)), none, x, y, z] S = some (.ret (.p (.int (l % m))), S.set i (.dic (tpd cs p (l / m)))) := by
    intro x y z S p l h
    simp [sSeq_, tp_left h, opMod_i hm, opDivX_i hm hm2, tp_setL h]
  have g0 : ∀ l, 0 ≤ l % m := fun l => Int.emod_nonneg _ (by omega)
  have g1 : ∀ l, l % m < m := fun l => Int.emod_lt_of_pos _ hm
  by_cases cc : l < m
  · obtain ⟨x, y, z, l', e⟩ := drawA2_ok (m := m) hc0 hc hne h hp hp2
    have s2 := second (x := x) (y := y) (z := z) (tp_at (o := .dic (tpd cs (p + 1) l')) h)
    refine ⟨l' % m, p + 1, l' / m, g0 _, g1 _, by omega, by omega, run_ret ?_⟩
    show drawB2 c [some (.ob i), some (.p (.int m)), none, none, none, none] S = _
    unfold drawB2
    rw [sSeq_next (a := sIf _ _ _) (ρ' := [some (.ob i), some (.p (.int m)), none, x, y, z]) (S' := S.set i (.dic (tpd cs (p + 1) l'))) (by simp [sSeq_, tp_left h, cc, e]), s2, List.set_set]
  · refine ⟨l % m, p, l / m, g0 _, g1 _, by omega, by omega, run_ret ?_⟩
    show drawB2 c [some (.ob i), some (.p (.int m)), none, none, none, none] S = _
    unfold drawB2
    rw [sSeq_next (a := sIf _ _ _) (ρ' := [some (.ob i), some (.p (.int m)), none, none, none, none]) (S' := S) (by simp [sSeq_, tp_left h, cc]), second h]
theorem draw2_ok {c : DrC} (hc0 : c.ok) {cs : List PyData} {i L : Nat} {n m : Int} {S : Sto} (hc : Cells cs) (h : Tape cs i L n S) (hn : n ≤ 1000000000000) (hm : 0 < m) (hm2 : m.natAbs.log2 < 9000) :
    ∃ g S', runF 6 (drawB2 c) [.ob i, .p (.int m)] S = .ok (.p (.int g)) S' ∧ 0 ≤ g ∧ g < m ∧ Tape cs i L (n + 1) S' := by
  obtain ⟨hl, p, l, h0, h1, hS⟩ := h
  obtain ⟨g, p', l', a, b, c', d, e⟩ := drawB2_ok hc0 hc.1 hc.2 hS h0 (by omega) hm hm2
  exact ⟨g, _, e, a, b, by rw [List.length_set]; exact hl, p', l', c', by omega, tp_at hS⟩
theorem pick2_ok {c : DrC} (hc0 : c.ok) {cs : List PyData} {i L : Nat} {n : Int} {S : Sto} {xs : List PyData} (hc : Cells cs) (h : Tape cs i L n S) (hn : n ≤ 1000000000000) (hx : xs ≠ []) (hx2 : xs.length < 1000000) :
    ∃ d S', runF 2 (pickB (runF 6 (drawB2 c))) [.ob i, .p (.list xs)] S = .ok (.p d) S' ∧ d ∈ xs ∧ Tape cs i L (n + 1) S' := by
  have hl : 0 < xs.length := List.length_pos_iff.mpr hx
  obtain ⟨g, S', e, g0, g1, ht⟩ := draw2_ok hc0 (m := (xs.length : Int)) hc h hn (by omega) (by
    have := lg (n := ((xs.length : Int)).natAbs) (k := 40) (by have : (2 : Nat) ^ 40 = 1099511627776 := by decide
                                                               omega) (by decide)
    omega)
  obtain ⟨d, e2, hd⟩ := atI_ok g0 g1
  refine ⟨d, S', run_ret ?_, hd, ht⟩
  show pickB (runF 6 (drawB2 c)) [some (.ob i), some (.p (.list xs))] S = _
  unfold pickB
  simp [e, cut_same (ht.1.trans h.1.symm), subs_l e2]
theorem strOk_of (s : String) : PyData.strOk (Str.ofString s) = true := by
  rw [Str.ofString_eq_toList]
  unfold PyData.strOk
  rw [Array.all_eq_true']
  intro c hc
  simp at hc
  obtain ⟨x, _, rfl⟩ := hc
  have := x.valid
  simp [UInt32.isValidChar, Nat.isValidChar] at this
  simp only [decide_eq_true_eq]
  rcases this with h | h
  · omega
  · exact h.2
end DL

namespace DL
open PySem L2

theorem lcD_go {g : FG} {e : FE} {ρ : Ev} (Inv : Nat → Sto → Prop) (P : PyData → Prop) : ∀ {ds : List D} {j : Nat} {S : Sto}, Inv j S →
    (∀ i d S, ds[i]? = some d → Inv (j + i) S → ∃ ρ1 y S', g d ρ S = some (ρ1, S) ∧ e ρ1 S = .ok (.p y) S' ∧ P y ∧ Inv (j + i + 1) S') →
    ∃ ys S', lcD g tYesD e ρ ds S = .ok ys S' ∧ ys.length = ds.length ∧ (∀ y ∈ ys, P y) ∧ Inv (j + ds.length) S'
  | [], j, S, h, _ => ⟨[], S, rfl, rfl, (fun y hy => nomatch hy), h⟩
  | d :: r, j, S, h, st => by
    obtain ⟨ρ1, y, S1, e1, e2, py, h1⟩ := st 0 d S rfl h
    obtain ⟨ys, S2, e3, l, ps, h2⟩ := lcD_go Inv P (ds := r) (j := j + 1) (S := S1) h1 fun i x S hx hi => by
      have q := st (i + 1) x S (by simpa using hx) (by rw [show j + (i + 1) = j + 1 + i by omega]; exact hi)
      rw [show j + (i + 1) + 1 = j + 1 + i + 1 by omega] at q
      exact q
    refine ⟨y :: ys, S2, ?_, by simp [l], fun z hz => ?_, by rw [List.length_cons, show j + (r.length + 1) = j + 1 + r.length by omega]; exact h2⟩
    · unfold lcD
      rw [e1]
      show (tYesD ρ1 S).bind _ = _
      simp only [tYes_, Out.bind_ok, if_true, e2, e3]
    · rcases List.mem_cons.mp hz with rfl | hz
      · exact py
      · exact ps z hz
theorem range_ok {j : Int} {S : Sto} (h0 : 0 ≤ j) (h1 : j ≤ 1000000) : rangeM [.p (.int j)] S = .ok ((List.range j.toNat).map fun i : Nat => D.p (.int (0 + (i : Int)))) S := by
  unfold rangeM
  simp only
  rw [if_pos ⟨by omega, h1⟩]
end DL

namespace DL
open PySem L2

def wp {α : Type} (o : Out α) (Q : α → Sto → Prop) (X : Exn → Sto → Prop) : Prop := match o with
  | .ok a s => Q a s
  | .err x s => X x s
  | .bad => False
def wpS (o : Option (Fl × Sto)) (Q : Fl → Sto → Prop) : Prop := match o with
  | some (fl, s) => Q fl s
  | none => False
def wpG (o : Option (Ev × Sto)) (Q : Ev → Sto → Prop) : Prop := match o with
  | some (ρ, s) => Q ρ s
  | none => False
def noX : Exn → Sto → Prop := fun _ _ => False
def sq (b : FS) (Q : Fl → Sto → Prop) : Fl → Sto → Prop := fun fl s => match fl with
  | .next ρ => wpS (b ρ s) Q
  | .ret d => Q (.ret d) s
  | .brk ρ => Q (.brk ρ) s
  | .cont ρ => Q (.cont ρ) s
  | .exc x ρ => Q (.exc x ρ) s
def rn (Q : D → Sto → Prop) (X : Exn → Sto → Prop) : Fl → Sto → Prop := fun fl s => match fl with
  | .ret d => Q d s
  | .next _ => Q (.p .none) s
  | .exc x _ => X x s
  | _ => False
section
variable {α β : Type} {a : α} {s S : Sto} {Q : α → Sto → Prop} {X : Exn → Sto → Prop} {R : Fl → Sto → Prop} {ρ : Ev} {o : Out α} {k : α → M β} {Q' : β → Sto → Prop}
@[simp] theorem wp_ok : wp (.ok a s) Q X = Q a s := rfl
@[simp] theorem wp_err {x : Exn} : wp (.err x s : Out α) Q X = X x s := rfl
@[simp] theorem wp_bad : wp (.bad : Out α) Q X = False := rfl
@[simp ↓] theorem wp_bind : wp (o.bind k) Q' X = wp o (fun a s => wp (k a s) Q' X) X := by cases o <;> rfl
@[simp] theorem wp_noErr : wp (noErr o) Q X = wp o Q noX := by cases o <;> rfl
@[simp] theorem wpS_some {fl : Fl} : wpS (some (fl, s)) R = R fl s := rfl
@[simp ↓] theorem wpS_st {kk : α → Sto → Option (Fl × Sto)} : wpS (o.st ρ kk) R = wp o (fun a s => wpS (kk a s) R) (fun x s => R (.exc x ρ) s) := by cases o <;> rfl
@[simp ↓] theorem wpS_seq {a b : FS} : wpS (sSeq a b ρ S) R = wpS (a ρ S) (sq b R) := by
  unfold sSeq
  cases e : a ρ S with
  | none => rfl
  | some p =>
    obtain ⟨fl, s⟩ := p
    cases fl <;> rfl
theorem wpS_seq0 {a b : FS} : wpS (match a ρ S with | some (.next ρ', S') => b ρ' S' | o => o) R = wpS (a ρ S) (sq b R) := wpS_seq (a := a) (b := b)
@[simp] theorem sq_next {b : FS} : sq b R (.next ρ) s = wpS (b ρ s) R := rfl
@[simp] theorem sq_ret {b : FS} {d : D} : sq b R (.ret d) s = R (.ret d) s := rfl
@[simp] theorem sq_brk {b : FS} : sq b R (.brk ρ) s = R (.brk ρ) s := rfl
@[simp] theorem sq_cont {b : FS} : sq b R (.cont ρ) s = R (.cont ρ) s := rfl
@[simp] theorem sq_exc {b : FS} {x : Exn} : sq b R (.exc x ρ) s = R (.exc x ρ) s := rfl
@[simp] theorem rn_ret {Q : D → Sto → Prop} {d : D} : rn Q X (.ret d) s = Q d s := rfl
@[simp] theorem rn_next {Q : D → Sto → Prop} : rn Q X (.next ρ) s = Q (.p .none) s := rfl
@[simp] theorem rn_exc {Q : D → Sto → Prop} {x : Exn} : rn Q X (.exc x ρ) s = X x s := rfl
@[simp] theorem wpG_some {Q : Ev → Sto → Prop} : wpG (some (ρ, s)) Q = Q ρ s := rfl
@[simp] theorem wpG_none {Q : Ev → Sto → Prop} : wpG none Q = False := rfl
@[simp ↓] theorem wp_ite {c : Prop} [Decidable c] {x y : Out α} : wp (if c then x else y) Q X = if c then wp x Q X else wp y Q X := by split <;> rfl
@[simp ↓] theorem wpS_ite {c : Prop} [Decidable c] {x y : Option (Fl × Sto)} : wpS (if c then x else y) R = if c then wpS x R else wpS y R := by split <;> rfl
theorem wp_run {m : Nat} {b : FS} {ds : List D} {Q : D → Sto → Prop} : wp (runF m b ds S) Q X = wpS (b (ds.map some ++ List.replicate (m - ds.length) none) S) (rn Q X) := by
  unfold runF
  cases e : b (ds.map some ++ List.replicate (m - ds.length) none) S with
  | none => rfl
  | some p =>
    obtain ⟨fl, s⟩ := p
    cases fl <;> rfl
theorem wp_mono {Q2 : α → Sto → Prop} {X2 : Exn → Sto → Prop} (h : wp o Q X) (f : ∀ a s, Q a s → Q2 a s) (fx : ∀ x s, X x s → X2 x s) : wp o Q2 X2 := by
  cases o with
  | ok a s => exact f a s h
  | err x s => exact fx x s h
  | bad => exact h
theorem wp_eq {s' : Sto} (h : wp o (fun b t => b = a ∧ t = s') noX) : o = .ok a s' := by
  cases o with
  | ok b t => obtain ⟨rfl, rfl⟩ := h; rfl
  | err x t => exact h.elim
  | bad => exact h.elim
theorem wp_ex (h : wp o Q noX) : ∃ a s, o = .ok a s ∧ Q a s := by
  cases o with
  | ok b t => exact ⟨b, t, rfl, h⟩
  | err x t => exact h.elim
  | bad => exact h.elim
theorem wp_of (e : o = .ok a s) (h : Q a s) : wp o Q X := by rw [e]; exact h
/-- a def's end: plain data goes out, the later objects are forgotten -/
theorem wp_cut {n : Nat} {o : Out D} {Q : D → Sto → Prop} (h : wp o (fun d s => ∃ x, d = .p x ∧ Q (.p x) (s.take n)) X) : wp (cutD n o) Q X := by
  cases o with
  | ok d s =>
    obtain ⟨x, rfl, q⟩ := h
    exact q
  | err x s => exact h
  | bad => exact h
/-- a def's end where the store keeps its length -/
theorem wp_cutS {n : Nat} {o : Out D} {Q : D → Sto → Prop} (h : wp o (fun d s => s.length = n ∧ Q d s) X) : wp (cutD n o) Q X := by
  cases o with
  | ok d s =>
    obtain ⟨rfl, q⟩ := h
    cases d with
    | ob i =>
      show wp (if i < s.length then Out.ok (D.ob i) (s.take s.length) else .ok (.ob i) s) Q X
      rw [List.take_of_length_le (Nat.le_refl _)]
      split <;> exact q
    | p x => show Q _ (s.take s.length); rw [List.take_of_length_le (Nat.le_refl _)]; exact q
    | ro x => show Q _ (s.take s.length); rw [List.take_of_length_le (Nat.le_refl _)]; exact q
    | ext x => show Q _ (s.take s.length); rw [List.take_of_length_le (Nat.le_refl _)]; exact q
  | err x s => exact h
  | bad => exact h
/-- a loop by its turns -/
theorem forD_wp {g : FG} {b : FS} (Inv : Nat → Ev → Sto → Prop) : ∀ {ds : List D} {j : Nat} {ρ : Ev} {S : Sto}, Inv j ρ S →
    (∀ i d ρ S, ds[i]? = some d → Inv (j + i) ρ S → wpG (g d ρ S) fun ρ1 S1 => wpS (b ρ1 S1) fun fl s => match fl with
      | .next ρ2 => Inv (j + i + 1) ρ2 s
      | .cont ρ2 => Inv (j + i + 1) ρ2 s
      | .brk ρ2 => R (.next ρ2) s
      | fl => R fl s) →
    (∀ ρ S, Inv (j + ds.length) ρ S → R (.next ρ) S) → wpS (forD g b ds ρ S) R
  | [], j, ρ, S, h, _, e => e ρ S h
  | d :: r, j, ρ, S, h, st, e => by
    have q := st 0 d ρ S rfl h
    unfold forD
    cases eg : g d ρ S with
    | none => rw [eg] at q; exact q
    | some p =>
      obtain ⟨ρ1, S1⟩ := p
      rw [eg] at q
      have q : wpS (b ρ1 S1) _ := q
      show wpS (match b ρ1 S1 with | some (.next ρ2, S2) => forD g b r ρ2 S2 | some (.cont ρ2, S2) => forD g b r ρ2 S2 | some (.brk ρ2, S2) => some (.next ρ2, S2) | o => o) R
      have more : ∀ ρ2 S2, Inv (j + 1) ρ2 S2 → wpS (forD g b r ρ2 S2) R := fun ρ2 S2 hi => forD_wp Inv (ds := r) (j := j + 1) hi (fun i x ρ S hx hi => by
        have q := st (i + 1) x ρ S (by simpa using hx) (by rw [show j + (i + 1) = j + 1 + i by omega]; exact hi)
        rw [show j + (i + 1) + 1 = j + 1 + i + 1 by omega] at q
        exact q) fun ρ S hi => e ρ S (by rw [List.length_cons, show j + (r.length + 1) = j + 1 + r.length by omega]; exact hi)
      cases eb : b ρ1 S1 with
      | none => rw [eb] at q; exact q
      | some p =>
        obtain ⟨fl, S2⟩ := p
        rw [eb] at q
        cases fl with
        | next ρ2 => exact more ρ2 S2 q
        | cont ρ2 => exact more ρ2 S2 q
        | brk ρ2 => exact q
        | ret d => exact q
        | exc x ρ2 => exact q
@[simp] theorem forD_nil {g : FG} {b : FS} : forD g b [] ρ S = some (.next ρ, S) := rfl
def fq (g : FG) (b : FS) (r : List D) (R : Fl → Sto → Prop) : Fl → Sto → Prop := fun fl s => match fl with
  | .next ρ2 => wpS (forD g b r ρ2 s) R
  | .cont ρ2 => wpS (forD g b r ρ2 s) R
  | .brk ρ2 => R (.next ρ2) s
  | .ret d => R (.ret d) s
  | .exc x ρ2 => R (.exc x ρ2) s
section
variable {g : FG} {b : FS} {r : List D}
@[simp] theorem fq_next : fq g b r R (.next ρ) s = wpS (forD g b r ρ s) R := rfl
@[simp] theorem fq_cont : fq g b r R (.cont ρ) s = wpS (forD g b r ρ s) R := rfl
@[simp] theorem fq_brk : fq g b r R (.brk ρ) s = R (.next ρ) s := rfl
@[simp] theorem fq_ret {d : D} : fq g b r R (.ret d) s = R (.ret d) s := rfl
@[simp] theorem fq_exc {x : Exn} : fq g b r R (.exc x ρ) s = R (.exc x ρ) s := rfl
end
@[simp] theorem wpS_forD {g : FG} {b : FS} {d : D} {r : List D} : wpS (forD g b (d :: r) ρ S) R = wpG (g d ρ S) fun ρ1 S1 => wpS (b ρ1 S1) (fq g b r R) := by
  conv => lhs; unfold forD
  cases eg : g d ρ S with
  | none => rfl
  | some p =>
    obtain ⟨ρ1, S1⟩ := p
    show wpS (match b ρ1 S1 with | some (.next ρ2, S2) => forD g b r ρ2 S2 | some (.cont ρ2, S2) => forD g b r ρ2 S2 | some (.brk ρ2, S2) => some (.next ρ2, S2) | o => o) R = wpS (b ρ1 S1) _
    cases eb : b ρ1 S1 with
    | none => rfl
    | some p =>
      obtain ⟨fl, S2⟩ := p
      cases fl <;> rfl
/-- a comprehension by its items -/
theorem lcD_wp {g : FG} {t : FT} {e : FE} (Inv : Nat → List PyData → Sto → Prop) {Q : List PyData → Sto → Prop} : ∀ {ds : List D} {j : Nat} {ys : List PyData} {S : Sto}, Inv j ys S →
    (∀ i d ys S, ds[i]? = some d → Inv (j + i) ys S → wpG (g d ρ S) fun ρ1 S1 => wp (t ρ1 S1) (fun c S2 => if c = true then wp (e ρ1 S2) (fun y S3 => ∃ z, y = .p z ∧ Inv (j + i + 1) (ys ++ [z]) S3) X else Inv (j + i + 1) ys S2) X) →
    (∀ zs S, Inv (j + ds.length) (ys ++ zs) S → Q zs S) → wp (lcD g t e ρ ds S) Q X
  | [], j, ys, S, h, _, f => f [] S (by simpa using h)
  | d :: r, j, ys, S, h, st, f => by
    have q := st 0 d ys S rfl h
    unfold lcD
    cases eg : g d ρ S with
    | none => rw [eg] at q; exact q
    | some p =>
      obtain ⟨ρ1, S1⟩ := p
      rw [eg] at q
      have q : wp (t ρ1 S1) _ X := q
      show wp ((t ρ1 S1).bind _) Q X
      cases et : t ρ1 S1 with
      | bad => rw [et] at q; exact q
      | err x s => rw [et] at q; exact q
      | ok c S2 =>
        rw [et] at q
        have more : ∀ (us : List PyData) S3, Inv (j + 1) (ys ++ us) S3 → wp (lcD g t e ρ r S3) (fun zs S4 => Q (us ++ zs) S4) X := fun us S3 hi => lcD_wp Inv (ds := r) (j := j + 1) (ys := ys ++ us) hi (fun i x ys S hx hi => by
          have q := st (i + 1) x ys S (by simpa using hx) (by rw [show j + (i + 1) = j + 1 + i by omega]; exact hi)
          rw [show j + (i + 1) + 1 = j + 1 + i + 1 by omega] at q
          exact q) fun zs S4 hi => f (us ++ zs) S4 (by rw [List.length_cons, show j + (r.length + 1) = j + 1 + r.length by omega, ← List.append_assoc]; exact hi)
        cases c with
        | false => exact by simpa using more [] S2 (by simpa using q)
        | true =>
          have q : wp (e ρ1 S2) (fun y S3 => ∃ z, y = .p z ∧ Inv (j + 1) (ys ++ [z]) S3) X := q
          cases ee : e ρ1 S2 with
          | bad => rw [ee] at q; exact q.elim
          | err x s => rw [ee] at q; simp [ee]; exact q
          | ok y S3 =>
            rw [ee] at q
            obtain ⟨z, rfl, hi⟩ := q
            have m := more [z] S3 hi
            simp only [Out.bind_ok, if_true, ee]
            show wp ((lcD g t e ρ r S3).bind fun zs S4 => Out.ok (z :: zs) S4) Q X
            simpa using m
end
@[simp] theorem tupleM_l {xs : List PyData} {S : Sto} : tupleM [.p (.list xs)] S = .ok (.p (.tuple xs)) S := rfl
@[simp] theorem tupleM_t {xs : List PyData} {S : Sto} : tupleM [.p (.tuple xs)] S = .ok (.p (.tuple xs)) S := rfl
/-- a comprehension each of whose items draws at most so often -/
theorem lcT_wp {cs : List PyData} {i l : Nat} {n c : Int} {g : FG} {e : FE} {ρ : Ev} {ds : List D} {S : Sto} {Q : List PyData → Sto → Prop} {X : Exn → Sto → Prop} (L : Nat) (P : PyData → Prop) (hc : 0 ≤ c) (hl : ds.length ≤ L) (h : Tape cs i l n S)
    (st : ∀ d ∈ ds, ∀ n' S, n ≤ n' → n' + c ≤ n + L * c → Tape cs i l n' S → wpG (g d ρ S) fun ρ1 S1 => wp (e ρ1 S1) (fun y S2 => ∃ z, y = .p z ∧ P z ∧ Tape cs i l (n' + c) S2) X)
    (f : ∀ zs S', zs.length = ds.length → (∀ z ∈ zs, P z) → Tape cs i l (n + L * c) S' → Q zs S') : wp (lcD g tYesD e ρ ds S) Q X := by
  refine lcD_wp (fun j ys S => ys.length = j ∧ (∀ y ∈ ys, P y) ∧ Tape cs i l (n + j * c) S) (j := 0) (ys := []) ⟨rfl, (fun y hy => nomatch hy), by simpa using h⟩ ?_ ?_
  · rintro j d ys S he ⟨h1, h2, h3⟩
    have hj : j < ds.length := (List.getElem?_eq_some_iff.mp he).1
    rw [Nat.zero_add] at h1 h3 ⊢
    have hs : ((j + 1 : Nat) : Int) * c = j * c + c := by rw [show ((j + 1 : Nat) : Int) = (j : Int) + 1 by omega, Int.add_mul, Int.one_mul]
    have hb : ((j + 1 : Nat) : Int) * c ≤ L * c := Int.mul_le_mul_of_nonneg_right (by omega) hc
    have hz : 0 ≤ (j : Int) * c := Int.mul_nonneg (by omega) hc
    have q := st d (List.mem_of_getElem? he) (n + j * c) S (by omega) (by omega) h3
    cases eg : g d ρ S with
    | none => rw [eg] at q; exact q
    | some p =>
      obtain ⟨ρ1, S1⟩ := p
      rw [eg] at q
      have q : wp (e ρ1 S1) _ X := q
      simp only [wpG_some, tYes_, wp_ok, if_true]
      refine wp_mono q (fun y s ⟨z, e1, e2, e3⟩ => ⟨z, e1, by simp [h1], fun y hy => ?_, by rw [hs, ← Int.add_assoc]; exact e3⟩) fun _ _ h => h
      rcases List.mem_append.mp hy with hy | hy
      · exact h2 y hy
      · simp at hy; rw [hy]; exact e2
  · rintro zs S' ⟨h1, h2, h3⟩
    have hb : ((0 + ds.length : Nat) : Int) * c ≤ L * c := Int.mul_le_mul_of_nonneg_right (by omega) hc
    exact f zs S' (by simpa using h1) (by simpa using h2) (h3.mono (by omega))
/-- a comprehension whose items leave the store as it is -/
theorem lcP_wp {g : FG} {e : FE} {ρ : Ev} {ds : List D} {S : Sto} {Q : List PyData → Sto → Prop} {X : Exn → Sto → Prop} (P : PyData → Prop)
    (st : ∀ d ∈ ds, wpG (g d ρ S) fun ρ1 S1 => wp (e ρ1 S1) (fun y S2 => ∃ z, y = .p z ∧ P z ∧ S2 = S) X)
    (f : ∀ zs, zs.length = ds.length → (∀ z ∈ zs, P z) → Q zs S) : wp (lcD g tYesD e ρ ds S) Q X := by
  refine lcD_wp (fun j ys S' => ys.length = j ∧ (∀ y ∈ ys, P y) ∧ S' = S) (j := 0) (ys := []) ⟨rfl, (fun y hy => nomatch hy), rfl⟩ ?_ ?_
  · rintro j d ys S' he ⟨h1, h2, rfl⟩
    have q := st d (List.mem_of_getElem? he)
    cases eg : g d ρ S' with
    | none => rw [eg] at q; exact q
    | some p =>
      obtain ⟨ρ1, S1⟩ := p
      rw [eg] at q
      have q : wp (e ρ1 S1) _ X := q
      simp only [wpG_some, tYes_, wp_ok, if_true]
      refine wp_mono q (fun y s ⟨z, e1, e2, e3⟩ => ⟨z, e1, by simp [h1], fun y hy => ?_, e3⟩) fun _ _ h => h
      rcases List.mem_append.mp hy with hy | hy
      · exact h2 y hy
      · simp at hy; rw [hy]; exact e2
  · rintro zs S' ⟨h1, h2, rfl⟩
    exact f zs (by simpa using h1) (by simpa using h2)
/-- a loop each of whose turns draws at most so often -/
theorem forT_wp {cs : List PyData} {i l : Nat} {n c : Int} {g : FG} {b : FS} {ρ : Ev} {ds : List D} {S : Sto} {R : Fl → Sto → Prop} (L : Nat) (P : Nat → Ev → Prop) (hc : 0 ≤ c) (hl : ds.length ≤ L) (h0 : P 0 ρ) (h : Tape cs i l n S)
    (st : ∀ j d ρ n' S, ds[j]? = some d → P j ρ → n ≤ n' → n' + c ≤ n + L * c → Tape cs i l n' S → wpG (g d ρ S) fun ρ1 S1 => wpS (b ρ1 S1) fun fl s => match fl with
      | .next ρ2 => P (j + 1) ρ2 ∧ Tape cs i l (n' + c) s
      | .cont ρ2 => P (j + 1) ρ2 ∧ Tape cs i l (n' + c) s
      | .brk ρ2 => R (.next ρ2) s
      | fl => R fl s)
    (f : ∀ ρ S, P ds.length ρ → Tape cs i l (n + L * c) S → R (.next ρ) S) : wpS (forD g b ds ρ S) R := by
  refine forD_wp (fun j ρ S => P j ρ ∧ Tape cs i l (n + j * c) S) (j := 0) ⟨h0, by simpa using h⟩ ?_ ?_
  · rintro j d ρ S he ⟨h1, h3⟩
    have hj : j < ds.length := (List.getElem?_eq_some_iff.mp he).1
    rw [Nat.zero_add] at h1 h3 ⊢
    have hs : ((j + 1 : Nat) : Int) * c = j * c + c := by rw [show ((j + 1 : Nat) : Int) = (j : Int) + 1 by omega, Int.add_mul, Int.one_mul]
    have hb : ((j + 1 : Nat) : Int) * c ≤ L * c := Int.mul_le_mul_of_nonneg_right (by omega) hc
    have hz : 0 ≤ (j : Int) * c := Int.mul_nonneg (by omega) hc
    rw [hs, ← Int.add_assoc]
    exact st j d ρ (n + j * c) S he h1 (by omega) (by omega) h3
  · rintro ρ S ⟨h1, h3⟩
    have hb : ((0 + ds.length : Nat) : Int) * c ≤ L * c := Int.mul_le_mul_of_nonneg_right (by omega) hc
    exact f ρ S (by simpa using h1) (h3.mono (by omega))
/-- the tape's draws and picks, forward -/
theorem draw2_wp {c : DrC} (hc0 : c.ok) {cs : List PyData} {i L : Nat} {n m : Int} {S : Sto} {Q : D → Sto → Prop} {X : Exn → Sto → Prop} (hc : Cells cs) (h : Tape cs i L n S) (hn : n ≤ 1000000000000) (hm : 0 < m) (hm2 : m.natAbs.log2 < 9000)
    (q : ∀ g S', 0 ≤ g → g < m → Tape cs i L (n + 1) S' → Q (.p (.int g)) S') : wp (cutD S.length (runF 6 (drawB2 c) [.ob i, .p (.int m)] S)) Q X := by
  obtain ⟨g, S', e, a, b, c⟩ := draw2_ok hc0 hc h hn hm hm2
  rw [e, cut_same (c.1.trans h.1.symm)]
  exact q g S' a b c
theorem pick2_wp {c : DrC} (hc0 : c.ok) {cs : List PyData} {i L : Nat} {n : Int} {S : Sto} {xs : List PyData} {Q : D → Sto → Prop} {X : Exn → Sto → Prop} (hc : Cells cs) (h : Tape cs i L n S) (hn : n ≤ 1000000000000) (hx : xs ≠ []) (hx2 : xs.length < 1000000)
    (q : ∀ d S', d ∈ xs → Tape cs i L (n + 1) S' → Q (.p d) S') : wp (cutD S.length (runF 2 (pickB (runF 6 (drawB2 c))) [.ob i, .p (.list xs)] S)) Q X := by
  obtain ⟨d, S', e, a, c⟩ := pick2_ok hc0 hc h hn hx hx2
  rw [e, cut_same (c.1.trans h.1.symm)]
  exact q d S' a c
end DL

namespace DL
open PySem L2 PySem.Spec PyProof.Rows

def eBad : FE := fun _ _ => .bad
def sBad : FS := fun _ _ => none
theorem de_bad {X : Cx} {W : WX} {e : Expr} : DE X W e eBad := ⟨⟨fun _ _ _ _ _ _ ⟨_, _, _, _, _, q⟩ => q.elim⟩⟩
theorem ds_bad {X : Cx} {W : WX} {st : Stmt} : DS X W st sBad := ⟨⟨fun _ _ _ _ _ _ ⟨_, _, _, _, _, q⟩ => q.elim⟩⟩

def eqKv (ka kb : List (Key × PyData)) : Bool := ka.length == kb.length && ka.all fun p => match valD kb p.1 with
  | some y => PyData.eqv p.2 y
  | none => false
def shKv (ka : List (Key × PyData)) : Bool := ka.all fun p => SeqAt.shaped p.2
def opEqZ (neg : Bool) : D → D → M D := fun x y S => match dicOf S x, dicOf S y with
  | some ka, some kb => if shKv ka && shKv kb then .ok (.p (.bool (if neg then !eqKv ka kb else eqKv ka kb))) S else .bad
  | _, _ => opEqX neg x y S
def DpKv (K : PySem.W.Frag) (H : Hp) (ka : List (Key × PyData)) (wa : List (Key × V)) : Prop := ka.map (·.1) = wa.map (·.1) ∧ DpAll K H (wa.map (·.2)) (ka.map (·.2)) ∧ shKv ka = true
def rEqKv (K : PySem.W.Frag) (neg : Bool) : R2 := fun x y H Q => ∃ a b ka kb wa wb, x = .ref a ∧ y = .ref b ∧ Rd H a (.dK wa) ∧ Rd H b (.dK wb) ∧ DpKv K H ka wa ∧ DpKv K H kb wb ∧ Q (.bl (if neg then !eqKv ka kb else eqKv ka kb)) H
theorem DpKv.inv {K : PySem.W.Frag} {H : Hp} {p : Key × PyData} {ka : List (Key × PyData)} {l : List (Key × V)} (r : DpKv K H (p :: ka) l) : ∃ v wa, l = (p.1, v) :: wa ∧ Dp K H v p.2 ∧ SeqAt.shaped p.2 = true ∧ DpKv K H ka wa := by
  obtain ⟨e, t, s⟩ := r
  cases l with
  | nil => simp at e
  | cons q wa =>
    simp only [List.map_cons, List.cons.injEq] at e
    simp only [shKv, List.all_cons, Bool.and_eq_true] at s
    cases t with
    | cons h t => exact ⟨q.2, wa, by rw [e.1], h, s.1, e.2, t, s.2⟩
theorem DpKv.val {K : PySem.W.Frag} {H : Hp} {k : Key} : ∀ {ka : List (Key × PyData)} {wa : List (Key × V)}, DpKv K H ka wa → (∀ d, valD ka k = some d → ∃ v, valV wa k = some v ∧ Dp K H v d ∧ SeqAt.shaped d = true) ∧ (valD ka k = none → valV wa k = none)
  | [], wa, r => by
    have : wa = [] := by have := r.1; simpa using this
    subst this
    exact ⟨fun d e => (by cases e), fun _ => rfl⟩
  | p :: ka, _, r => by
    obtain ⟨v, ws, rfl, h, sh, t⟩ := r.inv
    have ih := DpKv.val (k := k) t
    by_cases e : p.1 = k
    · have e1 : valD (p :: ka) k = some p.2 := by simp [valD, List.find?_cons, e]
      have e2 : valV ((p.1, v) :: ws) k = some v := by simp [valV, List.find?_cons, e]
      rw [e1, e2]
      exact ⟨fun d q => by cases q; exact ⟨v, rfl, h, sh⟩, fun q => by cases q⟩
    · have e1 : valD (p :: ka) k = valD ka k := by simp [valD, List.find?_cons, e]
      have e2 : valV ((p.1, v) :: ws) k = valV ws k := by simp [valV, List.find?_cons, e]
      rw [e1, e2]
      exact ih
section
variable {X : Cx}
theorem hits_kv {pins : List (Addr × Obj)} {σ : L2.St} {H : Hp} {s : Shared} {A : Around} (I : L2.Inv X pins σ H s) (hu : A.in1.units + 64 < cLine) {kb : List (Key × PyData)} {wb : List (Key × V)} {vb : List (Key × Value)} (rb : KV wb vb) (db : DpKv X.K H kb wb) :
    ∀ {ka : List (Key × PyData)} {wa : List (Key × V)} {va : List (Key × Value)}, KV wa va → DpKv X.K H ka wa → PySem.W.KeqHits A.in1 s vb va (ka.all fun p => match valD kb p.1 with | some y => PyData.eqv p.2 y | none => false)
  | [], wa, va, ra, da => by
    have : wa = [] := by have := da.1; simpa using this
    subst this
    cases ra
    exact .nil
  | p :: ka, _, va, ra, da => by
    obtain ⟨v, wa, rfl, h, sh, t⟩ := da.inv
    cases ra with
    | @cons _ q _ qs h1 t1 =>
      obtain ⟨k, u⟩ := q
      obtain ⟨hk, hr⟩ := h1
      have hk : p.1 = k := hk
      subst hk
      have ih := hits_kv I hu rb db t1 t
      rw [List.all_cons]
      cases e : valD kb p.1 with
      | none =>
        have z : L2.RelO (valV wb p.1) (valueAt vb p.1) := rb.val p.1
        rw [(db.val (k := p.1)).2 e] at z
        have z' : valueAt vb p.1 = none := by cases hz : valueAt vb p.1 with | none => rfl | some y => rw [hz] at z; exact z.elim
        exact .miss z'
      | some d =>
        obtain ⟨y, ey, dy, sy⟩ := (db.val (k := p.1)).1 d e
        have z : L2.RelO (valV wb p.1) (valueAt vb p.1) := rb.val p.1
        rw [ey] at z
        obtain ⟨yv, hy, ry⟩ := z.some_of
        obtain ⟨as, r1⟩ := Dp.reads I p.2 v u h hr
        obtain ⟨bs, r2⟩ := Dp.reads I d y yv dy ry
        exact .hit hy (PySem.W.keq_at r1 r2 sh sy hu) ih
theorem op_eqKv (hu : X.A.units + 65 < cLine) : OpR X (compareOp .Eq) (rEqKv X.K false) := by
  intro pins s σ H x y v u Q I rx ry h
  obtain ⟨a, b, ka, kb, wa, wb, rfl, rfl, ea, eb, da, db, q⟩ := h
  obtain rfl : v = Value.ref a := rx
  obtain rfl : u = Value.ref b := ry
  obtain ⟨_, ya, va, ra, dda⟩ := (show ObjOk X.prog X.w H s.heap a (.dK wa) from ea.ok I.hok)
  obtain ⟨_, yb, vb, rb, ddb⟩ := (show ObjOk X.prog X.w H s.heap b (.dK wb) from eb.ok I.hok)
  have l1 : ka.length = va.length := by rw [← ra.length]; have := congrArg List.length da.1; simpa using this
  have l2 : kb.length = vb.length := by rw [← rb.length]; have := congrArg List.length db.1; simpa using this
  refine PySem.W.keq_eq (knd := mixKind X.prog X.w) ya yb dda ddb (by omega) (fun _ => hits_kv I (by show X.A.units + 1 + 64 < cLine; omega) rb db ra da) ⟨.bl _, H, I, rfl, ?_⟩
  rw [← l1, ← l2]
  exact q
theorem op_neKv (hu : X.A.units + 65 < cLine) : OpR X (compareOp .NotEq) (rEqKv X.K true) := by
  intro pins s σ H x y v u Q I rx ry h
  obtain ⟨a, b, ka, kb, wa, wb, rfl, rfl, ea, eb, da, db, q⟩ := h
  obtain rfl : v = Value.ref a := rx
  obtain rfl : u = Value.ref b := ry
  obtain ⟨_, ya, va, ra, dda⟩ := (show ObjOk X.prog X.w H s.heap a (.dK wa) from ea.ok I.hok)
  obtain ⟨_, yb, vb, rb, ddb⟩ := (show ObjOk X.prog X.w H s.heap b (.dK wb) from eb.ok I.hok)
  have l1 : ka.length = va.length := by rw [← ra.length]; have := congrArg List.length da.1; simpa using this
  have l2 : kb.length = vb.length := by rw [← rb.length]; have := congrArg List.length db.1; simpa using this
  refine PySem.W.keq_ne (knd := mixKind X.prog X.w) ya yb dda ddb (by omega) (fun _ => hits_kv I (by show X.A.units + 1 + 64 < cLine; omega) rb db ra da) ⟨.bl _, H, I, rfl, ?_⟩
  rw [← l1, ← l2]
  exact q
end
theorem shKv_lay : ∀ {ka : List (Key × PyData)}, shKv ka = true → PyData.canLayAll0 (ka.map (·.2)) = true
  | [], _ => rfl
  | p :: ka, h => by
    simp only [shKv, List.all_cons, Bool.and_eq_true] at h
    show (PyData.canLay0 p.2 && PyData.canLayAll0 (ka.map (·.2))) = true
    rw [SeqAt.canLay_of_shaped h.1, shKv_lay (ka := ka) h.2]
    rfl
theorem dpKv_of {K : PySem.W.Frag} {H : Hp} {G : Gh} {S : Sto} (rp : Rep K H G S) {ka : List (Key × PyData)} {wa : List (Key × V)} (r : KvR K G.φ H ka wa) (sh : shKv ka = true) : DpKv K H ka wa :=
  ⟨r.ks, DnAll.dp (fun _ => True) rp.phi (shKv_lay sh) r.vs, sh⟩
def rEqZ (K : PySem.W.Frag) : R2 := fun x y H Q => rEqX K x y H Q ∨ rEqKv K false x y H Q
def rNeZ (K : PySem.W.Frag) : R2 := fun x y H Q => rNeX K x y H Q ∨ rEqKv K true x y H Q
theorem sim_eqZ {K : PySem.W.Frag} : Sim2 K (rEqZ K) (opEqZ false) := by
  intro W σ H G S x y v w Q rp dx dy q
  unfold opEqZ at q
  split at q
  · rename_i ka kb e1 e2
    by_cases c : (shKv ka && shKv kb) = true
    · rw [if_pos c] at q
      rw [Bool.and_eq_true] at c
      obtain ⟨a, wa, rfl, ha, ra⟩ := dicOf_den rp e1 dx
      obtain ⟨b, wb, rfl, hb, rb⟩ := dicOf_den rp e2 dy
      exact .inr ⟨a, b, ka, kb, wa, wb, rfl, rfl, ha, hb, dpKv_of rp ra c.1, dpKv_of rp rb c.2, q.ret rp (.bl _)⟩
    · rw [if_neg c] at q; exact q.elim
  · exact .inl (sim_eqX W σ H G S x y v w Q rp dx dy q)
theorem sim_neZ {K : PySem.W.Frag} : Sim2 K (rNeZ K) (opEqZ true) := by
  intro W σ H G S x y v w Q rp dx dy q
  unfold opEqZ at q
  split at q
  · rename_i ka kb e1 e2
    by_cases c : (shKv ka && shKv kb) = true
    · rw [if_pos c] at q
      rw [Bool.and_eq_true] at c
      obtain ⟨a, wa, rfl, ha, ra⟩ := dicOf_den rp e1 dx
      obtain ⟨b, wb, rfl, hb, rb⟩ := dicOf_den rp e2 dy
      exact .inr ⟨a, b, ka, kb, wa, wb, rfl, rfl, ha, hb, dpKv_of rp ra c.1, dpKv_of rp rb c.2, q.ret rp (.bl _)⟩
    · rw [if_neg c] at q; exact q.elim
  · exact .inl (sim_neX W σ H G S x y v w Q rp dx dy q)
section
variable {X : Cx} {W : WX} {a b : Expr} {f h : FE} {pos : Pos}
theorem op_eqZ (hu : X.A.units + 65 < cLine) : OpR X (compareOp .Eq) (rEqZ X.K) := by
  intro pins s σ H x y v u Q I rx ry h
  rcases h with h | h
  · exact op_eqX (by omega) pins s σ H x y v u Q I rx ry h
  · exact op_eqKv hu pins s σ H x y v u Q I rx ry h
theorem op_neZ (hu : X.A.units + 65 < cLine) : OpR X (compareOp .NotEq) (rNeZ X.K) := by
  intro pins s σ H x y v u Q I rx ry h
  rcases h with h | h
  · exact op_neX (by omega) pins s σ H x y v u Q I rx ry h
  · exact op_neKv hu pins s σ H x y v u Q I rx ry h
theorem de_eqZ (hu : X.A.units + 65 < cLine) (ha : DE X W a f) (hb : DE X W b h) : DE X W (.Compare a [.Eq] [b] pos) (e2 (opEqZ false) f h) := de_cmp (op_eqZ hu) sim_eqZ ha hb (nomark _)
theorem de_neZ (hu : X.A.units + 65 < cLine) (ha : DE X W a f) (hb : DE X W b h) : DE X W (.Compare a [.NotEq] [b] pos) (e2 (opEqZ true) f h) := de_cmp (op_neZ hu) sim_neZ ha hb (nomark _)
theorem dt_eqZ (hu : X.A.units + 65 < cLine) (ha : DE X W a f) (hb : DE X W b h) : DT X W (.Compare a [.Eq] [b] pos) (tC2 (opEqZ false) f h) := dt_cmp (op_eqZ hu) sim_eqZ ha hb (nomark _)
theorem dt_neZ (hu : X.A.units + 65 < cLine) (ha : DE X W a f) (hb : DE X W b h) : DT X W (.Compare a [.NotEq] [b] pos) (tC2 (opEqZ true) f h) := dt_cmp (op_neZ hu) sim_neZ ha hb (nomark _)
end
end DL

namespace DL
open PySem L2 PySem.Spec PyProof.Rows

structure FnX (P : Program) (w : World) (K : PySem.W.Frag) (mg : Str → Option Value) (base : Heap) (k : Nat) (f : Addr) (fd : FuncData) (ps : List Str) (sp : Sp) : Prop where
  len : ∀ vs H Q E, sp vs H Q E → vs.length = ps.length
  run : ∀ (A : Around) (outer : List Env) (s : Shared) (H : Hp) (args : Args) (us : List Value) (vs : List V) (Q : VK) (E : XK), Room k A → A.guards = some [] → Env0 P w K mg base A outer s H → BindsTo s fd args (ps.zip us) → Vals vs us → sp vs H Q E →
    codeAny (model P w) A (.call (.ref f) args) (CR (L2.CX P w) outer P w H s Q E) s
/-- .. called by position -/
structure FnP (P : Program) (w : World) (K : PySem.W.Frag) (mg : Str → Option Value) (base : Heap) (k : Nat) (f : Addr) (sp : Sp) : Prop where
  run : ∀ (A : Around) (outer : List Env) (s : Shared) (H : Hp) (us : List Value) (vs : List V) (Q : VK) (E : XK), Room k A → A.guards = some [] → Env0 P w K mg base A outer s H → Vals vs us → sp vs H Q E →
    codeAny (model P w) A (.call (.ref f) ⟨us, []⟩) (CR (L2.CX P w) outer P w H s Q E) s
theorem FnX.toP {P : Program} {w : World} {K : PySem.W.Frag} {mg : Str → Option Value} {base : Heap} {k : Nat} {f : Addr} {fd : FuncData} {ps : List Str} {sp : Sp} (F : FnX P w K mg base k f fd ps sp) (hb : Binds K fd ps []) : FnP P w K mg base k f sp := by
  refine ⟨fun A outer s H us vs Q E hr hgd e0 r h => ?_⟩
  have hl : us.length = ps.length := by rw [← r.length]; exact F.len _ _ _ _ h
  have KX : K.In s.heap := e0.mod.kin.keeps fun b o e => (e0.bs b o e).1
  have hbs := hb s us KX (by simpa using hl)
  rw [List.append_nil] at hbs
  exact F.run A outer s H ⟨us, []⟩ us vs Q E hr hgd e0 hbs r h
theorem fnX_of {P : Program} {w : World} {K : PySem.W.Frag} {mg : Str → Option Value} {base : Heap} {x qual : Str} {st : Stmt} {f : Addr} {fd : FuncData} {N ps : List Str} {k : Nat} {sp : Sp} (F : Fun K x qual st f fd) (Sc : FnScope N ps (defScope st)) (len : ∀ vs H Q E, sp vs H Q E → vs.length = ps.length)
    (hbody : ∀ (cdv : Value) (A : Around) (outer : List Env) (s : Shared) (H : Hp) (vs : List V) (Q : VK) (E : XK), Room k (A.deeper (envOfC qual (defScope st) s.heap.objs.size f cdv)) → A.guards = some [] → sp vs H Q E →
      ∃ t, PSs (cxOf (L2.CX P w) P w K mg base N qual (defScope st) f cdv A outer s H E) (defBody st) t ∧ t { nx := fun _ H' => Q .non H', rt := Q } (start N vs) H) : FnX P w K mg base (k + 1) f fd ps sp := by
  obtain ⟨oc, od, kV, doc, pm, an, cdv, ct, osl, rfl, lk, hcd⟩ := F.ex
  refine ⟨len, fun A outer s H args us vs Q E hr hgd e0 hb r hsp => ?_⟩
  have hl := len _ _ _ _ hsp
  have keepB : ∀ b o, base.get? b = some o → s.heap.get? b = some o := fun b o e => (e0.bs b o e).1
  have KX : K.In s.heap := e0.mod.kin.keeps keepB
  have lim : s.heap.NoLimit := e0.mod.nolimit.keeps keepB
  obtain ⟨t, ht, hq⟩ := hbody cdv A outer s H vs Q E (hr.deeper _) hgd hsp
  refine codeAny_call_function hr.depth (KX _ _ lk) rfl Sc.co Sc.gen rfl (PySem.W.codeRec_of KX hcd) (hb _ _ _ _ ?_)
  refine wpAny_newFunctionEnv_cells Sc.kind (fun y hy => ?_) fun env he s1 xx => ?_
  · obtain ⟨n, v⟩ := y
    rcases Sc.par n (List.of_mem_zip hy).1 with q | q
    · exact .inl q
    · exact .inr ⟨q, PySem.W.cellsFrom_some _ _ _ (.inl q)⟩
  subst he
  refine ⟨lim.keeps xx.toInCall.keep, codeAny_func ?_⟩
  have I := inv_start (CX := L2.CX P w) (E := E) Sc hr.hd e0 hl r xx
  refine wpAny_mono (ht.run [] s1 (start N vs) H _ I hq) (fun fl s' hs => ?_) fun e s' hs => hs
  cases fl with
  | ret u =>
    obtain ⟨v, σ', H', J, rv, q⟩ := hs
    exact ⟨v, H', J.os, J.bare, J.base, J.hok, rv, q⟩
  | next =>
    obtain ⟨σ', H', J, q⟩ := hs
    exact ⟨.non, H', J.os, J.bare, J.base, J.hok, rfl, q⟩
  | brk =>
    obtain ⟨_, _, _, q⟩ := hs
    exact False.elim q
  | cont =>
    obtain ⟨_, _, _, q⟩ := hs
    exact False.elim q

/-- the later objects are forgotten when a def is left -/
def cutX (n : Nat) : Out D → Out D
  | .ok (.ob i) s => if i < n then .ok (.ob i) (s.take n) else .ok (.ob i) s
  | .ok d s => .ok d (s.take n)
  | .err x s => .err x (s.take n)
  | .bad => .bad
abbrev WE (E : XK) : WX := fun c d _ H => E c d H
def spX (K : PySem.W.Frag) (n : Nat) (g : List D → M D) : Sp := fun vs H Q E => ∃ G S ds, ds.length = n ∧ DenL K H G ds vs ∧ Rep K H G S ∧ Aft K (WE E) [] H G S (cutX S.length (g ds S)) (QD K Q)
def spV (K : PySem.W.Frag) (g : List D → M D) : Sp := fun vs H Q E => ∃ G S ds, DenL K H G ds vs ∧ Rep K H G S ∧ Aft K (WE E) [] H G S (cutX S.length (g ds S)) (QD K Q)
theorem exn_cut {K : PySem.W.Frag} {H : Hp} {G : Gh} {n : Nat} {x : Exn} {d : Option Addr} (h : ExnAt K H G x d) : ExnAt K H ⟨G.ι.take n, G.φ⟩ x d := h
theorem Aft.uncutX {K : PySem.W.Frag} {W : WX} {H : Hp} {G : Gh} {S S' : Sto} {d : D} {Q : VK} (rp : Rep K H G S) (q : Aft K W [] H G S (cutX S.length (.ok d S')) (QD K Q)) {H' : Hp} {G' : Gh} {v : V} (x : Ext H G S H' G' S') (r : Rep K H' G' S') (dv : Den K H' G' d v) : Q v H' := by
  have fin : (∀ i, d = .ob i → i < S.length) → Aft K W [] H G S (.ok d (S'.take S.length)) (QD K Q) → Q v H' := fun hi q => q H' _ (x.cut rp) (r.cut _) v (den_cut dv hi)
  cases d with
  | p y => exact fin (fun i e => nomatch e) q
  | ro y => exact fin (fun i e => nomatch e) q
  | ext y => exact fin (fun i e => nomatch e) q
  | ob i =>
    by_cases hi : i < S.length
    · have q : Aft K W [] H G S (if i < S.length then .ok (.ob i) (S'.take S.length) else .ok (.ob i) S') (QD K Q) := q
      rw [if_pos hi] at q
      exact fin (fun j e => by cases e; exact hi) q
    · have q : Aft K W [] H G S (if i < S.length then .ok (.ob i) (S'.take S.length) else .ok (.ob i) S') (QD K Q) := q
      rw [if_neg hi] at q
      exact q H' G' x r v dv
/-- what stands behind a body, from what is wanted of the def -/
theorem body_read {K : PySem.W.Frag} {H : Hp} {G : Gh} {S : Sto} {Q : VK} {E : XK} {m : Nat} {ds : List D} {body : FS} (rp : Rep K H G S) (q : Aft K (WE E) [] H G S (cutX S.length (runF m body ds S)) (QD K Q)) :
    AftS K (WE E) { nx := fun _ H' => Q .non H', rt := Q } H G S (body (ds.map some ++ List.replicate (m - ds.length) none) S) := by
  unfold runF at q
  cases eo : body (ds.map some ++ List.replicate (m - ds.length) none) S with
  | none => rw [eo] at q; exact q
  | some pr =>
    obtain ⟨fl, S'⟩ := pr
    rw [eo] at q
    cases fl with
    | ret d => exact fun H' G' v x r dv => Aft.uncutX rp q x r dv
    | next ρ' => exact fun H' G' σ' x r rs => Aft.uncutX (d := .p .none) rp q x r .non
    | brk ρ' => exact q.elim
    | cont ρ' => exact q.elim
    | exc y ρ' => exact fun H' G' σ' d x r rs e => q H' ⟨G'.ι.take S.length, G'.φ⟩ d (x.cut rp) (r.cut _) (exn_cut e)
/-- the things a body's derivation may use -/
structure Ctx (X : Cx) (W : WX) (k : Nat) : Prop where
  hr : Room k X.A
  hgd : X.A.guards = some []
  tk : Takes X W
theorem Ctx.blk {X : Cx} {W : WX} {k : Nat} (C : Ctx X W k) {s : Shared} {H : Hp} {sc : Scope} {env : Env} {fp : List Addr} : Ctx (X.blk s H sc env fp) W0 k := ⟨C.hr, C.hgd, takes0⟩
theorem Ctx.u1 {X : Cx} {W : WX} {k : Nat} (C : Ctx X W k) : X.A.units + 1 < cLine := hu_of C.hr
theorem Ctx.u64 {X : Cx} {W : WX} {k : Nat} (C : Ctx X W k) : X.A.units + 64 < cLine := C.hr.units
theorem Ctx.u65 {X : Cx} {W : WX} {k : Nat} (C : Ctx X W k) : X.A.units + 65 < cLine := hu65 C.hr
/-- a loop lets exceptions on -/
abbrev Po (X : Cx) : Prop := PassesOwn (model X.prog X.w) X.A X.env X.xe
theorem fnX_data {P : Program} {w : World} {K : PySem.W.Frag} {mg : Str → Option Value} {base : Heap} {x qual : Str} {st : Stmt} {f : Addr} {fd : FuncData} {N ps : List Str} {k m n : Nat} (F : Fun K x qual st f fd) (Sc : FnScope N ps (defScope st)) (hm : N.length = m) (hn : ps.length = n) (body : FS)
    (hb : ∀ (cdv : Value) (A : Around) (outer : List Env) (s : Shared) (H : Hp) (E : XK), Ctx (cxOf (L2.CX P w) P w K mg base N qual (defScope st) f cdv A outer s H E) (WE E) k → Po (cxOf (L2.CX P w) P w K mg base N qual (defScope st) f cdv A outer s H E) → DSs (cxOf (L2.CX P w) P w K mg base N qual (defScope st) f cdv A outer s H E) (WE E) (defBody st) body) :
    FnX P w K mg base (k + 1) f fd ps (spX K n (runF m body)) := by
  subst hm hn
  refine fnX_of F Sc (fun vs H Q E ⟨G, S, ds, hl, dl, _⟩ => by rw [← dl.length]; exact hl) fun cdv A outer s H vs Q E hr hgd ⟨G, S, ds, hl, dl, rp, q⟩ => ?_
  refine ⟨_, (hb cdv A outer s H E ⟨hr, hgd, takes_of rfl rfl rfl rfl⟩ (passes_of rfl)).run, G, S, ds.map some ++ List.replicate (N.length - ds.length) none, ?_, rp, body_read rp q⟩
  rw [dl.length]
  exact RelS.ofArgs (N.length - vs.length) dl
theorem fnX_none {P : Program} {w : World} {K : PySem.W.Frag} {mg : Str → Option Value} {base : Heap} {f : Addr} {fd : FuncData} {ps : List Str} {k n : Nat} : FnX P w K mg base k f fd ps (spX K n fun _ _ => .bad) :=
  ⟨fun vs H Q E ⟨_, _, _, _, _, _, q⟩ => q.elim, fun _ _ _ _ _ _ _ _ _ _ _ _ _ _ ⟨_, _, _, _, _, _, q⟩ => q.elim⟩
theorem fnP_none {P : Program} {w : World} {K : PySem.W.Frag} {mg : Str → Option Value} {base : Heap} {f : Addr} {k : Nat} : FnP P w K mg base k f (spV K fun _ _ => .bad) :=
  ⟨fun _ _ _ _ _ _ _ _ _ _ _ _ ⟨_, _, _, _, _, q⟩ => q.elim⟩

theorem Aft.from {α : Type} {K : PySem.W.Frag} {W : WX} {σ : L2.St} {H H1 : Hp} {G G1 : Gh} {S S1 : Sto} {o : Out α} {P : α → Hp → Gh → Sto → Prop} (q : Aft K W σ H G S o P) (x : Ext H G S H1 G1 S1) : Aft K W σ H1 G1 S1 o P := by
  cases o with
  | ok a S' => exact fun H' G' x' r => q H' G' (x.trans x') r
  | err y S' => exact fun H' G' d x' r e => q H' G' d (x.trans x') r e
  | bad => exact q
theorem denL_app {K : PySem.W.Frag} {H : Hp} {G : Gh} : ∀ {ds es : List D} {vs us : List V}, DenL K H G ds vs → DenL K H G es us → DenL K H G (ds ++ es) (vs ++ us)
  | _, _, _, _, .nil, s => s
  | _, _, _, _, .cons r t, s => .cons r (denL_app t s)

def runV (n m : Nat) (body : FS) : List D → M D := fun ds S => if n ≤ ds.length ∧ ds.length ≤ LIM then (match pys (ds.drop n) with
  | some xs => runF m body (ds.take n ++ [.p (.tuple xs)]) S
  | none => .bad) else .bad
theorem denL_take {K : PySem.W.Frag} {H : Hp} {G : Gh} : ∀ {ds : List D} {vs : List V} (n : Nat), DenL K H G ds vs → DenL K H G (ds.take n) (vs.take n) ∧ DenL K H G (ds.drop n) (vs.drop n)
  | _, _, 0, h => ⟨.nil, h⟩
  | _, _, _ + 1, .nil => ⟨.nil, .nil⟩
  | _, _, n + 1, .cons a t => ⟨.cons a (denL_take n t).1, (denL_take n t).2⟩
theorem fnP_star {P : Program} {w : World} {K : PySem.W.Frag} {mg : Str → Option Value} {base : Heap} {x qual : Str} {st : Stmt} {f : Addr} {fd : FuncData} {N ps : List Str} {pv : Str} {k m n : Nat} (F : Fun K x qual st f fd) (Sc : FnScope N (ps ++ [pv]) (defScope st)) (hm : N.length = m) (hn : ps.length = n) (body : FS)
    (hbd : ∀ us rest : List Value, us.length = ps.length → bindArgs fd ⟨us ++ rest, []⟩ = (newTuple rest >>= fun t => pure (ps.zip us ++ [(pv, t)])))
    (hb : ∀ (cdv : Value) (A : Around) (outer : List Env) (s : Shared) (H : Hp) (E : XK), Ctx (cxOf (L2.CX P w) P w K mg base N qual (defScope st) f cdv A outer s H E) (WE E) k → Po (cxOf (L2.CX P w) P w K mg base N qual (defScope st) f cdv A outer s H E) → DSs (cxOf (L2.CX P w) P w K mg base N qual (defScope st) f cdv A outer s H E) (WE E) (defBody st) body) :
    FnP P w K mg base (k + 1) f (spV K (runV n m body)) := by
  subst hm hn
  obtain ⟨oc, od, kV, doc, pm, an, cdv, ct, osl, rfl, lk, hcd⟩ := F.ex
  refine ⟨fun A outer s H us vs Q E hr hgd e0 r hsp => ?_⟩
  obtain ⟨G, S, ds, dl, rp, q⟩ := hsp
  unfold runV at q
  by_cases hlen : ps.length ≤ ds.length ∧ ds.length ≤ LIM
  · rw [if_pos hlen] at q
    cases ep : pys (ds.drop ps.length) with
    | none => rw [ep] at q; exact q.elim
    | some xs =>
      rw [ep] at q
      obtain ⟨d1, d2⟩ := denL_take ps.length dl
      have hlv : vs.length = ds.length := dl.length.symm
      have hw : (vs.take ps.length).length = ps.length := by rw [List.length_take, hlv]; omega
      rw [← List.take_append_drop ps.length vs] at r
      obtain ⟨u1, u2, eu, r1, r2⟩ := StX.vals_split r
      subst eu
      have hn0 : H s.heap.objs.size = Option.none := e0.hok.fresh (Nat.le_refl _)
      have hl1 : u1.length = ps.length := by rw [← r1.length]; exact hw
      have hz : (vs.drop ps.length).length ≤ sizeLine := by
        rw [List.length_drop, hlv]
        exact Nat.le_trans (Nat.sub_le _ _) (Nat.le_trans hlen.2 LIM_le)
      have hl2 : u2.length ≤ sizeLine := by rw [← r2.length]; exact hz
      refine StX.run_bnd lk hcd Sc hr e0 (G := fun zs H2 => ∃ p, H p = Option.none ∧ zs = vs.take ps.length ++ [V.ref p] ∧ H2 = upd H p (.tup (vs.drop ps.length))) (fun A' Ex Q' h => ?_) fun s2 H2 zs ⟨p, hp, ex, eH⟩ hr' => ?_
      · rw [hbd u1 u2 hl1]
        refine wpAny_bind (wpAny_newTuple (wpAny_pure ?_) hl2)
        have new : ObjOk P w (upd H s.heap.objs.size (.tup (vs.drop ps.length))) (s.heap.push ({ cls := .type "tuple", data := .seq u2.toArray } : Obj)) s.heap.objs.size (.tup (vs.drop ps.length)) := ⟨hz, u2, r2, ⟨_, Heap.get?_push_size _ rfl, rfl, _, rfl⟩⟩
        have un := StX.un_laid (fs := frs outer) (s := s) (o := ({ cls := .type "tuple", data := .seq u2.toArray } : Obj)) (u := .tup (vs.drop ps.length)) hn0
        have z := h _ _ (vs.take ps.length ++ [V.ref s.heap.objs.size]) (u1 ++ [Value.ref s.heap.objs.size]) (StX.env0_laid e0 new) un rfl (fun e s' => StX.cxUp outer s H _ _ E e s' un (fun b o q => Heap.get?_push_of_some _ q) rfl) (r1.append (.cons rfl .nil))
          (by rw [List.length_append, List.length_append, hw] <;> rfl) ⟨_, hn0, rfl, rfl⟩
        rw [List.zip_append hl1.symm] at z
        exact z
      · subst ex eH
        have x2 : Ext H G S (upd H p (.tup (vs.drop ps.length))) G S := Ext.other rp hp
        have r2' : Rep K (upd H p (.tup (vs.drop ps.length))) G S := Rep.other rp hp
        have dt : Den K (upd H p (.tup (vs.drop ps.length))) G (.p (.tuple xs)) (.ref p) := by
          refine Dn.tup (.inl (.inl upd_same)) ?_
          exact x2.dnAll rp (pys_den ep d2)
        have dl2 : DenL K (upd H p (.tup (vs.drop ps.length))) G (ds.take ps.length ++ [.p (.tuple xs)]) (vs.take ps.length ++ [V.ref p]) := denL_app (x2.denL rp d1) (.cons dt .nil)
        have q2 : Aft K (WE E) [] H G S (cutX S.length (runF N.length body (ds.take ps.length ++ [.p (.tuple xs)]) S)) (QD K Q) := q
        refine ⟨_, (hb cdv A outer s2 _ E ⟨hr', hgd, takes_of rfl rfl rfl rfl⟩ (passes_of rfl)).run, G, S, (ds.take ps.length ++ [D.p (.tuple xs)]).map some ++ List.replicate (N.length - (ds.take ps.length ++ [D.p (.tuple xs)]).length) none, ?_, r2', body_read (K := K) r2' (Aft.from q2 x2)⟩
        rw [dl2.length]
        exact RelS.ofArgs _ dl2
  · rw [if_neg hlen] at q; exact q.elim

def eCallX (n : Nat) (g : List D → M D) (fa : FA) : FE := fun ρ S => (fa ρ S).bind fun ds S1 => if ds.length = n then cutX S1.length (g ds S1) else .bad
section
variable {X : Cx} {W : WX} {k n : Nat} {f : Addr} {fd : FuncData} {ps : List Str} {sp : Sp} {x : Str} {p pos : Pos} {e : Expr} {es : List Expr} {fa : FA} {g : List D → M D}
theorem run_fnP {pins : List (Addr × Obj)} {σ : L2.St} {H : Hp} {s : Shared} {Q : VK} {us : List Value} {vs : List V} (F : FnP X.prog X.w X.K X.mg X.base k f sp) (C : Ctx X W k)
    (I : L2.Inv X pins σ H s) (r : Vals vs us) (h : sp vs H Q fun c d H' => W c d σ H') : wpAny (model X.prog X.w) X.A (call (.ref f) us) (EP X pins σ Q) X.xe s := by
  refine wpAny_call (codeAny_mono (F.run X.A X.stack s H us vs Q _ C.hr C.hgd I.env0 r h) fun res s' hq => ?_)
  match res, hq with
  | .error e, hq => exact C.tk e s' (XE.of_call I (fun cls d H' h => h) hq)
  | .ok (.ret u), hq => exact I.after hq
  | .ok .next, hq => exact False.elim hq
  | .ok .brk, hq => exact False.elim hq
  | .ok .cont, hq => exact False.elim hq
theorem callX_read {σ : L2.St} {H : Hp} {Q : VK} (q : rd X.K W (eCallX n g fa) σ H Q) : rdA X.K W fa σ H fun vs H1 => spX X.K n g vs H1 Q fun c d H' => W c d σ H' := by
  obtain ⟨G, S, ρ, rs, rp, q⟩ := q
  refine ⟨G, S, ρ, rs, rp, (Aft.bind q).mono fun ds H1 G1 S1 x1 r1 q1 vs dv => ?_⟩
  by_cases hl : ds.length = n
  · simp only [if_pos hl] at q1
    refine ⟨G1, S1, ds, hl, dv, r1, ?_⟩
    cases eo : cutX S1.length (g ds S1) with
    | ok a S2 => rw [eo] at q1; exact q1
    | err y S2 => rw [eo] at q1; exact q1
    | bad => rw [eo] at q1; exact q1
  · simp only [if_neg hl] at q1; exact q1.elim
theorem spV_of {vs : List V} {H : Hp} {Q : VK} {E : XK} (h : spX X.K n g vs H Q E) : spV X.K g vs H Q E := by
  obtain ⟨G, S, ds, _, a, b, c⟩ := h
  exact ⟨G, S, ds, a, b, c⟩
theorem de_callP (F : FnP X.prog X.w X.K X.mg X.base k f sp) (hsp : ∀ vs H Q E, spX X.K n g vs H Q E → sp vs H Q E) (C : Ctx X W k) (hg : Gl X x) (hm : X.mg x = some (.ref f)) (hk : PySem.W.keepIn X.K (.ref f) = true)
    (ha : DA X W (e :: es) fa) (hdb : (x == ("__debug__" : Str)) = false := by decide) (he : starEach (e :: es) X.env = (false, eval e X.env) :: starEach es X.env := by rfl) (hpl : (backTo pos (starEach es X.env)).any (·.1) = false := by rfl) :
    DE X W (.Call (.Name x p) (e :: es) [] pos) (eCallX n g fa) := by
  refine ⟨⟨fun pins s σ H Q I h => wpAny_Call_Name_kw (ld_glob I hg hm ?_ hdb)⟩⟩
  refine PySem.W.callWith_K (h₀ := X.base) I.ok.mod.kin hk (thn (ha.run.run pos pins s σ H _ I (callX_read h)) fun us s1 ⟨vs, H1, I1, r, q⟩ => ⟨I1.kIn, run_fnP F C I1 r (hsp _ _ _ _ q)⟩) he hpl
theorem de_callP0 (F : FnP X.prog X.w X.K X.mg X.base k f sp) (hsp : ∀ vs H Q E, spX X.K n g vs H Q E → sp vs H Q E) (C : Ctx X W k) (hg : Gl X x) (hm : X.mg x = some (.ref f)) (hk : PySem.W.keepIn X.K (.ref f) = true)
    (hdb : (x == ("__debug__" : Str)) = false := by decide) : DE X W (.Call (.Name x p) [] [] pos) (eCallX n g aNil) := by
  refine ⟨⟨fun pins s σ H Q I h => wpAny_Call_Name_kw (ld_glob I hg hm ?_ hdb)⟩⟩
  obtain ⟨G, S, ρ, rs, rp, q⟩ := callX_read h
  exact PySem.W.callWith_K0 I.kIn hk (run_fnP (us := []) F C I .nil (hsp _ _ _ _ (q H G Ext.refl rp [] .nil)))
/-- a def with parameters only -/
theorem de_callX (F : FnX X.prog X.w X.K X.mg X.base k f fd ps (spX X.K n g)) (C : Ctx X W k) (hg : Gl X x) (hm : X.mg x = some (.ref f)) (hk : PySem.W.keepIn X.K (.ref f) = true) (hb : Binds X.K fd ps [])
    (ha : DA X W (e :: es) fa) (hdb : (x == ("__debug__" : Str)) = false := by decide) (he : starEach (e :: es) X.env = (false, eval e X.env) :: starEach es X.env := by rfl) (hpl : (backTo pos (starEach es X.env)).any (·.1) = false := by rfl) :
    DE X W (.Call (.Name x p) (e :: es) [] pos) (eCallX n g fa) := de_callP (F.toP hb) (fun _ _ _ _ h => h) C hg hm hk ha hdb he hpl
theorem de_callX0 (F : FnX X.prog X.w X.K X.mg X.base k f fd ps (spX X.K n g)) (C : Ctx X W k) (hg : Gl X x) (hm : X.mg x = some (.ref f)) (hk : PySem.W.keepIn X.K (.ref f) = true) (hb : Binds X.K fd ps [])
    (hdb : (x == ("__debug__" : Str)) = false := by decide) : DE X W (.Call (.Name x p) [] [] pos) (eCallX n g aNil) := de_callP0 (F.toP hb) (fun _ _ _ _ h => h) C hg hm hk hdb
/-- a def with a star parameter -/
theorem de_callV (F : FnP X.prog X.w X.K X.mg X.base k f (spV X.K g)) (C : Ctx X W k) (hg : Gl X x) (hm : X.mg x = some (.ref f)) (hk : PySem.W.keepIn X.K (.ref f) = true)
    (ha : DA X W (e :: es) fa) (hdb : (x == ("__debug__" : Str)) = false := by decide) (he : starEach (e :: es) X.env = (false, eval e X.env) :: starEach es X.env := by rfl) (hpl : (backTo pos (starEach es X.env)).any (·.1) = false := by rfl) :
    DE X W (.Call (.Name x p) (e :: es) [] pos) (eCallX n g fa) := de_callP F (fun _ _ _ _ h => spV_of h) C hg hm hk ha hdb he hpl
theorem de_callV0 (F : FnP X.prog X.w X.K X.mg X.base k f (spV X.K g)) (C : Ctx X W k) (hg : Gl X x) (hm : X.mg x = some (.ref f)) (hk : PySem.W.keepIn X.K (.ref f) = true)
    (hdb : (x == ("__debug__" : Str)) = false := by decide) : DE X W (.Call (.Name x p) [] [] pos) (eCallX n g aNil) := de_callP0 F (fun _ _ _ _ h => spV_of h) C hg hm hk hdb
end

theorem law_goX {P : Program} {w : World} {K : PySem.W.Frag} {mg mb : Str → Option Value} {k : Nat} {fa a : Addr} {fd : FuncData} {x : Str} {sp : Sp} {s₁ : Shared} {vs : List Value} {ns : List Int}
    (KX : K.In s₁.heap) (hns : s₁.heap.Ns mainGlobals mg) (hb : s₁.heap.Ns builtinsNs mb) (hbb : ∀ x : Str, x ≠ "__name__" → mb x = bootBuiltins x) (hlim : s₁.heap.NoLimit) (hg : s₁.gens = #[])
    (ha : s₁.heap.get? a = some { cls := .type "list", data := .seq vs.toArray }) (hi : IntsAre vs ns) (hl : ns.length ≤ sizeLine) (hr : Room k callerA)
    (F : ∀ base : Heap, K.In base → base.Ns mainGlobals mg → FnX P w K mg base k fa fd [x] sp) (hbind : ∀ (s : Shared) (u : Value), BindsTo s fd ⟨[u], []⟩ [(x, u)])
    (hsp : ∀ H : Hp, Only H → SqL K H a (ns.map V.int) → sp [.ref a] H (fun v _ => v = .bl true) fun _ _ _ => False) :
    codeAny (model P w) callerA (.call (.ref fa) ⟨[.ref a], []⟩) (fun r s' => r = .ok (.ret (.bool true)) ∧ OldK s₁.heap s'.heap ∧ s'.os = s₁.os ∧ AllBare s'.gens) s₁ := by
  have rv := vals_ints hi
  have lenV := hi.length
  have main : ∀ H : Hp, Only H → SqL K H a (ns.map V.int) → HOk P w H s₁.heap → (∀ b, H b ≠ none → b = a) → (H a ≠ none → K.lookup a = none) →
      codeAny (model P w) callerA (.call (.ref fa) ⟨[.ref a], []⟩) (fun r s' => r = .ok (.ret (.bool true)) ∧ OldK s₁.heap s'.heap ∧ s'.os = s₁.os ∧ AllBare s'.gens) s₁ := by
    intro H hO hS hok hA hK
    have free : ∀ {b : Addr} {o : Obj} {es : Array DictEntry} {ep : Nat}, s₁.heap.get? b = some o → o.data = .dict es ep → H b = none := fun {b o es ep} e d => by
      by_cases q : H b = none
      · exact q
      · have e' := hA b q
        subst e'
        rw [ha] at e; cases e
        cases (show Data.seq vs.toArray _ = Data.dict es ep from d)
    have nsK : ∀ {b : Addr} {m : Str → Option Value}, s₁.heap.Ns b m → (hidT s₁.heap H).Ns b m := fun ⟨o, es, ep, e, d, r⟩ => ⟨o, es, ep, hidT_get e (free e d), d, r⟩
    have hKb : K.In (hidT s₁.heap H) := fun b o e => hidT_get (KX b o e) (by
      by_cases q : H b = none
      · exact q
      · have e' := hA b q
        subst e'
        rw [hK q] at e; cases e)
    obtain ⟨mc, l1, l2⟩ := id hlim
    have hM : Mod K mg (hidT s₁.heap H) := ⟨hKb, nsK hns, ⟨mb, nsK hb, hbb⟩, ⟨mc, nsK l1, l2⟩⟩
    have e0 : Env0 P w K mg (hidT s₁.heap H) callerA [] s₁ H := ⟨rfl, hM, fun b o e => of_hidT e, Nat.le_of_eq (hidT_size _ _), trivial, fun b hb => absurd (show b ∈ ([] : List Addr) from hb) (by simp), hok, .of_eq hg⟩
    refine codeAny_mono ((F _ hKb (nsK hns)).run callerA [] s₁ H ⟨[.ref a], []⟩ [.ref a] [.ref a] _ _ hr rfl e0 (hbind s₁ (.ref a)) (.cons rfl .nil) (hsp H hO hS)) fun r s' h => ?_
    match r, h with
    | .error e, h =>
      obtain ⟨_, _, _, _, _, _, _, _, _, _, _, _, z⟩ := (show L2.CX P w [] H s₁ (fun _ _ _ => False) e s' from h)
      exact z.elim
    | .ok .next, h => exact False.elim h
    | .ok .brk, h => exact False.elim h
    | .ok .cont, h => exact False.elim h
    | .ok (.ret u), h =>
      obtain ⟨v, H', os, bare, un, hok', r', q⟩ := h
      have q' : v = .bl true := q
      subst q'
      obtain rfl : u = Value.bool true := r'
      refine ⟨rfl, OldK.of_keep fun b o e => ?_, os, bare⟩
      rcases hO b with z | ⟨ob, xs, z⟩
      · exact un.keep b o e z (fun y => absurd (show b ∈ ([] : List Addr) from y) (by simp)) (by simp)
      · obtain ⟨e1, _⟩ := hok b _ z
        obtain ⟨e2, _⟩ := hok' b _ (un.frzs b ob _ z)
        rw [e] at e1; cases e1
        exact e2
  cases hk : K.lookup a with
  | some o =>
    have e := KX a o hk
    rw [ha] at e
    cases e
    refine main (fun _ => none) (fun _ => .inl rfl) (.inr ⟨_, vs.toArray, _, hk, rfl, rfl, rfl, by rw [List.size_toArray, lenV]; exact hl, by simpa using rv⟩) (fun b u z => by cases (show (none : Option HO) = some u from z)) (fun b z => absurd rfl z) fun z => absurd rfl z
  | none =>
    refine main (upd (fun _ => none) a (.frz { cls := .type "list", data := .seq vs.toArray } (.lst (ns.map V.int)))) (fun b => ?_) (.inl (.inr ⟨{ cls := .type "list", data := .seq vs.toArray }, upd_same⟩)) (fun b u z => ?_) (fun b z => ?_) fun _ => hk
    · by_cases hb : b = a
      · subst hb; exact .inr ⟨_, _, upd_same⟩
      · rw [upd_ne hb]; exact .inl rfl
    · by_cases hb : b = a
      · subst hb
        rw [upd_same] at z; cases z
        exact ⟨ha, by rw [List.length_map]; exact hl, vs, _, rv, ha⟩
      · rw [upd_ne hb] at z; cases z
    · by_cases hb : b = a
      · exact hb
      · rw [upd_ne hb] at z; exact absurd rfl z
theorem law_spX {K : PySem.W.Frag} {g : List D → M D} {ns : List Int} {a : Addr} {H : Hp} (h : ∃ S', g [.ro (nums ns)] [] = .ok (.p (.bool true)) S') (hO : Only H) (hS : SqL K H a (ns.map V.int)) : spX K 1 g [.ref a] H (fun v _ => v = .bl true) fun _ _ _ => False := by
  obtain ⟨S', e⟩ := h
  have fin : ∀ (φ : List (Addr × HO)), Holds φ H → RL K φ a (ns.map V.int) → spX K 1 g [.ref a] H (fun v _ => v = .bl true) fun _ _ _ => False := fun φ hφ hr => by
    refine ⟨⟨[], φ⟩, [], [.ro (nums ns)], rfl, .cons ⟨a, _, rfl, hr, nums_dn ns⟩ .nil, ⟨rfl, List.nodup_nil, fun i b o h => by simp at h, hφ, fun p _ l => ?_⟩, ?_⟩
    · obtain ⟨i, o, h, _⟩ := l
      simp at h
    · rw [e]
      exact fun H' G' x r v dv => den_bool dv
  rcases hS with (h | ⟨o, h⟩) | h
  · exact fin [(a, .lst (ns.map V.int))] (fun p hp => by obtain rfl := List.mem_singleton.mp hp; exact h) fun H' q => SqL.of (q _ (List.mem_singleton.mpr rfl))
  · exact fin [(a, .frz o (.lst (ns.map V.int)))] (fun p hp => by obtain rfl := List.mem_singleton.mp hp; exact h) fun H' q => .inl (.inr ⟨o, q _ (List.mem_singleton.mpr rfl)⟩)
  · exact fin [] (fun p hp => by cases hp) fun H' _ => .inr h
theorem walkX_data {l : PySem.W.OpenLaw} {k : Nat} {q : Program} {loose : List Str} {XP : (Str → Option Value) → Heap → Prop} {YP : World → Heap → Prop} {d : DefRec} {K : Params → PySem.W.Frag} {x : Str} {g : List D → M D}
    (hn : l.most = some 63) (hdf : d.params.defaults = []) (hr : Room k callerA) (hY : ∀ (w : World) (h : Heap), YP w h → (K w.params).In h)
    (F : ∀ (w : World) (mg : Str → Option Value) (fa : Addr) (h : Heap), (K w.params).In h → h.Ns mainGlobals mg → mg d.name = some (.ref fa) →
      ∃ fd : FuncData, (∀ (s : Shared) (u : Value), BindsTo s fd ⟨[u], []⟩ [(x, u)]) ∧ ∀ base : Heap, (K w.params).In base → base.Ns mainGlobals mg → FnX l.prog w (K w.params) mg base k fa fd [x] (spX (K w.params) 1 g))
    (hg : ∀ ns : List Int, ns.length ≤ 63 → ∃ S', g [.ro (nums ns)] [] = .ok (.p (.bool true)) S') : PySem.W.WalkO q loose XP YP l.row.toRowW d [] (fun f vs => PySem.call f vs) := by
  refine Att.attach_call hn hdf fun w s₀ s₁ mg mb fa o pm cd doc a vs ns G Y ho hd hcd hmg hobj hints hlen hgn => ?_
  have KX := hY w _ Y
  obtain ⟨fd, hb, hF⟩ := F w mg fa _ KX G.T.g hmg
  exact law_goX KX G.T.g G.T.b G.T.builtins G.T.nolimit hgn hobj hints (Nat.le_trans hlen (by decide)) hr hF hb fun H hO hS => law_spX (hg ns hlen) hO hS
end DL

namespace DL
open PySem L2 PySem.Spec PyProof.Rows

structure SMet (K : PySem.W.Frag) (C : Addr) (mc : Value) (m : Str) (p g : Addr) : Prop where
  rd : PySem.W.readsIn K C mc = true
  ga : PySem.W.specialIn K (.ref C) "__getattribute__" = some (some (.builtin "type.__getattribute__"))
  at_ : PySem.W.findCls K (.ref C) mc m = some (.get (.builtin "staticmethod.__get__") (.ref p) .none (.ref C))
  rc : ∃ rest, PySem.W.recIn K p "staticmethod" = some (.ref g :: rest)
section
variable {X : Cx} {W : WX} {k n : Nat} {C q f : Addr} {mc : Value} {sp : Sp} {x m : Str} {p apos pos : Pos} {e : Expr} {es : List Expr} {fa : FA} {g : List D → M D} {pl : Sem Bool}
theorem de_smethP (c : SMet X.K C mc m q f) (F : FnP X.prog X.w X.K X.mg X.base k f sp) (hsp : ∀ vs H Q E, spX X.K n g vs H Q E → sp vs H Q E) (K' : Ctx X W k) (hg : Gl X x) (hm : X.mg x = some (.ref C)) (hk : PySem.W.keepIn X.K (.ref f) = true)
    (ha : DA X W (e :: es) fa) (hdb : (x == ("__debug__" : Str)) = false := by decide) (he : starEach (e :: es) X.env = (false, eval e X.env) :: starEach es X.env := by rfl) (hpl : (backTo pos (starEach es X.env)).any (·.1) = false := by rfl)
    (ht : eval (.Call (.Attribute (.Name x p) m apos) (e :: es) [] pos) X.env = (do
      let ov ← eval (.Name x p) X.env
      standAt apos.atName
      let (f, first) ← holding [ov] (getMethod ov m pl)
      callWith pos f first (backTo pos (starEach (e :: es) X.env)) (backToKw pos (keywordEach [] X.env))) := by rfl) :
    DE X W (.Call (.Attribute (.Name x p) m apos) (e :: es) [] pos) (eCallX n g fa) := by
  have hx : PE X (.Name x p) (tC (.ref C)) := pe_glob hg hm rfl hdb
  refine ⟨⟨fun pins s σ H Q I h => ?_⟩⟩
  refine PySem.W.methodCall_KW (pl := pl) (thn (hx.run pins s σ H (fun v H1 => v = .ref C ∧ H1 = H) I ⟨rfl, rfl⟩) fun u s1 ⟨y, H1, I1, rx, ex, eH⟩ => ?_) ht
  subst ex eH
  obtain rfl : u = Value.ref C := rx
  obtain ⟨rest, hp⟩ := c.rc
  refine PySem.W.method_cls I1.kIn c.ga (PySem.W.cls_bind I1.kIn c.rd c.at_ (wpAny_call (PySem.W.sm_get (s := { s1 with toks := s1.toks + 1 }) I1.kIn hp (PySem.W.handed_on rfl ?_))))
  have I2 := I1.tok (s1.toks + 1)
  refine PySem.W.callWith_K (h₀ := X.base) I2.ok.mod.kin hk (thn (ha.run.run pos pins _ σ _ _ I2 (callX_read h)) fun us s3 ⟨vs, H2, I3, rv, q2⟩ => ⟨I3.kIn, run_fnP F K' I3 rv (hsp _ _ _ _ q2)⟩) he hpl
theorem de_smethV (c : SMet X.K C mc m q f) (F : FnP X.prog X.w X.K X.mg X.base k f (spV X.K g)) (K' : Ctx X W k) (hg : Gl X x) (hm : X.mg x = some (.ref C)) (hk : PySem.W.keepIn X.K (.ref f) = true)
    (ha : DA X W (e :: es) fa) (hdb : (x == ("__debug__" : Str)) = false := by decide) (he : starEach (e :: es) X.env = (false, eval e X.env) :: starEach es X.env := by rfl) (hpl : (backTo pos (starEach es X.env)).any (·.1) = false := by rfl)
    (ht : eval (.Call (.Attribute (.Name x p) m apos) (e :: es) [] pos) X.env = (do
      let ov ← eval (.Name x p) X.env
      standAt apos.atName
      let (f, first) ← holding [ov] (getMethod ov m pl)
      callWith pos f first (backTo pos (starEach (e :: es) X.env)) (backToKw pos (keywordEach [] X.env))) := by rfl) :
    DE X W (.Call (.Attribute (.Name x p) m apos) (e :: es) [] pos) (eCallX n g fa) := de_smethP c F (fun _ _ _ _ h => spV_of h) K' hg hm hk ha hdb he hpl ht
end

section
variable {X : Cx} {W : WX} {k n : Nat} {f : Addr} {sp : Sp} {x m : Str} {p apos pos : Pos} {e : Expr} {es : List Expr} {fa : FA} {g : List D → M D} {pl : Sem Bool}
theorem de_smethVE (c : ∃ C mc q, X.mg x = some (.ref C) ∧ SMet X.K C mc m q f) (F : FnP X.prog X.w X.K X.mg X.base k f (spV X.K g)) (K' : Ctx X W k) (hg : Gl X x) (hk : PySem.W.keepIn X.K (.ref f) = true)
    (ha : DA X W (e :: es) fa) (hdb : (x == ("__debug__" : Str)) = false := by decide) (he : starEach (e :: es) X.env = (false, eval e X.env) :: starEach es X.env := by rfl) (hpl : (backTo pos (starEach es X.env)).any (·.1) = false := by rfl)
    (ht : eval (.Call (.Attribute (.Name x p) m apos) (e :: es) [] pos) X.env = (do
      let ov ← eval (.Name x p) X.env
      standAt apos.atName
      let (f, first) ← holding [ov] (getMethod ov m pl)
      callWith pos f first (backTo pos (starEach (e :: es) X.env)) (backToKw pos (keywordEach [] X.env))) := by rfl) :
    DE X W (.Call (.Attribute (.Name x p) m apos) (e :: es) [] pos) (eCallX n g fa) := by
  obtain ⟨C, mc, q, hm, c⟩ := c
  exact de_smethV c F K' hg hm hk ha hdb he hpl ht
end
inductive Arm where
  | texts (xs : List Str)
  | any
def armB (x : Str) : Arm → Bool
  | .texts xs => xs.contains x
  | .any => true
def armGo (x : Str) : List (Arm × FS) → FS
  | [] => sNext
  | (a, b) :: r => if armB x a then b else armGo x r
def sMatch (f : FE) (arms : List (Arm × FS)) : FS := fun ρ S => (f ρ S).st ρ fun d S1 => match d with
  | .p (.str x) => armGo x arms ρ S1
  | _ => none
inductive PatT : List Pattern → List Str → Prop
  | nil : PatT [] []
  | cons {x : Str} {j : Nat} {p1 p2 : Pos} {ps : List Pattern} {xs : List Str} : PatT ps xs → PatT (.MatchValue (.Constant (.str x) j p1) p2 :: ps) (x :: xs)
inductive DArms (X : Cx) (W : WX) : List MatchCase → List (Arm × FS) → Prop
  | nil : DArms X W [] []
  | one {x : Str} {j : Nat} {p1 p2 : Pos} {body : List Stmt} {b : FS} {cs : List MatchCase} {r : List (Arm × FS)} : DSs X W body b → DArms X W cs r → DArms X W (⟨.MatchValue (.Constant (.str x) j p1) p2, none, body⟩ :: cs) ((.texts [x], b) :: r)
  | or {ps : List Pattern} {xs : List Str} {p2 : Pos} {body : List Stmt} {b : FS} {cs : List MatchCase} {r : List (Arm × FS)} : PatT ps xs → namesOfAll (ps.take 1) = [] → DSs X W body b → DArms X W cs r → DArms X W (⟨.MatchOr ps p2, none, body⟩ :: cs) ((.texts xs, b) :: r)
  | any {p2 : Pos} {body : List Stmt} {b : FS} {cs : List MatchCase} {r : List (Arm × FS)} : DSs X W body b → DArms X W cs r → DArms X W (⟨.MatchAs none none p2, none, body⟩ :: cs) ((.any, b) :: r)
section
variable {X : Cx} {W : WX} {pins : List (Addr × Obj)} {σ : L2.St} {H : Hp} {s : Shared}
theorem eq_text (I : L2.Inv X pins σ H s) {x y : Str} {t : Tok} {j : Nat} {p1 p2 : Pos} {Q : Option (List (Str × Value)) → Shared → Prop} (h : ∀ s', L2.Inv X pins σ H s' → Q (if (y == x) = true then some [] else none) s') :
    wpAny (model X.prog X.w) X.A (matchPattern (.MatchValue (.Constant (.str y) j p1) p2) X.env (.str x t)) Q X.xe s := by
  refine wpAny_matchPattern_Value ((pe_str (X := X)).run pins s σ H (fun v H1 => v = .str y ∧ H1 = H) I ⟨rfl, rfl⟩ |> fun z => thn z fun u s1 ⟨v, H1, I1, rv, ev, eH⟩ => ?_)
  subst ev eH
  obtain ⟨t2, rfl⟩ := rv
  refine thn ((op_eq (X := X)) pins s1 σ H1 (.str x) (.str y) (.str x t) (.str y t2) (fun v H2 => v = .bl (decide (V.str x = V.str y)) ∧ H2 = H1) I1 ⟨t, rfl⟩ ⟨t2, rfl⟩ ⟨rfl, rfl, rfl⟩) fun c s2 ⟨v, H2, I2, rv, ev, eH⟩ => ?_
  subst ev eH
  cases (show c = Value.bool (decide (V.str x = V.str y)) from rv)
  refine wpAny_truthy_bool ?_
  have e : decide (V.str x = V.str y) = (y == x) := by
    by_cases c : x = y
    · subst c; simp
    · have : ¬ y = x := fun z => c z.symm
      simp [c, this]
  rw [e]
  have z := h s2 I2
  cases hb : (y == x) with
  | true => rw [hb] at z; exact z
  | false => rw [hb] at z; exact z
theorem eq_first : ∀ {ps : List Pattern} {xs : List Str} (_ : PatT ps xs) {s : Shared} (_ : L2.Inv X pins σ H s) {x : Str} {t : Tok} {Q : Option (List (Str × Value)) → Shared → Prop} (_ : ∀ s', L2.Inv X pins σ H s' → Q (if xs.contains x = true then some [] else none) s'),
    wpAny (model X.prog X.w) X.A (matchFirst ps X.env (.str x t)) Q X.xe s
  | _, _, .nil, s, I, x, t, Q, h => wpAny_matchFirst_nil (h s I)
  | _, _, .cons (x := y) (xs := ys) r, s, I, x, t, Q, h => by
    refine wpAny_matchFirst_cons (eq_text I fun s1 I1 => ?_)
    by_cases c : (y == x) = true
    · rw [if_pos c]
      have z := h s1 I1
      have e : (y :: ys).contains x = true := by simp at c; simp [c]
      rw [if_pos e] at z
      exact z
    · rw [if_neg c]
      refine eq_first r I1 fun s2 I2 => ?_
      have z := h s2 I2
      have e : (y :: ys).contains x = ys.contains x := by
        have c' : ¬ x = y := fun q => c (by simp [q])
        simp [c']
      rw [e] at z
      exact z
theorem arms_run {x : Str} {t : Tok} {D : Ends} : ∀ {cs : List MatchCase} {arms : List (Arm × FS)} (_ : DArms X W cs arms) {s : Shared} (_ : L2.Inv X pins σ H s) (first : Bool) (_ : rdS X.K W (armGo x arms) D σ H),
    wpAny (model X.prog X.w) X.A (matchCases cs X.env (.str x t) first) (SP X pins D) X.xe s
  | _, _, .nil, s, I, first, h => by
    obtain ⟨G, S, ρ, rs, rp, q⟩ := h
    exact wpAny_matchCases_nil ⟨σ, H, I, AftS.next q Ext.refl rp rs⟩
  | _, _, .one (x := y) (b := b) (r := r) hb ht, s, I, first, h => by
    refine wpAny_matchCases_cons (eq_text I fun s1 I1 => ?_)
    by_cases c : (y == x) = true
    · rw [if_pos c]
      have e : armGo x ((.texts [y], b) :: r) = b := by simp at c; simp [armGo, armB, c]
      rw [e] at h
      exact wpAny_assignInOrder_none (hb.run.run pins s1 σ H D I1 h)
    · rw [if_neg c]
      have e : armGo x ((.texts [y], b) :: r) = armGo x r := by
        have c' : ¬ x = y := fun q => c (by simp [q])
        simp [armGo, armB, c']
      rw [e] at h
      exact arms_run ht I1 false h
  | _, _, .or (xs := ys) (b := b) (r := r) hp hn hb ht, s, I, first, h => by
    refine wpAny_matchCases_cons (wpAny_matchPattern_Or (eq_first hp I fun s1 I1 => ?_))
    by_cases c : ys.contains x = true
    · rw [if_pos c]
      have e : armGo x ((.texts ys, b) :: r) = b := by simp only [armGo, armB, c, if_true]
      rw [e] at h
      rw [hn]
      exact wpAny_assignInOrder_none (hb.run.run pins s1 σ H D I1 h)
    · rw [if_neg c]
      have e : armGo x ((.texts ys, b) :: r) = armGo x r := by
        rw [Bool.not_eq_true] at c
        simp only [armGo, armB, c, Bool.false_eq_true, if_false]
      rw [e] at h
      exact arms_run ht I1 false h
  | _, _, .any (b := b) (r := r) hb ht, s, I, first, h => by
    refine wpAny_matchCases_cons (wpAny_matchPattern_Capture ?_)
    exact wpAny_assignInOrder_none (hb.run.run pins s σ H D I h)
theorem ds_match {e : Expr} {cs : List MatchCase} {pos : Pos} {f : FE} {arms : List (Arm × FS)} (he : DE X W e f) (ha : DArms X W cs arms) : DS X W (.Match e cs pos) (sMatch f arms) := by
  refine ⟨⟨fun pins s σ H D I ⟨G, S, ρ, rs, rp, q⟩ => ?_⟩⟩
  refine wpAny_Match (thn (he.run.run pins s σ H (fun v H1 => ∃ x, v = .str x ∧ rdS X.K W (armGo x arms) D σ H1) I ⟨G, S, ρ, rs, rp, (AftS.st q rs rp).mono fun d H1 G1 S1 x1 r1 q1 v dv => ?_⟩) fun u s1 ⟨v, H1, I1, rv, x, ev, h⟩ => ?_)
  · split at q1
    · rename_i x
      exact ⟨x, den_str dv, G1, S1, ρ, x1.relS rp rs, r1, q1⟩
    · exact q1.elim
  · subst ev
    obtain ⟨t, rfl⟩ := rv
    exact arms_run ha I1 true h
end

inductive KdEnts (K : PySem.W.Frag) : List DictEntry → List (Str × PyData) → Prop
  | nil : KdEnts K [] []
  | cons {h : Int} {k : Str} {t : Tok} {u : Value} {d : PyData} {es : List DictEntry} {tbl : List (Str × PyData)} : (∃ v, RelV v u ∧ ∀ H G, Den K H G (.p d) v) → KdEnts K es tbl → KdEnts K (⟨h, .str k t, u⟩ :: es) ((k, d) :: tbl)
structure KdIs (K : PySem.W.Frag) (mg : Str → Option Value) (w : World) (x : Str) (tbl : List (Str × PyData)) : Prop where
  ex : ∃ d es n, mg x = some (.ref d) ∧ KDict K w d es n ∧ KdEnts K es.toList tbl
def kdM (tbl : List (Str × PyData)) : D → M D := fun d S => match d with
  | .p (.str z) => (match tbl.lookup z with
    | some x => .ok (.p x) S
    | none => .bad)
  | _ => .bad
def kdInM (neg : Bool) (tbl : List (Str × PyData)) : D → M D := fun d S => match d with
  | .p (.str z) => .ok (.p (.bool (if neg then !(tbl.lookup z).isSome else (tbl.lookup z).isSome))) S
  | _ => .bad
theorem isStr_of (k z : Str) (t : Tok) : (Value.str k t).isStr z = (k == z) := rfl
theorem KdEnts.find {K : PySem.W.Frag} {z : Str} : ∀ {es : List DictEntry} {tbl : List (Str × PyData)}, KdEnts K es tbl →
    (∀ d, tbl.lookup z = some d → ∃ e v, es.find? (·.key.isStr z) = some e ∧ RelV v e.val ∧ ∀ H G, Den K H G (.p d) v) ∧ (tbl.lookup z = none → es.find? (·.key.isStr z) = none ∧ es.any (·.refKey) = false)
  | _, _, .nil => ⟨(fun d e => nomatch e), fun _ => ⟨rfl, rfl⟩⟩
  | _, _, .cons (k := k) (t := t) (u := u) (d := d0) (es := es) (tbl := tbl) hv r => by
    have ih := KdEnts.find (z := z) r
    by_cases c : z = k
    · subst c
      have e1 : ((z, d0) :: tbl).lookup z = some d0 := by simp
      rw [e1]
      refine ⟨fun d e => ?_, (fun e => nomatch e)⟩
      cases e
      obtain ⟨v, h1, h2⟩ := hv
      exact ⟨_, v, List.find?_cons_of_pos (by rw [isStr_of]; simp), h1, h2⟩
    · have e1 : ((k, d0) :: tbl).lookup z = tbl.lookup z := by
        rw [List.lookup_cons]
        have : (z == k) = false := by simp [c]
        rw [this]
      have c' : ¬ k = z := fun q => c q.symm
      have e2 : ∀ h, (⟨h, .str k t, u⟩ :: es : List DictEntry).find? (·.key.isStr z) = es.find? (·.key.isStr z) := fun h => List.find?_cons_of_neg (by rw [isStr_of]; simp [c'])
      rw [e1, e2]
      refine ⟨ih.1, fun e => ⟨(ih.2 e).1, ?_⟩⟩
      rw [List.any_cons, (ih.2 e).2]
      rfl
theorem kd_tup {K : PySem.W.Frag} {a : Addr} {o : Obj} {its : Array Value} {n : Nat} {ps : List (PyData × V)} {d : PyData} (l : K.lookup a = some o) (hc : o.cls = .type "tuple") (hs : o.data = .seq its n) (f : flats its.toList = some ps) (hz : its.size ≤ 1000) (hd : PyData.tuple (ps.map (·.1)) = d) :
    ∃ v, RelV v (.ref a) ∧ ∀ H G, Den K H G (.p d) v := by
  subst hd
  refine ⟨.ref a, rfl, fun H G => .tup (.inr ⟨o, its, n, l, hc, hs, Nat.le_of_lt (small1000 hz), ?_⟩) (flats_ok f).2⟩
  exact (flats_ok (K := K) (φ := []) (H := fun _ => none) f).1
section
variable {X : Cx} {W : WX} {x : Str} {p pos : Pos} {i : Expr} {f : FE} {tbl : List (Str × PyData)}
theorem kd_ns {d : Addr} {es : Array DictEntry} {n : Nat} {z : Str} (D : KDict X.K X.w d es n) (E : KdEnts X.K es.toList tbl) :
    (∀ y, tbl.lookup z = some y → ∃ u v, PySem.W.nsIn X.K d z = some (some u) ∧ RelV v u ∧ ∀ H G, Den X.K H G (.p y) v) ∧ (tbl.lookup z = none → PySem.W.nsIn X.K d z = some none) := by
  have q := E.find (z := z)
  refine ⟨fun y e => ?_, fun e => ?_⟩
  · obtain ⟨en, v, h1, h2, h3⟩ := q.1 y e
    exact ⟨en.val, v, by unfold PySem.W.nsIn; rw [D.at_]; simp only [h1], h2, h3⟩
  · obtain ⟨h1, h2⟩ := q.2 e
    unfold PySem.W.nsIn
    rw [D.at_]
    simp only [h1, h2, Bool.false_eq_true, if_false]
theorem de_kdGet (hg : Gl X x) (h : KdIs X.K X.mg X.w x tbl) (he : DE X W i f) (hs : PlainIx i := by exact fun _ _ => rfl) (hdb : (x == ("__debug__" : Str)) = false := by decide) : DE X W (.Subscript (.Name x p) i pos) (e1 (kdM tbl) f) := by
  obtain ⟨d, es, n, hm, D, E⟩ := h.ex
  refine ⟨PE.imp (pe_ix ix_kdict (pe_glob hg hm (v := .ref d) rfl hdb) he.run hs) fun σ H Q ⟨G, S, ρ, rs, rp, q⟩ => ?_⟩
  refine ⟨G, S, ρ, rs, rp, (Aft.bind q).mono fun a H1 G1 S1 x1 r1 q1 v dv => ?_⟩
  unfold kdM at q1
  split at q1
  · rename_i z
    obtain rfl := den_str dv
    split at q1
    · rename_i y ey
      obtain ⟨u, w, h1, h2, h3⟩ := (kd_ns (z := z) D E).1 y ey
      exact ⟨d, z, w, rfl, rfl, ⟨es, n, u, D.at_, D.lit, h1, h2⟩, q1.ret r1 (h3 H1 G1)⟩
    · exact q1.elim
  · exact q1.elim
theorem de_kdIn (hg : Gl X x) (h : KdIs X.K X.mg X.w x tbl) (he : DE X W i f) (hm' : behindInMarks .In (.Name x p) = false := by rfl) (hdb : (x == ("__debug__" : Str)) = false := by decide) : DE X W (.Compare i [.In] [.Name x p] pos) (e1 (kdInM false tbl) f) := by
  obtain ⟨d, es, n, hm, D, E⟩ := h.ex
  refine ⟨PE.imp (pe_cmpR (op_in_kd D) he.run (pe_glob hg hm (v := .ref d) rfl hdb) hm') fun σ H Q ⟨G, S, ρ, rs, rp, q⟩ => ?_⟩
  refine ⟨G, S, ρ, rs, rp, (Aft.bind q).mono fun a H1 G1 S1 x1 r1 q1 v dv => ?_⟩
  unfold kdInM at q1
  split at q1
  · rename_i z
    obtain rfl := den_str dv
    cases e : tbl.lookup z with
    | none => rw [e] at q1; exact ⟨z, none, rfl, rfl, (kd_ns (z := z) D E).2 e, q1.ret r1 (.bl _)⟩
    | some y =>
      rw [e] at q1
      obtain ⟨u, w, h1, h2, h3⟩ := (kd_ns (z := z) D E).1 y e
      exact ⟨z, some u, rfl, rfl, h1, q1.ret r1 (.bl _)⟩
  · exact q1.elim
theorem de_kdNotIn (hg : Gl X x) (h : KdIs X.K X.mg X.w x tbl) (he : DE X W i f) (hm' : behindInMarks .NotIn (.Name x p) = false := by rfl) (hdb : (x == ("__debug__" : Str)) = false := by decide) : DE X W (.Compare i [.NotIn] [.Name x p] pos) (e1 (kdInM true tbl) f) := by
  obtain ⟨d, es, n, hm, D, E⟩ := h.ex
  refine ⟨PE.imp (pe_cmpR (op_notIn_kd D) he.run (pe_glob hg hm (v := .ref d) rfl hdb) hm') fun σ H Q ⟨G, S, ρ, rs, rp, q⟩ => ?_⟩
  refine ⟨G, S, ρ, rs, rp, (Aft.bind q).mono fun a H1 G1 S1 x1 r1 q1 v dv => ?_⟩
  unfold kdInM at q1
  split at q1
  · rename_i z
    obtain rfl := den_str dv
    cases e : tbl.lookup z with
    | none => rw [e] at q1; exact ⟨z, none, rfl, rfl, (kd_ns (z := z) D E).2 e, q1.ret r1 (.bl _)⟩
    | some y =>
      rw [e] at q1
      obtain ⟨u, w, h1, h2, h3⟩ := (kd_ns (z := z) D E).1 y e
      exact ⟨z, some u, rfl, rfl, h1, q1.ret r1 (.bl _)⟩
  · exact q1.elim
def tKd (neg : Bool) (tbl : List (Str × PyData)) (f : FE) : FT := fun ρ S => (f ρ S).bind fun d S1 => match d with
  | .p (.str z) => .ok (if neg then !(tbl.lookup z).isSome else (tbl.lookup z).isSome) S1
  | _ => .bad
theorem dt_kdIn (hg : Gl X x) (h : KdIs X.K X.mg X.w x tbl) (he : DE X W i f) (hm' : behindInMarks .In (.Name x p) = false := by rfl) (hdb : (x == ("__debug__" : Str)) = false := by decide) : DT X W (.Compare i [.In] [.Name x p] pos) (tKd false tbl f) := by
  obtain ⟨d, es, n, hm, D, E⟩ := h.ex
  refine ⟨PT.imp (pt_cmpR (op_in_kd D) he.run (pe_glob hg hm (v := .ref d) rfl hdb) hm') fun σ H Q ⟨G, S, ρ, rs, rp, q⟩ => ?_⟩
  refine ⟨G, S, ρ, rs, rp, (Aft.bind q).mono fun a H1 G1 S1 x1 r1 q1 v dv => ?_⟩
  split at q1
  · rename_i z
    obtain rfl := den_str dv
    cases e : tbl.lookup z with
    | none => rw [e] at q1; exact ⟨z, none, rfl, rfl, (kd_ns (z := z) D E).2 e, _, rfl, q1 H1 G1 Ext.refl r1⟩
    | some y =>
      rw [e] at q1
      obtain ⟨u, w, h1, h2, h3⟩ := (kd_ns (z := z) D E).1 y e
      exact ⟨z, some u, rfl, rfl, h1, _, rfl, q1 H1 G1 Ext.refl r1⟩
  · exact q1.elim
theorem dt_kdNotIn (hg : Gl X x) (h : KdIs X.K X.mg X.w x tbl) (he : DE X W i f) (hm' : behindInMarks .NotIn (.Name x p) = false := by rfl) (hdb : (x == ("__debug__" : Str)) = false := by decide) : DT X W (.Compare i [.NotIn] [.Name x p] pos) (tKd true tbl f) := by
  obtain ⟨d, es, n, hm, D, E⟩ := h.ex
  refine ⟨PT.imp (pt_cmpR (op_notIn_kd D) he.run (pe_glob hg hm (v := .ref d) rfl hdb) hm') fun σ H Q ⟨G, S, ρ, rs, rp, q⟩ => ?_⟩
  refine ⟨G, S, ρ, rs, rp, (Aft.bind q).mono fun a H1 G1 S1 x1 r1 q1 v dv => ?_⟩
  split at q1
  · rename_i z
    obtain rfl := den_str dv
    cases e : tbl.lookup z with
    | none => rw [e] at q1; exact ⟨z, none, rfl, rfl, (kd_ns (z := z) D E).2 e, _, rfl, q1 H1 G1 Ext.refl r1⟩
    | some y =>
      rw [e] at q1
      obtain ⟨u, w, h1, h2, h3⟩ := (kd_ns (z := z) D E).1 y e
      exact ⟨z, some u, rfl, rfl, h1, _, rfl, q1 H1 G1 Ext.refl r1⟩
  · exact q1.elim
end

def max2M : List D → M D := fun ds S => match ds with
  | [.p (.int i), .p (.int j)] => .ok (.p (.int (if j > i then j else i))) S
  | _ => .bad
def min2M : List D → M D := fun ds S => match ds with
  | [.p (.int i), .p (.int j)] => .ok (.p (.int (if j < i then j else i))) S
  | _ => .bad
def intTM : List D → M D := fun ds S => match ds with
  | [.p (.str z)] => if z.length ≤ 640 then (match PySem.intText? z with
    | some n => .ok (.p (.int n)) S
    | none => .bad) else .bad
  | ds => intM ds S
section
variable {X : Cx} {W : WX} {e e' : Expr} {fa : FA} {p pos : Pos}
theorem de_max2 (hc : X.calm = true) (hg : Gl X "max") (hm : X.mg "max" = none) (ha : DA X W [e, e'] fa) (he : starEach [e, e'] X.env = (false, eval e X.env) :: starEach [e'] X.env := by rfl) (hpl : (backTo pos (starEach [e'] X.env)).any (·.1) = false := by rfl) : DE X W (.Call (.Name "max" p) [e, e'] [] pos) (eA max2M fa) :=
  de_callB (call_max2 hc) (fun W σ H G S ds vs Q rp dv q => by
    unfold max2M at q
    split at q
    · rename_i i j
      obtain ⟨u, v, rfl, d1, d2⟩ := denL2 dv
      obtain rfl := den_int d1
      obtain rfl := den_int d2
      exact ⟨i, j, rfl, q.ret rp (.int _)⟩
    · exact q.elim) hg hm rfl ha (he := he) (hpl := hpl)
theorem de_min2 (hc : X.calm = true) (hg : Gl X "min") (hm : X.mg "min" = none) (ha : DA X W [e, e'] fa) (he : starEach [e, e'] X.env = (false, eval e X.env) :: starEach [e'] X.env := by rfl) (hpl : (backTo pos (starEach [e'] X.env)).any (·.1) = false := by rfl) : DE X W (.Call (.Name "min" p) [e, e'] [] pos) (eA min2M fa) :=
  de_callB (call_min2 hc) (fun W σ H G S ds vs Q rp dv q => by
    unfold min2M at q
    split at q
    · rename_i i j
      obtain ⟨u, v, rfl, d1, d2⟩ := denL2 dv
      obtain rfl := den_int d1
      obtain rfl := den_int d2
      exact ⟨i, j, rfl, q.ret rp (.int _)⟩
    · exact q.elim) hg hm rfl ha (he := he) (hpl := hpl)
theorem de_intT (hg : Gl X "int") (hm : X.mg "int" = none) (ha : DA X W [e] fa) (he : starEach [e] X.env = (false, eval e X.env) :: starEach [] X.env := by rfl) : DE X W (.Call (.Name "int" p) [e] [] pos) (eA intTM fa) :=
  de_callTy (T := "int") (r := fun xs H Q => ((∃ i, xs = [.int i] ∧ Q (.int i) H) ∨ ∃ k, xs = [.bl k] ∧ Q (.int (if k then 1 else 0)) H) ∨ ∃ a n, xs = [.str a] ∧ PySem.intText? a = some n ∧ a.length ≤ 640 ∧ Q (.int n) H) (by
    intro pins s σ H xs us Q I r h
    rcases h with h | h
    · exact call_int1 pins s σ H xs us Q I r h
    · exact call_int_str pins s σ H xs us Q I r h) (by
    intro W σ H G S xs vs Q rp dv q
    unfold intTM at q
    split at q
    · rename_i z
      obtain ⟨v, rfl, dv1⟩ := denL1 dv
      obtain rfl := den_str dv1
      by_cases c : z.length ≤ 640
      · rw [if_pos c] at q
        split at q
        · rename_i n en
          exact .inr ⟨z, n, rfl, en, c, q.ret rp (.int _)⟩
        · exact q.elim
      · rw [if_neg c] at q; exact q.elim
    · unfold intM at q
      split at q
      · obtain ⟨v, rfl, dv1⟩ := denL1 dv
        rw [den_int dv1]
        exact .inl (.inl ⟨_, rfl, q.ret rp (.int _)⟩)
      · obtain ⟨v, rfl, dv1⟩ := denL1 dv
        rw [den_bool dv1]
        exact .inl (.inr ⟨_, rfl, q.ret rp (.int _)⟩)
      · exact q.elim) hg hm (by decide +kernel) ha (by decide) (by decide) he
end
end DL

namespace DL
open PySem L2

section
variable {ρ : Ev} {S : Sto} {f g h : FE} {fa : FA} {n : Nat} {Q : D → Sto → Prop} {X : Exn → Sto → Prop}
@[simp] theorem eCallX_ {m : List D → M D} : eCallX n m fa ρ S = (fa ρ S).bind fun ds S1 => if ds.length = n then cutX S1.length (m ds S1) else .bad := rfl
@[simp] theorem cutX_p {x : PyData} : cutX n (.ok (.p x) S) = .ok (.p x) (S.take n) := rfl
@[simp] theorem cutX_err {x : Exn} : cutX n (.err x S) = .err x (S.take n) := rfl
theorem cutX_len {x : PyData} : cutX S.length (.ok (.p x) S) = .ok (.p x) S := by simp
theorem cutX_same {x : PyData} {S' : Sto} (h : S'.length = S.length) : cutX S.length (.ok (.p x) S') = .ok (.p x) S' := by rw [← h]; simp
theorem wp_cutX {o : Out D} (h : wp o (fun d s => ∃ x, d = .p x ∧ Q (.p x) (s.take n)) (fun x s => X x (s.take n))) : wp (cutX n o) Q X := by
  cases o with
  | ok d s =>
    obtain ⟨x, rfl, q⟩ := h
    exact q
  | err x s => exact h
  | bad => exact h
/-- a def's end where the store keeps its length -/
theorem wp_cutXS {o : Out D} (h : wp o (fun d s => s.length = n ∧ Q d s) (fun x s => s.length = n ∧ X x s)) : wp (cutX n o) Q X := by
  cases o with
  | ok d s =>
    obtain ⟨rfl, q⟩ := h
    cases d with
    | ob i =>
      show wp (if i < s.length then Out.ok (D.ob i) (s.take s.length) else .ok (.ob i) s) Q X
      rw [List.take_of_length_le (Nat.le_refl _)]
      split <;> exact q
    | p x => show Q _ (s.take s.length); rw [List.take_of_length_le (Nat.le_refl _)]; exact q
    | ro x => show Q _ (s.take s.length); rw [List.take_of_length_le (Nat.le_refl _)]; exact q
    | ext x => show Q _ (s.take s.length); rw [List.take_of_length_le (Nat.le_refl _)]; exact q
  | err x s =>
    obtain ⟨rfl, q⟩ := h
    show X x (s.take s.length)
    rw [List.take_of_length_le (Nat.le_refl _)]; exact q
  | bad => exact h
/-- a call that leaves the store -/
theorem wp_callP {o : Out D} {x : PyData} (e : o = .ok (.p x) S) (h : Q (.p x) S) : wp (cutX S.length o) Q X := by rw [e, cutX_len]; exact h
@[simp] theorem eqZ_s {neg : Bool} {a b : Str} : opEqZ neg (.p (.str a)) (.p (.str b)) S = .ok (.p (.bool (if neg then !(a == b) else (a == b)))) S := rfl
@[simp] theorem eqZ_i {neg : Bool} {a b : Int} : opEqZ neg (.p (.int a)) (.p (.int b)) S = .ok (.p (.bool (if neg then !(a == b) else (a == b)))) S := rfl
@[simp] theorem eqZ_b {neg : Bool} {a b : Bool} : opEqZ neg (.p (.bool a)) (.p (.bool b)) S = .ok (.p (.bool (if neg then !(a == b) else (a == b)))) S := rfl
@[simp] theorem eqZ_t0 {neg : Bool} {xs : List PyData} : opEqZ neg (.p (.tuple xs)) (.p (.tuple [])) S = .ok (.p (.bool (if neg then !xs.isEmpty else xs.isEmpty))) S := rfl
theorem eqZ_t {neg : Bool} {xs ys : List PyData} : opEqZ neg (.p (.tuple xs)) (.p (.tuple ys)) S = opEqX neg (.p (.tuple xs)) (.p (.tuple ys)) S := rfl
theorem eqZ_l {neg : Bool} {xs ys : List PyData} : opEqZ neg (.p (.list xs)) (.p (.list ys)) S = opEqX neg (.p (.list xs)) (.p (.list ys)) S := rfl
@[simp] theorem sMatch_ {arms : List (Arm × FS)} : sMatch f arms ρ S = (f ρ S).st ρ fun d S1 => match d with
  | .p (.str x) => armGo x arms ρ S1
  | _ => none := rfl
@[simp] theorem armGo_nil {x : Str} : armGo x [] ρ S = some (.next ρ, S) := rfl
theorem armGo_cons {x : Str} {a : Arm} {b : FS} {r : List (Arm × FS)} : armGo x ((a, b) :: r) = if armB x a then b else armGo x r := rfl
theorem armGo_yes {x : Str} {a : Arm} {b : FS} {r : List (Arm × FS)} (h : armB x a = true) : armGo x ((a, b) :: r) ρ S = b ρ S := by rw [armGo_cons, if_pos h]
theorem armGo_no {x : Str} {a : Arm} {b : FS} {r : List (Arm × FS)} (h : armB x a = false) : armGo x ((a, b) :: r) ρ S = armGo x r ρ S := by rw [armGo_cons, if_neg (by rw [h]; simp)]
@[simp] theorem eIce_ : eIce f ρ S = (f ρ S).bind fun d S1 => .ok (iceD d S1).1 (iceD d S1).2 := rfl
@[simp] theorem iceD_p {x : PyData} : iceD (.p x) S = (.p x, S) := rfl
theorem iceD_l {i : Nat} {xs : List PyData} (h : S[i]? = some (.lst xs)) : iceD (.ob i) S = (.p (.list xs), S.set i .dead) := by simp [iceD, h]
theorem iceD_d {i : Nat} {kvs : List (Key × PyData)} (h : S[i]? = some (.dic kvs)) : iceD (.ob i) S = (.p (.dict (pyKv kvs)), S.set i .dead) := by simp [iceD, h]
@[simp] theorem max2_ {i j : Int} : max2M [.p (.int i), .p (.int j)] S = .ok (.p (.int (if j > i then j else i))) S := rfl
@[simp] theorem min2_ {i j : Int} : min2M [.p (.int i), .p (.int j)] S = .ok (.p (.int (if j < i then j else i))) S := rfl
@[simp] theorem mkLstM0 : mkLstM [] S = .ok (.ob S.length) (S ++ [.lst []]) := rfl
@[simp] theorem iA_ {m : List D → M (List D)} : iA m fa ρ S = (fa ρ S).bind m := rfl
end
section
variable {c : DrC} {cs : List PyData} {i L : Nat} {n m : Int} {S : Sto} {Q : D → Sto → Prop} {X : Exn → Sto → Prop}
theorem drawX_wp (hc0 : c.ok) (hc : Cells cs) (h : Tape cs i L n S) (hn : n ≤ 1000000000000) (hm : 0 < m) (hm2 : m.natAbs.log2 < 9000)
    (q : ∀ g S', 0 ≤ g → g < m → Tape cs i L (n + 1) S' → Q (.p (.int g)) S') : wp (cutX S.length (runF 6 (drawB2 c) [.ob i, .p (.int m)] S)) Q X := by
  obtain ⟨g, S', e, a, b, c⟩ := draw2_ok hc0 hc h hn hm hm2
  rw [e, cutX_same (c.1.trans h.1.symm)]
  exact q g S' a b c
def pickBX (dr : List D → M D) : FS := (sRet (e2 opSubs (eVar 1) (eCallX 2 dr (aCons (eVar 0) (aCons (eA lenM (aCons (eVar 1) aNil)) aNil)))))
theorem pickX_wp (hc0 : c.ok) {xs : List PyData} (hc : Cells cs) (h : Tape cs i L n S) (hn : n ≤ 1000000000000) (hx : xs ≠ []) (hx2 : xs.length < 1000000)
    (q : ∀ d S', d ∈ xs → Tape cs i L (n + 1) S' → Q (.p d) S') : wp (cutX S.length (runF 2 (pickBX (runF 6 (drawB2 c))) [.ob i, .p (.list xs)] S)) Q X := by
  have hl : 0 < xs.length := List.length_pos_iff.mpr hx
  refine wp_cutXS ?_
  rw [wp_run]
  show wpS (pickBX (runF 6 (drawB2 c)) [some (.ob i), some (.p (.list xs))] S) _
  unfold pickBX
  simp
  refine drawX_wp hc0 hc h hn (by omega) (by
    have := lg (n := ((xs.length : Int)).natAbs) (k := 40) (by have : (2 : Nat) ^ 40 = 1099511627776 := by decide
                                                               omega) (by decide)
    omega) fun g S' g0 g1 t => ?_
  obtain ⟨d, e2, hd⟩ := atI_ok g0 g1
  simp [subs_l e2]
  exact ⟨t.1.trans h.1.symm, q d S' hd t⟩
end
end DL

namespace DL
open PySem L2 PySem.Spec PyProof.Rows

set_option maxHeartbeats 1000000 in
theorem meets_enum1 {v : Value} {o : Obj} {H : Heap → Prop} (B : Begins v o H) :
    Meets (Builtin.«enumerate.__new__» ⟨[.type "enumerate", v], []⟩) (fun _ R s => H s.heap ∧
      R (.ok (.ret (.ref (s.heap.push o).objs.size))) { s with heap := (s.heap.push o).push { cls := .type "enumerate", data := .fields #[.none, .bool false, .ref s.heap.objs.size, rawInt 0, .none, .none] } }) :=
  .of_wp fun prog w A R s h => by
    obtain ⟨hp, g, d, tk, os⟩ := s; obtain ⟨h1, h⟩ := h
    have hsub := sub_enumerate
    have q1 : ∀ {A' : Around} {E : Value → Shared → Prop} {Q : Value → Shared → Prop}, Q (.ref hp.objs.size) ⟨hp.push o, g, d, tk, os⟩ → wpAny (model prog w) A' (pyIter v) Q E ⟨hp, g, d, tk, os⟩ :=
      fun q => B.iter prog w _ _ ⟨hp, g, d, tk, os⟩ _ h1 q
    wp_walk using q1
    refine wpAny_stack_any fun st => wpAny_pure ?_
    split
    · rename_i c _ _ _ _ _
      cases (c == Value.type "enumerate")
      · wp_walk using q1
        exact ⟨_, rfl, h⟩
      · wp_walk using q1
        exact ⟨_, rfl, h⟩
    · wp_walk using q1
      exact ⟨_, rfl, h⟩
theorem enum_begins1 {prog : Program} {w : World} {A : Around} {E : Value → Shared → Prop} {s : Shared} {v : Value} {o : Obj} {H : Heap → Prop} {Q : Value → Shared → Prop} (B : Begins v o H) (h1 : H s.heap)
    (h : ∀ h', IsEnum h' (s.heap.objs.size + 1) s.heap.objs.size 0 .none → h'.get? s.heap.objs.size = some o → h'.objs.size = s.heap.objs.size + 2 →
      (∀ b o, s.heap.get? b = some o → h'.get? b = some o) → Q (.ref (s.heap.objs.size + 1)) { s with heap := h' }) :
    wpAny (model prog w) A (call (.type "enumerate") [v]) Q E s := by
  refine callType_new F.called_enumerate (by decide) (F.typeCall_enumerate_1 _) (F.newCall_enumerate_1 _) (fun obj => F.args_object_init_2 obj _) F.entry_enumerate_new (meets_enum1 B) ⟨h1, ?_⟩
  have hz : (s.heap.push o).objs.size = s.heap.objs.size + 1 := Heap.size_push ..
  show _ ∧ _
  rw [hz]
  have he : IsEnum ((s.heap.push o).push { cls := .type "enumerate", data := .fields #[.none, .bool false, .ref s.heap.objs.size, rawInt 0, .none, .none] }) (s.heap.objs.size + 1) s.heap.objs.size 0 .none := by
    have := Heap.get?_push_size (s.heap.push o) (o := { cls := .type "enumerate", data := .fields #[.none, .bool false, .ref s.heap.objs.size, rawInt 0, .none, .none] }) rfl
    rw [hz] at this; exact this
  refine ⟨⟨_, he, rfl⟩, h _ he (Heap.get?_push_of_some _ (Heap.get?_push_size _ B.free)) (by rw [Heap.size_push, hz]) fun b o x => Heap.get?_push_of_some _ (Heap.get?_push_of_some _ x)⟩
/-- the tuple at a, each item in a new pair -/
def IteT (K : PySem.W.Frag) (a : Addr) : It :=
  ⟨fun i H => ∃ (xs : List V) (x : V), SqT K H a xs ∧ xs[i]? = some x, fun i H v H' => ∃ T x, v = .ref T ∧ H T = none ∧ H' = upd H T (.tup [.int (i : Nat), x]) ∧ ∀ xs, SqT K H a xs → xs[i]? = some x, fun i H => ∃ xs : List V, SqT K H a xs ∧ xs.length = i⟩
theorem turn_enumT {P : Program} {w : World} {K : PySem.W.Frag} {elts : List Expr} {kk : Nat} {tpos : Pos} (a e it : Addr) :
    Turn P w K (.Tuple elts kk tpos) (IteT K a) [e, it] e (fun i h => (∃ old, IsEnum h e it ((i : Nat) : Int) old) ∧ h.IsTupleIter it a i ∧ e ≠ it ∧ e ≠ a ∧ it ≠ a) where
  mem := by simp
  obj := fun i h st b hb => by
    obtain ⟨⟨old, he⟩, ⟨o, ho, hc, hd⟩, _⟩ := st
    have e' : b = e ∨ b = it := by simpa using hb
    rcases e' with z | z
    · rw [z]; exact ⟨_, he, fun v q => nomatch q⟩
    · rw [z]; exact ⟨o, ho, fun v q => by rw [hd] at q; cases q⟩
  keep := fun i h h' st k => let ⟨⟨old, he⟩, hi, hne⟩ := st; ⟨⟨old, k e (by simp) _ he⟩, hi.at fun o q => k it (by simp) o q, hne⟩
  item := by
    intro X hP hw hK hc i pins s σ H E I hf st hg
    subst hP hw hK
    obtain ⟨⟨old, he⟩, hit, hne, hea, hia⟩ := st
    obtain ⟨xs, x, hq, hx⟩ := hg
    obtain ⟨its, rv, p, hz⟩ := I.tuple hq
    obtain ⟨u, hu, ru⟩ := rv.get hx
    have hel : e < s.heap.objs.size := Heap.lt_size he
    have hil : it < s.heap.objs.size := by obtain ⟨_, q, _⟩ := hit; exact Heap.lt_size q
    have hlt : i < its.toArray.size := by
      have := (List.getElem?_eq_some_iff.mp hu).1
      simpa using this
    refine wpAny_pyNext_enum_itemC (Draws.tuple (prog := X.prog) (w := X.w) (A := X.A.in1) (I.ok.hd hc) it a (Ne.symm hia) its.toArray) he ⟨hit, p⟩ hlt hne (by simp [hne, hea]) fun u' h' tk hP ho hst' hT hsz hk => ?_
    have eu : u' = u := by
      have h2 : its.toArray[i]? = some u := by simpa using hu
      rw [h2] at hP; cases hP; rfl
    subst eu
    refine ⟨_, rfl, wpAny_letOwnedTupleGo_enum (s := { s with heap := h', toks := tk + 1 }) ho fun h'' he' sb => ?_⟩
    have hT2 : h''.get? s.heap.objs.size = some { cls := .type "tuple", data := .seq #[.int i tk, u'] } := (sb.2 _ (Nat.ne_of_gt hel)).trans hT
    have new : ObjOk X.prog X.w (upd H s.heap.objs.size (.tup [.int (i : Nat), x])) h'' s.heap.objs.size (.tup [.int (i : Nat), x]) :=
      ⟨by show 2 ≤ sizeLine; decide, [.int i tk, u'], .cons ⟨_, rfl⟩ (.cons ru .nil), ⟨_, hT2, rfl, _, rfl⟩⟩
    have I1 : L2.Inv X pins σ (upd H s.heap.objs.size (.tup [.int (i : Nat), x])) { s with heap := h'', toks := tk + 1 } :=
      I.turnedNew (ch := [e, it]) (fun b ob hb q => (sb.2 b (fun z => hb (by simp [z]))).trans (hk b ob (fun z => hb (by simp [z])) (fun z => hb (by simp [z])) q)) hf (Nat.le_refl _) new
    refine ⟨.ref s.heap.objs.size, _, I1, rfl, ⟨_, x, rfl, I.hok.fresh (Nat.le_refl _), rfl, fun ys hy => by rw [I.tuple_inj hy hq]; exact hx⟩, ⟨⟨u', ?_⟩, hst'.1.at fun o q => (sb.2 it (Ne.symm hne)).trans q, hne, hea, hia⟩, fun b hb => ?_⟩
    · have e1 : ((i + 1 : Nat) : Int) = (i : Int) + 1 := by omega
      rw [e1]; exact he'
    · have hb' : b < s.heap.objs.size := by
        have e' : b = e ∨ b = it := by simpa using hb
        rcases e' with z | z
        · rw [z]; exact hel
        · rw [z]; exact hil
      rw [upd_ne (Nat.ne_of_lt hb')]
      exact (hf b hb).1
  done := by
    intro X hP hw hK hc i pins s σ H E I hf st hg
    subst hP hw hK
    obtain ⟨⟨old, he⟩, hit, hne, hea, hia⟩ := st
    obtain ⟨xs, hq, hx⟩ := hg
    obtain ⟨its, rv, p, hz⟩ := I.tuple hq
    obtain ⟨f0, f1, f2, f3, f4, f5⟩ := hf it (by simp)
    have hl := rv.length
    have hi : i = its.toArray.size := by simp; omega
    subst hi
    exact wpAny_pyNext_enum_endD (Draws.tuple (prog := X.prog) (w := X.w) (A := X.A.in1) (I.ok.hd hc) it a (Ne.symm hia) its.toArray) he ⟨hit, p⟩ fun h' eb => ⟨rfl, I.turned (t' := s.toks) (fun b o hb q => eb b o hb q) f0 f1 f3 f4 f5⟩
  self := fun A i s Q E st h => let ⟨⟨_, he⟩, _⟩ := st; wpAny_pyIter_enum he h
def iEnumX (K : PySem.W.Frag) (ta : TA) : TI := fun σ H R => ta σ H fun vs H1 => ∃ a xs, vs = [.ref a] ∧ ((SqT K H1 a xs ∧ R (IteT K a) H1) ∨ (SqL K H1 a xs ∧ R (Ite K a) H1))
theorem pi_enumX {X : Cx} {e : Expr} {ta : TA} {p pos tpos : Pos} {elts : List Expr} {kk : Nat} (hg : Gl X "enumerate") (hm : X.mg "enumerate" = none) (ha : PA X [e] ta) (hs : starEach [e] X.env = [(false, eval e X.env)] := by rfl) :
    PI X (.Tuple elts kk tpos) (.Call (.Name "enumerate" p) [e] [] pos) (iEnumX X.K ta) := by
  refine ⟨fun pins s σ H R I h => ?_⟩
  refine Call_ (ld_blt I hg hm boot_enumerate (PyProof.Rows.callWith_type1 (thn (ha.run pos pins s σ H _ I h) fun us s1 ⟨vs, H1, I1, r1, q1⟩ => ?_) hs rfl))
  obtain ⟨a, xs, ex, q⟩ := q1
  subst ex
  cases r1 with
  | cons r rr =>
    cases rr
    cases r
    have fp : ∀ b ∈ [s1.heap.objs.size + 1, s1.heap.objs.size], FpOk X pins H1 b := fun b hb => by
      have e' : b = s1.heap.objs.size + 1 ∨ b = s1.heap.objs.size := by simpa using hb
      have hle : s1.heap.objs.size ≤ b := by
        rcases e' with z | z
        · rw [z]; exact Nat.le_add_right _ _
        · rw [z]; exact Nat.le_refl _
      exact I1.fpOk hle (I1.hok.fresh hle)
    rcases q with ⟨hq, q⟩ | ⟨hq, q⟩
    · obtain ⟨its, rv, p', hz⟩ := I1.tuple hq
      have hal : a < s1.heap.objs.size := by obtain ⟨_, q, _⟩ := p'; exact Heap.lt_size q
      refine enum_begins1 (begins_tuple a its.toArray) p' fun h' he hit hsz hk => wpAny_pyIter_enum he ?_
      have I2 : L2.Inv X pins σ H1 { s1 with heap := h' } := I1.kept (t' := s1.toks) hk
      exact ⟨s1.heap.objs.size + 1, [s1.heap.objs.size + 1, s1.heap.objs.size], _, _, H1, rfl, I2, turn_enumT a (s1.heap.objs.size + 1) s1.heap.objs.size, ⟨⟨.none, he⟩, ⟨_, hit, rfl, rfl⟩, Nat.succ_ne_self _, Nat.ne_of_gt (Nat.lt_succ_of_lt hal), Nat.ne_of_gt hal⟩, fp, q⟩
    · obtain ⟨its, rv, p', hz⟩ := I1.list hq
      refine call_enumerate_list p'.isList fun h' he hit hsz hk => wpAny_pyIter_enum he ?_
      have I2 : L2.Inv X pins σ H1 { s1 with heap := h' } := I1.kept (t' := s1.toks) hk
      exact ⟨s1.heap.objs.size + 1, [s1.heap.objs.size + 1, s1.heap.objs.size], _, _, H1, rfl, I2, turn_enum a (s1.heap.objs.size + 1) s1.heap.objs.size, ⟨⟨.none, he⟩, hit, Nat.succ_ne_self _⟩, fp, q⟩
theorem gives_enumT {K : PySem.W.Frag} {H : Hp} {G : Gh} {S : Sto} {a : Addr} {vs : List V} {xs : List PyData} (rp : Rep K H G S) (fa : SqT K H a vs) (ta : DnAll K G.φ H xs vs) : Gives K (IteT K a) H G S (enumP 0 xs) where
  go := fun H1 G1 S1 x r i hi => by
    rw [enumP_len, ta.length] at hi
    exact ⟨vs, vs[i], x.tup rp fa, by simp⟩
  yld := fun H1 G1 S1 x r i d e v H' y => by
    obtain ⟨T, u, rfl, hT, rfl, y1⟩ := y
    have e1 := y1 vs (x.tup rp fa)
    obtain ⟨d1, ed1, dn1⟩ := (x.dnAll rp ta).getV e1
    obtain ⟨x', h1, rfl⟩ := enumP_get 0 xs i d e
    rw [ed1] at h1; cases h1
    have e0 : ((0 + i : Nat) : Int) = (i : Int) := by rw [Nat.zero_add]
    rw [e0]
    obtain ⟨p1, p2, p3⟩ := pair_new r hT (Dn.int (i : Int)) dn1
    exact ⟨p1, p2, p3, .inr ⟨T, _, hT, rfl⟩⟩
  stop := fun H1 G1 S1 x r => by
    rw [enumP_len, ta.length]
    exact ⟨vs, x.tup rp fa, rfl⟩
def enumXM : List D → M (List D) := fun ds S => match ds with
  | [.p (.list xs)] => .ok (enumP 0 xs) S
  | [.p (.tuple xs)] => .ok (enumP 0 xs) S
  | _ => .bad
theorem di_enumX {X : Cx} {W : WX} {a : Expr} {p pos : Pos} {fa : FA} {tpos : Pos} {elts : List Expr} {kk : Nat} (hg : Gl X "enumerate") (hm : X.mg "enumerate" = none) (ha : DA X W [a] fa) (hs : starEach [a] X.env = [(false, eval a X.env)] := by rfl) :
    DI X W (.Tuple elts kk tpos) (.Call (.Name "enumerate" p) [a] [] pos) (iA enumXM fa) := by
  refine ⟨PI.imp (pi_enumX hg hm ha.run hs) fun σ H R ⟨G, S, ρ, rs, rp, q⟩ => ⟨G, S, ρ, rs, rp, (Aft.bind q).mono fun ds H1 G1 S1 x1 r1 q1 vs dv => ?_⟩⟩
  unfold enumXM at q1
  split at q1
  · obtain ⟨v, rfl, d1⟩ := denL1 dv
    obtain ⟨a, vs, rfl, fa, ta⟩ := den_lst d1
    exact ⟨a, vs, rfl, .inr ⟨SqL.of (fa _ r1.phi), q1 H1 G1 Ext.refl r1 _ (gives_enum r1 fa ta)⟩⟩
  · obtain ⟨v, rfl, d1⟩ := denL1 dv
    obtain ⟨a, vs, rfl, hq, ta⟩ := den_tup d1
    exact ⟨a, vs, rfl, .inl ⟨hq, q1 H1 G1 Ext.refl r1 _ (gives_enumT r1 hq ta)⟩⟩
  · exact q1.elim
@[simp] theorem enumXM_t {xs : List PyData} {S : Sto} : enumXM [.p (.tuple xs)] S = .ok (enumP 0 xs) S := rfl
@[simp] theorem enumXM_l {xs : List PyData} {S : Sto} : enumXM [.p (.list xs)] S = .ok (enumP 0 xs) S := rfl
end DL

namespace DL
open PySem L2

def opAddX : D → D → M D := fun x y S => match lstOf S x, lstOf S y with
  | some xs, some ys => if xs.length + ys.length ≤ LIM then .ok (.p (.list (xs ++ ys))) S else .bad
  | _, _ => opAdd x y S
theorem sim_addX {K : PySem.W.Frag} : Sim2 K (rAddD K) opAddX := by
  intro W σ H G S x y v w Q rp dx dy q
  unfold opAddX at q
  split at q
  · rename_i xs ys e1 e2
    obtain ⟨a, vs, rfl, ha, ta⟩ := lstOf_den rp e1 dx
    obtain ⟨b, ws, rfl, hb, tb⟩ := lstOf_den rp e2 dy
    by_cases c : xs.length + ys.length ≤ LIM
    · rw [if_pos c] at q
      exact .inr (.inr (.inl ⟨a, b, vs, ws, rfl, rfl, ha, hb, by rw [← ta.length, ← tb.length]; exact Nat.le_trans c LIM_le, fun p hp => q.newLst rp (ta.append tb) hp⟩))
    · rw [if_neg c] at q; exact q.elim
  · exact sim_add W σ H G S x y v w Q rp dx dy q
theorem de_addX {X : Cx} {W : WX} {a b : Expr} {f h : FE} {pos : Pos} (ha : DE X W a f) (hb : DE X W b h) : DE X W (.BinOp a .Add b pos) (e2 opAddX f h) :=
  de_bin (op_add.or (op_add_str.or (op_cat.or op_catA))) sim_addX ha hb
@[simp] theorem opAddX_i {i j : Int} {S : Sto} : opAddX (.p (.int i)) (.p (.int j)) S = .ok (.p (.int (i + j))) S := rfl
theorem addX_s {i j : Str} {S : Sto} (h : i.length + j.length ≤ LIM) : opAddX (.p (.str i)) (.p (.str j)) S = .ok (.p (.str (i ++ j))) S := add_s h
theorem addX_t {i j : List PyData} {S : Sto} (h : i.length + j.length ≤ LIM) : opAddX (.p (.tuple i)) (.p (.tuple j)) S = .ok (.p (.tuple (i ++ j))) S := add_t h
theorem addX_l {i j : List PyData} {S : Sto} (h : i.length + j.length ≤ LIM) : opAddX (.p (.list i)) (.p (.list j)) S = .ok (.p (.list (i ++ j))) S := by simp [opAddX, lstOf, h]
theorem addX_po {i : Nat} {xs ys : List PyData} {S : Sto} (h : S[i]? = some (.lst ys)) (hl : xs.length + ys.length ≤ LIM) : opAddX (.p (.list xs)) (.ob i) S = .ok (.p (.list (xs ++ ys))) S := by simp [opAddX, lstOf, h, hl]
theorem addX_op {i : Nat} {xs ys : List PyData} {S : Sto} (h : S[i]? = some (.lst ys)) (hl : ys.length + xs.length ≤ LIM) : opAddX (.ob i) (.p (.list xs)) S = .ok (.p (.list (ys ++ xs))) S := by simp [opAddX, lstOf, h, hl]

/-- but for the object i the store is as before -/
def Oth (i : Nat) (S S' : Sto) : Prop := ∀ j, j ≠ i → S'[j]? = S[j]?
theorem Oth.refl {i : Nat} {S : Sto} : Oth i S S := fun _ _ => rfl
theorem Oth.trans {i : Nat} {S S1 S2 : Sto} (a : Oth i S S1) (b : Oth i S1 S2) : Oth i S S2 := fun j hj => (b j hj).trans (a j hj)
section
variable {c : DrC} {cs : List PyData} {i L : Nat} {n m : Int} {S : Sto} {Q : D → Sto → Prop} {X : Exn → Sto → Prop}
theorem drawK_ok (hc0 : c.ok) (hc : Cells cs) (h : Tape cs i L n S) (hn : n ≤ 1000000000000) (hm : 0 < m) (hm2 : m.natAbs.log2 < 9000) :
    ∃ g S', runF 6 (drawB2 c) [.ob i, .p (.int m)] S = .ok (.p (.int g)) S' ∧ 0 ≤ g ∧ g < m ∧ Tape cs i L (n + 1) S' ∧ Oth i S S' := by
  obtain ⟨hl, p, l, h0, h1, hS⟩ := h
  obtain ⟨g, p', l', a, b, c', d, e⟩ := drawB2_ok hc0 hc.1 hc.2 hS h0 (by omega) hm hm2
  refine ⟨g, _, e, a, b, ⟨by rw [List.length_set]; exact hl, p', l', c', by omega, tp_at hS⟩, fun j hj => ?_⟩
  rw [List.getElem?_set_ne (Ne.symm hj)]
theorem drawK_wp (hc0 : c.ok) (hc : Cells cs) (h : Tape cs i L n S) (hn : n ≤ 1000000000000) (hm : 0 < m) (hm2 : m.natAbs.log2 < 9000)
    (q : ∀ g S', 0 ≤ g → g < m → Tape cs i L (n + 1) S' → Oth i S S' → Q (.p (.int g)) S') : wp (cutX S.length (runF 6 (drawB2 c) [.ob i, .p (.int m)] S)) Q X := by
  obtain ⟨g, S', e, a, b, c, o⟩ := drawK_ok hc0 hc h hn hm hm2
  rw [e, cutX_same (c.1.trans h.1.symm)]
  exact q g S' a b c o
theorem pickK_wp (hc0 : c.ok) {xs : List PyData} (hc : Cells cs) (h : Tape cs i L n S) (hn : n ≤ 1000000000000) (hx : xs ≠ []) (hx2 : xs.length < 1000000)
    (q : ∀ d S', d ∈ xs → Tape cs i L (n + 1) S' → Oth i S S' → Q (.p d) S') : wp (cutX S.length (runF 2 (pickBX (runF 6 (drawB2 c))) [.ob i, .p (.list xs)] S)) Q X := by
  have hl : 0 < xs.length := List.length_pos_iff.mpr hx
  refine wp_cutXS ?_
  rw [wp_run]
  show wpS (pickBX (runF 6 (drawB2 c)) [some (.ob i), some (.p (.list xs))] S) _
  unfold pickBX
  simp
  refine drawK_wp hc0 hc h hn (by omega) (by
    have := lg (n := ((xs.length : Int)).natAbs) (k := 40) (by have : (2 : Nat) ^ 40 = 1099511627776 := by decide
                                                               omega) (by decide)
    omega) fun g S' g0 g1 t o => ?_
  obtain ⟨d, e2, hd⟩ := atI_ok g0 g1
  simp [subs_l e2]
  exact ⟨t.1.trans h.1.symm, q d S' hd t o⟩
end
section
variable {ρ : Ev} {S : Sto} {i : Nat} {xs ys : List PyData} {y : PyData} {m : D → List D → M D} {f : FE} {fa : FA}
@[simp] theorem eLm_ : eLm m f fa ρ S = (f ρ S).bind fun o S1 => match rlOf S1 o with
  | some _ => (fa ρ S1).bind fun ds S2 => m o ds S2
  | none => .bad := rfl
theorem rlOf_ob (h : S[i]? = some (.lst xs)) : rlOf S (.ob i) = some xs := by simp [rlOf, h]
theorem lstOf_ob (h : S[i]? = some (.lst xs)) : lstOf S (.ob i) = some xs := by simp [lstOf, h]
theorem append_ok (h : S[i]? = some (.lst xs)) (hl : xs.length < 1000000) : appendM (.ob i) [.p y] S = .ok (.p .none) (S.set i (.lst (xs ++ [y]))) := by simp [appendM, h, LIM, hl]
theorem extend_ok (h : S[i]? = some (.lst xs)) (hl : xs.length + ys.length ≤ 1000000) : extendM (.ob i) [.p (.list ys)] S = .ok (.p .none) (S.set i (.lst (xs ++ ys))) := by simp [extendM, h, lstOf, LIM, hl]
theorem pop_ok (h : S[i]? = some (.lst (xs ++ [y]))) : popM (.ob i) [] S = .ok (.p y) (S.set i (.lst xs)) := by simp [popM, h]
theorem popAt_ok {k : Nat} (h : S[i]? = some (.lst xs)) (hk : k ≤ 1000000) (hy : xs[k]? = some y) : popM (.ob i) [.p (.int k)] S = .ok (.p y) (S.set i (.lst (xs.eraseIdx k))) := by
  have : (k : Int) ≤ 1000000 := by omega
  simp [popM, h, this, hy]
theorem set_at {o : MO} (h : i < S.length) : (S.set i o)[i]? = some o := by rw [List.getElem?_set_self h]
theorem set_ne {o : MO} {j : Nat} (h : j ≠ i) : (S.set i o)[j]? = S[j]? := List.getElem?_set_ne (Ne.symm h)
theorem Tape.set {cs : List PyData} {t L : Nat} {n : Int} {o : MO} (h : Tape cs t L n S) (hi : i ≠ t) : Tape cs t L n (S.set i o) := by
  obtain ⟨a, p, l, b, c, d⟩ := h
  exact ⟨by rw [List.length_set]; exact a, p, l, b, c, by rw [List.getElem?_set_ne hi]; exact d⟩
theorem Tape.app {cs : List PyData} {t L : Nat} {n : Int} {o : MO} (h : Tape cs t L n S) (ht : t < L) : Tape cs t (L + 1) n (S ++ [o]) := by
  obtain ⟨a, p, l, b, c, d⟩ := h
  exact ⟨by rw [List.length_append, a]; rfl, p, l, b, c, by rw [List.getElem?_append_left (by omega)]; exact d⟩
theorem Tape.cut {cs : List PyData} {t L L' : Nat} {n : Int} (h : Tape cs t L' n S) (ht : t < L) (hl : L ≤ L') : Tape cs t L n (S.take L) := by
  obtain ⟨a, p, l, b, c, d⟩ := h
  exact ⟨by rw [List.length_take, a]; omega, p, l, b, c, by rw [List.getElem?_take, if_pos ht]; exact d⟩
end
end DL

namespace DL
open PySem L2 PySem.Spec PyProof.Rows

/-- the zip at z, as it stands at any turn -/
abbrev IsZ (h : Heap) (z TI TO : Addr) (f0 : Value) (f : Bool) : Prop :=
  h.get? z = some { cls := .type "zip", dict := none, data := .fields #[f0, .bool f, .bool false, .ref TI, .ref TO], slots := #[] }
def ZSt (h : Heap) (z TI TO : Addr) : Prop := ∃ f0 f, IsZ h z TI TO f0 f ∧ (f0 = .none ∨ ∃ T : Addr, f0 = rawInt T)
section
variable {prog : Program} {w : World} {A : Around} {E : Value → Shared → Prop} {s : Shared} {z TI TO i1 i2 : Addr} {fp1 fp2 : List Addr} {n1 n2 i : Nat} {P1 P2 : Nat → Value → Prop} {St1 St2 : Nat → Heap → Prop} {a1 a2 : Value} {f0 : Value} {f : Bool}

theorem isFree_zip {Q : Bool → Shared → Prop} (hz : IsZ s.heap z TI TO f0 f) (hf : f0 = .none ∨ ∃ T : Addr, f0 = rawInt T) (h1 : Q true s)
    (h2 : ∀ h', IsZ h' z TI TO f0 true → Heap.SameBut z s.heap h' → Q false { s with heap := h' }) : wpAny (model prog w) A (Builtin.SmallTypes.ownedTupleIsFree (.ref z)) Q E s := by
  unfold Builtin.SmallTypes.ownedTupleIsFree
  refine wpAny_bind (wpAny_field hz rfl (x := f0) rfl ?_)
  rcases hf with rfl | ⟨T, rfl⟩
  · exact wpAny_pure h1
  · show wpAny _ _ (loadIfAlive ((T : Int).toNat) >>= _) _ _ _
    rw [Int.toNat_natCast]
    refine wpAny_bind ?_
    intro a b c
    revert a b c
    change wpAny (model prog w) A (loadIfAlive T) _ E s
    cases hT : s.heap.get? T with
    | none =>
      have : wpAny (model prog w) A (loadIfAlive T) (fun o s' => o = none ∧ s' = s) E s := fun _ _ _ => ⟨hT, rfl⟩
      refine wpAny_mono this (fun o s' ⟨e1, e2⟩ => ?_) (fun _ _ h => h)
      subst e1 e2
      exact wpAny_pure h1
    | some oT =>
      refine PySem.W.kdx_alive hT ?_
      simp only [Option.isNone_some, Bool.false_eq_true, if_false]
      refine wpAny_bind (wpAny_field hz rfl (x := .bool f) rfl ?_)
      cases f with
      | true =>
        rw [if_neg (show ¬ ((Value.bool true != Value.bool true) = true) from Bool.false_ne_true)]
        exact wpAny_pure (h2 s.heap hz (Heap.SameBut.refl _ _))
      | false =>
        rw [if_pos (show (Value.bool false != Value.bool true) = true from rfl)]
        exact wpAny_bind (wpAny_setField_rec hz (by simp) fun h₁ hz₁ hs₁ => wpAny_pure (h2 h₁ hz₁ hs₁))
theorem zipX_next_item {Q : Value → Shared → Prop} (S : ZipSep2 z TI TO i1 i2 fp1 fp2) (D1 : Draws prog w A i1 fp1 n1 P1 St1) (D2 : Draws prog w A i2 fp2 n2 P2 St2)
    (hzs : ZSt s.heap z TI TO) (hTI : IsTupOf2 s.heap TI (.ref i1) (.ref i2)) (hTO : IsTupOf2 s.heap TO a1 a2) (st1 : St1 i s.heap) (st2 : St2 i s.heap) (hlt1 : i < n1) (hlt2 : i < n2)
    (hQ : ∀ x1 x2 h' tk, P1 i x1 → P2 i x2 → ZSt h' z TI TO → (∃ b1 b2, IsTupOf2 h' TO b1 b2) → St1 (i + 1) h' → St2 (i + 1) h' → IsTupOf2 h' s.heap.objs.size x1 x2 → h'.objs.size = s.heap.objs.size + 1 →
      (∀ c o, c ≠ z → c ≠ TO → c ≠ i1 → c ≠ i2 → s.heap.get? c = some o → h'.get? c = some o) → Q (.ref s.heap.objs.size) { s with heap := h', toks := tk }) :
    wpAny (model prog w) A (Builtin.«zip.__next__» ⟨[.ref z], []⟩) (fun fin s' => ∃ v, fin = .done (.ret v) ∧ Q v s') E s := by
  obtain ⟨hp, g, d, tk0, os⟩ := s
  obtain ⟨f0, f, hz, hf⟩ := hzs
  show wpAny _ _ (field (.ref z) 2 >>= _) _ _ _
  refine wpAny_bind (wpAny_field hz rfl (x := .bool false) rfl ?_)
  show wpAny _ _ (field (.ref z) 3 >>= _) _ _ _
  refine wpAny_bind (wpAny_field hz rfl (x := .ref TI) rfl ?_)
  refine wpAny_bind (wpAny_seqItems hTI rfl ?_)
  show wpAny _ _ (Builtin.SmallTypes.ownedTupleIsFree (.ref z) >>= _) _ _ _
  refine wpAny_bind (isFree_zip hz hf ?_ fun h₁ hz₁ hs₁ => ?_)
  · simp only [if_true]
    refine wpAny_bind (wpAny_rule ?_)
    refine wpAny_bind (wpAny_field hz rfl (x := .ref TO) rfl ?_)
    refine wpAny_bind (wpAny_setField_rec hz (by simp) fun g0 hz0 hs0 => ?_)
    replace hz0 : IsZ g0 z TI TO .ellipsis f := hz0
    replace hs0 : Heap.SameBut z hp g0 := hs0
    refine wpAny_bind ?_
    simp only [List.zipIdx_cons, List.zipIdx_nil, List.forIn_cons, List.forIn_nil]
    refine wpAny_bind (wpAny_bind (wpAny_onRaise ?_))
    show wpAny _ _ (Builtin.SmallTypes.nextOf (.ref i1) >>= _) _ _ ⟨g0, g, d, tk0, os⟩
    refine wpAny_bind (D1.item i _ _ _ hlt1 (D1.over st1 hs0 S.zf1) fun x1 p1 tk1 hx1 sn1 hp1 => wpAny_pure ?_)
    replace hp1 : Heap.SameBut i1 g0 p1 := hp1
    have hU1 : IsTupOf2 p1 TO a1 a2 := hp1.extBut _ _ S.Ti1 (hs0.extBut _ _ S.TOz hTO)
    refine wpAny_bind (wpAny_seqItems (s := ⟨p1, g, d, tk1, os⟩) hU1 rfl ?_)
    refine wpAny_bind (updateSeq_IsTupOf2 (s := ⟨p1, g, d, tk1, os⟩) hU1 fun g1 hT1 hs1 => ?_)
    replace hT1 : IsTupOf2 g1 TO x1 a2 := hT1
    replace hs1 : Heap.SameBut TO p1 g1 := hs1
    refine wpAny_bind (wpAny_letGo (wpAny_pure ?_))
    refine wpAny_bind (wpAny_bind (wpAny_onRaise ?_))
    show wpAny _ _ (Builtin.SmallTypes.nextOf (.ref i2) >>= _) _ _ ⟨g1, g, d, tk1, os⟩
    refine wpAny_bind (D2.item i _ _ _ hlt2 (D2.over (D2.over (D2.over st2 hs0 S.zf2) hp1 S.sep1_2) hs1 S.Tf2) fun x2 p2 tk2 hx2 sn2 hp2 => wpAny_pure ?_)
    replace hp2 : Heap.SameBut i2 g1 p2 := hp2
    have hU2 : IsTupOf2 p2 TO x1 a2 := hp2.extBut _ _ S.Ti2 hT1
    refine wpAny_bind (wpAny_seqItems (s := ⟨p2, g, d, tk2, os⟩) hU2 rfl ?_)
    refine wpAny_bind (updateSeq_IsTupOf2 (s := ⟨p2, g, d, tk2, os⟩) hU2 fun g2 hT2 hs2 => ?_)
    replace hT2 : IsTupOf2 g2 TO x1 x2 := hT2
    replace hs2 : Heap.SameBut TO p2 g2 := hs2
    refine wpAny_bind (wpAny_letGo (wpAny_pure (wpAny_pure ?_)))
    refine wpAny_bind (wpAny_seqItems (s := ⟨g2, g, d, tk2, os⟩) hT2 rfl ?_)
    refine wpAny_bind (wpAny_newTuple ?_)
    have hsz : g2.objs.size = hp.objs.size := by rw [hs2.1, hp2.1, hs1.1, hp1.1, hs0.1]
    have hzz : IsZ g2 z TI TO .ellipsis f := (hs2.extBut _ _ S.TOz.symm (hp2.extBut _ _ S.zi2 (hs1.extBut _ _ S.TOz.symm (hp1.extBut _ _ S.zi1 hz0))))
    have hkk : ∀ c o, c ≠ z → c ≠ TO → c ≠ i1 → c ≠ i2 → hp.get? c = some o → g2.get? c = some o := fun c o cz cT c1 c2 e =>
      (hs2.extBut _ _ cT (hp2.extBut _ _ c2 (hs1.extBut _ _ cT (hp1.extBut _ _ c1 (hs0.extBut _ _ cz e)))))
    have hj1 : St1 (i + 1) g2 := (D1.over (D1.over (D1.over sn1 hs1 S.Tf1) hp2 S.sep2_1) hs2 S.Tf1)
    have hj2 : St2 (i + 1) g2 := (D2.over sn2 hs2 S.Tf2)
    have hzlt : z < g2.objs.size := Heap.lt_size hzz
    show wpAny _ _ (Builtin.SmallTypes.ownedTupleHandOut (.ref z) (.ref g2.objs.size) >>= _) _ _ ⟨g2.push { cls := .type "tuple", data := .seq #[x1, x2] }, g, d, tk2, os⟩
    refine wpAny_bind ?_
    unfold Builtin.SmallTypes.ownedTupleHandOut
    have hz₆ : IsZ (g2.push { cls := .type "tuple", data := .seq #[x1, x2] }) z TI TO .ellipsis f := Heap.get?_push_of_some _ hzz
    refine wpAny_bind (wpAny_setField_rec hz₆ (by simp) fun h₇ hz₇ hs₇ => ?_)
    replace hz₇ : IsZ h₇ z TI TO (rawInt g2.objs.size) f := hz₇
    refine wpAny_setField_rec hz₇ (by simp) fun h₈ hz₈ hs₈ => ?_
    replace hz₈ : IsZ h₈ z TI TO (rawInt g2.objs.size) false := hz₈
    replace hs₇ : Heap.SameBut z (g2.push { cls := .type "tuple", data := .seq #[x1, x2] }) h₇ := hs₇
    replace hs₈ : Heap.SameBut z h₇ h₈ := hs₈
    have up : ∀ c o, c ≠ z → g2.get? c = some o → h₈.get? c = some o := fun c o c1 e => hs₈.extBut _ _ c1 (hs₇.extBut _ _ c1 (Heap.get?_push_of_some _ e))
    have hT₈ : IsTupOf2 h₈ g2.objs.size x1 x2 := hs₈.extBut _ _ (Nat.ne_of_gt hzlt) (hs₇.extBut _ _ (Nat.ne_of_gt hzlt) (Heap.get?_push_size _ rfl))
    have hz8 : h₈.objs.size = g2.objs.size + 1 := by rw [hs₈.1, hs₇.1, Heap.size_push]
    rw [hsz] at hz₈ hT₈ hz8
    refine wpAny_pure ⟨_, rfl, ?_⟩
    show Q (.ref g2.objs.size) ⟨h₈, g, d, tk2, os⟩
    rw [hsz]
    exact hQ x1 x2 h₈ tk2 hx1 hx2 ⟨_, _, hz₈, .inr ⟨_, rfl⟩⟩ ⟨_, _, up _ _ S.TOz hT2⟩ (D1.frame _ _ _ hj1 fun b hb o e => up b o (fun q => S.zf1 (q ▸ hb)) e) (D2.frame _ _ _ hj2 fun b hb o e => up b o (fun q => S.zf2 (q ▸ hb)) e) hT₈ hz8 fun c o cz cT c1 c2 e => up c o cz (hkk c o cz cT c1 c2 e)
  · replace hs₁ : Heap.SameBut z hp h₁ := hs₁
    simp only [Bool.false_eq_true, if_false]
    refine wpAny_bind ?_
    rw [← Array.forIn_toList]
    simp only [List.forIn_cons, List.forIn_nil]
    refine wpAny_bind (wpAny_bind (wpAny_holding ?_))
    show wpAny _ _ (Builtin.SmallTypes.nextOf (.ref i1) >>= _) _ _ ⟨h₁, g, d, tk0, os⟩
    refine wpAny_bind (D1.item i _ _ _ hlt1 (D1.over st1 hs₁ S.zf1) fun x1 p1 tk1 hx1 sn1 hp1 => wpAny_pure ?_)
    replace hp1 : Heap.SameBut i1 h₁ p1 := hp1
    refine wpAny_pure ?_
    refine wpAny_bind (wpAny_bind (wpAny_holding ?_))
    show wpAny _ _ (Builtin.SmallTypes.nextOf (.ref i2) >>= _) _ _ ⟨p1, g, d, tk1, os⟩
    refine wpAny_bind (D2.item i _ _ _ hlt2 (D2.over (D2.over st2 hs₁ S.zf2) hp1 S.sep1_2) fun x2 p2 tk2 hx2 sn2 hp2 => wpAny_pure ?_)
    replace hp2 : Heap.SameBut i2 p1 p2 := hp2
    refine wpAny_pure (wpAny_pure ?_)
    show wpAny _ _ (newTuple [x1, x2] >>= _) _ _ _
    refine wpAny_bind (wpAny_newTuple ?_)
    have hsz : p2.objs.size = hp.objs.size := by rw [hp2.1, hp1.1, hs₁.1]
    have hz3 : IsZ p2 z TI TO f0 true := hp2.extBut _ _ S.zi2 (hp1.extBut _ _ S.zi1 hz₁)
    have hk : ∀ c o, c ≠ z → c ≠ i1 → c ≠ i2 → hp.get? c = some o → p2.get? c = some o := fun c o c1 c2 c3 e => hp2.extBut _ _ c3 (hp1.extBut _ _ c2 (hs₁.extBut _ _ c1 e))
    have hj1 : St1 (i + 1) p2 := D1.over sn1 hp2 S.sep2_1
    refine wpAny_pure ⟨_, rfl, ?_⟩
    have hpp : IsTupOf2 (p2.push { cls := .type "tuple", data := .seq #[x1, x2] }) p2.objs.size x1 x2 := Heap.get?_push_size _ rfl
    have hz4 : (p2.push { cls := .type "tuple", data := .seq #[x1, x2] }).objs.size = p2.objs.size + 1 := Heap.size_push ..
    show Q (.ref p2.objs.size) ⟨p2.push _, g, d, tk2, os⟩
    rw [hsz] at hpp hz4 ⊢
    exact hQ x1 x2 _ tk2 hx1 hx2 ⟨_, _, Heap.get?_push_of_some _ hz3, hf⟩ ⟨a1, a2, Heap.get?_push_of_some _ (hk _ _ S.TOz S.Ti1 S.Ti2 hTO)⟩ (D1.frame _ _ _ hj1 fun b _ o e => Heap.get?_push_of_some _ e) (D2.frame _ _ _ sn2 fun b _ o e => Heap.get?_push_of_some _ e) hpp hz4 fun c o c1 _ c2 c3 e => Heap.get?_push_of_some _ (hk c o c1 c2 c3 e)

theorem zipX_next_end {Q : Fin → Shared → Prop} (S : ZipSep2 z TI TO i1 i2 fp1 fp2) (D1 : Draws prog w A i1 fp1 n1 P1 St1) (D2 : Draws prog w A i2 fp2 n2 P2 St2)
    (hzs : ZSt s.heap z TI TO) (hTI : IsTupOf2 s.heap TI (.ref i1) (.ref i2)) (hTO : IsTupOf2 s.heap TO a1 a2) (st1 : St1 i s.heap) (st2 : St2 i s.heap) (hle1 : i ≤ n1) (hle2 : i ≤ n2) (hend : i = n1 ∨ i = n2)
    (hE : ∀ h' tk e, (∀ c o, c ≠ z → c ≠ TO → c ≠ i1 → c ≠ i2 → s.heap.get? c = some o → h'.get? c = some o) → (∃ o, h'.get? e = some o ∧ o.cls = .type "StopIteration") → E (.ref e) { s with heap := h', toks := tk }) :
    wpAny (model prog w) A (Builtin.«zip.__next__» ⟨[.ref z], []⟩) Q E s := by
  obtain ⟨hp, g, d, tk0, os⟩ := s
  obtain ⟨f0, f, hz, hf⟩ := hzs
  show wpAny _ _ (field (.ref z) 2 >>= _) _ _ _
  refine wpAny_bind (wpAny_field hz rfl (x := .bool false) rfl ?_)
  show wpAny _ _ (field (.ref z) 3 >>= _) _ _ _
  refine wpAny_bind (wpAny_field hz rfl (x := .ref TI) rfl ?_)
  refine wpAny_bind (wpAny_seqItems hTI rfl ?_)
  show wpAny _ _ (Builtin.SmallTypes.ownedTupleIsFree (.ref z) >>= _) _ _ _
  refine wpAny_bind (isFree_zip hz hf ?_ fun h₁ hz₁ hs₁ => ?_)
  · simp only [if_true]
    refine wpAny_bind (wpAny_rule ?_)
    refine wpAny_bind (wpAny_field hz rfl (x := .ref TO) rfl ?_)
    refine wpAny_bind (wpAny_setField_rec hz (by simp) fun g0 hz0 hs0 => ?_)
    replace hz0 : IsZ g0 z TI TO .ellipsis f := hz0
    replace hs0 : Heap.SameBut z hp g0 := hs0
    refine wpAny_bind ?_
    simp only [List.zipIdx_cons, List.zipIdx_nil, List.forIn_cons, List.forIn_nil]
    refine wpAny_bind (wpAny_bind (wpAny_onRaise ?_))
    show wpAny _ _ (Builtin.SmallTypes.nextOf (.ref i1) >>= _) _ _ ⟨g0, g, d, tk0, os⟩
    by_cases hlt1 : i < n1
    · refine wpAny_bind (D1.item i _ _ _ hlt1 (D1.over st1 hs0 S.zf1) fun x1 p1 tk1 hx1 sn1 hp1 => wpAny_pure ?_)
      replace hp1 : Heap.SameBut i1 g0 p1 := hp1
      have hU1 : IsTupOf2 p1 TO a1 a2 := hp1.extBut _ _ S.Ti1 (hs0.extBut _ _ S.TOz hTO)
      refine wpAny_bind (wpAny_seqItems (s := ⟨p1, g, d, tk1, os⟩) hU1 rfl ?_)
      refine wpAny_bind (updateSeq_IsTupOf2 (s := ⟨p1, g, d, tk1, os⟩) hU1 fun g1 hT1 hs1 => ?_)
      replace hT1 : IsTupOf2 g1 TO x1 a2 := hT1
      replace hs1 : Heap.SameBut TO p1 g1 := hs1
      refine wpAny_bind (wpAny_letGo (wpAny_pure ?_))
      have hi2 : i = n2 := by omega
      refine wpAny_bind (wpAny_bind (wpAny_onRaise ?_))
      show wpAny _ _ (Builtin.SmallTypes.nextOf (.ref i2) >>= _) _ _ ⟨g1, g, d, tk1, os⟩
      refine wpAny_bind (D2.done ⟨g1, g, d, tk1, os⟩ _ _ (by rw [← hi2]; exact (D2.over (D2.over (D2.over st2 hs0 S.zf2) hp1 S.sep1_2) hs1 S.Tf2)) fun q e hq he => ?_)
      replace hq : Heap.ExtBut i2 g1 q := hq
      obtain ⟨oe, hoe, hce⟩ := he
      replace hoe : q.get? e = some oe := hoe
      have hzq : IsZ q z TI TO .ellipsis f := hq _ _ S.zi2 (hs1.extBut _ _ S.TOz.symm (hp1.extBut _ _ S.zi1 hz0))
      have hez : e ≠ z := fun x => by subst x; rw [hzq] at hoe; cases hoe; simp at hce
      refine wpAny_setField_rec (s := ⟨q, g, d, tk1, os⟩) hzq (by simp) fun q' _ hq' => ?_
      replace hq' : Heap.SameBut z q q' := hq'
      exact hE q' tk1 e (fun c o cz cT c1 c2 x => hq'.extBut _ _ cz (hq _ _ c2 (hs1.extBut _ _ cT (hp1.extBut _ _ c1 (hs0.extBut _ _ cz x))))) ⟨oe, hq'.extBut _ _ hez hoe, hce⟩
    · have hi1 : i = n1 := by omega
      refine wpAny_bind (D1.done ⟨g0, g, d, tk0, os⟩ _ _ (by rw [← hi1]; exact (D1.over st1 hs0 S.zf1)) fun q e hq he => ?_)
      replace hq : Heap.ExtBut i1 g0 q := hq
      obtain ⟨oe, hoe, hce⟩ := he
      replace hoe : q.get? e = some oe := hoe
      have hzq : IsZ q z TI TO .ellipsis f := hq _ _ S.zi1 hz0
      have hez : e ≠ z := fun x => by subst x; rw [hzq] at hoe; cases hoe; simp at hce
      refine wpAny_setField_rec (s := ⟨q, g, d, tk0, os⟩) hzq (by simp) fun q' _ hq' => ?_
      replace hq' : Heap.SameBut z q q' := hq'
      exact hE q' tk0 e (fun c o cz cT c1 c2 x => hq'.extBut _ _ cz (hq _ _ c1 (hs0.extBut _ _ cz x))) ⟨oe, hq'.extBut _ _ hez hoe, hce⟩
  · replace hs₁ : Heap.SameBut z hp h₁ := hs₁
    simp only [Bool.false_eq_true, if_false]
    refine wpAny_bind ?_
    rw [← Array.forIn_toList]
    simp only [List.forIn_cons, List.forIn_nil]
    refine wpAny_bind (wpAny_bind (wpAny_holding ?_))
    show wpAny _ _ (Builtin.SmallTypes.nextOf (.ref i1) >>= _) _ _ ⟨h₁, g, d, tk0, os⟩
    by_cases hlt1 : i < n1
    · refine wpAny_bind (D1.item i _ _ _ hlt1 (D1.over st1 hs₁ S.zf1) fun x1 p1 tk1 hx1 sn1 hp1 => wpAny_pure ?_)
      replace hp1 : Heap.SameBut i1 h₁ p1 := hp1
      refine wpAny_pure ?_
      have hi2 : i = n2 := by omega
      refine wpAny_bind (wpAny_bind (wpAny_holding ?_))
      show wpAny _ _ (Builtin.SmallTypes.nextOf (.ref i2) >>= _) _ _ ⟨p1, g, d, tk1, os⟩
      refine wpAny_bind (D2.done ⟨p1, g, d, tk1, os⟩ _ _ (by rw [← hi2]; exact (D2.over (D2.over st2 hs₁ S.zf2) hp1 S.sep1_2)) fun q e hq he => ?_)
      replace hq : Heap.ExtBut i2 p1 q := hq
      exact hE q tk1 e (fun c o cz cT c1 c2 x => hq _ _ c2 (hp1.extBut _ _ c1 (hs₁.extBut _ _ cz x))) he
    · have hi1 : i = n1 := by omega
      refine wpAny_bind (D1.done ⟨h₁, g, d, tk0, os⟩ _ _ (by rw [← hi1]; exact (D1.over st1 hs₁ S.zf1)) fun q e hq he => ?_)
      replace hq : Heap.ExtBut i1 h₁ q := hq
      exact hE q tk0 e (fun c o cz cT c1 c2 x => hq _ _ c1 (hs₁.extBut _ _ cz x)) he

theorem pyNext_zipX_item {Q : Option Value → Shared → Prop} (S : ZipSep2 z TI TO i1 i2 fp1 fp2) (D1 : Draws prog w A.in1 i1 fp1 n1 P1 St1) (D2 : Draws prog w A.in1 i2 fp2 n2 P2 St2)
    (hz : ZSt s.heap z TI TO) (hTI : IsTupOf2 s.heap TI (.ref i1) (.ref i2)) (hTO : IsTupOf2 s.heap TO a1 a2) (st1 : St1 i s.heap) (st2 : St2 i s.heap) (hlt1 : i < n1) (hlt2 : i < n2)
    (hQ : ∀ x1 x2 h' tk, P1 i x1 → P2 i x2 → ZSt h' z TI TO → (∃ b1 b2, IsTupOf2 h' TO b1 b2) → St1 (i + 1) h' → St2 (i + 1) h' → IsTupOf2 h' s.heap.objs.size x1 x2 → h'.objs.size = s.heap.objs.size + 1 →
      (∀ c o, c ≠ z → c ≠ TO → c ≠ i1 → c ≠ i2 → s.heap.get? c = some o → h'.get? c = some o) → Q (some (.ref s.heap.objs.size)) { s with heap := h', toks := tk }) :
    wpAny (model prog w) A (pyNext (.ref z)) Q E s := by
  have hT : s.TypeIs (.ref z) "zip" := by obtain ⟨f0, f, e, _⟩ := hz; exact ⟨_, e, rfl⟩
  unfold pyNext
  exact wpAny_bind (wpAny_attempt (wpAny_callSpecial?_slot (name := Str.ofString "__next__") hT F.slot_zip_next
    (wpAny_call_entry F.slot_zip_next hT F.entry_zip_next
      (zipX_next_item S D1 D2 hz hTI hTO st1 st2 hlt1 hlt2 fun x1 x2 h' tk y1 y2 b1 b2 d1 d2 b5 b6 b7 => wpAny_pure (hQ x1 x2 h' tk y1 y2 b1 b2 d1 d2 b5 b6 b7)) (F.args_zip_next_1 _))))
theorem pyNext_zipX_end {Q : Option Value → Shared → Prop} (S : ZipSep2 z TI TO i1 i2 fp1 fp2) (D1 : Draws prog w A.in1 i1 fp1 n1 P1 St1) (D2 : Draws prog w A.in1 i2 fp2 n2 P2 St2)
    (hz : ZSt s.heap z TI TO) (hTI : IsTupOf2 s.heap TI (.ref i1) (.ref i2)) (hTO : IsTupOf2 s.heap TO a1 a2) (st1 : St1 i s.heap) (st2 : St2 i s.heap) (hle1 : i ≤ n1) (hle2 : i ≤ n2) (hend : i = n1 ∨ i = n2)
    (hQ : ∀ h' tk, (∀ c o, c ≠ z → c ≠ TO → c ≠ i1 → c ≠ i2 → s.heap.get? c = some o → h'.get? c = some o) → Q none { s with heap := h', toks := tk }) : wpAny (model prog w) A (pyNext (.ref z)) Q E s := by
  have hT : s.TypeIs (.ref z) "zip" := by obtain ⟨f0, f, e, _⟩ := hz; exact ⟨_, e, rfl⟩
  unfold pyNext
  refine wpAny_bind (wpAny_attempt (wpAny_callSpecial?_slot (name := Str.ofString "__next__") hT F.slot_zip_next
    (wpAny_call_entry F.slot_zip_next hT F.entry_zip_next (zipX_next_end S D1 D2 hz hTI hTO st1 st2 hle1 hle2 hend fun h' tk e hk he => ?_) (F.args_zip_next_1 _))))
  obtain ⟨o, ho, hc⟩ := he
  refine wpAny_bind (wpAny_isInstance (T := "StopIteration") (b := true) ⟨o, ho, hc⟩ isSubtype_stop ?_)
  exact wpAny_pure (hQ _ _ hk)
theorem letGo_zipX {tg : Expr} {u : Value} {Q : Unit → Shared → Prop} (hz : ZSt s.heap z TI TO) (hQ : ∀ h', ZSt h' z TI TO → Heap.SameBut z s.heap h' → Q () { s with heap := h' }) :
    wpAny (model prog w) A (letOwnedTupleGo tg (.ref z) u) Q E s := by
  obtain ⟨f0, f, ho, hf⟩ := hz
  have h0 : Q () s := hQ s.heap ⟨f0, f, ho, hf⟩ (Heap.SameBut.refl _ _)
  unfold letOwnedTupleGo
  cases tg <;> first
    | exact wpAny_pure h0
    | (cases u <;> first
        | exact wpAny_pure h0
        | (rename_i T
           refine wpAny_bind (wpAny_load ho ?_)
           show wpAny _ _ (if (["enumerate", "zip", "dict_itemiterator", "dict_reverseitemiterator", "odict_iterator", "itertools.zip_longest", "itertools.pairwise"].contains "zip" && (#[f0, .bool f, .bool false, .ref TI, .ref TO] : Array Value)[0]? == some (rawInt T)) = true then _ else _) Q E s
           split
           · refine wpAny_bind (wpAny_rule ?_)
             show wpAny _ _ (setField (.ref z) 0 .none) Q E s
             exact wpAny_setField_rec ho (by simp) fun h' hz' hs' => hQ h' ⟨_, _, hz', .inl rfl⟩ hs'
           · exact wpAny_pure h0))
theorem pyIter_zipX {Q : Value → Shared → Prop} (hz : ZSt s.heap z TI TO) (h : Q (.ref z) s) : wpAny (model prog w) A (pyIter (.ref z)) Q E s := by
  have hT : s.TypeIs (.ref z) "zip" := by obtain ⟨f0, f, e, _⟩ := hz; exact ⟨_, e, rfl⟩
  refine wpAny_pyIter_slot hT F.slot_zip_iter (wpAny_call_entry F.slot_zip_iter hT F.entry_zip_iter ?_ (F.args_zip_iter_1 _))
  show wpAny _ _ (ret (.ref z)) _ _ s
  exact wpAny_pure ⟨_, rfl, "zip", _, hT, F.slot_zip_next.lookup, h⟩
end
/-- a list (true) or a tuple (false) -/
def SqX (K : PySem.W.Frag) : Bool → Hp → Addr → List V → Prop
  | true, H, a, xs => SqL K H a xs
  | false, H, a, xs => SqT K H a xs
def ItX : Bool → Heap → Addr → Addr → Nat → Prop
  | true, h, it, a, i => h.IsListIter it a i
  | false, h, it, a, i => h.IsTupleIter it a i
def IsX : Bool → Heap → Addr → Array Value → Prop
  | true, h, a, xs => h.IsList a xs
  | false, h, a, xs => h.IsTuple a xs
theorem ItX.at {b : Bool} {h h' : Heap} {it a : Addr} {i : Nat} (x : ItX b h it a i) (hk : ∀ o, h.get? it = some o → h'.get? it = some o) : ItX b h' it a i := by
  cases b
  · exact Heap.IsTupleIter.at (h := h) x hk
  · exact Heap.IsListIter.at (h := h) x hk
theorem ItX.obj {b : Bool} {h : Heap} {it a : Addr} {i : Nat} (x : ItX b h it a i) : ∃ o, h.get? it = some o ∧ ∀ v, o.data ≠ .cell v := by
  cases b
  · obtain ⟨o, e, _, d⟩ := x; exact ⟨o, e, fun v q => by rw [d] at q; cases q⟩
  · obtain ⟨o, e, _, d⟩ := x; exact ⟨o, e, fun v q => by rw [d] at q; cases q⟩
theorem draws_X {prog : Program} {w : World} {A : Around} (hh : A.handled = none) (b : Bool) (it l : Addr) (hne : l ≠ it) (items : Array Value) :
    Draws prog w A it [it, l] items.size (fun i v => items[i]? = some v) (fun i h => ItX b h it l i ∧ IsX b h l items) := by
  cases b
  · exact Draws.tuple hh it l hne items
  · exact Draws.list hh it l hne items
theorem inv_X {X : Cx} {pins : List (Addr × Obj)} {σ : L2.St} {H : Hp} {s : Shared} {b : Bool} {a : Addr} {xs : List V} (I : L2.Inv X pins σ H s) (hq : SqX X.K b H a xs) : ∃ its : List Value, Vals xs its ∧ IsX b s.heap a its.toArray ∧ a < s.heap.objs.size := by
  cases b
  · obtain ⟨its, rv, p, _⟩ := I.tuple hq
    exact ⟨its, rv, p, by obtain ⟨_, q, _⟩ := p; exact Heap.lt_size q⟩
  · obtain ⟨its, rv, p, _⟩ := I.list hq
    exact ⟨its, rv, p.isList, p.lt⟩
theorem inj_X {X : Cx} {pins : List (Addr × Obj)} {σ : L2.St} {H : Hp} {s : Shared} {b : Bool} {a : Addr} {xs ys : List V} (I : L2.Inv X pins σ H s) (h1 : SqX X.K b H a xs) (h2 : SqX X.K b H a ys) : xs = ys := by
  cases b
  · exact I.tuple_inj h1 h2
  · exact I.list_inj h1 h2
/-- the pairs of the two at a and b -/
def ItzX (K : PySem.W.Frag) (b1 b2 : Bool) (a b : Addr) : It :=
  ⟨fun i H => ∃ (xs ys : List V) (x y : V), SqX K b1 H a xs ∧ SqX K b2 H b ys ∧ xs[i]? = some x ∧ ys[i]? = some y,
    fun i H v H' => ∃ T x y, v = .ref T ∧ H T = none ∧ H' = upd H T (.tup [x, y]) ∧ (∀ xs, SqX K b1 H a xs → xs[i]? = some x) ∧ ∀ ys, SqX K b2 H b ys → ys[i]? = some y,
    fun i H => ∃ xs ys : List V, SqX K b1 H a xs ∧ SqX K b2 H b ys ∧ i = min xs.length ys.length⟩
theorem sep_of {z TI TO i1 i2 a b : Addr} (D : ZipApart z TI TO i1 i2 a b) : ZipSep2 z TI TO i1 i2 [i1, a] [i2, b] where
  TIz := D.TIz
  TOz := D.TOz
  TITO := D.TITO
  TIi1 := D.TIi1
  mem1 := by simp
  zf1 := by simp [D.i1z.symm, D.l1z.symm]
  Tf1 := by simp [D.TOi1, D.l1TO.symm]
  TIi2 := D.TIi2
  mem2 := by simp
  zf2 := by simp [D.i2z.symm, D.l2z.symm]
  Tf2 := by simp [D.TOi2, D.l2TO.symm]
  sep1_2 := by simp [D.i12, D.l2i1.symm]
  sep2_1 := by simp [D.i12.symm, D.l1i2.symm]
theorem turn_zipX {P : Program} {w : World} {K : PySem.W.Frag} {tg : Expr} {b1 b2 : Bool} {a b z TI TO i1 i2 : Addr} (D : ZipApart z TI TO i1 i2 a b) :
    Turn P w K tg (ItzX K b1 b2 a b) [z, TI, TO, i1, i2] z (fun i h => ZSt h z TI TO ∧ IsPair h TI (.ref i1) (.ref i2) ∧ (∃ x y, IsPair h TO x y) ∧ ItX b1 h i1 a i ∧ ItX b2 h i2 b i) where
  mem := by simp
  obj := fun i h st c hc => by
    obtain ⟨⟨f0, f, hz, _⟩, hTI, ⟨x, y, hTO⟩, h1, h2⟩ := st
    have e' : c = z ∨ c = TI ∨ c = TO ∨ c = i1 ∨ c = i2 := by simpa using hc
    rcases e' with q | q | q | q | q
    · rw [q]; exact ⟨_, hz, fun v q => nomatch q⟩
    · rw [q]; exact ⟨_, hTI, fun v q => nomatch q⟩
    · rw [q]; exact ⟨_, hTO, fun v q => nomatch q⟩
    · rw [q]; exact h1.obj
    · rw [q]; exact h2.obj
  keep := fun i h h' st k => by
    obtain ⟨⟨f0, f, hz, hf⟩, hTI, ⟨x, y, hTO⟩, h1, h2⟩ := st
    exact ⟨⟨f0, f, k z (by simp) _ hz, hf⟩, k TI (by simp) _ hTI, ⟨x, y, k TO (by simp) _ hTO⟩, h1.at fun o q => k i1 (by simp) o q, h2.at fun o q => k i2 (by simp) o q⟩
  item := by
    intro X hP hw hK hc i pins s σ H E I hf st hg
    subst hP hw hK
    obtain ⟨hz, hTI, ⟨x0, y0, hTO⟩, h1, h2⟩ := st
    obtain ⟨xs, ys, x, y, hqx, hqy, hx, hy⟩ := hg
    obtain ⟨its, rv, p, _⟩ := inv_X I hqx
    obtain ⟨its2, rv2, p2, _⟩ := inv_X I hqy
    obtain ⟨u, hu, ru⟩ := rv.get hx
    obtain ⟨u2, hu2, ru2⟩ := rv2.get hy
    have hzl : z < s.heap.objs.size := by obtain ⟨f0, f, e, _⟩ := hz; exact Heap.lt_size e
    have hl1 : i < its.toArray.size := by have := (List.getElem?_eq_some_iff.mp hu).1; simpa using this
    have hl2 : i < its2.toArray.size := by have := (List.getElem?_eq_some_iff.mp hu2).1; simpa using this
    refine pyNext_zipX_item (sep_of D) (draws_X (prog := X.prog) (w := X.w) (A := X.A.in1) (I.ok.hd hc) b1 i1 a D.l1i1 its.toArray) (draws_X (prog := X.prog) (w := X.w) (A := X.A.in1) (I.ok.hd hc) b2 i2 b D.l2i2 its2.toArray) hz hTI hTO ⟨h1, p⟩ ⟨h2, p2⟩ hl1 hl2 fun u' u2' h' tk e1 e2 z' TO' h1' h2' hT hsz hk => ?_
    have eu : u' = u := by
      have h2 : its.toArray[i]? = some u := by simpa using hu
      rw [h2] at e1; cases e1; rfl
    have eu2 : u2' = u2 := by
      have h2 : its2.toArray[i]? = some u2 := by simpa using hu2
      rw [h2] at e2; cases e2; rfl
    subst eu eu2
    refine ⟨_, rfl, letGo_zipX (s := { s with heap := h', toks := tk }) z' fun h'' z'' sb => ?_⟩
    have hT2 : h''.get? s.heap.objs.size = some { cls := .type "tuple", data := .seq #[u', u2'] } := (sb.2 _ (Nat.ne_of_gt hzl)).trans hT
    have new : ObjOk X.prog X.w (upd H s.heap.objs.size (.tup [x, y])) h'' s.heap.objs.size (.tup [x, y]) :=
      ⟨by show 2 ≤ sizeLine; decide, [u', u2'], .cons ru (.cons ru2 .nil), ⟨_, hT2, rfl, _, rfl⟩⟩
    have I1 : L2.Inv X pins σ (upd H s.heap.objs.size (.tup [x, y])) { s with heap := h'', toks := tk } :=
      I.turnedNew (t' := tk) (ch := [z, TI, TO, i1, i2]) (fun c o hb q => (sb.2 c (fun q' => hb (by simp [q']))).trans (hk c o (fun q' => hb (by simp [q'])) (fun q' => hb (by simp [q'])) (fun q' => hb (by simp [q'])) (fun q' => hb (by simp [q'])) q)) hf (Nat.le_refl _) new
    obtain ⟨b1', b2', TO'⟩ := TO'
    refine ⟨.ref s.heap.objs.size, _, I1, rfl, ⟨_, x, y, rfl, I.hok.fresh (Nat.le_refl _), rfl, fun l hl => by rw [inj_X I hl hqx]; exact hx, fun l hl => by rw [inj_X I hl hqy]; exact hy⟩, ⟨z'', ?_, ⟨b1', b2', ?_⟩, ?_, ?_⟩, fun c hcm => ?_⟩
    · exact (sb.2 _ D.TIz).trans (hk _ _ D.TIz D.TITO D.TIi1 D.TIi2 hTI)
    · exact (sb.2 _ D.TOz).trans TO'
    · exact h1'.1.at fun o q => (sb.2 _ D.i1z).trans q
    · exact h2'.1.at fun o q => (sb.2 _ D.i2z).trans q
    · have hlt : c < s.heap.objs.size := by
        have e' : c = z ∨ c = TI ∨ c = TO ∨ c = i1 ∨ c = i2 := by simpa using hcm
        rcases e' with q | q | q | q | q
        · rw [q]; exact hzl
        · rw [q]; exact Heap.lt_size hTI
        · rw [q]; exact Heap.lt_size hTO
        · rw [q]; obtain ⟨_, e1, _⟩ := h1.obj; exact Heap.lt_size e1
        · rw [q]; obtain ⟨_, e2, _⟩ := h2.obj; exact Heap.lt_size e2
      rw [upd_ne (Nat.ne_of_lt hlt)]
      exact (hf c hcm).1
  done := by
    intro X hP hw hK hc i pins s σ H E I hf st hg
    subst hP hw hK
    obtain ⟨hz, hTI, ⟨x0, y0, hTO⟩, h1, h2⟩ := st
    obtain ⟨xs, ys, hqx, hqy, hend⟩ := hg
    obtain ⟨its, rv, p, _⟩ := inv_X I hqx
    obtain ⟨its2, rv2, p2, _⟩ := inv_X I hqy
    have l1 := rv.length
    have l2 := rv2.length
    have g1 : i ≤ its.toArray.size := by simp; omega
    have g2 : i ≤ its2.toArray.size := by simp; omega
    have g3 : i = its.toArray.size ∨ i = its2.toArray.size := by simp; omega
    exact pyNext_zipX_end (sep_of D) (draws_X (prog := X.prog) (w := X.w) (A := X.A.in1) (I.ok.hd hc) b1 i1 a D.l1i1 its.toArray) (draws_X (prog := X.prog) (w := X.w) (A := X.A.in1) (I.ok.hd hc) b2 i2 b D.l2i2 its2.toArray) hz hTI hTO ⟨h1, p⟩ ⟨h2, p2⟩ g1 g2 g3 fun h' tk hk => ⟨rfl, I.turnedL (t' := tk) (ch := [z, TI, TO, i1, i2]) (fun c o hb q =>
      hk c o (fun q' => hb (by simp [q'])) (fun q' => hb (by simp [q'])) (fun q' => hb (by simp [q'])) (fun q' => hb (by simp [q'])) q) hf⟩
  self := fun A i s Q E st h => pyIter_zipX st.1 h
def objX : Bool → Addr → Obj
  | true, l => { cls := .type "list_iterator", data := .fields #[.ref l, .int 0 0] }
  | false, l => { cls := .type "tuple_iterator", data := .fields #[.ref l, .int 0 0] }
theorem begins_X (b : Bool) (l : Addr) (items : Array Value) : Begins (.ref l) (objX b l) fun h => IsX b h l items := by
  cases b
  · exact begins_tuple l items
  · exact begins_list l items
theorem itX_of {b : Bool} {h : Heap} {it l : Addr} (e : h.get? it = some (objX b l)) : ItX b h it l 0 := by
  cases b
  · exact ⟨_, e, rfl, rfl⟩
  · exact ⟨_, e, rfl, rfl⟩
def iZipX (K : PySem.W.Frag) (ta : TA) : TI := fun σ H R => ta σ H fun vs H1 => ∃ a b xs ys b1 b2, vs = [.ref a, .ref b] ∧ SqX K b1 H1 a xs ∧ SqX K b2 H1 b ys ∧ R (ItzX K b1 b2 a b) H1
theorem pi_zipX {X : Cx} {tg e e2 : Expr} {ta : TA} {p pos : Pos} (hg : Gl X "zip") (hm : X.mg "zip" = none) (ha : PA X [e, e2] ta)
    (hs : starEach [e, e2] X.env = (false, eval e X.env) :: starEach [e2] X.env := by rfl) (hpl : (backTo pos (starEach [e2] X.env)).any (·.1) = false := by rfl) :
    PI X tg (.Call (.Name "zip" p) [e, e2] [] pos) (iZipX X.K ta) := by
  refine ⟨fun pins s σ H R I h => ?_⟩
  refine Call_ (ld_blt I hg hm PyProof.Rows.boot_zip (PyProof.Rows.callWith_type1 (thn (ha.run pos pins s σ H _ I h) fun us s1 ⟨vs, H1, I1, r1, q1⟩ => ?_) hs hpl))
  obtain ⟨a, b, xs, ys, b1, b2, ex, hqx, hqy, q⟩ := q1
  subst ex
  cases r1 with
  | cons r rr =>
    cases rr with
    | cons r' rr =>
      cases rr
      cases r
      cases r'
      obtain ⟨its, rv, p1, la⟩ := inv_X I1 hqx
      obtain ⟨its2, rv2, p2, lb⟩ := inv_X I1 hqy
      refine zip_begins2 (begins_X b1 a its.toArray) (begins_X b2 b its2.toArray) p1 p2 fun h' hz hTI hTO h1 h2 hsz hk => pyIter_zipX ⟨_, _, hz, .inl rfl⟩ ?_
      have I2 : L2.Inv X pins σ H1 { s1 with heap := h' } := I1.kept (t' := s1.toks) hk
      refine ⟨s1.heap.objs.size + 4, [s1.heap.objs.size + 4, s1.heap.objs.size + 2, s1.heap.objs.size + 3, s1.heap.objs.size, s1.heap.objs.size + 1], _, _, H1, rfl, I2, turn_zipX (PySem.W.ktu_apart s1.heap.objs.size a b la lb), ⟨⟨_, _, hz, .inl rfl⟩, hTI, ⟨_, _, hTO⟩, itX_of h1, itX_of h2⟩, fun c hcm => ?_, q⟩
      have e' : c = s1.heap.objs.size + 4 ∨ c = s1.heap.objs.size + 2 ∨ c = s1.heap.objs.size + 3 ∨ c = s1.heap.objs.size ∨ c = s1.heap.objs.size + 1 := by simpa using hcm
      have hle : s1.heap.objs.size ≤ c := by
        rcases e' with z | z | z | z | z
        · rw [z]; exact Nat.le_add_right _ _
        · rw [z]; exact Nat.le_add_right _ _
        · rw [z]; exact Nat.le_add_right _ _
        · rw [z]; exact Nat.le_refl _
        · rw [z]; exact Nat.le_add_right _ _
      exact I1.fpOk hle (I1.hok.fresh hle)
/-- the items of a frozen list or of a tuple -/
def seqX : D → Option (Bool × List PyData)
  | .p (.list xs) => some (true, xs)
  | .p (.tuple xs) => some (false, xs)
  | _ => none
def SrcX (K : PySem.W.Frag) (H : Hp) (G : Gh) : Bool → Addr → List V → Prop
  | true, a, vs => FL G.φ a vs
  | false, a, vs => SqT K H a vs
theorem SrcX.sq {K : PySem.W.Frag} {H H1 : Hp} {G G1 : Gh} {S S1 : Sto} {b : Bool} {a : Addr} {vs : List V} (h : SrcX K H G b a vs) (rp : Rep K H G S) (x : Ext H G S H1 G1 S1) (r : Rep K H1 G1 S1) : SqX K b H1 a vs := by
  cases b
  · exact x.tup rp h
  · exact SqL.of ((FL.mono (h : FL G.φ a vs) x.phi) H1 r.phi)
theorem src_of {K : PySem.W.Frag} {H : Hp} {G : Gh} {d : D} {v : V} {b : Bool} {xs : List PyData} (e : seqX d = some (b, xs)) (dv : Den K H G d v) : ∃ a vs, v = .ref a ∧ SrcX K H G b a vs ∧ DnAll K G.φ H xs vs := by
  unfold seqX at e
  split at e
  · cases e
    obtain ⟨a, vs, rfl, fa, ta⟩ := den_lst dv
    exact ⟨a, vs, rfl, fa, ta⟩
  · cases e
    obtain ⟨a, vs, rfl, fa, ta⟩ := den_tup dv
    exact ⟨a, vs, rfl, fa, ta⟩
  · cases e
theorem gives_zipX {K : PySem.W.Frag} {H : Hp} {G : Gh} {S : Sto} {b1 b2 : Bool} {a b : Addr} {vs ws : List V} {xs ys : List PyData} (rp : Rep K H G S) (fa : SrcX K H G b1 a vs) (ta : DnAll K G.φ H xs vs) (fb : SrcX K H G b2 b ws) (tb : DnAll K G.φ H ys ws) : Gives K (ItzX K b1 b2 a b) H G S (zipP xs ys) where
  go := fun H1 G1 S1 x r i hi => by
    rw [zipP_len, ta.length, tb.length] at hi
    exact ⟨vs, ws, vs[i], ws[i], fa.sq rp x r, fb.sq rp x r, by simp, by simp⟩
  yld := fun H1 G1 S1 x r i d e v H' y => by
    obtain ⟨T, u, w, rfl, hT, rfl, y1, y2⟩ := y
    have e1 := y1 vs (fa.sq rp x r)
    have e2 := y2 ws (fb.sq rp x r)
    obtain ⟨d1, ed1, dn1⟩ := (x.dnAll rp ta).getV e1
    obtain ⟨d2, ed2, dn2⟩ := (x.dnAll rp tb).getV e2
    obtain ⟨x', y', h1, h2, rfl⟩ := zipP_get xs ys i d e
    rw [ed1] at h1; cases h1
    rw [ed2] at h2; cases h2
    obtain ⟨p1, p2, p3⟩ := pair_new r hT dn1 dn2
    exact ⟨p1, p2, p3, .inr ⟨T, _, hT, rfl⟩⟩
  stop := fun H1 G1 S1 x r => by
    rw [zipP_len, ta.length, tb.length]
    exact ⟨vs, ws, fa.sq rp x r, fb.sq rp x r, rfl⟩
def zipXM : List D → M (List D) := fun ds S => match ds with
  | [d, e] => match seqX d, seqX e with
    | some (_, xs), some (_, ys) => .ok (zipP xs ys) S
    | _, _ => .bad
  | _ => .bad
theorem di_zipX {X : Cx} {W : WX} {tg a b : Expr} {p pos : Pos} {fa : FA} (hg : Gl X "zip") (hm : X.mg "zip" = none) (ha : DA X W [a, b] fa) (hs : starEach [a, b] X.env = (false, eval a X.env) :: starEach [b] X.env := by rfl) (hpl : (backTo pos (starEach [b] X.env)).any (·.1) = false := by rfl) :
    DI X W tg (.Call (.Name "zip" p) [a, b] [] pos) (iA zipXM fa) := by
  refine ⟨PI.imp (pi_zipX hg hm ha.run hs hpl) fun σ H R ⟨G, S, ρ, rs, rp, q⟩ => ⟨G, S, ρ, rs, rp, (Aft.bind q).mono fun ds H1 G1 S1 x1 r1 q1 vs dv => ?_⟩⟩
  unfold zipXM at q1
  split at q1
  · split at q1
    · rename_i d e b1 xs b2 ys e1 e2
      cases dv with
      | cons d1 t =>
        cases t with
        | cons d2 t =>
          cases t
          obtain ⟨a, vs, rfl, fa, ta⟩ := src_of e1 d1
          obtain ⟨b, ws, rfl, fb, tb⟩ := src_of e2 d2
          exact ⟨a, b, vs, ws, b1, b2, rfl, fa.sq r1 Ext.refl r1, fb.sq r1 Ext.refl r1, q1 H1 G1 Ext.refl r1 _ (gives_zipX r1 fa ta fb tb)⟩
    · exact q1.elim
  · exact q1.elim
@[simp] theorem zipXM_ll {xs ys : List PyData} {S : Sto} : zipXM [.p (.list xs), .p (.list ys)] S = .ok (zipP xs ys) S := rfl
@[simp] theorem zipXM_tt {xs ys : List PyData} {S : Sto} : zipXM [.p (.tuple xs), .p (.tuple ys)] S = .ok (zipP xs ys) S := rfl
@[simp] theorem zipXM_tl {xs ys : List PyData} {S : Sto} : zipXM [.p (.tuple xs), .p (.list ys)] S = .ok (zipP xs ys) S := rfl
@[simp] theorem zipXM_lt {xs ys : List PyData} {S : Sto} : zipXM [.p (.list xs), .p (.tuple ys)] S = .ok (zipP xs ys) S := rfl
end DL

namespace DL
open PySem L2 PySem.Spec PyProof.Rows

theorem compTurn2D_out (kx vx t0 i0 t1 i1 : Expr) (ifs0 ifs1 : List Expr) (scope : Scope) (pos : Pos) (it acc : Value) (env : Env) :
    compTurn (.DictComp kx vx [⟨t0, i0, ifs0, 0⟩, ⟨t1, i1, ifs1, 0⟩] scope pos) 0 it acc env = (do
      standAt i0.pos
      match ← pyNext it with
      | none => pure (.done .next)
      | some v =>
        letOwnedTupleGo t0 it v
        assign t0 env v
        let mut ok := true
        for c in ifs0 do
          if ok then ok ← isTrue c env (eval c env)
        if ok then
          let x ← eval i1 env
          standAt i1.pos
          let x ← foldedSetIterable i1 env x
          let _ ← runOwn (.compStart (.DictComp kx vx [⟨t0, i0, ifs0, 0⟩, ⟨t1, i1, ifs1, 0⟩] scope pos) 1 (← holding [x] (pyIter x)) acc env) env
        again (.compLoop (.DictComp kx vx [⟨t0, i0, ifs0, 0⟩, ⟨t1, i1, ifs1, 0⟩] scope pos) 0 it acc env)) := by rfl
theorem compTurn2D_in (kx vx t0 i0 t1 i1 : Expr) (ifs0 ifs1 : List Expr) (scope : Scope) (pos : Pos) (it : Value) (D : Addr) (env : Env) :
    compTurn (.DictComp kx vx [⟨t0, i0, ifs0, 0⟩, ⟨t1, i1, ifs1, 0⟩] scope pos) 1 it (.ref D) env = (do
      standAt i1.pos
      match ← pyNext it with
      | none => pure (.done .next)
      | some v =>
        letOwnedTupleGo t1 it v
        assign t1 env v
        let mut ok := true
        for c in ifs1 do
          if ok then ok ← isTrue c env (eval c env)
        if ok then
          (do
            let kv ← eval kx env
            let vv ← holding [kv] (eval vx env)
            standAt { kx.pos with endLine := vx.pos.endLine, endCol := vx.pos.endCol }
            holding [kv, vv] (dictSet D kv vv))
        again (.compLoop (.DictComp kx vx [⟨t0, i0, ifs0, 0⟩, ⟨t1, i1, ifs1, 0⟩] scope pos) 1 it (.ref D) env)) := by rfl

section
variable {prog : Program} {w : World} {A : Around} {R : Result → Shared → Prop} {s : Shared} {kx vx t0 i0 t1 i1 : Expr} {ifs0 ifs1 : List Expr} {scope : Scope} {pos : Pos} {it acc : Value} {env : Env}
/-- the loop of the first clause -/
theorem compLoop2D_out (hs : ∀ x, foldedSetIterable i1 env x = pure x) (I : Nat → Shared → Prop)
    (turn : ∀ n s, I n s → wpAny (model prog w) A (pyNext it) (fun r s₁ => match r with
      | none => R (.ok .next) s₁
      | some v => wpAny (model prog w) A (letOwnedTupleGo t0 it v) (fun _ s₁' => wpAny (model prog w) A (assign t0 env v) (fun _ s₂ =>
          wpAny (model prog w) A (forIn ifs0 true fun c r => if r = true then do let ok ← isTrue c env (eval c env); pure (ForInStep.yield ok) else pure (ForInStep.yield r)) (fun ok s₃ =>
            if ok = true then wpAny (model prog w) A (eval i1 env) (fun x s₄ => wpAny (model prog w) A (pyIter x) (fun it1 s₅ =>
              codeAny (model prog w) A (.compStart (.DictComp kx vx [⟨t0, i0, ifs0, 0⟩, ⟨t1, i1, ifs1, 0⟩] scope pos) 1 it1 acc env) (fun r s' => match r with
                | .ok _ => ∃ m, m < n ∧ I m s'
                | .error _ => False) s₅) (notedBy (model prog w) A env fun e s' => R (.error e) s') s₄) (notedBy (model prog w) A env fun e s' => R (.error e) s') s₃
            else ∃ m, m < n ∧ I m s₃) (notedBy (model prog w) A env fun e s' => R (.error e) s') s₂) (notedBy (model prog w) A env fun e s' => R (.error e) s') s₁') (notedBy (model prog w) A env fun e s' => R (.error e) s') s₁) (notedBy (model prog w) A env fun e s' => R (.error e) s') s)
    (n : Nat) (h : I n s) :
    codeAny (model prog w) A (.compLoop (.DictComp kx vx [⟨t0, i0, ifs0, 0⟩, ⟨t1, i1, ifs1, 0⟩] scope pos) 0 it acc env) R s := by
  refine codeAny_loop rfl I (fun n s hI => ?_) n h
  show wpAny _ A ((compTurn (.DictComp kx vx [⟨t0, i0, ifs0, 0⟩, ⟨t1, i1, ifs1, 0⟩] scope pos) 0 it acc env).onRaise (fun x => do noteFrame x env; theTreesLotGoes x)) _ _ s
  refine wpAny_noted ?_
  rw [compTurn2D_out]
  refine wpAny_bind (wpAny_standAt (wpAny_bind (wpAny_mono (turn n s hI) (fun r s₁ h₁ => ?_) fun _ _ h' => h')))
  cases r with
  | none => exact wpAny_pure h₁
  | some v =>
    refine wpAny_bind (wpAny_mono h₁ (fun _ s₁' h₁' => ?_) fun _ _ h' => h')
    refine wpAny_bind (wpAny_mono h₁' (fun _ s₂ h₂ => wpAny_bind (wpAny_mono h₂ (fun ok s₃ h₃ => ?_) fun _ _ h' => h')) fun _ _ h' => h')
    cases ok with
    | false => exact wpAny_pure ⟨rfl, h₃⟩
    | true =>
      refine wpAny_bind (wpAny_mono h₃ (fun x s₄ h₄ => ?_) fun _ _ h' => h')
      refine wpAny_bind (wpAny_standAt (wpAny_bind (wpAny_of_eq (hs x) (wpAny_bind (wpAny_holding (wpAny_mono h₄ (fun it1 s₅ h₅ => ?_) fun _ _ h' => h'))))))
      refine wpAny_bind (wpAny_runOwn ?_)
      rw [Around.mark_none]
      refine codeAny_mono h₅ fun r s' hr => ?_
      cases r with
      | ok f =>
        first
          | exact wpAny_pure ⟨rfl, hr⟩
          | exact wpAny_bind (wpAny_pure (wpAny_pure ⟨rfl, hr⟩))
      | error e => exact hr.elim
/-- the loop of the second -/
theorem compLoop2D_in {D : Addr} (I : Nat → Shared → Prop)
    (turn : ∀ n s, I n s → wpAny (model prog w) A (pyNext it) (fun r s₁ => match r with
      | none => R (.ok .next) s₁
      | some v => wpAny (model prog w) A (letOwnedTupleGo t1 it v) (fun _ s₁' => wpAny (model prog w) A (assign t1 env v) (fun _ s₂ =>
          wpAny (model prog w) A (forIn ifs1 true fun c r => if r = true then do let ok ← isTrue c env (eval c env); pure (ForInStep.yield ok) else pure (ForInStep.yield r)) (fun ok s₃ =>
            if ok = true then wpAny (model prog w) A (eval kx env) (fun kv s₄ => wpAny (model prog w) A (eval vx env) (fun vv s₅ =>
              wpAny (model prog w) A (dictSet D kv vv) (fun _ s₆ => ∃ m, m < n ∧ I m s₆) (notedBy (model prog w) A env fun e s' => R (.error e) s') s₅) (notedBy (model prog w) A env fun e s' => R (.error e) s') s₄) (notedBy (model prog w) A env fun e s' => R (.error e) s') s₃
            else ∃ m, m < n ∧ I m s₃) (notedBy (model prog w) A env fun e s' => R (.error e) s') s₂) (notedBy (model prog w) A env fun e s' => R (.error e) s') s₁') (notedBy (model prog w) A env fun e s' => R (.error e) s') s₁) (notedBy (model prog w) A env fun e s' => R (.error e) s') s)
    (n : Nat) (h : I n s) :
    codeAny (model prog w) A (.compLoop (.DictComp kx vx [⟨t0, i0, ifs0, 0⟩, ⟨t1, i1, ifs1, 0⟩] scope pos) 1 it (.ref D) env) R s := by
  refine codeAny_loop rfl I (fun n s hI => ?_) n h
  show wpAny _ A ((compTurn (.DictComp kx vx [⟨t0, i0, ifs0, 0⟩, ⟨t1, i1, ifs1, 0⟩] scope pos) 1 it (.ref D) env).onRaise (fun x => do noteFrame x env; theTreesLotGoes x)) _ _ s
  refine wpAny_noted ?_
  rw [compTurn2D_in]
  refine wpAny_bind (wpAny_standAt (wpAny_bind (wpAny_mono (turn n s hI) (fun r s₁ h₁ => ?_) fun _ _ h' => h')))
  cases r with
  | none => exact wpAny_pure h₁
  | some v =>
    refine wpAny_bind (wpAny_mono h₁ (fun _ s₁' h₁' => ?_) fun _ _ h' => h')
    refine wpAny_bind (wpAny_mono h₁' (fun _ s₂ h₂ => wpAny_bind (wpAny_mono h₂ (fun ok s₃ h₃ => ?_) fun _ _ h' => h')) fun _ _ h' => h')
    cases ok with
    | false => exact wpAny_pure ⟨rfl, h₃⟩
    | true =>
      exact wpAny_bind (wpAny_bind (wpAny_mono h₃ (fun kv s₄ h₄ => wpAny_bind (wpAny_holding (wpAny_mono h₄ (fun vv s₅ h₅ => wpAny_bind (wpAny_standAt (wpAny_holding (wpAny_mono h₅ (fun _ s₆ h₆ => wpAny_pure ⟨rfl, h₆⟩) fun _ _ h' => h')))) fun _ _ h' => h'))) fun _ _ h' => h'))
/-- the second clause's start -/
theorem compStart1D_ok (h0 : codeAny (model prog w) A (.compLoop (.DictComp kx vx [⟨t0, i0, ifs0, 0⟩, ⟨t1, i1, ifs1, 0⟩] scope pos) 1 it acc env) R s)
    (h : wpAny (model prog w) A (pyIter it) (fun it' s' => codeAny (model prog w) A (.compLoop (.DictComp kx vx [⟨t0, i0, ifs0, 0⟩, ⟨t1, i1, ifs1, 0⟩] scope pos) 1 it' acc env) R s')
      (notedBy (model prog w) A env fun x s' => R (.error x) s') s) :
    codeAny (model prog w) A (.compStart (.DictComp kx vx [⟨t0, i0, ifs0, 0⟩, ⟨t1, i1, ifs1, 0⟩] scope pos) 1 it acc env) R s := by
  refine codeAny_of_tree ?_
  show wpAny _ _ ((compStart (.DictComp kx vx [⟨t0, i0, ifs0, 0⟩, ⟨t1, i1, ifs1, 0⟩] scope pos) 1 it acc env).onRaise (fun x => do noteFrame x env; standAt theWindowsPlace)) _ _ s
  refine wpAny_notedAt ?_
  unfold compStart
  show wpAny _ _ (ask >>= _) _ _ s
  refine wpAny_bind (wpAny_askSetting (wpAny_ite ?_))
  split
  · first
      | exact wpAny_bind (wpAny_pure (wpAny_pure (And.intro rfl h0)))
      | exact wpAny_pure (And.intro rfl h0)
  · first
      | exact wpAny_bind (wpAny_rule (wpAny_bind (wpAny_standAt (wpAny_bind (wpAny_mono h (fun it' s' h' => wpAny_pure (And.intro rfl h')) fun _ _ x => x)))))
      | (refine wpAny_bind (wpAny_rule ?_); show wpAny _ _ (standAt i1.pos >>= _) _ _ s; exact wpAny_bind (wpAny_standAt (wpAny_bind (wpAny_mono h (fun it' s' h' => wpAny_pure (And.intro rfl h')) fun _ _ x => x))))
end


section
variable {X : Cx}
/-- {k: v for tg in iter if .. for tg1 in iter1 if ..}: behind the first clause's store and tests the second source's own loop, from which Nx is reached. vs: the block's names; vs1: those of the second target -/
def tDc2 (wi : TI) (g : TG) (tt : TT) (wi1 : TI) (g1 : TG) (tt1 : TT) (tk tv : TE) (vs vs1 : List Nat) : TE := fun σ H Q => wi σ H fun J H1 => ∀ D, H1 D = none → ∃ W : Nat → Nat → Hp → Prop, (∃ m, W 0 m (upd H1 D (.dK []))) ∧ ∀ i m H, W i m H →
  (J.stop i H ∧ Q (.ref D) H) ∨ (J.go i H ∧ ∃ Nx : Hp → Prop, (∀ H', Nx H' → ∃ m', m' < m ∧ W (i + 1) m' H') ∧ ∀ x H', J.yld i H x H' → g x (wipe σ vs) H' fun σ2 H2 => wipe σ2 vs = wipe σ vs ∧ tt σ2 H2 fun b H3 =>
    if b = true then wi1 σ2 H3 fun J1 H4 => ∃ W1 : Nat → Nat → Hp → Prop, (∃ m, W1 0 m H4) ∧ ∀ j k H, W1 j k H →
      (J1.stop j H ∧ Nx H) ∨ (J1.go j H ∧ ∃ Nx1 : Hp → Prop, (∀ H', Nx1 H' → ∃ k', k' < k ∧ W1 (j + 1) k' H') ∧ ∀ x H', J1.yld j H x H' → g1 x (wipe σ2 vs1) H' fun σ3 H5 => wipe σ3 vs1 = wipe σ2 vs1 ∧ tt1 σ3 H5 fun b H6 =>
        if b = true then tk σ3 H6 fun y H7 => tv σ3 H7 fun z H8 => ∃ kvs k, y = kV k ∧ H8 D = some (.dK kvs) ∧ kvs.length < sizeLine ∧ Nx1 (upd H8 D (.dK (putK kvs k z))) else Nx1 H6)
    else Nx H3)
theorem dc2_core {pins : List (Addr × Obj)} {s : Shared} {σ : L2.St} {H : Hp} {Q : VK} {kx vx tg iter tg1 iter1 : Expr} {ifs ifs1 : List Expr} {scope : Scope} {own : List (Str × Nat)} {vs1 : List Nat} {pos pos' : Pos} {wi wi1 : TI} {g g1 : TG} {tt tt1 : TT} {tk tv : TE} {use : Option (Value → Sem Unit)} {Qf : Value → Shared → Prop}
    (hc : X.calm = true) (hN : X.N.Nodup) (I : L2.Inv X pins σ H s) (hi : PI X tg iter wi) (ok : BlkOk X.N X.env.scope scope own) (hv : ∀ i ∈ vs1, i ∈ own.map (·.2))
    (hg : ∀ (s : Shared) (H : Hp) (C : Addr) (cl : List (Str × Addr)) (fp : List Addr), PG (X.blk s H scope (compEnvC scope cl C X.env) fp) tg g) (ht : ∀ (s : Shared) (H : Hp) (C : Addr) (cl : List (Str × Addr)) (fp : List Addr), PTs (X.blk s H scope (compEnvC scope cl C X.env) fp) ifs tt)
    (hk : ∀ (s : Shared) (H : Hp) (C : Addr) (cl : List (Str × Addr)) (fp : List Addr), PE (X.blk s H scope (compEnvC scope cl C X.env) fp) kx tk) (he : ∀ (s : Shared) (H : Hp) (C : Addr) (cl : List (Str × Addr)) (fp : List Addr), PE (X.blk s H scope (compEnvC scope cl C X.env) fp) vx tv) (hs : ∀ x, foldedSetIterable iter X.env x = pure x)
    (hi1 : ∀ (s : Shared) (H : Hp) (C : Addr) (cl : List (Str × Addr)) (fp : List Addr), PI (X.blk s H scope (compEnvC scope cl C X.env) fp) tg1 iter1 wi1)
    (hg1 : ∀ (s : Shared) (H : Hp) (C : Addr) (cl : List (Str × Addr)) (fp : List Addr), PG (X.blk s H scope (compEnvC scope cl C X.env) fp) tg1 g1)
    (ht1 : ∀ (s : Shared) (H : Hp) (C : Addr) (cl : List (Str × Addr)) (fp : List Addr), PTs (X.blk s H scope (compEnvC scope cl C X.env) fp) ifs1 tt1)
    (hs1 : ∀ env x, foldedSetIterable iter1 env x = pure x)
    (h : tDc2 wi g tt wi1 g1 tt1 tk tv (own.map (·.2)) vs1 σ H Q)
    (hRR : ∀ D C s' m H', L2.Inv X pins σ H' s' → Q (.ref D) H' → s'.heap.Ns C m → FpOk X pins H' C → compPost (model X.prog X.w) X.A X.xe use Qf (.ref D) C (.ok .next) s') :
    wpAny (model X.prog X.w) X.A (comprehension (.DictComp kx vx [⟨tg, iter, ifs, 0⟩, ⟨tg1, iter1, ifs1, 0⟩] scope pos) scope X.env pos' newDict false (eval iter X.env) use) Qf X.xe s := by
  have hfree : ∀ y ∈ scope.names, y.2 = .free → ∃ c, X.env.cells.lookup y.1 = some c := fun y hy e => by
    rcases ok.free y hy e with k | k
    · exact I.ok.has _ (.inl k)
    · exact I.ok.has _ (.inr k)
  refine wpAny_comprehension_free (use := use) rfl hs (closure_ok hfree) ok.kind (fun y hy e => by rw [ok.uniq y hy, e])
    (thn (hi.run pins s σ H _ I h) fun xv s1 hx => thn hx fun itv s2 h2 => ?_)
  obtain ⟨it, fp, tn, J, H2, e, I2, T, st2, f2, q⟩ := h2
  subst e
  refine wpAny_newObj_type (newEnv_comp ?_)
  generalize hD : s2.heap.objs.size = D
  have hDn : H2 D = none := I2.hok.fresh (Nat.le_of_eq hD)
  obtain ⟨W, ⟨m0, w0⟩, turn⟩ := q D hDn
  -- the new dict
  generalize hs3 : ({ s2 with heap := s2.heap.push { cls := .type "dict", data := .dict #[] } } : Shared) = s3
  have I3 : L2.Inv X pins σ (upd H2 D (.dK [])) s3 := by
    rw [← hs3]
    refine I2.laid (t' := s2.toks) (fun b o e => Heap.get?_push_of_some _ e) (Nat.le_of_eq hD) ?_
    rw [← hD]
    exact dk_empty s2.heap I2.big
  have h3 : s3.heap = s2.heap.push { cls := .type "dict", data := .dict #[] } := by rw [← hs3]
  have sz : ∀ b ∈ fp, b < s2.heap.objs.size := fun b hb => by
    obtain ⟨o, e, _⟩ := T.obj _ _ st2 b hb
    exact Heap.lt_size e
  have f3 : ∀ b ∈ fp, FpOk X pins (upd H2 D (.dK [])) b ∧ b < s3.heap.objs.size := fun b hb => by
    have hlt := sz b hb
    refine ⟨⟨?_, (f2 b hb).2⟩, by rw [h3, Heap.size_push]; exact Nat.lt_succ_of_lt hlt⟩
    rw [upd_ne (by rw [← hD]; exact Nat.ne_of_lt hlt)]
    exact (f2 b hb).1
  have st3 : tn 0 s3.heap := T.keep _ _ _ st2 fun b _ o e => by rw [h3]; exact Heap.get?_push_of_some _ e
  have I4 := block_start I3 ok hN f3
  have pg := hg s3 (upd H2 D (.dK [])) s3.heap.objs.size (cellsFrom (s3.heap.objs.size + 1) scope.names (cloFrom X.env.cells scope.names [])) fp
  have pt := ht s3 (upd H2 D (.dK [])) s3.heap.objs.size (cellsFrom (s3.heap.objs.size + 1) scope.names (cloFrom X.env.cells scope.names [])) fp
  have pk := hk s3 (upd H2 D (.dK [])) s3.heap.objs.size (cellsFrom (s3.heap.objs.size + 1) scope.names (cloFrom X.env.cells scope.names [])) fp
  have pe := he s3 (upd H2 D (.dK [])) s3.heap.objs.size (cellsFrom (s3.heap.objs.size + 1) scope.names (cloFrom X.env.cells scope.names [])) fp
  have pi1 := hi1 s3 (upd H2 D (.dK [])) s3.heap.objs.size (cellsFrom (s3.heap.objs.size + 1) scope.names (cloFrom X.env.cells scope.names [])) fp
  have pg1 := hg1 s3 (upd H2 D (.dK [])) s3.heap.objs.size (cellsFrom (s3.heap.objs.size + 1) scope.names (cloFrom X.env.cells scope.names [])) fp
  have pt1 := ht1 s3 (upd H2 D (.dK [])) s3.heap.objs.size (cellsFrom (s3.heap.objs.size + 1) scope.names (cloFrom X.env.cells scope.names [])) fp
  show codeAny _ _ (.compStart (.DictComp kx vx [⟨tg, iter, ifs, 0⟩, ⟨tg1, iter1, ifs1, 0⟩] scope pos) 0 (.ref it) (.ref D) (compEnvC scope (cellsFrom (s3.heap.objs.size + 1) scope.names (cloFrom X.env.cells scope.names [])) s3.heap.objs.size X.env)) (compPost (model X.prog X.w) X.A X.xe use Qf (.ref D) s3.heap.objs.size) { s3 with heap := pushCells (s3.heap.push { cls := .type "dict", data := .dict #[] }) scope.names }
  have nfp : ∀ b ∈ fp, (upd H2 D (.dK [])) b = none := fun b hb => (f3 b hb).1.1
  generalize hce : compEnvC scope (cellsFrom (s3.heap.objs.size + 1) scope.names (cloFrom X.env.cells scope.names [])) s3.heap.objs.size X.env = ce at I4 pg pt pk pe pi1 pg1 pt1 ⊢
  have cL : ce.locals = s3.heap.objs.size := by subst hce; rfl
  generalize hH3 : upd H2 D (.dK []) = H3 at I3 I4 pg pt pk pe pi1 pg1 pt1 w0 nfp f3
  generalize hs4 : ({ s3 with heap := pushCells (s3.heap.push { cls := .type "dict", data := .dict #[] }) scope.names } : Shared) = s4 at I4 ⊢
  have st4 : tn 0 s4.heap := T.keep _ _ _ st3 fun b _ o e => by rw [← hs4]; exact pushCells_keeps _ _ _ _ (Heap.get?_push_of_some _ e)
  have stat : ∀ {σ' : L2.St} {H' : Hp} {s' : Shared}, L2.Inv (X.blk s3 H3 scope ce fp) [] σ' H' s' → (∀ b ∈ fp, H' b = none) → ∀ b ∈ fp, FpOk (X.blk s3 H3 scope ce fp) [] H' b := fun {σ' H' s'} I' hn b hb =>
    ⟨hn b hb, (I'.ok.exf b hb).1, I'.ok.exfs b hb, .inl hb, fun x c e => (I'.ok.exf b hb).2 x c e, fun p hp => absurd (show p ∈ ([] : List (Addr × Obj)) ++ [] from hp) (by simp)⟩
  have loop : codeAny (model X.prog X.w) X.A (.compLoop (.DictComp kx vx [⟨tg, iter, ifs, 0⟩, ⟨tg1, iter1, ifs1, 0⟩] scope pos) 0 (.ref it) (.ref D) ce) (compPost (model X.prog X.w) X.A X.xe use Qf (.ref D) s3.heap.objs.size) s4 := by
    refine compLoop2D_out (hs1 ce) (fun n s' => ∃ i H', L2.Inv (X.blk s3 H3 scope ce fp) [] (wipe σ (own.map (·.2))) H' s' ∧ tn i s'.heap ∧ (∀ b ∈ fp, H' b = none) ∧ W i n H') ?_ m0 ⟨0, H3, I4, st4, nfp, w0⟩
    rintro n s5 ⟨i, H5, I5, st5, n5, w5⟩
    rcases turn i n H5 w5 with ⟨stop, qq⟩ | ⟨go, Nx, hNx, step⟩
    · have td := T.done (X.blk s3 H3 scope ce fp) rfl rfl rfl hc i [] s5 _ H5 (fun _ _ => False) I5 (stat I5 n5) st5 stop
      refine thnF td fun r s6 ⟨hr, I6⟩ => ?_
      subst hr
      -- back in the def's context
      have I7 : L2.Inv X pins σ H5 s6 := I3.call' (ch := fp) I6.os I6.base I6.hok I6.bare fun b hb => ⟨(f3 b hb).1.2.2.2.1, (f3 b hb).1.2.1, (f3 b hb).1.2.2.2.2.1, (f3 b hb).1.2.2.2.2.2⟩
      have nC : H5 s3.heap.objs.size = none := by
        have z : H5 ce.locals = none := I6.free
        rw [cL] at z
        exact z
      obtain ⟨m, hn, _⟩ := I6.loc
      have hn : s6.heap.Ns ce.locals m := hn
      rw [cL] at hn
      exact hRR D s3.heap.objs.size s6 m H5 I7 qq hn (I3.fpOk (Nat.le_refl _) nC)
    · have ti := T.item (X.blk s3 H3 scope ce fp) rfl rfl rfl hc i [] s5 _ H5 (fun _ _ => False) I5 (stat I5 n5) st5 go
      refine thnF ti fun r s6 ⟨u, hr, h6⟩ => ?_
      subst hr
      refine thnF h6 fun _ s7 ⟨x, H7, I7, r7, y7, st7, n7⟩ => ?_
      have I7' := I7.pinned (stat I7 n7) (T.obj _ _ st7)
      refine thnF (pg.run _ s7 _ H7 x u _ I7' r7 (step x H7 y7)) fun _ s8 ⟨σ8, H8, I8, hw8, q8⟩ => ?_
      refine thnF (pt.run _ s8 σ8 H8 _ I8 q8) fun b s9 ⟨H9, I9, q9⟩ => ?_
      -- the turn's end, from any slots that know what the block knew at its start
      have fin : ∀ {σ9 : L2.St} {s' : Shared} {H' : Hp}, L2.Inv (X.blk s3 H3 scope ce fp) ([] ++ pinsAt fp s7.heap) σ9 H' s' → (wipe σ (own.map (·.2))).length = σ9.length → (∀ (j : Nat) v, (wipe σ (own.map (·.2)))[j]? = some (some v) → σ9[j]? = some (some v)) → Nx H' →
          ∃ m, m < n ∧ ∃ i H', L2.Inv (X.blk s3 H3 scope ce fp) [] (wipe σ (own.map (·.2))) H' s' ∧ tn i s'.heap ∧ (∀ b ∈ fp, H' b = none) ∧ W i m H' := fun {σ9 s' H'} I' hl hk nx => by
        obtain ⟨m', hm, w'⟩ := hNx H' nx
        have pin' : ∀ b ∈ fp, ∀ o, s7.heap.get? b = some o → s'.heap.get? b = some o ∧ H' b = none := fun b hb o e =>
          let z := I'.pin (b, o) (List.mem_append_right _ (List.mem_append_right _ (mem_pinsAt hb e)))
          ⟨z.1, z.2.1⟩
        refine ⟨m', hm, i + 1, H', (I'.unpinned (pins := [])).weak hl hk, T.keep _ _ _ st7 fun b hb o e => (pin' b hb o e).1, fun b hb => ?_, w'⟩
        obtain ⟨o, e, _⟩ := T.obj _ _ st7 b hb
        exact (pin' b hb o e).2
      have hl8 : (wipe σ (own.map (·.2))).length = σ8.length := by rw [← hw8, wipe_length]
      have hk8 : ∀ (j : Nat) v, (wipe σ (own.map (·.2)))[j]? = some (some v) → σ8[j]? = some (some v) := fun j v e => by
        rw [← hw8] at e
        exact (wipe_some e).1
      have hk9 : ∀ (j : Nat) v, (wipe σ (own.map (·.2)))[j]? = some (some v) → (wipe σ8 vs1)[j]? = some (some v) := fun j v e => by
        rw [← hw8] at e
        obtain ⟨e1, e2⟩ := wipe_some e
        rw [wipe_out fun z => e2 (hv j z)]
        exact e1
      cases b with
      | false =>
        simp only [Bool.false_eq_true, if_false] at q9 ⊢
        exact fin I9 hl8 hk8 q9
      | true =>
        simp only [if_true] at q9 ⊢
        refine thnF (pi1.run _ s9 σ8 H9 _ I9 q9) fun xv s10 hx => thnF hx fun itv s11 h11 => ?_
        obtain ⟨it1, fp1, tn1, J1, H11, e1, I11, T1, st11, f11, W1, ⟨m1, w1⟩, turn1⟩ := h11
        subst e1
        -- the inner loop
        have stat1 : ∀ {H' : Hp}, (∀ b ∈ fp1, H' b = none) → ∀ b ∈ fp1, FpOk (X.blk s3 H3 scope ce fp) ([] ++ pinsAt fp s7.heap) H' b := fun hn b hb => ⟨hn b hb, (f11 b hb).2⟩
        have loop1 : codeAny (model X.prog X.w) X.A (.compLoop (.DictComp kx vx [⟨tg, iter, ifs, 0⟩, ⟨tg1, iter1, ifs1, 0⟩] scope pos) 1 (.ref it1) (.ref D) ce)
            (fun r s' => match r with
              | .ok _ => ∃ m, m < n ∧ ∃ i H', L2.Inv (X.blk s3 H3 scope ce fp) [] (wipe σ (own.map (·.2))) H' s' ∧ tn i s'.heap ∧ (∀ b ∈ fp, H' b = none) ∧ W i m H'
              | .error _ => False) s11 := by
          refine compLoop2D_in (fun k s' => ∃ j H', L2.Inv (X.blk s3 H3 scope ce fp) ([] ++ pinsAt fp s7.heap) (wipe σ8 vs1) H' s' ∧ tn1 j s'.heap ∧ (∀ b ∈ fp1, H' b = none) ∧ W1 j k H') ?_ m1 ⟨0, H11, I11.weak (wipe_length _ _) (fun j v e => (wipe_some e).1), st11, fun b hb => (f11 b hb).1, w1⟩
          rintro k s12 ⟨j, H12, I12, st12, n12, w12⟩
          rcases turn1 j k H12 w12 with ⟨stop1, nx1⟩ | ⟨go1, Nx1, hNx1, step1⟩
          · refine thnF (T1.done (X.blk s3 H3 scope ce fp) rfl rfl rfl hc j _ s12 (wipe σ8 vs1) H12 (fun _ _ => False) I12 (stat1 n12) st12 stop1) fun r s13 ⟨hr, I13⟩ => ?_
            subst hr
            exact fin I13 (hl8.trans (wipe_length σ8 vs1).symm) hk9 nx1
          · refine thnF (T1.item (X.blk s3 H3 scope ce fp) rfl rfl rfl hc j _ s12 (wipe σ8 vs1) H12 (fun _ _ => False) I12 (stat1 n12) st12 go1) fun r s13 ⟨u1, hr, h13⟩ => ?_
            subst hr
            refine thnF h13 fun _ s14 ⟨x1, H14, I14, r14, y14, st14, n14⟩ => ?_
            have I14' := I14.pinned (stat1 n14) (T1.obj _ _ st14)
            refine thnF (pg1.run _ s14 (wipe σ8 vs1) H14 x1 u1 _ I14' r14 (step1 x1 H14 y14)) fun _ s15 ⟨σ15, H15, I15, hw15, q15⟩ => ?_
            refine thnF (pt1.run _ s15 σ15 H15 _ I15 q15) fun b1 s16 ⟨H16, I16, q16⟩ => ?_
            have fin1 : ∀ {s' : Shared} {H' : Hp}, L2.Inv (X.blk s3 H3 scope ce fp) (([] ++ pinsAt fp s7.heap) ++ pinsAt fp1 s14.heap) σ15 H' s' → Nx1 H' → ∃ m, m < k ∧ ∃ j H', L2.Inv (X.blk s3 H3 scope ce fp) ([] ++ pinsAt fp s7.heap) (wipe σ8 vs1) H' s' ∧ tn1 j s'.heap ∧ (∀ b ∈ fp1, H' b = none) ∧ W1 j m H' := fun {s' H'} I' nx => by
              obtain ⟨m', hm, w'⟩ := hNx1 H' nx
              have pin' : ∀ b ∈ fp1, ∀ o, s14.heap.get? b = some o → s'.heap.get? b = some o ∧ H' b = none := fun b hb o e =>
                let z := I'.pin (b, o) (List.mem_append_right _ (List.mem_append_right _ (mem_pinsAt hb e)))
                ⟨z.1, z.2.1⟩
              refine ⟨m', hm, j + 1, H', I'.unpinned.weak (by rw [← hw15, wipe_length]) (fun j v e => by rw [← hw15] at e; exact (wipe_some e).1), T1.keep _ _ _ st14 fun b hb o e => (pin' b hb o e).1, fun b hb => ?_, w'⟩
              obtain ⟨o, e, _⟩ := T1.obj _ _ st14 b hb
              exact (pin' b hb o e).2
            cases b1 with
            | false =>
              simp only [Bool.false_eq_true, if_false] at q16 ⊢
              exact fin1 I16 q16
            | true =>
              simp only [if_true] at q16 ⊢
              refine thnF (pk.run _ s16 σ15 H16 _ I16 q16) fun z s17 ⟨yk, H17, I17, r17, q17⟩ => ?_
              refine thnF (pe.run _ s17 σ15 H17 _ I17 q17) fun z2 s18 ⟨yv, H18, I18, r18, kvs, ky, ek, hD18, hz18, nx⟩ => ?_
              subst ek
              exact d_dictSet (X := X.blk s3 H3 scope ce fp) I18 hD18 hz18 r17 r18 fun s19 I19 => fin1 I19 nx
        exact compStart1D_ok loop1 (T1.self X.A 0 _ _ _ st11 loop1)
  exact codeAny_compStart_dict loop (T.self X.A 0 _ _ _ st4 loop)
/-- as a value -/
theorem pe_dc2 {kx vx tg iter tg1 iter1 : Expr} {ifs ifs1 : List Expr} {scope : Scope} {own : List (Str × Nat)} {vs1 : List Nat} {pos : Pos} {wi wi1 : TI} {g g1 : TG} {tt tt1 : TT} {tk tv : TE} (hc : X.calm = true) (hN : X.N.Nodup) (hi : PI X tg iter wi) (ok : BlkOk X.N X.env.scope scope own) (hv : ∀ i ∈ vs1, i ∈ own.map (·.2))
    (hg : ∀ (s : Shared) (H : Hp) (C : Addr) (cl : List (Str × Addr)) (fp : List Addr), PG (X.blk s H scope (compEnvC scope cl C X.env) fp) tg g) (ht : ∀ (s : Shared) (H : Hp) (C : Addr) (cl : List (Str × Addr)) (fp : List Addr), PTs (X.blk s H scope (compEnvC scope cl C X.env) fp) ifs tt)
    (hi1 : ∀ (s : Shared) (H : Hp) (C : Addr) (cl : List (Str × Addr)) (fp : List Addr), PI (X.blk s H scope (compEnvC scope cl C X.env) fp) tg1 iter1 wi1)
    (hg1 : ∀ (s : Shared) (H : Hp) (C : Addr) (cl : List (Str × Addr)) (fp : List Addr), PG (X.blk s H scope (compEnvC scope cl C X.env) fp) tg1 g1) (ht1 : ∀ (s : Shared) (H : Hp) (C : Addr) (cl : List (Str × Addr)) (fp : List Addr), PTs (X.blk s H scope (compEnvC scope cl C X.env) fp) ifs1 tt1)
    (hk : ∀ (s : Shared) (H : Hp) (C : Addr) (cl : List (Str × Addr)) (fp : List Addr), PE (X.blk s H scope (compEnvC scope cl C X.env) fp) kx tk) (he : ∀ (s : Shared) (H : Hp) (C : Addr) (cl : List (Str × Addr)) (fp : List Addr), PE (X.blk s H scope (compEnvC scope cl C X.env) fp) vx tv) (hs : ∀ x, foldedSetIterable iter X.env x = pure x := by intro _; rfl) (hs1 : ∀ env x, foldedSetIterable iter1 env x = pure x := by intro _ _; rfl) :
    PE X (.DictComp kx vx [⟨tg, iter, ifs, 0⟩, ⟨tg1, iter1, ifs1, 0⟩] scope pos) (tDc2 wi g tt wi1 g1 tt1 tk tv (own.map (·.2)) vs1) := by
  refine ⟨fun pins s σ H Q I h => ?_⟩
  rw [arm_eval_DictComp]
  refine dc2_core hc hN I hi ok hv hg ht hk he hs hi1 hg1 ht1 hs1 h fun D C s' m H' I' q hn f => ⟨m, hn, fun h'' sb => ?_⟩
  obtain ⟨f0, f1, f2, f3, f4, f5⟩ := f
  exact ⟨.ref D, H', I'.turned (t' := s'.toks) (fun b o hb e => (sb.2 b hb).trans e) f0 f1 f3 f4 f5, rfl, q⟩
end

def putS (j : Nat) (kd y : D) (S : Sto) : Option Sto := match S[j]?, kd, y with
  | some (.dic kvs), .p k, .p v => match pyKey k with
    | some k' => if kvs.length < LIM then some (S.set j (.dic (putD kvs k' v))) else none
    | none => none
  | _, _, _ => none
def dcD (j : Nat) (g : FG) (t : FT) (k e : FE) (ρ : Ev) : List D → M Unit
  | [] => fun S => .ok () S
  | d :: r => fun S => match g d ρ S with
    | none => .bad
    | some (ρ1, S1) => (t ρ1 S1).bind fun b S2 => if b = true then (k ρ1 S2).bind (fun kd S3 => (e ρ1 S3).bind fun y S4 => match putS j kd y S4 with
        | some S5 => dcD j g t k e ρ r S5
        | none => .bad) else dcD j g t k e ρ r S2
def dc2D (j : Nat) (g : FG) (t : FT) (f1 : FI) (g1 : FG) (t1 : FT) (k e : FE) (vs1 : List Nat) (ρ : Ev) : List D → M Unit
  | [] => fun S => .ok () S
  | d :: r => fun S => match g d ρ S with
    | none => .bad
    | some (ρ1, S1) => (t ρ1 S1).bind fun b S2 => if b = true then (f1 ρ1 S2).bind (fun ds1 S3 => (dcD j g1 t1 k e (wipeD ρ1 vs1) ds1 S3).bind fun _ S4 => dc2D j g t f1 g1 t1 k e vs1 ρ r S4) else dc2D j g t f1 g1 t1 k e vs1 ρ r S2
def finDI (j : Nat) : M D := fun S => .ok (iceD (.ob j) S).1 (iceD (.ob j) S).2
def finDO (j : Nat) : M D := fun S => .ok (.ob j) S
def eDc (f : FI) (g : FG) (t : FT) (k e : FE) (vs : List Nat) (fin : Nat → M D) : FE := fun ρ S => (f ρ S).bind fun ds S1 => (noErr (dcD S1.length g t k e (wipeD ρ vs) ds (S1 ++ [.dic []]))).bind fun _ S2 => fin S1.length S2
def eDc2 (f : FI) (g : FG) (t : FT) (f1 : FI) (g1 : FG) (t1 : FT) (k e : FE) (vs vs1 : List Nat) (fin : Nat → M D) : FE := fun ρ S => (f ρ S).bind fun ds S1 => (noErr (dc2D S1.length g t f1 g1 t1 k e vs1 (wipeD ρ vs) ds (S1 ++ [.dic []]))).bind fun _ S2 => fin S1.length S2
def FinDOk (fin : Nat → M D) : Prop := ∀ (K : PySem.W.Frag) (W : WX) (σ : L2.St) (H0 H : Hp) (G0 G : Gh) (S0 S : Sto) (j : Nat) (a : Addr) (Q : VK),
  Ext H0 G0 S0 H G S → Rep K H G S → G.ι[j]? = some a → Aft K W σ H0 G0 S0 (fin j S) (QD K Q) → Lk Q (.ref a) H
theorem finDI_ok : FinDOk finDI := fun K W σ H0 H G0 G S0 S j a Q x r ha q => by
  rcases ice_den r (d := .ob j) (v := .ref a) ⟨a, rfl, ha⟩ with ⟨G', x1, r1, d1⟩ | ⟨b, ws, hb, h⟩
  · exact .inl (q H G' (x.trans x1) r1 _ d1)
  · refine .inr ⟨b, .dK ws, hb, trivial, fun od => ?_⟩
    obtain ⟨G', x1, r1, d1⟩ := h od
    exact q _ G' (x.trans x1) r1 _ d1
theorem finDO_ok : FinDOk finDO := fun K W σ H0 H G0 G S0 S j a Q x r ha q => .inl (q H G x r _ ⟨a, rfl, ha⟩)
theorem putS_den {K : PySem.W.Frag} {H : Hp} {G : Gh} {S S' : Sto} {j : Nat} {a : Addr} {kd y : D} {yv zv : V} (rp : Rep K H G S) (ha : G.ι[j]? = some a) (e : putS j kd y S = some S') (hk : Den K H G kd yv) (hy : Den K H G y zv) :
    ∃ kvs k, yv = kV k ∧ H a = some (.dK kvs) ∧ kvs.length < sizeLine ∧ Ext H G S (upd H a (.dK (putK kvs k zv))) G S' ∧ Rep K (upd H a (.dK (putK kvs k zv))) G S' := by
  unfold putS at e
  split at e
  · rename_i kvs k v em
    obtain ⟨ws, e1, e2, t⟩ := rp.ok j a _ ha em
    have r : KvR K G.φ H kvs ws := ⟨e2, t⟩
    split at e
    · rename_i k' ek
      by_cases hl : kvs.length < LIM
      · rw [if_pos hl] at e
        cases e
        have ea := keyPy_of ek
        subst ea
        have ev : yv = kV k' := by
          cases k' with
          | inl i => exact den_int hk
          | inr z => exact den_str hk
        subst ev
        have rr := r.put (k := k') hy
        have x := Ext.chg (o := .dK (putK ws k' zv)) (m' := .dic (putD kvs k' v)) rp ha em (fun z => nomatch z)
        exact ⟨ws, k', rfl, e1, by rw [← r.length]; exact Nat.lt_trans hl LIM_lt, x, rp.chg ha em (fun z => nomatch z) ⟨_, upd_same, rr.ks, x.dnAll rp rr.vs⟩⟩
      · rw [if_neg hl] at e; cases e
    · cases e
  · cases e
theorem Gives.ext {K : PySem.W.Frag} {J : It} {H0 H1 : Hp} {G0 G1 : Gh} {S0 S1 : Sto} {ds : List D} (g : Gives K J H0 G0 S0 ds) (x : Ext H0 G0 S0 H1 G1 S1) : Gives K J H1 G1 S1 ds :=
  ⟨fun H G S x' => g.go H G S (x.trans x'), fun H G S x' => g.yld H G S (x.trans x'), fun H G S x' => g.stop H G S (x.trans x')⟩
theorem dc_loop {K : PySem.W.Frag} {J : It} {ds : List D} {H1 : Hp} {G1 : Gh} {S1 Sn : Sto} {j : Nat} {Da : Addr} {g : FG} {t : FT} {k e : FE} {ρ : Ev} {σ : L2.St} {vs : List Nat} {P : Hp → Prop}
    (gv : Gives K J H1 G1 S1 ds) (rs1 : RelS K H1 G1 ρ (wipe σ vs)) (r1 : Rep K H1 G1 S1) (ha : G1.ι[j]? = some Da) (eo : dcD j g t k e ρ ds S1 = .ok () Sn) (fin : ∀ H G, Ext H1 G1 S1 H G Sn → Rep K H G Sn → P H) :
    ∃ W : Nat → Nat → Hp → Prop, (∃ m, W 0 m H1) ∧ ∀ i m H, W i m H →
      (J.stop i H ∧ P H) ∨ (J.go i H ∧ ∃ Nx : Hp → Prop, (∀ H', Nx H' → ∃ m', m' < m ∧ W (i + 1) m' H') ∧ ∀ x H', J.yld i H x H' → rdG K vs g x (wipe σ vs) H' fun σ2 H2 => wipe σ2 vs = wipe σ vs ∧ rdT K W0 t σ2 H2 fun b H3 =>
        if b = true then rd K W0 k σ2 H3 fun y H4 => rd K W0 e σ2 H4 fun z H5 => ∃ kvs k, y = kV k ∧ H5 Da = some (.dK kvs) ∧ kvs.length < sizeLine ∧ Nx (upd H5 Da (.dK (putK kvs k z))) else Nx H3) := by
  refine ⟨fun i m H => ∃ G S, m = ds.length - i ∧ i ≤ ds.length ∧ Ext H1 G1 S1 H G S ∧ Rep K H G S ∧ dcD j g t k e ρ (ds.drop i) S = .ok () Sn, ⟨ds.length, G1, S1, by simp, Nat.zero_le _, Ext.refl, r1, by simpa using eo⟩, ?_⟩
  rintro i m H ⟨G, S, rfl, hi, x, r, el⟩
  by_cases hlt : i < ds.length
  · refine .inr ⟨gv.go H G S x r i hlt, fun H' => ∃ G' S', Ext H1 G1 S1 H' G' S' ∧ Rep K H' G' S' ∧ dcD j g t k e ρ (ds.drop (i + 1)) S' = .ok () Sn, fun H' ⟨G', S', h1, h2, h3⟩ => ⟨ds.length - (i + 1), by omega, G', S', rfl, hlt, h1, h2, h3⟩, fun v H' y => ?_⟩
    obtain ⟨ex, rp', dv, _⟩ := gv.yld H G S x r i ds[i] (by simp [hlt]) v H' y
    rw [List.drop_eq_getElem_cons hlt] at el
    unfold dcD at el
    split at el
    · cases el
    · rename_i ρ1 S2 eg
      refine ⟨G, S, ρ, ds[i], (x.trans ex).relS r1 rs1, rp', dv, ?_⟩
      rw [eg]
      refine fun H2 G2 x2 r2 σ2 rs2 w2 => ⟨by rw [w2, wipe_wipe], ?_⟩
      have xa := x.trans (ex.trans x2)
      cases et : t ρ1 S2 with
      | bad => rw [et] at el; cases el
      | err _ _ => rw [et] at el; cases el
      | ok bb S3 =>
        rw [et] at el
        refine ⟨G2, S2, ρ1, rs2, r2, Aft.of_ok et fun H3 G3 x3 r3 => ?_⟩
        have xb := xa.trans x3
        cases bb with
        | false =>
          refine L2.iteF ?_
          simp only [Out.bind_ok, if_neg Bool.false_ne_true] at el
          exact ⟨G3, S3, xb, r3, el⟩
        | true =>
          refine L2.iteT ?_
          simp only [Out.bind_ok, if_pos] at el
          cases ek : k ρ1 S3 with
          | bad => rw [ek] at el; cases el
          | err _ _ => rw [ek] at el; cases el
          | ok kd S4 =>
            rw [ek] at el
            have rs3 := x3.relS r2 rs2
            refine ⟨G3, S3, ρ1, rs3, r3, Aft.of_ok ek fun H4 G4 x4 r4 yv dyv => ?_⟩
            simp only [Out.bind_ok] at el
            cases ee : e ρ1 S4 with
            | bad => rw [ee] at el; cases el
            | err _ _ => rw [ee] at el; cases el
            | ok yd S5 =>
              rw [ee] at el
              refine ⟨G4, S4, ρ1, x4.relS r3 rs3, r4, Aft.of_ok ee fun H5 G5 x5 r5 zv dzv => ?_⟩
              simp only [Out.bind_ok] at el
              split at el
              · rename_i S6 ep
                have xc := (xb.trans x4).trans x5
                obtain ⟨kvs, ky, q1, q2, q3, q4, q5⟩ := putS_den r5 (xc.pre _ _ ha) ep (x5.den r4 dyv) dzv
                exact ⟨kvs, ky, q1, q2, q3, G5, S6, xc.trans q4, q5, el⟩
              · cases el
  · have e : i = ds.length := by omega
    subst e
    rw [List.drop_length] at el
    unfold dcD at el
    cases el
    exact .inl ⟨gv.stop H G _ x r, fin H G x r⟩
section
variable {X : Cx} {W : WX}
theorem dc_read {f : FI} {g : FG} {t : FT} {k e : FE} {vs : List Nat} {fin : Nat → M D} (fo : FinDOk fin) {σ : L2.St} {H : Hp} {Q : VK} (q : rd X.K W (eDc f g t k e vs fin) σ H Q) :
    tDc (rdI X.K W f) (rdG X.K vs g) (rdT X.K W0 t) (rd X.K W0 k) (rd X.K W0 e) vs σ H (Lk Q) := by
  obtain ⟨G, S, ρ, rs, rp, q⟩ := q
  refine ⟨G, S, ρ, rs, rp, (Aft.bind q).mono fun ds H1 G1 S1 x1 r1 q1 J gv Da hDa => ?_⟩
  cases eo : dcD S1.length g t k e (wipeD ρ vs) ds (S1 ++ [.dic []]) with
  | bad => rw [eo] at q1; exact q1.elim
  | err x s => rw [eo] at q1; exact q1.elim
  | ok u Sn =>
    rw [eo] at q1
    have q2 : Aft X.K W σ H1 G1 S1 (fin S1.length Sn) (QD X.K Q) := q1
    have xn : Ext H1 G1 S1 (upd H1 Da (.dK [])) (G1.add Da) (S1 ++ [.dic []]) := Ext.new r1 _ hDa
    have rn : Rep X.K (upd H1 Da (.dK [])) (G1.add Da) (S1 ++ [.dic []]) := Rep.new r1 hDa ⟨[], upd_same, rfl, .nil⟩
    have rs1 : RelS X.K (upd H1 Da (.dK [])) (G1.add Da) (wipeD ρ vs) (wipe σ vs) := ((x1.trans xn).relS rp rs).wipe vs
    exact dc_loop (gv.ext xn) rs1 rn (Gh.add_last r1 Da) eo fun H' G' x' r' => fo X.K W σ H1 H' G1 G' S1 Sn S1.length Da Q (xn.trans x') r' (x'.pre _ _ (Gh.add_last r1 Da)) q2
theorem dc2_read {f f1 : FI} {g g1 : FG} {t t1 : FT} {k e : FE} {vs vs1 : List Nat} {fin : Nat → M D} (fo : FinDOk fin) {σ : L2.St} {H : Hp} {Q : VK} (q : rd X.K W (eDc2 f g t f1 g1 t1 k e vs vs1 fin) σ H Q) :
    tDc2 (rdI X.K W f) (rdG X.K vs g) (rdT X.K W0 t) (rdI X.K W0 f1) (rdG X.K vs1 g1) (rdT X.K W0 t1) (rd X.K W0 k) (rd X.K W0 e) vs vs1 σ H (Lk Q) := by
  obtain ⟨G, S, ρ, rs, rp, q⟩ := q
  refine ⟨G, S, ρ, rs, rp, (Aft.bind q).mono fun ds H1 G1 S1 x1 r1 q1 J gv Da hDa => ?_⟩
  cases eo : dc2D S1.length g t f1 g1 t1 k e vs1 (wipeD ρ vs) ds (S1 ++ [.dic []]) with
  | bad => rw [eo] at q1; exact q1.elim
  | err x s => rw [eo] at q1; exact q1.elim
  | ok u Sn =>
    rw [eo] at q1
    have q2 : Aft X.K W σ H1 G1 S1 (fin S1.length Sn) (QD X.K Q) := q1
    have xn : Ext H1 G1 S1 (upd H1 Da (.dK [])) (G1.add Da) (S1 ++ [.dic []]) := Ext.new r1 _ hDa
    have rn : Rep X.K (upd H1 Da (.dK [])) (G1.add Da) (S1 ++ [.dic []]) := Rep.new r1 hDa ⟨[], upd_same, rfl, .nil⟩
    have rs1 : RelS X.K (upd H1 Da (.dK [])) (G1.add Da) (wipeD ρ vs) (wipe σ vs) := ((x1.trans xn).relS rp rs).wipe vs
    have ha := Gh.add_last r1 Da
    have gv := gv.ext xn
    have fin' : ∀ H' G', Ext (upd H1 Da (.dK [])) (G1.add Da) (S1 ++ [.dic []]) H' G' Sn → Rep X.K H' G' Sn → Lk Q (.ref Da) H' := fun H' G' x' r' => fo X.K W σ H1 H' G1 G' S1 Sn S1.length Da Q (xn.trans x') r' (x'.pre _ _ ha) q2
    clear q1 q2
    generalize hj : S1.length = j at eo ha
    generalize hH : upd H1 Da (.dK []) = H2 at rs1 rn gv fin' ⊢
    generalize hG : G1.add Da = G2 at rs1 rn ha gv fin'
    generalize hS : S1 ++ [.dic []] = S2 at rn gv fin' eo
    refine ⟨fun i m H => ∃ G S, m = ds.length - i ∧ i ≤ ds.length ∧ Ext H2 G2 S2 H G S ∧ Rep X.K H G S ∧ dc2D j g t f1 g1 t1 k e vs1 (wipeD ρ vs) (ds.drop i) S = .ok () Sn, ⟨ds.length, G2, S2, by simp, Nat.zero_le _, Ext.refl, rn, by simpa using eo⟩, ?_⟩
    rintro i m H ⟨G, S, rfl, hi, x, r, el⟩
    by_cases hlt : i < ds.length
    · refine .inr ⟨gv.go H G S x r i hlt, fun H' => ∃ G' S', Ext H2 G2 S2 H' G' S' ∧ Rep X.K H' G' S' ∧ dc2D j g t f1 g1 t1 k e vs1 (wipeD ρ vs) (ds.drop (i + 1)) S' = .ok () Sn, fun H' ⟨G', S', h1, h2, h3⟩ => ⟨ds.length - (i + 1), by omega, G', S', rfl, hlt, h1, h2, h3⟩, fun v H' y => ?_⟩
      obtain ⟨ex, rp', dv, _⟩ := gv.yld H G S x r i ds[i] (by simp [hlt]) v H' y
      rw [List.drop_eq_getElem_cons hlt] at el
      unfold dc2D at el
      split at el
      · cases el
      · rename_i ρ1 S3 eg
        refine ⟨G, S, wipeD ρ vs, ds[i], (x.trans ex).relS rn rs1, rp', dv, ?_⟩
        rw [eg]
        refine fun H3 G3 x3 r3 σ2 rs2 w2 => ⟨by rw [w2, wipe_wipe], ?_⟩
        have xa := x.trans (ex.trans x3)
        cases et : t ρ1 S3 with
        | bad => rw [et] at el; cases el
        | err _ _ => rw [et] at el; cases el
        | ok bb S4 =>
          rw [et] at el
          refine ⟨G3, S3, ρ1, rs2, r3, Aft.of_ok et fun H4 G4 x4 r4 => ?_⟩
          have xb := xa.trans x4
          cases bb with
          | false =>
            refine L2.iteF ?_
            simp only [Out.bind_ok, if_neg Bool.false_ne_true] at el
            exact ⟨G4, S4, xb, r4, el⟩
          | true =>
            refine L2.iteT ?_
            simp only [Out.bind_ok, if_pos] at el
            cases ef : f1 ρ1 S4 with
            | bad => rw [ef] at el; cases el
            | err _ _ => rw [ef] at el; cases el
            | ok ds1 S5 =>
              rw [ef] at el
              have rs4 := x4.relS r3 rs2
              refine ⟨G4, S4, ρ1, rs4, r4, Aft.of_ok ef fun H5 G5 x5 r5 J1 gv1 => ?_⟩
              simp only [Out.bind_ok] at el
              cases ed : dcD j g1 t1 k e (wipeD ρ1 vs1) ds1 S5 with
              | bad => rw [ed] at el; cases el
              | err _ _ => rw [ed] at el; cases el
              | ok u1 S6 =>
                rw [ed] at el
                simp only [Out.bind_ok] at el
                have xc := xb.trans x5
                exact dc_loop gv1 ((x5.relS r4 rs4).wipe vs1) r5 (xc.pre _ _ ha) ed fun H' G' x' r' => ⟨G', S6, xc.trans x', r', el⟩
    · have e : i = ds.length := by omega
      subst e
      rw [List.drop_length] at el
      unfold dc2D at el
      cases el
      exact .inl ⟨gv.stop H G _ x r, fin' H G x r⟩
variable {kx vx tg iter tg1 iter1 : Expr} {ifs ifs1 : List Expr} {scope : Scope} {own : List (Str × Nat)} {vs1 : List Nat} {pos : Pos} {f f1 : FI} {g g1 : FG} {t t1 : FT} {k e : FE} {fin : Nat → M D}
theorem de_dc (fo : FinDOk fin) (hc : X.calm = true) (hN : X.N.Nodup) (hi : DI X W tg iter f) (ok : BlkOk X.N X.env.scope scope own)
    (hg : ∀ (s : Shared) (H : Hp) (C : Addr) (cl : List (Str × Addr)) (fp : List Addr), DG (X.blk s H scope (compEnvC scope cl C X.env) fp) (own.map (·.2)) tg g)
    (ht : ∀ (s : Shared) (H : Hp) (C : Addr) (cl : List (Str × Addr)) (fp : List Addr), PTs (X.blk s H scope (compEnvC scope cl C X.env) fp) ifs (rdT X.K W0 t))
    (hk : ∀ (s : Shared) (H : Hp) (C : Addr) (cl : List (Str × Addr)) (fp : List Addr), DE (X.blk s H scope (compEnvC scope cl C X.env) fp) W0 kx k)
    (he : ∀ (s : Shared) (H : Hp) (C : Addr) (cl : List (Str × Addr)) (fp : List Addr), DE (X.blk s H scope (compEnvC scope cl C X.env) fp) W0 vx e) (hs : ∀ x, foldedSetIterable iter X.env x = pure x := by intro _; rfl) :
    DE X W (.DictComp kx vx [⟨tg, iter, ifs, 0⟩] scope pos) (eDc f g t k e (own.map (·.2)) fin) :=
  ⟨PE.imp (PE.lk (pe_dc (g := rdG X.K (own.map (·.2)) g) (tk := rd X.K W0 k) (tv := rd X.K W0 e) hc hN hi.run ok (fun s H C cl fp => (hg s H C cl fp).run) ht (fun s H C cl fp => (hk s H C cl fp).run) (fun s H C cl fp => (he s H C cl fp).run) hs)) fun _ _ _ q => dc_read fo q⟩
theorem de_dc2 (fo : FinDOk fin) (hc : X.calm = true) (hN : X.N.Nodup) (hi : DI X W tg iter f) (ok : BlkOk X.N X.env.scope scope own) (hv : ∀ i ∈ vs1, i ∈ own.map (·.2))
    (hg : ∀ (s : Shared) (H : Hp) (C : Addr) (cl : List (Str × Addr)) (fp : List Addr), DG (X.blk s H scope (compEnvC scope cl C X.env) fp) (own.map (·.2)) tg g)
    (ht : ∀ (s : Shared) (H : Hp) (C : Addr) (cl : List (Str × Addr)) (fp : List Addr), PTs (X.blk s H scope (compEnvC scope cl C X.env) fp) ifs (rdT X.K W0 t))
    (hi1 : ∀ (s : Shared) (H : Hp) (C : Addr) (cl : List (Str × Addr)) (fp : List Addr), DI (X.blk s H scope (compEnvC scope cl C X.env) fp) W0 tg1 iter1 f1)
    (hg1 : ∀ (s : Shared) (H : Hp) (C : Addr) (cl : List (Str × Addr)) (fp : List Addr), DG (X.blk s H scope (compEnvC scope cl C X.env) fp) vs1 tg1 g1)
    (ht1 : ∀ (s : Shared) (H : Hp) (C : Addr) (cl : List (Str × Addr)) (fp : List Addr), PTs (X.blk s H scope (compEnvC scope cl C X.env) fp) ifs1 (rdT X.K W0 t1))
    (hk : ∀ (s : Shared) (H : Hp) (C : Addr) (cl : List (Str × Addr)) (fp : List Addr), DE (X.blk s H scope (compEnvC scope cl C X.env) fp) W0 kx k)
    (he : ∀ (s : Shared) (H : Hp) (C : Addr) (cl : List (Str × Addr)) (fp : List Addr), DE (X.blk s H scope (compEnvC scope cl C X.env) fp) W0 vx e) (hs : ∀ x, foldedSetIterable iter X.env x = pure x := by intro _; rfl) (hs1 : ∀ env x, foldedSetIterable iter1 env x = pure x := by intro _ _; rfl) :
    DE X W (.DictComp kx vx [⟨tg, iter, ifs, 0⟩, ⟨tg1, iter1, ifs1, 0⟩] scope pos) (eDc2 f g t f1 g1 t1 k e (own.map (·.2)) vs1 fin) :=
  ⟨PE.imp (PE.lk (pe_dc2 (g := rdG X.K (own.map (·.2)) g) (g1 := rdG X.K vs1 g1) (wi1 := rdI X.K W0 f1) (tk := rd X.K W0 k) (tv := rd X.K W0 e) hc hN hi.run ok hv (fun s H C cl fp => (hg s H C cl fp).run) ht (fun s H C cl fp => (hi1 s H C cl fp).run) (fun s H C cl fp => (hg1 s H C cl fp).run) ht1 (fun s H C cl fp => (hk s H C cl fp).run) (fun s H C cl fp => (he s H C cl fp).run) hs hs1)) fun _ _ _ q => dc2_read fo q⟩
end
end DL

namespace DL
open PySem L2 PySem.Spec PyProof.Rows PySem.W

section
variable {prog : Program} {w : World} {A : Around} {E : Value → Shared → Prop} {s : Shared} {T : String} {r d : Addr} {n : Nat} {P : Nat → Value → Prop} {OK : Heap → Prop}
theorem code_tuple_src {Q₁ : Value → Shared → Prop} (K : KdlSrc prog w T r d n P OK) (hh : A.handled = none) (hok : OK s.heap) (hn : n ≤ sizeLine)
    (h : ∀ (h' : Heap) (tk : Nat) (acc : Array Value), (∀ b o, s.heap.get? b = some o → h'.get? b = some o) → ItemsOf P acc n →
      Q₁ (.ref h'.objs.size) { s with heap := h'.push { cls := .type "tuple", data := .seq acc }, toks := tk }) :
    codeAny (model prog w) A (.call (.builtin "tuple.__new__") ⟨[.type "tuple", .ref r], []⟩) (wants Q₁ E) s := by
  refine codeAny_of_tree ?_
  show wpAny _ A.in1 (do checkBuiltinCall "tuple.__new__" ⟨[.type "tuple", .ref r], []⟩; again (.builtin "tuple.__new__" ⟨[.type "tuple", .ref r], []⟩)) _ _ s
  refine wpAny_bind (wpAny_of_eq (PySem.F.newCall_tuple_1 _) (wpAny_pure ⟨plainId_quiet PySem.F.plain_tuple_new _, codeAny_builtin PySem.F.entry_tuple_new ?_⟩))
  rw [Around.under_plainId PySem.F.plain_tuple_new _]
  have hsub := sub_tuple_self
  have hinit := init_tuple_lookup
  have hmh := madeHere_tuple
  have hTI : s.TypeIs (.ref r) T := K.type s hok
  have hh1 : A.in1.handled = none := hh
  have hnt := K.notTuple
  have hc : ∀ {R : List Value → Shared → Prop} {E' : Value → Shared → Prop}, (∀ (h' : Heap) (tk : Nat) (acc : Array Value), (∀ b o, s.heap.get? b = some o → h'.get? b = some o) → ItemsOf P acc n → R acc.toList { s with heap := h', toks := tk }) → wpAny (model prog w) A.in1 (collect (.ref r)) R E' s := fun q => kdu_collect (A := A.in1) K hh1 hok hn q
  wp_walk using wpAny_typeOf hTI, hc
  intro h' tk acc hk hacc
  show wpAny _ _ (Builtin.Tuple.tupleExact acc.toList.toArray >>= fun v => ret v) _ _ _
  unfold Builtin.Tuple.tupleExact
  refine wpAny_bind (wpAny_newObj_type ?_ (by show acc.toList.toArray.size ≤ sizeLine; simp only [Array.toArray_toList]; rw [hacc.1]; exact hn))
  refine wpAny_pure ?_
  have e : acc.toList.toArray = acc := by simp
  rw [e]
  exact h h' tk acc hk hacc
theorem call_tuple_src {Q : Value → Shared → Prop} (K : KdlSrc prog w T r d n P OK) (hh : A.handled = none) (hok : OK s.heap) (hn : n ≤ sizeLine)
    (hQ : ∀ (h' : Heap) (tk : Nat) (acc : Array Value), (∀ b o, s.heap.get? b = some o → h'.get? b = some o) → ItemsOf P acc n →
      Q (.ref h'.objs.size) { s with heap := h'.push { cls := .type "tuple", data := .seq acc }, toks := tk }) :
    wpAny (model prog w) A (call (.type "tuple") [.ref r]) Q E s := by
  refine callType_codes (Q₁ := fun obj s₁ => s₁.TypeIs obj "tuple" ∧ Q obj s₁) PySem.F.called_tuple (PySem.F.typeCall_tuple_1 _) PySem.F.entry_object_init
    (code_tuple_src (A := A.in1) K hh hok hn fun h' tk acc hk hacc => ⟨⟨_, Heap.get?_push_size _ rfl, rfl⟩, hQ h' tk acc hk hacc⟩) fun obj s₁ h₁ => ?_
  exact ⟨h₁.1, PySem.F.args_object_init_2 obj _, object_init_meets PySem.F.called_tuple.init.lookup PySem.F.called_tuple.made (by decide) prog w A.in1 _ s₁ ⟨h₁.1, rfl, h₁.2⟩⟩
end
def rTupleD : List V → Hp → VK → Prop := fun xs H Q => ∃ p kvs, xs = [.ref p] ∧ Rd H p (.dK kvs) ∧ ∀ q, H q = none → Q (.ref q) (upd H q (.tup (kvs.map fun kv => kV kv.1)))
theorem call_tuple_dK {X : Cx} (hc : X.calm = true) : CallR X (.type "tuple") rTupleD := by
  intro pins s σ H xs us Q I r h
  obtain ⟨p, kvs, e, hk, q⟩ := h
  subst e
  obtain ⟨u, eu, rx⟩ := vals1 r
  subst eu
  obtain rfl : u = Value.ref p := rx
  obtain ⟨z, lo, vs, rk, hd⟩ := (show ObjOk X.prog X.w H s.heap p (.dK kvs) from hk.ok I.hok)
  obtain ⟨ep, hat⟩ := hd.dictAt
  have hl : kvs.length = vs.length := Paired.length rk
  refine call_tuple_src (PySem.W.kdl_dict (knd := mixKind X.prog X.w) (kvs := vs) (ep := ep) lo) (I.ok.hd hc) hat (by rw [← hl]; exact z) fun h' tk acc' hkeep hacc => ?_
  have I2 : L2.Inv X pins σ H { s with heap := h', toks := tk } := I.kept hkeep
  refine ⟨.ref h'.objs.size, upd H h'.objs.size (.tup (kvs.map fun kv => kV kv.1)), I2.laid (t' := tk) (fun c o e => Heap.get?_push_of_some _ e) (Nat.le_refl _) (show ObjOk X.prog X.w _ _ _ (.tup (kvs.map fun kv => kV kv.1)) from ⟨?_, acc'.toList, ?_, ?_⟩), rfl, q _ (I2.hok.fresh (Nat.le_refl _))⟩
  · rw [List.length_map]; exact z
  · have el : acc'.toList.length = acc'.size := by simp
    refine vals_of_at (by rw [List.length_map, el, hacc.1, hl]) fun j x w h1 h2 => ?_
    obtain ⟨k, y, hky, hi⟩ := hacc.2 j w (by rw [← Array.getElem?_toList]; exact h2)
    have e1 : (kvs.map (·.1))[j]? = some k := by
      rw [KV.keys rk, List.getElem?_map, hky] <;> rfl
    have e2 : (kvs.map fun kv => kV kv.1)[j]? = some (kV k) := by
      have e3 : (kvs.map fun kv => kV kv.1) = (kvs.map (·.1)).map kV := by rw [List.map_map] <;> rfl
      rw [e3, List.getElem?_map, e1] <;> rfl
    rw [e2] at h1
    cases h1
    exact keyIs_rel hi
  · rw [Array.toArray_toList]; exact IsTup.new _ _
/-- the keys as items -/
theorem keys_dn {K : PySem.W.Frag} {φ : List (Addr × HO)} {H : Hp} : ∀ {kvs : List (Key × PyData)} {ws : List (Key × V)}, KvR K φ H kvs ws → DnAll K φ H (kvs.map fun kv => keyPy kv.1) (ws.map fun kv => kV kv.1) := by
  intro kvs ws r
  have e : (kvs.map fun kv => keyPy kv.1) = (kvs.map (·.1)).map keyPy := by rw [List.map_map]; rfl
  have e2 : (ws.map fun kv => kV kv.1) = (ws.map (·.1)).map kV := by rw [List.map_map]; rfl
  rw [e, e2, r.ks]
  generalize ws.map (·.1) = ks
  induction ks with
  | nil => exact .nil
  | cons k ks ih =>
    refine .cons ?_ ih
    cases k with
    | inl i => exact Dn.int i
    | inr z => exact Dn.str z
def tupleXM : List D → M D := fun ds S => match ds with
  | [.p (.tuple xs)] => .ok (.p (.tuple xs)) S
  | [d] => match lstOf S d with
    | some xs => .ok (.p (.tuple xs)) S
    | none => match dicOf S d with
      | some kvs => .ok (.p (.tuple (kvs.map fun kv => keyPy kv.1))) S
      | none => .bad
  | _ => .bad
def listXM (fin : List PyData → M D) : List D → M D := fun ds S => match ds with
  | [d] => match seqOf S d with
    | some xs => fin xs S
    | none => match dicOf S d with
      | some kvs => fin (kvs.map fun kv => keyPy kv.1) S
      | none => .bad
  | _ => .bad
section
variable {X : Cx} {W : WX} {p pos : Pos} {e : Expr} {fa : FA}
theorem de_tupleX (hc : X.calm = true) (hg : Gl X "tuple") (hm : X.mg "tuple" = none) (ha : DA X W [e] fa) (he : starEach [e] X.env = (false, eval e X.env) :: starEach [] X.env := by rfl) : DE X W (.Call (.Name "tuple" p) [e] [] pos) (eA tupleXM fa) :=
  de_callTy (call_tuple_of.or (call_tuple_dK hc)) (by
    intro W σ H G S xs vs Q rp dv q
    unfold tupleXM at q
    split at q
    · obtain ⟨v, rfl, dv1⟩ := denL1 dv
      replace dv := dv1
      obtain ⟨a, us, rfl, hq, t⟩ := den_tup dv
      exact .inl ⟨a, us, rfl, .inr ⟨hq, q.ret rp dv⟩⟩
    · obtain ⟨v, rfl, dv1⟩ := denL1 dv
      replace dv := dv1
      split at q
      · rename_i xs es
        obtain ⟨a, us, rfl, hq, t⟩ := lstOf_den rp es dv
        exact .inl ⟨a, us, rfl, .inl ⟨SqL.of hq, fun l hl => Aft.newTup q rp t hl⟩⟩
      · split at q
        · rename_i kvs es
          obtain ⟨a, ws, rfl, hH, r⟩ := dicOf_den rp es dv
          exact .inr ⟨a, ws, rfl, hH, fun l hl => Aft.newTup q rp (keys_dn r) hl⟩
        · exact q.elim
    · exact q.elim) hg hm (by decide +kernel) ha (by decide) (by decide) he
def rListRd : List V → Hp → VK → Prop := fun xs H Q => ∃ (a : Addr) (kvs : List (Key × V)), xs = [.ref a] ∧ Rd H a (.dK kvs) ∧ ∀ p, H p = none → Q (.ref p) (upd H p (.lst (kvs.map fun kv => kV kv.1)))
theorem sim_listXL {K : PySem.W.Frag} : SimA K (fun xs H Q => rList K xs H Q ∨ rListRd xs H Q) (listXM finL) := by
  intro W σ H G S xs vs Q rp dv q
  unfold listXM at q
  split at q
  · obtain ⟨v, rfl, dv1⟩ := denL1 dv
    replace dv := dv1
    split at q
    · rename_i xs es
      obtain ⟨a, us, rfl, hq, t⟩ := seqOf_den rp es dv
      exact .inl ⟨a, us, rfl, hq, fun l hl => Aft.newLst q rp t hl⟩
    · split at q
      · rename_i kvs es
        obtain ⟨a, ws, rfl, hH, r⟩ := dicOf_den rp es dv
        exact .inr ⟨a, ws, rfl, hH, fun l hl => Aft.newLst q rp (keys_dn r) hl⟩
      · exact q.elim
  · exact q.elim
theorem sim_listXM {K : PySem.W.Frag} : SimA K (fun xs H Q => rList K xs H Q ∨ rListRd xs H Q) (listXM finM) := by
  intro W σ H G S xs vs Q rp dv q
  unfold listXM at q
  split at q
  · obtain ⟨v, rfl, dv1⟩ := denL1 dv
    replace dv := dv1
    split at q
    · rename_i xs es
      obtain ⟨a, us, rfl, hq, t⟩ := seqOf_den rp es dv
      exact .inl ⟨a, us, rfl, hq, fun l hl => Aft.newLstM q rp t hl⟩
    · split at q
      · rename_i kvs es
        obtain ⟨a, ws, rfl, hH, r⟩ := dicOf_den rp es dv
        exact .inr ⟨a, ws, rfl, hH, fun l hl => Aft.newLstM q rp (keys_dn r) hl⟩
      · exact q.elim
  · exact q.elim
theorem de_listX (hc : X.calm = true) (hg : Gl X "list") (hm : X.mg "list" = none) (ha : DA X W [e] fa) (he : starEach [e] X.env = (false, eval e X.env) :: starEach [] X.env := by rfl) : DE X W (.Call (.Name "list" p) [e] [] pos) (eA (listXM finL) fa) :=
  de_callTy (call_list_of.or (call_listD hc)) sim_listXL hg hm (by decide +kernel) ha (by decide) (by decide) he
theorem de_listXM (hc : X.calm = true) (hg : Gl X "list") (hm : X.mg "list" = none) (ha : DA X W [e] fa) (he : starEach [e] X.env = (false, eval e X.env) :: starEach [] X.env := by rfl) : DE X W (.Call (.Name "list" p) [e] [] pos) (eA (listXM finM) fa) :=
  de_callTy (call_list_of.or (call_listD hc)) sim_listXM hg hm (by decide +kernel) ha (by decide) (by decide) he

def unPairs : List PyData → Option (List (Key × PyData))
  | [] => some []
  | .tuple [k, v] :: r => match pyKey k, unPairs r with
    | some key, some kvs => some ((key, v) :: kvs)
    | _, _ => none
  | _ :: _ => none
theorem unPairs_dn {K : PySem.W.Frag} {φ : List (Addr × HO)} {H : Hp} : ∀ {xs : List PyData} {kvs : List (Key × PyData)} {vs : List V}, unPairs xs = some kvs → DnAll K φ H xs vs →
    ∃ (ps : List Addr) (ws : List (Key × V)), vs = ps.map V.ref ∧ Paired (fun p (kv : Key × V) => SqT K H p [kV kv.1, kv.2]) ps ws ∧ KvR K φ H kvs ws := by
  intro xs
  induction xs with
  | nil =>
    intro kvs vs e t
    cases e
    cases t
    exact ⟨[], [], rfl, .nil, .nil⟩
  | cons x r ih =>
    intro kvs vs e t
    cases t with
    | cons h t =>
      unfold unPairs at e
      split at e
      · rename_i hx
        cases hx
      · rename_i k v r' ex
        cases ex
        split at e
        · rename_i key kvs' ek er
          cases e
          obtain ⟨ps, ws, rfl, hp, hr⟩ := ih er t
          obtain ⟨a, us, rfl, hq, tt⟩ := den_tup (G := ⟨[], φ⟩) (show Den K H ⟨[], φ⟩ (.p (.tuple [k, v])) _ from h)
          cases tt with
          | cons h1 t2 =>
            cases t2 with
            | cons h2 t3 =>
              cases t3
              have ekd := keyPy_of ek
              subst ekd
              rename_i v1 v2
              have ev : v1 = kV key := by
                cases key with
                | inl i => exact den_int (G := ⟨[], φ⟩) h1
                | inr z => exact den_str (G := ⟨[], φ⟩) h1
              subst ev
              exact ⟨a :: ps, (key, v2) :: ws, rfl, .cons hq hp, hr.cons h2⟩
        · cases e
      · cases e
def dictPM (fin : List (Key × PyData) → M D) : List D → M D := fun ds S => match ds with
  | [d] => match lstOf S d with
    | some xs => match unPairs xs with
      | some kvs => fin (mergeD kvs) S
      | none => .bad
    | none => .bad
  | _ => .bad
theorem de_dictP (hc : X.calm = true) (hg : Gl X "dict") (hm : X.mg "dict" = none) (ha : DA X W [e] fa) (he : starEach [e] X.env = (false, eval e X.env) :: starEach [] X.env := by rfl) : DE X W (.Call (.Name "dict" p) [e] [] pos) (eA (dictPM finDL) fa) :=
  de_callTy (CallR.lk (call_dictP hc)) (by
    intro W σ H G S xs vs Q rp dv q
    unfold dictPM at q
    split at q
    · obtain ⟨v, rfl, dv1⟩ := denL1 dv
      replace dv := dv1
      split at q
      · rename_i xs es
        obtain ⟨a, us, rfl, hq, t⟩ := lstOf_den rp es dv
        split at q
        · rename_i kvs ek
          obtain ⟨ps, ws, rfl, hp, hr⟩ := unPairs_dn ek t
          have kr := hr.merge .nil
          exact ⟨a, ps, ws, rfl, SqL.of hq, hp, fun l hl => Aft.newDicL q rp kr.ks kr.vs hl⟩
        · exact q.elim
      · exact q.elim
    · exact q.elim) hg hm (by decide +kernel) ha (by decide) (by decide) he
theorem de_dictPM (hc : X.calm = true) (hg : Gl X "dict") (hm : X.mg "dict" = none) (ha : DA X W [e] fa) (he : starEach [e] X.env = (false, eval e X.env) :: starEach [] X.env := by rfl) : DE X W (.Call (.Name "dict" p) [e] [] pos) (eA (dictPM finDM) fa) :=
  de_callTy (call_dictP hc) (by
    intro W σ H G S xs vs Q rp dv q
    unfold dictPM at q
    split at q
    · obtain ⟨v, rfl, dv1⟩ := denL1 dv
      replace dv := dv1
      split at q
      · rename_i xs es
        obtain ⟨a, us, rfl, hq, t⟩ := lstOf_den rp es dv
        split at q
        · rename_i kvs ek
          obtain ⟨ps, ws, rfl, hp, hr⟩ := unPairs_dn ek t
          have kr := hr.merge .nil
          exact ⟨a, ps, ws, rfl, SqL.of hq, hp, fun l hl => Aft.newDicM q rp kr.ks kr.vs hl⟩
        · exact q.elim
      · exact q.elim
    · exact q.elim) hg hm (by decide +kernel) ha (by decide) (by decide) he

theorem rev_get {α : Type} {xs : List α} {i : Nat} {d : α} (e : xs.reverse[i]? = some d) : i < xs.length ∧ xs[xs.length - 1 - i]? = some d := by
  have h : i < xs.reverse.length := (List.getElem?_eq_some_iff.mp e).1
  rw [List.length_reverse] at h
  rw [List.getElem?_reverse h] at e
  exact ⟨h, e⟩
def revIM : D → M (List D) := fun d S => match d with
  | .p (.list xs) => .ok (xs.reverse.map .p) S
  | .p (.tuple xs) => .ok (xs.reverse.map .p) S
  | _ => .bad
def iRevM (f : FE) : FI := fun ρ S => (f ρ S).bind revIM
theorem gives_revL {K : PySem.W.Frag} {H : Hp} {G : Gh} {S : Sto} {a : Addr} {vs : List V} {xs : List PyData} (rp : Rep K H G S) (fa : FL G.φ a vs) (ta : DnAll K G.φ H xs vs) : Gives K (Itv K a vs.length) H G S (xs.reverse.map .p) where
  go := fun H1 G1 S1 x r i hi => by
    rw [List.length_map, List.length_reverse, ta.length] at hi
    exact ⟨hi, vs, vs[vs.length - 1 - i], SqL.of ((fa.mono x.phi) H1 r.phi), by simp⟩
  yld := fun H1 G1 S1 x r i d e v H' y => by
    obtain ⟨rfl, y1⟩ := y
    have e1 := y1 vs (SqL.of ((fa.mono x.phi) H' r.phi))
    obtain ⟨d1, ed1, dn1⟩ := (x.dnAll rp ta).getV e1
    rw [List.getElem?_map, Option.map_eq_some_iff] at e
    obtain ⟨d', e', rfl⟩ := e
    obtain ⟨h1, h2⟩ := rev_get e'
    rw [ta.length] at h2
    rw [ed1] at h2; cases h2
    exact ⟨Ext.refl, r, dn1, .inl rfl⟩
  stop := fun H1 G1 S1 x r => by
    rw [List.length_map, List.length_reverse, ta.length]
    exact Nat.le_refl _
theorem gives_revT {K : PySem.W.Frag} {H : Hp} {G : Gh} {S : Sto} {a : Addr} {vs : List V} {xs : List PyData} (rp : Rep K H G S) (fa : SqT K H a vs) (ta : DnAll K G.φ H xs vs) : Gives K (RT.ItvT K a vs.length) H G S (xs.reverse.map .p) where
  go := fun H1 G1 S1 x r i hi => by
    rw [List.length_map, List.length_reverse, ta.length] at hi
    exact ⟨hi, vs, vs[vs.length - 1 - i], x.tup rp fa, by simp⟩
  yld := fun H1 G1 S1 x r i d e v H' y => by
    obtain ⟨rfl, y1⟩ := y
    have e1 := y1 vs (x.tup rp fa)
    obtain ⟨d1, ed1, dn1⟩ := (x.dnAll rp ta).getV e1
    rw [List.getElem?_map, Option.map_eq_some_iff] at e
    obtain ⟨d', e', rfl⟩ := e
    obtain ⟨h1, h2⟩ := rev_get e'
    rw [ta.length] at h2
    rw [ed1] at h2; cases h2
    exact ⟨Ext.refl, r, dn1, .inl rfl⟩
  stop := fun H1 G1 S1 x r => by
    rw [List.length_map, List.length_reverse, ta.length]
    exact Nat.le_refl _
theorem di_rev {tg : Expr} {f : FE} (hg : Gl X "reversed") (hm : X.mg "reversed" = none) (he : DE X W e f) (hs : starEach [e] X.env = (false, eval e X.env) :: starEach [] X.env := by rfl) : DI X W tg (.Call (.Name "reversed" p) [e] [] pos) (iRevM f) := by
  refine ⟨PI.imp (RT.pi_revA hg hm he.run hs) fun σ H R ⟨G, S, ρ, rs, rp, q⟩ => ⟨G, S, ρ, rs, rp, (Aft.bind q).mono fun d H1 G1 S1 x1 r1 q1 v dv => ?_⟩⟩
  unfold revIM at q1
  split at q1
  · obtain ⟨a, vs, rfl, fa, ta⟩ := den_lst dv
    exact ⟨a, vs, rfl, .inl ⟨SqL.of (fa _ r1.phi), q1 H1 G1 Ext.refl r1 _ (gives_revL r1 fa ta)⟩⟩
  · obtain ⟨a, vs, rfl, hq, ta⟩ := den_tup dv
    exact ⟨a, vs, rfl, .inr ⟨hq, q1 H1 G1 Ext.refl r1 _ (gives_revT r1 hq ta)⟩⟩
  · exact q1.elim
end
end DL

namespace DL
open PySem L2 PySem.Spec PyProof.Rows
section
variable {X : Cx}
theorem ps_setDc {i : Nat} {y : Str} {py : Pos} {kx vx tg iter : Expr} {ifs : List Expr} {scope : Scope} {own : List (Str × Nat)} {pos spos : Pos} {wi : TI} {g : TG} {tt : TT} {tk tv : TE} (hc : X.calm = true) (hN : X.N.Nodup) (hy : X.N[i]? = some y) (hyl : X.env.scope.names.lookup y = some .local)
    (hsw : swapsWith (.DictComp kx vx [⟨tg, iter, ifs, 0⟩] scope pos) (some (.Name y py)) spos.line X.env = pure true) (hi : PI X tg iter wi) (ok : BlkOk X.N X.env.scope scope own)
    (hg : ∀ (s : Shared) (H : Hp) (C : Addr) (cl : List (Str × Addr)) (fp : List Addr), PG (X.blk s H scope (compEnvC scope cl C X.env) fp) tg g) (ht : ∀ (s : Shared) (H : Hp) (C : Addr) (cl : List (Str × Addr)) (fp : List Addr), PTs (X.blk s H scope (compEnvC scope cl C X.env) fp) ifs tt)
    (hk : ∀ (s : Shared) (H : Hp) (C : Addr) (cl : List (Str × Addr)) (fp : List Addr), PE (X.blk s H scope (compEnvC scope cl C X.env) fp) kx tk) (he : ∀ (s : Shared) (H : Hp) (C : Addr) (cl : List (Str × Addr)) (fp : List Addr), PE (X.blk s H scope (compEnvC scope cl C X.env) fp) vx tv) (hs : ∀ x, foldedSetIterable iter X.env x = pure x := by intro _; rfl) :
    PS X (.Assign [.Name y py] (.DictComp kx vx [⟨tg, iter, ifs, 0⟩] scope pos) spos) (tAsg (tDc wi g tt tk tv (own.map (·.2))) (gName i)) := by
  refine ⟨fun pins s σ H D I h => ?_⟩
  rw [exec_Assign_Name_used _ _ _ _ hsw]
  refine wpAny_bind (wpAny_standAt (wpAny_bind ?_))
  show wpAny _ X.A (do let _ ← comprehension (.DictComp kx vx [⟨tg, iter, ifs, 0⟩] scope pos) scope X.env (firstIterPos [⟨tg, iter, ifs, 0⟩] pos) newDict false (eval iter X.env) (some (assign (.Name y py) X.env))) _ _ s
  have h : tDc wi g tt tk tv (own.map (·.2)) σ H (fun x H1 => gName i x σ H1 D.nx) := h
  refine wpAny_bind (thn (dc_core (Qf := fun _ s' => SP X pins D .next s') hc hN I hi ok hg ht hk he hs h fun L C s' m H' I' q hn f => ?_) fun _ s' hq => wpAny_pure (wpAny_pure hq))
  show wpAny _ _ (assign (.Name y py) X.env (.ref L)) _ _ _
  refine wpAny_assign_Name (store_ok2 (v := V.ref L) I' hN hy (.inl hyl) rfl (fun s2 I2 ⟨a, sb, ha⟩ => ?_) (.inr hyl))
  obtain ⟨f0, f1, f2, f3, f4, f5⟩ := f
  have haC : C ≠ a := by
    rcases ha with z | z
    · rw [z]; exact f1
    · exact fun e => f4 y a z e.symm
  refine ⟨m, hn.sameBut sb haC, fun h3 sb3 => ?_⟩
  exact ⟨_, H', I2.turned (t' := s2.toks) (fun b o hb e => (sb3.2 b hb).trans e) f0 f1 f3 f4 f5, q⟩
theorem ps_setDc2 {i : Nat} {y : Str} {py : Pos} {kx vx tg iter tg1 iter1 : Expr} {ifs ifs1 : List Expr} {scope : Scope} {own : List (Str × Nat)} {vs1 : List Nat} {pos spos : Pos} {wi wi1 : TI} {g g1 : TG} {tt tt1 : TT} {tk tv : TE} (hc : X.calm = true) (hN : X.N.Nodup) (hy : X.N[i]? = some y) (hyl : X.env.scope.names.lookup y = some .local)
    (hsw : swapsWith (.DictComp kx vx [⟨tg, iter, ifs, 0⟩, ⟨tg1, iter1, ifs1, 0⟩] scope pos) (some (.Name y py)) spos.line X.env = pure true) (hi : PI X tg iter wi) (ok : BlkOk X.N X.env.scope scope own) (hv : ∀ i ∈ vs1, i ∈ own.map (·.2))
    (hg : ∀ (s : Shared) (H : Hp) (C : Addr) (cl : List (Str × Addr)) (fp : List Addr), PG (X.blk s H scope (compEnvC scope cl C X.env) fp) tg g) (ht : ∀ (s : Shared) (H : Hp) (C : Addr) (cl : List (Str × Addr)) (fp : List Addr), PTs (X.blk s H scope (compEnvC scope cl C X.env) fp) ifs tt)
    (hi1 : ∀ (s : Shared) (H : Hp) (C : Addr) (cl : List (Str × Addr)) (fp : List Addr), PI (X.blk s H scope (compEnvC scope cl C X.env) fp) tg1 iter1 wi1)
    (hg1 : ∀ (s : Shared) (H : Hp) (C : Addr) (cl : List (Str × Addr)) (fp : List Addr), PG (X.blk s H scope (compEnvC scope cl C X.env) fp) tg1 g1) (ht1 : ∀ (s : Shared) (H : Hp) (C : Addr) (cl : List (Str × Addr)) (fp : List Addr), PTs (X.blk s H scope (compEnvC scope cl C X.env) fp) ifs1 tt1)
    (hk : ∀ (s : Shared) (H : Hp) (C : Addr) (cl : List (Str × Addr)) (fp : List Addr), PE (X.blk s H scope (compEnvC scope cl C X.env) fp) kx tk) (he : ∀ (s : Shared) (H : Hp) (C : Addr) (cl : List (Str × Addr)) (fp : List Addr), PE (X.blk s H scope (compEnvC scope cl C X.env) fp) vx tv) (hs : ∀ x, foldedSetIterable iter X.env x = pure x := by intro _; rfl) (hs1 : ∀ env x, foldedSetIterable iter1 env x = pure x := by intro _ _; rfl) :
    PS X (.Assign [.Name y py] (.DictComp kx vx [⟨tg, iter, ifs, 0⟩, ⟨tg1, iter1, ifs1, 0⟩] scope pos) spos) (tAsg (tDc2 wi g tt wi1 g1 tt1 tk tv (own.map (·.2)) vs1) (gName i)) := by
  refine ⟨fun pins s σ H D I h => ?_⟩
  rw [exec_Assign_Name_used _ _ _ _ hsw]
  refine wpAny_bind (wpAny_standAt (wpAny_bind ?_))
  show wpAny _ X.A (do let _ ← comprehension (.DictComp kx vx [⟨tg, iter, ifs, 0⟩, ⟨tg1, iter1, ifs1, 0⟩] scope pos) scope X.env (firstIterPos [⟨tg, iter, ifs, 0⟩, ⟨tg1, iter1, ifs1, 0⟩] pos) newDict false (eval iter X.env) (some (assign (.Name y py) X.env))) _ _ s
  have h : tDc2 wi g tt wi1 g1 tt1 tk tv (own.map (·.2)) vs1 σ H (fun x H1 => gName i x σ H1 D.nx) := h
  refine wpAny_bind (thn (dc2_core (Qf := fun _ s' => SP X pins D .next s') hc hN I hi ok hv hg ht hk he hs hi1 hg1 ht1 hs1 h fun L C s' m H' I' q hn f => ?_) fun _ s' hq => wpAny_pure (wpAny_pure hq))
  show wpAny _ _ (assign (.Name y py) X.env (.ref L)) _ _ _
  refine wpAny_assign_Name (store_ok2 (v := V.ref L) I' hN hy (.inl hyl) rfl (fun s2 I2 ⟨a, sb, ha⟩ => ?_) (.inr hyl))
  obtain ⟨f0, f1, f2, f3, f4, f5⟩ := f
  have haC : C ≠ a := by
    rcases ha with z | z
    · rw [z]; exact f1
    · exact fun e => f4 y a z e.symm
  refine ⟨m, hn.sameBut sb haC, fun h3 sb3 => ?_⟩
  exact ⟨_, H', I2.turned (t' := s2.toks) (fun b o hb e => (sb3.2 b hb).trans e) f0 f1 f3 f4 f5, q⟩
theorem sw_trueD {kx vx : Expr} {gs : List Comprehension} {scope : Scope} {pos py : Pos} {y : Str} {l : Nat} {env : Env} (hk : env.scope.kind = .function) (hy : env.scope.names.lookup y = some .local) (hl : (py.line == pos.line) = true)
    (ha : (scope.names.any fun (n, k) => n == y && (k == .local || k == .cell)) = false) : swapsWith (.DictComp kx vx gs scope pos) (some (.Name y py)) l env = pure true := by
  have ky : env.kindOf y = some .local := hy
  have hb : env.blockKind = .function := by unfold Env.blockKind; rw [hk]; rfl
  unfold swapsWith
  simp only [hb, ky, ha, Expr.pos, hl]
  rfl
end
section
variable {X : Cx} {W : WX} {kx vx tg iter tg1 iter1 : Expr} {ifs ifs1 : List Expr} {scope : Scope} {own : List (Str × Nat)} {vs1 : List Nat} {pos spos : Pos} {f f1 : FI} {g g1 : FG} {t t1 : FT} {k e : FE} {fin : Nat → M D}
theorem ds_setDc {i : Nat} {y : Str} {py : Pos} (fo : FinDOk fin) (hc : X.calm = true) (hN : X.N.Nodup) (hy : X.N[i]? = some y) (hyl : X.env.scope.names.lookup y = some .local)
    (hsw : swapsWith (.DictComp kx vx [⟨tg, iter, ifs, 0⟩] scope pos) (some (.Name y py)) spos.line X.env = pure true) (hi : DI X W tg iter f) (ok : BlkOk X.N X.env.scope scope own)
    (hg : ∀ (s : Shared) (H : Hp) (C : Addr) (cl : List (Str × Addr)) (fp : List Addr), DG (X.blk s H scope (compEnvC scope cl C X.env) fp) (own.map (·.2)) tg g) (ht : ∀ (s : Shared) (H : Hp) (C : Addr) (cl : List (Str × Addr)) (fp : List Addr), PTs (X.blk s H scope (compEnvC scope cl C X.env) fp) ifs (rdT X.K W0 t))
    (hk : ∀ (s : Shared) (H : Hp) (C : Addr) (cl : List (Str × Addr)) (fp : List Addr), DE (X.blk s H scope (compEnvC scope cl C X.env) fp) W0 kx k) (he : ∀ (s : Shared) (H : Hp) (C : Addr) (cl : List (Str × Addr)) (fp : List Addr), DE (X.blk s H scope (compEnvC scope cl C X.env) fp) W0 vx e) (hs : ∀ x, foldedSetIterable iter X.env x = pure x := by intro _; rfl) :
    DS X W (.Assign [.Name y py] (.DictComp kx vx [⟨tg, iter, ifs, 0⟩] scope pos) spos) (sSet i (eDc f g t k e (own.map (·.2)) fin)) := by
  refine ⟨PS.imp (PS.lkN (ps_setDc (g := rdG X.K (own.map (·.2)) g) (tk := rd X.K W0 k) (tv := rd X.K W0 e) hc hN hy hyl hsw hi.run ok (fun s H C cl fp => (hg s H C cl fp).run) ht (fun s H C cl fp => (hk s H C cl fp).run) (fun s H C cl fp => (he s H C cl fp).run) hs)) fun E σ H ⟨G, S, ρ, rs, rp, q⟩ => ?_⟩
  exact dc_read fo ⟨G, S, ρ, rs, rp, (AftS.st q rs rp).mono fun d H1 G1 S1 x1 r1 q1 v dv => AftS.next q1 Ext.refl r1 ((x1.relS rp rs).set dv i)⟩
theorem ds_setDc2 {i : Nat} {y : Str} {py : Pos} (fo : FinDOk fin) (hc : X.calm = true) (hN : X.N.Nodup) (hy : X.N[i]? = some y) (hyl : X.env.scope.names.lookup y = some .local)
    (hsw : swapsWith (.DictComp kx vx [⟨tg, iter, ifs, 0⟩, ⟨tg1, iter1, ifs1, 0⟩] scope pos) (some (.Name y py)) spos.line X.env = pure true) (hi : DI X W tg iter f) (ok : BlkOk X.N X.env.scope scope own) (hv : ∀ i ∈ vs1, i ∈ own.map (·.2))
    (hg : ∀ (s : Shared) (H : Hp) (C : Addr) (cl : List (Str × Addr)) (fp : List Addr), DG (X.blk s H scope (compEnvC scope cl C X.env) fp) (own.map (·.2)) tg g) (ht : ∀ (s : Shared) (H : Hp) (C : Addr) (cl : List (Str × Addr)) (fp : List Addr), PTs (X.blk s H scope (compEnvC scope cl C X.env) fp) ifs (rdT X.K W0 t))
    (hi1 : ∀ (s : Shared) (H : Hp) (C : Addr) (cl : List (Str × Addr)) (fp : List Addr), DI (X.blk s H scope (compEnvC scope cl C X.env) fp) W0 tg1 iter1 f1) (hg1 : ∀ (s : Shared) (H : Hp) (C : Addr) (cl : List (Str × Addr)) (fp : List Addr), DG (X.blk s H scope (compEnvC scope cl C X.env) fp) vs1 tg1 g1) (ht1 : ∀ (s : Shared) (H : Hp) (C : Addr) (cl : List (Str × Addr)) (fp : List Addr), PTs (X.blk s H scope (compEnvC scope cl C X.env) fp) ifs1 (rdT X.K W0 t1))
    (hk : ∀ (s : Shared) (H : Hp) (C : Addr) (cl : List (Str × Addr)) (fp : List Addr), DE (X.blk s H scope (compEnvC scope cl C X.env) fp) W0 kx k) (he : ∀ (s : Shared) (H : Hp) (C : Addr) (cl : List (Str × Addr)) (fp : List Addr), DE (X.blk s H scope (compEnvC scope cl C X.env) fp) W0 vx e) (hs : ∀ x, foldedSetIterable iter X.env x = pure x := by intro _; rfl) (hs1 : ∀ env x, foldedSetIterable iter1 env x = pure x := by intro _ _; rfl) :
    DS X W (.Assign [.Name y py] (.DictComp kx vx [⟨tg, iter, ifs, 0⟩, ⟨tg1, iter1, ifs1, 0⟩] scope pos) spos) (sSet i (eDc2 f g t f1 g1 t1 k e (own.map (·.2)) vs1 fin)) := by
  refine ⟨PS.imp (PS.lkN (ps_setDc2 (g := rdG X.K (own.map (·.2)) g) (g1 := rdG X.K vs1 g1) (wi1 := rdI X.K W0 f1) (tk := rd X.K W0 k) (tv := rd X.K W0 e) hc hN hy hyl hsw hi.run ok hv (fun s H C cl fp => (hg s H C cl fp).run) ht (fun s H C cl fp => (hi1 s H C cl fp).run) (fun s H C cl fp => (hg1 s H C cl fp).run) ht1 (fun s H C cl fp => (hk s H C cl fp).run) (fun s H C cl fp => (he s H C cl fp).run) hs hs1)) fun E σ H ⟨G, S, ρ, rs, rp, q⟩ => ?_⟩
  exact dc2_read fo ⟨G, S, ρ, rs, rp, (AftS.st q rs rp).mono fun d H1 G1 S1 x1 r1 q1 v dv => AftS.next q1 Ext.refl r1 ((x1.relS rp rs).set dv i)⟩
end
end DL

namespace DL
open PySem L2 PySem.Spec PyProof.Rows

def revMM : D → M D := fun d S => match rlOf S d with
  | some xs => .ok (.ob S.length) (S ++ [.lst xs.reverse])
  | none => .bad
theorem de_revM {X : Cx} {W : WX} {e : Expr} {f : FE} {pos p2 : Pos} {k : Nat} {p1 p3 : Pos} (he : DE X W e f) : DE X W (.Subscript e (.Slice none none (some (.UnaryOp .USub (.Constant (.int 1) k p1) p2)) p3) pos) (e1 revMM f) := by
  refine ⟨PE.imp (pe_revL he.run) fun σ H Q ⟨G, S, ρ, rs, rp, q⟩ => ⟨G, S, ρ, rs, rp, (Aft.bind q).mono fun d H1 G1 S1 x1 r1 q1 v dv => ?_⟩⟩
  unfold revMM at q1
  split at q1
  · rename_i xs es
    obtain ⟨a, vs, rfl, hq, t⟩ := rlOf_den r1 es dv
    exact ⟨a, vs, rfl, hq, fun p hp => q1.newLstM r1 t.reverse hp⟩
  · exact q1.elim
def wq (Inv : Ev → Sto → Prop) (R : Fl → Sto → Prop) : Fl → Sto → Prop := fun fl s => match fl with
  | .next ρ => Inv ρ s
  | .cont ρ => Inv ρ s
  | .brk ρ => R (.next ρ) s
  | .ret d => R (.ret d) s
  | .exc x ρ => R (.exc x ρ) s
section
variable {Inv : Ev → Sto → Prop} {R : Fl → Sto → Prop} {ρ : Ev} {s : Sto}
@[simp] theorem wq_next : wq Inv R (.next ρ) s = Inv ρ s := rfl
@[simp] theorem wq_cont : wq Inv R (.cont ρ) s = Inv ρ s := rfl
@[simp] theorem wq_brk : wq Inv R (.brk ρ) s = R (.next ρ) s := rfl
@[simp] theorem wq_ret {d : D} : wq Inv R (.ret d) s = R (.ret d) s := rfl
@[simp] theorem wq_exc {x : Exn} : wq Inv R (.exc x ρ) s = R (.exc x ρ) s := rfl
end
theorem whileD_wp {t : FT} {b : FS} {R : Fl → Sto → Prop} (Inv : Nat → Ev → Sto → Prop)
    (step : ∀ m ρ S, Inv m ρ S → wp (t ρ S) (fun c S1 => if c = true then ∃ m', m = m' + 1 ∧ wpS (b ρ S1) (wq (Inv m') R) else R (.next ρ) S1) (fun x s => R (.exc x ρ) s)) :
    ∀ {f m : Nat} {ρ : Ev} {S : Sto}, m < f → Inv m ρ S → wpS (whileD f t b ρ S) R
  | 0, m, ρ, S, hm, h => absurd hm (Nat.not_lt_zero _)
  | f + 1, m, ρ, S, hm, h => by
    unfold whileD
    rw [wpS_st]
    refine wp_mono (step m ρ S h) (fun c S1 hc => ?_) (fun _ _ h => h)
    cases c with
    | false =>
      rw [if_neg Bool.false_ne_true]
      rw [if_neg Bool.false_ne_true] at hc
      exact hc
    | true =>
      rw [if_pos rfl]
      rw [if_pos rfl] at hc
      obtain ⟨m', rfl, hb⟩ := hc
      cases e : b ρ S1 with
      | none => rw [e] at hb; exact hb.elim
      | some p =>
        obtain ⟨fl, S2⟩ := p
        rw [e] at hb
        cases fl with
        | next ρ' => exact whileD_wp Inv step (by omega) hb
        | cont ρ' => exact whileD_wp Inv step (by omega) hb
        | brk ρ' => exact hb
        | ret d => exact hb
        | exc x ρ' => exact hb
theorem dcD_wp {j : Nat} {g : FG} {t : FT} {k e : FE} {ρ : Ev} {Q : Unit → Sto → Prop} {X : Exn → Sto → Prop} (Inv : Nat → Sto → Prop) : ∀ {ds : List D} {i : Nat} {S : Sto}, Inv i S →
    (∀ l d S, ds[l]? = some d → Inv (i + l) S → wpG (g d ρ S) fun ρ1 S1 => wp (t ρ1 S1) (fun b S2 => if b = true then wp (k ρ1 S2) (fun kd S3 => wp (e ρ1 S3) (fun y S4 => ∃ S5, putS j kd y S4 = some S5 ∧ Inv (i + l + 1) S5) X) X else Inv (i + l + 1) S2) X) →
    (∀ S, Inv (i + ds.length) S → Q () S) → wp (dcD j g t k e ρ ds S) Q X
  | [], i, S, h0, hs, hq => hq S h0
  | d :: r, i, S, h0, hs, hq => by
    have h1 := hs 0 d S rfl h0
    unfold dcD
    cases eg : g d ρ S with
    | none => rw [eg] at h1; exact h1.elim
    | some p =>
      obtain ⟨ρ1, S1⟩ := p
      rw [eg] at h1
      have h1 : wp (t ρ1 S1) _ _ := h1
      show wp ((t ρ1 S1).bind _) Q X
      rw [wp_bind]
      refine wp_mono h1 (fun b S2 hb => ?_) (fun _ _ h => h)
      have rec_ : ∀ S, Inv (i + 0 + 1) S → wp (dcD j g t k e ρ r S) Q X := fun S hI => dcD_wp Inv (i := i + 0 + 1) hI (fun l d' S' he hi => by
        have := hs (l + 1) d' S' (by simpa using he) (by rwa [show i + (l + 1) = i + 0 + 1 + l by omega])
        rwa [show i + (l + 1) + 1 = i + 0 + 1 + l + 1 by omega] at this) (fun S hI => hq S (by rwa [List.length_cons, show i + (r.length + 1) = i + 0 + 1 + r.length by omega]))
      cases b with
      | false =>
        rw [if_neg Bool.false_ne_true] at hb ⊢
        exact rec_ _ hb
      | true =>
        rw [if_pos rfl] at hb ⊢
        rw [wp_bind]
        refine wp_mono hb (fun kd S3 hk => ?_) (fun _ _ h => h)
        rw [wp_bind]
        refine wp_mono hk (fun y S4 hy => ?_) (fun _ _ h => h)
        obtain ⟨S5, e5, hI⟩ := hy
        rw [e5]
        exact rec_ _ hI
theorem dc2D_wp {j : Nat} {g : FG} {t : FT} {f1 : FI} {g1 : FG} {t1 : FT} {k e : FE} {vs1 : List Nat} {ρ : Ev} {Q : Unit → Sto → Prop} {X : Exn → Sto → Prop} (Inv : Nat → Sto → Prop) : ∀ {ds : List D} {i : Nat} {S : Sto}, Inv i S →
    (∀ l d S, ds[l]? = some d → Inv (i + l) S → wpG (g d ρ S) fun ρ1 S1 => wp (t ρ1 S1) (fun b S2 => if b = true then wp (f1 ρ1 S2) (fun ds1 S3 => wp (dcD j g1 t1 k e (wipeD ρ1 vs1) ds1 S3) (fun _ S4 => Inv (i + l + 1) S4) X) X else Inv (i + l + 1) S2) X) →
    (∀ S, Inv (i + ds.length) S → Q () S) → wp (dc2D j g t f1 g1 t1 k e vs1 ρ ds S) Q X
  | [], i, S, h0, hs, hq => hq S h0
  | d :: r, i, S, h0, hs, hq => by
    have h1 := hs 0 d S rfl h0
    unfold dc2D
    cases eg : g d ρ S with
    | none => rw [eg] at h1; exact h1.elim
    | some p =>
      obtain ⟨ρ1, S1⟩ := p
      rw [eg] at h1
      have h1 : wp (t ρ1 S1) _ _ := h1
      show wp ((t ρ1 S1).bind _) Q X
      rw [wp_bind]
      refine wp_mono h1 (fun b S2 hb => ?_) (fun _ _ h => h)
      have rec_ : ∀ S, Inv (i + 0 + 1) S → wp (dc2D j g t f1 g1 t1 k e vs1 ρ r S) Q X := fun S hI => dc2D_wp Inv (i := i + 0 + 1) hI (fun l d' S' he hi => by
        have := hs (l + 1) d' S' (by simpa using he) (by rwa [show i + (l + 1) = i + 0 + 1 + l by omega])
        rwa [show i + (l + 1) + 1 = i + 0 + 1 + l + 1 by omega] at this) (fun S hI => hq S (by rwa [List.length_cons, show i + (r.length + 1) = i + 0 + 1 + r.length by omega]))
      cases b with
      | false =>
        rw [if_neg Bool.false_ne_true] at hb ⊢
        exact rec_ _ hb
      | true =>
        rw [if_pos rfl] at hb ⊢
        rw [wp_bind]
        refine wp_mono hb (fun ds1 S3 hk => ?_) (fun _ _ h => h)
        rw [wp_bind]
        exact wp_mono hk (fun _ S4 hI => rec_ _ hI) (fun _ _ h => h)
section
variable {f : FI} {g : FG} {t : FT} {f1 : FI} {g1 : FG} {t1 : FT} {k e : FE} {vs vs1 : List Nat} {fin : Nat → M D} {ρ : Ev} {S : Sto} {Q : D → Sto → Prop} {X : Exn → Sto → Prop}
@[simp] theorem eDc_ : eDc f g t k e vs fin ρ S = (f ρ S).bind fun ds S1 => (noErr (dcD S1.length g t k e (wipeD ρ vs) ds (S1 ++ [.dic []]))).bind fun _ S2 => fin S1.length S2 := rfl
@[simp] theorem eDc2_ : eDc2 f g t f1 g1 t1 k e vs vs1 fin ρ S = (f ρ S).bind fun ds S1 => (noErr (dc2D S1.length g t f1 g1 t1 k e vs1 (wipeD ρ vs) ds (S1 ++ [.dic []]))).bind fun _ S2 => fin S1.length S2 := rfl
theorem finDI_ok' {j : Nat} {kvs : List (Key × PyData)} (h : S[j]? = some (.dic kvs)) : finDI j S = .ok (.p (.dict (pyKv kvs))) (S.set j .dead) := by simp [finDI, iceD, h]
@[simp] theorem finDO_ {j : Nat} : finDO j S = .ok (.ob j) S := rfl
@[simp] theorem iRevM_ {h : FE} : iRevM h ρ S = (h ρ S).bind revIM := rfl
@[simp] theorem revIM_t {xs : List PyData} : revIM (.p (.tuple xs)) S = .ok (xs.reverse.map .p) S := rfl
@[simp] theorem revIM_l {xs : List PyData} : revIM (.p (.list xs)) S = .ok (xs.reverse.map .p) S := rfl
@[simp] theorem tupleXM_t {xs : List PyData} : tupleXM [.p (.tuple xs)] S = .ok (.p (.tuple xs)) S := rfl
@[simp] theorem tupleXM_l {xs : List PyData} : tupleXM [.p (.list xs)] S = .ok (.p (.tuple xs)) S := rfl
theorem tupleXM_d {d : D} {kvs : List (Key × PyData)} (h0 : lstOf S d = none) (h1 : ∀ xs, d ≠ .p (.tuple xs)) (h : dicOf S d = some kvs) : tupleXM [d] S = .ok (.p (.tuple (kvs.map fun kv => keyPy kv.1))) S := by
  cases d with
  | p x => cases x <;> simp_all [tupleXM]
  | ob i => simp [tupleXM, h0, h]
  | ro x => simp [tupleXM, h0, h]
  | ext x => simp [tupleXM, h0, h]
@[simp] theorem listXM_l {fin : List PyData → M D} {xs : List PyData} : listXM fin [.p (.list xs)] S = fin xs S := rfl
@[simp] theorem listXM_t {fin : List PyData → M D} {xs : List PyData} : listXM fin [.p (.tuple xs)] S = fin xs S := rfl
theorem revMM_ok {d : D} {xs : List PyData} (h : rlOf S d = some xs) : revMM d S = .ok (.ob S.length) (S ++ [.lst xs.reverse]) := by simp [revMM, h]
end
end DL

namespace DL
open PySem L2 PySem.Spec PyProof.Rows

theorem zip_no_len : typeLookup (.type "zip") "__len__" = pure none := am_miss_of_fast (by decide +kernel)
theorem zip_no_hint : typeLookup (.type "zip") "__length_hint__" = pure none := am_miss_of_fast (by decide +kernel)
theorem hint_zip {prog : Program} {w : World} {A : Around} {E : Value → Shared → Prop} {s : Shared} {r : Addr} {Q : Bool → Shared → Prop} (hT : s.TypeIs (.ref r) "zip") (h : Q true s) : wpAny (model prog w) A (Builtin.List.listLengthHint (.ref r)) Q E s := by
  unfold Builtin.List.listLengthHint
  refine wpAny_bind (wpAny_specialOf hT zip_no_len ?_)
  show wpAny _ A (specialOf (Value.ref r) (Str.ofString "__length_hint__") >>= _) _ _ _
  refine wpAny_bind (wpAny_specialOf hT zip_no_hint ?_)
  exact wpAny_pure h
section
variable {X : Cx} {pins : List (Addr × Obj)} {σ : L2.St} {A : Around} {R : Result → Shared → Prop} {b1 b2 : Bool} {a b z TI TO i1 i2 L : Addr} {xs ys : List V} {res : Value}
theorem ext_loop (hh : A.handled = none) (D : ZipApart z TI TO i1 i2 a b) (Pv : Nat → Hp → Prop) (hL : L ∉ [z, TI, TO, i1, i2])
    (sq : ∀ i H, Pv i H → SqX X.K b1 H a xs ∧ SqX X.K b2 H b ys)
    (step : ∀ i H T x y, Pv i H → xs[i]? = some x → ys[i]? = some y → H T = none → ∃ ws, H L = some (.lst ws) ∧ ws.length < sizeLine ∧ Pv (i + 1) (upd (upd H T (.tup [x, y])) L (.lst (ws ++ [.ref T]))))
    (fin : ∀ H s, L2.Inv X pins σ H s → Pv (min xs.length ys.length) H → R (.ok (.ret res)) s) :
    ∀ (k i : Nat) (s : Shared) (H : Hp), min xs.length ys.length - i = k → i ≤ min xs.length ys.length → L2.Inv X pins σ H s → (∀ c ∈ [z, TI, TO, i1, i2], FpOk X pins H c) → ZSt s.heap z TI TO → IsPair s.heap TI (.ref i1) (.ref i2) → (∃ x y, IsPair s.heap TO x y) → ItX b1 s.heap i1 a i → ItX b2 s.heap i2 b i → Pv i H →
      codeAny (model X.prog X.w) A (.builtin "list.extend.loop" ⟨[.ref L, .ref z, res], []⟩) R s := by
  intro k
  induction k with
  | zero =>
    intro i s H hk hi I hf hz hTI hTO h1 h2 hp
    have hin : i = min xs.length ys.length := by omega
    subst hin
    obtain ⟨hqx, hqy⟩ := sq _ _ hp
    obtain ⟨its, rv, p, _⟩ := inv_X I hqx
    obtain ⟨its2, rv2, p2, _⟩ := inv_X I hqy
    obtain ⟨x0, y0, hTO⟩ := hTO
    have l1 := rv.length
    have l2 := rv2.length
    have g1 : min xs.length ys.length ≤ its.toArray.size := by simp; omega
    have g2 : min xs.length ys.length ≤ its2.toArray.size := by simp; omega
    have g3 : min xs.length ys.length = its.toArray.size ∨ min xs.length ys.length = its2.toArray.size := by simp; omega
    refine codeAny_builtin PySem.F.entry_extend_loop ?_
    rw [Around.under_plainId PySem.F.plain_extend_loop _]
    show wpAny _ A.in1 (pyNext (.ref z) >>= _) _ _ s
    refine wpAny_bind (pyNext_zipX_end (sep_of D) (draws_X (prog := X.prog) (w := X.w) (A := A.in1.in1) hh b1 i1 a D.l1i1 its.toArray) (draws_X (prog := X.prog) (w := X.w) (A := A.in1.in1) hh b2 i2 b D.l2i2 its2.toArray) hz hTI hTO ⟨h1, p⟩ ⟨h2, p2⟩ g1 g2 g3 fun h' tk hk => ?_)
    exact wpAny_pure (fin H _ (I.turnedL (t' := tk) (ch := [z, TI, TO, i1, i2]) (fun c o hb q =>
      hk c o (fun q' => hb (by simp [q'])) (fun q' => hb (by simp [q'])) (fun q' => hb (by simp [q'])) (fun q' => hb (by simp [q'])) q) hf) hp)
  | succ k ih =>
    intro i s H hk hi I hf hz hTI hTO h1 h2 hp
    obtain ⟨hqx, hqy⟩ := sq _ _ hp
    obtain ⟨its, rv, p, _⟩ := inv_X I hqx
    obtain ⟨its2, rv2, p2, _⟩ := inv_X I hqy
    obtain ⟨x0, y0, hTO⟩ := hTO
    have hi1 : i < xs.length := by omega
    have hi2 : i < ys.length := by omega
    have hx : xs[i]? = some xs[i] := List.getElem?_eq_getElem hi1
    have hy : ys[i]? = some ys[i] := List.getElem?_eq_getElem hi2
    generalize xs[i] = x at hx
    generalize ys[i] = y at hy
    obtain ⟨u, hu, ru⟩ := rv.get hx
    obtain ⟨u2, hu2, ru2⟩ := rv2.get hy
    have hl1 : i < its.toArray.size := by have := (List.getElem?_eq_some_iff.mp hu).1; simpa using this
    have hl2 : i < its2.toArray.size := by have := (List.getElem?_eq_some_iff.mp hu2).1; simpa using this
    refine codeAny_builtin PySem.F.entry_extend_loop ?_
    rw [Around.under_plainId PySem.F.plain_extend_loop _]
    show wpAny _ A.in1 (pyNext (.ref z) >>= _) _ _ s
    refine wpAny_bind (pyNext_zipX_item (sep_of D) (draws_X (prog := X.prog) (w := X.w) (A := A.in1.in1) hh b1 i1 a D.l1i1 its.toArray) (draws_X (prog := X.prog) (w := X.w) (A := A.in1.in1) hh b2 i2 b D.l2i2 its2.toArray) hz hTI hTO ⟨h1, p⟩ ⟨h2, p2⟩ hl1 hl2 fun u' u2' h' tk e1 e2 z' TO' h1' h2' hT hsz hk => ?_)
    have eu : u' = u := by
      have h2 : its.toArray[i]? = some u := by simpa using hu
      rw [h2] at e1; cases e1; rfl
    have eu2 : u2' = u2 := by
      have h2 : its2.toArray[i]? = some u2 := by simpa using hu2
      rw [h2] at e2; cases e2; rfl
    subst eu eu2
    have new : ObjOk X.prog X.w (upd H s.heap.objs.size (.tup [x, y])) h' s.heap.objs.size (.tup [x, y]) :=
      ⟨by show 2 ≤ sizeLine; decide, [u', u2'], .cons ru (.cons ru2 .nil), ⟨_, hT, rfl, _, rfl⟩⟩
    have I1 : L2.Inv X pins σ (upd H s.heap.objs.size (.tup [x, y])) { s with heap := h', toks := tk } :=
      I.turnedNew (t' := tk) (ch := [z, TI, TO, i1, i2]) (fun c o hb q => hk c o (fun q' => hb (by simp [q'])) (fun q' => hb (by simp [q'])) (fun q' => hb (by simp [q'])) (fun q' => hb (by simp [q'])) q) hf (Nat.le_refl _) new
    have hTn : H s.heap.objs.size = none := I.hok.fresh (Nat.le_refl _)
    obtain ⟨ws, hLw, hwl, hp'⟩ := step i H s.heap.objs.size x y hp hx hy hTn
    have hLne : L ≠ s.heap.objs.size := fun e => by rw [e, hTn] at hLw; cases hLw
    have hL1 : (upd H s.heap.objs.size (.tup [x, y])) L = some (.lst ws) := by rw [upd_ne hLne]; exact hLw
    obtain ⟨hz', its3, n3, ri, e3⟩ := I1.hok L _ hL1
    have e3 : h'.get? L = some { cls := .type "list", dict := none, data := .seq its3.toArray n3, slots := #[] } := e3
    show wpAny _ A.in1 (updateSeq L (·.push (.ref s.heap.objs.size)) >>= _) _ _ _
    have hlen := ri.length
    refine wpAny_bind (wpAny_updateSeq (s := { s with heap := h', toks := tk }) e3 rfl (wpAny_pure ⟨plainId_quiet PySem.F.plain_extend_loop _, ?_⟩) (by simp; omega) (by simp; omega))
    have hself := Heap.get?_update_self (Obj.mapSeq (·.push (Value.ref s.heap.objs.size))) e3 rfl
    have oth : ∀ c o, c ≠ L → h'.get? c = some o → (h'.update L (Obj.mapSeq (·.push (Value.ref s.heap.objs.size)))).get? c = some o := fun c o hc e => (Heap.get?_update_other _ _ (Ne.symm hc)).trans e
    have zl : z ≠ L := fun e => hL (by simp [e])
    have TIl : TI ≠ L := fun e => hL (by simp [e])
    have TOl : TO ≠ L := fun e => hL (by simp [e])
    have i1l : i1 ≠ L := fun e => hL (by simp [e])
    have i2l : i2 ≠ L := fun e => hL (by simp [e])
    have I2 : L2.Inv X pins σ (upd (upd H s.heap.objs.size (.tup [x, y])) L (.lst (ws ++ [.ref s.heap.objs.size]))) { s with heap := h'.update L (Obj.mapSeq (·.push (Value.ref s.heap.objs.size))), toks := tk } := by
      refine I1.write (t' := tk) (by rw [hL1]; trivial) (.inl rfl) (fun c o hc q => oth c o hc q) ⟨_, hself⟩ ⟨by rw [List.length_append]; exact hwl, its3 ++ [.ref s.heap.objs.size], n3 + 1, ri.append (.cons (show RelV (V.ref s.heap.objs.size) (Value.ref s.heap.objs.size) from rfl) .nil), ?_⟩
      rw [hself]
      simp [Obj.mapSeq]
    refine ih (i + 1) _ _ (by omega) (by omega) I2 (fun c hcm => ?_) ?_ ?_ ?_ ?_ ?_ hp'
    · have hclt : c < s.heap.objs.size := by
        have e' : c = z ∨ c = TI ∨ c = TO ∨ c = i1 ∨ c = i2 := by simpa using hcm
        rcases e' with q | q | q | q | q
        · rw [q]; obtain ⟨f0, f, e, _⟩ := hz; exact Heap.lt_size e
        · rw [q]; exact Heap.lt_size hTI
        · rw [q]; exact Heap.lt_size hTO
        · rw [q]; obtain ⟨_, e1, _⟩ := h1.obj; exact Heap.lt_size e1
        · rw [q]; obtain ⟨_, e2, _⟩ := h2.obj; exact Heap.lt_size e2
      refine ⟨?_, (hf c hcm).2⟩
      rw [upd_ne (fun e : c = L => hL (e ▸ hcm)), upd_ne (Nat.ne_of_lt hclt)]
      exact (hf c hcm).1
    · obtain ⟨f0, f, e, q⟩ := z'
      exact ⟨f0, f, oth z _ zl e, q⟩
    · exact oth TI _ TIl (hk _ _ D.TIz D.TITO D.TIi1 D.TIi2 hTI)
    · obtain ⟨c1, c2, e⟩ := TO'
      exact ⟨c1, c2, oth TO _ TOl e⟩
    · exact h1'.1.at fun o q => oth i1 o i1l q
    · exact h2'.1.at fun o q => oth i2 o i2l q
end
/-- list(zip(e, e2)), L the new list -/
def tListZip (K : PySem.W.Frag) (ta : TA) : TE := fun σ H Q => ta σ H fun vs H1 => ∃ a b xs ys b1 b2, vs = [.ref a, .ref b] ∧ SqX K b1 H1 a xs ∧ SqX K b2 H1 b ys ∧ ∀ L, H1 L = none → ∃ Pv : Nat → Hp → Prop, Pv 0 (upd H1 L (.lst [])) ∧
  (∀ i H, Pv i H → SqX K b1 H a xs ∧ SqX K b2 H b ys) ∧
  (∀ i H T x y, Pv i H → xs[i]? = some x → ys[i]? = some y → H T = none → ∃ ws, H L = some (.lst ws) ∧ ws.length < sizeLine ∧ Pv (i + 1) (upd (upd H T (.tup [x, y])) L (.lst (ws ++ [.ref T])))) ∧
  ∀ H, Pv (min xs.length ys.length) H → Q (.ref L) H
theorem pe_listZip {X : Cx} {e e2 : Expr} {ta : TA} {p pos p2 pos2 : Pos} (hc : X.calm = true) (hgl : Gl X "list") (hml : X.mg "list" = none) (hg : Gl X "zip") (hm : X.mg "zip" = none) (ha : PA X [e, e2] ta)
    (hs : starEach [e, e2] X.env = (false, eval e X.env) :: starEach [e2] X.env := by rfl) (hpl : (backTo pos2 (starEach [e2] X.env)).any (·.1) = false := by rfl)
    (hs0 : starEach [.Call (.Name "zip" p2) [e, e2] [] pos2] X.env = (false, eval (.Call (.Name "zip" p2) [e, e2] [] pos2) X.env) :: starEach [] X.env := by rfl) :
    PE X (.Call (.Name "list" p) [.Call (.Name "zip" p2) [e, e2] [] pos2] [] pos) (tListZip X.K ta) := by
  refine ⟨fun pins s σ H Q I h => ?_⟩
  refine Call_ (ld_blt I hgl hml boot_list (PyProof.Rows.callWith_type1 (args_cons (Call_ (ld_blt I hg hm PyProof.Rows.boot_zip (PyProof.Rows.callWith_type1 (thn (ha.run pos2 pins s σ H _ I h) fun us s1 ⟨vs, H1, I1, r1, q1⟩ => ?_) hs hpl))) hs0) hs0))
  obtain ⟨a, b, xs, ys, b1, b2, ex, hqx, hqy, q⟩ := q1
  subst ex
  cases r1 with
  | cons r rr =>
    cases rr with
    | cons r' rr =>
      cases rr
      cases r
      cases r'
      obtain ⟨its, rv, p1, la⟩ := inv_X I1 hqx
      obtain ⟨its2, rv2, p2', lb⟩ := inv_X I1 hqy
      refine zip_begins2 (begins_X b1 a its.toArray) (begins_X b2 b its2.toArray) p1 p2' fun h' hz hTI hTO h1 h2 hsz hk => args_nil ?_
      have I2 : L2.Inv X pins σ H1 { s1 with heap := h' } := I1.kept (t' := s1.toks) hk
      have hh : X.A.handled = none := I2.ok.hd hc
      generalize hN : h'.objs.size = N at hsz
      generalize hz0 : s1.heap.objs.size + 4 = z at hz ⊢
      generalize hTI0 : s1.heap.objs.size + 2 = TI at hz hTI
      generalize hTO0 : s1.heap.objs.size + 3 = TO at hz hTO
      generalize hi10 : s1.heap.objs.size = i1 at hTI h1
      have D : ZipApart z TI TO i1 (s1.heap.objs.size + 1) a b := by
        rw [← hz0, ← hTI0, ← hTO0, ← hi10]
        exact PySem.W.ktu_apart s1.heap.objs.size a b la lb
      generalize hi20 : s1.heap.objs.size + 1 = i2 at hTI h2 D
      have e12 : i1 + 1 = i2 := by omega
      rw [e12] at hTI
      have hLf : N ∉ [z, TI, TO, i1, i2] := by simp; omega
      have hLn : H1 N = none := I1.hok.fresh (by omega)
      obtain ⟨Pv, hp0, hsq, hst, hfin⟩ := q N hLn
      have hzl : z < N := by omega
      refine callType_codes (Q₁ := fun obj s₁ => obj = .ref N ∧ s₁ = { s1 with heap := h'.push { cls := .type "list", data := .seq #[] } }) PySem.F.called_list (PySem.F.typeCall_list_1 _) PySem.F.entry_list_init
        (code_list_new _ (by rw [← hN]; exact ⟨rfl, rfl⟩)) fun obj s₁ h₁ => ?_
      obtain ⟨rfl, rfl⟩ := h₁
      have hS : (h'.push { cls := .type "list", data := .seq #[] }).get? N = some { cls := .type "list", data := .seq #[] } := by rw [← hN]; exact Heap.get?_push_size _ rfl
      refine ⟨⟨_, hS, rfl⟩, PySem.F.args_list_init_2 _ _, ?_⟩
      show wpAny _ _ (do let old ← Builtin.List.listItems (.ref N); Builtin.List.listUpdate (.ref N) (fun _ => #[]); letGo old.toList.reverse; Builtin.List.listExtendWith (.ref N) (.ref z) .none) _ _ _
      refine wpAny_bind ?_
      unfold Builtin.List.listItems
      refine wpAny_bind (wpAny_seqItems hS rfl (wpAny_pure ?_))
      show wpAny _ _ (updateSeq N (fun _ => #[]) >>= fun _ => letGo (#[] : Array Value).toList.reverse >>= fun _ => Builtin.List.listExtendWith (.ref N) (.ref z) .none) _ _ _
      refine wpAny_bind (wpAny_updateSeq hS rfl ?_)
      have hS₂ := Heap.get?_update_self (Obj.mapSeq (fun _ => (#[] : Array Value))) hS rfl
      have oth : ∀ c o, c ≠ N → h'.get? c = some o → ((h'.push { cls := .type "list", data := .seq #[] }).update N (Obj.mapSeq (fun _ => (#[] : Array Value)))).get? c = some o :=
        fun c o hc e => (Heap.get?_update_other _ _ (Ne.symm hc)).trans (Heap.get?_push_of_some _ e)
      refine wpAny_bind (wpAny_letGo ?_)
      unfold Builtin.List.listExtendWith
      refine wpAny_bind (wpAny_typeOf (T := "zip") ⟨_, oth z _ (Nat.ne_of_lt hzl) hz, rfl⟩ ?_)
      have e1 : Builtin.List.listSameRef (.ref N) (.ref z) = false := by
        have hne : N ≠ z := Nat.ne_of_gt hzl
        simp [Builtin.List.listSameRef, hne]
      have e2 : (Value.type "zip" == Value.type "list") = false := by decide
      have e3 : (Value.type "zip" == Value.type "tuple") = false := by decide
      simp only [e1, e2, e3, Bool.or_false, Bool.false_eq_true, if_false]
      refine wpAny_bind (pyIter_zipX (TI := TI) (TO := TO) ⟨_, _, oth z _ (Nat.ne_of_lt hzl) hz, .inl rfl⟩ ?_)
      refine wpAny_bind (wpAny_holding (hint_zip ⟨_, oth z _ (Nat.ne_of_lt hzl) hz, rfl⟩ ?_))
      refine wpAny_ite_split (fun _ => ?_) (fun hab => absurd rfl hab)
      refine wpAny_bind (wpAny_rule ?_)
      refine wpAny_bind ?_
      show wpAny _ _ (updateSeq N (·.push .none) >>= fun _ => updateSeq N (·.pop)) _ _ _
      refine wpAny_bind (wpAny_updateSeq hS₂ rfl ?_)
      have hS₃ := Heap.get?_update_self (Obj.mapSeq (·.push Value.none)) hS₂ rfl
      refine wpAny_updateSeq (hz := by seq_fits) hS₃ rfl ?_
      have hS₄ := Heap.get?_update_self (Obj.mapSeq (·.pop)) hS₃ rfl
      have oth2 : ∀ c o, c ≠ N → h'.get? c = some o → ((((h'.push { cls := .type "list", data := .seq #[] }).update N (Obj.mapSeq (fun _ => (#[] : Array Value)))).update N (Obj.mapSeq (·.push Value.none))).update N (Obj.mapSeq (·.pop))).get? c = some o :=
        fun c o hc e => (Heap.get?_update_other _ _ (Ne.symm hc)).trans ((Heap.get?_update_other _ _ (Ne.symm hc)).trans (oth c o hc e))
      have I3 : L2.Inv X pins σ (upd H1 N (.lst [])) { s1 with heap := ((((h'.push { cls := .type "list", data := .seq #[] }).update N (Obj.mapSeq (fun _ => (#[] : Array Value)))).update N (Obj.mapSeq (·.push Value.none))).update N (Obj.mapSeq (·.pop))) } := by
        refine I2.laid (t' := s1.toks) (fun c o e => oth2 c o (by have := Heap.lt_size e; rw [hN] at this; exact Nat.ne_of_lt this) e) (by show h'.objs.size ≤ N; omega) ⟨Nat.zero_le _, [], _, .nil, hS₄⟩
      have zs : ZSt ((((h'.push { cls := .type "list", data := .seq #[] }).update N (Obj.mapSeq (fun _ => (#[] : Array Value)))).update N (Obj.mapSeq (·.push Value.none))).update N (Obj.mapSeq (·.pop))) z TI TO := ⟨_, _, oth2 z _ (Nat.ne_of_lt hzl) hz, .inl rfl⟩
      have x1 := itX_of (b := b1) (oth2 i1 _ (by omega) h1)
      have x2 := itX_of (b := b2) (oth2 i2 _ (by omega) h2)
      refine wpAny_pure ⟨plainId_quiet PySem.F.plain_extend_loop _, ext_loop (X := X) (pins := pins) (σ := σ) (A := X.A.in1) (L := N) hh D Pv hLf hsq hst (fun H s I hp => ⟨rfl, .ref N, H, I, rfl, hfin H hp⟩) _ 0 _ _ rfl (Nat.zero_le _) I3 (fun c hcm => ?_) zs (oth2 TI _ (by omega) hTI) ⟨_, _, oth2 TO _ (by omega) hTO⟩ x1 x2 hp0⟩
      have hle : s1.heap.objs.size ≤ c := by
        have e' : c = z ∨ c = TI ∨ c = TO ∨ c = i1 ∨ c = i2 := by simpa using hcm
        rcases e' with z | z | z | z | z <;> rw [z] <;> omega
      obtain ⟨f0, f1⟩ := I1.fpOk (pins := pins) (H' := H1) hle (I1.hok.fresh hle)
      exact ⟨by rw [upd_ne (fun e : c = N => hLf (e ▸ hcm))]; exact f0, f1⟩
def zipQ : List PyData → List PyData → List PyData
  | x :: xs, y :: ys => .tuple [x, y] :: zipQ xs ys
  | _, _ => []
theorem zipQ_len : ∀ (xs ys : List PyData), (zipQ xs ys).length = min xs.length ys.length
  | [], _ => by simp [zipQ]
  | _ :: _, [] => by simp [zipQ]
  | x :: xs, y :: ys => by simp only [zipQ, List.length_cons, zipQ_len xs ys]; omega
theorem zipQ_get : ∀ (xs ys : List PyData) (i : Nat) (x y : PyData), xs[i]? = some x → ys[i]? = some y → (zipQ xs ys)[i]? = some (.tuple [x, y])
  | [], _, i, x, y, h, _ => by simp at h
  | _ :: _, [], i, x, y, _, h => by simp at h
  | a :: xs, b :: ys, 0, x, y, h1, h2 => by simp at h1 h2; simp [zipQ, h1, h2]
  | a :: xs, b :: ys, i + 1, x, y, h1, h2 => by
    simp only [zipQ, List.getElem?_cons_succ]
    exact zipQ_get xs ys i x y (by simpa using h1) (by simpa using h2)
def listZipM (fin : List PyData → M D) : List D → M D := fun ds S1 => match ds with
  | [d, e] => match seqX d, seqX e with
    | some (_, xs), some (_, ys) => if (zipQ xs ys).length ≤ LIM then fin (zipQ xs ys) S1 else .bad
    | _, _ => .bad
  | _ => .bad
theorem de_listZip {X : Cx} {W : WX} {e e2 : Expr} {fa : FA} {fin : List PyData → M D} {p pos p2 pos2 : Pos} (fo : FinOk fin) (hc : X.calm = true) (hgl : Gl X "list") (hml : X.mg "list" = none) (hg : Gl X "zip") (hm : X.mg "zip" = none) (ha : DA X W [e, e2] fa)
    (hs : starEach [e, e2] X.env = (false, eval e X.env) :: starEach [e2] X.env := by rfl) (hpl : (backTo pos2 (starEach [e2] X.env)).any (·.1) = false := by rfl)
    (hs0 : starEach [.Call (.Name "zip" p2) [e, e2] [] pos2] X.env = (false, eval (.Call (.Name "zip" p2) [e, e2] [] pos2) X.env) :: starEach [] X.env := by rfl) :
    DE X W (.Call (.Name "list" p) [.Call (.Name "zip" p2) [e, e2] [] pos2] [] pos) (eA (listZipM fin) fa) := by
  refine ⟨PE.imp (pe_listZip hc hgl hml hg hm ha.run hs hpl hs0) fun σ H Q ⟨G, S, ρ, rs, rp, q⟩ => ⟨G, S, ρ, rs, rp, (Aft.bind q).mono fun ds H1 G1 S1 x1 r1 q1 vs dv => ?_⟩⟩
  unfold listZipM at q1
  split at q1
  · split at q1
    · rename_i d e' b1 xs b2 ys e1 e3
      obtain ⟨v1, v2, rfl, d1, d2⟩ := denL2 dv
      obtain ⟨a, vs, rfl, fa, ta⟩ := src_of e1 d1
      obtain ⟨b, ws, rfl, fb, tb⟩ := src_of e3 d2
      by_cases hl : (zipQ xs ys).length ≤ LIM
      · rw [if_pos hl] at q1
        refine ⟨a, b, vs, ws, b1, b2, rfl, fa.sq r1 Ext.refl r1, fb.sq r1 Ext.refl r1, fun L hLn => ?_⟩
        have hmin : min vs.length ws.length = (zipQ xs ys).length := by rw [zipQ_len, ta.length, tb.length]
        refine ⟨fun i H => ∃ us, Ext H1 G1 S1 H G1 S1 ∧ Rep X.K H G1 S1 ∧ Beside H G1 L (.lst us) ∧ DnAll X.K G1.φ H ((zipQ xs ys).take i) us ∧ us.length = i ∧ i ≤ (zipQ xs ys).length, ?_, ?_, ?_, ?_⟩
        · exact ⟨[], Ext.other r1 hLn, Rep.other r1 hLn, ⟨upd_same, r1.notIn hLn, r1.notPhi hLn⟩, .nil, rfl, Nat.zero_le _⟩
        · rintro i H ⟨us, x, r, bs, t, hu, hi⟩
          exact ⟨fa.sq r1 x r, fb.sq r1 x r⟩
        · rintro i H T x y ⟨us, xe, r, bs, t, hu, hi⟩ hx hy hT
          obtain ⟨dx, ex, dnx⟩ := (xe.dnAll r1 ta).getV hx
          obtain ⟨dy, ey, dny⟩ := (xe.dnAll r1 tb).getV hy
          obtain ⟨p1, p2, p3⟩ := pair_new r hT dnx dny
          have hz := zipQ_get xs ys i dx dy ex ey
          have hlt : i < (zipQ xs ys).length := (List.getElem?_eq_some_iff.mp hz).1
          have b2' := bs.ext p1
          refine ⟨us, bs.at_, by rw [hu]; exact Nat.lt_of_lt_of_le hlt (Nat.le_trans hl LIM_le), us ++ [.ref T], (xe.trans p1).aside hLn, p2.aside b2', ⟨upd_same, b2'.ι, b2'.φ⟩, ?_, by simp [hu], hlt⟩
          rw [List.take_succ, hz]
          exact (dn_aside b2'.at_ (p1.dnAll r t)).append (dn_aside b2'.at_ (.cons p3 .nil))
        · rintro H ⟨us, xe, r, bs, t, hu, hi⟩
          rw [hmin, List.take_length] at t
          refine fo X.K W σ H1 H G1 G1 S1 S1 (zipQ xs ys) us L Q xe hLn r bs t fun S' d ef H' G' x' r' v dv => ?_
          rw [ef] at q1
          exact q1 H' G' x' r' v dv
      · rw [if_neg hl] at q1; exact q1.elim
    · exact q1.elim
  · exact q1.elim
end DL

namespace DL
open PySem L2 PySem.Spec PyProof.Rows

def leS (x y : Str) : Prop := ¬ y.cps.toList < x.cps.toList
theorem leS_trans {x y z : Str} (h1 : leS x y) (h2 : leS y z) : leS x z := fun h => by
  have a := List.not_lt.mp h1
  have b := List.not_lt.mp h2
  exact absurd h (List.not_lt.mpr (List.le_trans a b))
theorem leS_total (x y : Str) : leS x y ∨ leS y x := by
  by_cases h : y.cps.toList < x.cps.toList
  · exact .inr fun h2 => absurd (List.lt_trans h h2) (List.lt_irrefl _)
  · exact .inl h
theorem leS_anti {x y : Str} (h1 : leS x y) (h2 : leS y x) : x = y := by
  have e : x.cps.toList = y.cps.toList := List.le_antisymm (List.not_lt.mp h1) (List.not_lt.mp h2)
  obtain ⟨a⟩ := x
  obtain ⟨b⟩ := y
  have : a = b := by
    have := congrArg List.toArray e
    simpa using this
  rw [this]
def ltB (x y : Str) : Bool := decide (x.cps.toList < y.cps.toList)
/-- insertion -/
def insS (x : Str) : List Str → List Str
  | [] => [x]
  | y :: r => if ltB y x = true then y :: insS x r else x :: y :: r
def sortS : List Str → List Str
  | [] => []
  | x :: r => insS x (sortS r)
theorem insS_perm (x : Str) : ∀ l : List Str, (insS x l).Perm (x :: l)
  | [] => .refl _
  | y :: r => by
    unfold insS
    split
    · exact ((insS_perm x r).cons y).trans (.swap x y r)
    · exact .refl _
theorem sortS_perm : ∀ l : List Str, (sortS l).Perm l
  | [] => .refl _
  | x :: r => (insS_perm x (sortS r)).trans ((sortS_perm r).cons x)
theorem insS_pw {x : Str} : ∀ {l : List Str}, l.Pairwise leS → (insS x l).Pairwise leS
  | [], _ => by simp [insS]
  | y :: r, h => by
    obtain ⟨h1, h2⟩ := List.pairwise_cons.mp h
    unfold insS
    split
    · rename_i hlt
      have hyx : leS y x := by
        have : y.cps.toList < x.cps.toList := by simpa [ltB] using hlt
        exact fun h => absurd (List.lt_trans this h) (List.lt_irrefl _)
      refine List.pairwise_cons.mpr ⟨fun z hz => ?_, insS_pw h2⟩
      rcases List.mem_cons.mp ((insS_perm x r).mem_iff.mp hz) with rfl | hz
      · exact hyx
      · exact h1 z hz
    · rename_i hlt
      have hxy : leS x y := by
        have : ¬ y.cps.toList < x.cps.toList := by simpa [ltB] using hlt
        exact this
      refine List.pairwise_cons.mpr ⟨fun z hz => ?_, h⟩
      rcases List.mem_cons.mp hz with rfl | hz
      · exact hxy
      · exact leS_trans hxy (h1 z hz)
theorem sortS_pw : ∀ l : List Str, (sortS l).Pairwise leS
  | [] => .nil
  | x :: r => insS_pw (sortS_pw r)
theorem pw_of_rising : ∀ {l : List Str} {p : Str}, risingS p l = true → (p :: l).Pairwise leS
  | [], p, _ => by simp
  | x :: r, p, h => by
    have h : (!ltCps x.cps.toList p.cps.toList && risingS x r) = true := h
    simp only [Bool.and_eq_true, Bool.not_eq_true', ltCps_eq, decide_eq_false_iff_not] at h
    have ih := pw_of_rising h.2
    refine List.pairwise_cons.mpr ⟨fun z hz => ?_, ih⟩
    rcases List.mem_cons.mp hz with rfl | hz
    · exact h.1
    · exact leS_trans (show leS p x from h.1) ((List.pairwise_cons.mp ih).1 z hz)
theorem pw_of_sorted {l : List Str} (h : sortedS l = true) : l.Pairwise leS := by
  cases l with
  | nil => exact .nil
  | cons x r => exact pw_of_rising h
theorem perm_uniq : ∀ {l m : List Str}, l.Pairwise leS → m.Pairwise leS → l.Perm m → l = m
  | [], m, _, _, h => (List.nil_perm.mp h).symm
  | x :: l, [], _, _, h => absurd h (by simp)
  | x :: l, y :: m, h1, h2, h => by
    have e : x = y := by
      have hx : x ∈ y :: m := h.mem_iff.mp (by simp)
      have hy : y ∈ x :: l := h.mem_iff.mpr (by simp)
      rcases List.mem_cons.mp hx with hx | hx
      · exact hx
      · rcases List.mem_cons.mp hy with hy | hy
        · exact hy.symm
        · exact leS_anti ((List.pairwise_cons.mp h1).1 y hy) ((List.pairwise_cons.mp h2).1 x hx)
    subst e
    rw [perm_uniq (List.pairwise_cons.mp h1).2 (List.pairwise_cons.mp h2).2 (List.Perm.cons_inv h)]
theorem sortS_uniq {l ys : List Str} (hp : ys.Perm l) (hs : sortedS ys = true) : ys = sortS l :=
  perm_uniq (pw_of_sorted hs) (sortS_pw l) (hp.trans (sortS_perm l).symm)
def txtsP : List PyData → Option (List Str)
  | [] => some []
  | .str x :: r => match txtsP r with
    | some xs => some (x :: xs)
    | none => none
  | _ :: _ => none
theorem txtsP_map (xs : List Str) : txtsP (xs.map .str) = some xs := by
  induction xs with
  | nil => rfl
  | cons x r ih => simp [txtsP, ih]
theorem txtsP_eq : ∀ {ds : List PyData} {xs : List Str}, txtsP ds = some xs → ds = xs.map .str
  | [], xs, h => by cases h; rfl
  | d :: r, xs, h => by
    unfold txtsP at h
    split at h
    · rename_i e; cases e
    · rename_i x r' e
      cases e
      split at h
      · rename_i ys e2
        cases h
        rw [txtsP_eq e2]; rfl
      · cases h
    · cases h
theorem txts_dn {K : PySem.W.Frag} {φ : List (Addr × HO)} {H : Hp} : ∀ {xs : List Str} {vs : List V}, DnAll K φ H (xs.map .str) vs → vs = xs.map V.str
  | [], _, .nil => rfl
  | x :: r, _, .cons h t => by cases h; rw [txts_dn t]; rfl
theorem dn_strs {K : PySem.W.Frag} {φ : List (Addr × HO)} {H : Hp} : ∀ xs : List Str, DnAll K φ H (xs.map .str) (xs.map V.str)
  | [] => .nil
  | x :: r => .cons (.str x) (dn_strs r)
def sortedM : List D → M D := fun ds S => match ds with
  | [d] => match lstOf S d with
    | some xs => match txtsP xs with
      | some ks => if ks.length < 64 then .ok (.p (.list ((sortS ks).map .str))) S else .bad
      | none => .bad
    | none => match dicOf S d with
      | some kvs => match txtsP (kvs.map fun kv => keyPy kv.1) with
        | some ks => if ks.length < 64 then .ok (.p (.list ((sortS ks).map .str))) S else .bad
        | none => .bad
      | none => .bad
  | _ => .bad
theorem keys_inr {kvs : List (Key × PyData)} {ks : List Str} (h : (kvs.map fun kv => keyPy kv.1) = ks.map .str) : kvs.map (·.1) = ks.map Sum.inr := by
  induction kvs generalizing ks with
  | nil => cases ks with | nil => rfl | cons _ _ => simp at h
  | cons p r ih =>
    cases ks with
    | nil => simp at h
    | cons k ks =>
      simp only [List.map_cons, List.cons.injEq] at h ⊢
      refine ⟨?_, ih h.2⟩
      obtain ⟨a, b⟩ := p
      cases a with
      | inl i => exact absurd h.1 (by simp [keyPy])
      | inr z => have := h.1; simp [keyPy] at this; rw [this]
theorem de_sorted {X : Cx} {W : WX} {e : Expr} {fa : FA} {p pos : Pos} (hc : X.calm = true) (hg : Gl X "sorted") (hm : X.mg "sorted" = none) (ha : DA X W [e] fa) (he : starEach [e] X.env = (false, eval e X.env) :: starEach [] X.env := by rfl) : DE X W (.Call (.Name "sorted" p) [e] [] pos) (eA sortedM fa) :=
  de_callB (cr_sortedS.or (call_sortedD hc)) (by
    intro W σ H G S xs vs Q rp dv q
    unfold sortedM at q
    split at q
    · obtain ⟨v, rfl, dv1⟩ := denL1 dv
      replace dv := dv1
      split at q
      · rename_i xs es
        obtain ⟨a, us, rfl, hq, t⟩ := lstOf_den rp es dv
        split at q
        · rename_i ks ek
          have e2 := txtsP_eq ek
          subst e2
          have e3 := txts_dn t
          subst e3
          by_cases hl : ks.length < 64
          · rw [if_pos hl] at q
            refine .inl ⟨a, ks, rfl, SqL.of hq, hl, fun ys p hp hs hn => ?_⟩
            rw [sortS_uniq hp hs]
            exact Aft.newLst q rp (dn_strs _) hn
          · rw [if_neg hl] at q; exact q.elim
        · exact q.elim
      · split at q
        · rename_i kvs es
          obtain ⟨a, ws, rfl, hH, r⟩ := dicOf_den rp es dv
          split at q
          · rename_i ks ek
            have e2 := keys_inr (txtsP_eq ek)
            by_cases hl : ks.length < 64
            · rw [if_pos hl] at q
              refine .inr ⟨a, ws, ks, rfl, hH, by rw [← r.ks]; exact e2, hl, fun ys p hp hs hn => ?_⟩
              rw [sortS_uniq hp hs]
              exact Aft.newLst q rp (dn_strs _) hn
            · rw [if_neg hl] at q; exact q.elim
          · exact q.elim
        · exact q.elim
    · exact q.elim) hg hm (by decide +kernel) ha (by decide) (by decide) he
end DL

namespace DL
open PySem L2

theorem lcO_wp {cs : List PyData} {i l : Nat} {n c : Int} {g : FG} {e : FE} {ρ : Ev} {ds : List D} {S : Sto} {Q : List PyData → Sto → Prop} {X : Exn → Sto → Prop} (L : Nat) (P : PyData → Prop) (hc : 0 ≤ c) (hl : ds.length ≤ L) (h : Tape cs i l n S)
    (st : ∀ d ∈ ds, ∀ n' S, n ≤ n' → n' + c ≤ n + L * c → Tape cs i l n' S → wpG (g d ρ S) fun ρ1 S1 => wp (e ρ1 S1) (fun y S2 => ∃ z, y = .p z ∧ P z ∧ Tape cs i l (n' + c) S2 ∧ Oth i S S2) X)
    (f : ∀ zs S', zs.length = ds.length → (∀ z ∈ zs, P z) → Tape cs i l (n + L * c) S' → Oth i S S' → Q zs S') : wp (lcD g tYesD e ρ ds S) Q X := by
  refine lcD_wp (fun j ys S' => ys.length = j ∧ (∀ y ∈ ys, P y) ∧ Tape cs i l (n + j * c) S' ∧ Oth i S S') (j := 0) (ys := []) ⟨rfl, (fun y hy => nomatch hy), by simpa using h, Oth.refl⟩ ?_ ?_
  · rintro j d ys S' he ⟨h1, h2, h3, h4⟩
    have hj : j < ds.length := (List.getElem?_eq_some_iff.mp he).1
    rw [Nat.zero_add] at h1 h3 ⊢
    have hs : ((j + 1 : Nat) : Int) * c = j * c + c := by rw [show ((j + 1 : Nat) : Int) = (j : Int) + 1 by omega, Int.add_mul, Int.one_mul]
    have hb : ((j + 1 : Nat) : Int) * c ≤ L * c := Int.mul_le_mul_of_nonneg_right (by omega) hc
    have hz : 0 ≤ (j : Int) * c := Int.mul_nonneg (by omega) hc
    have q := st d (List.mem_of_getElem? he) (n + j * c) S' (by omega) (by omega) h3
    cases eg : g d ρ S' with
    | none => rw [eg] at q; exact q
    | some p =>
      obtain ⟨ρ1, S1⟩ := p
      rw [eg] at q
      have q : wp (e ρ1 S1) _ X := q
      simp only [wpG_some, tYes_, wp_ok, if_true]
      refine wp_mono q (fun y s ⟨z, e1, e2, e3, e4⟩ => ⟨z, e1, by simp [h1], fun y hy => ?_, by rw [hs, ← Int.add_assoc]; exact e3, h4.trans e4⟩) fun _ _ h => h
      rcases List.mem_append.mp hy with hy | hy
      · exact h2 y hy
      · simp at hy; rw [hy]; exact e2
  · rintro zs S' ⟨h1, h2, h3, h4⟩
    have hb : ((0 + ds.length : Nat) : Int) * c ≤ L * c := Int.mul_le_mul_of_nonneg_right (by omega) hc
    exact f zs S' (by simpa using h1) (by simpa using h2) (h3.mono (by omega)) h4
theorem lcDT {cs : List PyData} {i l : Nat} {n : Int} {S S' : Sto} (h : Tape cs i l n S) (h' : Tape cs i l n S') : S'.length = S.length := h'.1.trans h.1.symm
end DL

namespace DL
open PySem L2 PySem.Spec PyProof.Rows

abbrev lob (ts : List Value) (c : Nat) : Obj := { cls := .type "list", data := .seq ts.toArray c }
section
variable {prog : Program} {w : World} {A : Around} {R : Result → Shared → Prop} {I ax : Addr} {items : Array Value}
theorem sum_lists_loop (hh : A.in1.handled = none) (hxI : ax ≠ I) (S : Addr) (hSI : S ≠ I) (hSx : S ≠ ax) :
    ∀ (rest : List (Addr × List Value)) (i : Nat) (s : Shared) (T : Addr) (ts : List Value) (c cT : Nat), i + rest.length = items.size → (∀ j p, rest[j]? = some p → items[i + j]? = some (.ref p.1)) → s.heap.IsListIter I ax i → s.heap.IsList ax items →
    s.heap.get? S = some (lob [.ref T] c) → s.heap.get? T = some (lob ts cT) → T ≠ S → T ≠ I →
    (∀ p ∈ rest, p.1 ≠ I ∧ p.1 ≠ S ∧ ∃ cap, s.heap.get? p.1 = some (lob p.2 cap)) → ts.length + (rest.flatMap (·.2)).length ≤ sizeLine →
    (∀ h' T' c', (∀ b o, b ≠ I → b ≠ S → s.heap.get? b = some o → h'.get? b = some o) → (rest = [] → T' = T) → (rest ≠ [] → s.heap.objs.size ≤ T') → h'.get? T' = some (lob (ts ++ rest.flatMap (·.2)) c') → R (.ok (.ret (.ref T'))) { s with heap := h' }) →
    codeAny (model prog w) A (.builtin "sum.loop" ⟨[.ref I, .ref S, rawInt 2, rawInt 0], []⟩) R s := by
  intro rest
  induction rest with
  | nil =>
    intro i s T ts c cT hi hit hIt hAx hS hT hTS hTI hj hsz hR
    refine codeAny_builtin F.entry_sum_loop ?_
    rw [Around.under_plainId F.plain_sum_loop _]
    show wpAny _ A.in1 (seqItems? (.ref S) >>= _) _ _ s
    refine wpAny_bind (wpAny_seqItems hS rfl ?_)
    show wpAny _ A.in1 (tryCatch (pyNext (.ref I)) _ >>= _) _ _ s
    refine wpAny_bind (wpAny_tryCatch (wpAny_pyNext_list_end hh hIt hAx (by simp at hi; simp [hi]) fun h' hk' => ?_))
    exact wpAny_pure (hR h' T cT (fun b o hb _ e => hk' b o hb e) (fun _ => rfl) (fun z => absurd rfl z) (by simpa using hk' T _ hTI hT))
  | cons p rest ih =>
    intro i s T ts c cT hi hit hIt hAx hS hT hTS hTI hj hsz hR
    refine codeAny_builtin F.entry_sum_loop ?_
    rw [Around.under_plainId F.plain_sum_loop _]
    show wpAny _ A.in1 (seqItems? (.ref S) >>= _) _ _ s
    refine wpAny_bind (wpAny_seqItems hS rfl ?_)
    show wpAny _ A.in1 (tryCatch (pyNext (.ref I)) _ >>= _) _ _ s
    refine wpAny_bind (wpAny_tryCatch (wpAny_pyNext_list_item hIt hAx (by simpa using hit 0 p rfl) fun h' hIt' hsb => ?_))
    have hk' : ∀ b o, b ≠ I → s.heap.get? b = some o → h'.get? b = some o := fun b o hb e => (hsb.2 b hb).trans e
    have hAx' : h'.IsList ax items := hAx.extBut hsb.extBut hxI
    have hS' := hk' S _ hSI hS
    have hT' := hk' T _ hTI hT
    obtain ⟨hpI, hpS, cap, hP⟩ := hj p (by simp)
    have hP' := hk' _ _ hpI hP
    have hsz' : ts.length + p.2.length + (rest.flatMap (·.2)).length ≤ sizeLine := by
      simp only [List.flatMap_cons, List.length_append] at hsz
      omega
    show wpAny _ A.in1 ((holding [Value.ref p.1] (binaryOp .Add (.ref T) (.ref p.1))).attempt >>= _) _ _ _
    refine wpAny_bind (wpAny_attempt (wpAny_holding (PySem.P.add_list (items := ts.toArray) (items2 := p.2.toArray) hT' hP' ?_ (by simp; omega))))
    have ea : ts.toArray ++ p.2.toArray = (ts ++ p.2).toArray := by simp
    rw [ea]
    have hIlt : I < h'.objs.size := by
      obtain ⟨_, e, _⟩ := hIt'
      exact Heap.lt_size e
    have hSn : S ≠ h'.objs.size := Nat.ne_of_lt (Heap.lt_size hS')
    have hS2 : (h'.push (lob (ts ++ p.2) 0)).get? S = some (lob [.ref T] c) := Heap.get?_push_of_some _ hS'
    have hT2 : (h'.push (lob (ts ++ p.2) 0)).get? h'.objs.size = some (lob (ts ++ p.2) 0) := Heap.get?_push_size _ rfl
    show wpAny _ A.in1 (updateSeq S (fun _ => #[.ref h'.objs.size]) >>= _) _ _ _
    refine wpAny_bind ?_
    refine wpAny_updateSeq hS2 rfl ?_
    have hS3 := Heap.get?_update_self (Obj.mapSeq fun _ => #[Value.ref h'.objs.size]) hS2 rfl
    refine wpAny_bind (wpAny_letGo ?_)
    refine wpAny_bind ?_
    have other : ∀ b o, b ≠ S → (h'.push (lob (ts ++ p.2) 0)).get? b = some o → (((h'.push (lob (ts ++ p.2) 0)).update S (Obj.mapSeq fun _ => #[Value.ref h'.objs.size])).update S (Obj.mapSeq fun _ => #[Value.ref h'.objs.size])).get? b = some o := fun b o hb e =>
      (Heap.get?_update_other _ _ (Ne.symm hb)).trans ((Heap.get?_update_other _ _ (Ne.symm hb)).trans e)
    refine wpAny_updateSeq hS3 rfl (wpAny_pure ⟨plainId_quiet F.plain_sum_loop _, ih (i + 1) _ h'.objs.size (ts ++ p.2) _ 0 (by simp at hi ⊢; omega) (fun j q hq => ?_) ?_ ?_ (Heap.get?_update_self _ hS3 rfl) (other _ _ (Ne.symm hSn) hT2) (Ne.symm hSn) (Ne.symm (Nat.ne_of_lt hIlt)) ?_ (by rw [List.length_append]; omega) fun h'' T'' c'' hk'' h0 h1 hT'' => ?_⟩)
    · have := hit (j + 1) q (by simpa using hq)
      rw [← this]
      congr 1
      omega
    · exact hIt'.at fun o e => other _ _ (Ne.symm hSI) (Heap.get?_push_of_some _ e)
    · exact hAx'.at fun o e => other _ _ (Ne.symm hSx) (Heap.get?_push_of_some _ e)
    · intro q hq
      obtain ⟨a1, a2, cap, a3⟩ := hj q (by simp [hq])
      exact ⟨a1, a2, cap, other _ _ a2 (Heap.get?_push_of_some _ (hk' _ _ a1 a3))⟩
    · refine hR h'' T'' c'' (fun b o hbI hbS e => hk'' b o hbI hbS (other b o hbS (Heap.get?_push_of_some _ (hk' b o hbI e)))) (fun z => by cases z) (fun _ => ?_) (by simpa using hT'')
      by_cases hr : rest = []
      · rw [h0 hr]
        exact Nat.le_of_eq hsb.1.symm
      · have h1 := h1 hr
        have e2 : (((h'.push (lob (ts ++ p.2) 0)).update S (Obj.mapSeq fun _ => #[Value.ref h'.objs.size])).update S (Obj.mapSeq fun _ => #[Value.ref h'.objs.size])).objs.size = h'.objs.size + 1 := by
          rw [(Heap.SameBut.update _ _ _).1, (Heap.SameBut.update _ _ _).1, Heap.size_push]
        have h1 : h'.objs.size + 1 ≤ T'' := by rw [← e2]; exact h1
        rw [hsb.1] at h1
        omega
end
theorem args_sum2 (a b : Value) : argsOk "sum" ⟨[a, b], []⟩ := by unfold argsOk; kernel_rfl
section
variable {X : Cx}
def rSumL : List V → Hp → VK → Prop := fun vs H Q => ∃ (a b : Addr) (ps : List (Addr × List V)) (ys : List V), vs = [.ref a, .ref b] ∧ H a = some (.lst (ps.map fun p => .ref p.1)) ∧ H b = some (.lst ys) ∧ (∀ p ∈ ps, H p.1 = some (.lst p.2)) ∧ ys.length + (ps.flatMap (·.2)).length ≤ sizeLine ∧
  (ps = [] → Q (.ref b) H) ∧ (ps ≠ [] → ∀ p, H p = none → Q (.ref p) (upd H p (.lst (ys ++ ps.flatMap (·.2)))))
theorem lists_at {pins : List (Addr × Obj)} {σ : L2.St} {H : Hp} {s : Shared} (I : L2.Inv X pins σ H s) : ∀ {ps : List (Addr × List V)}, (∀ p ∈ ps, H p.1 = some (.lst p.2)) → ∃ qs : List (Addr × List Value), qs.map (·.1) = ps.map (·.1) ∧ (∀ q ∈ qs, (∃ cap, s.heap.get? q.1 = some (lob q.2 cap)) ∧ ∃ xs, H q.1 = some (.lst xs)) ∧ Vals (ps.flatMap (·.2)) (qs.flatMap (·.2))
  | [], _ => ⟨[], rfl, (fun q hq => nomatch hq), .nil⟩
  | p :: ps, h => by
    obtain ⟨z, its, n, r, hl, e⟩ := I.lstM (h p (by simp))
    obtain ⟨qs, e1, e2, e3⟩ := lists_at I (ps := ps) fun q hq => h q (by simp [hq])
    refine ⟨(p.1, its) :: qs, by simp [e1], fun q hq => ?_, ?_⟩
    · rcases List.mem_cons.mp hq with rfl | hq
      · exact ⟨⟨n, e⟩, _, h p (by simp)⟩
      · exact e2 q hq
    · simp only [List.flatMap_cons]
      exact r.append e3
theorem cr_sumL (hc : X.calm = true) : CallR X (.builtin "sum") rSumL := by
  intro pins s σ H vs us Q I r h
  obtain ⟨a, b, ps, ys, rfl, ha, hb, hps, hsz, q0, q1⟩ := h
  obtain ⟨u1, u2, rfl, e1, e2⟩ : ∃ u1 u2, us = [u1, u2] ∧ u1 = .ref a ∧ u2 = .ref b := by
    cases r with
    | cons r1 r => cases r with
      | cons r2 r => cases r; exact ⟨_, _, rfl, r1, r2⟩
  subst e1 e2
  obtain ⟨za, itsA, nA, rA, hlA, eA⟩ := I.lstM ha
  obtain ⟨zb, itsB, nB, rB, hlB, eB⟩ := I.lstM hb
  obtain ⟨qs, g1, g2, g3⟩ := lists_at I hps
  have hA : itsA = qs.map fun q => .ref q.1 := by
    have : ∀ {ps : List (Addr × List V)} {qs : List (Addr × List Value)} {its : List Value}, Vals (ps.map fun p => V.ref p.1) its → qs.map (·.1) = ps.map (·.1) → its = qs.map fun q => .ref q.1 := by
      intro ps
      induction ps with
      | nil =>
        intro qs its r e
        cases r
        cases qs with
        | nil => rfl
        | cons _ _ => cases e
      | cons p ps ih =>
        intro qs its r e
        cases r with
        | cons r1 r =>
          cases qs with
          | nil => cases e
          | cons q qs =>
            simp only [List.map_cons, List.cons.injEq] at e
            rw [ih r e.2, List.map_cons, e.1, show _ = Value.ref p.1 from r1]
    exact this rA g1
  have hlen : ys.length + (ps.flatMap (·.2)).length = itsB.length + (qs.flatMap (·.2)).length := by rw [hlB, g3.length]
  refine call_function_tree F.kind_sum F.plain_sum F.entry_sum (args_sum2 _ _) ?_
  unfold Builtin.«sum»
  simp only [List.length_cons, List.length_nil]
  rw [if_neg (by decide)]
  refine wpAny_bind (wpAny_of_eq (show Builtin.Builtins.bindParams "sum" ["start"] 0 { pos := [Value.ref b] } = pure [some (.ref b)] from rfl) ?_)
  have hlist : s.heap.IsList a itsA.toArray := ⟨_, eA, rfl, _, rfl⟩
  have hlt : a < s.heap.objs.size := Heap.lt_size eA
  refine wpAny_bind (wpAny_pyIter_list hlist ?_)
  refine wpAny_bind (wpAny_pure ?_)
  simp only [List.forIn_cons, List.forIn_nil]
  have tyB : Shared.TypeIs { s with heap := s.heap.push { cls := .type "list_iterator", data := .fields #[.ref a, .int 0 0] } } (.ref b) "list" := ⟨_, Heap.get?_push_of_some _ eB, rfl⟩
  refine wpAny_bind (wpAny_bind (wpAny_bind (wpAny_isInstance (T := "list") (b := false) tyB F.sub_list_str ?_)))
  simp only [Bool.false_eq_true, if_false]
  refine wpAny_pure (wpAny_bind (wpAny_bind (wpAny_isInstance (T := "list") (b := false) tyB F.sub_list_bytes ?_)))
  simp only [Bool.false_eq_true, if_false]
  refine wpAny_pure (wpAny_bind (wpAny_bind (wpAny_isInstance (T := "list") (b := false) tyB F.sub_list_bytearray ?_)))
  simp only [Bool.false_eq_true, if_false]
  refine wpAny_pure (wpAny_pure ?_)
  refine wpAny_bind (wpAny_newObj_type ?_)
  have old : ∀ c o, s.heap.get? c = some o → ((s.heap.push { cls := .type "list_iterator", data := .fields #[.ref a, .int 0 0] }).push (lob [.ref b] 0)).get? c = some o := fun c o e => Heap.get?_push_of_some _ (Heap.get?_push_of_some _ e)
  have hs1 : (s.heap.push { cls := .type "list_iterator", data := .fields #[.ref a, .int 0 0] }).objs.size = s.heap.objs.size + 1 := Heap.size_push ..
  have hs2 : ((s.heap.push { cls := .type "list_iterator", data := .fields #[.ref a, .int 0 0] }).push (lob [.ref b] 0)).objs.size = s.heap.objs.size + 1 + 1 := by rw [Heap.size_push, hs1]
  have neI : ∀ c o, s.heap.get? c = some o → c ≠ s.heap.objs.size := fun c o e => Nat.ne_of_lt (Heap.lt_size e)
  have neS : ∀ c o, s.heap.get? c = some o → c ≠ (s.heap.push { cls := .type "list_iterator", data := .fields #[.ref a, .int 0 0] }).objs.size := fun c o e => by
    rw [hs1]
    exact Nat.ne_of_lt (Nat.lt_succ_of_lt (Heap.lt_size e))
  have hIt : (s.heap.push { cls := .type "list_iterator", data := .fields #[.ref a, .int 0 0] }).IsListIter s.heap.objs.size a 0 := ⟨_, Heap.get?_push_size _ rfl, rfl, rfl⟩
  refine wpAny_pure ⟨plainId_quiet F.plain_sum_loop _, sum_lists_loop (items := itsA.toArray) (I.ok.hd hc) (Nat.ne_of_lt hlt) _ (by rw [hs1]; exact Nat.succ_ne_self _) (by rw [hs1]; exact Ne.symm (Nat.ne_of_lt (Nat.lt_succ_of_lt hlt))) qs 0 _ b itsB 0 nB (by rw [hA]; simp) (fun j p hp => ?_) (hIt.at fun o e => Heap.get?_push_of_some _ e) (hlist.at fun o e => old _ _ e)
    (Heap.get?_push_size _ rfl) (old _ _ eB) (neS _ _ eB) (neI _ _ eB) (fun p hp => ?_) (by omega) fun h' T' c' hk h0 h1 hT' => ?_⟩
  · rw [hA]
    simp [hp]
  · obtain ⟨⟨cap, e⟩, _⟩ := g2 p hp
    exact ⟨neI _ _ e, neS _ _ e, cap, old _ _ e⟩
  · have hk0 : ∀ c o, s.heap.get? c = some o → h'.get? c = some o := fun c o e => hk c o (neI _ _ e) (neS _ _ e) (old _ _ e)
    by_cases hq : ps = []
    · have hq' : qs = [] := by
        rw [hq] at g1
        simpa using g1
      rw [h0 hq']
      exact ⟨.ref b, H, I.kept (t' := s.toks) hk0, rfl, q0 hq⟩
    · have hq' : qs ≠ [] := fun z => hq (by rw [z] at g1; simpa using g1.symm)
      have hT : s.heap.objs.size ≤ T' := by
        have h1 := h1 hq'
        have h1 : ((s.heap.push { cls := .type "list_iterator", data := .fields #[.ref a, .int 0 0] }).push (lob [.ref b] 0)).objs.size ≤ T' := h1
        rw [hs2] at h1
        omega
      exact ⟨.ref T', _, I.laid (t' := s.toks) (o := .lst (ys ++ ps.flatMap (·.2))) hk0 hT ⟨by rw [List.length_append]; exact hsz, _, c', rB.append g3, hT'⟩, rfl, q1 hq T' (I.hok.fresh hT)⟩
end
end DL

namespace DL
open PySem L2 PySem.Spec PyProof.Rows

def lsts : List PyData → Option (List (List PyData))
  | [] => some []
  | .list l :: r => match lsts r with
    | some ls => some (l :: ls)
    | none => none
  | _ :: _ => none
theorem lsts_den {K : PySem.W.Frag} {φ : List (Addr × HO)} {H : Hp} (hh : Holds φ H) : ∀ {xs : List PyData} {xss : List (List PyData)} {vs : List V}, lsts xs = some xss → DnAll K φ H xs vs → ∃ ps : List (Addr × List V), vs = ps.map (fun p => .ref p.1) ∧ (∀ p ∈ ps, H p.1 = some (.lst p.2)) ∧ DnAll K φ H xss.flatten (ps.flatMap (·.2))
  | [], xss, _, e, .nil => by
    cases e
    exact ⟨[], rfl, (fun p hp => nomatch hp), .nil⟩
  | x :: r, xss, _, e, .cons h t => by
    unfold lsts at e
    split at e
    · rename_i q; cases q
    · rename_i l r' q
      cases q
      split at e
      · rename_i ls el
        cases e
        obtain ⟨ps, rfl, h2, h3⟩ := lsts_den hh el t
        cases h with
        | lst f t2 =>
          rename_i a vs
          refine ⟨(a, vs) :: ps, rfl, fun p hp => ?_, ?_⟩
          · rcases List.mem_cons.mp hp with rfl | hp
            · exact f H hh
            · exact h2 p hp
          · exact t2.append h3
      · cases e
    · cases e
def sumLM : List D → M D := fun ds S => match ds with
  | [x, .p (.list ys)] => match lstOf S x with
    | some xs => match lsts xs with
      | some xss => if ys.length + xss.flatten.length ≤ LIM then .ok (.p (.list (ys ++ xss.flatten))) S else .bad
      | none => .bad
    | none => .bad
  | _ => .bad
theorem sim_sumL {K : PySem.W.Frag} : SimA K rSumL sumLM := by
  intro W σ H G S ds vs Q rp dv q
  unfold sumLM at q
  split at q
  · rename_i x ys
    obtain ⟨v, w, rfl, d1, d2⟩ := denL2 dv
    split at q
    · rename_i xs ex
      obtain ⟨a, us, rfl, ha, ta⟩ := lstOf_den rp ex d1
      obtain ⟨b, ws, rfl, hb, tb⟩ := lstOf_den (S := S) (xs := ys) rp rfl d2
      split at q
      · rename_i xss el
        obtain ⟨ps, rfl, h2, h3⟩ := lsts_den rp.phi el ta
        by_cases c : ys.length + xss.flatten.length ≤ LIM
        · rw [if_pos c] at q
          refine ⟨a, b, ps, ws, rfl, ha, hb, h2, by rw [← tb.length, ← h3.length]; exact Nat.le_trans c LIM_le, fun hp => ?_, fun hp p hn => q.newLst rp (tb.append h3) hn⟩
          subst hp
          have hz : xss.flatten = [] := by
            have : xss.flatten.length = 0 := h3.length
            exact List.length_eq_zero_iff.mp this
          rw [hz, List.append_nil] at q
          exact q.ret rp d2
        · rw [if_neg c] at q; exact q.elim
      · exact q.elim
    · exact q.elim
  · exact q.elim
theorem de_sumL {X : Cx} {W : WX} {e : Expr} {es : List Expr} {fa : FA} {p pos : Pos} (hc : X.calm = true) (hg : Gl X "sum") (hm : X.mg "sum" = none) (ha : DA X W (e :: es) fa) (he : starEach (e :: es) X.env = (false, eval e X.env) :: starEach es X.env := by rfl) (hpl : (backTo pos (starEach es X.env)).any (·.1) = false := by rfl) : DE X W (.Call (.Name "sum" p) (e :: es) [] pos) (eA sumLM fa) :=
  de_callB (cr_sumL hc) sim_sumL hg hm (by decide +kernel) ha (by decide) (by decide) he hpl
def opAddM : D → D → M D := fun x y S => match lstOf S x, lstOf S y with
  | some xs, some ys => if xs.length + ys.length ≤ LIM then .ok (.ob S.length) (S ++ [.lst (xs ++ ys)]) else .bad
  | _, _ => .bad
theorem sim_addM {K : PySem.W.Frag} : Sim2 K rCat opAddM := by
  intro W σ H G S x y v w Q rp dx dy q
  unfold opAddM at q
  split at q
  · rename_i xs ys e1 e2
    obtain ⟨a, vs, rfl, ha, ta⟩ := lstOf_den rp e1 dx
    obtain ⟨b, ws, rfl, hb, tb⟩ := lstOf_den rp e2 dy
    by_cases c : xs.length + ys.length ≤ LIM
    · rw [if_pos c] at q
      exact ⟨a, b, vs, ws, rfl, rfl, ha, hb, by rw [← ta.length, ← tb.length]; exact Nat.le_trans c LIM_le, fun p hp => q.newLstM rp (ta.append tb) hp⟩
    · rw [if_neg c] at q; exact q.elim
  · exact q.elim
theorem de_addM {X : Cx} {W : WX} {a b : Expr} {f h : FE} {pos : Pos} (ha : DE X W a f) (hb : DE X W b h) : DE X W (.BinOp a .Add b pos) (e2 opAddM f h) := de_bin op_cat sim_addM ha hb
/-- a def, whatever its defaults -/
structure FunE (K : PySem.W.Frag) (x qual : Str) (st : Stmt) (f : Addr) (fd : FuncData) : Prop where
  ex : ∃ (oc : Value) (od : Option Addr) (dV kV doc pm : Value) (an : Option Addr) (cdv ct : Value) (osl : Array (Option Value)),
    fd = PySem.W.fnOf x qual (defArgs st) (defBody st) (defScope st) dV kV doc pm an cdv ct ∧ K.lookup f = some ⟨oc, od, .func fd, osl⟩ ∧ PySem.W.codeIn K cdv qual = true
  kp : PySem.W.keepIn K (.ref f) = true
theorem fnX_ofE {P : Program} {w : World} {K : PySem.W.Frag} {mg : Str → Option Value} {base : Heap} {x qual : Str} {st : Stmt} {f : Addr} {fd : FuncData} {N ps : List Str} {k : Nat} {sp : Sp} (F : FunE K x qual st f fd) (Sc : FnScope N ps (defScope st)) (len : ∀ vs H Q E, sp vs H Q E → vs.length = ps.length)
    (hbody : ∀ (cdv : Value) (A : Around) (outer : List Env) (s : Shared) (H : Hp) (vs : List V) (Q : VK) (E : XK), Room k (A.deeper (envOfC qual (defScope st) s.heap.objs.size f cdv)) → A.guards = some [] → sp vs H Q E →
      ∃ t, PSs (cxOf (L2.CX P w) P w K mg base N qual (defScope st) f cdv A outer s H E) (defBody st) t ∧ t { nx := fun _ H' => Q .non H', rt := Q } (start N vs) H) : FnX P w K mg base (k + 1) f fd ps sp := by
  obtain ⟨oc, od, dV, kV, doc, pm, an, cdv, ct, osl, rfl, lk, hcd⟩ := F.ex
  refine ⟨len, fun A outer s H args us vs Q E hr hgd e0 hb r hsp => ?_⟩
  have hl := len _ _ _ _ hsp
  have keepB : ∀ b o, base.get? b = some o → s.heap.get? b = some o := fun b o e => (e0.bs b o e).1
  have KX : K.In s.heap := e0.mod.kin.keeps keepB
  have lim : s.heap.NoLimit := e0.mod.nolimit.keeps keepB
  obtain ⟨t, ht, hq⟩ := hbody cdv A outer s H vs Q E (hr.deeper _) hgd hsp
  refine codeAny_call_function hr.depth (KX _ _ lk) rfl Sc.co Sc.gen rfl (PySem.W.codeRec_of KX hcd) (hb _ _ _ _ ?_)
  refine wpAny_newFunctionEnv_cells Sc.kind (fun y hy => ?_) fun env he s1 xx => ?_
  · obtain ⟨n, v⟩ := y
    rcases Sc.par n (List.of_mem_zip hy).1 with q | q
    · exact .inl q
    · exact .inr ⟨q, PySem.W.cellsFrom_some _ _ _ (.inl q)⟩
  subst he
  refine ⟨lim.keeps xx.toInCall.keep, codeAny_func ?_⟩
  have I := inv_start (CX := L2.CX P w) (E := E) Sc hr.hd e0 hl r xx
  refine wpAny_mono (ht.run [] s1 (start N vs) H _ I hq) (fun fl s' hs => ?_) fun e s' hs => hs
  cases fl with
  | ret u =>
    obtain ⟨v, σ', H', J, rv, q⟩ := hs
    exact ⟨v, H', J.os, J.bare, J.base, J.hok, rv, q⟩
  | next =>
    obtain ⟨σ', H', J, q⟩ := hs
    exact ⟨.non, H', J.os, J.bare, J.base, J.hok, rfl, q⟩
  | brk =>
    obtain ⟨_, _, _, q⟩ := hs
    exact False.elim q
  | cont =>
    obtain ⟨_, _, _, q⟩ := hs
    exact False.elim q
theorem fnX_dataE {P : Program} {w : World} {K : PySem.W.Frag} {mg : Str → Option Value} {base : Heap} {x qual : Str} {st : Stmt} {f : Addr} {fd : FuncData} {N ps : List Str} {k m n : Nat} (F : FunE K x qual st f fd) (Sc : FnScope N ps (defScope st)) (hm : N.length = m) (hn : ps.length = n) (body : FS)
    (hb : ∀ (cdv : Value) (A : Around) (outer : List Env) (s : Shared) (H : Hp) (E : XK), Ctx (cxOf (L2.CX P w) P w K mg base N qual (defScope st) f cdv A outer s H E) (WE E) k → Po (cxOf (L2.CX P w) P w K mg base N qual (defScope st) f cdv A outer s H E) → DSs (cxOf (L2.CX P w) P w K mg base N qual (defScope st) f cdv A outer s H E) (WE E) (defBody st) body) :
    FnX P w K mg base (k + 1) f fd ps (spX K n (runF m body)) := by
  subst hm hn
  refine fnX_ofE F Sc (fun vs H Q E ⟨G, S, ds, hl, dl, _⟩ => by rw [← dl.length]; exact hl) fun cdv A outer s H vs Q E hr hgd ⟨G, S, ds, hl, dl, rp, q⟩ => ?_
  refine ⟨_, (hb cdv A outer s H E ⟨hr, hgd, takes_of rfl rfl rfl rfl⟩ (passes_of rfl)).run, G, S, ds.map some ++ List.replicate (N.length - ds.length) none, ?_, rp, body_read rp q⟩
  rw [dl.length]
  exact RelS.ofArgs (N.length - vs.length) dl
/-- a value of the top that is plain data -/
def ValIs (K : PySem.W.Frag) (u : Value) (d : PyData) : Prop := ∃ v : V, RelV v u ∧ ∀ H G, Den K H G (.p d) v
theorem val_flat {K : PySem.W.Frag} {u : Value} {p : PyData × V} {d : PyData} (f : flatOf u = some p) (hd : p.1 = d := by rfl) : ValIs K u d := by
  subst hd
  exact ⟨p.2, (flat_ok (K := K) (φ := []) (H := fun _ => none) f).1, fun H G => (flat_ok f).2⟩
theorem val_tup {K : PySem.W.Frag} {a : Addr} {o : Obj} {its : Array Value} {n : Nat} {ps : List (PyData × V)} {d : PyData} (l : K.lookup a = some o) (hc : o.cls = .type "tuple") (hs : o.data = .seq its n) (f : flats its.toList = some ps) (hz : its.size ≤ 1000) (hd : PyData.tuple (ps.map (·.1)) = d) : ValIs K (.ref a) d := by
  subst hd
  refine ⟨.ref a, rfl, fun H G => .tup (.inr ⟨o, its, n, l, hc, hs, Nat.le_of_lt (small1000 hz), ?_⟩) (flats_ok f).2⟩
  exact (flats_ok (K := K) (φ := []) (H := fun _ => none) f).1
/-- the last parameters are filled by ds -/
structure BindsD (K : PySem.W.Frag) (fd : FuncData) (ps : List Str) (ds : List PyData) : Prop where
  ex : ∃ (us : List Value) (vs : List V), Binds K fd ps us ∧ Vals vs us ∧ ∀ H G, DenL K H G (ds.map .p) vs
theorem binds_one {K : PySem.W.Frag} {x qual : Str} {params : Arguments} {body : List Stmt} {scope : Scope} {T : Addr} {o : Obj} {u : Value} {c : Nat} {kV doc pm : Value} {an : Option Addr} {cdv ct : Value} {ps : List Str} {d : PyData} (lT : K.lookup T = some o) (oT : o.data = .seq #[u] c) (hu : ValIs K u d)
    (h : ∀ us : List Value, us.length + 1 = ps.length → ∃ k, bindArgs (PySem.W.fnOf x qual params body scope (.ref T) kV doc pm an cdv ct) ⟨us, []⟩ = seqItems? (.ref T) >>= k ∧ k (some #[u]) = pure (ps.zip (us ++ [u]))) : BindsD K (PySem.W.fnOf x qual params body scope (.ref T) kV doc pm an cdv ct) ps [d] := by
  obtain ⟨v, r, hd⟩ := hu
  refine ⟨[u], [v], fun s us X hl => ?_, .cons r .nil, fun H G => .cons (hd H G) .nil⟩
  obtain ⟨k, e1, e2⟩ := h us (by simpa using hl)
  intro M A Q E hq
  rw [e1]
  refine wpAny_bind (wpAny_seqItems (X _ _ lT) oT ?_)
  rw [e2]
  exact wpAny_pure hq
section
variable {X : Cx} {W : WX} {x : Str} {f : Addr} {fd : FuncData} {ps : List Str} {k n : Nat} {g : List D → M D} {e : Expr} {es : List Expr} {fa : FA} {p pos : Pos}
theorem FnX.toPD {P : Program} {w : World} {K : PySem.W.Frag} {mg : Str → Option Value} {base : Heap} {ds : List PyData} (F : FnX P w K mg base k f fd ps (spX K n g)) (hb : BindsD K fd ps ds) (hn : ds.length ≤ n) : FnP P w K mg base k f (spX K (n - ds.length) fun xs => g (xs ++ ds.map .p)) := by
  obtain ⟨dus, dvs, hB, hV, hD⟩ := hb.ex
  refine ⟨fun A outer s H us vs Q E hr hgd e0 r h => ?_⟩
  obtain ⟨G, S, xs, hl, dl, rp, q⟩ := h
  have hsp : spX K n g (vs ++ dvs) H Q E := ⟨G, S, xs ++ ds.map .p, by simp [hl]; omega, denL_app dl (hD H G), rp, q⟩
  have hl2 : (us ++ dus).length = ps.length := by
    have := F.len _ _ _ _ hsp
    rw [← this, (r.append hV).length]
  have KX : K.In s.heap := e0.mod.kin.keeps fun b o e => (e0.bs b o e).1
  exact F.run A outer s H ⟨us, []⟩ (us ++ dus) (vs ++ dvs) Q E hr hgd e0 (hB s us KX hl2) (r.append hV) hsp
theorem de_callXD {ds : List PyData} {m : Nat} {g' : List D → M D} (F : FnX X.prog X.w X.K X.mg X.base k f fd ps (spX X.K n g)) (C : Ctx X W k) (hg : Gl X x) (hm : X.mg x = some (.ref f)) (hk : PySem.W.keepIn X.K (.ref f) = true) (hb : BindsD X.K fd ps ds) (hn : m + ds.length = n) (hg' : g' = fun xs => g (xs ++ ds.map .p))
    (ha : DA X W (e :: es) fa) (hdb : (x == ("__debug__" : Str)) = false := by decide) (he : starEach (e :: es) X.env = (false, eval e X.env) :: starEach es X.env := by rfl) (hpl : (backTo pos (starEach es X.env)).any (·.1) = false := by rfl) :
    DE X W (.Call (.Name x p) (e :: es) [] pos) (eCallX m g' fa) := by
  subst hn hg'
  have hP := F.toPD hb (Nat.le_add_left _ _)
  rw [Nat.add_sub_cancel] at hP
  exact de_callP hP (fun _ _ _ _ h => h) C hg hm hk ha hdb he hpl
end
end DL

namespace DL
open PySem L2 PySem.Spec PyProof.Rows

theorem gives_keys {K : PySem.W.Frag} {H : Hp} {G : Gh} {S : Sto} {a : Addr} {o : Obj} {ws : List (Key × V)} {kvs : List (Key × PyData)} (f : ∀ H : Hp, Holds G.φ H → H a = some (.frz o (.dK ws))) (e : kvs.map (·.1) = ws.map (·.1)) : Gives K (Itk a o ws) H G S (kvs.map fun kv => D.p (keyPy kv.1)) where
  go := fun H1 G1 S1 x r i hi => by
    have hl : kvs.length = ws.length := by simpa using congrArg List.length e
    rw [List.length_map, hl] at hi
    exact ⟨f H1 fun p hp => r.phi p (x.phi p hp), hi⟩
  yld := fun H1 G1 S1 x r i d ed v H' y => by
    obtain ⟨e1, k, w, hk, rfl⟩ := y
    subst e1
    rw [List.getElem?_map] at ed
    obtain ⟨p, hp, rfl⟩ := Option.map_eq_some_iff.mp ed
    have h1 : (kvs.map (·.1))[i]? = some p.1 := by rw [List.getElem?_map, hp]; rfl
    have h2 : (ws.map (·.1))[i]? = some k := by rw [List.getElem?_map, hk]; rfl
    rw [e, h2] at h1
    cases h1
    refine ⟨Ext.refl, r, ?_, .inl rfl⟩
    cases hq : p.1 with
    | inl z => exact .int z
    | inr z => exact .str z
  stop := fun H1 G1 S1 x r => by
    have hl : kvs.length = ws.length := by simpa using congrArg List.length e
    rw [List.length_map, hl]
    exact ⟨f H1 fun p hp => r.phi p (x.phi p hp), Nat.le_refl _⟩
def itKM : D → M (List D) := fun d S => match d with
  | .p (.dict l) => match unKv l with
    | some kvs => .ok (kvs.map fun kv => D.p (keyPy kv.1)) S
    | none => .bad
  | _ => .bad
def iKey (f : FE) : FI := fun ρ S => (f ρ S).bind itKM
theorem di_key {X : Cx} {W : WX} {l tg : Expr} {f : FE} (he : DE X W l f) : DI X W tg l (iKey f) := by
  refine ⟨PI.imp (pi_keys he.run) fun σ H R ⟨G, S, ρ, rs, rp, q⟩ => ⟨G, S, ρ, rs, rp, (Aft.bind q).mono fun d H1 G1 S1 x1 r1 q1 v dv => ?_⟩⟩
  unfold itKM at q1
  split at q1
  · rename_i l
    split at q1
    · rename_i kvs ek
      obtain ⟨a, ws, rfl, ⟨o, fd⟩, e, t⟩ := den_dic dv
      have el := unKv_eq ek
      subst el
      have e2 : kvs.map (·.1) = ws.map (·.1) := by
        rw [pyKv_keys] at e
        have q := congrArg (List.map pyKey) e
        simp only [List.map_map, Function.comp_def, pyKey_keyPy] at q
        have q2 := congrArg (List.filterMap id) q
        simpa [List.filterMap_map, Function.comp_def] using q2
      exact ⟨a, o, rfl, .inl ⟨ws, fd H1 r1.phi, q1 H1 G1 Ext.refl r1 _ (gives_keys fd e2)⟩⟩
    · exact q1.elim
  · exact q1.elim
@[simp] theorem iKey_ {f : FE} {ρ : Ev} {S : Sto} : iKey f ρ S = (f ρ S).bind itKM := rfl
@[simp] theorem itKM_d {kvs : List (Key × PyData)} {S : Sto} : itKM (.p (.dict (pyKv kvs))) S = .ok (kvs.map fun kv => D.p (keyPy kv.1)) S := by simp [itKM]
end DL

namespace K07
open PySem L2 DL

inductive Fn where
  | f_found_at
  | f_stands_in
  | f_is_free
  | f_united
  | f_resolved
  | f_unite
  | f_begin_l
  | f_draw_l
  | f_pick_l
  | f_words_l
  | f_con_l
  | f_put_l
  | f_vars_l
  | f_letter_kind_l
  | f_solve_l
  | f_renamed_l
  | f_pairs_drawn_l
  | f_law

def f_found_at_1 (r : Fn → List D → M D) : FS :=
    (sSet 0 (e2 opSubs (eVar 1) (e2 opSubs (eVar 0) (eC (.p (.int 1))))))
def f_found_at_2 (r : Fn → List D → M D) : FS :=
    (sRet (eVar 0))
def b_f_found_at (r : Fn → List D → M D) : FS :=
    (sSeq (whileD 100000000 (tAndD (tC2 (opEqZ false) (e2 opSubs (eVar 0) (eC (.p (.int 0)))) (eC (.p (.str "var")))) (tC2 (opInX false) (e2 opSubs (eVar 0) (eC (.p (.int 1)))) (eVar 1))) (f_found_at_1 r))
    (f_found_at_2 r))
def f_stands_in_1 (r : Fn → List D → M D) : FS :=
    (sIf (tC2 (opEqZ false) (e2 opSubs (eVar 4) (eC (.p (.int 0)))) (eC (.p (.str "apply")))) (sExpr (eLm extendM (eVar 3) (aCons (eA mkLst (aCons (e2 opSubs (eVar 4) (eC (.p (.int 1)))) (aCons (e2 opSubs (eVar 4) (eC (.p (.int 2)))) aNil))) aNil))) sNext)
def f_stands_in_2 (r : Fn → List D → M D) : FS :=
    (sSeq (sSet 4 (eCallX 2 (r .f_found_at) (aCons (eLm popM (eVar 3) aNil) (aCons (eVar 2) aNil))))
    (sSeq (sIf (tC2 (opEqZ false) (eVar 4) (eA mkTup (aCons (eC (.p (.str "var"))) (aCons (eVar 0) aNil)))) (sRet (eC (.p (.bool true)))) sNext)
    (f_stands_in_1 r)))
def f_stands_in_3 (r : Fn → List D → M D) : FS :=
    (sRet (eC (.p (.bool false))))
def b_f_stands_in (r : Fn → List D → M D) : FS :=
    (sSeq (sSet 3 (eA mkLstM (aCons (eVar 1) aNil)))
    (sSeq (whileD 100000000 (tC2 (opEqZ true) (eVar 3) (eA mkLst aNil)) (f_stands_in_2 r))
    (f_stands_in_3 r)))
def b_f_is_free (r : Fn → List D → M D) : FS :=
    (sRet (eAnd (e2 (opEqZ false) (e2 opSubs (eVar 0) (eC (.p (.int 0)))) (eC (.p (.str "var")))) (e2 (opInX true) (e2 opSubs (eVar 0) (eC (.p (.int 1)))) (eVar 1))))
def f_united_1 (r : Fn → List D → M D) : FS :=
    (sAsg (eVar 5) (gSubD (eVar 0) (e2 opSubs (eVar 4) (eC (.p (.int 1))))))
def f_united_2 (r : Fn → List D → M D) : FS :=
    (sIf (tVal (eCallX 2 (r .f_is_free) (aCons (eVar 4) (aCons (eVar 2) aNil)))) (sSeq (sIf (tVal (eCallX 3 (r .f_stands_in) (aCons (e2 opSubs (eVar 4) (eC (.p (.int 1)))) (aCons (eVar 5) (aCons (eVar 0) aNil))))) (sRet (eC (.p (.bool false)))) sNext)
    (f_united_1 r)) (sIf (tAndD (tC2 (opEqZ false) (e2 opSubs (eVar 4) (eC (.p (.int 0)))) (eC (.p (.str "apply")))) (tC2 (opEqZ false) (e2 opSubs (eVar 5) (eC (.p (.int 0)))) (eC (.p (.str "apply"))))) (sExpr (eLm extendM (eVar 3) (aCons (eA mkLst (aCons (eA mkTup (aCons (e2 opSubs (eVar 4) (eC (.p (.int 2)))) (aCons (e2 opSubs (eVar 5) (eC (.p (.int 2)))) aNil))) (aCons (eA mkTup (aCons (e2 opSubs (eVar 4) (eC (.p (.int 1)))) (aCons (e2 opSubs (eVar 5) (eC (.p (.int 1)))) aNil))) aNil))) aNil))) (sRet (eC (.p (.bool false))))))
def f_united_3 (r : Fn → List D → M D) : FS :=
    (sSeq (sIf (tAndD (tNotD (tVal (eCallX 2 (r .f_is_free) (aCons (eVar 4) (aCons (eVar 2) aNil))))) (tVal (eCallX 2 (r .f_is_free) (aCons (eVar 5) (aCons (eVar 2) aNil))))) (sAsgs (aCons (eVar 5) (aCons (eVar 4) aNil)) (gConss (gN 4) (gConss (gN 5) gNils))) sNext)
    (f_united_2 r))
def f_united_4 (r : Fn → List D → M D) : FS :=
    (sSeq (sAsg (eLc (iSeq (eLm popM (eVar 3) aNil)) (gN 6) tYesD (eCallX 2 (r .f_found_at) (aCons (eVar 6) (aCons (eVar 0) aNil))) [6] finL) (gLstD 2 (gConss (gN 4) (gConss (gN 5) gNils))))
    (sSeq (sIf (tC2 (opEqZ false) (eVar 4) (eVar 5)) (fun ρ S => some (.cont ρ, S)) sNext)
    (f_united_3 r)))
def f_united_5 (r : Fn → List D → M D) : FS :=
    (sRet (eC (.p (.bool true))))
def b_f_united (r : Fn → List D → M D) : FS :=
    (sSeq (sSet 3 (eA (listXM finM) (aCons (eVar 1) aNil)))
    (sSeq (whileD 100000000 (tC2 (opEqZ true) (eVar 3) (eA mkLst aNil)) (f_united_4 r))
    (f_united_5 r)))
def f_resolved_1 (r : Fn → List D → M D) : FS :=
    (sRet (eVar 2))
def b_f_resolved (r : Fn → List D → M D) : FS :=
    (sSeq (sSet 2 (eCallX 2 (r .f_found_at) (aCons (eVar 0) (aCons (eVar 1) aNil))))
    (sSeq (sIf (tC2 (opEqZ false) (e2 opSubs (eVar 2) (eC (.p (.int 0)))) (eC (.p (.str "apply")))) (sRet (eA mkTup (aCons (eC (.p (.str "apply"))) (aCons (eCallX 2 (r .f_resolved) (aCons (e2 opSubs (eVar 2) (eC (.p (.int 1)))) (aCons (eVar 1) aNil))) (aCons (eCallX 2 (r .f_resolved) (aCons (e2 opSubs (eVar 2) (eC (.p (.int 2)))) (aCons (eVar 1) aNil))) aNil))))) sNext)
    (f_resolved_1 r)))
def f_unite_1 (r : Fn → List D → M D) : FS :=
    (sRet (eDc (iSeq (eA sortedM (aCons (eVar 1) aNil))) (gN 2) tYesD (eVar 2) (eCallX 2 (r .f_resolved) (aCons (e2 opSubs (eVar 1) (eVar 2)) (aCons (eVar 1) aNil))) [2] finDI))
def b_f_unite (r : Fn → List D → M D) : FS :=
    (sSeq (sSet 1 (fun _ S => .ok (.ob S.length) (S ++ [.dic []])))
    (sSeq (sIf (tNotD (tVal (eCallX 2 (fun xs => r .f_united (xs ++ [.p (.tuple [])])) (aCons (eVar 1) (aCons (eVar 0) aNil))))) (sRet (eC (.p .none))) sNext)
    (f_unite_1 r)))
def b_f_begin_l (r : Fn → List D → M D) : FS :=
    (sRet (eDisp [((eC (.p (.str "cells"))), (eOr (eSli (eVar 0) oNone (oSome (eC (.p (.int 63))))) (eA mkLst (aCons (eC (.p (.int 0))) aNil)))), ((eC (.p (.str "place"))), (eC (.p (.int 0)))), ((eC (.p (.str "left"))), (eC (.p (.int 0))))] finDM))
def f_draw_l_1 (r : Fn → List D → M D) : FS :=
    (sSeq (sAsgs (aCons (e2 opMod (eA intM (aCons (e2 opSubs (eVar 0) (eC (.p (.str "left")))) aNil)) (eVar 1)) (aCons (e2 opDivX (e2 opSubs (eVar 0) (eC (.p (.str "left")))) (eVar 1)) aNil)) (gConss (gN 2) (gConss (gSubD (eVar 0) (eC (.p (.str "left")))) gNils)))
    (sRet (eVar 2)))
def b_f_draw_l (r : Fn → List D → M D) : FS :=
    (sSeq (sIf (tC2 (opLt) (e2 opSubs (eVar 0) (eC (.p (.str "left")))) (eVar 1)) (sSeq (sAsgs (aCons (e2 opSubs (eVar 0) (eC (.p (.str "place")))) (aCons (eA lenM (aCons (e2 opSubs (eVar 0) (eC (.p (.str "cells")))) aNil)) aNil)) (gConss (gN 3) (gConss (gN 4) gNils)))
    (sSeq (sAsgs (aCons (e2 opSubs (e2 opSubs (eVar 0) (eC (.p (.str "cells")))) (e2 opMod (eA intM (aCons (eVar 3) aNil)) (eVar 4))) (aCons (e2 opAdd (eVar 3) (eC (.p (.int 1)))) aNil)) (gConss (gN 5) (gConss (gSubD (eVar 0) (eC (.p (.str "place")))) gNils)))
    (sSeq (sAsg (e2 opMod (eA intM (aCons (e2 opPow (e2 opAdd (e2 opAdd (e2 opMod (eA intM (aCons (eVar 5) aNil)) (eC (.p (.int 2147483587)))) (e2 opMulX (eC (.p (.int 48271))) (eVar 3))) (eC (.p (.int 16807)))) (eC (.p (.int 13)))) aNil)) (e2 opAdd (e2 opPow (eC (.p (.int 10))) (eC (.p (.int 50)))) (eC (.p (.int 57))))) (gSubD (eVar 0) (eC (.p (.str "left")))))
    (sIf (tAndD (tC2 (opGe) (eVar 5) (e2 opPow (eC (.p (.int 10))) (eC (.p (.int 18))))) (tC2 (opLt) (eVar 3) (eVar 4))) (sAsg (e2 opSub (eVar 5) (e2 opPow (eC (.p (.int 10))) (eC (.p (.int 18))))) (gSubD (eVar 0) (eC (.p (.str "left"))))) sNext)))) sNext)
    (f_draw_l_1 r))
def b_f_pick_l (r : Fn → List D → M D) : FS :=
    (sRet (e2 opSubs (eVar 1) (eCallX 2 (r .f_draw_l) (aCons (eVar 0) (aCons (eA lenM (aCons (eVar 1) aNil)) aNil)))))
def b_f_words_l (r : Fn → List D → M D) : FS :=
    (sSeq (sAsgs (aCons (eCallX 2 (r .f_pick_l) (aCons (eVar 0) (aCons (eA mkLst (aCons (eC (.p (.str ""))) (aCons (eC (.p (.str "x"))) (aCons (eC (.p (.str "oo"))) (aCons (eC (.p (.str "zzzz"))) (aCons (eC (.p (.str "ery"))) (aCons (eC (.p (.str "bbbbbbb"))) aNil))))))) aNil))) (aCons (eCallX 2 (r .f_draw_l) (aCons (eVar 0) (aCons (eC (.p (.int 26))) aNil))) aNil)) (gConss (gN 4) (gConss (gN 5) gNils)))
    (sSeq (sSet 2 (eLc (iRange (aCons (eVar 1) aNil)) (gN 6) tYesD (e2 opSubs (eC (.p (.str "abcdefghijklmnopqrstuvwxyz"))) (e2 opMod (eA intTM (aCons (e2 opAddX (eVar 5) (e2 opMulX (eC (.p (.int 7))) (eVar 6))) aNil)) (eC (.p (.int 26))))) [6] finL))
    (sSeq (sSet 3 (e2 (opEqZ false) (eCallX 2 (r .f_draw_l) (aCons (eVar 0) (aCons (eC (.p (.int 2))) aNil))) (eC (.p (.int 0)))))
    (sRet (eLc (iSeq (eVar 2)) (gN 7) tYesD (eIf (tVal (eVar 3)) (e2 opAddX (eVar 4) (eVar 7)) (e2 opAddX (eVar 7) (eVar 4))) [7] finL)))))
def f_con_l_1 (r : Fn → List D → M D) : FS :=
    (sSet 2 (eA mkTup (aCons (eC (.p (.str "apply"))) (aCons (eVar 2) (aCons (eVar 3) aNil)))))
def f_con_l_2 (r : Fn → List D → M D) : FS :=
    (sRet (eVar 2))
def b_f_con_l (r : Fn → List D → M D) : FS :=
    (sSeq (sSet 2 (eA mkTup (aCons (eC (.p (.str "con"))) (aCons (eVar 0) aNil))))
    (sSeq (sFor (iSeq (eVar 1)) (gN 3) (f_con_l_1 r))
    (f_con_l_2 r)))
def f_put_l_1 (r : Fn → List D → M D) : FS :=
    (sRet (eIf (tC2 (opEqZ false) (e2 opSubs (eVar 0) (eC (.p (.int 0)))) (eC (.p (.str "var")))) (eDm getM (eVar 1) (e2 opSubs (eVar 0) (eC (.p (.int 1)))) (eVar 0)) (eVar 0)))
def b_f_put_l (r : Fn → List D → M D) : FS :=
    (sSeq (sIf (tC2 (opEqZ false) (e2 opSubs (eVar 0) (eC (.p (.int 0)))) (eC (.p (.str "apply")))) (sRet (eA mkTup (aCons (eC (.p (.str "apply"))) (aCons (eCallX 2 (r .f_put_l) (aCons (e2 opSubs (eVar 0) (eC (.p (.int 1)))) (aCons (eVar 1) aNil))) (aCons (eCallX 2 (r .f_put_l) (aCons (e2 opSubs (eVar 0) (eC (.p (.int 2)))) (aCons (eVar 1) aNil))) aNil))))) sNext)
    (f_put_l_1 r))
def f_vars_l_1 (r : Fn → List D → M D) : FS :=
    (sSeq (sSet 3 (eLm popM (eVar 2) aNil))
    (sIf (tC2 (opEqZ false) (e2 opSubs (eVar 3) (eC (.p (.int 0)))) (eC (.p (.str "apply")))) (sExpr (eLm extendM (eVar 2) (aCons (eA mkLst (aCons (e2 opSubs (eVar 3) (eC (.p (.int 2)))) (aCons (e2 opSubs (eVar 3) (eC (.p (.int 1)))) aNil))) aNil))) (sIf (tAndD (tC2 (opEqZ false) (e2 opSubs (eVar 3) (eC (.p (.int 0)))) (eC (.p (.str "var")))) (tC2 (opInX true) (e2 opSubs (eVar 3) (eC (.p (.int 1)))) (eVar 1))) (sExpr (eLm appendM (eVar 1) (aCons (e2 opSubs (eVar 3) (eC (.p (.int 1)))) aNil))) sNext)))
def f_vars_l_2 (r : Fn → List D → M D) : FS :=
    (sRet (eIce (eVar 1)))
def b_f_vars_l (r : Fn → List D → M D) : FS :=
    (sSeq (sAsgs (aCons (eA mkLstM aNil) (aCons (e1 revMM (eA (listXM finM) (aCons (eVar 0) aNil))) aNil)) (gConss (gN 1) (gConss (gN 2) gNils)))
    (sSeq (whileD 100000000 (tC2 (opEqZ true) (eVar 2) (eA mkLst aNil)) (f_vars_l_1 r))
    (f_vars_l_2 r)))
def f_letter_kind_l_1 (r : Fn → List D → M D) : FS :=
    (sRet (eCallX 2 (r .f_con_l) (aCons (eVar 5) (aCons (eVar 4) aNil))))
def f_letter_kind_l_2 (r : Fn → List D → M D) : FS :=
    (sSeq (sAsg (eCallX 2 (r .f_pick_l) (aCons (eVar 0) (aCons (eVar 2) aNil))) (gTupD 2 (gConss (gN 5) (gConss (gN 6) gNils))))
    (sSeq (sSet 4 (eLc (iRange (aCons (eVar 6) aNil)) (gN 7) tYesD (eCallX 4 (r .f_letter_kind_l) (aCons (eVar 0) (aCons (eVar 1) (aCons (eVar 2) (aCons (e2 opSub (eVar 3) (eC (.p (.int 1)))) aNil))))) [7] finL))
    (sSeq (sIf (tAndD (tC2 (opEqZ true) (eVar 1) (eA mkLst aNil)) (tAndD (tC2 (opEqZ false) (eVar 6) (eC (.p (.int 1)))) (tC2 (opEqZ false) (eCallX 2 (r .f_draw_l) (aCons (eVar 0) (aCons (eC (.p (.int 4))) aNil))) (eC (.p (.int 0)))))) (sRet (eA mkTup (aCons (eC (.p (.str "apply"))) (aCons (eA mkTup (aCons (eC (.p (.str "var"))) (aCons (eCallX 2 (r .f_pick_l) (aCons (eVar 0) (aCons (eVar 1) aNil))) aNil))) (aCons (e2 opSubs (eVar 4) (eC (.p (.int 0)))) aNil))))) sNext)
    (f_letter_kind_l_1 r))))
def b_f_letter_kind_l (r : Fn → List D → M D) : FS :=
    (sSeq (sIf (tOrD (tC2 (opEqZ false) (eVar 3) (eC (.p (.int 0)))) (tC2 (opEqZ false) (eCallX 2 (r .f_draw_l) (aCons (eVar 0) (aCons (eC (.p (.int 3))) aNil))) (eC (.p (.int 0))))) (sRet (eIf (tAndD (tC2 (opEqZ true) (eVar 1) (eA mkLst aNil)) (tC2 (opEqZ false) (eCallX 2 (r .f_draw_l) (aCons (eVar 0) (aCons (eC (.p (.int 2))) aNil))) (eC (.p (.int 0))))) (eA mkTup (aCons (eC (.p (.str "var"))) (aCons (eCallX 2 (r .f_pick_l) (aCons (eVar 0) (aCons (eVar 1) aNil))) aNil))) (eA mkTup (aCons (eC (.p (.str "con"))) (aCons (e2 opSubs (eCallX 2 (r .f_pick_l) (aCons (eVar 0) (aCons (eVar 2) aNil))) (eC (.p (.int 0)))) aNil))))) sNext)
    (f_letter_kind_l_2 r))
def f_solve_l_1 (r : Fn → List D → M D) : FS :=
    (sSeq (sSet 1 (eA (dictPM finDM) (aCons (eLc (iKey (eVar 1)) (gN 6) tYesD (eA mkTup (aCons (eVar 6) (aCons (eCallX 2 (r .f_put_l) (aCons (e2 opSubs (eVar 1) (eVar 6)) (aCons (eDisp [((e2 opSubs (eVar 3) (eC (.p (.int 1)))), (eVar 4))] finDL) aNil))) aNil))) [6] finL) aNil)))
    (sAsg (eVar 4) (gSubD (eVar 1) (e2 opSubs (eVar 3) (eC (.p (.int 1)))))))
def f_solve_l_2 (r : Fn → List D → M D) : FS :=
    (sIf (tC2 (opEqZ false) (e2 opSubs (eVar 3) (eC (.p (.int 0)))) (eC (.p (.str "var")))) (sSeq (sIf (tC2 (opInX false) (e2 opSubs (eVar 3) (eC (.p (.int 1)))) (eCallX 1 (r .f_vars_l) (aCons (eA mkLst (aCons (eVar 4) aNil)) aNil))) (sRet (eC (.p .none))) sNext)
    (f_solve_l_1 r)) (sIf (tAndD (tC2 (opEqZ false) (e2 opSubs (eVar 3) (eC (.p (.int 0)))) (eC (.p (.str "apply")))) (tC2 (opEqZ false) (e2 opSubs (eVar 4) (eC (.p (.int 0)))) (eC (.p (.str "apply"))))) (sSet 2 (e2 opAddM (eA mkLst (aCons (eA mkTup (aCons (e2 opSubs (eVar 3) (eC (.p (.int 1)))) (aCons (e2 opSubs (eVar 4) (eC (.p (.int 1)))) aNil))) (aCons (eA mkTup (aCons (e2 opSubs (eVar 3) (eC (.p (.int 2)))) (aCons (e2 opSubs (eVar 4) (eC (.p (.int 2)))) aNil))) aNil))) (eVar 2))) (sRet (eC (.p .none)))))
def f_solve_l_3 (r : Fn → List D → M D) : FS :=
    (sSeq (sIf (tC2 (opEqZ true) (e2 opSubs (eVar 3) (eC (.p (.int 0)))) (eC (.p (.str "var")))) (sAsgs (aCons (eVar 4) (aCons (eVar 3) aNil)) (gConss (gN 3) (gConss (gN 4) gNils))) sNext)
    (f_solve_l_2 r))
def f_solve_l_4 (r : Fn → List D → M D) : FS :=
    (sIce 1 (sSeq (sAsg (eLc (iSeq (eLm popM (eVar 2) (aCons (eC (.p (.int 0))) aNil))) (gN 5) tYesD (eCallX 2 (r .f_put_l) (aCons (eVar 5) (aCons (eVar 1) aNil))) [5] finL) (gLstD 2 (gConss (gN 3) (gConss (gN 4) gNils))))
    (sSeq (sIf (tC2 (opEqZ false) (eVar 3) (eVar 4)) (fun ρ S => some (.cont ρ, S)) sNext)
    (f_solve_l_3 r))))
def f_solve_l_5 (r : Fn → List D → M D) : FS :=
    (sRet (eIce (eVar 1)))
def b_f_solve_l (r : Fn → List D → M D) : FS :=
    (sSeq (sAsgs (aCons (fun _ S => .ok (.ob S.length) (S ++ [.dic []])) (aCons (eA (listXM finM) (aCons (eVar 0) aNil)) aNil)) (gConss (gN 1) (gConss (gN 2) gNils)))
    (sSeq (whileD 100000000 (tC2 (opEqZ true) (eVar 2) (eA mkLst aNil)) (f_solve_l_4 r))
    (f_solve_l_5 r)))
def f_renamed_l_1 (r : Fn → List D → M D) : FS :=
    (sIf (tC2 (opEqZ false) (e2 opSubs (eVar 7) (eC (.p (.int 0)))) (eC (.p (.str "var")))) (sIf (tOrD (tC2 (opEqZ true) (eDm setdM (eVar 2) (e2 opSubs (eVar 7) (eC (.p (.int 1)))) (e2 opSubs (eVar 8) (eC (.p (.int 1))))) (e2 opSubs (eVar 8) (eC (.p (.int 1))))) (tC2 (opEqZ true) (eDm setdM (eVar 3) (e2 opSubs (eVar 8) (eC (.p (.int 1)))) (e2 opSubs (eVar 7) (eC (.p (.int 1))))) (e2 opSubs (eVar 7) (eC (.p (.int 1)))))) (sRet (eC (.p (.bool false)))) sNext) sNext)
def f_renamed_l_2 (r : Fn → List D → M D) : FS :=
    (sSeq (sIf (tC2 (opEqZ false) (e2 opSubs (eVar 7) (eC (.p (.int 0)))) (eC (.p (.str "apply")))) (sExpr (eLm extendM (eVar 6) (aCons (eA mkLst (aCons (eA mkTup (aCons (e2 opSubs (eVar 7) (eC (.p (.int 1)))) (aCons (e2 opSubs (eVar 8) (eC (.p (.int 1)))) aNil))) (aCons (eA mkTup (aCons (e2 opSubs (eVar 7) (eC (.p (.int 2)))) (aCons (e2 opSubs (eVar 8) (eC (.p (.int 2)))) aNil))) aNil))) aNil))) sNext)
    (f_renamed_l_1 r))
def f_renamed_l_3 (r : Fn → List D → M D) : FS :=
    (sSeq (sAsg (eLm popM (eVar 6) aNil) (gTupD 2 (gConss (gN 7) (gConss (gN 8) gNils))))
    (sSeq (sIf (tOrD (tC2 (opEqZ true) (e2 opSubs (eVar 7) (eC (.p (.int 0)))) (e2 opSubs (eVar 8) (eC (.p (.int 0))))) (tAndD (tC2 (opEqZ false) (e2 opSubs (eVar 7) (eC (.p (.int 0)))) (eC (.p (.str "con")))) (tC2 (opEqZ true) (eVar 7) (eVar 8)))) (sRet (eC (.p (.bool false)))) sNext)
    (f_renamed_l_2 r)))
def f_renamed_l_4 (r : Fn → List D → M D) : FS :=
    (sSeq (sSet 6 (eA mkLstM (aCons (eA mkTup (aCons (eVar 4) (aCons (eVar 5) aNil))) aNil)))
    (whileD 100000000 (tC2 (opEqZ true) (eVar 6) (eA mkLst aNil)) (f_renamed_l_3 r)))
def f_renamed_l_5 (r : Fn → List D → M D) : FS :=
    (sRet (eC (.p (.bool true))))
def b_f_renamed_l (r : Fn → List D → M D) : FS :=
    (sSeq (sAsgs (aCons (fun _ S => .ok (.ob S.length) (S ++ [.dic []])) (aCons (fun _ S => .ok (.ob S.length) (S ++ [.dic []])) aNil)) (gConss (gN 2) (gConss (gN 3) gNils)))
    (sSeq (sFor (iA zipXM (aCons (eVar 0) (aCons (eVar 1) aNil))) (gTupD 2 (gConss (gN 4) (gConss (gN 5) gNils))) (f_renamed_l_4 r))
    (f_renamed_l_5 r)))
def f_pairs_drawn_l_1 (r : Fn → List D → M D) : FS :=
    (sExpr (eLm appendM (eVar 3) (aCons (eA mkTup (aCons (eVar 5) (aCons (eVar 6) aNil))) aNil)))
def f_pairs_drawn_l_2 (r : Fn → List D → M D) : FS :=
    (sSeq (sSet 5 (eCallX 4 (r .f_letter_kind_l) (aCons (eVar 0) (aCons (eVar 1) (aCons (eVar 2) (aCons (e2 opAddX (eC (.p (.int 1))) (eCallX 2 (r .f_draw_l) (aCons (eVar 0) (aCons (eC (.p (.int 2))) aNil)))) aNil))))))
    (sSeq (sSet 6 (eCallX 4 (r .f_letter_kind_l) (aCons (eVar 0) (aCons (eVar 1) (aCons (eVar 2) (aCons (e2 opAddX (eC (.p (.int 1))) (eCallX 2 (r .f_draw_l) (aCons (eVar 0) (aCons (eC (.p (.int 2))) aNil)))) aNil))))))
    (sSeq (sIf (tC2 (opGt) (eCallX 2 (r .f_draw_l) (aCons (eVar 0) (aCons (eC (.p (.int 3))) aNil))) (eC (.p (.int 0)))) (sSeq (sSet 7 (eCallX 4 (r .f_letter_kind_l) (aCons (eVar 0) (aCons (eVar 1) (aCons (eVar 2) (aCons (eC (.p (.int 1))) aNil))))))
    (sSeq (sSet 8 (eA (dictPM finDL) (aCons (eLc (iSeq (eVar 1)) (gN 10) (tC2 (opEqZ false) (eCallX 2 (r .f_draw_l) (aCons (eVar 0) (aCons (eC (.p (.int 3))) aNil))) (eC (.p (.int 0)))) (eA mkTup (aCons (eVar 10) (aCons (eCallX 4 (r .f_letter_kind_l) (aCons (eVar 0) (aCons (eVar 1) (aCons (eVar 2) (aCons (eC (.p (.int 1))) aNil))))) aNil))) [10] finL) aNil)))
    (sSeq (sSet 9 (eA (dictPM finDL) (aCons (eLc (iSeq (eVar 1)) (gN 10) (tC2 (opEqZ false) (eCallX 2 (r .f_draw_l) (aCons (eVar 0) (aCons (eC (.p (.int 3))) aNil))) (eC (.p (.int 0)))) (eA mkTup (aCons (eVar 10) (aCons (eCallX 4 (r .f_letter_kind_l) (aCons (eVar 0) (aCons (eVar 1) (aCons (eVar 2) (aCons (eC (.p (.int 1))) aNil))))) aNil))) [10] finL) aNil)))
    (sAsgs (aCons (eCallX 2 (r .f_put_l) (aCons (eVar 7) (aCons (eVar 8) aNil))) (aCons (eCallX 2 (r .f_put_l) (aCons (eVar 7) (aCons (eVar 9) aNil))) aNil)) (gConss (gN 5) (gConss (gN 6) gNils)))))) sNext)
    (f_pairs_drawn_l_1 r))))
def f_pairs_drawn_l_3 (r : Fn → List D → M D) : FS :=
    (sRet (eIce (eVar 3)))
def b_f_pairs_drawn_l (r : Fn → List D → M D) : FS :=
    (sSeq (sSet 3 (eA mkLstM aNil))
    (sSeq (sFor (iRange (aCons (eCallX 2 (r .f_draw_l) (aCons (eVar 0) (aCons (eC (.p (.int 4))) aNil))) aNil)) (gN 4) (f_pairs_drawn_l_2 r))
    (f_pairs_drawn_l_3 r)))
def f_law_1 (r : Fn → List D → M D) : FS :=
    (sSeq (sSet 12 (eLc (iSeq (eA mkTup (aCons (eVar 5) (aCons (eVar 8) aNil)))) (gN 13) tYesD (eLc (iSeq (eVar 10)) (gN 14) tYesD (eCallX 2 (r .f_put_l) (aCons (eA mkTup (aCons (eC (.p (.str "var"))) (aCons (eVar 14) aNil))) (aCons (eVar 13) aNil))) [14] finL) [13] finL))
    (sIf (tNotD (tVal (eCallX 2 (r .f_renamed_l) (aCons (e2 opSubs (eVar 12) (eC (.p (.int 0)))) (aCons (e2 opSubs (eVar 12) (eC (.p (.int 1)))) aNil))))) (sRet (eC (.p (.bool false)))) sNext))
def f_law_2 (r : Fn → List D → M D) : FS :=
    (sSeq (sIf (tC2 (opEqZ true) (eLc (iSeq (eVar 4)) (gN 15) (tC2 (opEqZ true) (eCallX 2 (r .f_put_l) (aCons (e2 opSubs (eVar 15) (eC (.p (.int 0)))) (aCons (eVar 5) aNil))) (eCallX 2 (r .f_put_l) (aCons (e2 opSubs (eVar 15) (eC (.p (.int 1)))) (aCons (eVar 5) aNil)))) (eVar 15) [15] finL) (eA mkLst aNil)) (sRet (eC (.p (.bool false)))) sNext)
    (f_law_1 r))
def f_law_3 (r : Fn → List D → M D) : FS :=
    (sIf (tC2 (opIsN true) (eVar 8) (eC (.p .none))) (sSeq (sSet 10 (eCallX 1 (r .f_vars_l) (aCons (eA sumLM (aCons (eLc (iSeq (eVar 4)) (gN 15) tYesD (eA (listXM finL) (aCons (eVar 15) aNil)) [15] finL) (aCons (eA mkLst aNil) aNil))) aNil)))
    (sSeq (sSet 11 (eCallX 1 (r .f_vars_l) (aCons (eLc (iKey (eVar 5)) (gN 14) tYesD (e2 opSubs (eVar 5) (eVar 14)) [14] finL) aNil)))
    (sSeq (sIf (tC2 (opEqZ true) (eLc (iKey (eVar 5)) (gN 14) (tOrD (tC2 (opInX true) (eVar 14) (eVar 10)) (tC2 (opInX false) (eVar 14) (eVar 11))) (eVar 14) [14] finL) (eA mkLst aNil)) (sRet (eC (.p (.bool false)))) sNext)
    (f_law_2 r)))) sNext)
def f_law_4 (r : Fn → List D → M D) : FS :=
    (sSeq (sAsgs (aCons (eCallX 2 (r .f_words_l) (aCons (eVar 1) (aCons (eC (.p (.int 3))) aNil))) (aCons (eCallX 2 (r .f_words_l) (aCons (eVar 1) (aCons (eC (.p (.int 4))) aNil))) aNil)) (gConss (gN 6) (gConss (gN 7) gNils)))
    (sSeq (sSet 3 (eA mkLst (aCons (eA mkTup (aCons (e2 opSubs (eVar 6) (eC (.p (.int 0)))) (aCons (eC (.p (.int 0))) aNil))) (aCons (eA mkTup (aCons (e2 opSubs (eVar 6) (eC (.p (.int 1)))) (aCons (eC (.p (.int 1))) aNil))) (aCons (eA mkTup (aCons (e2 opSubs (eVar 6) (eC (.p (.int 2)))) (aCons (eC (.p (.int 2))) aNil))) (aCons (eA mkTup (aCons (eC (.p (.str "to"))) (aCons (eC (.p (.int 2))) aNil))) (aCons (eA mkTup (aCons (eC (.p (.str "whole"))) (aCons (eC (.p (.int 0))) aNil))) aNil)))))))
    (sSeq (sSet 4 (eCallX 3 (r .f_pairs_drawn_l) (aCons (eVar 1) (aCons (eVar 7) (aCons (eVar 3) aNil)))))
    (sSeq (sAsgs (aCons (eCallX 1 (r .f_solve_l) (aCons (eVar 4) aNil)) (aCons (eA reprM (aCons (eVar 4) aNil)) aNil)) (gConss (gN 8) (gConss (gN 9) gNils)))
    (sSeq (sSet 5 (eIf (tC2 (opEqZ false) (eCallX 2 (r .f_draw_l) (aCons (eVar 1) (aCons (eC (.p (.int 2))) aNil))) (eC (.p (.int 0)))) (eCallX 1 (r .f_unite) (aCons (eVar 4) aNil)) (eCallX 1 (r .f_unite) (aCons (eA tupleXM (aCons (eVar 4) aNil)) aNil))))
    (sSeq (sIf (tOrD (tC2 (opEqZ true) (e2 (opIsN false) (eVar 5) (eC (.p .none))) (e2 (opIsN false) (eVar 8) (eC (.p .none)))) (tC2 (opEqZ true) (eA reprM (aCons (eVar 4) aNil)) (eVar 9))) (sRet (eC (.p (.bool false)))) sNext)
    (f_law_3 r)))))))
def f_law_5 (r : Fn → List D → M D) : FS :=
    (sRet (eC (.p (.bool true))))
def b_f_law (r : Fn → List D → M D) : FS :=
    (sSeq (sSet 1 (eCallX 1 (r .f_begin_l) (aCons (eVar 0) aNil)))
    (sSeq (sFor (iRange (aCons (eC (.p (.int 12))) aNil)) (gN 2) (f_law_4 r))
    (f_law_5 r)))
def go (r : Fn → List D → M D) : Fn → List D → M D
  | .f_found_at => runF 2 (b_f_found_at r)
  | .f_stands_in => runF 5 (b_f_stands_in r)
  | .f_is_free => runF 2 (b_f_is_free r)
  | .f_united => runF 7 (b_f_united r)
  | .f_resolved => runF 3 (b_f_resolved r)
  | .f_unite => runF 3 (b_f_unite r)
  | .f_begin_l => runF 1 (b_f_begin_l r)
  | .f_draw_l => runF 6 (b_f_draw_l r)
  | .f_pick_l => runF 2 (b_f_pick_l r)
  | .f_words_l => runF 8 (b_f_words_l r)
  | .f_con_l => runF 4 (b_f_con_l r)
  | .f_put_l => runF 2 (b_f_put_l r)
  | .f_vars_l => runF 4 (b_f_vars_l r)
  | .f_letter_kind_l => runF 8 (b_f_letter_kind_l r)
  | .f_solve_l => runF 7 (b_f_solve_l r)
  | .f_renamed_l => runF 9 (b_f_renamed_l r)
  | .f_pairs_drawn_l => runF 11 (b_f_pairs_drawn_l r)
  | .f_law => runF 16 (b_f_law r)

def F : Nat → Fn → List D → M D
  | 0, _ => fun _ _ => .bad
  | k + 1, f => go (F k) f

end K07

namespace K07
open PySem L2 DL

inductive Kd where
  | v (n : Str)
  | c (n : Str)
  | a (f x : Kd)
@[simp] theorem t_va : (Str.ofString "var" = Str.ofString "apply") = False := eq_false (by decide)
@[simp] theorem t_ca : (Str.ofString "con" = Str.ofString "apply") = False := eq_false (by decide)
@[simp] theorem t_cv : (Str.ofString "con" = Str.ofString "var") = False := eq_false (by decide)
@[simp] theorem t_av : (Str.ofString "apply" = Str.ofString "var") = False := eq_false (by decide)
namespace Kd
def py : Kd → PyData
  | v n => .tuple [.str "var", .str n]
  | c n => .tuple [.str "con", .str n]
  | a f x => .tuple [.str "apply", f.py, x.py]
def dep : Kd → Nat
  | v _ => 1
  | c _ => 1
  | a f x => 1 + max f.dep x.dep
def lv : Kd → List Kd
  | v n => [v n]
  | c n => [c n]
  | a f x => f.lv ++ x.lv
def vn : Kd → List Str
  | v n => [n]
  | c n => []
  | a f x => f.vn ++ x.vn
end Kd
open Kd
def nOk (n : Str) : Prop := PyData.strOk n = true ∧ (PyData.str n).shown.length ≤ 14
def Kd.wk : Kd → Prop
  | v n => nOk n
  | c n => nOk n
  | a f x => f.wk ∧ x.wk
theorem py_can : ∀ {k : Kd}, k.wk → k.py.canLay0 = true
  | v n, h => by simp [py, PyData.canLay0, PyData.canLayAll0, h.1, strOk_of]
  | c n, h => by simp [py, PyData.canLay0, PyData.canLayAll0, h.1, strOk_of]
  | a f x, h => by simp [py, PyData.canLay0, PyData.canLayAll0, py_can h.1, py_can h.2, strOk_of]
theorem py_dep : ∀ k : Kd, k.py.depth ≤ k.dep
  | v n => by simp [py, PyData.depth, PyData.depthAll, dep]
  | c n => by simp [py, PyData.depth, PyData.depthAll, dep]
  | a f x => by
    have h1 := py_dep f
    have h2 := py_dep x
    simp [py, PyData.depth, PyData.depthAll, dep]
    omega
theorem py_sh {k : Kd} (hw : k.wk) (h : k.dep ≤ 60) : SeqAt.shaped k.py = true := by
  have := py_dep k
  simp [SeqAt.shaped, py_can hw]
  omega
theorem py_show : ∀ k : Kd, k.py.showable = true
  | v n => by simp [py, PyData.showable, PyData.showableAll]
  | c n => by simp [py, PyData.showable, PyData.showableAll]
  | a f x => by simp [py, PyData.showable, PyData.showableAll, py_show f, py_show x]
theorem py_eqv : ∀ k : Kd, PyData.eqv k.py k.py = true
  | v n => by simp [py, PyData.eqv, PyData.eqvAll]
  | c n => by simp [py, PyData.eqv, PyData.eqvAll]
  | a f x => by simp [py, PyData.eqv, PyData.eqvAll, py_eqv f, py_eqv x]
theorem py_tup (k : Kd) : ∃ x xs, k.py = .tuple (x :: xs) := by cases k <;> exact ⟨_, _, rfl⟩
theorem eq_self {neg : Bool} {k : Kd} {S : Sto} (hw : k.wk) (h : k.dep ≤ 60) : opEqZ neg (.p k.py) (.p k.py) S = .ok (.p (.bool (!neg))) S := by
  have hs := py_sh hw h
  have he := py_eqv k
  obtain ⟨x, xs, e⟩ := py_tup k
  rw [e] at hs he ⊢
  rw [eqZ_t, eqX_t hs hs]
  have he : PyData.eqvAll (x :: xs) (x :: xs) = true := by simpa [PyData.eqv] using he
  rw [he]
  cases neg <;> rfl
theorem eq_kinds {neg : Bool} {k : Kd} {d : PyData} {S : Sto} (hw : k.wk) (h : k.dep ≤ 60) (e : d = k.py) : opEqZ neg (.p d) (.p k.py) S = .ok (.p (.bool (!neg))) S := by rw [e]; exact eq_self hw h
def okBy (kvs : List (Key × PyData)) : Prop := ∀ p ∈ kvs, ∃ (n : Str) (k : Kd), p = (.inr n, k.py) ∧ k.dep ≤ 10 ∧ k.wk
def putP (kvs : List (Key × PyData)) : Kd → PyData
  | v n => (valD kvs (.inr n)).getD (v n).py
  | c n => (c n).py
  | a f x => .tuple [.str "apply", putP kvs f, putP kvs x]
theorem valD_mem {kvs : List (Key × PyData)} {k : Key} {d : PyData} (h : valD kvs k = some d) : (k, d) ∈ kvs := by
  unfold valD at h
  rw [Option.map_eq_some_iff] at h
  obtain ⟨p, e, rfl⟩ := h
  have h1 := List.mem_of_find?_eq_some e
  have h2 := List.find?_some e
  have h3 : p.1 = k := by simpa using h2
  rw [← h3]
  exact h1
theorem putP_kd {kvs : List (Key × PyData)} (hb : okBy kvs) : ∀ k : Kd, k.wk → ∃ k' : Kd, putP kvs k = k'.py ∧ k'.dep ≤ k.dep + 10 ∧ k'.wk
  | v n, hw => by
    unfold putP
    cases e : valD kvs (.inr n) with
    | none => exact ⟨v n, rfl, by omega, hw⟩
    | some d =>
      obtain ⟨n', k, e2, hk, hkw⟩ := hb _ (valD_mem e)
      cases e2
      exact ⟨k, rfl, by omega, hkw⟩
  | c n, hw => ⟨c n, rfl, by omega, hw⟩
  | a f x, hw => by
    obtain ⟨f', e1, h1, w1⟩ := putP_kd hb f hw.1
    obtain ⟨x', e2, h2, w2⟩ := putP_kd hb x hw.2
    refine ⟨a f' x', by simp [putP, py, e1, e2], ?_, w1, w2⟩
    simp only [dep]
    omega
theorem putP_nil : ∀ k : Kd, putP [] k = k.py
  | v n => rfl
  | c n => rfl
  | a f x => by simp [putP, py, putP_nil f, putP_nil x]
theorem F_putl (k : Nat) : F (k + 1) .f_put_l = runF 2 (b_f_put_l (F k)) := rfl
theorem putl_ok {kvs : List (Key × PyData)} {S : Sto} : ∀ {k : Nat} (kd : Kd), kd.dep ≤ k → F k .f_put_l [.p kd.py, .p (.dict (pyKv kvs))] S = .ok (.p (putP kvs kd)) S
  | 0, kd, h => by cases kd <;> simp [dep] at h
  | k + 1, .v n, h => by
    rw [F_putl]
    refine run_ret ?_
    unfold b_f_put_l f_put_l_1
    simp [sSeq_, py, putP, eDm, getM, dicOf, pyKey]
    cases valD kvs (.inr n) <;> simp
  | k + 1, .c n, h => by
    rw [F_putl]
    refine run_ret ?_
    unfold b_f_put_l f_put_l_1
    simp [sSeq_, py, putP]
  | k + 1, .a f x, h => by
    simp only [dep] at h
    have e1 := putl_ok (kvs := kvs) (S := S) (k := k) f (by omega)
    have e2 := putl_ok (kvs := kvs) (S := S) (k := k) x (by omega)
    rw [F_putl]
    refine run_ret ?_
    unfold b_f_put_l f_put_l_1
    simp [sSeq_, py, putP, e1, e2]
theorem lv_len : ∀ k : Kd, 1 ≤ k.lv.length
  | .v n => by simp [lv]
  | .c n => by simp [lv]
  | .a f x => by have := lv_len f; simp [lv]; omega
def conK (f : Kd) : List Kd → Kd
  | [] => f
  | x :: r => conK (.a f x) r
theorem conl_loop {S : Sto} {r : Fn → List D → M D} {x0 x1 : Option D} : ∀ (ps : List Kd) (f : Kd) (x3 : Option D), ∃ x3', forD (gN 3) (f_con_l_1 r) (ps.map fun k => D.p k.py) [x0, x1, some (.p f.py), x3] S = some (.next [x0, x1, some (.p (conK f ps).py), x3'], S)
  | [], f, x3 => ⟨x3, rfl⟩
  | p :: ps, f, x3 => by
    obtain ⟨x3', e⟩ := conl_loop (S := S) (r := r) (x0 := x0) (x1 := x1) ps (.a f p) (some (.p p.py))
    refine ⟨x3', ?_⟩
    rw [List.map_cons]
    unfold forD
    simp only [gN_]
    unfold f_con_l_1
    simp [conK, py] at e ⊢
    exact e
theorem F_conl (k : Nat) : F (k + 1) .f_con_l = runF 4 (b_f_con_l (F k)) := rfl
theorem conl_ok {S : Sto} {k : Nat} {n : Str} {ps : List Kd} (hk : 1 ≤ k) : F k .f_con_l [.p (.str n), .p (.list (ps.map py))] S = .ok (.p (conK (.c n) ps).py) S := by
  obtain ⟨k, rfl⟩ : ∃ j, k = j + 1 := ⟨k - 1, by omega⟩
  rw [F_conl]
  refine run_ret ?_
  unfold b_f_con_l f_con_l_2
  obtain ⟨x3', e⟩ := conl_loop (S := S) (r := F k) (x0 := some (.p (.str n))) (x1 := some (.p (.list (ps.map py)))) ps (.c n) none
  have e' : (ps.map py).map D.p = ps.map fun k => D.p k.py := by simp
  simp [sSeq_, e'] 
  simp [py] at e
  simp [py, e]
end K07

namespace K07
open PySem L2 DL
open Kd

def okK (k : Kd) : Prop := k.wk ∧ k.dep ≤ 50
theorem canAll {xs : List PyData} (h : ∀ d ∈ xs, d.canLay0 = true) : PyData.canLayAll0 xs = true := by
  induction xs with
  | nil => rfl
  | cons x r ih => simp only [PyData.canLayAll0, Bool.and_eq_true]; exact ⟨h x (by simp), ih fun d hd => h d (by simp [hd])⟩
theorem depAll {xs : List PyData} {m : Nat} (h : ∀ d ∈ xs, d.depth ≤ m) : PyData.depthAll xs ≤ m := by
  induction xs with
  | nil => simp [PyData.depthAll]
  | cons x r ih =>
    have h1 := h x (by simp)
    have h2 := ih fun d hd => h d (by simp [hd])
    simp only [PyData.depthAll]
    omega
theorem shL {xs : List PyData} (h : ∀ d ∈ xs, d.canLay0 = true ∧ d.depth ≤ 62) : SeqAt.shaped (.list xs) = true := by
  have h1 := canAll fun d hd => (h d hd).1
  have h2 := depAll fun d hd => (h d hd).2
  simp [SeqAt.shaped, PyData.canLay0, h1, PyData.depth]
  omega
theorem shT {xs : List PyData} (h : ∀ d ∈ xs, d.canLay0 = true ∧ d.depth ≤ 62) : SeqAt.shaped (.tuple xs) = true := by
  have h1 := canAll fun d hd => (h d hd).1
  have h2 := depAll fun d hd => (h d hd).2
  simp [SeqAt.shaped, PyData.canLay0, h1, PyData.depth]
  omega
theorem okK_d {k : Kd} (h : okK k) : k.py.canLay0 = true ∧ k.py.depth ≤ 62 := ⟨py_can h.1, by have := py_dep k; have := h.2; omega⟩
theorem ne_nil {S : Sto} {j : Nat} {xs : List PyData} (h : S[j]? = some (.lst xs)) (hs : SeqAt.shaped (.list xs) = true) : opEqZ true (.ob j) (.p (.list [])) S = .ok (.p (.bool (!xs.isEmpty))) S := by
  have e : PyData.eqv (.list xs) (.list []) = xs.isEmpty := by cases xs <;> simp [PyData.eqv, PyData.eqvAll]
  have e0 : SeqAt.shaped (.list []) = true := rfl
  simp [opEqZ, dicOf, h, opEqX, opEq, val, hs, e0, e]
def nds : Kd → Nat
  | .v _ => 1
  | .c _ => 1
  | .a f x => 1 + nds f + nds x
def ndsL : List Kd → Nat
  | [] => 0
  | k :: r => nds k + ndsL r
def lvL : List Kd → List Kd
  | [] => []
  | k :: r => k.lv ++ lvL r
theorem okK_a {f x : Kd} (h : okK (.a f x)) : okK f ∧ okK x := by
  obtain ⟨⟨h1, h2⟩, h3⟩ := h
  simp only [dep] at h3
  exact ⟨⟨h1, by omega⟩, h2, by omega⟩
theorem nds_pos (k : Kd) : 1 ≤ nds k := by cases k <;> simp [nds] <;> omega
theorem lv_le : ∀ k : Kd, k.lv.length ≤ nds k
  | .v n => by simp [lv, nds]
  | .c n => by simp [lv, nds]
  | .a f x => by have := lv_le f; have := lv_le x; simp [lv, nds]; omega
theorem rlen (r : List Kd) : r.length ≤ ndsL r := by
  induction r with
  | nil => simp
  | cons t r ih => have := nds_pos t; simp [ndsL]; omega
theorem take_set_ge {α : Type} {S : List α} {j i : Nat} {o : α} (h : j ≤ i) : (S.set i o).take j = S.take j := by
  apply List.ext_getElem?
  intro l
  by_cases hl : l < j
  · rw [List.getElem?_take_of_lt hl, List.getElem?_take_of_lt hl, List.getElem?_set_ne (by omega)]
  · rw [List.getElem?_eq_none (by simp; omega), List.getElem?_eq_none (by simp; omega)]
theorem cut_of {o : Out D} {S : Sto} {x : PyData} (h : wp o (fun d s => d = .p x ∧ s.take S.length = S) noX) : cutX S.length o = .ok (.p x) S := by
  obtain ⟨d, s, rfl, rfl, e⟩ := wp_ex h
  simp [e]
theorem pys_kd : ∀ ks : List Kd, pys (ks.map fun k => D.p k.py) = some (ks.map py)
  | [] => rfl
  | k :: r => by simp [pys_kd r]
def okKs (ks : List Kd) : Prop := ∀ k ∈ ks, okK k ∧ nds k ≤ 900
theorem intsP_len (ks : List Kd) : intsP (ks.map fun k => PyData.int (k.lv.length : Int)) = some (ks.map fun k => (k.lv.length : Int)) := by
  induction ks with
  | nil => rfl
  | cons k r ih => simp [intsP, ih]
theorem sum_len (ks : List Kd) : (ks.map fun k => (k.lv.length : Int)).sum = (lvL ks).length := by
  induction ks with
  | nil => rfl
  | cons k r ih => simp [lvL, ih]
theorem lcD_on {α : Type} {g : FG} {e : FE} {ρ : Ev} {S : Sto} (p h : α → PyData) : ∀ {xs : List α}, (∀ x ∈ xs, ∃ ρ1, g (.p (p x)) ρ S = some (ρ1, S) ∧ e ρ1 S = .ok (.p (h x)) S) → lcD g tYesD e ρ (xs.map fun x => D.p (p x)) S = .ok (xs.map h) S
  | [], _ => rfl
  | x :: r, H => by
    obtain ⟨ρ1, h1, h2⟩ := H x (by simp)
    have ih := lcD_on p h (xs := r) (g := g) (e := e) (ρ := ρ) (S := S) fun y hy => H y (by simp [hy])
    rw [List.map_cons]
    unfold lcD
    simp [h1, h2, ih]
theorem mapD (ks : List Kd) : (ks.map py).map D.p = ks.map fun k => D.p k.py := by simp
def ded : List Str → List Str → List Str
  | acc, [] => acc
  | acc, n :: r => ded (if n ∈ acc then acc else acc ++ [n]) r
def vnL : List Kd → List Str
  | [] => []
  | k :: r => k.vn ++ vnL r
theorem ded_app : ∀ (acc l m : List Str), ded acc (l ++ m) = ded (ded acc l) m
  | acc, [], m => rfl
  | acc, n :: l, m => by simp only [List.cons_append, ded]; exact ded_app _ l m
theorem ded_len : ∀ (acc l : List Str), (ded acc l).length ≤ acc.length + l.length
  | acc, [] => by simp [ded]
  | acc, n :: l => by
    simp only [ded, List.length_cons]
    by_cases h : n ∈ acc
    · rw [if_pos h]
      have := ded_len acc l
      omega
    · rw [if_neg h]
      have := ded_len (acc ++ [n]) l
      simp at this
      omega
def dkv (ns : List Str) : List (Key × PyData) := ns.map fun n => (.inr n, .bool true)
theorem dkv_put (ns : List Str) (n : Str) : putD (dkv ns) (.inr n) (.bool true) = dkv (if n ∈ ns then ns else ns ++ [n]) := by
  unfold putD
  by_cases h : n ∈ ns
  · have h1 : ((dkv ns).any fun kv => decide (kv.1 = Sum.inr n)) = true := by
      rw [List.any_eq_true]
      exact ⟨(.inr n, .bool true), List.mem_map.mpr ⟨n, h, rfl⟩, by simp⟩
    rw [if_pos h1, if_pos h]
    unfold dkv
    rw [List.map_map]
    apply List.map_congr_left
    intro m _
    simp only [Function.comp]
    split
    · rfl
    · rfl
  · have h1 : ¬ ((dkv ns).any fun kv => decide (kv.1 = Sum.inr n)) = true := by
      rw [List.any_eq_true]
      rintro ⟨p, hp, e⟩
      obtain ⟨m, hm, rfl⟩ := List.mem_map.mp hp
      have : m = n := by simpa using e
      exact h (this ▸ hm)
    rw [if_neg h1, if_neg h]
    simp [dkv]
theorem vn_lv : ∀ k : Kd, k.vn = k.lv.flatMap Kd.vn
  | .v n => by simp [lv, vn]
  | .c n => by simp [lv, vn]
  | .a f x => by rw [vn, lv, List.flatMap_append, ← vn_lv f, ← vn_lv x]
theorem lv_leaf : ∀ {k x : Kd}, x ∈ k.lv → (∃ n, x = .v n) ∨ ∃ n, x = .c n
  | .v n, x, h => by simp [lv] at h; exact .inl ⟨n, h⟩
  | .c n, x, h => by simp [lv] at h; exact .inr ⟨n, h⟩
  | .a f y, x, h => by
    simp [lv] at h
    rcases h with h | h
    · exact lv_leaf h
    · exact lv_leaf h
theorem vnL_len : ∀ ks : List Kd, (vnL ks).length ≤ ndsL ks
  | [] => by simp [vnL, ndsL]
  | k :: r => by
    have h1 := vnL_len r
    have h2 : ∀ k : Kd, k.vn.length ≤ nds k := by
      intro k
      induction k with
      | v n => simp [vn, nds]
      | c n => simp [vn, nds]
      | a f x h1 h2 => simp [vn, nds]; omega
    have := h2 k
    simp [vnL, ndsL]
    omega
theorem vnL_app : ∀ (a b : List Kd), vnL (a ++ b) = vnL a ++ vnL b
  | [], b => rfl
  | k :: r, b => by simp [vnL, vnL_app r b]
theorem ndsL_app : ∀ (a b : List Kd), ndsL (a ++ b) = ndsL a + ndsL b
  | [], b => by simp [ndsL]
  | k :: r, b => by simp [ndsL, ndsL_app r b]; omega
theorem putS_ok {S : Sto} {ns : List Str} {n : Str} (h : ns.length < 1000000) : putS S.length (.p (.str n)) (.p (.bool true)) (S ++ [.dic (dkv ns)]) = some (S ++ [.dic (dkv (if n ∈ ns then ns else ns ++ [n]))]) := by
  have e : (S ++ [MO.dic (dkv ns)])[S.length]? = some (.dic (dkv ns)) := by simp
  have e2 : pyKey (.str n) = some (.inr n) := rfl
  have e3 : (dkv ns).length < LIM := by simp [dkv, LIM, h]
  unfold putS
  rw [e]
  simp only [e2, if_pos e3, dkv_put]
  simp
theorem take_snoc {α : Type} {l : List α} {i : Nat} {x : α} (h : l[i]? = some x) : l.take (i + 1) = l.take i ++ [x] := by
  rw [List.take_succ, h]; rfl
theorem take_lenle {ks : List Kd} {i : Nat} : ndsL (ks.take i) ≤ ndsL ks := by
  have e : ks = ks.take i ++ ks.drop i := (List.take_append_drop i ks).symm
  have := ndsL_app (ks.take i) (ks.drop i)
  rw [← e] at this
  omega
end K07

namespace K07
open PySem L2 DL
open Kd

theorem in_strs {S : Sto} {j : Nat} {ns : List Str} {n : Str} (h : S[j]? = some (.lst (ns.map .str))) : opInX true (.p (.str n)) (.ob j) S = .ok (.p (.bool (!decide (n ∈ ns)))) S := by
  have e1 : (ns.map PyData.str).all flatP = true := by simp [flatP]
  have e2 : inP (.str n) (ns.map .str) = decide (n ∈ ns) := by
    unfold inP
    rw [List.any_map]
    by_cases hn : n ∈ ns
    · rw [decide_eq_true hn, List.any_eq_true]
      exact ⟨n, hn, by simp [eqP]⟩
    · rw [decide_eq_false hn, List.any_eq_false]
      intro m hm
      have : m ≠ n := fun e => hn (e ▸ hm)
      simp [eqP, this]
  have e3 : opIn true (.p (.str n)) (.ob j) S = .ok (.p (.bool (!decide (n ∈ ns)))) S := by
    unfold opIn
    have es : seqOf S (.ob j) = some (ns.map .str) := by simp [seqOf, h]
    simp only [es]
    rw [if_pos (by rw [e1]; rfl), e2]
    rfl
  simp [opInX, e3]
def VlInv (ks : List Kd) (j : Nat) (S0 : Sto) (m : Nat) (ρ : Ev) (S : Sto) : Prop :=
  ∃ (acc : List Str) (todo : List Kd) (x : Option D), ρ = [some (.p (.list (ks.map py))), some (.ob j), some (.ob (j + 2)), x] ∧ S.length = j + 3 ∧ S.take j = S0 ∧ S[j]? = some (.lst (acc.map .str)) ∧ S[j + 2]? = some (.lst ((todo.map py).reverse)) ∧ m = ndsL todo ∧ acc.length + m ≤ 990000 ∧ ded acc (vnL todo) = ded [] (vnL ks) ∧ ∀ k ∈ todo, okK k
theorem F_vl (k : Nat) : F (k + 1) .f_vars_l = runF 4 (b_f_vars_l (F k)) := rfl
set_option maxHeartbeats 1000000 in
theorem vl_wp {ks : List Kd} {S : Sto} {k : Nat} (hk : 1 ≤ k) (hkd : ∀ k ∈ ks, okK k) (hn : ndsL ks ≤ 900000) : wp (F k .f_vars_l [.p (.list (ks.map py))] S) (fun d s => d = .p (.list ((ded [] (vnL ks)).map .str)) ∧ s.take S.length = S) noX := by
  obtain ⟨k, rfl⟩ : ∃ j, k = j + 1 := ⟨k - 1, by omega⟩
  rw [F_vl, wp_run]
  show wpS (b_f_vars_l (F k) [some (.p (.list (ks.map py))), none, none, none] S) _
  unfold b_f_vars_l
  have e0 : revMM (.ob (S.length + 1)) (S ++ [.lst [], .lst (ks.map py)]) = .ok (.ob (S.length + 2)) (S ++ [.lst [], .lst (ks.map py)] ++ [.lst (ks.map py).reverse]) := by
    have e : (S ++ [MO.lst [], MO.lst (ks.map py)])[S.length + 1]? = some (.lst (ks.map py)) := by simp
    rw [revMM_ok (rlOf_ob e)]
    simp
  simp [mkLstM, finM, e0]
  refine whileD_wp (VlInv ks S.length S) ?_ (m := ndsL ks) (by omega) ⟨[], ks, none, rfl, by simp, by simp, by simp, by simp, rfl, by simp; omega, rfl, hkd⟩
  rintro m ρ S' ⟨acc, todo, x, rfl, hL, hT, hj, hj1, rfl, hlen, hlv, hok⟩
  have hs : SeqAt.shaped (.list ((todo.map py).reverse)) = true := shL fun d hd => by
    simp at hd
    obtain ⟨k, hk, rfl⟩ := hd
    exact okK_d (hok k hk)
  simp [ne_nil hj1 hs]
  cases todo with
  | nil =>
    simp
    unfold f_vars_l_2
    simp [iceD, hj]
    refine ⟨by simp [vnL, ded] at hlv; rw [hlv], ?_⟩
    rw [take_set_ge (Nat.le_refl _)]
    exact hT
  | cons t r =>
    simp
    have hp := nds_pos t
    refine ⟨ndsL (t :: r) - 1, by simp [ndsL]; omega, ?_⟩
    unfold f_vars_l_1
    have e1 : S'[S.length + 2]? = some (.lst ((r.map py).reverse ++ [t.py])) := by simpa using hj1
    simp [rlOf_ob e1, pop_ok e1]
    have ht := hok t (by simp)
    have hr : ∀ k ∈ r, okK k := fun k hk => hok k (by simp [hk])
    have hlt : S.length + 2 < S'.length := by omega
    have h2 : (S'.set (S.length + 2) (.lst ((r.map py).reverse)))[S.length]? = some (.lst (acc.map .str)) := by rw [List.getElem?_set_ne (by omega)]; exact hj
    have h3 : (S'.set (S.length + 2) (.lst ((r.map py).reverse)))[S.length + 2]? = some (.lst ((r.map py).reverse)) := by simp [hlt]
    cases t with
    | v n =>
      simp [py, in_strs h2]
      by_cases hm : n ∈ acc
      · simp [hm]
        refine ⟨acc, r, _, rfl, by simp [hL], ?_, h2, h3, by simp [ndsL, nds], by simp [ndsL, nds] at hlen ⊢; omega, by simpa [vnL, vn, ded, hm] using hlv, hr⟩
        rw [take_set_ge (by omega)]; exact hT
      · simp [hm, rlOf_ob h2, append_ok h2 (by simp; simp [ndsL] at hlen; omega)]
        refine ⟨acc ++ [n], r, _, rfl, by simp [hL], ?_, ?_, ?_, by simp [ndsL, nds], by simp; simp [ndsL, nds] at hlen ⊢; omega, by simpa [vnL, vn, ded, hm] using hlv, hr⟩
        · rw [take_set_ge (by omega), take_set_ge (by omega)]; exact hT
        · rw [List.getElem?_set_self (by simp; omega)]; simp
        · rw [List.getElem?_set_ne (by omega)]; exact h3
    | c n =>
      simp [py]
      refine ⟨acc, r, _, rfl, by simp [hL], ?_, h2, h3, by simp [ndsL, nds], by simp [ndsL, nds] at hlen ⊢; omega, by simpa [vnL, vn, ded] using hlv, hr⟩
      rw [take_set_ge (by omega)]; exact hT
    | a f y =>
      simp [py]
      have hrl := rlen r
      simp [rlOf_ob h3, extend_ok h3 (ys := [y.py, f.py]) (by simp; simp [ndsL] at hlen; omega)]
      obtain ⟨k1, k2⟩ := okK_a ht
      refine ⟨acc, f :: y :: r, _, rfl, by simp [hL], ?_, ?_, ?_, by simp [ndsL, nds]; omega, by simp [ndsL, nds] at hlen ⊢; omega, by simpa [vnL, vn] using hlv, ?_⟩
      · rw [take_set_ge (by omega)]; exact hT
      · rw [List.getElem?_set_ne (by omega)]; exact hj
      · simp [hlt]
      · intro k hk
        simp at hk
        rcases hk with rfl | rfl | hk
        · exact k1
        · exact k2
        · exact hr k hk
theorem vl_ok {ks : List Kd} {S : Sto} {k : Nat} (hk : 1 ≤ k) (hkd : ∀ k ∈ ks, okK k) (hn : ndsL ks ≤ 900000) : cutX S.length (F k .f_vars_l [.p (.list (ks.map py))] S) = .ok (.p (.list ((ded [] (vnL ks)).map .str))) S := cut_of (vl_wp hk hkd hn)
inductive Gk (ns : List Str) : Nat → Kd → Prop
  | v {d : Nat} {n : Str} : n ∈ ns → nOk n → Gk ns d (.v n)
  | c {d : Nat} {n : Str} : nOk n → Gk ns d (.c n)
  | av {d : Nat} {n : Str} {p : Kd} : n ∈ ns → nOk n → Gk ns d p → Gk ns (d + 1) (.a (.v n) p)
  | a1 {d : Nat} {n : Str} {p : Kd} : nOk n → Gk ns d p → Gk ns (d + 1) (.a (.c n) p)
  | a2 {d : Nat} {n : Str} {p q : Kd} : nOk n → Gk ns d p → Gk ns d q → Gk ns (d + 1) (.a (.a (.c n) p) q)
theorem Gk.wk {ns : List Str} {d : Nat} {k : Kd} (h : Gk ns d k) : k.wk := by
  induction h with
  | v _ h => exact h
  | c h => exact h
  | av _ h _ ih => exact ⟨h, ih⟩
  | a1 h _ ih => exact ⟨h, ih⟩
  | a2 h _ _ i1 i2 => exact ⟨⟨h, i1⟩, i2⟩
theorem Gk.vars {ns : List Str} {d : Nat} {k : Kd} (h : Gk ns d k) : ∀ n ∈ k.vn, n ∈ ns := by
  induction h with
  | v h _ => simp [vn]; exact h
  | c h => simp [vn]
  | av h _ _ ih => simp only [vn, List.mem_append]; rintro n (hn | hn); simp at hn; exact hn ▸ h; exact ih n hn
  | a1 _ _ ih => simp only [vn, List.mem_append]; rintro n (hn | hn); simp at hn; exact ih n hn
  | a2 _ _ _ i1 i2 => simp only [vn, List.mem_append]; rintro n ((hn | hn) | hn); simp at hn; exact i1 n hn; exact i2 n hn
theorem Gk.dep {ns : List Str} {d : Nat} {k : Kd} (h : Gk ns d k) : k.dep ≤ 2 * d + 1 := by
  induction h with
  | v _ h => simp [Kd.dep]
  | c h => simp [Kd.dep]
  | av _ h _ ih => simp [Kd.dep]; omega
  | a1 h _ ih => simp [Kd.dep]; omega
  | a2 h _ _ i1 i2 => simp [Kd.dep]; omega
theorem Gk.nds {ns : List Str} {d : Nat} {k : Kd} (h : Gk ns d k) : nds k + 3 ≤ 2 ^ (d + 2) := by
  have e : ∀ d, 2 ^ (d + 1 + 2) = 2 * 2 ^ (d + 2) := fun d => by rw [show d + 1 + 2 = (d + 2) + 1 by omega, Nat.pow_succ]; omega
  induction h with
  | v _ h => simp [K07.nds]; exact Nat.le_trans (by decide) (Nat.pow_le_pow_right (by decide) (Nat.le_add_left 2 _))
  | c h => simp [K07.nds]; exact Nat.le_trans (by decide) (Nat.pow_le_pow_right (by decide) (Nat.le_add_left 2 _))
  | av _ h _ ih => rw [e]; simp [K07.nds]; omega
  | a1 h _ ih => rw [e]; simp [K07.nds]; omega
  | a2 h _ _ i1 i2 => rw [e]; simp [K07.nds]; omega
theorem Gk.vnl {ns : List Str} {d : Nat} {k : Kd} (h : Gk ns d k) : k.vn.length ≤ 2 ^ d := by
  induction h with
  | v _ h => simpa [vn] using Nat.one_le_two_pow
  | c h => simp [vn]
  | @av d n p _ h _ ih => have := Nat.one_le_two_pow (n := d); rw [Nat.pow_succ]; simp [vn]; omega
  | a1 h _ ih => rw [Nat.pow_succ]; simp [vn]; omega
  | a2 h _ _ i1 i2 => rw [Nat.pow_succ]; simp [vn]; omega
theorem Gk.mono {ns : List Str} {d e : Nat} {k : Kd} (h : Gk ns d k) (he : d ≤ e) : Gk ns e k := by
  induction h generalizing e with
  | v h h' => exact .v h h'
  | c h => exact .c h
  | av h h' _ ih =>
    obtain ⟨e, rfl⟩ : ∃ j, e = j + 1 := ⟨e - 1, by omega⟩
    exact .av h h' (ih (by omega))
  | a1 h _ ih =>
    obtain ⟨e, rfl⟩ : ∃ j, e = j + 1 := ⟨e - 1, by omega⟩
    exact .a1 h (ih (by omega))
  | a2 h _ _ i1 i2 =>
    obtain ⟨e, rfl⟩ : ∃ j, e = j + 1 := ⟨e - 1, by omega⟩
    exact .a2 h (i1 (by omega)) (i2 (by omega))
end K07

namespace K07
open PySem L2 DL
open Kd

def C07 : DrC := ⟨2147483587, 48271, 16807, 13, 50, 57⟩
theorem C07_ok : C07.ok := by unfold DrC.ok C07; decide
theorem F_draw (k : Nat) : F (k + 1) .f_draw_l = runF 6 (drawB2 C07) := rfl
theorem F_pick (k : Nat) : F (k + 2) .f_pick_l = runF 2 (pickBX (runF 6 (drawB2 C07))) := rfl
section
variable {cs : List PyData} {L : Nat} {n m : Int} {S : Sto} {k : Nat} {Q : D → Sto → Prop} {X : Exn → Sto → Prop}
theorem dr_wp (hc : Cells cs) (h : Tape cs 0 L n S) (hk : 1 ≤ k) (hn : n ≤ 1000000000000) (hm : 0 < m) (hm2 : m ≤ 1000000) (q : ∀ g S', 0 ≤ g → g < m → Tape cs 0 L (n + 1) S' → Oth 0 S S' → Q (.p (.int g)) S') : wp (cutX S.length (F k .f_draw_l [.ob 0, .p (.int m)] S)) Q X := by
  obtain ⟨k, rfl⟩ : ∃ j, k = j + 1 := ⟨k - 1, by omega⟩
  rw [F_draw]
  exact drawK_wp C07_ok hc h hn hm (by
    have := lg (n := m.natAbs) (k := 40) (by have : (2 : Nat) ^ 40 = 1099511627776 := by decide
                                             omega) (by decide)
    omega) q
theorem pk_wp {xs : List PyData} (hc : Cells cs) (h : Tape cs 0 L n S) (hk : 2 ≤ k) (hn : n ≤ 1000000000000) (hx : xs ≠ []) (hx2 : xs.length < 1000000) (q : ∀ d S', d ∈ xs → Tape cs 0 L (n + 1) S' → Oth 0 S S' → Q (.p d) S') : wp (cutX S.length (F k .f_pick_l [.ob 0, .p (.list xs)] S)) Q X := by
  obtain ⟨k, rfl⟩ : ∃ j, k = j + 2 := ⟨k - 2, by omega⟩
  rw [F_pick]
  exact pickK_wp C07_ok hc h hn hx hx2 q
end
def rests : List Str := ["", "x", "oo", "zzzz", "ery", "bbbbbbb"]
def nOkB (n : Str) : Bool := PyData.strOk n && decide ((PyData.str n).shown.length ≤ 14)
theorem nOk_of {n : Str} (h : nOkB n = true) : nOk n := by
  simp only [nOkB, Bool.and_eq_true, decide_eq_true_eq] at h
  exact h
theorem words_all : (rests.all fun r => (List.range 26).all fun c => nOkB (r ++ ⟨#[97 + c]⟩) && nOkB (⟨#[97 + c]⟩ ++ r) && decide (r.length ≤ 7)) = true := by decide +kernel
theorem abc_at : ∀ i : Fin 26, atI (Str.ofString "abcdefghijklmnopqrstuvwxyz").cps.toList ((i : Nat) : Int) = some (97 + (i : Nat)) := by decide +kernel
theorem abc_len : (Str.ofString "abcdefghijklmnopqrstuvwxyz").length = 26 := by decide +kernel
theorem abc_sub {i : Int} {S : Sto} (h0 : 0 ≤ i) (h1 : i < 26) : ∃ c : Nat, c < 26 ∧ opSubs (.p (.str "abcdefghijklmnopqrstuvwxyz")) (.p (.int i)) S = .ok (.p (.str ⟨#[97 + c]⟩)) S := by
  obtain ⟨j, rfl⟩ : ∃ j : Nat, i = j := ⟨i.toNat, by omega⟩
  have hj : j < 26 := by omega
  refine ⟨j, hj, ?_⟩
  have e := abc_at ⟨j, hj⟩
  simp at e
  have hl : (Str.ofString "abcdefghijklmnopqrstuvwxyz").length ≤ LIM := by rw [abc_len]; decide
  simp [opSubs, seqOf, hl, e]
theorem word_ok {r : Str} {c : Nat} (hr : r ∈ rests) (hc : c < 26) : nOk (r ++ ⟨#[97 + c]⟩) ∧ nOk (⟨#[97 + c]⟩ ++ r) ∧ r.length ≤ 7 := by
  have h := words_all
  rw [List.all_eq_true] at h
  have h := h r hr
  rw [List.all_eq_true] at h
  have h := h c (List.mem_range.mpr hc)
  simp only [Bool.and_eq_true, decide_eq_true_eq] at h
  exact ⟨nOk_of h.1.1, nOk_of h.1.2, h.2⟩
theorem F_words (k : Nat) : F (k + 1) .f_words_l = runF 8 (b_f_words_l (F k)) := rfl
set_option maxHeartbeats 2000000 in
theorem words_wp {cs : List PyData} (hc : Cells cs) {L : Nat} {n m : Int} {S : Sto} {k : Nat} {Q : D → Sto → Prop} {X : Exn → Sto → Prop} (h : Tape cs 0 L n S) (hn : n ≤ 100000000) (hk : 4 ≤ k) (hm : 0 ≤ m) (hm2 : m ≤ 100)
    (q : ∀ (ns : List Str) S', (ns.length : Int) = m → (∀ x ∈ ns, nOk x) → Tape cs 0 L (n + 3) S' → Q (.p (.list (ns.map .str))) S') : wp (cutX S.length (F k .f_words_l [.ob 0, .p (.int m)] S)) Q X := by
  obtain ⟨k, rfl⟩ : ∃ j, k = j + 1 := ⟨k - 1, by omega⟩
  refine wp_cutXS ?_
  rw [F_words, wp_run]
  show wpS (b_f_words_l (F k) [some (.ob 0), some (.p (.int m)), none, none, none, none, none, none] S) _
  unfold b_f_words_l
  have em : ∀ S : Sto, mkLst [.p (.str ""), .p (.str "x"), .p (.str "oo"), .p (.str "zzzz"), .p (.str "ery"), .p (.str "bbbbbbb")] S = .ok (.p (.list (rests.map .str))) S := fun S => rfl
  have hl2 : m.toNat ≤ LIM := by simp [LIM]; omega
  simp [em]
  refine pk_wp hc h (by omega) (by omega) (by simp [rests]) (by simp [rests]) fun d S1 hd t1 _ => ?_
  obtain ⟨r, hr, rfl⟩ : ∃ r ∈ rests, d = .str r := by
    obtain ⟨r, hr, e⟩ := List.mem_map.mp hd
    exact ⟨r, hr, e.symm⟩
  refine dr_wp hc t1 (by omega) (by omega) (by decide) (by decide) fun g S2 g0 g1 t2 _ => ?_
  simp [range_ok hm (by omega : m ≤ 1000000), hl2]
  refine lcP_wp (fun d => ∃ c : Nat, c < 26 ∧ d = .str ⟨#[97 + c]⟩) ?_ ?_
  · intro d hd
    obtain ⟨i, hi, rfl⟩ := List.mem_map.mp hd
    have hi : i < m.toNat := List.mem_range.mp hi
    have e1 : opMulX (.p (.int 7)) (.p (.int i)) S2 = .ok (.p (.int (7 * i))) S2 := opMulX_i (by
      have := lg (n := ((i : Int)).natAbs) (k := 40) (by have : (2 : Nat) ^ 40 = 1099511627776 := by decide
                                                         omega) (by decide)
      have : (7 : Int).natAbs.log2 < 10 := by decide
      omega)
    have e2 : ∀ z : Int, intTM [.p (.int z)] S2 = .ok (.p (.int z)) S2 := fun z => rfl
    have e3 : ∀ z : Int, opMod (.p (.int z)) (.p (.int 26)) S2 = .ok (.p (.int (z % 26))) S2 := fun z => opMod_i (by decide)
    obtain ⟨c, hc26, e4⟩ := abc_sub (S := S2) (i := (g + 7 * i) % 26) (by omega) (by omega)
    simp [e1, e2, e3, e4]
    exact hc26
  · intro zs hl hz
    refine dr_wp hc t2 (by omega) (by omega) (by decide) (by decide) fun g2 S3 g20 g21 t3 _ => ?_
    have hl' : zs.length = m.toNat := by simpa using hl
    obtain ⟨cs', rfl, hcs⟩ : ∃ cs' : List Nat, zs = cs'.map (fun c => PyData.str ⟨#[97 + c]⟩) ∧ ∀ c ∈ cs', c < 26 := by
      clear hl hl'
      induction zs with
      | nil => exact ⟨[], rfl, fun c hc => nomatch hc⟩
      | cons z r ih =>
        obtain ⟨c, h1, rfl⟩ := hz z (by simp)
        obtain ⟨cs', rfl, h2⟩ := ih fun z hz' => hz z (by simp [hz'])
        exact ⟨c :: cs', rfl, fun x hx => by simp at hx; rcases hx with rfl | hx; exact h1; exact h2 x hx⟩
    have hcl : cs'.length = m.toNat := by simpa using hl'
    have hll : cs'.length ≤ LIM := by rw [hcl]; exact hl2
    simp [hll]
    have hw : ∀ c < 26, nOk (r ++ ⟨#[97 + c]⟩) ∧ nOk (⟨#[97 + c]⟩ ++ r) ∧ r.length ≤ 7 := fun c hc => word_ok hr hc
    have h7 := (hw 0 (by decide)).2.2
    have a1 : ∀ c : Nat, opAddX (.p (.str r)) (.p (.str ⟨#[97 + c]⟩)) S3 = .ok (.p (.str (r ++ ⟨#[97 + c]⟩))) S3 := fun c => addX_s (by
      have : (⟨#[97 + c]⟩ : Str).length = 1 := rfl
      rw [this]; simp [LIM]; omega)
    have a2 : ∀ c : Nat, opAddX (.p (.str ⟨#[97 + c]⟩)) (.p (.str r)) S3 = .ok (.p (.str (⟨#[97 + c]⟩ ++ r))) S3 := fun c => addX_s (by
      have : (⟨#[97 + c]⟩ : Str).length = 1 := rfl
      rw [this]; simp [LIM]; omega)
    refine lcP_wp (fun d => ∃ x, d = .str x ∧ nOk x) ?_ ?_
    · intro d hd
      obtain ⟨c, hc', rfl⟩ := List.mem_map.mp hd
      have hcc := hw c (hcs c hc')
      by_cases hg : g2 = 0
      · subst hg
        simp [a1]
        exact hcc.1
      · simp [hg, a2]
        exact hcc.2.1
    · intro zs hl hz
      have hlm : (zs.length : Int) = m := by simp at hl; omega
      obtain ⟨ns, rfl, hns⟩ : ∃ ns : List Str, zs = ns.map PyData.str ∧ ∀ x ∈ ns, nOk x := by
        clear hl hlm
        induction zs with
        | nil => exact ⟨[], rfl, fun c hc => nomatch hc⟩
        | cons z r ih =>
          obtain ⟨c, rfl, h1⟩ := hz z (by simp)
          obtain ⟨cs', rfl, h2⟩ := ih fun z hz' => hz z (by simp [hz'])
          exact ⟨c :: cs', rfl, fun x hx => by simp at hx; rcases hx with rfl | hx; exact h1; exact h2 x hx⟩
      exact ⟨t3.1.trans h.1.symm, q ns S3 (by simpa using hlm) hns (t3.mono (by omega))⟩
theorem F_lk (k : Nat) : F (k + 1) .f_letter_kind_l = runF 8 (b_f_letter_kind_l (F k)) := rfl
def okCons (c : PyData) : Prop := ∃ (n : Str) (m : Int), c = .tuple [.str n, .int m] ∧ nOk n ∧ 0 ≤ m ∧ m ≤ 2
def cst (d : Nat) : Int := 7 * 2 ^ d - 4
theorem cst_succ (d : Nat) : cst (d + 1) = 2 * cst d + 4 := by unfold cst; rw [Int.pow_succ]; omega
theorem cst_pos (d : Nat) : 3 ≤ cst d := by
  have : (1 : Int) ≤ 2 ^ d := by
    have := Nat.one_le_two_pow (n := d)
    exact_mod_cast this
  unfold cst
  omega
theorem ne_strs {S : Sto} {ns : List Str} (h : ∀ n ∈ ns, nOk n) : opEqZ true (.p (.list (ns.map .str))) (.p (.list [])) S = .ok (.p (.bool (!ns.isEmpty))) S := by
  have hs : SeqAt.shaped (.list (ns.map .str)) = true := shL fun d hd => by
    obtain ⟨m, hm, rfl⟩ := List.mem_map.mp hd
    exact ⟨by simpa [PyData.canLay0] using (h m hm).1, by simp [PyData.depth]⟩
  rw [eqZ_l, eqX_l hs rfl]
  cases ns <;> simp [PyData.eqvAll, PyData.eqv]
def lfE (r : Fn → List D → M D) : FE := (eIf (tAndD (tC2 (opEqZ true) (eVar 1) (eA mkLst aNil)) (tC2 (opEqZ false) (eCallX 2 (r .f_draw_l) (aCons (eVar 0) (aCons (eC (.p (.int 2))) aNil))) (eC (.p (.int 0))))) (eA mkTup (aCons (eC (.p (.str "var"))) (aCons (eCallX 2 (r .f_pick_l) (aCons (eVar 0) (aCons (eVar 1) aNil))) aNil))) (eA mkTup (aCons (eC (.p (.str "con"))) (aCons (e2 opSubs (eCallX 2 (r .f_pick_l) (aCons (eVar 0) (aCons (eVar 2) aNil))) (eC (.p (.int 0)))) aNil))))
theorem b_lk (r : Fn → List D → M D) : b_f_letter_kind_l r = sSeq (sIf (tOrD (tC2 (opEqZ false) (eVar 3) (eC (.p (.int 0)))) (tC2 (opEqZ false) (eCallX 2 (r .f_draw_l) (aCons (eVar 0) (aCons (eC (.p (.int 3))) aNil))) (eC (.p (.int 0))))) (sRet (lfE r)) sNext) (f_letter_kind_l_2 r) := rfl
set_option maxHeartbeats 2000000 in
theorem leaf_wp {cs : List PyData} (hc : Cells cs) {ns : List Str} {co : List PyData} (hns : ∀ n ∈ ns, nOk n) (hnl : ns.length ≤ 100) (hco : ∀ c ∈ co, okCons c) (hco1 : co ≠ []) (hcl : co.length ≤ 100) {r : Ev} {L : Nat} {n : Int} {S : Sto} {k : Nat} {Q : D → Sto → Prop} {X : Exn → Sto → Prop} (h : Tape cs 0 L n S) (hn : n ≤ 100000000) (hk : 2 ≤ k)
    (q : ∀ kd S', (∀ d, Gk ns d kd) → Tape cs 0 L (n + 2) S' → Oth 0 S S' → Q (.p kd.py) S') : wp (lfE (F k) (some (.ob 0) :: some (.p (.list (ns.map .str))) :: some (.p (.list co)) :: r) S) Q X := by
  have con : ∀ n' S', n' ≤ n + 1 → Tape cs 0 L n' S' → Oth 0 S S' → wp (cutX S'.length (F k .f_pick_l [.ob 0, .p (.list co)] S')) (fun a s => wp (opSubs a (.p (.int 0)) s) (fun a s => wp (mkTup [.p (.str "con"), a] s) Q X) X) X := fun n' S' hn' t o => by
    refine pk_wp hc t hk (by omega) hco1 (by omega) fun d S2 hd t2 o2 => ?_
    obtain ⟨x, m, rfl, hx, _, _⟩ := hco d hd
    simp
    exact q (.c x) S2 (fun d => .c hx) (t2.mono (by omega)) (o.trans o2)
  unfold lfE
  simp [ne_strs hns]
  cases ns with
  | nil =>
    simp
    exact con n S (by omega) h Oth.refl
  | cons x r' =>
    simp
    refine dr_wp hc h (by omega) (by omega) (by decide) (by decide) fun g S1 g0 g1 t1 o1 => ?_
    by_cases hg : g = 0
    · subst hg
      simp
      refine pk_wp (xs := (x :: r').map .str) hc t1 hk (by omega) (by simp) (by simp at hnl ⊢; omega) fun d S2 hd t2 o2 => ?_
      obtain ⟨y, hy, rfl⟩ := List.mem_map.mp hd
      simp
      exact q (.v y) S2 (fun d => .v hy (hns y hy)) (t2.mono (by omega)) (o1.trans o2)
    · simp [hg]
      exact con (n + 1) S1 (by omega) t1 o1
set_option maxHeartbeats 4000000 in
theorem lk_wp {cs : List PyData} (hc : Cells cs) {ns : List Str} {co : List PyData} (hns : ∀ n ∈ ns, nOk n) (hnl : ns.length ≤ 100) (hco : ∀ c ∈ co, okCons c) (hco1 : co ≠ []) (hcl : co.length ≤ 100) : ∀ (d : Nat) {L : Nat} {n : Int} {S : Sto} {k : Nat} {Q : D → Sto → Prop} {X : Exn → Sto → Prop}, Tape cs 0 L n S → n + cst d ≤ 100000000 → d + 4 ≤ k → d ≤ 100 →
    (∀ kd S', Gk ns d kd → Tape cs 0 L (n + cst d) S' → Oth 0 S S' → Q (.p kd.py) S') → wp (cutX S.length (F k .f_letter_kind_l [.ob 0, .p (.list (ns.map .str)), .p (.list co), .p (.int d)] S)) Q X := by
  intro d
  induction d with
  | zero =>
    intro L n S k Q X h hn hk _ q
    obtain ⟨k, rfl⟩ : ∃ j, k = j + 1 := ⟨k - 1, by omega⟩
    have hp := cst_pos 0
    refine wp_cutXS ?_
    rw [F_lk, wp_run]
    show wpS (b_f_letter_kind_l (F k) [some (.ob 0), some (.p (.list (ns.map .str))), some (.p (.list co)), some (.p (.int 0)), none, none, none, none] S) _
    rw [b_lk]
    simp
    refine leaf_wp hc hns hnl hco hco1 hcl h (by omega) (by omega) fun kd S' hg t o => ⟨t.1.trans h.1.symm, q kd S' (hg 0) (t.mono (by omega)) o⟩
  | succ d ih =>
    intro L n S k Q X h hn hk hd q
    obtain ⟨k, rfl⟩ : ∃ j, k = j + 1 := ⟨k - 1, by omega⟩
    have hp := cst_pos d
    have hs := cst_succ d
    refine wp_cutXS ?_
    rw [F_lk, wp_run]
    show wpS (b_f_letter_kind_l (F k) [some (.ob 0), some (.p (.list (ns.map .str))), some (.p (.list co)), some (.p (.int ((d + 1 : Nat) : Int))), none, none, none, none] S) _
    rw [b_lk]
    have hd0 : ¬ (((d + 1 : Nat) : Int) = 0) := by omega
    simp [hd0]
    refine dr_wp hc h (by omega) (by omega) (by decide) (by decide) fun g S1 g0 g1 t1 o1 => ?_
    by_cases hg : g = 0
    · subst hg
      simp
      refine leaf_wp hc hns hnl hco hco1 hcl t1 (by omega) (by omega) fun kd S' hg t o => ⟨t.1.trans h.1.symm, q kd S' (hg _) (t.mono (by omega)) (o1.trans o)⟩
    · simp [hg]
      unfold f_letter_kind_l_2
      simp
      refine pk_wp hc t1 (by omega) (by omega) hco1 (by omega) fun c S2 hc2 t2 o2 => ?_
      obtain ⟨x, m, rfl, hx, hm0, hm2⟩ := hco c hc2
      simp [gTupD, range_ok hm0 (by omega : m ≤ 1000000), show m.toNat ≤ LIM by simp [LIM]; omega]
      refine lcO_wp 2 (fun z => ∃ kd : Kd, z = kd.py ∧ Gk ns d kd) (c := cst d) (by omega) (by simp; omega) t2 ?_ ?_
      · intro y hy n' S' hn1 hn2 t
        obtain ⟨i, hi, rfl⟩ := List.mem_map.mp hy
        have e : (d : Int) + 1 - 1 = d := by omega
        simp [e]
        exact ih t (by omega) (by omega) (by omega) fun kd S'' hg t' o' => ⟨_, rfl, ⟨kd, rfl, hg⟩, t', o'⟩
      · intro zs S3 hl hz t3 o3
        have o3 := (o1.trans o2).trans o3
        obtain ⟨ps, rfl, hps⟩ : ∃ ps : List Kd, zs = ps.map py ∧ ∀ k ∈ ps, Gk ns d k := by
          clear hl
          induction zs with
          | nil => exact ⟨[], rfl, fun c hc => nomatch hc⟩
          | cons z r ih =>
            obtain ⟨c, rfl, h1⟩ := hz z (by simp)
            obtain ⟨cs', rfl, h2⟩ := ih fun z hz' => hz z (by simp [hz'])
            exact ⟨c :: cs', rfl, fun x hx => by simp at hx; rcases hx with rfl | hx; exact h1; exact h2 x hx⟩
        have hlm : (ps.length : Int) = m := by simp at hl; omega
        have fin : ∀ n' S', n' ≤ n + cst (d + 1) → Tape cs 0 L n' S' → Oth 0 S S' → List.length S' = List.length S ∧ Q (.p (conK (.c x) ps).py) S' := fun n' S' hn' t o => ⟨t.1.trans h.1.symm, q _ S' (by
          match ps, hlm, hps with
          | [], _, _ => exact .c hx
          | [p], _, hps => exact .a1 hx (hps p (by simp))
          | [p, p2], _, hps => exact .a2 hx (hps p (by simp)) (hps p2 (by simp))
          | _ :: _ :: _ :: _, hlm, _ => simp at hlm; omega) (t.mono hn') o⟩
        have ec : ∀ S' : Sto, F k .f_con_l [.p (.str x), .p (.list (ps.map py))] S' = .ok (.p (conK (.c x) ps).py) S' := fun S' => conl_ok (by omega)
        simp [ne_strs hns]
        have last : ∀ n' S', n' ≤ n + cst (d + 1) → Tape cs 0 L n' S' → Oth 0 S S' → wpS (f_letter_kind_l_1 (F k) [some (D.ob 0), some (D.p (PyData.list (List.map PyData.str ns))), some (D.p (PyData.list co)), some (D.p (PyData.int (↑d + 1))), some (D.p (PyData.list (List.map py ps))), some (D.p (PyData.str x)), some (D.p (PyData.int m)), none] S')
            (rn (fun d s => List.length s = List.length S ∧ Q d s) fun x s => List.length s = List.length S ∧ X x s) := fun n' S' hn' t o => by
          unfold f_letter_kind_l_1
          simp [ec]
          exact fin n' S' hn' t o
        by_cases hn0 : ns = []
        · rw [if_pos hn0]
          exact last _ S3 (by omega) t3 o3
        · rw [if_neg hn0]
          by_cases hm1 : m = 1
          · rw [if_pos hm1]
            refine dr_wp hc t3 (by omega) (by omega) (by decide) (by decide) fun g2 S4 g20 g21 t4 o4 => ?_
            by_cases hg2 : g2 = 0
            · subst hg2
              simp
              refine pk_wp (xs := ns.map .str) hc t4 (by omega) (by omega) (by simpa using hn0) (by simp; omega) fun y S5 hy t5 o5 => ?_
              obtain ⟨z, hz', rfl⟩ := List.mem_map.mp hy
              match ps, hlm, hps with
              | [p], _, hps =>
                simp
                exact ⟨t5.1.trans h.1.symm, q (.a (.v z) p) S5 (.av hz' (hns z hz') (hps p (by simp))) (t5.mono (by omega)) ((o3.trans o4).trans o5)⟩
              | [], hlm, _ => simp at hlm; omega
              | _ :: _ :: _, hlm, _ => simp at hlm; omega
            · simp [hg2]
              exact last _ S4 (by omega) t4 (o3.trans o4)
          · rw [if_neg hm1]
            exact last _ S3 (by omega) t3 o3
end K07

namespace K07
open PySem L2 DL
open Kd

def eqK : Kd → Kd → Bool
  | .v n, .v m => n == m
  | .c n, .c m => n == m
  | .a f x, .a g y => eqK f g && eqK x y
  | _, _ => false
theorem eqK_iff : ∀ {p q : Kd}, eqK p q = true ↔ p = q
  | .v n, .v m => by simp [eqK]
  | .c n, .c m => by simp [eqK]
  | .a f x, .a g y => by simp [eqK, eqK_iff (p := f) (q := g), eqK_iff (p := x) (q := y)]
  | .v n, .c m => by simp [eqK]
  | .v n, .a _ _ => by simp [eqK]
  | .c n, .v m => by simp [eqK]
  | .c n, .a _ _ => by simp [eqK]
  | .a _ _, .v m => by simp [eqK]
  | .a _ _, .c m => by simp [eqK]
theorem eqv_tup2 (a b : Str) (x y : PyData) : PyData.eqv (.tuple [.str a, x]) (.tuple [.str b, y]) = (a == b && PyData.eqv x y) := by
  simp only [PyData.eqv, PyData.eqvAll, Bool.and_true]
theorem eqv_tup3 (a b : Str) (x y z w : PyData) : PyData.eqv (.tuple [.str a, x, y]) (.tuple [.str b, z, w]) = (a == b && (PyData.eqv x z && PyData.eqv y w)) := by
  simp only [PyData.eqv, PyData.eqvAll, Bool.and_true]
theorem eqv_tup23 (a b : Str) (x z w : PyData) : PyData.eqv (.tuple [.str a, x]) (.tuple [.str b, z, w]) = false := by
  simp only [PyData.eqv, PyData.eqvAll, Bool.and_false]
theorem eqv_tup32 (a b : Str) (x y z : PyData) : PyData.eqv (.tuple [.str a, x, y]) (.tuple [.str b, z]) = false := by
  simp only [PyData.eqv, PyData.eqvAll, Bool.and_false]
theorem eqv_str (a b : Str) : PyData.eqv (.str a) (.str b) = (a == b) := by simp only [PyData.eqv]
theorem eqv_py (p : Kd) : ∀ q : Kd, PyData.eqv p.py q.py = eqK p q := by
  have vc : (Str.ofString "var" == Str.ofString "con") = false := by decide
  have cv : (Str.ofString "con" == Str.ofString "var") = false := by decide
  induction p with
  | v n =>
    intro q
    cases q with
    | v m => simp only [py, eqv_tup2, eqv_str, eqK, beq_self_eq_true, Bool.true_and]
    | c m => simp only [py, eqv_tup2, vc, eqK, Bool.false_and]
    | a g y => simp only [py, eqv_tup23, eqK]
  | c n =>
    intro q
    cases q with
    | v m => simp only [py, eqv_tup2, cv, eqK, Bool.false_and]
    | c m => simp only [py, eqv_tup2, eqv_str, eqK, beq_self_eq_true, Bool.true_and]
    | a g y => simp only [py, eqv_tup23, eqK]
  | a f x i1 i2 =>
    intro q
    cases q with
    | v m => simp only [py, eqv_tup32, eqK]
    | c m => simp only [py, eqv_tup32, eqK]
    | a g y => simp only [py, eqv_tup3, eqK, i1, i2, beq_self_eq_true, Bool.true_and]
theorem eq_py {neg : Bool} {p q : Kd} {S : Sto} (hp : okK p) (hq : okK q) : opEqZ neg (.p p.py) (.p q.py) S = .ok (.p (.bool (if neg then !eqK p q else eqK p q))) S := by
  have h1 := py_sh hp.1 (by have := hp.2; omega)
  have h2 := py_sh hq.1 (by have := hq.2; omega)
  have he := eqv_py p q
  obtain ⟨x, xs, e⟩ := py_tup p
  obtain ⟨y, ys, e'⟩ := py_tup q
  rw [e] at h1 he ⊢
  rw [e'] at h2 he ⊢
  rw [eqZ_t, eqX_t h1 h2]
  have he : PyData.eqvAll (x :: xs) (y :: ys) = eqK p q := by simpa [PyData.eqv] using he
  rw [he]
abbrev Cs := List (Str × Kd)
def look (l : Cs) (n : Str) : Option Kd := (l.find? fun p => decide (p.1 = n)).map (·.2)
def nd (l : Cs) : Prop := (l.map (·.1)).Nodup
theorem look_mem {l : Cs} {n : Str} {k : Kd} (h : look l n = some k) : (n, k) ∈ l := by
  unfold look at h
  rw [Option.map_eq_some_iff] at h
  obtain ⟨p, e, rfl⟩ := h
  have h1 := List.mem_of_find?_eq_some e
  have h2 := List.find?_some e
  have h3 : p.1 = n := by simpa using h2
  rw [← h3]
  exact h1
theorem look_none {l : Cs} {n : Str} (h : look l n = none) (k : Kd) : (n, k) ∉ l := fun hm => by
  unfold look at h
  rw [Option.map_eq_none_iff, List.find?_eq_none] at h
  exact h _ hm (by simp)
theorem nd_uniq {l : Cs} (h : nd l) : ∀ n k k', (n, k) ∈ l → (n, k') ∈ l → k = k' := by
  intro n k k' h1 h2
  induction l with
  | nil => cases h1
  | cons p r ih =>
    unfold nd at h
    rw [List.map_cons, List.nodup_cons] at h
    rcases List.mem_cons.mp h1 with e1 | h1
    · rcases List.mem_cons.mp h2 with e2 | h2
      · rw [← e1] at e2; cases e2; rfl
      · exact absurd (List.mem_map.mpr ⟨_, h2, rfl⟩) (by rw [← e1] at h; exact h.1)
    · rcases List.mem_cons.mp h2 with e2 | h2
      · exact absurd (List.mem_map.mpr ⟨_, h1, rfl⟩) (by rw [← e2] at h; exact h.1)
      · exact ih h.2 h1 h2
theorem nd_snoc {l : Cs} {n : Str} {k : Kd} (h : nd l) (hn : ∀ k, (n, k) ∉ l) : nd (l ++ [(n, k)]) := by
  unfold nd
  rw [List.map_append, List.nodup_append]
  refine ⟨h, by simp, fun a ha b hb => ?_⟩
  simp at hb
  subst hb
  intro e
  subst e
  obtain ⟨p, hp, e⟩ := List.mem_map.mp ha
  exact hn p.2 (by rw [← e]; exact hp)
@[simp] theorem t_ac : (Str.ofString "apply" = Str.ofString "con") = False := eq_false (by decide)
@[simp] theorem t_vc : (Str.ofString "var" = Str.ofString "con") = False := eq_false (by decide)
def dby (l : Cs) : List (Key × PyData) := l.map fun p => (.inr p.1, p.2.py)
theorem val_dby (l : Cs) (n : Str) : valD (dby l) (.inr n) = (look l n).map py := by
  unfold valD look dby
  induction l with
  | nil => rfl
  | cons p r ih =>
    rw [List.map_cons, List.find?_cons, List.find?_cons]
    by_cases h : p.1 = n
    · simp [h]
    · have h1 : ¬ ((Sum.inr p.1 : Key) = .inr n) := fun e => h (by cases e; rfl)
      simp only [h, h1, decide_false]
      exact ih
theorem put_dby {l : Cs} {n : Str} {k : Kd} (h : look l n = none) : putD (dby l) (.inr n) k.py = dby (l ++ [(n, k)]) := by
  unfold putD
  rw [if_neg]
  · simp [dby]
  · rw [List.any_eq_true]
    rintro ⟨p, hp, e⟩
    obtain ⟨q, hq, rfl⟩ := List.mem_map.mp hp
    have : q.1 = n := by simpa using e
    exact look_none h q.2 (by rw [← this]; exact hq)
theorem subs_dic {S : Sto} {j : Nat} {kvs : List (Key × PyData)} {n : Str} {d : PyData} (h : S[j]? = some (.dic kvs)) (hv : valD kvs (.inr n) = some d) : opSubs (.ob j) (.p (.str n)) S = .ok (.p d) S := by
  simp [opSubs, dicOf, seqOf, h, pyKey, hv]
theorem setd_some {S : Sto} {j : Nat} {kvs : List (Key × PyData)} {n : Str} {d x : PyData} (h : S[j]? = some (.dic kvs)) (hl : kvs.length < 1000000) (hv : valD kvs (.inr n) = some d) : setdM (.ob j) (.p (.str n)) (.p x) S = .ok (.p d) S := by
  simp [setdM, h, pyKey, LIM, hl, hv]
theorem setd_none {S : Sto} {j : Nat} {kvs : List (Key × PyData)} {n : Str} {x : PyData} (h : S[j]? = some (.dic kvs)) (hl : kvs.length < 1000000) (hv : valD kvs (.inr n) = none) : setdM (.ob j) (.p (.str n)) (.p x) S = .ok (.p x) (S.set j (.dic (putD kvs (.inr n) x))) := by
  simp [setdM, h, pyKey, LIM, hl, hv]
theorem dicOf_ob {S : Sto} {j : Nat} {kvs : List (Key × PyData)} (h : S[j]? = some (.dic kvs)) : dicOf S (.ob j) = some kvs := by simp [dicOf, h]
theorem nodup_len {α : Type} [DecidableEq α] : ∀ {l m : List α}, l.Nodup → (∀ x ∈ l, x ∈ m) → l.length ≤ m.length
  | [], m, _, _ => by simp
  | x :: l, m, h, hs => by
    obtain ⟨h1, h2⟩ := List.nodup_cons.mp h
    have hx := hs x (by simp)
    have ih := nodup_len (l := l) (m := m.erase x) h2 fun y hy => by
      have : y ≠ x := fun e => h1 (e ▸ hy)
      exact (List.mem_erase_of_ne this).mpr (hs y (by simp [hy]))
    rw [List.length_erase_of_mem hx] at ih
    have : 0 < m.length := List.length_pos_of_mem hx
    simp
    omega
end K07

namespace K07
open PySem L2 DL
open Kd

/-- kinds for all names -/
def ap (θ : Str → Kd) : Kd → Kd
  | .v n => θ n
  | .c n => .c n
  | .a f x => .a (ap θ f) (ap θ x)
def one1 (x : Str) (u : Kd) : Str → Kd := fun n => if n = x then u else .v n
def sub1 (x : Str) (u : Kd) : Kd → Kd := ap (one1 x u)
def sub : Cs → Kd → Kd
  | [], t => t
  | p :: L, t => sub1 p.1 p.2 (sub L t)
def keys (L : Cs) : List Str := L.map (·.1)
def Tri : Cs → Prop
  | [] => True
  | p :: L => p.1 ∉ keys L ∧ (∀ z ∈ p.2.vn, z ≠ p.1 ∧ z ∉ keys L) ∧ Tri L
theorem ap_ext {θ η : Str → Kd} : ∀ {k : Kd}, (∀ n ∈ k.vn, θ n = η n) → ap θ k = ap η k
  | .v n, h => h n (by simp [vn])
  | .c n, _ => rfl
  | .a f x, h => by
    simp only [ap]
    rw [ap_ext (k := f) fun n hn => h n (by simp [vn, hn]), ap_ext (k := x) fun n hn => h n (by simp [vn, hn])]
theorem ap_v : ∀ k : Kd, ap .v k = k
  | .v n => rfl
  | .c n => rfl
  | .a f x => by simp only [ap, ap_v f, ap_v x]
theorem ap_ap (θ η : Str → Kd) : ∀ k : Kd, ap θ (ap η k) = ap (fun n => ap θ (η n)) k
  | .v n => rfl
  | .c n => rfl
  | .a f x => by simp only [ap, ap_ap θ η f, ap_ap θ η x]
theorem ap_vn {θ : Str → Kd} {z : Str} : ∀ {k : Kd}, z ∈ (ap θ k).vn ↔ ∃ n ∈ k.vn, z ∈ (θ n).vn
  | .v n => by simp [ap, vn]
  | .c n => by simp [ap, vn]
  | .a f x => by
    simp only [ap, vn, List.mem_append, ap_vn (k := f), ap_vn (k := x)]
    constructor
    · rintro (⟨n, h1, h2⟩ | ⟨n, h1, h2⟩)
      · exact ⟨n, .inl h1, h2⟩
      · exact ⟨n, .inr h1, h2⟩
    · rintro ⟨n, h1 | h1, h2⟩
      · exact .inl ⟨n, h1, h2⟩
      · exact .inr ⟨n, h1, h2⟩
/-- sub as kinds for names -/
theorem sub_ap : ∀ (L : Cs) (t : Kd), sub L t = ap (fun n => sub L (.v n)) t
  | [], t => (ap_v t).symm
  | p :: L, t => by
    show ap _ (sub L t) = _
    rw [sub_ap L t, ap_ap]
    rfl
@[simp] theorem sub_c (L : Cs) (n : Str) : sub L (.c n) = .c n := by rw [sub_ap]; rfl
@[simp] theorem sub_a (L : Cs) (f x : Kd) : sub L (.a f x) = .a (sub L f) (sub L x) := by rw [sub_ap, sub_ap L f, sub_ap L x]; rfl
theorem sub_vn {L : Cs} {t : Kd} {z : Str} : z ∈ (sub L t).vn ↔ ∃ n ∈ t.vn, z ∈ (sub L (.v n)).vn := by rw [sub_ap, ap_vn]
theorem sub1_no {x : Str} {u t : Kd} (h : x ∉ t.vn) : sub1 x u t = t := by
  have : ap (one1 x u) t = ap .v t := ap_ext fun n hn => by
    unfold one1
    have : n ≠ x := fun e => h (e ▸ hn)
    rw [if_neg this]
  rw [sub1, this, ap_v]
theorem sub1_x {x : Str} {u : Kd} : sub1 x u (.v x) = u := by simp [sub1, ap, one1]
theorem sub1_ne {x n : Str} {u : Kd} (h : n ≠ x) : sub1 x u (.v n) = .v n := by simp [sub1, ap, one1, h]
theorem sub1_vn {x z : Str} {u t : Kd} (h : z ∈ (sub1 x u t).vn) : (z ∈ t.vn ∧ z ≠ x) ∨ (z ∈ u.vn ∧ x ∈ t.vn) := by
  obtain ⟨n, h1, h2⟩ := ap_vn.mp h
  unfold one1 at h2
  split at h2
  · rename_i e
    subst e
    exact .inr ⟨h2, h1⟩
  · rename_i e
    simp [vn] at h2
    subst h2
    exact .inl ⟨h1, e⟩
theorem sub_no : ∀ {L : Cs} {t : Kd}, (∀ z ∈ t.vn, z ∉ keys L) → sub L t = t
  | [], t, _ => rfl
  | p :: L, t, h => by
    show sub1 p.1 p.2 (sub L t) = t
    rw [sub_no (L := L) fun z hz hk => h z hz (by simp [keys] at hk ⊢; exact .inr hk)]
    exact sub1_no fun hx => h _ hx (by simp [keys])
theorem sub_free : ∀ {L : Cs} {t : Kd}, Tri L → ∀ z ∈ (sub L t).vn, z ∉ keys L
  | [], t, _, z, _ => by simp [keys]
  | p :: L, t, h, z, hz => by
    obtain ⟨h1, h2, h3⟩ := h
    rcases sub1_vn hz with ⟨a, b⟩ | ⟨a, b⟩
    · have := sub_free (L := L) (t := t) h3 z a
      simp only [keys, List.map_cons, List.mem_cons, not_or]
      exact ⟨b, this⟩
    · have := h2 z a
      simp only [keys, List.map_cons, List.mem_cons, not_or]
      exact this
theorem mem_keys {L : Cs} {y : Str} {u : Kd} (h : (y, u) ∈ L) : y ∈ keys L := List.mem_map.mpr ⟨_, h, rfl⟩
theorem sub_key : ∀ {L : Cs} {y : Str} {u : Kd}, Tri L → (y, u) ∈ L → sub L (.v y) = sub L u
  | [], y, u, _, h => nomatch h
  | p :: L, y, u, h, hm => by
    obtain ⟨h1, h2, h3⟩ := h
    show sub1 p.1 p.2 (sub L (.v y)) = sub1 p.1 p.2 (sub L u)
    rcases List.mem_cons.mp hm with e | hm
    · subst e
      rw [sub_no (L := L) (t := .v y) (by simp [vn]; exact h1), sub_no (L := L) (t := u) fun z hz => (h2 z hz).2, sub1_x, sub1_no fun hx => (h2 _ hx).1 rfl]
    · rw [sub_key h3 hm]
/-- θ solves the entries -/
def Sol (θ : Str → Kd) (L : Cs) : Prop := ∀ y u, (y, u) ∈ L → θ y = ap θ u
theorem sol_sub {θ : Str → Kd} : ∀ {L : Cs}, Sol θ L → ∀ t, ap θ (sub L t) = ap θ t
  | [], _, t => rfl
  | p :: L, h, t => by
    show ap θ (ap (one1 p.1 p.2) (sub L t)) = _
    rw [ap_ap, ap_ext (η := θ) (k := sub L t) fun n _ => ?_]
    · exact sol_sub (fun y u hm => h y u (by simp [hm])) t
    · unfold one1
      by_cases e : n = p.1
      · rw [if_pos e, e]
        exact (h p.1 p.2 (by simp)).symm
      · rw [if_neg e]; rfl
theorem sub_sol {L : Cs} (h : Tri L) : Sol (fun n => sub L (.v n)) L := fun y u hm => by
  rw [← sub_ap]
  exact sub_key h hm
theorem sub_sub {L : Cs} (h : Tri L) (t : Kd) : sub L (sub L t) = sub L t := sub_no (sub_free h)
/-- what is put in is known by what it solves -/
theorem sub_uniq {L : Cs} {θ : Str → Kd} (h : Tri L) (hs : Sol θ L) (hi : ∀ z, z ∉ keys L → θ z = .v z) (t : Kd) : ap θ t = sub L t := by
  rw [← sol_sub hs t, ap_ext (η := .v) fun n hn => hi n (sub_free h n hn), ap_v]
theorem tri_app : ∀ {P Q : Cs}, Tri P → Tri Q → (∀ p ∈ P, p.1 ∉ keys Q ∧ ∀ z ∈ p.2.vn, z ∉ keys Q) → Tri (P ++ Q)
  | [], Q, _, h, _ => h
  | p :: P, Q, h, hq, hc => by
    obtain ⟨h1, h2, h3⟩ := h
    have e : ∀ z, z ∈ keys (P ++ Q) ↔ z ∈ keys P ∨ z ∈ keys Q := fun z => by simp [keys]
    refine ⟨fun hk => ?_, fun z hz => ⟨(h2 z hz).1, fun hk => ?_⟩, tri_app h3 hq fun q hq' => hc q (by simp [hq'])⟩
    · rcases (e _).mp hk with hk | hk
      · exact h1 hk
      · exact (hc p (by simp)).1 hk
    · rcases (e _).mp hk with hk | hk
      · exact (h2 z hz).2 hk
      · exact (hc p (by simp)).2 z hz hk
theorem keys_filter {L : Cs} {f : Str × Kd → Bool} {z : Str} (h : z ∈ keys (L.filter f)) : z ∈ keys L := by
  obtain ⟨p, hp, rfl⟩ := List.mem_map.mp h
  exact List.mem_map.mpr ⟨p, (List.mem_filter.mp hp).1, rfl⟩
theorem tri_filter (f : Str × Kd → Bool) : ∀ {L : Cs}, Tri L → Tri (L.filter f)
  | [], _ => trivial
  | p :: L, h => by
    obtain ⟨h1, h2, h3⟩ := h
    rw [List.filter_cons]
    split
    · exact ⟨fun hk => h1 (keys_filter hk), fun z hz => ⟨(h2 z hz).1, fun hk => (h2 z hz).2 (keys_filter hk)⟩, tri_filter f h3⟩
    · exact tri_filter f h3
theorem tri_add {L : Cs} {x : Str} {t : Kd} (h : Tri L) (hx : x ∉ keys L) (ht : x ∉ (sub L t).vn) : ∃ L', Tri L' ∧ (∀ p, p ∈ L' ↔ p = (x, t) ∨ p ∈ L) ∧ L'.length = L.length + 1 := by
  have hA : ∀ p : Str × Kd, (decide (x ∈ (sub L (.v p.1)).vn)) = true ↔ x ∈ (sub L (.v p.1)).vn := fun p => by simp
  refine ⟨L.filter (fun p => !decide (x ∈ (sub L (.v p.1)).vn)) ++ (x, t) :: L.filter (fun p => decide (x ∈ (sub L (.v p.1)).vn)), ?_, fun p => ?_, ?_⟩
  · have inA : ∀ {z}, z ∈ keys (L.filter fun p => decide (x ∈ (sub L (.v p.1)).vn)) → x ∈ (sub L (.v z)).vn := fun {z} hz => by
      obtain ⟨p, hp, rfl⟩ := List.mem_map.mp hz
      simpa using (List.mem_filter.mp hp).2
    refine tri_app (tri_filter _ h) ⟨fun hk => hx (keys_filter hk), fun z hz => ⟨fun e => ?_, fun hk => ?_⟩, tri_filter _ h⟩ fun p hp => ?_
    · have e : z = x := e
      subst e
      exact ht (sub_vn.mpr ⟨z, hz, by rw [sub_no (L := L) (t := .v z) (by simp [vn]; exact hx)]; simp [vn]⟩)
    · exact ht (sub_vn.mpr ⟨z, hz, inA hk⟩)
    · obtain ⟨hm, hn⟩ := List.mem_filter.mp hp
      have hn : x ∉ (sub L (.v p.1)).vn := by simpa using hn
      have hu : x ∉ (sub L p.2).vn := by rw [← sub_key h (show (p.1, p.2) ∈ L from hm)]; exact hn
      refine ⟨fun hk => ?_, fun z hz hk => ?_⟩
      · simp only [keys, List.map_cons, List.mem_cons] at hk
        rcases hk with hk | hk
        · exact hx (hk ▸ mem_keys (show (p.1, p.2) ∈ L from hm))
        · exact hn (inA hk)
      · simp only [keys, List.map_cons, List.mem_cons] at hk
        rcases hk with hk | hk
        · subst hk
          exact hu (sub_vn.mpr ⟨z, hz, by rw [sub_no (L := L) (t := .v z) (by simp [vn]; exact hx)]; simp [vn]⟩)
        · exact hu (sub_vn.mpr ⟨z, hz, inA hk⟩)
  · simp only [List.mem_append, List.mem_cons, List.mem_filter]
    constructor
    · rintro (⟨h1, _⟩ | h1 | ⟨h1, _⟩)
      · exact .inr h1
      · exact .inl h1
      · exact .inr h1
    · rintro (h1 | h1)
      · exact .inr (.inl h1)
      · by_cases hc : x ∈ (sub L (.v p.1)).vn
        · exact .inr (.inr ⟨h1, by simpa using hc⟩)
        · exact .inl ⟨h1, by simpa using hc⟩
  · rw [List.length_append, List.length_cons]
    have : ∀ (l : Cs) (f : Str × Kd → Bool), (l.filter (fun p => !f p)).length + (l.filter f).length = l.length := by
      intro l f
      induction l with
      | nil => rfl
      | cons p r ih =>
        rw [List.filter_cons, List.filter_cons]
        cases f p <;> simp <;> omega
    have := this L fun p => decide (x ∈ (sub L (.v p.1)).vn)
    omega
/-- what the longer list puts in -/
theorem sub_add {L L' : Cs} {x : Str} {t : Kd} (h : Tri L) (hx : x ∉ keys L) (ht : x ∉ (sub L t).vn) (h' : Tri L') (hm : ∀ p, p ∈ L' ↔ p = (x, t) ∨ p ∈ L) (s : Kd) : sub L' s = sub1 x (sub L t) (sub L s) := by
  have hv : sub L (.v x) = .v x := sub_no (by simp [vn]; exact hx)
  have hk : ∀ z, z ∈ keys L' ↔ z = x ∨ z ∈ keys L := fun z => by
    constructor
    · intro hz
      obtain ⟨p, hp, rfl⟩ := List.mem_map.mp hz
      rcases (hm p).mp hp with e | e
      · rw [e]; exact .inl rfl
      · exact .inr (List.mem_map.mpr ⟨p, e, rfl⟩)
    · rintro (rfl | hz)
      · exact mem_keys ((hm (z, t)).mpr (.inl rfl))
      · obtain ⟨p, hp, rfl⟩ := List.mem_map.mp hz
        exact List.mem_map.mpr ⟨p, (hm p).mpr (.inr hp), rfl⟩
  have e : ∀ s, sub1 x (sub L t) (sub L s) = ap (fun n => sub1 x (sub L t) (sub L (.v n))) s := fun s => by
    rw [sub1, sub_ap L s, ap_ap]
  rw [e s]
  refine (sub_uniq h' (fun y u hyu => ?_) (fun z hz => ?_) s).symm
  · rw [← e u]
    show sub1 x (sub L t) (sub L (.v y)) = _
    rcases (hm _).mp hyu with q | q
    · cases q
      rw [hv, sub1_x, sub1_no ht]
    · rw [sub_key h q]
  · have hz' : z ≠ x ∧ z ∉ keys L := by
      constructor
      · exact fun q => hz ((hk z).mpr (.inl q))
      · exact fun q => hz ((hk z).mpr (.inr q))
    show sub1 x (sub L t) (sub L (.v z)) = _
    rw [sub_no (L := L) (t := .v z) (by simp [vn]; exact hz'.2), sub1_ne hz'.1]
def rk : Cs → Str → Nat
  | [], _ => 0
  | p :: L, y => if y = p.1 then 1 else if y ∈ keys L then 1 + rk L y else 0
theorem rk_pos : ∀ {L : Cs} {y : Str}, y ∈ keys L → 1 ≤ rk L y
  | [], y, h => by simp [keys] at h
  | p :: L, y, h => by
    unfold rk
    by_cases e : y = p.1
    · rw [if_pos e]; exact Nat.le_refl _
    · have : y ∈ keys L := by
        simp only [keys, List.map_cons, List.mem_cons] at h
        exact h.resolve_left e
      rw [if_neg e, if_pos this]; omega
theorem rk_le : ∀ (L : Cs) (y : Str), rk L y ≤ L.length
  | [], y => Nat.le_refl _
  | p :: L, y => by
    have := rk_le L y
    unfold rk
    rw [List.length_cons]
    split
    · omega
    · split <;> omega
theorem rk_lt : ∀ {L : Cs} {y z : Str} {u : Kd}, Tri L → (y, u) ∈ L → z ∈ u.vn → rk L z < rk L y
  | [], _, _, _, _, h, _ => nomatch h
  | p :: L, y, z, u, h, hm, hz => by
    obtain ⟨h1, h2, h3⟩ := h
    rcases List.mem_cons.mp hm with e | hm
    · subst e
      obtain ⟨a, b⟩ := h2 z hz
      unfold rk
      rw [if_neg a, if_neg b, if_pos rfl]
      omega
    · have hy := mem_keys hm
      have hne : y ≠ p.1 := fun e => h1 (e ▸ hy)
      have ih := rk_lt h3 hm hz
      have hp := rk_pos hy
      unfold rk
      rw [if_neg hne, if_pos hy]
      by_cases e : z = p.1
      · rw [if_pos e]; omega
      · rw [if_neg e]
        split <;> omega
theorem Tri.nd : ∀ {L : Cs}, Tri L → (keys L).Nodup
  | [], _ => by simp [keys]
  | p :: L, h => List.nodup_cons.mpr ⟨h.1, h.2.2.nd⟩
end K07

namespace K07
open PySem L2 DL
open Kd

def Sm (nm : List Str) (k : Kd) : Prop := k.wk ∧ k.dep ≤ 6 ∧ nds k ≤ 13 ∧ k.vn.length ≤ 4 ∧ ∀ n ∈ k.vn, n ∈ nm
theorem Sm.a {nm : List Str} {f x : Kd} (h : Sm nm (.a f x)) : Sm nm f ∧ Sm nm x := by
  obtain ⟨h1, h2, h3, h4, h5⟩ := h
  simp only [dep] at h2
  simp only [nds] at h3
  simp only [vn, List.length_append] at h4
  exact ⟨⟨h1.1, by omega, by omega, by omega, fun n hn => h5 n (by simp [vn, hn])⟩, h1.2, by omega, by omega, by omega, fun n hn => h5 n (by simp [vn, hn])⟩
theorem Sm.ok {nm : List Str} {k : Kd} (h : Sm nm k) : okK k := ⟨h.1, by have := h.2.1; omega⟩
theorem vn_sub1 {x : Str} {u : Kd} (hu : u.vn.length ≤ 4) : ∀ t : Kd, (sub1 x u t).vn.length ≤ 4 * t.vn.length
  | .v n => by
    by_cases e : n = x
    · subst e; rw [sub1_x]; simp [vn]; exact hu
    · rw [sub1_ne e]; simp [vn]
  | .c n => by simp [sub1, ap, vn]
  | .a f y => by
    have h1 := vn_sub1 (x := x) hu f
    have h2 := vn_sub1 (x := x) hu y
    simp only [sub1, ap, vn, List.length_append] at h1 h2 ⊢
    omega
theorem nds_sub1 {x : Str} {u : Kd} (hu : nds u ≤ 13) : ∀ t : Kd, nds (sub1 x u t) ≤ nds t + 12 * t.vn.length
  | .v n => by
    by_cases e : n = x
    · subst e; rw [sub1_x]; simp [vn, nds]; omega
    · rw [sub1_ne e]; simp [vn]
  | .c n => by simp [sub1, ap, vn]
  | .a f y => by
    have h1 := nds_sub1 (x := x) hu f
    have h2 := nds_sub1 (x := x) hu y
    simp only [sub1, ap, vn, nds, List.length_append] at h1 h2 ⊢
    omega
theorem dep_pos : ∀ k : Kd, 1 ≤ k.dep
  | .v _ => by simp [dep]
  | .c _ => by simp [dep]
  | .a f x => by simp [dep]
theorem dep_sub1 {x : Str} {u : Kd} (hu : u.dep ≤ 6) : ∀ t : Kd, (sub1 x u t).dep ≤ t.dep + 5
  | .v n => by
    by_cases e : n = x
    · subst e; rw [sub1_x]; simp [dep]; omega
    · rw [sub1_ne e]; simp
  | .c n => by simp [sub1, ap, dep]
  | .a f y => by
    have h1 := dep_sub1 (x := x) hu f
    have h2 := dep_sub1 (x := x) hu y
    simp only [sub1, ap, dep] at h1 h2 ⊢
    omega
theorem wk_sub1 {x : Str} {u : Kd} (hu : u.wk) : ∀ {t : Kd}, t.wk → (sub1 x u t).wk
  | .v n, h => by
    by_cases e : n = x
    · subst e; rw [sub1_x]; exact hu
    · rw [sub1_ne e]; exact h
  | .c n, h => h
  | .a f y, h => ⟨wk_sub1 hu h.1, wk_sub1 hu h.2⟩
def SmL (nm : List Str) (L : Cs) : Prop := ∀ p ∈ L, p.1 ∈ nm ∧ Sm nm p.2
theorem sub_size {nm : List Str} : ∀ {L : Cs} {t : Kd}, SmL nm L → (sub L t).vn.length ≤ 4 ^ L.length * t.vn.length ∧ nds (sub L t) ≤ nds t + 12 * (4 ^ L.length * t.vn.length) ∧ (sub L t).dep ≤ t.dep + 5 * L.length ∧ (t.wk → (sub L t).wk)
  | [], t, _ => by simp [sub]
  | p :: L, t, h => by
    obtain ⟨a1, a2, a3, a4⟩ := sub_size (L := L) (t := t) fun q hq => h q (by simp [hq])
    obtain ⟨_, b1, b2, b3, b4, _⟩ := h p (by simp)
    have c1 := vn_sub1 (x := p.1) b4 (sub L t)
    have c2 := nds_sub1 (x := p.1) b3 (sub L t)
    have c3 := dep_sub1 (x := p.1) b2 (sub L t)
    refine ⟨?_, ?_, ?_, fun hw => wk_sub1 b1 (a4 hw)⟩
    · show (sub1 p.1 p.2 (sub L t)).vn.length ≤ _
      rw [List.length_cons, Nat.pow_succ, Nat.mul_right_comm]
      omega
    · show nds (sub1 p.1 p.2 (sub L t)) ≤ _
      rw [List.length_cons, Nat.pow_succ, Nat.mul_right_comm]
      omega
    · show (sub1 p.1 p.2 (sub L t)).dep ≤ _
      rw [List.length_cons]
      omega
theorem len4 {nm : List Str} {L : Cs} (hn : nm.length = 4) (h : Tri L) (hs : SmL nm L) : L.length ≤ 4 := by
  have := nodup_len h.nd fun y hy => by
    obtain ⟨p, hp, rfl⟩ := List.mem_map.mp hy
    exact (hs p hp).1
  simp [keys] at this
  omega
theorem sub_small {nm : List Str} {L : Cs} {t : Kd} (hn : nm.length = 4) (h : Tri L) (hs : SmL nm L) (ht : Sm nm t) : okK (sub L t) ∧ nds (sub L t) ≤ 13000 ∧ (sub L t).dep ≤ 26 := by
  have hl := len4 hn h hs
  obtain ⟨a1, a2, a3, a4⟩ := sub_size (t := t) hs
  obtain ⟨t1, t2, t3, t4, _⟩ := ht
  have hp : 4 ^ L.length ≤ 4 ^ 4 := Nat.pow_le_pow_right (by decide) hl
  have hq : 4 ^ L.length * t.vn.length ≤ 256 * 4 := Nat.mul_le_mul hp t4
  exact ⟨⟨a4 t1, by omega⟩, by omega, by omega⟩
theorem sub_nm {nm : List Str} {L : Cs} {t : Kd} (hs : SmL nm L) (ht : ∀ n ∈ t.vn, n ∈ nm) : ∀ n ∈ (sub L t).vn, n ∈ nm := by
  induction L with
  | nil => exact ht
  | cons p L ih =>
    intro n hn
    rcases sub1_vn hn with ⟨a, _⟩ | ⟨a, _⟩
    · exact ih (fun q hq => hs q (by simp [hq])) n a
    · exact (hs p (by simp)).2.2.2.2.2 n a
def U (θ : Str → Kd) (w : List (Kd × Kd)) : Prop := ∀ p ∈ w, ap θ p.1 = ap θ p.2
theorem occ_le {θ : Str → Kd} {x : Str} : ∀ {s : Kd}, x ∈ s.vn → nds (θ x) ≤ nds (ap θ s)
  | .v n, h => by simp [vn] at h; subst h; exact Nat.le_refl _
  | .c n, h => by simp [vn] at h
  | .a f y, h => by
    simp only [vn, List.mem_append] at h
    simp only [ap, nds]
    rcases h with h | h
    · have := occ_le (θ := θ) h; omega
    · have := occ_le (θ := θ) h; omega
theorem occ {θ : Str → Kd} {x : Str} {s : Kd} (h : x ∈ s.vn) (hs : s ≠ .v x) : θ x ≠ ap θ s := fun e => by
  cases s with
  | v n => simp [vn] at h; exact hs (by rw [h])
  | c n => simp [vn] at h
  | a f y =>
    have e := congrArg nds e
    simp only [vn, List.mem_append] at h
    simp only [ap, nds] at e
    rcases h with h | h
    · have := occ_le (θ := θ) h; omega
    · have := occ_le (θ := θ) h; omega
/-- what the dict l holds are the entries of L -/
def Is (l L : Cs) : Prop := ∀ y u, look l y = some u ↔ (y, u) ∈ L
theorem Is.key {l L : Cs} (h : Is l L) (y : Str) : (look l y).isSome = true ↔ y ∈ keys L := by
  constructor
  · intro e
    obtain ⟨u, e⟩ := Option.isSome_iff_exists.mp e
    exact mem_keys ((h y u).mp e)
  · intro hy
    obtain ⟨p, hp, rfl⟩ := List.mem_map.mp hy
    rw [(h p.1 p.2).mpr hp]; rfl
theorem in_dic {S : Sto} {j : Nat} {l : Cs} {y : Str} (h : S[j]? = some (.dic (dby l))) : opInX false (.p (.str y)) (.ob j) S = .ok (.p (.bool (look l y).isSome)) S := by
  have e : opIn false (.p (.str y)) (.ob j) S = .ok (.p (.bool (look l y).isSome)) S := by
    simp [opIn, seqOf, dicOf, h, pyKey, val_dby]
  simp [opInX, e]
def isV : Kd → Bool
  | .v _ => true
  | _ => false
def rkK (L : Cs) : Kd → Nat
  | .v y => rk L y
  | _ => 0
theorem F_fa (k : Nat) : F (k + 1) .f_found_at = runF 2 (b_f_found_at (F k)) := rfl
def Found (nm : List Str) (L : Cs) (kd f : Kd) : Prop := Sm nm f ∧ sub L f = sub L kd ∧ (∀ θ, Sol θ L → ap θ f = ap θ kd) ∧ ∀ y, f = .v y → y ∉ keys L
set_option maxHeartbeats 1000000 in
theorem fa_wp {nm : List Str} {L l : Cs} {k j : Nat} {kd : Kd} {S : Sto} (hk : 1 ≤ k) (ht : Tri L) (hs : SmL nm L) (hi : Is l L) (hj : S[j]? = some (.dic (dby l))) (hkd : Sm nm kd) (hl : L.length ≤ 4) :
    wp (F k .f_found_at [.p kd.py, .ob j] S) (fun d s => ∃ f, d = .p f.py ∧ s = S ∧ Found nm L kd f) noX := by
  obtain ⟨k, rfl⟩ : ∃ i, k = i + 1 := ⟨k - 1, by omega⟩
  rw [F_fa, wp_run]
  show wpS (b_f_found_at (F k) [some (.p kd.py), some (.ob j)] S) _
  unfold b_f_found_at f_found_at_2
  simp
  have hr : rkK L kd < 100000000 := by
    cases kd with
    | v y => have := rk_le L y; simp [rkK]; omega
    | c n => simp [rkK]
    | a f x => simp [rkK]
  refine whileD_wp (fun m ρ S' => ∃ f, ρ = [some (.p f.py), some (.ob j)] ∧ S' = S ∧ Sm nm f ∧ sub L f = sub L kd ∧ (∀ θ, Sol θ L → ap θ f = ap θ kd) ∧ rkK L f ≤ m) ?_ (m := rkK L kd) hr ⟨kd, rfl, rfl, hkd, rfl, fun _ _ => rfl, Nat.le_refl _⟩
  rintro m ρ S' ⟨f, rfl, rfl, hf, e1, e2, hm0⟩
  cases f with
  | c n =>
    simp [py]
    exact ⟨.c n, rfl, hf, e1, e2, fun y e => by cases e⟩
  | a f x =>
    simp [py]
    exact ⟨.a f x, rfl, hf, e1, e2, fun y e => by cases e⟩
  | v y =>
    simp [py, in_dic hj]
    cases el : look l y with
    | none =>
      simp
      refine ⟨.v y, rfl, hf, e1, e2, fun y' e hy' => ?_⟩
      cases e
      have := (hi.key y).mpr hy'
      rw [el] at this
      cases this
    | some u =>
      have hm := (hi y u).mp el
      have hu := (hs _ hm).2
      have hv : valD (dby l) (.inr y) = some u.py := by rw [val_dby, el]; rfl
      simp
      have hpos := rk_pos (mem_keys hm)
      have hm0 : rk L y ≤ m := hm0
      refine ⟨m - 1, by omega, ?_⟩
      unfold f_found_at_1
      simp [subs_dic hj hv]
      refine ⟨u, rfl, hu, by rw [← sub_key ht hm]; exact e1, fun θ hθ => ?_, ?_⟩
      · rw [← hθ y u hm]; exact e2 θ hθ
      · cases u with
        | v z => have := rk_lt ht hm (z := z) (by simp [vn]); simp [rkK]; omega
        | c n => simp [rkK]
        | a f x => simp [rkK]
theorem fa_ok {nm : List Str} {L l : Cs} {k j : Nat} {kd : Kd} {S : Sto} (hk : 1 ≤ k) (ht : Tri L) (hs : SmL nm L) (hi : Is l L) (hj : S[j]? = some (.dic (dby l))) (hkd : Sm nm kd) (hl : L.length ≤ 4) : ∃ f, F k .f_found_at [.p kd.py, .ob j] S = .ok (.p f.py) S ∧ Found nm L kd f := by
  obtain ⟨d, s, e, f, rfl, rfl, h⟩ := wp_ex (fa_wp hk ht hs hi hj hkd hl)
  exact ⟨f, e, h⟩
theorem F_if (k : Nat) : F (k + 1) .f_is_free = runF 2 (b_f_is_free (F k)) := rfl
theorem if_ok {k : Nat} {kd : Kd} {S : Sto} (hk : 1 ≤ k) : F k .f_is_free [.p kd.py, .p (.tuple [])] S = .ok (.p (.bool (isV kd))) S := by
  obtain ⟨k, rfl⟩ : ∃ i, k = i + 1 := ⟨k - 1, by omega⟩
  rw [F_if]
  refine run_ret ?_
  unfold b_f_is_free
  have e : ∀ y : Str, opInX true (.p (.str y)) (.p (.tuple [])) S = .ok (.p (.bool true)) S := fun y => rfl
  cases kd <;> simp [py, isV, e]
def SmK (nm : List Str) (ks : List Kd) : Prop := ∀ k ∈ ks, Sm nm k
def szL (L : Cs) : List Kd → Nat
  | [] => 0
  | k :: r => nds (sub L k) + szL L r
theorem szL_len (L : Cs) : ∀ ks : List Kd, ks.length ≤ szL L ks
  | [] => Nat.le_refl _
  | k :: r => by have := nds_pos (sub L k); have := szL_len L r; simp [szL]; omega
theorem kds_sh {nm : List Str} {ks : List Kd} (h : SmK nm ks) : SeqAt.shaped (.list ((ks.map py).reverse)) = true := shL fun d hd => by
  simp at hd
  obtain ⟨k, hk, rfl⟩ := hd
  exact okK_d (h k hk).ok
def SiInv (nm : List Str) (L : Cs) (x : Str) (kd : Kd) (j : Nat) (S0 : Sto) (m : Nat) (ρ : Ev) (S : Sto) : Prop :=
  ∃ (w : List Kd) (x4 : Option D), ρ = [some (.p (.str x)), some (.p kd.py), some (.ob j), some (.ob S0.length), x4] ∧ S = S0 ++ [.lst ((w.map py).reverse)] ∧ SmK nm w ∧ szL L w ≤ m ∧ m ≤ 900000 ∧ (x ∈ (sub L kd).vn ↔ ∃ k ∈ w, x ∈ (sub L k).vn)
theorem F_si (k : Nat) : F (k + 1) .f_stands_in = runF 5 (b_f_stands_in (F k)) := rfl
set_option maxHeartbeats 2000000 in
theorem si_wp {nm : List Str} {L l : Cs} {k j : Nat} {kd : Kd} {x : Str} {S : Sto} (hk : 2 ≤ k) (hn : nm.length = 4) (ht : Tri L) (hs : SmL nm L) (hi : Is l L) (hj : S[j]? = some (.dic (dby l))) (hkd : Sm nm kd) (hx : x ∉ keys L) (hxo : nOk x) :
    wp (F k .f_stands_in [.p (.str x), .p kd.py, .ob j] S) (fun d s => d = .p (.bool (decide (x ∈ (sub L kd).vn))) ∧ s.take S.length = S) noX := by
  obtain ⟨k, rfl⟩ : ∃ i, k = i + 1 := ⟨k - 1, by omega⟩
  have hl := len4 hn ht hs
  have hsm := sub_small hn ht hs hkd
  rw [F_si, wp_run]
  show wpS (b_f_stands_in (F k) [some (.p (.str x)), some (.p kd.py), some (.ob j), none, none] S) _
  unfold b_f_stands_in f_stands_in_3
  have hjl : j < S.length := (List.getElem?_eq_some_iff.mp hj).1
  simp [mkLstM, LIM]
  refine whileD_wp (SiInv nm L x kd j S) ?_ (m := nds (sub L kd)) (by omega) ⟨[kd], none, rfl, by simp, by simpa [SmK] using hkd, by simp [szL], by omega, by simp⟩
  rintro m ρ S' ⟨w, x4, rfl, rfl, hw, hm, hm2, hiff⟩
  have hget : (S ++ [MO.lst ((w.map py).reverse)])[S.length]? = some (.lst ((w.map py).reverse)) := by simp
  simp [ne_nil hget (kds_sh hw)]
  cases w with
  | nil =>
    simp
    simpa using hiff
  | cons t r =>
    simp
    have hp := nds_pos (sub L t)
    have hsz : szL L (t :: r) = nds (sub L t) + szL L r := rfl
    refine ⟨m - 1, by omega, ?_⟩
    unfold f_stands_in_2
    have e1 : (S ++ [MO.lst (((t :: r).map py).reverse)])[S.length]? = some (.lst ((r.map py).reverse ++ [t.py])) := by simp
    have ht' := hw t (by simp)
    have hr : SmK nm r := fun q hq => hw q (by simp [hq])
    have hj2 : (S ++ [MO.lst ((r.map py).reverse)])[j]? = some (.dic (dby l)) := by rw [List.getElem?_append_left hjl]; exact hj
    obtain ⟨f, ef, hf, hf1, _, hf3⟩ := fa_ok (k := k) (S := S ++ [MO.lst ((r.map py).reverse)]) (by omega) ht hs hi hj2 ht' hl
    have hset : (S ++ [MO.lst (((t :: r).map py).reverse)]).set S.length (.lst ((r.map py).reverse)) = S ++ [.lst ((r.map py).reverse)] := by simp
    have hpop := pop_ok e1
    rw [hset] at hpop
    have hrl := rlOf_ob e1
    simp only [List.map_cons, List.reverse_cons] at hpop hrl
    have heq := eq_py (neg := false) (p := f) (q := .v x) (S := S ++ [MO.lst ((r.map py).reverse)]) hf.ok ⟨hxo, by simp [dep]⟩
    have hg2 : (S ++ [MO.lst ((r.map py).reverse)])[S.length]? = some (.lst ((r.map py).reverse)) := by simp
    have htk : (S ++ [MO.lst ((r.map py).reverse)]).take S.length = S := by simp
    have hst : ∀ o, (S ++ [MO.lst ((r.map py).reverse)]).set S.length o = S ++ [o] := fun o => by simp
    generalize hS2 : S ++ [MO.lst ((r.map py).reverse)] = S2 at hpop ef heq hg2 htk hst
    simp [hrl, hpop, ef]
    simp [py] at heq
    have hex : (∃ q ∈ t :: r, x ∈ (sub L q).vn) ↔ x ∈ (sub L f).vn ∨ ∃ q ∈ r, x ∈ (sub L q).vn := by
      rw [hf1]; simp
    rw [hex] at hiff
    cases f with
    | c n =>
      have hz : eqK (.c n) (.v x) = false := rfl
      simp [py, hz] at heq
      simp [py, heq]
      unfold f_stands_in_1
      simp
      refine ⟨r, _, rfl, hS2.symm, hr, by omega, by omega, ?_⟩
      rw [hiff]; simp [vn]
    | v y =>
      by_cases e : y = x
      · subst e
        have hz : eqK (.v y) (.v y) = true := by simp [eqK]
        simp [py, hz] at heq
        simp [py, heq, htk]
        rw [hiff]
        left
        rw [sub_no (L := L) (t := .v y) (by simp [vn]; exact hx)]
        simp [vn]
      · have hz : eqK (.v y) (.v x) = false := by simp [eqK, e]
        simp [py, hz] at heq
        simp [py, heq]
        unfold f_stands_in_1
        simp
        refine ⟨r, _, rfl, hS2.symm, hr, by omega, by omega, ?_⟩
        rw [hiff, sub_no (L := L) (t := .v y) (by simp [vn]; exact hf3 y rfl)]
        simp [vn, Ne.symm e]
    | a g z =>
      have hz : eqK (.a g z) (.v x) = false := rfl
      simp [py, hz] at heq
      simp [py, heq]
      unfold f_stands_in_1
      have hrlen := szL_len L r
      simp [rlOf_ob hg2, extend_ok hg2 (ys := [g.py, z.py]) (by simp; omega)]
      obtain ⟨s1, s2⟩ := hf.a
      have hnd : nds (sub L t) = 1 + nds (sub L g) + nds (sub L z) := by rw [← hf1, sub_a]; rfl
      refine ⟨z :: g :: r, _, rfl, by simp [hst], ?_, by simp only [szL]; omega, by omega, ?_⟩
      · intro q hq
        simp at hq
        rcases hq with rfl | rfl | hq
        · exact s2
        · exact s1
        · exact hr q hq
      · rw [hiff]
        simp only [sub_a, vn, List.mem_append, List.mem_cons, exists_eq_or_imp]
        constructor
        · rintro ((h | h) | h)
          · exact .inr (.inl h)
          · exact .inl h
          · exact .inr (.inr h)
        · rintro (h | h | h)
          · exact .inl (.inr h)
          · exact .inl (.inl h)
          · exact .inr h
theorem si_ok {nm : List Str} {L l : Cs} {k j : Nat} {kd : Kd} {x : Str} {S : Sto} (hk : 2 ≤ k) (hn : nm.length = 4) (ht : Tri L) (hs : SmL nm L) (hi : Is l L) (hj : S[j]? = some (.dic (dby l))) (hkd : Sm nm kd) (hx : x ∉ keys L) (hxo : nOk x) :
    cutX S.length (F k .f_stands_in [.p (.str x), .p kd.py, .ob j] S) = .ok (.p (.bool (decide (x ∈ (sub L kd).vn)))) S := cut_of (si_wp hk hn ht hs hi hj hkd hx hxo)
end K07

namespace K07
open PySem L2 DL
open Kd

def pr (p : Kd × Kd) : PyData := .tuple [p.1.py, p.2.py]
def Smw (nm : List Str) (w : List (Kd × Kd)) : Prop := ∀ p ∈ w, Sm nm p.1 ∧ Sm nm p.2
def szw (θ : Str → Kd) : List (Kd × Kd) → Nat
  | [] => 0
  | p :: r => nds (ap θ p.1) + nds (ap θ p.2) + szw θ r
theorem szw_len (θ : Str → Kd) : ∀ w : List (Kd × Kd), w.length ≤ szw θ w
  | [] => Nat.le_refl _
  | p :: r => by have := nds_pos (ap θ p.1); have := szw_len θ r; simp [szw]; omega
theorem szw_app (θ : Str → Kd) : ∀ a b : List (Kd × Kd), szw θ (a ++ b) = szw θ a + szw θ b
  | [], b => by simp [szw]
  | p :: r, b => by simp [szw, szw_app θ r b]; omega
abbrev sg (L : Cs) : Str → Kd := fun n => sub L (.v n)
theorem szw_small {nm : List Str} {L : Cs} (hn : nm.length = 4) (ht : Tri L) (hs : SmL nm L) : ∀ {w : List (Kd × Kd)}, Smw nm w → szw (sg L) w ≤ 26000 * w.length
  | [], _ => Nat.le_refl _
  | p :: r, h => by
    have h1 := (sub_small hn ht hs (h p (by simp)).1).2.1
    have h3 := (sub_small hn ht hs (h p (by simp)).2).2.1
    have h2 := szw_small hn ht hs (w := r) fun q hq => h q (by simp [hq])
    rw [sub_ap] at h1 h3
    simp only [szw, List.length_cons]
    have : nds (ap (sg L) p.1) ≤ 13000 := h1
    have : nds (ap (sg L) p.2) ≤ 13000 := h3
    omega
theorem prs_sh {nm : List Str} {w : List (Kd × Kd)} (h : Smw nm w) : SeqAt.shaped (.list ((w.map pr).reverse)) = true := shL fun d hd => by
  simp at hd
  obtain ⟨a, b, hp, rfl⟩ := hd
  obtain ⟨h1, h2⟩ := h _ hp
  have c1 := okK_d h1.ok
  have c2 := okK_d h2.ok
  have d1 := py_dep a
  have d2 := py_dep b
  have e1 : a.dep ≤ 6 := h1.2.1
  have e2 : b.dep ≤ 6 := h2.2.1
  refine ⟨by simp [pr, PyData.canLay0, PyData.canLayAll0, c1.1, c2.1], ?_⟩
  simp only [pr, PyData.depth, PyData.depthAll]
  omega
theorem lc_two {g : FG} {e : FE} {ρ ρ1 ρ2 : Ev} {S : Sto} {a b a' b' : PyData} (h1 : g (.p a) ρ S = some (ρ1, S)) (h2 : e ρ1 S = .ok (.p a') S) (h3 : g (.p b) ρ S = some (ρ2, S)) (h4 : e ρ2 S = .ok (.p b') S) : lcD g tYesD e ρ [.p a, .p b] S = .ok [a', b'] S := by
  have e0 : lcD g tYesD e ρ [] S = .ok [] S := rfl
  have e1 : lcD g tYesD e ρ [.p b] S = .ok [b'] S := by
    unfold lcD
    simp [h3, h4, e0]
  unfold lcD
  simp [h1, h2, e1]
/-- what holds between two turns -/
structure Kp (nm : List Str) (W : List (Kd × Kd)) (L l : Cs) (w : List (Kd × Kd)) (m : Nat) : Prop where
  tri : Tri L
  sm : SmL nm L
  is : Is l L
  nd : nd l
  smw : Smw nm w
  uni : ∀ θ, U θ W ↔ Sol θ L ∧ U θ w
  sz : ∀ θ, Sol θ L → szw θ w ≤ szw θ W
  ms : (4 - L.length) * 80000 + szw (sg L) w ≤ m
theorem U_cons {θ : Str → Kd} {p : Kd × Kd} {w : List (Kd × Kd)} : U θ (p :: w) ↔ ap θ p.1 = ap θ p.2 ∧ U θ w := by simp [U]
/-- the pair is of one kind -/
theorem Kp.drop {nm : List Str} {W : List (Kd × Kd)} {L l : Cs} {p : Kd × Kd} {w : List (Kd × Kd)} {m : Nat} (h : Kp nm W L l (p :: w) m) (e : ∀ θ, Sol θ L → ap θ p.1 = ap θ p.2) : Kp nm W L l w (m - 1) := by
  refine ⟨h.tri, h.sm, h.is, h.nd, fun q hq => h.smw q (by simp [hq]), fun θ => ?_, fun θ hθ => ?_, ?_⟩
  · rw [h.uni θ, U_cons]
    exact ⟨fun ⟨q1, _, q2⟩ => ⟨q1, q2⟩, fun ⟨q1, q2⟩ => ⟨q1, e θ q1, q2⟩⟩
  · have := h.sz θ hθ
    simp only [szw] at this
    omega
  · have := h.ms
    have hp := nds_pos (ap (sg L) p.1)
    simp only [szw] at this
    omega
/-- the pair falls into two -/
theorem Kp.split {nm : List Str} {W : List (Kd × Kd)} {L l : Cs} {p : Kd × Kd} {w : List (Kd × Kd)} {m : Nat} {f x g y : Kd} (h : Kp nm W L l (p :: w) m) (e1 : ∀ θ, Sol θ L → ap θ p.1 = ap θ (.a f x)) (e2 : ∀ θ, Sol θ L → ap θ p.2 = ap θ (.a g y)) (s1 : Sm nm (.a f x)) (s2 : Sm nm (.a g y)) : Kp nm W L l ((f, g) :: (x, y) :: w) (m - 1) := by
  refine ⟨h.tri, h.sm, h.is, h.nd, fun q hq => ?_, fun θ => ?_, fun θ hθ => ?_, ?_⟩
  · simp at hq
    rcases hq with rfl | rfl | hq
    · exact ⟨s1.a.1, s2.a.1⟩
    · exact ⟨s1.a.2, s2.a.2⟩
    · exact h.smw q (by simp [hq])
  · rw [h.uni θ, U_cons, U_cons, U_cons]
    constructor
    · rintro ⟨a, b, c⟩
      rw [e1 θ a, e2 θ a] at b
      simp only [ap, Kd.a.injEq] at b
      exact ⟨a, b.1, b.2, c⟩
    · rintro ⟨a, b1, b2, c⟩
      refine ⟨a, ?_, c⟩
      rw [e1 θ a, e2 θ a]
      simp only [ap, Kd.a.injEq]
      exact ⟨b1, b2⟩
  · have := h.sz θ hθ
    have e := e1 θ hθ
    have e' := e2 θ hθ
    simp only [szw, e, e', ap, nds] at this ⊢
    omega
  · have := h.ms
    have e := e1 (sg L) (sub_sol h.tri)
    have e' := e2 (sg L) (sub_sol h.tri)
    simp only [szw, e, e', ap, nds] at this ⊢
    omega
/-- a name is bound -/
theorem Kp.bind {nm : List Str} {W : List (Kd × Kd)} {L l : Cs} {p : Kd × Kd} {w : List (Kd × Kd)} {m : Nat} {x : Str} {t : Kd} (hn : nm.length = 4) (hW : szw (sg L) W ≤ 78000) (hWall : ∀ L', Tri L' → SmL nm L' → szw (sg L') W ≤ 78000) (h : Kp nm W L l (p :: w) m) (hx : x ∉ keys L) (hxn : x ∈ nm) (hnd : look l x = none) (ht : Sm nm t) (hno : x ∉ (sub L t).vn)
    (e : ∀ θ, Sol θ L → (ap θ p.1 = ap θ p.2 ↔ θ x = ap θ t)) : ∃ L', Kp nm W L' (l ++ [(x, t)]) w (m - 1) ∧ (∀ s, sub L' s = sub1 x (sub L t) (sub L s)) ∧ ∀ q, q ∈ L' ↔ q = (x, t) ∨ q ∈ L := by
  obtain ⟨L', t', hm, hl⟩ := tri_add h.tri hx hno
  have hs' : SmL nm L' := fun q hq => by
    rcases (hm q).mp hq with rfl | hq
    · exact ⟨hxn, ht⟩
    · exact h.sm q hq
  have sol' : ∀ θ, Sol θ L' ↔ Sol θ L ∧ θ x = ap θ t := fun θ => by
    constructor
    · exact fun hs => ⟨fun y u hyu => hs y u ((hm _).mpr (.inr hyu)), hs x t ((hm _).mpr (.inl rfl))⟩
    · rintro ⟨a, b⟩ y u hyu
      rcases (hm _).mp hyu with q | q
      · cases q; exact b
      · exact a y u q
  refine ⟨L', ⟨t', hs', fun y u => ?_, nd_snoc h.nd fun k => look_none hnd k, fun q hq => h.smw q (by simp [hq]), fun θ => ?_, fun θ hθ => ?_, ?_⟩, sub_add h.tri hx hno t' hm, hm⟩
  · rw [hm]
    by_cases hy : y = x
    · subst hy
      have : look (l ++ [(y, t)]) y = some t := by
        unfold look at hnd ⊢
        rw [Option.map_eq_none_iff] at hnd
        rw [List.find?_append, hnd]
        simp
      rw [this]
      constructor
      · intro q; cases q; exact .inl rfl
      · rintro (q | q)
        · cases q; rfl
        · exact absurd (mem_keys q) hx
    · have : look (l ++ [(x, t)]) y = look l y := by
        unfold look
        rw [List.find?_append]
        have : (List.find? (fun p => decide (p.1 = y)) [(x, t)]) = none := by simp [Ne.symm hy]
        rw [this, Option.or_none]
      rw [this, h.is y u]
      constructor
      · exact .inr
      · rintro (q | q)
        · cases q; exact absurd rfl hy
        · exact q
  · rw [h.uni θ, U_cons, sol' θ]
    constructor
    · exact fun ⟨q1, q2, q3⟩ => ⟨⟨q1, (e θ q1).mp q2⟩, q3⟩
    · exact fun ⟨⟨q1, q2⟩, q3⟩ => ⟨q1, (e θ q1).mpr q2, q3⟩
  · have := h.sz θ ((sol' θ).mp hθ).1
    simp only [szw] at this
    omega
  · have h1 := len4 hn t' hs'
    have h2 := h.sz (sg L') ((sol' _).mp (sub_sol t')).1
    have h3 := hWall L' t' hs'
    have h4 := h.ms
    have h5 := nds_pos (ap (sg L) p.1)
    simp only [szw] at h2 h4
    rw [hl] at h1 ⊢
    have h6 : 4 - L.length = (4 - (L.length + 1)) + 1 := by omega
    rw [h6, Nat.add_mul, Nat.one_mul] at h4
    clear h6 sol' hm e hWall
    generalize (4 - (L.length + 1)) * 80000 = B at h4 ⊢
    generalize szw (sg L') W = C at h2 h3
    generalize szw (sg L) w = E at h4
    omega
/-- no kinds unite the pair -/
theorem Kp.noU {nm : List Str} {W : List (Kd × Kd)} {L l : Cs} {p : Kd × Kd} {w : List (Kd × Kd)} {m : Nat} (h : Kp nm W L l (p :: w) m) (e : ∀ θ, Sol θ L → ap θ p.1 ≠ ap θ p.2) : ∀ θ, ¬ U θ W := fun θ hU => by
  obtain ⟨a, b⟩ := (h.uni θ).mp hU
  exact e θ a (U_cons.mp b).1
theorem Kp.swap {nm : List Str} {W : List (Kd × Kd)} {L l : Cs} {p : Kd × Kd} {w : List (Kd × Kd)} {m : Nat} (h : Kp nm W L l (p :: w) m) : Kp nm W L l ((p.2, p.1) :: w) m := by
  refine ⟨h.tri, h.sm, h.is, h.nd, fun q hq => ?_, fun θ => ?_, fun θ hθ => ?_, ?_⟩
  · rcases List.mem_cons.mp hq with rfl | hq
    · exact ⟨(h.smw p (by simp)).2, (h.smw p (by simp)).1⟩
    · exact h.smw q (by simp [hq])
  · rw [h.uni θ, U_cons, U_cons, eq_comm]
  · have := h.sz θ hθ
    simp only [szw] at this ⊢
    omega
  · have := h.ms
    simp only [szw] at this ⊢
    omega
theorem is_self {L : Cs} (h : Tri L) : Is L L := fun y u => by
  have hnd : nd L := h.nd
  constructor
  · exact look_mem
  · intro hm
    cases e : look L y with
    | none => exact absurd hm (look_none e u)
    | some k' => rw [nd_uniq hnd y k' u (look_mem e) hm]
theorem Kp.self {nm : List Str} {W : List (Kd × Kd)} {L l : Cs} {w : List (Kd × Kd)} {m : Nat} (h : Kp nm W L l w m) : Kp nm W L L w m := ⟨h.tri, h.sm, is_self h.tri, h.tri.nd, h.smw, h.uni, h.sz, h.ms⟩
end K07

namespace K07
open PySem L2 DL
open Kd

def st (S0 : Sto) (j : Nat) (l : Cs) (w : List (Kd × Kd)) : Sto := S0.set j (.dic (dby l)) ++ [.lst ((w.map pr).reverse)]
theorem set_id' {S : Sto} {j : Nat} {a : MO} (h : S[j]? = some a) : S.set j a = S := by
  apply List.ext_getElem?
  intro i
  by_cases e : j = i
  · subst e
    rw [List.getElem?_set_self (List.getElem?_eq_some_iff.mp h).1, h]
  · rw [List.getElem?_set_ne e]
section
variable {S0 : Sto} {j : Nat} {l l' : Cs} {w w' : List (Kd × Kd)}
theorem st_len : (st S0 j l w).length = S0.length + 1 := by simp [st]
theorem st_j (h : j < S0.length) : (st S0 j l w)[j]? = some (.dic (dby l)) := by
  unfold st
  rw [List.getElem?_append_left (by simpa using h)]
  exact List.getElem?_set_self h
theorem st_w : (st S0 j l w)[S0.length]? = some (.lst ((w.map pr).reverse)) := by simp [st]
theorem st_setw {o : MO} : (st S0 j l w).set S0.length o = S0.set j (.dic (dby l)) ++ [o] := by
  unfold st
  rw [List.set_append_right _ _ (by simp)]
  simp
theorem st_setj (h : j < S0.length) : (st S0 j l w).set j (.dic (dby l')) = st S0 j l' w := by
  unfold st
  rw [List.set_append_left _ _ (by simpa using h)]
  simp
theorem st_take : (st S0 j l w).take S0.length = S0.set j (.dic (dby l)) := by simp [st]
end
def UnInv (nm : List Str) (W : List (Kd × Kd)) (A : Option D) (S0 : Sto) (j : Nat) (m : Nat) (ρ : Ev) (S : Sto) : Prop :=
  ∃ (L l : Cs) (w : List (Kd × Kd)) (x4 x5 x6 : Option D), ρ = [some (.ob j), A, some (.p (.tuple [])), some (.ob S0.length), x4, x5, x6] ∧ S = st S0 j l w ∧ Kp nm W L l w m ∧ m ≤ 500000
theorem Kp.llen {nm : List Str} {W : List (Kd × Kd)} {L l : Cs} {w : List (Kd × Kd)} {m : Nat} (hn : nm.length = 4) (h : Kp nm W L l w m) : l.length ≤ 4 := by
  have h' : (l.map fun p => p.1).Nodup := h.nd
  have := nodup_len (m := nm) h' fun y hy => by
    obtain ⟨p, hp, rfl⟩ := List.mem_map.mp hy
    have : look l p.1 ≠ none := fun e => look_none e p.2 hp
    obtain ⟨u, e⟩ := Option.ne_none_iff_exists'.mp this
    exact (h.sm _ ((h.is p.1 u).mp e)).1
  simp at this
  omega
theorem sub_ne_v {L : Cs} {x : Str} {g : Kd} (hg : ∀ y, g = .v y → y ∉ keys L) (hne : g ≠ .v x) : sub L g ≠ .v x := by
  cases g with
  | v y => rw [sub_no (by simp [vn]; exact hg y rfl)]; exact hne
  | c n => rw [sub_c]; exact hne
  | a f y => rw [sub_a]; exact fun z => nomatch z
section
variable {nm : List Str} {W : List (Kd × Kd)} {A : Option D} {S0 : Sto} {j k m : Nat} {L l : Cs} {p : Kd × Kd} {r : List (Kd × Kd)} {x6 : Option D} {R : Fl → Sto → Prop}
theorem un2_wp {x : Str} {g : Kd} (hk : 3 ≤ k) (hn : nm.length = 4) (hj : j < S0.length) (hW : ∀ L', Tri L' → SmL nm L' → szw (sg L') W ≤ 78000) (h : Kp nm W L l (p :: r) m) (hm : m ≤ 500000) (hx : x ∉ keys L) (hxn : x ∈ nm) (hxo : nOk x) (hg : Sm nm g) (hgr : ∀ y, g = .v y → y ∉ keys L) (hne : g ≠ .v x)
    (e : ∀ θ, Sol θ L → (ap θ p.1 = ap θ p.2 ↔ θ x = ap θ g))
    (q0 : (∀ θ, ¬ U θ W) → ∀ S' l', S'.take S0.length = S0.set j (.dic (dby l')) → R (.ret (.p (.bool false))) S')
    (q1 : ∀ ρ' S', UnInv nm W A S0 j (m - 1) ρ' S' → R (.next ρ') S') :
    wpS (f_united_2 (F k) [some (.ob j), A, some (.p (.tuple [])), some (.ob S0.length), some (.p (Kd.v x).py), some (.p g.py), x6] (st S0 j l r)) R := by
  unfold f_united_2
  have hi := if_ok (k := k) (kd := .v x) (S := st S0 j l r) (by omega)
  have hs := si_ok (k := k) (S := st S0 j l r) (by omega) hn h.tri h.sm h.is (st_j hj) hg hx hxo
  simp [py, isV] at hi
  have hln : look l x = none := by
    cases el : look l x with
    | none => rfl
    | some u => exact absurd (mem_keys ((h.is x u).mp el)) hx
  simp [py, hi, hs]
  by_cases ho : x ∈ (sub L g).vn
  · rw [if_pos ho]
    refine q0 (h.noU fun θ hθ hc => ?_) _ l st_take
    have := (e θ hθ).mp hc
    rw [← sol_sub hθ g] at this
    exact occ ho (sub_ne_v hgr hne) this
  · rw [if_neg ho]
    unfold f_united_1
    have hll := h.llen hn
    have hset : setD (.ob j) (.p (.str x)) (.p g.py) (st S0 j l r) = some (st S0 j (l ++ [(x, g)]) r) := by
      have e1 : (dby l).length < LIM := by simp [dby, LIM]; omega
      simp only [setD, st_j hj, pyKey, if_pos e1, put_dby hln, st_setj hj]
    simp [hset]
    obtain ⟨L', hK, _, _⟩ := h.bind hn (hW L h.tri h.sm) hW hx hxn hln hg ho e
    exact q1 _ _ ⟨L', _, r, _, _, _, rfl, rfl, hK, by omega⟩
set_option maxHeartbeats 4000000 in
theorem un_turn {x4 x5 : Option D} (hk : 3 ≤ k) (hn : nm.length = 4) (hnm : ∀ n ∈ nm, nOk n) (hj : j < S0.length) (hW : ∀ L', Tri L' → SmL nm L' → szw (sg L') W ≤ 78000) (h : Kp nm W L l (p :: r) m) (hm : m ≤ 500000)
    (q0 : (∀ θ, ¬ U θ W) → ∀ S' l', S'.take S0.length = S0.set j (.dic (dby l')) → R (.ret (.p (.bool false))) S')
    (q1 : ∀ ρ' S', UnInv nm W A S0 j (m - 1) ρ' S' → R (.next ρ') S') (q2 : ∀ ρ' S', UnInv nm W A S0 j (m - 1) ρ' S' → R (.cont ρ') S') :
    wpS (f_united_4 (F k) [some (.ob j), A, some (.p (.tuple [])), some (.ob S0.length), x4, x5, x6] (st S0 j l (p :: r))) R := by
  obtain ⟨p, q⟩ := p
  have hl4 := len4 hn h.tri h.sm
  obtain ⟨sp, sq⟩ := h.smw (p, q) (by simp)
  obtain ⟨f, ef, ff⟩ := fa_ok (k := k) (S := st S0 j l r) (by omega) h.tri h.sm h.is (st_j hj) sp hl4
  obtain ⟨g, eg, fg⟩ := fa_ok (k := k) (S := st S0 j l r) (by omega) h.tri h.sm h.is (st_j hj) sq hl4
  obtain ⟨f1, f2, f3, f4⟩ := ff
  obtain ⟨g1, g2, g3, g4⟩ := fg
  have e1 : (st S0 j l ((p, q) :: r))[S0.length]? = some (.lst ((r.map pr).reverse ++ [pr (p, q)])) := by rw [st_w]; simp
  have hpop := pop_ok e1
  rw [st_setw] at hpop
  have hpop : popM (.ob S0.length) [] (st S0 j l ((p, q) :: r)) = .ok (.p (pr (p, q))) (st S0 j l r) := hpop
  have heq := eq_py (neg := false) (S := st S0 j l r) f1.ok g1.ok
  unfold f_united_4
  simp [rlOf_ob e1, hpop]
  simp [pr]
  have hlc : lcD (gN 6) tYesD (eCallX 2 (F k .f_found_at) (aCons (eVar 6) (aCons (eVar 0) aNil))) [some (.ob j), A, some (.p (.tuple [])), some (.ob S0.length), x4, x5, none] [.p p.py, .p q.py] (st S0 j l r) = .ok [f.py, g.py] (st S0 j l r) := lc_two (ρ1 := [some (.ob j), A, some (.p (.tuple [])), some (.ob S0.length), x4, x5, some (.p p.py)]) (ρ2 := [some (.ob j), A, some (.p (.tuple [])), some (.ob S0.length), x4, x5, some (.p q.py)]) rfl (by simp [ef]) rfl (by simp [eg])
  refine ⟨by simp [LIM], wp_of hlc ?_⟩
  simp [gLstD, lstOf]
  rw [heq]
  simp
  by_cases hfg : f = g
  · subst hfg
    simp [eqK_iff.mpr rfl]
    exact q2 _ _ ⟨L, l, r, _, _, _, rfl, rfl, h.drop fun θ hθ => by rw [← f3 θ hθ, ← g3 θ hθ], by omega⟩
  · have hb : eqK f g = false := by
      cases hc : eqK f g with
      | false => rfl
      | true => exact absurd (eqK_iff.mp hc) hfg
    simp [hb]
    unfold f_united_3
    have hif := if_ok (k := k) (kd := f) (S := st S0 j l r) (by omega)
    have hig := if_ok (k := k) (kd := g) (S := st S0 j l r) (by omega)
    have en : ∀ {c d : Kd}, (∀ θ, ap θ c ≠ ap θ d) → f = c → g = d → ∀ θ, ¬ U θ W := fun {c d} hcd ec ed => h.noU fun θ hθ hc => hcd θ (by rw [← ec, ← ed, f3 θ hθ, g3 θ hθ]; exact hc)
    have vin : ∀ {y : Str} {t : Kd}, Sm nm t → t = .v y → y ∈ nm := fun {y t} ht e => ht.2.2.2.2 y (by rw [e]; simp [vn])
    cases hf : f with
    | v x =>
      subst hf
      simp [hif, hig, isV]
      have hxn := vin f1 rfl
      refine un2_wp hk hn hj hW h hm (f4 x rfl) hxn (hnm x hxn) g1 g4 (fun e => hfg e.symm) (fun θ hθ => ?_) q0 q1
      have a1 := f3 θ hθ
      have a2 := g3 θ hθ
      show ap θ p = ap θ q ↔ _
      rw [← a1, ← a2]; rfl
    | c n =>
      subst hf
      cases hg : g with
      | v y =>
        subst hg
        simp [hif, hig, isV]
        have hyn := vin g1 rfl
        refine un2_wp hk hn hj hW h hm (g4 y rfl) hyn (hnm y hyn) f1 f4 hfg (fun θ hθ => ?_) q0 q1
        have a1 := f3 θ hθ
        have a2 := g3 θ hθ
        show ap θ p = ap θ q ↔ _
        rw [← a1, ← a2]
        exact eq_comm
      | c n' =>
        subst hg
        simp [hif, hig, isV]
        unfold f_united_2
        simp [hif, isV]
        simp [py]
        exact q0 (en (fun θ e => hfg (by simpa [ap] using e)) rfl rfl) _ l st_take
      | a g' y' =>
        subst hg
        simp [hif, hig, isV]
        unfold f_united_2
        simp [hif, isV]
        simp [py]
        exact q0 (en (fun θ e => by simp [ap] at e) rfl rfl) _ l st_take
    | a f' x' =>
      subst hf
      cases hg : g with
      | v y =>
        subst hg
        simp [hif, hig, isV]
        have hyn := vin g1 rfl
        refine un2_wp hk hn hj hW h hm (g4 y rfl) hyn (hnm y hyn) f1 f4 hfg (fun θ hθ => ?_) q0 q1
        have a1 := f3 θ hθ
        have a2 := g3 θ hθ
        show ap θ p = ap θ q ↔ _
        rw [← a1, ← a2]
        exact eq_comm
      | c n' =>
        subst hg
        simp [hif, hig, isV]
        unfold f_united_2
        simp [hif, isV]
        simp [py]
        exact q0 (en (fun θ e => by simp [ap] at e) rfl rfl) _ l st_take
      | a g' y' =>
        subst hg
        simp [hif, hig, isV]
        unfold f_united_2
        have hrl := szw_len (sg L) r
        have hms := h.ms
        simp only [szw] at hms
        have hx := extend_ok (ys := [.tuple [x'.py, y'.py], .tuple [f'.py, g'.py]]) (st_w (S0 := S0) (j := j) (l := l) (w := r)) (by simp; omega)
        rw [st_setw] at hx
        simp [hif, isV]
        simp [py, rlOf_ob (st_w (S0 := S0) (j := j) (l := l) (w := r)), hx]
        refine q1 _ _ ⟨L, l, (f', g') :: (x', y') :: r, _, _, _, rfl, by simp [st, pr], h.split (fun θ hθ => (f3 θ hθ).symm) (fun θ hθ => (g3 θ hθ).symm) f1 g1, by omega⟩
theorem F_un (k : Nat) : F (k + 1) .f_united = runF 7 (b_f_united (F k)) := rfl
/-- united: what it answers, and the dict behind it -/
def UnRes (nm : List Str) (W : List (Kd × Kd)) (S0 : Sto) (j : Nat) (d : D) (s : Sto) : Prop :=
  (d = .p (.bool false) ∧ (∀ θ, ¬ U θ W) ∧ ∃ l, s.take S0.length = S0.set j (.dic (dby l))) ∨ (d = .p (.bool true) ∧ ∃ L l m, Kp nm W L l [] m ∧ s.take S0.length = S0.set j (.dic (dby l)))
set_option maxHeartbeats 4000000 in
theorem un_wp {A : D} {fin : List PyData → M D} (hk : 4 ≤ k) (hn : nm.length = 4) (hnm : ∀ n ∈ nm, nOk n) (hj : S0[j]? = some (.dic (dby []))) (hW0 : Smw nm W) (hWl : W.length ≤ 3) (hA : ∀ S, listXM finM [A] S = finM (W.map pr) S) :
    wp (F k .f_united [.ob j, A, .p (.tuple [])] S0) (fun d s => UnRes nm W S0 j d s) noX := by
  obtain ⟨k, rfl⟩ : ∃ i, k = i + 1 := ⟨k - 1, by omega⟩
  have hjl : j < S0.length := (List.getElem?_eq_some_iff.mp hj).1
  have hWs : ∀ L', Tri L' → SmL nm L' → szw (sg L') W ≤ 78000 := fun L' t' s' => by
    have := szw_small hn t' s' hW0
    omega
  rw [F_un, wp_run]
  show wpS (b_f_united (F k) [some (.ob j), some A, some (.p (.tuple [])), none, none, none, none] S0) _
  unfold b_f_united f_united_5
  have hS : S0 ++ [MO.lst (W.map pr)] = st S0 j [] W.reverse := by
    unfold st
    rw [set_id' hj]
    simp
  simp [hA, finM, hS]
  have hrev : ∀ θ, U θ W ↔ U θ W.reverse := fun θ => by simp [U]
  have hsz : ∀ θ, szw θ W.reverse = szw θ W := fun θ => by
    have : ∀ w : List (Kd × Kd), szw θ w.reverse = szw θ w := by
      intro w
      induction w with
      | nil => rfl
      | cons p r ih => rw [List.reverse_cons, szw_app, ih]; simp [szw]; omega
    exact this W
  have h0 : Kp nm W [] [] W.reverse 400000 := ⟨trivial, (fun p hp => nomatch hp), fun y u => by simp [look], by simp [nd], fun p hp => hW0 p (by simpa using hp), fun θ => by rw [hrev θ]; simp [Sol], fun θ _ => by rw [hsz θ]; exact Nat.le_refl _, by
    have := hWs [] trivial (fun p hp => nomatch hp)
    rw [hsz]
    simp
    omega⟩
  refine whileD_wp (UnInv nm W (some A) S0 j) ?_ (m := 400000) (by omega) ⟨[], [], W.reverse, _, _, _, rfl, rfl, h0, by omega⟩
  rintro m ρ S' ⟨L, l, w, x4, x5, x6, rfl, rfl, hK, hm⟩
  simp [ne_nil st_w (prs_sh hK.smw)]
  cases w with
  | nil =>
    simp
    exact .inr ⟨rfl, L, l, m, hK, st_take⟩
  | cons p r =>
    simp
    have hpos : 1 ≤ m := by
      have := hK.ms
      have hp := nds_pos (ap (sg L) p.1)
      simp only [szw] at this
      omega
    refine ⟨m - 1, by omega, un_turn (by omega) hn hnm hjl hWs hK hm (fun hno S' l' hS' => ?_) (fun ρ' S' hI => hI) (fun ρ' S' hI => hI)⟩
    exact .inl ⟨rfl, hno, l', hS'⟩
end
end K07

namespace K07
open PySem L2 DL
open Kd

theorem F_rs (k : Nat) : F (k + 1) .f_resolved = runF 3 (b_f_resolved (F k)) := rfl
theorem rs_ok {nm : List Str} {L l : Cs} {j : Nat} {S : Sto} (ht : Tri L) (hs : SmL nm L) (hi : Is l L) (hj : S[j]? = some (.dic (dby l))) (hl : L.length ≤ 4) : ∀ {k : Nat} {kd : Kd}, Sm nm kd → (sub L kd).dep + 1 ≤ k → F k .f_resolved [.p kd.py, .ob j] S = .ok (.p (sub L kd).py) S
  | 0, kd, _, h => by omega
  | k + 1, kd, hkd, h => by
    have hd := dep_pos (sub L kd)
    obtain ⟨f, ef, f1, f2, f3, f4⟩ := fa_ok (k := k) (S := S) (by omega) ht hs hi hj hkd hl
    rw [F_rs]
    refine run_ret ?_
    unfold b_f_resolved f_resolved_1
    simp [sSeq_, ef]
    cases f with
    | v y =>
      have : sub L kd = .v y := by rw [← f2]; exact sub_no (by simp [vn]; exact f4 y rfl)
      rw [this]
      simp [py]
    | c n =>
      have : sub L kd = .c n := by rw [← f2, sub_c]
      rw [this]
      simp [py]
    | a g z =>
      have e : sub L kd = .a (sub L g) (sub L z) := by rw [← f2, sub_a]
      rw [e] at h ⊢
      simp only [dep] at h
      obtain ⟨s1, s2⟩ := f1.a
      have e1 := rs_ok ht hs hi hj hl (k := k) s1 (by omega)
      have e2 := rs_ok ht hs hi hj hl (k := k) s2 (by omega)
      simp [py, e1, e2]
theorem F_ut (k : Nat) : F (k + 1) .f_unite = runF 3 (b_f_unite (F k)) := rfl
def UtRes (nm : List Str) (W : List (Kd × Kd)) (x : PyData) : Prop :=
  (x = .none ∧ ∀ θ, ¬ U θ W) ∨ ∃ L R : Cs, x = .dict (pyKv (dby R)) ∧ Tri L ∧ SmL nm L ∧ (∀ θ, U θ W ↔ Sol θ L) ∧ nd R ∧ ∀ n k, look R n = some k ↔ n ∈ keys L ∧ k = sub L (.v n)
theorem keys_dby (l : Cs) : ((dby l).map fun kv => keyPy kv.1) = (l.map (·.1)).map .str := by simp [dby, keyPy]
theorem sorted_dby {S : Sto} {j : Nat} {l : Cs} (h : S[j]? = some (.dic (dby l))) (hl : l.length < 64) : sortedM [.ob j] S = .ok (.p (.list ((sortS (l.map (·.1))).map .str))) S := by
  have e1 : lstOf S (.ob j) = none := by simp [lstOf, h]
  have e2 := dicOf_ob h
  have e3 : txtsP ((dby l).map fun kv => keyPy kv.1) = some (l.map (·.1)) := by rw [keys_dby]; exact txtsP_map _
  simp [sortedM, e1, e2, e3, hl]
theorem putS_dby {S : Sto} {l : Cs} {n : Str} {k : Kd} (hn : look l n = none) (hl : l.length < 1000000) : putS S.length (.p (.str n)) (.p k.py) (S ++ [.dic (dby l)]) = some (S ++ [.dic (dby (l ++ [(n, k)]))]) := by
  have e : (S ++ [MO.dic (dby l)])[S.length]? = some (.dic (dby l)) := by simp
  have e2 : pyKey (.str n) = some (.inr n) := rfl
  have e3 : (dby l).length < LIM := by simp [dby, LIM, hl]
  unfold putS
  rw [e]
  simp only [e2, if_pos e3, put_dby hn]
  simp
theorem look_take_none {ns : List Str} (hns : ns.Nodup) {i : Nat} {n : Str} (h : ns[i]? = some n) (f : Str → Kd) : look ((ns.take i).map fun n => (n, f n)) n = none := by
  unfold look
  rw [Option.map_eq_none_iff, List.find?_eq_none]
  intro p hp
  obtain ⟨m, hm, rfl⟩ := List.mem_map.mp hp
  simp
  rintro rfl
  have hs : ns.take i ++ ns.drop i = ns := List.take_append_drop i ns
  obtain ⟨hlt, hg⟩ := List.getElem?_eq_some_iff.mp h
  have hd : m ∈ ns.drop i := by
    rw [List.drop_eq_getElem_cons hlt, hg]
    exact List.mem_cons_self
  rw [← hs, List.nodup_append] at hns
  exact hns.2.2 m hm m hd rfl
theorem look_map {ns : List Str} {f : Str → Kd} {n : Str} {k : Kd} : look (ns.map fun n => (n, f n)) n = some k ↔ n ∈ ns ∧ k = f n := by
  induction ns with
  | nil => simp [look]
  | cons m r ih =>
    unfold look at ih ⊢
    rw [List.map_cons, List.find?_cons]
    by_cases e : m = n
    · subst e
      simp
      exact eq_comm
    · simp only [e, decide_false, List.mem_cons]
      rw [ih]
      constructor
      · rintro ⟨h1, h2⟩; exact ⟨.inr h1, h2⟩
      · rintro ⟨h1 | h1, h2⟩
        · exact absurd h1.symm e
        · exact ⟨h1, h2⟩
set_option maxHeartbeats 2000000 in
theorem ut_wp {nm : List Str} {W : List (Kd × Kd)} {k : Nat} {A : PyData} {S : Sto} (hk : 40 ≤ k) (hn : nm.length = 4) (hnm : ∀ n ∈ nm, nOk n) (hW0 : Smw nm W) (hWl : W.length ≤ 3) (hA : ∀ S, listXM finM [.p A] S = finM (W.map pr) S) :
    wp (F k .f_unite [.p A] S) (fun d s => ∃ x, d = .p x ∧ UtRes nm W x ∧ s.take S.length = S) noX := by
  obtain ⟨k, rfl⟩ : ∃ i, k = i + 1 := ⟨k - 1, by omega⟩
  rw [F_ut, wp_run]
  show wpS (b_f_unite (F k) [some (.p A), none, none] S) _
  unfold b_f_unite
  have hj : (S ++ [MO.dic (dby [])])[S.length]? = some (.dic (dby [])) := by simp
  have hun := un_wp (k := k) (S0 := S ++ [MO.dic (dby [])]) (j := S.length) (A := .p A) (fin := finM) (by omega) hn hnm hj hW0 hWl hA
  have hl1 : (S ++ [MO.dic (dby [])]).length = S.length + 1 := by simp
  have hst : ∀ l, (S ++ [MO.dic (dby [])]).set S.length (.dic (dby l)) = S ++ [.dic (dby l)] := fun l => by simp
  simp
  show wp (cutX (S.length + 1) (F k .f_united [.ob S.length, .p A, .p (.tuple [])] (S ++ [MO.dic (dby [])]))) _ _
  refine wp_cutX ?_
  refine wp_mono hun (fun d s hd => ?_) (fun x s h => h.elim)
  rcases hd with ⟨rfl, hno, l, hs⟩ | ⟨rfl, L, l, m, hK, hs⟩
  · rw [hl1, hst] at hs
    refine ⟨_, rfl, ?_⟩
    rw [hs]
    simp
    exact .inl ⟨rfl, hno⟩
  · rw [hl1, hst] at hs
    refine ⟨_, rfl, ?_⟩
    rw [hs]
    simp
    have hjl : (S ++ [MO.dic (dby l)])[S.length]? = some (.dic (dby l)) := by simp
    have hll := hK.llen hn
    have hl4 := len4 hn hK.tri hK.sm
    have hns : (sortS (l.map (·.1))).Nodup := (sortS_perm _).nodup_iff.mpr hK.nd
    have hlen : (sortS (l.map (·.1))).length = l.length := by rw [(sortS_perm _).length_eq]; simp
    have htk : (S ++ [MO.dic (dby l)]).take S.length = S := by simp
    have hln : S.length < (S ++ [MO.dic (dby l)]).length := by simp
    have hmemk : ∀ n, n ∈ sortS (l.map (·.1)) ↔ n ∈ keys L := fun n => by
      rw [(sortS_perm _).mem_iff, ← hK.is.key n]
      constructor
      · intro h
        obtain ⟨p, hp, rfl⟩ := List.mem_map.mp h
        cases e : look l p.1 with
        | some k => rfl
        | none => exact absurd hp (look_none e p.2)
      · intro h
        obtain ⟨u, e⟩ := Option.isSome_iff_exists.mp h
        exact List.mem_map.mpr ⟨_, look_mem e, rfl⟩
    unfold f_unite_1
    generalize hS2 : S ++ [MO.dic (dby l)] = S2 at hjl htk hln ⊢
    simp [-List.map_map, sorted_dby hjl (by omega)]
    have hmD : ((sortS (l.map (·.1))).map PyData.str).map D.p = (sortS (l.map (·.1))).map fun x => D.p (.str x) := by simp
    rw [hmD]
    refine dcD_wp (fun i S' => S' = S2 ++ [.dic (dby (((sortS (l.map (·.1))).take i).map fun n => (n, sub L (.v n))))]) (i := 0) rfl ?_ ?_
    · rintro i d S' he rfl
      rw [Nat.zero_add]
      rw [List.getElem?_map, Option.map_eq_some_iff] at he
      obtain ⟨n, he, rfl⟩ := he
      have hnk := (hmemk n).mp (List.mem_of_getElem? he)
      obtain ⟨u, eu⟩ := Option.isSome_iff_exists.mp ((hK.is.key n).mpr hnk)
      have hm := (hK.is n u).mp eu
      have hv : valD (dby l) (.inr n) = some u.py := by rw [val_dby, eu]; rfl
      have hj' : (S2 ++ [MO.dic (dby (((sortS (l.map (·.1))).take i).map fun n => (n, sub L (.v n))))])[S.length]? = some (.dic (dby l)) := by
        rw [List.getElem?_append_left hln]; exact hjl
      have hno := look_take_none hns he fun n => sub L (.v n)
      have hp := putS_dby (S := S2) (k := sub L (.v n)) hno (by simp; omega)
      have hr := rs_ok (k := k) hK.tri hK.sm hK.is hj' hl4 (hK.sm _ hm).2 (by have := (sub_small hn hK.tri hK.sm (hK.sm _ hm).2).2.2; omega)
      rw [← sub_key hK.tri hm] at hr
      simp [-List.map_take, subs_dic hj' hv, hr]
      rw [show List.take (List.length S2 + 1) (S2 ++ [MO.dic (dby (((sortS (l.map (·.1))).take i).map fun n => (n, sub L (.v n))))]) = S2 ++ [MO.dic (dby (((sortS (l.map (·.1))).take i).map fun n => (n, sub L (.v n))))] from List.take_of_length_le (by simp)]
      rw [hp, take_snoc he]
      simp
    · rintro S' rfl
      have e2 : (S2 ++ [MO.dic (dby (((sortS (l.map (·.1))).take (0 + ((sortS (l.map (·.1))).map fun x => D.p (.str x)).length)).map fun n => (n, sub L (.v n))))])[S2.length]? = some (.dic (dby ((sortS (l.map (·.1))).map fun n => (n, sub L (.v n))))) := by
        simp
      simp only [finDI_ok' e2, wp_ok, wpS_some, rn_ret]
      refine ⟨_, rfl, .inr ⟨L, _, rfl, hK.tri, hK.sm, fun θ => ?_, ?_, fun n q => ?_⟩, ?_⟩
      · rw [hK.uni θ]
        simp [U]
      · unfold nd
        rw [List.map_map]
        have : ((fun x : Str × Kd => x.1) ∘ fun n => (n, sub L (Kd.v n))) = id := rfl
        rw [this, List.map_id]
        exact hns
      · rw [look_map, hmemk]
      · rw [take_set_ge (by omega), List.take_append_of_le_length (by omega)]
        exact htk
theorem ut_ok {nm : List Str} {W : List (Kd × Kd)} {k : Nat} {A : PyData} {S : Sto} (hk : 40 ≤ k) (hn : nm.length = 4) (hnm : ∀ n ∈ nm, nOk n) (hW0 : Smw nm W) (hWl : W.length ≤ 3) (hA : ∀ S, listXM finM [.p A] S = finM (W.map pr) S) :
    ∃ x, UtRes nm W x ∧ cutX S.length (F k .f_unite [.p A] S) = .ok (.p x) S := by
  obtain ⟨d, s, e, x, rfl, hr, hs⟩ := wp_ex (ut_wp (S := S) hk hn hnm hW0 hWl hA)
  rw [e]
  exact ⟨x, hr, by simp [hs]⟩
end K07

namespace K07
open PySem L2 DL
open Kd

/-- the resolved head of a small kind -/
theorem walkE {nm : List Str} : ∀ {L : Cs} {t : Kd}, Tri L → SmL nm L → Sm nm t → ∃ t', Sm nm t' ∧ sub L t' = sub L t ∧ (∀ θ, Sol θ L → ap θ t' = ap θ t) ∧ ∀ y, t' = .v y → y ∉ keys L
  | [], t, _, _, h => ⟨t, h, rfl, fun _ _ => rfl, fun y _ => by simp [keys]⟩
  | p :: L, t, ht, hs, h => by
    obtain ⟨h1, h2, h3⟩ := ht
    obtain ⟨t', a1, a2, a3, a4⟩ := walkE (L := L) (t := t) h3 (fun q hq => hs q (by simp [hq])) h
    by_cases e : t' = .v p.1
    · have hT : Tri (p :: L) := ⟨h1, h2, h3⟩
      have hm : (p.1, p.2) ∈ p :: L := List.mem_cons_self
      refine ⟨p.2, (hs p (by simp)).2, ?_, fun θ hθ => ?_, fun y ey hy => ?_⟩
      · rw [← sub_key hT hm, ← e]
        show sub1 p.1 p.2 (sub L t') = sub1 p.1 p.2 (sub L t)
        rw [a2]
      · rw [← hθ p.1 p.2 hm, ← a3 θ fun y u hyu => hθ y u (by simp [hyu]), e]
        rfl
      · have := h2 y (by rw [ey]; simp [vn])
        simp only [keys, List.map_cons, List.mem_cons] at hy
        rcases hy with hy | hy
        · exact this.1 hy
        · exact this.2 hy
    · refine ⟨t', a1, ?_, fun θ hθ => a3 θ fun y u hyu => hθ y u (by simp [hyu]), fun y ey hy => ?_⟩
      · show sub1 p.1 p.2 (sub L t') = sub1 p.1 p.2 (sub L t)
        rw [a2]
      · simp only [keys, List.map_cons, List.mem_cons] at hy
        rcases hy with hy | hy
        · exact e (by rw [ey, hy])
        · exact a4 y ey hy
/-- what the law's dict holds -/
def IsR (l L : Cs) : Prop := nd l ∧ ∀ n k, look l n = some k ↔ n ∈ keys L ∧ k = sub L (.v n)
theorem putP_sub {l L : Cs} (h : IsR l L) : ∀ p : Kd, putP (dby l) p = (sub L p).py
  | .v y => by
    unfold putP
    rw [val_dby]
    cases e : look l y with
    | some k => have := (h.2 y k).mp e; rw [this.2]; rfl
    | none =>
      have : y ∉ keys L := fun hy => by
        have := (h.2 y _).mpr ⟨hy, rfl⟩
        rw [e] at this
        cases this
      rw [sub_no (by simp [vn]; exact this)]; rfl
  | .c n => by rw [sub_c]; rfl
  | .a f x => by rw [sub_a]; simp [putP, py, putP_sub h f, putP_sub h x]
theorem putP_one {x : Str} {u : Kd} : ∀ p : Kd, putP [(.inr x, u.py)] p = (sub1 x u p).py
  | .v y => by
    unfold putP
    by_cases e : y = x
    · subst e; rw [sub1_x]; simp [valD]
    · rw [sub1_ne e]
      have : valD [((Sum.inr x : Key), u.py)] (.inr y) = none := by
        simp [valD]
        exact fun q => e q.symm
      rw [this]; rfl
  | .c n => by simp [putP, sub1, ap]
  | .a f z => by
    have h1 := putP_one (x := x) (u := u) f
    have h2 := putP_one (x := x) (u := u) z
    simp only [putP, h1, h2]
    rfl
def Big (k : Kd) : Prop := k.wk ∧ k.dep ≤ 30
def Bgw (w : List (Kd × Kd)) : Prop := ∀ p ∈ w, Big p.1 ∧ Big p.2
theorem Big.ok {k : Kd} (h : Big k) : okK k := ⟨h.1, by have := h.2; omega⟩
theorem bgw_sh {w : List (Kd × Kd)} (h : Bgw w) : SeqAt.shaped (.list (w.map pr)) = true := shL fun d hd => by
  simp at hd
  obtain ⟨a, b, hp, rfl⟩ := hd
  obtain ⟨h1, h2⟩ := h _ hp
  have c1 := okK_d h1.ok
  have c2 := okK_d h2.ok
  have d1 := py_dep a
  have d2 := py_dep b
  have e1 : a.dep ≤ 30 := h1.2
  have e2 : b.dep ≤ 30 := h2.2
  refine ⟨by simp [pr, PyData.canLay0, PyData.canLayAll0, c1.1, c2.1], ?_⟩
  simp only [pr, PyData.depth, PyData.depthAll]
  omega
/-- the waiting pairs stand for small ones -/
inductive Sh (L : Cs) : List (Kd × Kd) → List (Kd × Kd) → Prop
  | nil : Sh L [] []
  | cons {p t : Kd × Kd} {w v : List (Kd × Kd)} : sub L p.1 = sub L t.1 → sub L p.2 = sub L t.2 → Sh L w v → Sh L (p :: w) (t :: v)
theorem Sh.len {L : Cs} {w v : List (Kd × Kd)} (h : Sh L w v) : w.length = v.length := by
  induction h with
  | nil => rfl
  | cons _ _ _ ih => simp [ih]
theorem Sh.refl (L : Cs) : ∀ w : List (Kd × Kd), Sh L w w
  | [] => .nil
  | p :: r => .cons rfl rfl (Sh.refl L r)
theorem Sh.next {L L' : Cs} {f : Kd → Kd} (hf : ∀ s, sub L' s = f (sub L s)) {w v : List (Kd × Kd)} (h : Sh L w v) : Sh L' w v := by
  induction h with
  | nil => exact .nil
  | cons h1 h2 _ ih => exact .cons (by rw [hf, hf, h1]) (by rw [hf, hf, h2]) ih
/-- where the dict stands -/
def At (S : Sto) (d : D) (jw : Nat) (l : Cs) (n0 : Nat) : Prop := d = .p (.dict (pyKv (dby l))) ∨ ∃ jb, d = .ob jb ∧ jb ≠ jw ∧ n0 ≤ jb ∧ S[jb]? = some (.dic (dby l))
theorem At.ice {S : Sto} {d : D} {jw : Nat} {l : Cs} {n0 : Nat} {w : List PyData} (h : At S d jw l n0) (hw : S[jw]? = some (.lst w)) : ∃ S', iceD d S = (.p (.dict (pyKv (dby l))), S') ∧ S'[jw]? = some (.lst w) ∧ S'.take n0 = S.take n0 ∧ S'.length = S.length := by
  rcases h with rfl | ⟨jb, rfl, h1, h2, h3⟩
  · exact ⟨S, rfl, hw, rfl, rfl⟩
  · exact ⟨S.set jb .dead, iceD_d h3, by rw [List.getElem?_set_ne h1]; exact hw, take_set_ge h2, by simp⟩
def SvInv (nm : List Str) (W : List (Kd × Kd)) (A : Option D) (S0 : Sto) (m : Nat) (ρ : Ev) (S : Sto) : Prop :=
  ∃ (L l : Cs) (w v : List (Kd × Kd)) (d : D) (jw : Nat) (x3 x4 x5 x6 : Option D), ρ = [A, some d, some (.ob jw), x3, x4, x5, x6] ∧ S.take S0.length = S0 ∧ S0.length ≤ jw ∧ S0.length ≤ S.length ∧ S[jw]? = some (.lst (w.map pr)) ∧ At S d jw l S0.length ∧ IsR l L ∧ Bgw w ∧ Sh L w v ∧ Kp nm W L L v m ∧ m ≤ 500000
theorem IsR.llen {nm : List Str} {l L : Cs} (hn : nm.length = 4) (ht : Tri L) (hs : SmL nm L) (h : IsR l L) : l.length ≤ 4 := by
  have h' : (l.map fun p => p.1).Nodup := h.1
  have := nodup_len (m := nm) h' fun y hy => by
    obtain ⟨p, hp, rfl⟩ := List.mem_map.mp hy
    have : look l p.1 ≠ none := fun e => look_none e p.2 hp
    obtain ⟨u, e⟩ := Option.ne_none_iff_exists'.mp this
    obtain ⟨q, hq, e2⟩ := List.mem_map.mp ((h.2 _ _).mp e).1
    rw [← e2]
    exact (hs q hq).1
  simp at this
  omega
/-- by, with one more name -/
def lput (l : Cs) (x : Str) (u : Kd) : Cs := l.map fun p => (p.1, sub1 x u p.2)
theorem look_lput {l : Cs} {x y : Str} {u : Kd} : look (lput l x u) y = (look l y).map (sub1 x u) := by
  unfold look lput
  induction l with
  | nil => rfl
  | cons p r ih =>
    rw [List.map_cons, List.find?_cons, List.find?_cons]
    by_cases h : p.1 = y
    · simp [h]
    · simp only [h, decide_false]
      exact ih
theorem isR_next {l L L' : Cs} {x : Str} {t : Kd} (h : IsR l L) (hx : x ∉ keys L) (hm : ∀ q, q ∈ L' ↔ q = (x, t) ∨ q ∈ L) (hf : ∀ s, sub L' s = sub1 x (sub L t) (sub L s)) : IsR (lput l x (sub L t) ++ [(x, sub L t)]) L' := by
  have hk : ∀ z, z ∈ keys L' ↔ z = x ∨ z ∈ keys L := fun z => by
    constructor
    · intro hz
      obtain ⟨p, hp, rfl⟩ := List.mem_map.mp hz
      rcases (hm p).mp hp with e | e
      · rw [e]; exact .inl rfl
      · exact .inr (List.mem_map.mpr ⟨p, e, rfl⟩)
    · rintro (rfl | hz)
      · exact mem_keys ((hm (z, t)).mpr (.inl rfl))
      · obtain ⟨p, hp, rfl⟩ := List.mem_map.mp hz
        exact List.mem_map.mpr ⟨p, (hm p).mpr (.inr hp), rfl⟩
  have hlx : look l x = none := by
    cases e : look l x with
    | none => rfl
    | some k => exact absurd ((h.2 x k).mp e).1 hx
  have hl2 : look (lput l x (sub L t)) x = none := by rw [look_lput, hlx]; rfl
  have hv : sub L (.v x) = .v x := sub_no (by simp [vn]; exact hx)
  refine ⟨nd_snoc ?_ fun k => look_none hl2 k, fun n k => ?_⟩
  · have : nd l := h.1
    unfold nd lput at *
    rw [List.map_map]
    exact this
  · rw [hk]
    by_cases e : n = x
    · subst e
      have : look (lput l n (sub L t) ++ [(n, sub L t)]) n = some (sub L t) := by
        unfold look at hl2 ⊢
        rw [Option.map_eq_none_iff] at hl2
        rw [List.find?_append, hl2]
        simp
      rw [this, hf, hv, sub1_x]
      constructor
      · intro q; cases q; exact ⟨.inl rfl, rfl⟩
      · rintro ⟨_, rfl⟩; rfl
    · have : look (lput l x (sub L t) ++ [(x, sub L t)]) n = look (lput l x (sub L t)) n := by
        unfold look
        rw [List.find?_append]
        have : (List.find? (fun p => decide (p.1 = n)) [(x, sub L t)]) = none := by simp [Ne.symm e]
        rw [this, Option.or_none]
      rw [this, look_lput, hf]
      constructor
      · intro q
        obtain ⟨k', e1, e2⟩ := Option.map_eq_some_iff.mp q
        obtain ⟨e3, e4⟩ := (h.2 n k').mp e1
        exact ⟨.inr e3, by rw [← e2, e4]⟩
      · rintro ⟨q | q, rfl⟩
        · exact absurd q e
        · rw [(h.2 n _).mpr ⟨q, rfl⟩]; rfl
theorem merge_nd : ∀ {l acc : Cs}, nd (acc ++ l) → (dby l).foldl (fun acc kv => putD acc kv.1 kv.2) (dby acc) = dby (acc ++ l)
  | [], acc, _ => by simp [dby]
  | p :: r, acc, h => by
    have hno : look acc p.1 = none := by
      cases e : look acc p.1 with
      | none => rfl
      | some k =>
        unfold nd at h
        rw [List.map_append, List.nodup_append] at h
        exact absurd rfl (h.2.2 p.1 (List.mem_map.mpr ⟨_, look_mem e, rfl⟩) p.1 (by simp))
    have e : dby (p :: r) = (.inr p.1, p.2.py) :: dby r := rfl
    rw [e, List.foldl_cons]
    show (dby r).foldl _ (putD (dby acc) (.inr p.1) p.2.py) = _
    rw [put_dby hno, merge_nd (by simpa using h)]
    simp
theorem unP_dby : ∀ l : Cs, unPairs (l.map fun p => .tuple [.str p.1, p.2.py]) = some (dby l)
  | [] => rfl
  | p :: r => by
    rw [List.map_cons]
    unfold unPairs
    simp [pyKey, unP_dby r]
    rfl
theorem in_lstr {S : Sto} {ns : List Str} {n : Str} : opInX false (.p (.str n)) (.p (.list (ns.map .str))) S = .ok (.p (.bool (decide (n ∈ ns)))) S := by
  have e1 : (ns.map PyData.str).all flatP = true := by simp [flatP]
  have e2 : inP (.str n) (ns.map .str) = decide (n ∈ ns) := by
    unfold inP
    rw [List.any_map]
    by_cases hn : n ∈ ns
    · rw [decide_eq_true hn, List.any_eq_true]
      exact ⟨n, hn, by simp [eqP]⟩
    · rw [decide_eq_false hn, List.any_eq_false]
      intro m hm
      have : m ≠ n := fun e => hn (e ▸ hm)
      simp [eqP, this]
  have e3 : opIn false (.p (.str n)) (.p (.list (ns.map .str))) S = .ok (.p (.bool (decide (n ∈ ns)))) S := by
    unfold opIn
    have es : seqOf S (.p (.list (ns.map .str))) = some (ns.map .str) := rfl
    simp only [es]
    rw [if_pos (by rw [e1]; rfl), e2]
    rfl
  simp [opInX, e3]
theorem ded_mem : ∀ {l acc : List Str} {x : Str}, x ∈ ded acc l ↔ x ∈ acc ∨ x ∈ l
  | [], acc, x => by simp [ded]
  | n :: r, acc, x => by
    unfold ded
    rw [ded_mem (l := r)]
    by_cases h : n ∈ acc
    · rw [if_pos h]
      constructor
      · rintro (h1 | h1)
        · exact .inl h1
        · exact .inr (by simp [h1])
      · rintro (h1 | h1)
        · exact .inl h1
        · rcases List.mem_cons.mp h1 with rfl | h1
          · exact .inl h
          · exact .inr h1
    · rw [if_neg h]
      simp [or_assoc]
end K07

namespace K07
open PySem L2 DL
open Kd

section
variable {nm : List Str} {W : List (Kd × Kd)} {A : Option D} {S0 S : Sto} {jw k m : Nat} {L l : Cs} {R : Fl → Sto → Prop} {x5 x6 : Option D}
theorem sv1_wp {x : Str} {t : Kd} {p : Kd × Kd} {w v : List (Kd × Kd)} (hk : 40 ≤ k) (hn : nm.length = 4) (hW : ∀ L', Tri L' → SmL nm L' → szw (sg L') W ≤ 78000) (h : Kp nm W L L (p :: v) m) (hm : m ≤ 500000) (hx : x ∉ keys L) (hxn : x ∈ nm) (ht : Sm nm t) (hno : x ∉ (sub L t).vn)
    (e : ∀ θ, Sol θ L → (ap θ p.1 = ap θ p.2 ↔ θ x = ap θ t)) (hR : IsR l L) (hT : S.take S0.length = S0) (h1 : S0.length ≤ jw) (h2 : S0.length ≤ S.length) (hw : S[jw]? = some (.lst (w.map pr))) (hb : Bgw w) (hsh : Sh L w v)
    (q1 : ∀ ρ' S', SvInv nm W A S0 (m - 1) ρ' S' → R (.next ρ') S') :
    wpS (f_solve_l_1 (F k) [A, some (.p (.dict (pyKv (dby l)))), some (.ob jw), some (.p (Kd.v x).py), some (.p (sub L t).py), x5, x6] S) R := by
  obtain ⟨hok, hnd, hdep⟩ := sub_small hn h.tri h.sm ht
  have hll := hR.llen hn h.tri h.sm
  have hlx : look l x = none := by
    cases e : look l x with
    | none => rfl
    | some k => exact absurd ((hR.2 x k).mp e).1 hx
  have hl2 : look (lput l x (sub L t)) x = none := by rw [look_lput, hlx]; rfl
  unfold f_solve_l_1
  have hkeys : ((dby l).map fun kv => D.p (keyPy kv.1)) = l.map fun p => D.p (.str p.1) := by simp [dby, keyPy]
  have hL : l.length ≤ LIM := by simp [LIM]; omega
  simp [hkeys, hL]
  have hlc : lcD (gN 6) tYesD (eA mkTup (aCons (eVar 6) (aCons (eCallX 2 (F k .f_put_l) (aCons (e2 opSubs (eVar 1) (eVar 6)) (aCons (eDisp [((e2 opSubs (eVar 3) (eC (.p (.int 1)))), (eVar 4))] finDL) aNil))) aNil))) [A, some (.p (.dict (pyKv (dby l)))), some (.ob jw), some (.p (Kd.v x).py), some (.p (sub L t).py), x5, none] (l.map fun p => D.p (.str p.1)) S = .ok (l.map fun p => .tuple [.str p.1, (sub1 x (sub L t) p.2).py]) S := by
    refine lcD_on (fun p : Str × Kd => .str p.1) (fun p => .tuple [.str p.1, (sub1 x (sub L t) p.2).py]) fun q hq => ⟨_, rfl, ?_⟩
    have hlk : look l q.1 = some q.2 := by
      cases e : look l q.1 with
      | none => exact absurd hq (look_none e q.2)
      | some k' => rw [nd_uniq hR.1 q.1 k' q.2 (look_mem e) hq]
    have hv : valD (dby l) (.inr q.1) = some q.2.py := by rw [val_dby, hlk]; rfl
    have hsub : opSubs (.p (.dict (pyKv (dby l)))) (.p (.str q.1)) S = .ok (.p q.2.py) S := by simp [opSubs, dicOf, hv]
    have hq2 := ((hR.2 _ _).mp hlk)
    have hqd : q.2.dep ≤ 26 := by
      obtain ⟨e1, e2⟩ := hq2
      obtain ⟨p', hp', e3⟩ := List.mem_map.mp e1
      rw [e2, ← e3, sub_key h.tri (show (p'.1, p'.2) ∈ L from hp')]
      exact (sub_small hn h.tri h.sm (h.sm p' hp').2).2.2
    have hput := putl_ok (kvs := [(.inr x, (sub L t).py)]) (S := S) (k := k) q.2 (by omega)
    rw [putP_one] at hput
    have hd : eDisp [((e2 opSubs (eVar 3) (eC (.p (.int 1)))), (eVar 4))] finDL [A, some (.p (.dict (pyKv (dby l)))), some (.ob jw), some (.p (Kd.v x).py), some (.p (sub L t).py), x5, some (.p (.str q.1))] S = .ok (.p (.dict (pyKv [(.inr x, (sub L t).py)]))) S := by
      simp [eDisp, pairsD, py, pyKey, finDL, mergeD, putD]
    simp [hsub, hd, hput]
  refine wp_of hlc ?_
  have hun := unP_dby (lput l x (sub L t))
  have hun : unPairs (l.map fun p => .tuple [.str p.1, (sub1 x (sub L t) p.2).py]) = some (dby (lput l x (sub L t))) := by
    rw [← hun]
    simp [lput]
    rfl
  have hndp : nd (lput l x (sub L t)) := by
    have : nd l := hR.1
    unfold nd lput at *
    rw [List.map_map]
    exact this
  have hmg : mergeD (dby (lput l x (sub L t))) = dby (lput l x (sub L t)) := by
    have := merge_nd (l := lput l x (sub L t)) (acc := []) (by simpa using hndp)
    simpa [mergeD, dby] using this
  have hdp : dictPM finDM [.p (.list (l.map fun p => .tuple [.str p.1, (sub1 x (sub L t) p.2).py]))] S = .ok (.ob S.length) (S ++ [.dic (dby (lput l x (sub L t)))]) := by
    simp [dictPM, lstOf, hun, finDM, hmg]
  simp [hdp, py]
  have hget : (S ++ [MO.dic (dby (lput l x (sub L t)))])[S.length]? = some (.dic (dby (lput l x (sub L t)))) := by simp
  have hset : setD (.ob S.length) (.p (.str x)) (.p (sub L t).py) (S ++ [.dic (dby (lput l x (sub L t)))]) = some (S ++ [.dic (dby (lput l x (sub L t) ++ [(x, sub L t)]))]) := by
    have e1 : (dby (lput l x (sub L t))).length < LIM := by simp [dby, lput, LIM]; omega
    simp only [setD, hget, pyKey, if_pos e1, put_dby hl2]
    simp
  simp [hset]
  have hljx : look L x = none := by
    cases e : look L x with
    | none => rfl
    | some k => exact absurd (mem_keys (look_mem e)) hx
  obtain ⟨L', hK, hf, hmm⟩ := h.bind hn (hW L h.tri h.sm) hW hx hxn hljx ht hno e
  have hjl : jw < S.length := (List.getElem?_eq_some_iff.mp hw).1
  refine q1 _ _ ⟨L', _, w, v, .ob S.length, jw, _, _, _, _, rfl, ?_, h1, ?_, ?_, .inr ⟨S.length, rfl, by omega, h2, by simp⟩, isR_next hR hx hmm hf, hb, hsh.next hf, hK.self, by omega⟩
  · rw [List.take_append_of_le_length h2]; exact hT
  · simp; omega
  · rw [List.getElem?_append_left hjl]; exact hw
/-- the first one is a name -/
theorem sv2_wp {x : Str} {t : Kd} {p : Kd × Kd} {w v : List (Kd × Kd)} (hk : 40 ≤ k) (hn : nm.length = 4) (hnm : ∀ n ∈ nm, nOk n) (hW : ∀ L', Tri L' → SmL nm L' → szw (sg L') W ≤ 78000) (h : Kp nm W L L (p :: v) m) (hm : m ≤ 500000) (hx : x ∉ keys L) (hxn : x ∈ nm) (ht : Sm nm t) (hne : sub L t ≠ .v x)
    (e : ∀ θ, Sol θ L → (ap θ p.1 = ap θ p.2 ↔ θ x = ap θ t)) (hR : IsR l L) (hT : S.take S0.length = S0) (h1 : S0.length ≤ jw) (h2 : S0.length ≤ S.length) (hw : S[jw]? = some (.lst (w.map pr))) (hb : Bgw w) (hsh : Sh L w v)
    (q0 : (∀ θ, ¬ U θ W) → ∀ S', S'.take S0.length = S0 → R (.ret (.p .none)) S')
    (q1 : ∀ ρ' S', SvInv nm W A S0 (m - 1) ρ' S' → R (.next ρ') S') :
    wpS (f_solve_l_2 (F k) [A, some (.p (.dict (pyKv (dby l)))), some (.ob jw), some (.p (Kd.v x).py), some (.p (sub L t).py), x5, x6] S) R := by
  obtain ⟨hok, hnd, hdep⟩ := sub_small hn h.tri h.sm ht
  unfold f_solve_l_2
  have hvl := vl_ok (S := S) (k := k) (ks := [sub L t]) (by omega) (fun k hk => by simp at hk; rw [hk]; exact hok) (by simp [ndsL]; omega)
  have hmem : ∀ z, z ∈ ded [] (vnL [sub L t]) ↔ z ∈ (sub L t).vn := fun z => by rw [ded_mem]; simp [vnL]
  simp only [List.map_cons, List.map_nil] at hvl
  simp [py, hvl, in_lstr, hmem]
  by_cases ho : x ∈ (sub L t).vn
  · rw [if_pos ho]
    refine q0 (h.noU fun θ hθ hc => ?_) _ hT
    have := (e θ hθ).mp hc
    rw [← sol_sub hθ t] at this
    exact occ ho hne this
  · rw [if_neg ho]
    exact sv1_wp hk hn hW h hm hx hxn ht ho e hR hT h1 h2 hw hb hsh q1
set_option maxHeartbeats 4000000 in
theorem sv_turn {p t : Kd × Kd} {w v : List (Kd × Kd)} {d : D} {x3 x4 : Option D} (hk : 40 ≤ k) (hn : nm.length = 4) (hnm : ∀ n ∈ nm, nOk n) (hW : ∀ L', Tri L' → SmL nm L' → szw (sg L') W ≤ 78000) (h : Kp nm W L L (t :: v) m) (hm : m ≤ 500000) (hR : IsR l L) (hT : S.take S0.length = S0) (h1 : S0.length ≤ jw) (h2 : S0.length ≤ S.length) (hw : S[jw]? = some (.lst ((p :: w).map pr))) (hat : At S d jw l S0.length) (hb : Bgw (p :: w)) (hsh : Sh L (p :: w) (t :: v))
    (q0 : (∀ θ, ¬ U θ W) → ∀ S', S'.take S0.length = S0 → R (.ret (.p .none)) S')
    (q1 : ∀ ρ' S', SvInv nm W A S0 (m - 1) ρ' S' → R (.next ρ') S') (q2 : ∀ ρ' S', SvInv nm W A S0 (m - 1) ρ' S' → R (.cont ρ') S') :
    wpS (f_solve_l_4 (F k) [A, some d, some (.ob jw), x3, x4, x5, x6] S) R := by
  obtain ⟨S1, ei, hw1, hT1, hl1⟩ := hat.ice hw
  have hT1 : S1.take S0.length = S0 := hT1.trans hT
  unfold f_solve_l_4
  show wpS (sIce 1 _ _ _) R
  unfold sIce
  simp only [List.getElem?_cons_succ, List.getElem?_cons_zero, ei, List.set_cons_succ, List.set_cons_zero]
  obtain ⟨p, q⟩ := p
  obtain ⟨t, t'⟩ := t
  obtain ⟨hp1, hp2, hsh⟩ : sub L p = sub L t ∧ sub L q = sub L t' ∧ Sh L w v := by
    cases hsh with
    | cons a b c => exact ⟨a, b, c⟩
  obtain ⟨bp, bq⟩ := hb (p, q) (by simp)
  have hb : Bgw w := fun z hz => hb z (by simp [hz])
  obtain ⟨s1, s2⟩ := h.smw (t, t') (by simp)
  obtain ⟨o1, n1, d1⟩ := sub_small hn h.tri h.sm s1
  obtain ⟨o2, n2, d2⟩ := sub_small hn h.tri h.sm s2
  have hpop := popAt_ok (k := 0) hw1 (by decide) (y := pr (p, q)) (by simp)
  have hjl : jw < S1.length := (List.getElem?_eq_some_iff.mp hw1).1
  have hl2 : (S1.set jw (.lst (w.map pr))).length = S1.length := by simp
  have hw2 : (S1.set jw (.lst (w.map pr)))[jw]? = some (.lst (w.map pr)) := List.getElem?_set_self hjl
  have hT2 : (S1.set jw (.lst (w.map pr))).take S0.length = S0 := by rw [take_set_ge h1]; exact hT1
  have he0 : (((p, q) :: w).map pr).eraseIdx 0 = w.map pr := rfl
  rw [he0] at hpop
  have h3 : S0.length ≤ (S1.set jw (.lst (w.map pr))).length := by rw [hl2, hl1]; exact h2
  have hrl := rlOf_ob hw1
  generalize S1.set jw (.lst (w.map pr)) = S2 at hpop hw2 hT2 h3
  clear hl2
  have hput1 := putl_ok (kvs := dby l) (S := S2) (k := k) p (by have := bp.2; simp at this; omega)
  have hput2 := putl_ok (kvs := dby l) (S := S2) (k := k) q (by have := bq.2; simp at this; omega)
  rw [putP_sub hR, hp1] at hput1
  rw [putP_sub hR, hp2] at hput2
  have hlc : lcD (gN 5) tYesD (eCallX 2 (F k .f_put_l) (aCons (eVar 5) (aCons (eVar 1) aNil))) [A, some (.p (.dict (pyKv (dby l)))), some (.ob jw), x3, x4, none, x6] [.p p.py, .p q.py] S2 = .ok [(sub L t).py, (sub L t').py] S2 :=
    lc_two (ρ1 := [A, some (.p (.dict (pyKv (dby l)))), some (.ob jw), x3, x4, some (.p p.py), x6]) (ρ2 := [A, some (.p (.dict (pyKv (dby l)))), some (.ob jw), x3, x4, some (.p q.py), x6]) rfl (by simp [hput1]) rfl (by simp [hput2])
  have hpop : popM (.ob jw) [.p (.int 0)] S1 = .ok (.p (pr (p, q))) S2 := hpop
  simp only [List.map_cons] at hrl
  simp [hrl, hpop]
  simp [pr]
  refine ⟨by simp [LIM], wp_of hlc ?_⟩
  simp [gLstD, lstOf]
  have heq := eq_py (neg := false) (S := S2) o1 o2
  rw [heq]
  simp
  by_cases hfg : sub L t = sub L t'
  · have hz : eqK (sub L t) (sub L t') = true := eqK_iff.mpr hfg
    simp [hz]
    refine q2 _ _ ⟨L, l, w, v, _, jw, _, _, _, _, rfl, hT2, h1, h3, hw2, .inl rfl, hR, hb, hsh, h.drop fun θ hθ => ?_, by omega⟩
    show ap θ t = ap θ t'
    rw [← sol_sub hθ t, ← sol_sub hθ t', hfg]
  · have hz : eqK (sub L t) (sub L t') = false := by
      cases hc : eqK (sub L t) (sub L t') with
      | false => rfl
      | true => exact absurd (eqK_iff.mp hc) hfg
    simp [hz]
    unfold f_solve_l_3
    have ap1 : ∀ θ, Sol θ L → ap θ t = ap θ (sub L t) := fun θ hθ => (sol_sub hθ t).symm
    have ap2 : ∀ θ, Sol θ L → ap θ t' = ap θ (sub L t') := fun θ hθ => (sol_sub hθ t').symm
    have vin : ∀ {y : Str} {z : Kd}, Sm nm z → sub L z = .v y → y ∈ nm ∧ y ∉ keys L := fun {y z} hz e => by
      have h5 : ∀ n ∈ (sub L z).vn, n ∈ nm := sub_nm h.sm hz.2.2.2.2
      have h6 := sub_free (t := z) h.tri y (by rw [e]; simp [vn])
      exact ⟨h5 y (by rw [e]; simp [vn]), h6⟩
    -- the second one is a name, or none is
    have other : ∀ (hno : ∀ x, sub L t ≠ .v x), wpS (f_solve_l_2 (F k) [A, some (.p (.dict (pyKv (dby l)))), some (.ob jw), some (.p (sub L t').py), some (.p (sub L t).py), x5, x6] S2) R := fun hno => by
      cases hg : sub L t' with
      | v y =>
        obtain ⟨y1, y2⟩ := vin s2 hg
        refine sv2_wp (p := (t', t)) hk hn hnm hW h.swap hm y2 y1 s1 (hno y) (fun θ hθ => ?_) hR hT2 h1 h3 hw2 hb hsh q0 q1
        show ap θ t' = ap θ t ↔ _
        rw [ap2 θ hθ, hg]; rfl
      | c n =>
        unfold f_solve_l_2
        simp [py]
        refine q0 (h.noU fun θ hθ hc => ?_) _ hT2
        have hc : ap θ t = ap θ t' := hc
        rw [ap1 θ hθ, ap2 θ hθ, hg] at hc
        cases hf : sub L t with
        | v x => exact hno x hf
        | c n' => rw [hf] at hc; simp [ap] at hc; exact hfg (by rw [hf, hg, hc])
        | a f x => rw [hf] at hc; simp [ap] at hc
      | a g y =>
        cases hf : sub L t with
        | v x => exact absurd hf (hno x)
        | c n =>
          unfold f_solve_l_2
          simp [py]
          refine q0 (h.noU fun θ hθ hc => ?_) _ hT2
          have hc : ap θ t = ap θ t' := hc
          rw [ap1 θ hθ, ap2 θ hθ, hg, hf] at hc
          simp [ap] at hc
        | a f x =>
          obtain ⟨r1, a1, a2, a3, a4⟩ := walkE h.tri h.sm s1
          obtain ⟨r2, c1, c2, c3, c4⟩ := walkE h.tri h.sm s2
          rw [hf] at a2
          rw [hg] at c2
          cases r1 with
          | v z => rw [sub_no (by simp [vn]; exact a4 z rfl)] at a2; cases a2
          | c z => rw [sub_c] at a2; cases a2
          | a f1 x1 =>
            cases r2 with
            | v z => rw [sub_no (by simp [vn]; exact c4 z rfl)] at c2; cases c2
            | c z => rw [sub_c] at c2; cases c2
            | a g1 y1 =>
              rw [sub_a] at a2 c2
              simp only [Kd.a.injEq] at a2 c2
              unfold f_solve_l_2
              have hvl := szw_len (sg L) v
              have hwl := hsh.len
              have hms := h.ms
              simp only [szw] at hms
              have hadd : opAddM (.p (.list [.tuple [g.py, f.py], .tuple [y.py, x.py]])) (.ob jw) S2 = .ok (.ob S2.length) (S2 ++ [.lst ([.tuple [g.py, f.py], .tuple [y.py, x.py]] ++ w.map pr)]) := by
                have e1 : lstOf S2 (.p (.list [.tuple [g.py, f.py], .tuple [y.py, x.py]])) = some [.tuple [g.py, f.py], .tuple [y.py, x.py]] := rfl
                have e2 := lstOf_ob hw2
                unfold opAddM
                rw [e1, e2]
                simp only
                rw [if_pos (by simp [LIM]; omega)]
              simp only [List.cons_append, List.nil_append] at hadd
              simp [py, hadd]
              have hspl := h.swap.split (f := g1) (x := y1) (g := f1) (y := x1) (fun θ hθ => (c3 θ hθ).symm) (fun θ hθ => (a3 θ hθ).symm) c1 a1
              rw [hf] at o1 d1
              rw [hg] at o2 d2
              simp only [dep] at d1 d2
              have hjl2 : jw < S2.length := (List.getElem?_eq_some_iff.mp hw2).1
              refine q1 _ _ ⟨L, l, (g, f) :: (y, x) :: w, (g1, f1) :: (y1, x1) :: v, _, S2.length, _, _, _, _, rfl, ?_, h3, by simp; omega, by simp [pr], .inl rfl, hR, fun z hz => ?_, ?_, hspl, by omega⟩
              · rw [List.take_append_of_le_length h3]; exact hT2
              · simp at hz
                rcases hz with rfl | rfl | hz
                · exact ⟨⟨o2.1.1, by show g.dep ≤ 30; omega⟩, o1.1.1, by show f.dep ≤ 30; omega⟩
                · exact ⟨⟨o2.1.2, by show y.dep ≤ 30; omega⟩, o1.1.2, by show x.dep ≤ 30; omega⟩
                · exact hb z hz
              · have e0 : ∀ {s z : Kd}, sub L z = s → sub L s = sub L z := fun {s z} e => by rw [← e, sub_sub h.tri]
                exact .cons (e0 c2.1) (e0 a2.1) (.cons (e0 c2.2) (e0 a2.2) hsh)
    cases hf : sub L t with
    | v x =>
      simp [py]
      obtain ⟨x1, x2⟩ := vin s1 hf
      refine sv2_wp (p := (t, t')) hk hn hnm hW h hm x2 x1 s2 (fun e => hfg (by rw [hf, e])) (fun θ hθ => ?_) hR hT2 h1 h3 hw2 hb hsh q0 q1
      show ap θ t = ap θ t' ↔ _
      rw [ap1 θ hθ, hf]; rfl
    | c n =>
      have := other (fun x e => by rw [hf] at e; cases e)
      rw [hf] at this
      simp [py] at this ⊢
      exact this
    | a f x =>
      have := other (fun x e => by rw [hf] at e; cases e)
      rw [hf] at this
      simp [py] at this ⊢
      exact this
end
theorem F_sv (k : Nat) : F (k + 1) .f_solve_l = runF 7 (b_f_solve_l (F k)) := rfl
set_option maxHeartbeats 2000000 in
theorem sv_wp {nm : List Str} {W : List (Kd × Kd)} {k : Nat} {S : Sto} (hk : 45 ≤ k) (hn : nm.length = 4) (hnm : ∀ n ∈ nm, nOk n) (hW0 : Smw nm W) (hWl : W.length ≤ 3) :
    wp (F k .f_solve_l [.p (.list (W.map pr))] S) (fun d s => ∃ x, d = .p x ∧ UtRes nm W x ∧ s.take S.length = S) noX := by
  obtain ⟨k, rfl⟩ : ∃ i, k = i + 1 := ⟨k - 1, by omega⟩
  have hWs : ∀ L', Tri L' → SmL nm L' → szw (sg L') W ≤ 78000 := fun L' t' s' => by
    have := szw_small hn t' s' hW0
    omega
  rw [F_sv, wp_run]
  show wpS (b_f_solve_l (F k) [some (.p (.list (W.map pr))), none, none, none, none, none, none] S) _
  unfold b_f_solve_l
  have h0 : Kp nm W [] [] W 400000 := ⟨trivial, (fun p hp => nomatch hp), fun y u => by simp [look], by simp [nd], hW0, fun θ => by simp [Sol], fun θ _ => Nat.le_refl _, by
    have := hWs [] trivial (fun p hp => nomatch hp)
    simp
    omega⟩
  simp [finM]
  refine whileD_wp (SvInv nm W (some (.p (.list (W.map pr)))) S) ?_ (m := 400000) (by omega) ⟨[], [], W, W, .ob S.length, S.length + 1, _, _, _, _, rfl, by simp, by omega, by simp, by simp, .inr ⟨S.length, rfl, by omega, Nat.le_refl _, by simp [dby]⟩, ⟨by simp [nd], fun n k => by simp [look, keys]⟩, fun p hp => ?_, Sh.refl _ _, h0, by omega⟩
  · rintro m ρ S' ⟨L, l, w, v, d, jw, x3, x4, x5, x6, rfl, hT, h1, h2, hw, hat, hR, hb, hsh, hK, hm⟩
    simp [ne_nil hw (bgw_sh hb)]
    cases hsh with
    | nil =>
      simp
      unfold f_solve_l_5
      obtain ⟨S1, ei, hw1, hT1, hl1⟩ := hat.ice hw
      simp [ei]
      exact ⟨.inr ⟨L, l, rfl, hK.tri, hK.sm, fun θ => by rw [hK.uni θ]; simp [U], hR.1, hR.2⟩, hT1.trans hT⟩
    | cons a1 a2 a3 =>
      rename_i p t w v
      simp
      have hpos : 1 ≤ m := by
        have := hK.ms
        have hp := nds_pos (ap (sg L) t.1)
        simp only [szw] at this
        omega
      refine ⟨m - 1, by omega, sv_turn (by omega) hn hnm hWs hK hm hR hT h1 h2 hw hat hb (.cons a1 a2 a3) (fun hno S' hS' => ?_) (fun ρ' S' hI => hI) (fun ρ' S' hI => hI)⟩
      exact ⟨_, rfl, .inl ⟨rfl, hno⟩, hS'⟩
  · obtain ⟨q1, q2⟩ := hW0 p hp
    exact ⟨⟨q1.1, by have := q1.2.1; omega⟩, q2.1, by have := q2.2.1; omega⟩
theorem sv_ok {nm : List Str} {W : List (Kd × Kd)} {k : Nat} {S : Sto} (hk : 45 ≤ k) (hn : nm.length = 4) (hnm : ∀ n ∈ nm, nOk n) (hW0 : Smw nm W) (hWl : W.length ≤ 3) :
    ∃ x, UtRes nm W x ∧ cutX S.length (F k .f_solve_l [.p (.list (W.map pr))] S) = .ok (.p x) S := by
  obtain ⟨d, s, e, x, rfl, hr, hs⟩ := wp_ex (sv_wp (S := S) hk hn hnm hW0 hWl)
  rw [e]
  exact ⟨x, hr, by simp [hs]⟩
end K07

namespace K07
open PySem L2 DL
open Kd

theorem putD_none {kvs : List (Key × PyData)} {k : Key} {d : PyData} (h : valD kvs k = none) : putD kvs k d = kvs ++ [(k, d)] := by
  unfold putD
  rw [if_neg]
  rw [List.any_eq_true]
  rintro ⟨p, hp, e⟩
  unfold valD at h
  rw [Option.map_eq_none_iff, List.find?_eq_none] at h
  exact h p hp e
theorem valD_snoc {kvs : List (Key × PyData)} {k k' : Key} {d e : PyData} (h : valD (kvs ++ [(k, d)]) k' = some e) : valD kvs k' = some e ∨ (k' = k ∧ e = d) := by
  unfold valD at h ⊢
  rw [List.find?_append] at h
  cases hf : List.find? (fun kv => decide (kv.1 = k')) kvs with
  | some p => rw [hf] at h; exact .inl h
  | none =>
    rw [hf] at h
    simp at h
    exact .inr ⟨h.1.symm, h.2.symm⟩
/-- what a table of names holds -/
def Nm (σ : Str → Kd) (kvs : List (Key × PyData)) : Prop := ∀ n d, valD kvs (.inr n) = some d → ∃ m, d = .str m ∧ σ n = .v m
def Mate (σ1 σ2 : Str → Kd) (p : Kd × Kd) : Prop := p.2 = ap σ2 p.1 ∧ p.1 = ap σ1 p.2
def sz1 : List (Kd × Kd) → Nat
  | [] => 0
  | p :: r => nds p.1 + sz1 r
theorem sz1_len : ∀ w : List (Kd × Kd), w.length ≤ sz1 w
  | [] => Nat.le_refl _
  | p :: r => by have := nds_pos p.1; have := sz1_len r; simp [sz1]; omega
theorem bgw_shr {w : List (Kd × Kd)} (h : Bgw w) : SeqAt.shaped (.list ((w.map pr).reverse)) = true := by
  have := bgw_sh (w := w.reverse) fun p hp => h p (by simpa using hp)
  rwa [List.map_reverse] at this
theorem Nm.put {σ : Str → Kd} {kvs : List (Key × PyData)} {n m : Str} (h : Nm σ kvs) (e : σ n = .v m) : Nm σ (kvs ++ [(.inr n, .str m)]) := fun n' d hd => by
  rcases valD_snoc hd with hd | ⟨e1, e2⟩
  · exact h n' d hd
  · cases e1
    exact ⟨m, e2, e⟩
theorem setd_nm {S : Sto} {j : Nat} {σ : Str → Kd} {kvs : List (Key × PyData)} {n m : Str} (hS : S[j]? = some (.dic kvs)) (hl : kvs.length < 1000000) (h : Nm σ kvs) (e : σ n = .v m) :
    ∃ kvs', setdM (.ob j) (.p (.str n)) (.p (.str m)) S = .ok (.p (.str m)) (S.set j (.dic kvs')) ∧ Nm σ kvs' ∧ kvs'.length ≤ kvs.length + 1 := by
  cases hv : valD kvs (.inr n) with
  | some d =>
    obtain ⟨m', rfl, e'⟩ := h n d hv
    rw [e] at e'
    cases e'
    exact ⟨kvs, by rw [setd_some hS hl hv, set_id' hS], h, by omega⟩
  | none =>
    refine ⟨_, setd_none hS hl hv, ?_, ?_⟩
    · rw [putD_none hv]; exact h.put e
    · rw [putD_none hv]; simp
def RnInv (σ1 σ2 : Str → Kd) (A B : Option D) (S0 : Sto) (x4 x5 : Option D) (jw B0 : Nat) (m : Nat) (ρ : Ev) (S : Sto) : Prop :=
  ∃ (k1 k2 : List (Key × PyData)) (w : List (Kd × Kd)) (x7 x8 : Option D), ρ = [A, B, some (.ob S0.length), some (.ob (S0.length + 1)), x4, x5, some (.ob jw), x7, x8] ∧ S.take S0.length = S0 ∧ S[S0.length]? = some (.dic k1) ∧ S[S0.length + 1]? = some (.dic k2) ∧ S0.length + 2 ≤ jw ∧ S[jw]? = some (.lst ((w.map pr).reverse)) ∧ Nm σ2 k1 ∧ Nm σ1 k2 ∧ Bgw w ∧ (∀ p ∈ w, Mate σ1 σ2 p) ∧ sz1 w ≤ m ∧ m ≤ 900000 ∧ k1.length + m ≤ B0 ∧ k2.length + m ≤ B0
set_option maxHeartbeats 2000000 in
theorem rn_turn {k : Nat} {σ1 σ2 : Str → Kd} {A B x4 x5 x7 x8 : Option D} {S0 S : Sto} {jw B0 m : Nat} {k1 k2 : List (Key × PyData)} {p : Kd × Kd} {r : List (Kd × Kd)} {R : Fl → Sto → Prop} (hB : B0 ≤ 900000) (hT : S.take S0.length = S0) (h1 : S[S0.length]? = some (.dic k1)) (h2 : S[S0.length + 1]? = some (.dic k2)) (hj : S0.length + 2 ≤ jw) (hw : S[jw]? = some (.lst (((p :: r).map pr).reverse))) (n1 : Nm σ2 k1) (n2 : Nm σ1 k2) (hb : Bgw (p :: r)) (hm : ∀ q ∈ p :: r, Mate σ1 σ2 q) (hs : sz1 (p :: r) ≤ m) (hm9 : m ≤ 900000) (hb1 : k1.length + m ≤ B0) (hb2 : k2.length + m ≤ B0)
    (q1 : ∀ ρ' S', RnInv σ1 σ2 A B S0 x4 x5 jw B0 (m - 1) ρ' S' → R (.next ρ') S') :
    wpS (f_renamed_l_3 (F k) [A, B, some (.ob S0.length), some (.ob (S0.length + 1)), x4, x5, some (.ob jw), x7, x8] S) R := by
  obtain ⟨a, b⟩ := p
  have e1 : S[jw]? = some (.lst ((r.map pr).reverse ++ [pr (a, b)])) := by rw [hw]; simp
  have hpop := pop_ok e1
  have hrl := rlOf_ob e1
  obtain ⟨m1, m2⟩ := hm (a, b) (by simp)
  have m1 : b = ap σ2 a := m1
  have m2 : a = ap σ1 b := m2
  obtain ⟨ba, bb⟩ := hb (a, b) (by simp)
  have hbr : Bgw r := fun z hz => hb z (by simp [hz])
  have hmr : ∀ q ∈ r, Mate σ1 σ2 q := fun z hz => hm z (by simp [hz])
  have hsz : sz1 ((a, b) :: r) = nds a + sz1 r := rfl
  have hp := nds_pos a
  have hjl : jw < S.length := (List.getElem?_eq_some_iff.mp hw).1
  have t1 : (S.set jw (.lst ((r.map pr).reverse))).take S0.length = S0 := by rw [take_set_ge (by omega)]; exact hT
  have t2 : (S.set jw (.lst ((r.map pr).reverse)))[S0.length]? = some (.dic k1) := by rw [List.getElem?_set_ne (by omega)]; exact h1
  have t3 : (S.set jw (.lst ((r.map pr).reverse)))[S0.length + 1]? = some (.dic k2) := by rw [List.getElem?_set_ne (by omega)]; exact h2
  have t4 : (S.set jw (.lst ((r.map pr).reverse)))[jw]? = some (.lst ((r.map pr).reverse)) := List.getElem?_set_self hjl
  have t5 : (S.set jw (.lst ((r.map pr).reverse))).length = S.length := by simp
  generalize S.set jw (.lst ((r.map pr).reverse)) = S1 at hpop t1 t2 t3 t4 t5
  unfold f_renamed_l_3
  simp [hrl, hpop]
  simp [pr, gTupD]
  cases a with
  | c n =>
    have hb' : b = .c n := m1
    subst hb'
    have heq := eq_py (neg := true) (p := .c n) (q := .c n) (S := S1) ba.ok ba.ok
    simp [eqK, py] at heq
    simp [py]
    rw [heq]
    simp
    unfold f_renamed_l_2 f_renamed_l_1
    simp
    exact q1 _ _ ⟨k1, k2, r, _, _, rfl, t1, t2, t3, hj, t4, n1, n2, hbr, hmr, by omega, by omega, by omega, by omega⟩
  | v x =>
    have m1 : b = σ2 x := m1
    cases b with
    | c n => simp [ap] at m2
    | a f y => simp [ap] at m2
    | v y =>
      have m2 : σ1 y = .v x := m2.symm
      simp [py]
      unfold f_renamed_l_2 f_renamed_l_1
      obtain ⟨k1', s1, s2, s3⟩ := setd_nm (n := x) (m := y) t2 (by omega) n1 m1.symm
      have u2 : (S1.set S0.length (.dic k1'))[S0.length + 1]? = some (.dic k2) := by rw [List.getElem?_set_ne (by omega)]; exact t3
      obtain ⟨k2', z1, z2, z3⟩ := setd_nm (n := y) (m := x) u2 (by omega) n2 m2
      simp [eDm, dicOf_ob t2, s1, dicOf_ob u2, z1]
      have l0 : S0.length < S1.length := (List.getElem?_eq_some_iff.mp t2).1
      have l1 : S0.length + 1 < S1.length := (List.getElem?_eq_some_iff.mp t3).1
      refine q1 _ _ ⟨k1', k2', r, _, _, rfl, ?_, ?_, ?_, hj, ?_, s2, z2, hbr, hmr, by omega, by omega, by omega, by omega⟩
      · rw [take_set_ge (by omega), take_set_ge (by omega)]; exact t1
      · rw [List.getElem?_set_ne (by omega), List.getElem?_set_self l0]
      · rw [List.getElem?_set_self (by simpa using l1)]
      · rw [List.getElem?_set_ne (by omega), List.getElem?_set_ne (by omega)]; exact t4
  | a f x =>
    have m1 : b = .a (ap σ2 f) (ap σ2 x) := m1
    subst m1
    simp only [ap, Kd.a.injEq] at m2
    simp [py]
    unfold f_renamed_l_2
    have hrlen := sz1_len r
    simp only [nds] at hsz
    have hx := extend_ok (ys := [.tuple [f.py, (ap σ2 f).py], .tuple [x.py, (ap σ2 x).py]]) t4 (by simp; omega)
    simp [rlOf_ob t4, hx]
    unfold f_renamed_l_1
    simp
    obtain ⟨d1, d2⟩ := ba
    obtain ⟨d3, d4⟩ := bb
    have d2 : Kd.dep (.a f x) ≤ 30 := d2
    have d4 : Kd.dep (.a (ap σ2 f) (ap σ2 x)) ≤ 30 := d4
    simp only [dep] at d2 d4
    refine q1 _ _ ⟨k1, k2, (x, ap σ2 x) :: (f, ap σ2 f) :: r, _, _, rfl, ?_, ?_, ?_, hj, ?_, n1, n2, fun z hz => ?_, fun z hz => ?_, by simp only [sz1]; omega, by omega, by omega, by omega⟩
    · rw [take_set_ge (by omega)]; exact t1
    · rw [List.getElem?_set_ne (by omega)]; exact t2
    · rw [List.getElem?_set_ne (by omega)]; exact t3
    · rw [List.getElem?_set_self (by omega)]; simp [pr]
    · simp at hz
      rcases hz with rfl | rfl | hz
      · exact ⟨⟨d1.2, by show x.dep ≤ 30; omega⟩, d3.2, by show (ap σ2 x).dep ≤ 30; omega⟩
      · exact ⟨⟨d1.1, by show f.dep ≤ 30; omega⟩, d3.1, by show (ap σ2 f).dep ≤ 30; omega⟩
      · exact hbr z hz
    · simp at hz
      rcases hz with rfl | rfl | hz
      · exact ⟨rfl, m2.2⟩
      · exact ⟨rfl, m2.1⟩
      · exact hmr z hz
def sqp (w : List (Kd × Kd)) : List D := w.map fun p => D.p (.tuple [p.1.py, p.2.py])
theorem zipP_py : ∀ w : List (Kd × Kd), zipP (w.map fun p => p.1.py) (w.map fun p => p.2.py) = sqp w
  | [] => rfl
  | p :: r => by simp only [List.map_cons, zipP, zipP_py r]; rfl
theorem F_rn (k : Nat) : F (k + 1) .f_renamed_l = runF 9 (b_f_renamed_l (F k)) := rfl
set_option maxHeartbeats 2000000 in
theorem rn_wp {k : Nat} {σ1 σ2 : Str → Kd} {ps : List (Kd × Kd)} {S : Sto} (hk : 1 ≤ k) (hb : Bgw ps) (hm : ∀ p ∈ ps, Mate σ1 σ2 p) (hn : ∀ p ∈ ps, nds p.1 ≤ 13000) (hl : ps.length ≤ 8) :
    wp (F k .f_renamed_l [.p (.list (ps.map fun p => p.1.py)), .p (.list (ps.map fun p => p.2.py))] S) (fun d s => d = .p (.bool true) ∧ s.take S.length = S) noX := by
  obtain ⟨k, rfl⟩ : ∃ i, k = i + 1 := ⟨k - 1, by omega⟩
  rw [F_rn, wp_run]
  show wpS (b_f_renamed_l (F k) [some (.p (.list (ps.map fun p => p.1.py))), some (.p (.list (ps.map fun p => p.2.py))), none, none, none, none, none, none, none] S) _
  unfold b_f_renamed_l
  simp [zipP_py]
  refine forD_wp (fun i ρ S' => ∃ k1 k2 x4 x5 x6 x7 x8, ρ = [some (.p (.list (ps.map fun p => p.1.py))), some (.p (.list (ps.map fun p => p.2.py))), some (.ob S.length), some (.ob (S.length + 1)), x4, x5, x6, x7, x8] ∧ S'.take S.length = S ∧ S'[S.length]? = some (.dic k1) ∧ S'[S.length + 1]? = some (.dic k2) ∧ Nm σ2 k1 ∧ Nm σ1 k2 ∧ k1.length ≤ 13000 * i ∧ k2.length ≤ 13000 * i) (j := 0) ⟨[], [], _, _, _, _, _, rfl, by simp, by simp, by simp, (fun n d h => by simp [valD] at h), (fun n d h => by simp [valD] at h), by simp, by simp⟩ ?_ ?_
  · rintro i d ρ S' he ⟨k1, k2, x4, x5, x6, x7, x8, rfl, hT, h1, h2, n1, n2, l1, l2⟩
    rw [Nat.zero_add] at l1 l2 ⊢
    have hi : i < ps.length := by
      have := (List.getElem?_eq_some_iff.mp he).1
      simpa [sqp] using this
    obtain ⟨p, hp, rfl⟩ := List.mem_map.mp (List.mem_of_getElem? he)
    have hn2 : S.length + 1 < S'.length := (List.getElem?_eq_some_iff.mp h2).1
    simp [gTupD]
    unfold f_renamed_l_4
    simp [mkLstM, LIM]
    refine whileD_wp (RnInv σ1 σ2 (some (.p (.list (ps.map fun p => p.1.py)))) (some (.p (.list (ps.map fun p => p.2.py)))) S (some (.p p.1.py)) (some (.p p.2.py)) S'.length (13000 * (i + 1))) ?_ (m := 13000) (by omega) ⟨k1, k2, [p], _, _, rfl, ?_, ?_, ?_, by omega, by simp [pr], n1, n2, ?_, ?_, by simp [sz1]; exact hn p hp, by omega, by omega, by omega⟩
    · rintro m ρ S2 ⟨k1, k2, w, x7, x8, rfl, hT, h1, h2, hj, hw, n1, n2, hbw, hmw, hs, hm9, hb1, hb2⟩
      simp [ne_nil hw (bgw_shr hbw)]
      cases w with
      | nil =>
        simp
        exact ⟨hT, k1, h1, k2, h2, n1, n2, by omega, by omega⟩
      | cons q r =>
        simp
        have hq := nds_pos q.1
        have hs' : nds q.1 + sz1 r ≤ m := hs
        refine ⟨m - 1, by omega, rn_turn (by omega) hT h1 h2 hj hw n1 n2 hbw hmw hs hm9 hb1 hb2 fun ρ' S3 hI => hI⟩
    · rw [List.take_append_of_le_length (by omega)]; exact hT
    · rw [List.getElem?_append_left (by omega)]; exact h1
    · rw [List.getElem?_append_left (by omega)]; exact h2
    · intro q hq; simp at hq; rw [hq]; exact hb p hp
    · intro q hq; simp at hq; rw [hq]; exact hm p hp
  · rintro ρ S' ⟨k1, k2, x4, x5, x6, x7, x8, rfl, hT, h1, h2, n1, n2, l1, l2⟩
    unfold f_renamed_l_5
    simp [hT]
theorem rn_ok {k : Nat} {σ1 σ2 : Str → Kd} {ps : List (Kd × Kd)} {S : Sto} (hk : 1 ≤ k) (hb : Bgw ps) (hm : ∀ p ∈ ps, Mate σ1 σ2 p) (hn : ∀ p ∈ ps, nds p.1 ≤ 13000) (hl : ps.length ≤ 8) :
    cutX S.length (F k .f_renamed_l [.p (.list (ps.map fun p => p.1.py)), .p (.list (ps.map fun p => p.2.py))] S) = .ok (.p (.bool true)) S := cut_of (rn_wp hk hb hm hn hl)
end K07

namespace K07
open PySem L2 DL
open Kd

theorem cst_mono {d e : Nat} (h : d ≤ e) : cst d ≤ cst e := by
  unfold cst
  have : (2 : Nat) ^ d ≤ 2 ^ e := Nat.pow_le_pow_right (by decide) h
  have : ((2 : Nat) ^ d : Int) ≤ (2 : Nat) ^ e := by exact_mod_cast this
  simp at this
  omega
theorem cst2 : cst 2 = 24 := by decide
theorem cst1 : cst 1 = 10 := by decide
theorem Gk.sm {nm : List Str} {d : Nat} {k : Kd} (h : Gk nm d k) (hd : d ≤ 2) : Sm nm k := by
  have h := h.mono hd
  have h1 := h.dep
  have h2 := h.nds
  have h3 := h.vnl
  exact ⟨h.wk, by omega, by simp at h2; omega, by simpa using h3, h.vars⟩
def okBy1 (nm : List Str) (kvs : List (Key × PyData)) : Prop := ∀ p ∈ kvs, ∃ (n : Str) (k : Kd), p = (.inr n, k.py) ∧ Gk nm 1 k
theorem put1 {nm : List Str} {kvs : List (Key × PyData)} (hb : okBy1 nm kvs) : ∀ k : Kd, k.wk → (∀ n ∈ k.vn, n ∈ nm) → ∃ k' : Kd, putP kvs k = k'.py ∧ k'.dep ≤ k.dep + 2 ∧ k'.wk ∧ nds k' ≤ nds k + 4 * k.vn.length ∧ k'.vn.length ≤ 2 * k.vn.length ∧ ∀ n ∈ k'.vn, n ∈ nm
  | .v n, hw, hv => by
    unfold putP
    cases e : valD kvs (.inr n) with
    | none => exact ⟨.v n, rfl, by omega, hw, by simp [nds], by simp [vn], hv⟩
    | some d =>
      obtain ⟨n', k, e2, hk⟩ := hb _ (valD_mem e)
      cases e2
      have h1 := hk.dep
      have h2 := hk.nds
      have h3 := hk.vnl
      exact ⟨k, rfl, by simp [dep]; omega, hk.wk, by simp [nds, vn] at h2 ⊢; omega, by simp [vn] at h3 ⊢; exact h3, hk.vars⟩
  | .c n, hw, hv => ⟨.c n, rfl, by omega, hw, by simp [nds], by simp [vn], hv⟩
  | .a f x, hw, hv => by
    obtain ⟨f', e1, h1, w1, n1, v1, m1⟩ := put1 hb f hw.1 fun n hn => hv n (by simp [vn, hn])
    obtain ⟨x', e2, h2, w2, n2, v2, m2⟩ := put1 hb x hw.2 fun n hn => hv n (by simp [vn, hn])
    refine ⟨.a f' x', by simp [putP, py, e1, e2], ?_, ⟨w1, w2⟩, ?_, ?_, fun n hn => ?_⟩
    · simp only [dep]; omega
    · simp only [nds, vn, List.length_append]; omega
    · simp only [vn, List.length_append]; omega
    · simp only [vn, List.mem_append] at hn
      rcases hn with hn | hn
      · exact m1 n hn
      · exact m2 n hn
theorem put1_sm {nm : List Str} {kvs : List (Key × PyData)} (hb : okBy1 nm kvs) {k : Kd} (h : Gk nm 1 k) : ∃ k' : Kd, putP kvs k = k'.py ∧ Sm nm k' := by
  obtain ⟨k', e, h1, h2, h3, h4, h5⟩ := put1 hb k h.wk h.vars
  have a1 := h.dep
  have a2 := h.nds
  have a3 := h.vnl
  simp at a2 a3
  exact ⟨k', e, h2, by omega, by omega, by omega, h5⟩
theorem unPairs_ok {nm : List Str} : ∀ {ps : List PyData}, (∀ y ∈ ps, ∃ (x : Str) (kd : Kd), y = .tuple [.str x, kd.py] ∧ Gk nm 1 kd) → ∃ kvs, unPairs ps = some kvs ∧ okBy1 nm kvs
  | [], h => ⟨[], rfl, (fun p hp => nomatch hp)⟩
  | y :: r, h => by
    obtain ⟨x, kd, rfl, hk⟩ := h y (by simp)
    obtain ⟨kvs, e, h2⟩ := unPairs_ok (ps := r) fun y hy => h y (by simp [hy])
    refine ⟨(.inr x, kd.py) :: kvs, ?_, ?_⟩
    · unfold unPairs
      simp [pyKey, e]
    · intro p hp
      simp at hp
      rcases hp with rfl | hp
      · exact ⟨x, kd, rfl, hk⟩
      · exact h2 p hp
theorem putD_mem {kvs : List (Key × PyData)} {k : Key} {d : PyData} {p : Key × PyData} (h : p ∈ putD kvs k d) : p ∈ kvs ∨ p = (k, d) := by
  unfold putD at h
  split at h
  · obtain ⟨q, hq, e⟩ := List.mem_map.mp h
    split at e
    · rename_i e1
      rw [← e, e1]
      exact .inr rfl
    · rw [← e]; exact .inl hq
  · rcases List.mem_append.mp h with h | h
    · exact .inl h
    · simp at h; exact .inr h
theorem merge_okF {P : Key × PyData → Prop} : ∀ {kvs acc : List (Key × PyData)}, (∀ p ∈ kvs, P p) → (∀ p ∈ acc, P p) → (∀ p ∈ kvs.foldl (fun acc kv => putD acc kv.1 kv.2) acc, P p)
  | [], acc, h1, h2 => h2
  | x :: r, acc, h1, h2 => merge_okF (P := P) (kvs := r) (acc := putD acc x.1 x.2) (fun p hp => h1 p (by simp [hp])) fun p hp => by
      rcases putD_mem hp with hp | hp
      · exact h2 p hp
      · rw [hp]; exact h1 x (by simp)
theorem merge_ok {P : Key × PyData → Prop} {kvs : List (Key × PyData)} (h : ∀ p ∈ kvs, P p) : (∀ p ∈ mergeD kvs, P p) := merge_okF (P := P) (kvs := kvs) (acc := []) h (fun p hp => nomatch hp)
set_option maxHeartbeats 2000000 in
/-- a dict drawn for some of the names -/
theorem dd_wp {cs : List PyData} (hc : Cells cs) {nm : List Str} {co : List PyData} (hns : ∀ n ∈ nm, nOk n) (hnl : nm.length = 4) (hco : ∀ c ∈ co, okCons c) (hco1 : co ≠ []) (hcl : co.length ≤ 100) {x3 x4 x5 x6 x7 x8 x9 : Option D} {L : Nat} {n : Int} {S : Sto} {k : Nat} {Q : List PyData → Sto → Prop} {X : Exn → Sto → Prop} (hk : 8 ≤ k) (hn : n ≤ 1000000) (h : Tape cs 0 L n S)
    (q : ∀ es S', (∀ y ∈ es, ∃ (x : Str) (kd : Kd), y = .tuple [.str x, kd.py] ∧ Gk nm 1 kd) → Tape cs 0 L (n + 44) S' → Oth 0 S S' → Q es S') :
    wp (lcD (gN 10) (tC2 (opEqZ false) (eCallX 2 (F k .f_draw_l) (aCons (eVar 0) (aCons (eC (.p (.int 3))) aNil))) (eC (.p (.int 0)))) (eA mkTup (aCons (eVar 10) (aCons (eCallX 4 (F k .f_letter_kind_l) (aCons (eVar 0) (aCons (eVar 1) (aCons (eVar 2) (aCons (eC (.p (.int 1))) aNil))))) aNil)))
      [some (.ob 0), some (.p (.list (nm.map .str))), some (.p (.list co)), x3, x4, x5, x6, x7, x8, x9, none] (nm.map fun x => D.p (.str x)) S) Q X := by
  refine lcD_wp (fun j ys S' => (∀ y ∈ ys, ∃ (x : Str) (kd : Kd), y = .tuple [.str x, kd.py] ∧ Gk nm 1 kd) ∧ Tape cs 0 L (n + 11 * j) S' ∧ Oth 0 S S') (j := 0) (ys := []) ⟨(fun y hy => nomatch hy), by simpa using h, Oth.refl⟩ ?_ ?_
  · rintro j d ys S' he ⟨h2, t, o⟩
    rw [Nat.zero_add] at t ⊢
    have hj : j < 4 := by
      have := (List.getElem?_eq_some_iff.mp he).1
      simp at this
      omega
    obtain ⟨x, hx, rfl⟩ := List.mem_map.mp (List.mem_of_getElem? he)
    simp
    refine dr_wp hc t (by omega) (by omega) (by decide) (by decide) fun g S1 g0 g1 t1 o1 => ?_
    by_cases hg : g = 0
    · subst hg
      simp
      refine lk_wp hc hns (by omega) hco hco1 hcl 1 t1 (by rw [cst1]; omega) (by omega) (by decide) fun kd S2 hgk t2 o2 => ?_
      simp
      refine ⟨fun y hy => ?_, t2.mono (by rw [cst1]; omega), (o.trans o1).trans o2⟩
      rcases hy with hy | rfl
      · exact h2 y hy
      · exact ⟨x, kd, rfl, hgk⟩
    · simp [hg]
      exact ⟨h2, t1.mono (by omega), o.trans o1⟩
  · rintro zs S' ⟨h2, t, o⟩
    exact q zs S' (by simpa using h2) (t.mono (by simp; omega)) o
theorem wpS_mono' {o : Option (Fl × Sto)} {Q R : Fl → Sto → Prop} (h : wpS o Q) (f : ∀ fl s, Q fl s → R fl s) : wpS o R := by
  cases o with
  | none => exact h
  | some p => exact f p.1 p.2 h
theorem F_pd (k : Nat) : F (k + 1) .f_pairs_drawn_l = runF 11 (b_f_pairs_drawn_l (F k)) := rfl
set_option maxHeartbeats 4000000 in
theorem pd_wp {cs : List PyData} (hc : Cells cs) {nm : List Str} {co : List PyData} (hns : ∀ n ∈ nm, nOk n) (hnl : nm.length = 4) (hco : ∀ c ∈ co, okCons c) (hco1 : co ≠ []) (hcl : co.length ≤ 100) {n : Int} {S : Sto} {k : Nat} {Q : D → Sto → Prop} {X : Exn → Sto → Prop} (hk : 20 ≤ k) (h0 : 0 ≤ n) (hn : n ≤ 900000) (h : Tape cs 0 1 n S)
    (q : ∀ W S', Smw nm W → W.length ≤ 3 → Tape cs 0 1 (n + 700) S' → Q (.p (.list (W.map pr))) S') :
    wp (cutX S.length (F k .f_pairs_drawn_l [.ob 0, .p (.list (nm.map .str)), .p (.list co)] S)) Q X := by
  obtain ⟨k, rfl⟩ : ∃ i, k = i + 1 := ⟨k - 1, by omega⟩
  have hl1 : S.length = 1 := h.1
  refine wp_cutX ?_
  rw [F_pd, wp_run]
  show wpS (b_f_pairs_drawn_l (F k) [some (.ob 0), some (.p (.list (nm.map .str))), some (.p (.list co)), none, none, none, none, none, none, none, none] S) _
  unfold b_f_pairs_drawn_l
  simp [hl1]
  have t0 : Tape cs 0 2 n (S ++ [.lst []]) := h.app (o := .lst []) (by decide)
  have g0 : (S ++ [MO.lst []])[1]? = some (.lst []) := by rw [← hl1]; simp
  have hl2 : (S ++ [MO.lst []]).length = 2 := t0.1
  have e2 : (2 : Nat) = (S ++ [MO.lst []]).length := hl2.symm
  generalize S ++ [MO.lst []] = S1 at t0 g0 hl2 e2 ⊢
  rw [e2]
  refine dr_wp (m := 4) hc t0 (by omega) (by omega) (by decide) (by decide) fun g S2 g20 g21 t1 o1 => ?_
  have g1 : S2[1]? = some (.lst (([] : List (Kd × Kd)).map pr)) := (o1 1 (by decide)).trans g0
  simp [range_ok (j := g) (by omega) (by omega)]
  refine forD_wp (fun j ρ S' => ∃ (W : List (Kd × Kd)) (x4 x5 x6 x7 x8 x9 x10 : Option D), ρ = [some (.ob 0), some (.p (.list (nm.map .str))), some (.p (.list co)), some (.ob 1), x4, x5, x6, x7, x8, x9, x10] ∧ Tape cs 0 2 (n + 1 + 200 * j) S' ∧ S'[1]? = some (.lst (W.map pr)) ∧ Smw nm W ∧ W.length = j) (j := 0) ⟨[], _, _, _, _, _, _, _, rfl, by simpa using t1, g1, (fun p hp => nomatch hp), rfl⟩ ?_ ?_
  · rintro j d ρ S' he ⟨W, x4, x5, x6, x7, x8, x9, x10, rfl, t, hW1, hWs, hWl⟩
    rw [Nat.zero_add] at t hWl ⊢
    have hj : j < 3 := by
      have := (List.getElem?_eq_some_iff.mp he).1
      simp at this
      omega
    simp
    unfold f_pairs_drawn_l_2
    simp
    refine dr_wp hc t (by omega) (by omega) (by decide) (by decide) fun a1 S3 a10 a11 t3 o3 => ?_
    obtain ⟨d1, rfl⟩ : ∃ d : Nat, a1 = d := ⟨a1.toNat, by omega⟩
    have c1 := cst_mono (show d1 + 1 ≤ 2 by omega)
    rw [cst2] at c1
    simp only [opAddX_i, wp_ok]
    rw [show (1 : Int) + d1 = ((d1 + 1 : Nat) : Int) by omega]
    refine lk_wp hc hns (by omega) hco hco1 hcl (d1 + 1) t3 (by omega) (by omega) (by omega) fun ka S4 ga t4 o4 => ?_
    try simp
    refine dr_wp hc t4 (by omega) (by omega) (by decide) (by decide) fun a2 S5 a20 a21 t5 o5 => ?_
    obtain ⟨d2, rfl⟩ : ∃ d : Nat, a2 = d := ⟨a2.toNat, by omega⟩
    have c2 := cst_mono (show d2 + 1 ≤ 2 by omega)
    rw [cst2] at c2
    simp only [opAddX_i, wp_ok]
    rw [show (1 : Int) + d2 = ((d2 + 1 : Nat) : Int) by omega]
    refine lk_wp hc hns (by omega) hco hco1 hcl (d2 + 1) t5 (by omega) (by omega) (by omega) fun kb S6 gb t6 o6 => ?_
    try simp
    refine dr_wp hc t6 (by omega) (by omega) (by decide) (by decide) fun a3 S7 a30 a31 t7 o7 => ?_
    have o37 := (((o3.trans o4).trans o5).trans o6).trans o7
    have last : ∀ (ra rb : Kd) (n' : Int) (S' S8 : Sto) (y7 y8 y9 y10 : Option D), Sm nm ra → Sm nm rb → n' ≤ n + 1 + 200 * (j + 1) → Tape cs 0 2 n' S8 → S8[1]? = some (.lst (W.map pr)) →
        wpS (f_pairs_drawn_l_1 (F k) [some (.ob 0), some (.p (.list (nm.map .str))), some (.p (.list co)), some (.ob 1), some d, some (.p ra.py), some (.p rb.py), y7, y8, y9, y10] S8) fun fl s => match fl with
      | .next ρ2 => ∃ (W : List (Kd × Kd)) (x4 x5 x6 x7 x8 x9 x10 : Option D), ρ2 = [some (.ob 0), some (.p (.list (nm.map .str))), some (.p (.list co)), some (.ob 1), x4, x5, x6, x7, x8, x9, x10] ∧ Tape cs 0 2 (n + 1 + 200 * (j + 1 : Nat)) s ∧ s[1]? = some (.lst (W.map pr)) ∧ Smw nm W ∧ W.length = j + 1
      | _ => False := fun ra rb n' S' S8 y7 y8 y9 y10 hra hrb hn' t8 h8 => by
      unfold f_pairs_drawn_l_1
      have ha := append_ok (y := pr (ra, rb)) h8 (by simp; omega)
      simp [pr] at ha
      simp [rlOf_ob h8]
      rw [ha]
      simp only [wp_ok]
      refine ⟨(t8.set (by decide)).mono (by omega), W ++ [(ra, rb)], ?_, fun p hp => ?_, by simp [hWl]⟩
      · have : 1 < S8.length := by rw [t8.1]; decide
        rw [List.getElem?_set_self this]; simp [pr]
      · rcases List.mem_append.mp hp with hp | hp
        · exact hWs p hp
        · simp at hp; rw [hp]; exact ⟨hra, hrb⟩
    have h7 : S7[1]? = some (.lst (W.map pr)) := (o37 1 (by decide)).trans hW1
    by_cases hg3 : 0 < a3
    · simp [hg3]
      refine lk_wp hc hns (by omega) hco hco1 hcl 1 t7 (by rw [cst1]; omega) (by omega) (by decide) fun kp S8 gp t8 o8 => ?_
      have hL : nm.length ≤ LIM := by simp [LIM]; omega
      have hmD : List.map (D.p ∘ PyData.str) nm = nm.map fun x => D.p (.str x) := rfl
      simp [hL, hmD]
      refine dd_wp hc hns hnl hco hco1 hcl (by omega) (by rw [cst1]; omega) t8 fun e1 S9 he1 t9 o9 => ?_
      obtain ⟨kv1, u1, b1⟩ := unPairs_ok he1
      have ed1 : dictPM finDL [.p (.list e1)] S9 = .ok (.p (.dict (pyKv (mergeD kv1)))) S9 := by simp [dictPM, lstOf, u1, finDL]
      simp [ed1, hL, hmD]
      refine dd_wp hc hns hnl hco hco1 hcl (by omega) (by rw [cst1]; omega) t9 fun e2 S10 he2 t10 o10 => ?_
      obtain ⟨kv2, u2, b2⟩ := unPairs_ok he2
      have ed2 : dictPM finDL [.p (.list e2)] S10 = .ok (.p (.dict (pyKv (mergeD kv2)))) S10 := by simp [dictPM, lstOf, u2, finDL]
      obtain ⟨k1, p1, m1⟩ := put1_sm (merge_ok b1) gp
      obtain ⟨k2, p2, m2⟩ := put1_sm (merge_ok b2) gp
      have hpd := gp.dep
      have q1 := putl_ok (kvs := mergeD kv1) (S := S10) (k := k) kp (by omega)
      have q2 := putl_ok (kvs := mergeD kv2) (S := S10) (k := k) kp (by omega)
      rw [p1] at q1
      rw [p2] at q2
      simp [ed2, q1, q2]
      have hlast := last k1 k2 _ S10 S10 (some (.p kp.py)) (some (.p (.dict (pyKv (mergeD kv1))))) (some (.p (.dict (pyKv (mergeD kv2))))) x10 m1 m2 (by rw [cst1]; omega) t10 ((((o8.trans o9).trans o10) 1 (by decide)).trans h7)
      refine wpS_mono' hlast fun fl s hz => ?_
      cases fl with
      | next ρ3 =>
        obtain ⟨W, y4, y5, y6, y7, y8, y9, y10, e, t', a1, a2, a3⟩ := hz
        exact ⟨⟨_, _, _, _, _, _, _, e⟩, by simpa using t', W, a1, a2, a3⟩
      | ret d => exact hz.elim
      | brk ρ3 => exact hz.elim
      | cont ρ3 => exact hz.elim
      | exc x ρ3 => exact hz.elim
    · simp [hg3]
      have hlast := last ka kb _ S7 S7 x7 x8 x9 x10 (ga.sm (by omega)) (gb.sm (by omega)) (by omega) t7 h7
      refine wpS_mono' hlast fun fl s hz => ?_
      cases fl with
      | next ρ3 =>
        obtain ⟨W, y4, y5, y6, y7, y8, y9, y10, e, t', a1, a2, a3⟩ := hz
        exact ⟨⟨_, _, _, _, _, _, _, e⟩, by simpa using t', W, a1, a2, a3⟩
      | ret d => exact hz.elim
      | brk ρ3 => exact hz.elim
      | cont ρ3 => exact hz.elim
      | exc x ρ3 => exact hz.elim
  · rintro ρ S' ⟨W, x4, x5, x6, x7, x8, x9, x10, rfl, t, hW1, hWs, hWl⟩
    unfold f_pairs_drawn_l_3
    simp [iceD, hW1]
    refine q W _ hWs (by simp at hWl; omega) ?_
    have := (t.set (i := 1) (o := .dead) (by decide)).mono (n' := n + 700) (by simp; omega)
    have := this.cut (L := 1) (by decide) (by decide)
    exact this
end K07

namespace K07
open PySem L2 DL
open Kd

def TOP : Nat := 60
theorem to_nOk : nOk "to" := nOk_of (by decide +kernel)
theorem whole_nOk : nOk "whole" := nOk_of (by decide +kernel)
theorem ded_nd : ∀ {l acc : List Str}, acc.Nodup → (ded acc l).Nodup
  | [], acc, h => h
  | n :: r, acc, h => by
    unfold ded
    refine ded_nd ?_
    split
    · exact h
    · rename_i hn
      rw [List.nodup_append]
      refine ⟨h, by simp, fun a ha b hb => ?_⟩
      simp at hb
      subst hb
      rintro rfl
      exact hn ha
theorem wt_str {n : Str} (h : nOk n) : wt (.str n) ≤ 14 := by simpa [wt] using h.2
theorem wt_tag : wt (.str "var") ≤ 7 ∧ wt (.str "con") ≤ 7 ∧ wt (.str "apply") ≤ 7 := by
  refine ⟨?_, ?_, ?_⟩ <;> (simp only [wt]; decide +kernel)
theorem wt_py : ∀ {k : Kd}, k.wk → wt k.py ≤ 30 * nds k
  | .v n, h => by
    have h1 := wt_str h
    have h2 := wt_tag.1
    simp only [py, wt, wtAll, nds] at h1 h2 ⊢
    omega
  | .c n, h => by
    have h1 := wt_str h
    have h2 := wt_tag.2.1
    simp only [py, wt, wtAll, nds] at h1 h2 ⊢
    omega
  | .a f x, h => by
    have h1 := wt_py h.1
    have h2 := wt_py h.2
    have h3 := wt_tag.2.2
    simp only [py, wt, wtAll, nds] at h1 h2 h3 ⊢
    omega
theorem repr_w {nm : List Str} {W : List (Kd × Kd)} {S : Sto} (h : Smw nm W) (hl : W.length ≤ 3) : reprM [.p (.list (W.map pr))] S = .ok (.p (.str (PyData.list (W.map pr)).shown)) S := by
  have hs : PyData.showableAll (W.map pr) = true := by
    clear h hl
    induction W with
    | nil => rfl
    | cons p r ih => simp [PyData.showableAll, PyData.showable, pr, py_show, ih]
  have hd : PyData.depthAll (W.map pr) ≤ 8 := depAll fun d hd => by
    obtain ⟨p, hp, rfl⟩ := List.mem_map.mp hd
    obtain ⟨h1, h2⟩ := h p hp
    have := py_dep p.1
    have := py_dep p.2
    have := h1.2.1
    have := h2.2.1
    simp only [pr, PyData.depth, PyData.depthAll]
    omega
  have hw : wtAll (W.map pr) ≤ 1000 * W.length := by
    clear hs hd hl
    induction W with
    | nil => simp [wtAll]
    | cons p r ih =>
      obtain ⟨h1, h2⟩ := h p (by simp)
      have a1 := wt_py h1.1
      have a2 := wt_py h2.1
      have b1 := h1.2.2.1
      have b2 := h2.2.2.1
      have := ih fun q hq => h q (by simp [hq])
      simp only [List.map_cons, pr, wt, wtAll, List.length_cons] at this ⊢
      omega
  refine repr_ok (by simpa [PyData.showable] using hs) ?_ ?_
  · simp only [PyData.depth]; omega
  · simp only [wt]; omega
theorem in_lstrN {S : Sto} {ns : List Str} {n : Str} : opInX true (.p (.str n)) (.p (.list (ns.map .str))) S = .ok (.p (.bool (!decide (n ∈ ns)))) S := by
  have e1 : (ns.map PyData.str).all flatP = true := by simp [flatP]
  have e2 : inP (.str n) (ns.map .str) = decide (n ∈ ns) := by
    unfold inP
    rw [List.any_map]
    by_cases hn : n ∈ ns
    · rw [decide_eq_true hn, List.any_eq_true]
      exact ⟨n, hn, by simp [eqP]⟩
    · rw [decide_eq_false hn, List.any_eq_false]
      intro m hm
      have : m ≠ n := fun e => hn (e ▸ hm)
      simp [eqP, this]
  have e3 : opIn true (.p (.str n)) (.p (.list (ns.map .str))) S = .ok (.p (.bool (!decide (n ∈ ns)))) S := by
    unfold opIn
    have es : seqOf S (.p (.list (ns.map .str))) = some (ns.map .str) := rfl
    simp only [es]
    rw [if_pos (by rw [e1]; rfl), e2]
    rfl
  simp [opInX, e3]
theorem lcD_no {α : Type} {g : FG} {t : FT} {e : FE} {ρ : Ev} {S : Sto} (p : α → PyData) : ∀ {xs : List α}, (∀ x ∈ xs, ∃ ρ1, g (.p (p x)) ρ S = some (ρ1, S) ∧ t ρ1 S = .ok false S) → lcD g t e ρ (xs.map fun x => D.p (p x)) S = .ok [] S
  | [], _ => rfl
  | x :: r, H => by
    obtain ⟨ρ1, h1, h2⟩ := H x (by simp)
    have ih := lcD_no p (xs := r) (g := g) (t := t) (e := e) (ρ := ρ) (S := S) fun y hy => H y (by simp [hy])
    rw [List.map_cons]
    unfold lcD
    simp [h1, h2, ih]
def ksW : List (Kd × Kd) → List Kd
  | [] => []
  | p :: r => p.1 :: p.2 :: ksW r
theorem lsts_w : ∀ W : List (Kd × Kd), lsts (W.map fun p => .list [p.1.py, p.2.py]) = some (W.map fun p => [p.1.py, p.2.py])
  | [] => rfl
  | p :: r => by rw [List.map_cons]; unfold lsts; rw [lsts_w r]; rfl
theorem flat_w : ∀ W : List (Kd × Kd), (W.map fun p => [p.1.py, p.2.py]).flatten = (ksW W).map py
  | [] => rfl
  | p :: r => by rw [List.map_cons, List.flatten_cons, flat_w r]; rfl
theorem ksW_mem {W : List (Kd × Kd)} {k : Kd} : k ∈ ksW W ↔ ∃ p ∈ W, k = p.1 ∨ k = p.2 := by
  induction W with
  | nil => simp [ksW]
  | cons p r ih =>
    simp only [ksW, List.mem_cons, ih, exists_eq_or_imp]
    constructor
    · rintro (h | h | h)
      · exact .inl (.inl h)
      · exact .inl (.inr h)
      · exact .inr h
    · rintro ((h | h) | h)
      · exact .inl h
      · exact .inr (.inl h)
      · exact .inr (.inr h)
theorem ksW_len : ∀ W : List (Kd × Kd), (ksW W).length = 2 * W.length
  | [] => rfl
  | p :: r => by simp [ksW, ksW_len r]; omega
theorem vnL_mem {ks : List Kd} {n : Str} : n ∈ vnL ks ↔ ∃ k ∈ ks, n ∈ k.vn := by
  induction ks with
  | nil => simp [vnL]
  | cons k r ih => simp [vnL, ih]
theorem ndsL_le : ∀ {ks : List Kd} {m : Nat}, (∀ k ∈ ks, nds k ≤ m) → ndsL ks ≤ m * ks.length
  | [], m, _ => by simp [ndsL]
  | k :: r, m, h => by
    have h1 := h k (by simp)
    have h2 := ndsL_le (ks := r) (m := m) fun k hk => h k (by simp [hk])
    simp only [ndsL, List.length_cons, Nat.mul_succ]
    omega
/-- a bound name stands in the pairs -/
theorem key_in {W : List (Kd × Kd)} {L : Cs} (ht : Tri L) (hu : ∀ θ, U θ W ↔ Sol θ L) {y : Str} (hy : y ∈ keys L) : y ∈ vnL (ksW W) := by
  apply Classical.byContradiction
  intro hno
  obtain ⟨p, hp, rfl⟩ := List.mem_map.mp hy
  have hno : ∀ q ∈ W, p.1 ∉ q.1.vn ∧ p.1 ∉ q.2.vn := fun q hq => by
    constructor
    · exact fun hz => hno (vnL_mem.mpr ⟨q.1, ksW_mem.mpr ⟨q, hq, .inl rfl⟩, hz⟩)
    · exact fun hz => hno (vnL_mem.mpr ⟨q.2, ksW_mem.mpr ⟨q, hq, .inr rfl⟩, hz⟩)
  have h0 := (hu _).mpr (sub_sol ht)
  have hs : Sol (fun n => if n = p.1 then .a (sub L (.v p.1)) (.c "x") else sub L (.v n)) L := (hu _).mp fun q hq => by
    have e : ∀ k : Kd, p.1 ∉ k.vn → ap (fun n => if n = p.1 then .a (sub L (.v p.1)) (.c "x") else sub L (.v n)) k = ap (fun n => sub L (.v n)) k := fun k hk => ap_ext fun n hn => by
      have : n ≠ p.1 := fun e => hk (e ▸ hn)
      rw [if_neg this]
    rw [e _ (hno q hq).1, e _ (hno q hq).2]
    exact h0 q hq
  have h1 := hs p.1 p.2 hp
  have hnx : p.1 ∉ p.2.vn := fun hz => Nat.lt_irrefl _ (rk_lt ht (show (p.1, p.2) ∈ L from hp) hz)
  rw [ap_ext (η := fun n => sub L (.v n)) fun n hn => if_neg (show n ≠ p.1 from fun e => hnx (e ▸ hn)), ← sub_ap, ← sub_key ht (show (p.1, p.2) ∈ L from hp)] at h1
  simp only [if_true] at h1
  have := congrArg nds h1
  simp only [nds] at this
  omega
theorem dic_sub {l : Cs} {n : Str} {u : Kd} {S : Sto} (h : look l n = some u) : opSubs (.p (.dict (pyKv (dby l)))) (.p (.str n)) S = .ok (.p u.py) S := by
  have hv : valD (dby l) (.inr n) = some u.py := by rw [val_dby, h]; rfl
  simp [opSubs, dicOf, hv]
theorem eq_nil {S : Sto} : opEqZ true (.p (.list [])) (.p (.list [])) S = .ok (.p (.bool false)) S := rfl
theorem isN_n {S : Sto} {neg : Bool} : opIsN neg (.p .none) (.p .none) S = .ok (.p (.bool (!neg))) S := rfl
theorem isN_d {S : Sto} {neg : Bool} {kvs : List (PyData × PyData)} : opIsN neg (.p (.dict kvs)) (.p .none) S = .ok (.p (.bool neg)) S := rfl
section
variable {k : Nat} {a : D} {x2 x3 x6 x7 x9 y0 y1 y2 y3 y4 y5 : Option D} {S : Sto} {R : Fl → Sto → Prop} {nm : List Str} {W : List (Kd × Kd)} {L1 R1 L2 R2 : Cs}
set_option maxHeartbeats 4000000 in
theorem rest_wp (hk : 50 ≤ k) (hn : nm.length = 4) (hnm : ∀ n ∈ nm, nOk n) (hW : Smw nm W) (hWl : W.length ≤ 3) (t1 : Tri L1) (s1 : SmL nm L1) (u1 : ∀ θ, U θ W ↔ Sol θ L1) (r1 : IsR R1 L1) (t2 : Tri L2) (s2 : SmL nm L2) (u2 : ∀ θ, U θ W ↔ Sol θ L2) (r2 : IsR R2 L2)
    (q : ∀ z0 z1 z2, R (.next [some a, some (.ob 0), x2, x3, some (.p (.list (W.map pr))), some (.p (.dict (pyKv (dby R1)))), x6, x7, some (.p (.dict (pyKv (dby R2)))), x9, z0, z1, z2, y3, y4, y5]) S) :
    wpS (f_law_3 (F k) [some a, some (.ob 0), x2, x3, some (.p (.list (W.map pr))), some (.p (.dict (pyKv (dby R1)))), x6, x7, some (.p (.dict (pyKv (dby R2)))), x9, y0, y1, y2, y3, y4, y5] S) R := by
  have hks : ∀ k ∈ ksW W, Sm nm k := fun k hk => by
    obtain ⟨p, hp, e⟩ := ksW_mem.mp hk
    rcases e with rfl | rfl
    · exact (hW p hp).1
    · exact (hW p hp).2
  have hkl := ksW_len W
  have hLW : W.length ≤ LIM := by simp [LIM]; omega
  have l1 := r1.llen hn t1 s1
  have smv : ∀ n ∈ nm, Sm nm (.v n) := fun n hn => ⟨hnm n hn, by simp [dep], by simp [nds], by simp [vn], by simp [vn]; exact hn⟩
  have kin : ∀ {L : Cs}, SmL nm L → ∀ y ∈ keys L, y ∈ nm := fun {L} hs y hy => by
    obtain ⟨p, hp, rfl⟩ := List.mem_map.mp hy
    exact (hs p hp).1
  -- all names
  have w1 : lcD (gN 15) tYesD (eA (listXM finL) (aCons (eVar 15) aNil)) [some a, some (.ob 0), x2, x3, some (.p (.list (W.map pr))), some (.p (.dict (pyKv (dby R1)))), x6, x7, some (.p (.dict (pyKv (dby R2)))), x9, y0, y1, y2, y3, y4, none] (W.map fun p => D.p (pr p)) S = .ok (W.map fun p => .list [p.1.py, p.2.py]) S :=
    lcD_on pr (fun p => .list [p.1.py, p.2.py]) fun p hp => ⟨_, rfl, by simp [pr, finL, LIM]⟩
  have w2 : sumLM [.p (.list (W.map fun p => .list [p.1.py, p.2.py])), .p (.list [])] S = .ok (.p (.list ((ksW W).map py))) S := by
    simp only [sumLM, lstOf, lsts_w, flat_w]
    rw [if_pos (by simp [LIM]; omega)]
    simp
  have w3 := vl_ok (S := S) (k := k) (ks := ksW W) (by omega) (fun k hk => (hks k hk).ok) (by have := ndsL_le (m := 13) fun k hk => (hks k hk).2.2.1; omega)
  have hanm : ∀ n ∈ ded [] (vnL (ksW W)), n ∈ nm := fun n hn' => by
    rw [ded_mem] at hn'
    obtain ⟨k, hk, hv⟩ := vnL_mem.mp (hn'.resolve_left (by simp))
    exact (hks k hk).2.2.2.2 n hv
  have hand : (ded [] (vnL (ksW W))).Nodup := ded_nd (by simp)
  have hanl : (ded [] (vnL (ksW W))).length ≤ 4 := by
    have := nodup_len hand hanm
    omega
  have hin : ∀ y ∈ keys L1, y ∈ ded [] (vnL (ksW W)) := fun y hy => by rw [ded_mem]; exact .inr (key_in t1 u1 hy)
  generalize ded [] (vnL (ksW W)) = an at w3 hanm hanl hin
  -- inner names
  have lk1 : ∀ p ∈ R1, look R1 p.1 = some p.2 := fun p hp => by
    cases e : look R1 p.1 with
    | none => exact absurd hp (look_none e p.2)
    | some k' => rw [nd_uniq r1.1 p.1 k' p.2 (look_mem e) hp]
  have hval : ∀ p ∈ R1, p.1 ∈ keys L1 ∧ p.2 = sub L1 (.v p.1) := fun p hp => (r1.2 _ _).mp (lk1 p hp)
  have hkeys : ((dby R1).map fun kv => D.p (keyPy kv.1)) = R1.map fun p => D.p (.str p.1) := by simp [dby, keyPy]
  have hLR : (dby R1).length ≤ LIM := by simp [LIM, dby]; omega
  have w4 : ∀ z0, lcD (gN 14) tYesD (e2 opSubs (eVar 5) (eVar 14)) [some a, some (.ob 0), x2, x3, some (.p (.list (W.map pr))), some (.p (.dict (pyKv (dby R1)))), x6, x7, some (.p (.dict (pyKv (dby R2)))), x9, z0, y1, y2, y3, none, y5] (R1.map fun p => D.p (.str p.1)) S = .ok (R1.map fun p => p.2.py) S := fun z0 =>
    lcD_on (fun p : Str × Kd => .str p.1) (fun p => p.2.py) fun p hp => ⟨_, rfl, by simp [dic_sub (lk1 p hp)]⟩
  have hR1k : ∀ k ∈ R1.map (·.2), okK k ∧ nds k ≤ 13000 := fun k hk => by
    obtain ⟨p, hp, rfl⟩ := List.mem_map.mp hk
    obtain ⟨a1, a2⟩ := hval p hp
    have := sub_small hn t1 s1 (smv p.1 (kin s1 _ a1))
    rw [a2]
    exact ⟨this.1, this.2.1⟩
  have w5 := vl_ok (S := S) (k := k) (ks := R1.map (·.2)) (by omega) (fun k hk => (hR1k k hk).1) (by have := ndsL_le (m := 13000) fun k hk => (hR1k k hk).2; simp at this; omega)
  have hinner : ∀ y ∈ keys L1, y ∉ ded [] (vnL (R1.map (·.2))) := fun y hy hd => by
    rw [ded_mem] at hd
    obtain ⟨k, hk, hv⟩ := vnL_mem.mp (hd.resolve_left (by simp))
    obtain ⟨p, hp, rfl⟩ := List.mem_map.mp hk
    obtain ⟨a1, a2⟩ := hval p hp
    rw [a2] at hv
    exact sub_free t1 y hv hy
  have hmm : (R1.map (·.2)).map py = R1.map fun p => p.2.py := by simp
  rw [hmm] at w5
  generalize ded [] (vnL (R1.map (·.2))) = inn at w5 hinner
  -- no key is wrong
  have w6 : ∀ z2, lcD (gN 14) (tOrD (tC2 (opInX true) (eVar 14) (eVar 10)) (tC2 (opInX false) (eVar 14) (eVar 11))) (eVar 14) [some a, some (.ob 0), x2, x3, some (.p (.list (W.map pr))), some (.p (.dict (pyKv (dby R1)))), x6, x7, some (.p (.dict (pyKv (dby R2)))), x9, some (.p (.list (an.map .str))), some (.p (.list (inn.map .str))), z2, y3, none, y5] (R1.map fun p => D.p (.str p.1)) S = .ok [] S := fun z2 =>
    lcD_no (fun p : Str × Kd => .str p.1) fun p hp => ⟨_, rfl, by
      have a1 := (hval p hp).1
      have a2 := hin _ a1
      have a3 := hinner _ a1
      simp [in_lstrN, in_lstr, a2, a3]⟩
  -- no pair is wrong
  have hU : U (sg L1) W := (u1 _).mpr (sub_sol t1)
  have w7 : ∀ z0 z1 z2, lcD (gN 15) (tC2 (opEqZ true) (eCallX 2 (F k .f_put_l) (aCons (e2 opSubs (eVar 15) (eC (.p (.int 0)))) (aCons (eVar 5) aNil))) (eCallX 2 (F k .f_put_l) (aCons (e2 opSubs (eVar 15) (eC (.p (.int 1)))) (aCons (eVar 5) aNil)))) (eVar 15) [some a, some (.ob 0), x2, x3, some (.p (.list (W.map pr))), some (.p (.dict (pyKv (dby R1)))), x6, x7, some (.p (.dict (pyKv (dby R2)))), x9, z0, z1, z2, y3, y4, none] (W.map fun p => D.p (pr p)) S = .ok [] S := fun z0 z1 z2 =>
    lcD_no pr fun p hp => ⟨_, rfl, by
      obtain ⟨h1, h2⟩ := hW p hp
      have p1 := putl_ok (kvs := dby R1) (S := S) (k := k) p.1 (by have := h1.2.1; omega)
      have p2 := putl_ok (kvs := dby R1) (S := S) (k := k) p.2 (by have := h2.2.1; omega)
      rw [putP_sub r1] at p1 p2
      have he : sub L1 p.1 = sub L1 p.2 := by
        rw [sub_ap, sub_ap L1 p.2]
        exact hU p hp
      have o1 := (sub_small hn t1 s1 h1).1
      have hq := eq_py (neg := true) (S := S) o1 o1
      simp [eqK_iff.mpr rfl] at hq
      simp [pr, p1, p2, ← he]
      rw [hq]
      rfl⟩
  -- the rows
  have row : ∀ {L R0 : Cs} {ρ : Ev}, Tri L → SmL nm L → IsR R0 L → ρ[13]? = some (some (.p (.dict (pyKv (dby R0))))) → ρ.length = 16 → lcD (gN 14) tYesD (eCallX 2 (F k .f_put_l) (aCons (eA mkTup (aCons (eC (.p (.str "var"))) (aCons (eVar 14) aNil))) (aCons (eVar 13) aNil))) ρ (an.map fun n => D.p (.str n)) S = .ok (an.map fun n => (sub L (.v n)).py) S := fun {L R0 ρ} tL sL rL h13 hlen =>
    lcD_on (fun n : Str => .str n) (fun n => (sub L (.v n)).py) fun n hn' => ⟨_, rfl, by
      have p1 := putl_ok (kvs := dby R0) (S := S) (k := k) (.v n) (by simp [dep]; omega)
      rw [putP_sub rL] at p1
      have hv : eVar 13 (ρ.set 14 (some (.p (.str n)))) S = .ok (.p (.dict (pyKv (dby R0)))) S := by
        have : (ρ.set 14 (some (.p (.str n))))[13]? = some (some (.p (.dict (pyKv (dby R0))))) := by rw [List.getElem?_set_ne (by decide)]; exact h13
        simp [eVar, this]
      have hv2 : eVar 14 (ρ.set 14 (some (.p (.str n)))) S = .ok (.p (.str n)) S := by
        have : (ρ.set 14 (some (D.p (.str n))))[14]? = some (some (.p (.str n))) := List.getElem?_set_self (by omega)
        simp [eVar, this]
      simp [py] at p1
      simp [hv, hv2, p1]⟩
  have hLa : an.length ≤ LIM := by simp [LIM]; omega
  have hrn := rn_ok (k := k) (σ1 := sg L1) (σ2 := sg L2) (S := S) (ps := an.map fun n => (sub L1 (.v n), sub L2 (.v n))) (by omega) (fun p hp => by
      obtain ⟨n, hn', rfl⟩ := List.mem_map.mp hp
      have b1 := sub_small hn t1 s1 (smv n (hanm n hn'))
      have b2 := sub_small hn t2 s2 (smv n (hanm n hn'))
      exact ⟨⟨b1.1.1, Nat.le_trans b1.2.2 (by decide)⟩, b2.1.1, Nat.le_trans b2.2.2 (by decide)⟩) (fun p hp => by
      obtain ⟨n, hn', rfl⟩ := List.mem_map.mp hp
      have c1 : Sol (sg L2) L1 := (u1 _).mp ((u2 _).mpr (sub_sol t2))
      have c2 : Sol (sg L1) L2 := (u2 _).mp ((u1 _).mpr (sub_sol t1))
      exact ⟨(sol_sub c1 (.v n)).symm, (sol_sub c2 (.v n)).symm⟩) (fun p hp => by
      obtain ⟨n, hn', rfl⟩ := List.mem_map.mp hp
      exact (sub_small hn t1 s1 (smv n (hanm n hn'))).2.1) (by simp; omega)
  simp only [List.map_map, Function.comp_def] at hrn
  unfold f_law_3
  have hmW : List.map (D.p ∘ pr) W = W.map fun p => D.p (pr p) := rfl
  simp [isN_d, hLW, hmW]
  refine wp_of w1 ?_
  simp [w2, w3, hkeys, hLR]
  refine wp_of (w4 _) ?_
  simp [w5, hkeys, hLR]
  refine wp_of (w6 _) ?_
  simp [eq_nil]
  unfold f_law_2
  simp [hLW, hmW]
  refine wp_of (w7 _ _ _) ?_
  simp [eq_nil]
  unfold f_law_1
  simp
  have hmA : List.map (D.p ∘ PyData.str) an = an.map fun n => D.p (.str n) := rfl
  have inner : ∀ {L R0 : Cs}, Tri L → SmL nm L → IsR R0 L → eLc (iSeq (eVar 10)) (gN 14) tYesD (eCallX 2 (F k .f_put_l) (aCons (eA mkTup (aCons (eC (.p (.str "var"))) (aCons (eVar 14) aNil))) (aCons (eVar 13) aNil))) [14] finL
      [some a, some (.ob 0), x2, x3, some (.p (.list (W.map pr))), some (.p (.dict (pyKv (dby R1)))), x6, x7, some (.p (.dict (pyKv (dby R2)))), x9, some (.p (.list (an.map .str))), some (.p (.list (inn.map .str))), y2, some (.p (.dict (pyKv (dby R0)))), y4, y5] S = .ok (.p (.list (an.map fun n => (sub L (.v n)).py))) S := fun {L R0} tL sL rL => by
    have hr := row (ρ := [some a, some (.ob 0), x2, x3, some (.p (.list (W.map pr))), some (.p (.dict (pyKv (dby R1)))), x6, x7, some (.p (.dict (pyKv (dby R2)))), x9, some (.p (.list (an.map .str))), some (.p (.list (inn.map .str))), y2, some (.p (.dict (pyKv (dby R0)))), none, y5]) tL sL rL rfl rfl
    simp [hmA, hLa]
    rw [hr]
    simp
  refine ⟨by simp [LIM], wp_of (lc_two (ρ1 := [some a, some (.ob 0), x2, x3, some (.p (.list (W.map pr))), some (.p (.dict (pyKv (dby R1)))), x6, x7, some (.p (.dict (pyKv (dby R2)))), x9, some (.p (.list (an.map .str))), some (.p (.list (inn.map .str))), y2, some (.p (.dict (pyKv (dby R1)))), y4, y5]) (ρ2 := [some a, some (.ob 0), x2, x3, some (.p (.list (W.map pr))), some (.p (.dict (pyKv (dby R1)))), x6, x7, some (.p (.dict (pyKv (dby R2)))), x9, some (.p (.list (an.map .str))), some (.p (.list (inn.map .str))), y2, some (.p (.dict (pyKv (dby R2)))), y4, y5]) rfl (inner t1 s1 r1) rfl (inner t2 s2 r2)) ?_⟩
  have b0 : ∀ {A B : PyData}, opSubs (.p (.list [A, B])) (.p (.int 0)) S = .ok (.p A) S := fun {A B} => subs_l rfl
  have b1 : ∀ {A B : PyData}, opSubs (.p (.list [A, B])) (.p (.int 1)) S = .ok (.p B) S := fun {A B} => subs_l rfl
  simp [b0, b1, hrn]
  exact q _ _ _
set_option maxHeartbeats 4000000 in
theorem turn_wp {cs : List PyData} (hc : Cells cs) {k : Nat} (hk : 50 ≤ k) {a : D} {x2 x3 x4 x5 x6 x7 x8 x9 y0 y1 y2 y3 y4 y5 : Option D} {n : Int} {S : Sto} {R : Fl → Sto → Prop} (h0 : 0 ≤ n) (hn : n ≤ 800000) (t0 : Tape cs 0 1 n S)
    (q : ∀ S' z2 z3 z4 z5 z6 z7 z8 z9 u0 u1 u2 u3 u4 u5, Tape cs 0 1 (n + 1000) S' → R (.next [some a, some (.ob 0), z2, z3, z4, z5, z6, z7, z8, z9, u0, u1, u2, u3, u4, u5]) S') :
    wpS (f_law_4 (F k) [some a, some (.ob 0), x2, x3, x4, x5, x6, x7, x8, x9, y0, y1, y2, y3, y4, y5] S) R := by
  unfold f_law_4
  simp
  refine words_wp hc t0 (by omega) (by omega) (by decide) (by decide) fun ws S1 hw1 hw2 t1 => ?_
  refine words_wp hc t1 (by omega) (by omega) (by decide) (by decide) fun nm S2 hm1 hm2 t2 => ?_
  obtain ⟨w0, w1, w2, rfl⟩ : ∃ w0 w1 w2, ws = [w0, w1, w2] := by
    match ws, hw1 with
    | [w0, w1, w2], _ => exact ⟨_, _, _, rfl⟩
    | [], h => simp at h
    | [_], h => simp at h
    | [_, _], h => simp at h
    | _ :: _ :: _ :: _ :: _, h => simp at h; omega
  have em : ∀ (a b c d e : PyData) (S : Sto), mkLst [.p a, .p b, .p c, .p d, .p e] S = .ok (.p (.list [a, b, c, d, e])) S := fun a b c d e S => by simp [mkLst, LIM]
  simp [em]
  have hco : ∀ c ∈ [PyData.tuple [.str w0, .int 0], .tuple [.str w1, .int 1], .tuple [.str w2, .int 2], .tuple [.str "to", .int 2], .tuple [.str "whole", .int 0]], okCons c := by
    intro c hc
    simp at hc
    rcases hc with rfl | rfl | rfl | rfl | rfl
    · exact ⟨_, _, rfl, hw2 w0 (by simp), by decide, by decide⟩
    · exact ⟨_, _, rfl, hw2 w1 (by simp), by decide, by decide⟩
    · exact ⟨_, _, rfl, hw2 w2 (by simp), by decide, by decide⟩
    · exact ⟨_, _, rfl, to_nOk, by decide, by decide⟩
    · exact ⟨_, _, rfl, whole_nOk, by decide, by decide⟩
  generalize hcoe : [PyData.tuple [.str w0, .int 0], .tuple [.str w1, .int 1], .tuple [.str w2, .int 2], .tuple [.str "to", .int 2], .tuple [.str "whole", .int 0]] = co at hco ⊢
  have hco1 : co ≠ [] := by rw [← hcoe]; simp
  have hcol : co.length ≤ 100 := by rw [← hcoe]; simp
  generalize [PyData.str w0, PyData.str w1, PyData.str w2] = wl
  have hnl : nm.length = 4 := by omega
  refine pd_wp hc hm2 hnl hco hco1 hcol (by omega) (by omega) (by omega) t2 fun W S3 hW hWl t3 => ?_
  obtain ⟨xd, rd, ed⟩ := sv_ok (S := S3) (k := k) (by omega) hnl hm2 hW hWl
  have er : ∀ S : Sto, reprM [.p (.list (W.map pr))] S = .ok (.p (.str (PyData.list (W.map pr)).shown)) S := fun S => repr_w hW hWl
  simp [ed, er]
  refine dr_wp hc t3 (by omega) (by omega) (by decide) (by decide) fun g S4 g0 g1 t4 _ => ?_
  -- told, by a list or by a tuple
  have go : ∀ xt, UtRes nm W xt → wpS (sSeq (sIf (tOrD (tC2 (opEqZ true) (e2 (opIsN false) (eVar 5) (eC (.p .none))) (e2 (opIsN false) (eVar 8) (eC (.p .none)))) (tC2 (opEqZ true) (eA reprM (aCons (eVar 4) aNil)) (eVar 9))) (sRet (eC (.p (.bool false)))) sNext) (f_law_3 (F k))
      [some a, some (.ob 0), x2, some (.p (.list co)), some (.p (.list (W.map pr))), some (.p xt), some (.p (.list wl)), some (.p (.list (nm.map .str))), some (.p xd), some (.p (.str (PyData.list (W.map pr)).shown)), y0, y1, y2, y3, y4, y5] S4) R := fun xt rt => by
    simp [er]
    rcases rt with ⟨rfl, no⟩ | ⟨L1, R1, rfl, t1', s1, u1, r1⟩
    · rcases rd with ⟨rfl, _⟩ | ⟨L2, R2, rfl, t2', s2, u2, r2⟩
      · simp [isN_n]
        unfold f_law_3
        simp [isN_n]
        exact q _ _ _ _ _ _ _ _ _ _ _ _ _ _ _ (t4.mono (by omega))
      · exact absurd ((u2 _).mpr (sub_sol t2')) (no _)
    · rcases rd with ⟨rfl, no⟩ | ⟨L2, R2, rfl, t2', s2, u2, r2⟩
      · exact absurd ((u1 _).mpr (sub_sol t1')) (no _)
      · simp [isN_d]
        exact rest_wp hk hnl hm2 hW hWl t1' s1 u1 r1 t2' s2 u2 r2 fun z0 z1 z2 => q _ _ _ _ _ _ _ _ _ _ _ _ _ _ _ (t4.mono (by omega))
  by_cases hg : g = 0
  · subst hg
    obtain ⟨xt, rt, et⟩ := ut_ok (S := S4) (k := k) (A := .list (W.map pr)) (by omega) hnl hm2 hW hWl (fun S => by simp)
    have := go xt rt
    simp [er] at this
    simp [et, er]
    exact this
  · obtain ⟨xt, rt, et⟩ := ut_ok (S := S4) (k := k) (A := .tuple (W.map pr)) (by omega) hnl hm2 hW hWl (fun S => by simp)
    have := go xt rt
    simp [er] at this
    simp [hg, et, er]
    exact this
set_option maxHeartbeats 4000000 in
theorem law_wp {ns : List Int} {cs : List PyData} (hc : Cells cs) {k : Nat} (hk : 50 ≤ k) (eb : F k .f_begin_l [.ro (nums ns)] [] = .ok (.ob 0) [.dic (tpd cs 0 0)]) : wp (runF 16 (b_f_law (F k)) [.ro (nums ns)] []) (fun d s => d = .p (.bool true)) noX := by
  rw [wp_run]
  show wpS (b_f_law (F k) [some (.ro (nums ns)), none, none, none, none, none, none, none, none, none, none, none, none, none, none, none] []) _
  unfold b_f_law
  simp [eb, cutX, range_ok (j := 12) (by decide) (by decide)]
  refine forT_wp 12 (fun j ρ => ∃ x2 x3 x4 x5 x6 x7 x8 x9 y0 y1 y2 y3 y4 y5, ρ = [some (.ro (nums ns)), some (.ob 0), x2, x3, x4, x5, x6, x7, x8, x9, y0, y1, y2, y3, y4, y5]) (c := 1000) (by decide) (by simp) ⟨_, _, _, _, _, _, _, _, _, _, _, _, _, _, rfl⟩ (tape0 (cs := cs)) ?_ ?_
  · rintro j d ρ n' S' he ⟨x2, x3, x4, x5, x6, x7, x8, x9, y0, y1, y2, y3, y4, y5, rfl⟩ hn1 hn2 t0
    simp
    exact turn_wp hc hk hn1 (by omega) t0 fun S' z2 z3 z4 z5 z6 z7 z8 z9 u0 u1 u2 u3 u4 u5 t => ⟨⟨_, _, _, _, _, _, _, _, _, _, _, _, _, _, rfl⟩, t⟩
  · rintro ρ S ⟨x2, x3, x4, x5, x6, x7, x8, x9, y0, y1, y2, y3, y4, y5, rfl⟩ t
    unfold f_law_5
    simp
theorem F_begin (k : Nat) : F (k + 1) .f_begin_l = runF 1 beginB := rfl
theorem F_law (k : Nat) : F (k + 1) .f_law = runF 16 (b_f_law (F k)) := rfl
theorem holds : ∀ ns : List Int, ns.length ≤ 63 → ∃ S', F TOP .f_law [.ro (nums ns)] [] = .ok (.p (.bool true)) S' := by
  intro ns hl
  obtain ⟨cs, hc, e0⟩ := begin_ok ns
  have h := law_wp (ns := ns) hc (k := 59) (by decide) (by rw [F_begin]; exact e0)
  obtain ⟨a, s, e, rfl⟩ := wp_ex h
  refine ⟨s, ?_⟩
  show F (59 + 1) .f_law [.ro (nums ns)] [] = _
  rw [F_law]
  exact e
end
end K07

namespace K07
open PySem L2 DL PySem.Spec PyProof.Rows

def top (i : Nat) : Stmt := PySem.Challenge.pw_leastneeds_k07_whole_most_general_ways.main.body.getD i (.Pass ⟨0, 0, 0, 0⟩)
def inCls (s : Stmt) (j : Nat) : Stmt := match s with
  | .ClassDef _ _ _ b _ _ _ _ _ _ _ => b.getD j (.Pass ⟨0, 0, 0, 0⟩)
  | s => s
abbrev s_f_found_at : Stmt := top 1
abbrev s_f_stands_in : Stmt := top 2
abbrev s_f_is_free : Stmt := top 3
abbrev s_f_united : Stmt := top 4
abbrev s_f_resolved : Stmt := top 5
abbrev s_f_unite : Stmt := top 6
abbrev s_f_begin_l : Stmt := top 8
abbrev s_f_draw_l : Stmt := top 9
abbrev s_f_pick_l : Stmt := top 10
abbrev s_f_words_l : Stmt := top 11
abbrev s_f_con_l : Stmt := top 12
abbrev s_f_put_l : Stmt := top 13
abbrev s_f_vars_l : Stmt := top 14
abbrev s_f_letter_kind_l : Stmt := top 15
abbrev s_f_solve_l : Stmt := top 16
abbrev s_f_renamed_l : Stmt := top 17
abbrev s_f_pairs_drawn_l : Stmt := top 18
abbrev s_f_law : Stmt := top 19
structure Tops (K : PySem.W.Frag) (mg : Str → Option Value) (w : World) (ad : Fn → Addr) (fd : Fn → FuncData) : Prop where
  kp_f_found_at : PySem.W.keepIn K (.ref (ad .f_found_at)) = true
  fn_f_found_at : Fun K "found_at" "found_at" s_f_found_at (ad .f_found_at) (fd .f_found_at)
  m_f_found_at : mg "found_at" = some (.ref (ad .f_found_at))
  b_f_found_at : Binds K (fd .f_found_at) ["kind", "by"] []
  kp_f_stands_in : PySem.W.keepIn K (.ref (ad .f_stands_in)) = true
  fn_f_stands_in : Fun K "stands_in" "stands_in" s_f_stands_in (ad .f_stands_in) (fd .f_stands_in)
  m_f_stands_in : mg "stands_in" = some (.ref (ad .f_stands_in))
  b_f_stands_in : Binds K (fd .f_stands_in) ["name", "kind", "by"] []
  kp_f_is_free : PySem.W.keepIn K (.ref (ad .f_is_free)) = true
  fn_f_is_free : Fun K "is_free" "is_free" s_f_is_free (ad .f_is_free) (fd .f_is_free)
  m_f_is_free : mg "is_free" = some (.ref (ad .f_is_free))
  b_f_is_free : Binds K (fd .f_is_free) ["kind", "fixed"] []
  kp_f_united : PySem.W.keepIn K (.ref (ad .f_united)) = true
  fn_f_united : FunE K "united" "united" s_f_united (ad .f_united) (fd .f_united)
  m_f_united : mg "united" = some (.ref (ad .f_united))
  bd_f_united : BindsD K (fd .f_united) ["by", "pairs", "fixed"] [(.tuple [])]
  kp_f_resolved : PySem.W.keepIn K (.ref (ad .f_resolved)) = true
  fn_f_resolved : Fun K "resolved" "resolved" s_f_resolved (ad .f_resolved) (fd .f_resolved)
  m_f_resolved : mg "resolved" = some (.ref (ad .f_resolved))
  b_f_resolved : Binds K (fd .f_resolved) ["kind", "by"] []
  kp_f_unite : PySem.W.keepIn K (.ref (ad .f_unite)) = true
  fn_f_unite : Fun K "unite" "unite" s_f_unite (ad .f_unite) (fd .f_unite)
  m_f_unite : mg "unite" = some (.ref (ad .f_unite))
  b_f_unite : Binds K (fd .f_unite) ["pairs"] []
  kp_f_begin_l : PySem.W.keepIn K (.ref (ad .f_begin_l)) = true
  fn_f_begin_l : Fun K "_law_begin" "_law_begin" s_f_begin_l (ad .f_begin_l) (fd .f_begin_l)
  m_f_begin_l : mg "_law_begin" = some (.ref (ad .f_begin_l))
  b_f_begin_l : Binds K (fd .f_begin_l) ["_law_script"] []
  kp_f_draw_l : PySem.W.keepIn K (.ref (ad .f_draw_l)) = true
  fn_f_draw_l : Fun K "_law_draw" "_law_draw" s_f_draw_l (ad .f_draw_l) (fd .f_draw_l)
  m_f_draw_l : mg "_law_draw" = some (.ref (ad .f_draw_l))
  b_f_draw_l : Binds K (fd .f_draw_l) ["_law_tape", "_law_many"] []
  kp_f_pick_l : PySem.W.keepIn K (.ref (ad .f_pick_l)) = true
  fn_f_pick_l : Fun K "_law_pick" "_law_pick" s_f_pick_l (ad .f_pick_l) (fd .f_pick_l)
  m_f_pick_l : mg "_law_pick" = some (.ref (ad .f_pick_l))
  b_f_pick_l : Binds K (fd .f_pick_l) ["_law_tape", "_law_items"] []
  kp_f_words_l : PySem.W.keepIn K (.ref (ad .f_words_l)) = true
  fn_f_words_l : Fun K "_law_words" "_law_words" s_f_words_l (ad .f_words_l) (fd .f_words_l)
  m_f_words_l : mg "_law_words" = some (.ref (ad .f_words_l))
  b_f_words_l : Binds K (fd .f_words_l) ["_law_tape", "_law_many"] []
  kp_f_con_l : PySem.W.keepIn K (.ref (ad .f_con_l)) = true
  fn_f_con_l : Fun K "_law_con" "_law_con" s_f_con_l (ad .f_con_l) (fd .f_con_l)
  m_f_con_l : mg "_law_con" = some (.ref (ad .f_con_l))
  b_f_con_l : Binds K (fd .f_con_l) ["_law_name", "_law_parts"] []
  kp_f_put_l : PySem.W.keepIn K (.ref (ad .f_put_l)) = true
  fn_f_put_l : Fun K "_law_put" "_law_put" s_f_put_l (ad .f_put_l) (fd .f_put_l)
  m_f_put_l : mg "_law_put" = some (.ref (ad .f_put_l))
  b_f_put_l : Binds K (fd .f_put_l) ["_law_kind", "_law_by"] []
  kp_f_vars_l : PySem.W.keepIn K (.ref (ad .f_vars_l)) = true
  fn_f_vars_l : Fun K "_law_vars" "_law_vars" s_f_vars_l (ad .f_vars_l) (fd .f_vars_l)
  m_f_vars_l : mg "_law_vars" = some (.ref (ad .f_vars_l))
  b_f_vars_l : Binds K (fd .f_vars_l) ["_law_kinds"] []
  kp_f_letter_kind_l : PySem.W.keepIn K (.ref (ad .f_letter_kind_l)) = true
  fn_f_letter_kind_l : Fun K "_law_letter_kind" "_law_letter_kind" s_f_letter_kind_l (ad .f_letter_kind_l) (fd .f_letter_kind_l)
  m_f_letter_kind_l : mg "_law_letter_kind" = some (.ref (ad .f_letter_kind_l))
  b_f_letter_kind_l : Binds K (fd .f_letter_kind_l) ["_law_tape", "_law_names", "_law_cons", "_law_deep"] []
  kp_f_solve_l : PySem.W.keepIn K (.ref (ad .f_solve_l)) = true
  fn_f_solve_l : Fun K "_law_solve" "_law_solve" s_f_solve_l (ad .f_solve_l) (fd .f_solve_l)
  m_f_solve_l : mg "_law_solve" = some (.ref (ad .f_solve_l))
  b_f_solve_l : Binds K (fd .f_solve_l) ["_law_pairs"] []
  kp_f_renamed_l : PySem.W.keepIn K (.ref (ad .f_renamed_l)) = true
  fn_f_renamed_l : Fun K "_law_renamed" "_law_renamed" s_f_renamed_l (ad .f_renamed_l) (fd .f_renamed_l)
  m_f_renamed_l : mg "_law_renamed" = some (.ref (ad .f_renamed_l))
  b_f_renamed_l : Binds K (fd .f_renamed_l) ["_law_kinds", "_law_others"] []
  kp_f_pairs_drawn_l : PySem.W.keepIn K (.ref (ad .f_pairs_drawn_l)) = true
  fn_f_pairs_drawn_l : Fun K "_law_pairs_drawn" "_law_pairs_drawn" s_f_pairs_drawn_l (ad .f_pairs_drawn_l) (fd .f_pairs_drawn_l)
  m_f_pairs_drawn_l : mg "_law_pairs_drawn" = some (.ref (ad .f_pairs_drawn_l))
  b_f_pairs_drawn_l : Binds K (fd .f_pairs_drawn_l) ["_law_tape", "_law_names", "_law_cons"] []
  kp_f_law : PySem.W.keepIn K (.ref (ad .f_law)) = true
  fn_f_law : Fun K "law" "law" s_f_law (ad .f_law) (fd .f_law)
  m_f_law : mg "law" = some (.ref (ad .f_law))
  b_f_law : Binds K (fd .f_law) ["_law_script"] []
  b_dict : mg "dict" = none
  b_int : mg "int" = none
  b_len : mg "len" = none
  b_list : mg "list" = none
  b_range : mg "range" = none
  b_repr : mg "repr" = none
  b_sorted : mg "sorted" = none
  b_sum : mg "sum" = none
  b_tuple : mg "tuple" = none
  b_zip : mg "zip" = none
structure Rk (P : Program) (w : World) (K : PySem.W.Frag) (mg : Str → Option Value) (base : Heap) (ad : Fn → Addr) (fd : Fn → FuncData) (k : Nat) (r : Fn → List D → M D) : Prop where
  f_found_at : FnX P w K mg base k (ad .f_found_at) (fd .f_found_at) ["kind", "by"] (spX K 2 (r .f_found_at))
  f_stands_in : FnX P w K mg base k (ad .f_stands_in) (fd .f_stands_in) ["name", "kind", "by"] (spX K 3 (r .f_stands_in))
  f_is_free : FnX P w K mg base k (ad .f_is_free) (fd .f_is_free) ["kind", "fixed"] (spX K 2 (r .f_is_free))
  f_united : FnX P w K mg base k (ad .f_united) (fd .f_united) ["by", "pairs", "fixed"] (spX K 3 (r .f_united))
  f_resolved : FnX P w K mg base k (ad .f_resolved) (fd .f_resolved) ["kind", "by"] (spX K 2 (r .f_resolved))
  f_unite : FnX P w K mg base k (ad .f_unite) (fd .f_unite) ["pairs"] (spX K 1 (r .f_unite))
  f_begin_l : FnX P w K mg base k (ad .f_begin_l) (fd .f_begin_l) ["_law_script"] (spX K 1 (r .f_begin_l))
  f_draw_l : FnX P w K mg base k (ad .f_draw_l) (fd .f_draw_l) ["_law_tape", "_law_many"] (spX K 2 (r .f_draw_l))
  f_pick_l : FnX P w K mg base k (ad .f_pick_l) (fd .f_pick_l) ["_law_tape", "_law_items"] (spX K 2 (r .f_pick_l))
  f_words_l : FnX P w K mg base k (ad .f_words_l) (fd .f_words_l) ["_law_tape", "_law_many"] (spX K 2 (r .f_words_l))
  f_con_l : FnX P w K mg base k (ad .f_con_l) (fd .f_con_l) ["_law_name", "_law_parts"] (spX K 2 (r .f_con_l))
  f_put_l : FnX P w K mg base k (ad .f_put_l) (fd .f_put_l) ["_law_kind", "_law_by"] (spX K 2 (r .f_put_l))
  f_vars_l : FnX P w K mg base k (ad .f_vars_l) (fd .f_vars_l) ["_law_kinds"] (spX K 1 (r .f_vars_l))
  f_letter_kind_l : FnX P w K mg base k (ad .f_letter_kind_l) (fd .f_letter_kind_l) ["_law_tape", "_law_names", "_law_cons", "_law_deep"] (spX K 4 (r .f_letter_kind_l))
  f_solve_l : FnX P w K mg base k (ad .f_solve_l) (fd .f_solve_l) ["_law_pairs"] (spX K 1 (r .f_solve_l))
  f_renamed_l : FnX P w K mg base k (ad .f_renamed_l) (fd .f_renamed_l) ["_law_kinds", "_law_others"] (spX K 2 (r .f_renamed_l))
  f_pairs_drawn_l : FnX P w K mg base k (ad .f_pairs_drawn_l) (fd .f_pairs_drawn_l) ["_law_tape", "_law_names", "_law_cons"] (spX K 3 (r .f_pairs_drawn_l))
  f_law : FnX P w K mg base k (ad .f_law) (fd .f_law) ["_law_script"] (spX K 1 (r .f_law))

section
variable {P : Program} {w : World} {K : PySem.W.Frag} {mg : Str → Option Value} {base : Heap} {ad : Fn → Addr} {fd : Fn → FuncData} {k : Nat} {r : Fn → List D → M D}
theorem sc_f_found_at : FnScope ["kind", "by"] ["kind", "by"] (defScope s_f_found_at) := ⟨rfl, rfl, rfl, by decide +kernel, rfl, by decide +kernel, by decide +kernel⟩
theorem sc_f_stands_in : FnScope ["name", "kind", "by", "waiting", "here"] ["name", "kind", "by"] (defScope s_f_stands_in) := ⟨rfl, rfl, rfl, by decide +kernel, rfl, by decide +kernel, by decide +kernel⟩
theorem sc_f_is_free : FnScope ["kind", "fixed"] ["kind", "fixed"] (defScope s_f_is_free) := ⟨rfl, rfl, rfl, by decide +kernel, rfl, by decide +kernel, by decide +kernel⟩
theorem sc_f_united : FnScope ["by", "pairs", "fixed", "waiting", "one", "other", "kind"] ["by", "pairs", "fixed"] (defScope s_f_united) := ⟨rfl, rfl, rfl, by decide +kernel, rfl, by decide +kernel, by decide +kernel⟩
theorem sc_f_resolved : FnScope ["kind", "by", "here"] ["kind", "by"] (defScope s_f_resolved) := ⟨rfl, rfl, rfl, by decide +kernel, rfl, by decide +kernel, by decide +kernel⟩
theorem sc_f_unite : FnScope ["pairs", "by", "name"] ["pairs"] (defScope s_f_unite) := ⟨rfl, rfl, rfl, by decide +kernel, rfl, by decide +kernel, by decide +kernel⟩
theorem sc_f_begin_l : FnScope ["_law_script"] ["_law_script"] (defScope s_f_begin_l) := ⟨rfl, rfl, rfl, by decide +kernel, rfl, by decide +kernel, by decide +kernel⟩
theorem sc_f_draw_l : FnScope ["_law_tape", "_law_many", "_law_got", "_law_spot", "_law_size", "_law_cell"] ["_law_tape", "_law_many"] (defScope s_f_draw_l) := ⟨rfl, rfl, rfl, by decide +kernel, rfl, by decide +kernel, by decide +kernel⟩
theorem sc_f_pick_l : FnScope ["_law_tape", "_law_items"] ["_law_tape", "_law_items"] (defScope s_f_pick_l) := ⟨rfl, rfl, rfl, by decide +kernel, rfl, by decide +kernel, by decide +kernel⟩
theorem sc_f_words_l : FnScope ["_law_tape", "_law_many", "_law_letters", "_law_is_behind", "_law_rest", "_law_first", "_law_k", "_law_letter"] ["_law_tape", "_law_many"] (defScope s_f_words_l) := ⟨rfl, rfl, rfl, by decide +kernel, rfl, by decide +kernel, by decide +kernel⟩
theorem sc_f_con_l : FnScope ["_law_name", "_law_parts", "_law_found", "_law_part"] ["_law_name", "_law_parts"] (defScope s_f_con_l) := ⟨rfl, rfl, rfl, by decide +kernel, rfl, by decide +kernel, by decide +kernel⟩
theorem sc_f_put_l : FnScope ["_law_kind", "_law_by"] ["_law_kind", "_law_by"] (defScope s_f_put_l) := ⟨rfl, rfl, rfl, by decide +kernel, rfl, by decide +kernel, by decide +kernel⟩
theorem sc_f_vars_l : FnScope ["_law_kinds", "_law_found", "_law_waiting", "_law_kind"] ["_law_kinds"] (defScope s_f_vars_l) := ⟨rfl, rfl, rfl, by decide +kernel, rfl, by decide +kernel, by decide +kernel⟩
theorem sc_f_letter_kind_l : FnScope ["_law_tape", "_law_names", "_law_cons", "_law_deep", "_law_parts", "_law_name", "_law_many", "_law_k"] ["_law_tape", "_law_names", "_law_cons", "_law_deep"] (defScope s_f_letter_kind_l) := ⟨rfl, rfl, rfl, by decide +kernel, rfl, by decide +kernel, by decide +kernel⟩
theorem sc_f_solve_l : FnScope ["_law_pairs", "_law_by", "_law_waiting", "_law_one", "_law_other", "_law_kind", "_law_name"] ["_law_pairs"] (defScope s_f_solve_l) := ⟨rfl, rfl, rfl, by decide +kernel, rfl, by decide +kernel, by decide +kernel⟩
theorem sc_f_renamed_l : FnScope ["_law_kinds", "_law_others", "_law_by", "_law_back", "_law_one", "_law_other", "_law_waiting", "_law_a", "_law_b"] ["_law_kinds", "_law_others"] (defScope s_f_renamed_l) := ⟨rfl, rfl, rfl, by decide +kernel, rfl, by decide +kernel, by decide +kernel⟩
theorem sc_f_pairs_drawn_l : FnScope ["_law_tape", "_law_names", "_law_cons", "_law_found", "_law_k", "_law_one", "_law_other", "_law_pattern", "_law_first", "_law_second", "_law_name"] ["_law_tape", "_law_names", "_law_cons"] (defScope s_f_pairs_drawn_l) := ⟨rfl, rfl, rfl, by decide +kernel, rfl, by decide +kernel, by decide +kernel⟩
theorem sc_f_law : FnScope ["_law_script", "_law_tape", "_law_turn", "_law_cons", "_law_pairs", "_law_told", "_law_words_here", "_law_names", "_law_due", "_law_kept", "_law_all_names", "_law_inner", "_law_rows", "_law_by", "_law_name", "_law_pair"] ["_law_script"] (defScope s_f_law) := ⟨rfl, rfl, rfl, by decide +kernel, rfl, by decide +kernel, by decide +kernel⟩
set_option maxHeartbeats 4000000 in
theorem ok_f_found_at (T : Tops K mg w ad fd) (R : Rk P w K mg base ad fd k r) : FnX P w K mg base (k + 1) (ad .f_found_at) (fd .f_found_at) ["kind", "by"] (spX K 2 (runF 2 (b_f_found_at r))) := by
  refine fnX_data T.fn_f_found_at sc_f_found_at rfl rfl _ fun cdv A outer s H E C po => ?_
  unfold b_f_found_at f_found_at_2 f_found_at_1
  exact (dss_cons (ds_while 100000000 po (dt_bool (dw_and (dt_eqZ C.u65 (de_subs C.u1 (de_var 0) de_int) de_str) (dt_and1 (dt_inX C.u65 (de_subs C.u1 (de_var 0) de_int) (de_var 1))))) (dss_one (ds_set (i := 0) sc_f_found_at.nd rfl (by first | exact Or.inl rfl | exact Or.inr rfl) (de_subs C.u1 (de_var 1) (de_subs C.u1 (de_var 0) de_int)))))
    (dss_one (ds_ret (de_var 0))))
set_option maxHeartbeats 4000000 in
theorem ok_f_stands_in (T : Tops K mg w ad fd) (R : Rk P w K mg base ad fd k r) : FnX P w K mg base (k + 1) (ad .f_stands_in) (fd .f_stands_in) ["name", "kind", "by"] (spX K 3 (runF 5 (b_f_stands_in r))) := by
  refine fnX_data T.fn_f_stands_in sc_f_stands_in rfl rfl _ fun cdv A outer s H E C po => ?_
  unfold b_f_stands_in f_stands_in_3 f_stands_in_2 f_stands_in_1
  exact (dss_cons (ds_set (i := 3) sc_f_stands_in.nd rfl (by first | exact Or.inl rfl | exact Or.inr rfl) (de_lstM (da_cons (de_var 1) da_nil)))
    (dss_cons (ds_while 100000000 po (dt_neZ C.u65 (de_var 3) (de_lst da_nil)) (dss_cons (ds_set (i := 4) sc_f_stands_in.nd rfl (by first | exact Or.inl rfl | exact Or.inr rfl) (de_callX R.f_found_at C rfl T.m_f_found_at T.kp_f_found_at T.b_f_found_at (da_cons (de_pop (de_var 3)) (da_cons (de_var 2) da_nil))))
    (dss_cons (ds_if (dt_eqZ C.u65 (de_var 4) (de_tup (da_cons de_str (da_cons (de_var 0) da_nil)))) (dss_one (ds_ret de_bl)) dss_nil)
    (dss_one (ds_if (dt_eqZ C.u65 (de_subs C.u1 (de_var 4) de_int) de_str) (dss_one (ds_expr (de_extend (de_var 3) (da_cons (de_lst (da_cons (de_subs C.u1 (de_var 4) de_int) (da_cons (de_subs C.u1 (de_var 4) de_int) da_nil))) da_nil)))) dss_nil)))))
    (dss_one (ds_ret de_bl))))
set_option maxHeartbeats 4000000 in
theorem ok_f_is_free (T : Tops K mg w ad fd) (R : Rk P w K mg base ad fd k r) : FnX P w K mg base (k + 1) (ad .f_is_free) (fd .f_is_free) ["kind", "fixed"] (spX K 2 (runF 2 (b_f_is_free r))) := by
  refine fnX_data T.fn_f_is_free sc_f_is_free rfl rfl _ fun cdv A outer s H E C po => ?_
  unfold b_f_is_free
  exact (dss_one (ds_ret (de_and (de_eqZ C.u65 (de_subs C.u1 (de_var 0) de_int) de_str) (de_one (de_notInX C.u65 (de_subs C.u1 (de_var 0) de_int) (de_var 1))))))
set_option maxHeartbeats 4000000 in
theorem ok_f_united (T : Tops K mg w ad fd) (R : Rk P w K mg base ad fd k r) : FnX P w K mg base (k + 1) (ad .f_united) (fd .f_united) ["by", "pairs", "fixed"] (spX K 3 (runF 7 (b_f_united r))) := by
  refine fnX_dataE T.fn_f_united sc_f_united rfl rfl _ fun cdv A outer s H E C po => ?_
  unfold b_f_united f_united_5 f_united_4 f_united_3 f_united_2 f_united_1
  exact (dss_cons (ds_set (i := 3) sc_f_united.nd rfl (by first | exact Or.inl rfl | exact Or.inr rfl) (de_listXM rfl rfl T.b_list (da_cons (de_var 1) da_nil)))
    (dss_cons (ds_while 100000000 po (dt_neZ C.u65 (de_var 3) (de_lst da_nil)) (dss_cons (ds_asg (vs := [4, 5]) (de_lc (own := [("kind", 6)]) finL_ok rfl sc_f_united.nd (di_seq (de_pop (de_var 3))) (blkOk_by (by show blkC ["by", "pairs", "fixed", "waiting", "one", "other", "kind"] (defScope s_f_united) _ _ = true; decide +kernel)) (fun _ _ _ _ _ => (dg_name (i := 6) sc_f_united.nd rfl (by first | exact Or.inl rfl | exact Or.inr rfl) (by decide))) (fun _ _ _ _ _ => dts_nil) (fun _ _ _ _ _ => (de_callX R.f_found_at C.blk rfl T.m_f_found_at T.kp_f_found_at T.b_f_found_at (da_cons (de_var 6) (da_cons (de_var 0) da_nil))))) (dg_lst rfl (dgs_cons (dg_name (i := 4) sc_f_united.nd rfl (by first | exact Or.inl rfl | exact Or.inr rfl) (by decide)) (dgs_cons (dg_name (i := 5) sc_f_united.nd rfl (by first | exact Or.inl rfl | exact Or.inr rfl) (by decide)) dgs_nil))))
    (dss_cons (ds_if (dt_eqZ C.u65 (de_var 4) (de_var 5)) (dss_one ds_cont) dss_nil)
    (dss_cons (ds_if (dt_bool (dw_and (dt_not (dt_val (de_callX R.f_is_free C rfl T.m_f_is_free T.kp_f_is_free T.b_f_is_free (da_cons (de_var 4) (da_cons (de_var 2) da_nil))))) (dt_and1 (dt_val (de_callX R.f_is_free C rfl T.m_f_is_free T.kp_f_is_free T.b_f_is_free (da_cons (de_var 5) (da_cons (de_var 2) da_nil))))))) (dss_one (ds_par (i := 4) (j := 5) rfl sc_f_united.nd rfl rfl (by decide) rfl rfl (da_cons (de_var 5) (da_cons (de_var 4) da_nil)))) dss_nil)
    (dss_one (ds_if (dt_val (de_callX R.f_is_free C rfl T.m_f_is_free T.kp_f_is_free T.b_f_is_free (da_cons (de_var 4) (da_cons (de_var 2) da_nil)))) (dss_cons (ds_if (dt_val (de_callX R.f_stands_in C rfl T.m_f_stands_in T.kp_f_stands_in T.b_f_stands_in (da_cons (de_subs C.u1 (de_var 4) de_int) (da_cons (de_var 5) (da_cons (de_var 0) da_nil))))) (dss_one (ds_ret de_bl)) dss_nil)
    (dss_one (ds_asg (vs := []) (de_var 5) (dg_sub (W := W0) C.u1 (de_var 0) (de_subs C.u1 (de_var 4) de_int))))) (dss_one (ds_if (dt_bool (dw_and (dt_eqZ C.u65 (de_subs C.u1 (de_var 4) de_int) de_str) (dt_and1 (dt_eqZ C.u65 (de_subs C.u1 (de_var 5) de_int) de_str)))) (dss_one (ds_expr (de_extend (de_var 3) (da_cons (de_lst (da_cons (de_tup (da_cons (de_subs C.u1 (de_var 4) de_int) (da_cons (de_subs C.u1 (de_var 5) de_int) da_nil))) (da_cons (de_tup (da_cons (de_subs C.u1 (de_var 4) de_int) (da_cons (de_subs C.u1 (de_var 5) de_int) da_nil))) da_nil))) da_nil)))) (dss_one (ds_ret de_bl))))))))))
    (dss_one (ds_ret de_bl))))
set_option maxHeartbeats 4000000 in
theorem ok_f_resolved (T : Tops K mg w ad fd) (R : Rk P w K mg base ad fd k r) : FnX P w K mg base (k + 1) (ad .f_resolved) (fd .f_resolved) ["kind", "by"] (spX K 2 (runF 3 (b_f_resolved r))) := by
  refine fnX_data T.fn_f_resolved sc_f_resolved rfl rfl _ fun cdv A outer s H E C po => ?_
  unfold b_f_resolved f_resolved_1
  exact (dss_cons (ds_set (i := 2) sc_f_resolved.nd rfl (by first | exact Or.inl rfl | exact Or.inr rfl) (de_callX R.f_found_at C rfl T.m_f_found_at T.kp_f_found_at T.b_f_found_at (da_cons (de_var 0) (da_cons (de_var 1) da_nil))))
    (dss_cons (ds_if (dt_eqZ C.u65 (de_subs C.u1 (de_var 2) de_int) de_str) (dss_one (ds_ret (de_tup (da_cons de_str (da_cons (de_callX R.f_resolved C rfl T.m_f_resolved T.kp_f_resolved T.b_f_resolved (da_cons (de_subs C.u1 (de_var 2) de_int) (da_cons (de_var 1) da_nil))) (da_cons (de_callX R.f_resolved C rfl T.m_f_resolved T.kp_f_resolved T.b_f_resolved (da_cons (de_subs C.u1 (de_var 2) de_int) (da_cons (de_var 1) da_nil))) da_nil)))))) dss_nil)
    (dss_one (ds_ret (de_var 2)))))
set_option maxHeartbeats 4000000 in
theorem ok_f_unite (T : Tops K mg w ad fd) (R : Rk P w K mg base ad fd k r) : FnX P w K mg base (k + 1) (ad .f_unite) (fd .f_unite) ["pairs"] (spX K 1 (runF 3 (b_f_unite r))) := by
  refine fnX_data T.fn_f_unite sc_f_unite rfl rfl _ fun cdv A outer s H E C po => ?_
  unfold b_f_unite f_unite_1
  exact (dss_cons (ds_set (i := 1) sc_f_unite.nd rfl (by first | exact Or.inl rfl | exact Or.inr rfl) de_dnewM)
    (dss_cons (ds_if (dt_not (dt_val (de_callXD R.f_united C rfl T.m_f_united T.kp_f_united T.bd_f_united rfl rfl (da_cons (de_var 1) (da_cons (de_var 0) da_nil))))) (dss_one (ds_ret de_non)) dss_nil)
    (dss_one (ds_ret (de_dc (own := [("name", 2)]) finDI_ok rfl sc_f_unite.nd (di_seq (de_sorted rfl rfl T.b_sorted (da_cons (de_var 1) da_nil))) (blkOk_by (by show blkC ["pairs", "by", "name"] (defScope s_f_unite) _ _ = true; decide +kernel)) (fun _ _ _ _ _ => (dg_name (i := 2) sc_f_unite.nd rfl (by first | exact Or.inl rfl | exact Or.inr rfl) (by decide))) (fun _ _ _ _ _ => dts_nil) (fun _ _ _ _ _ => (de_var 2)) (fun _ _ _ _ _ => (de_callX R.f_resolved C.blk rfl T.m_f_resolved T.kp_f_resolved T.b_f_resolved (da_cons (de_subs C.blk.u1 (de_var 1) (de_var 2)) (da_cons (de_var 1) da_nil)))))))))
set_option maxHeartbeats 4000000 in
theorem ok_f_begin_l (T : Tops K mg w ad fd) (R : Rk P w K mg base ad fd k r) : FnX P w K mg base (k + 1) (ad .f_begin_l) (fd .f_begin_l) ["_law_script"] (spX K 1 (runF 1 (b_f_begin_l r))) := by
  refine fnX_data T.fn_f_begin_l sc_f_begin_l rfl rfl _ fun cdv A outer s H E C po => ?_
  unfold b_f_begin_l
  exact (dss_one (ds_ret (de_dispM (.cons de_str (de_or (de_slice (de_var 0) do_none (do_some de_int)) (de_one (de_lst (da_cons de_int da_nil)))) (.cons de_str de_int (.cons de_str de_int .nil))))))
set_option maxHeartbeats 4000000 in
theorem ok_f_draw_l (T : Tops K mg w ad fd) (R : Rk P w K mg base ad fd k r) : FnX P w K mg base (k + 1) (ad .f_draw_l) (fd .f_draw_l) ["_law_tape", "_law_many"] (spX K 2 (runF 6 (b_f_draw_l r))) := by
  refine fnX_data T.fn_f_draw_l sc_f_draw_l rfl rfl _ fun cdv A outer s H E C po => ?_
  unfold b_f_draw_l f_draw_l_1
  exact (dss_cons (ds_if (dt_lt  (de_subs C.u1 (de_var 0) de_str) (de_var 1)) (dss_cons (ds_par (i := 3) (j := 4) rfl sc_f_draw_l.nd rfl rfl (by decide) rfl rfl (da_cons (de_subs C.u1 (de_var 0) de_str) (da_cons (de_len rfl T.b_len (da_cons (de_subs C.u1 (de_var 0) de_str) da_nil)) da_nil)))
    (dss_cons (ds_asgTT (vs := [5]) rfl (da_cons (de_subs C.u1 (de_subs C.u1 (de_var 0) de_str) (de_mod (de_int1 rfl T.b_int (da_cons (de_var 3) da_nil)) (de_var 4))) (da_cons (de_add (de_var 3) de_int) da_nil)) (dgs_cons (dg_name (i := 5) sc_f_draw_l.nd rfl (by first | exact Or.inl rfl | exact Or.inr rfl) (by decide)) (dgs_cons (dg_sub (W := W0) C.u1 (de_var 0) de_str) dgs_nil)) (hd := (lenCons (lenCons lenNil))))
    (dss_cons (ds_asg (vs := []) (de_mod (de_int1 rfl T.b_int (da_cons (de_pow (de_add (de_add (de_mod (de_int1 rfl T.b_int (da_cons (de_var 5) da_nil)) de_int) (de_mulX de_int (de_var 3))) de_int) de_int) da_nil)) (de_add (de_pow de_int de_int) de_int)) (dg_sub (W := W0) C.u1 (de_var 0) de_str))
    (dss_one (ds_if (dt_bool (dw_and (dt_ge  (de_var 5) (de_pow de_int de_int)) (dt_and1 (dt_lt  (de_var 3) (de_var 4))))) (dss_one (ds_asg (vs := []) (de_sub (de_var 5) (de_pow de_int de_int)) (dg_sub (W := W0) C.u1 (de_var 0) de_str))) dss_nil))))) dss_nil)
    (dss_cons (ds_asgTT (vs := [2]) rfl (da_cons (de_mod (de_int1 rfl T.b_int (da_cons (de_subs C.u1 (de_var 0) de_str) da_nil)) (de_var 1)) (da_cons (de_divX (de_subs C.u1 (de_var 0) de_str) (de_var 1)) da_nil)) (dgs_cons (dg_name (i := 2) sc_f_draw_l.nd rfl (by first | exact Or.inl rfl | exact Or.inr rfl) (by decide)) (dgs_cons (dg_sub (W := W0) C.u1 (de_var 0) de_str) dgs_nil)) (hd := (lenCons (lenCons lenNil))))
    (dss_one (ds_ret (de_var 2)))))
set_option maxHeartbeats 4000000 in
theorem ok_f_pick_l (T : Tops K mg w ad fd) (R : Rk P w K mg base ad fd k r) : FnX P w K mg base (k + 1) (ad .f_pick_l) (fd .f_pick_l) ["_law_tape", "_law_items"] (spX K 2 (runF 2 (b_f_pick_l r))) := by
  refine fnX_data T.fn_f_pick_l sc_f_pick_l rfl rfl _ fun cdv A outer s H E C po => ?_
  unfold b_f_pick_l
  exact (dss_one (ds_ret (de_subs C.u1 (de_var 1) (de_callX R.f_draw_l C rfl T.m_f_draw_l T.kp_f_draw_l T.b_f_draw_l (da_cons (de_var 0) (da_cons (de_len rfl T.b_len (da_cons (de_var 1) da_nil)) da_nil))))))
set_option maxHeartbeats 4000000 in
theorem ok_f_words_l (T : Tops K mg w ad fd) (R : Rk P w K mg base ad fd k r) : FnX P w K mg base (k + 1) (ad .f_words_l) (fd .f_words_l) ["_law_tape", "_law_many"] (spX K 2 (runF 8 (b_f_words_l r))) := by
  refine fnX_data T.fn_f_words_l sc_f_words_l rfl rfl _ fun cdv A outer s H E C po => ?_
  unfold b_f_words_l
  exact (dss_cons (ds_asgTT (vs := [4, 5]) rfl (da_cons (de_callX R.f_pick_l C rfl T.m_f_pick_l T.kp_f_pick_l T.b_f_pick_l (da_cons (de_var 0) (da_cons (de_lst (da_cons de_str (da_cons de_str (da_cons de_str (da_cons de_str (da_cons de_str (da_cons de_str da_nil))))))) da_nil))) (da_cons (de_callX R.f_draw_l C rfl T.m_f_draw_l T.kp_f_draw_l T.b_f_draw_l (da_cons (de_var 0) (da_cons de_int da_nil))) da_nil)) (dgs_cons (dg_name (i := 4) sc_f_words_l.nd rfl (by first | exact Or.inl rfl | exact Or.inr rfl) (by decide)) (dgs_cons (dg_name (i := 5) sc_f_words_l.nd rfl (by first | exact Or.inl rfl | exact Or.inr rfl) (by decide)) dgs_nil)) (hd := (lenCons (lenCons lenNil))))
    (dss_cons (ds_setLc (i := 2) (own := [("_law_k", 6)]) finL_ok rfl sc_f_words_l.nd rfl rfl (sw_true rfl rfl rfl rfl) (di_range rfl T.b_range (da_cons (de_var 1) da_nil)) (blkOk_by (by show blkC ["_law_tape", "_law_many", "_law_letters", "_law_is_behind", "_law_rest", "_law_first", "_law_k", "_law_letter"] (defScope s_f_words_l) _ _ = true; decide +kernel)) (fun _ _ _ _ _ => (dg_name (i := 6) sc_f_words_l.nd rfl (by first | exact Or.inl rfl | exact Or.inr rfl) (by decide))) (fun _ _ _ _ _ => dts_nil) (fun _ _ _ _ _ => (de_subs C.blk.u1 de_str (de_mod (de_intT rfl T.b_int (da_cons (de_addX (de_var 5) (de_mulX de_int (de_var 6))) da_nil)) de_int))))
    (dss_cons (ds_set (i := 3) sc_f_words_l.nd rfl (by first | exact Or.inl rfl | exact Or.inr rfl) (de_eqZ C.u65 (de_callX R.f_draw_l C rfl T.m_f_draw_l T.kp_f_draw_l T.b_f_draw_l (da_cons (de_var 0) (da_cons de_int da_nil))) de_int))
    (dss_one (ds_ret (de_lc (own := [("_law_letter", 7)]) finL_ok rfl sc_f_words_l.nd (di_seq (de_var 2)) (blkOk_by (by show blkC ["_law_tape", "_law_many", "_law_letters", "_law_is_behind", "_law_rest", "_law_first", "_law_k", "_law_letter"] (defScope s_f_words_l) _ _ = true; decide +kernel)) (fun _ _ _ _ _ => (dg_name (i := 7) sc_f_words_l.nd rfl (by first | exact Or.inl rfl | exact Or.inr rfl) (by decide))) (fun _ _ _ _ _ => dts_nil) (fun _ _ _ _ _ => (de_if (dt_val (de_var 3)) (de_addX (de_var 4) (de_var 7)) (de_addX (de_var 7) (de_var 4))))))))))
set_option maxHeartbeats 4000000 in
theorem ok_f_con_l (T : Tops K mg w ad fd) (R : Rk P w K mg base ad fd k r) : FnX P w K mg base (k + 1) (ad .f_con_l) (fd .f_con_l) ["_law_name", "_law_parts"] (spX K 2 (runF 4 (b_f_con_l r))) := by
  refine fnX_data T.fn_f_con_l sc_f_con_l rfl rfl _ fun cdv A outer s H E C po => ?_
  unfold b_f_con_l f_con_l_2 f_con_l_1
  exact (dss_cons (ds_set (i := 2) sc_f_con_l.nd rfl (by first | exact Or.inl rfl | exact Or.inr rfl) (de_tup (da_cons de_str (da_cons (de_var 0) da_nil))))
    (dss_cons (ds_for (vs := [3]) po rfl (di_seq (de_var 1)) (dg_name (i := 3) sc_f_con_l.nd rfl (by first | exact Or.inl rfl | exact Or.inr rfl) (by decide)) (dss_one (ds_set (i := 2) sc_f_con_l.nd rfl (by first | exact Or.inl rfl | exact Or.inr rfl) (de_tup (da_cons de_str (da_cons (de_var 2) (da_cons (de_var 3) da_nil)))))))
    (dss_one (ds_ret (de_var 2)))))
set_option maxHeartbeats 4000000 in
theorem ok_f_put_l (T : Tops K mg w ad fd) (R : Rk P w K mg base ad fd k r) : FnX P w K mg base (k + 1) (ad .f_put_l) (fd .f_put_l) ["_law_kind", "_law_by"] (spX K 2 (runF 2 (b_f_put_l r))) := by
  refine fnX_data T.fn_f_put_l sc_f_put_l rfl rfl _ fun cdv A outer s H E C po => ?_
  unfold b_f_put_l f_put_l_1
  exact (dss_cons (ds_if (dt_eqZ C.u65 (de_subs C.u1 (de_var 0) de_int) de_str) (dss_one (ds_ret (de_tup (da_cons de_str (da_cons (de_callX R.f_put_l C rfl T.m_f_put_l T.kp_f_put_l T.b_f_put_l (da_cons (de_subs C.u1 (de_var 0) de_int) (da_cons (de_var 1) da_nil))) (da_cons (de_callX R.f_put_l C rfl T.m_f_put_l T.kp_f_put_l T.b_f_put_l (da_cons (de_subs C.u1 (de_var 0) de_int) (da_cons (de_var 1) da_nil))) da_nil)))))) dss_nil)
    (dss_one (ds_ret (de_if (dt_eqZ C.u65 (de_subs C.u1 (de_var 0) de_int) de_str) (de_get C.u1 (de_var 1) (de_subs C.u1 (de_var 0) de_int) (de_var 0)) (de_var 0)))))
set_option maxHeartbeats 4000000 in
theorem ok_f_vars_l (T : Tops K mg w ad fd) (R : Rk P w K mg base ad fd k r) : FnX P w K mg base (k + 1) (ad .f_vars_l) (fd .f_vars_l) ["_law_kinds"] (spX K 1 (runF 4 (b_f_vars_l r))) := by
  refine fnX_data T.fn_f_vars_l sc_f_vars_l rfl rfl _ fun cdv A outer s H E C po => ?_
  unfold b_f_vars_l f_vars_l_2 f_vars_l_1
  exact (dss_cons (ds_par (i := 1) (j := 2) rfl sc_f_vars_l.nd rfl rfl (by decide) rfl rfl (da_cons (de_lstM da_nil) (da_cons (de_revM (de_listXM rfl rfl T.b_list (da_cons (de_var 0) da_nil))) da_nil)))
    (dss_cons (ds_while 100000000 po (dt_neZ C.u65 (de_var 2) (de_lst da_nil)) (dss_cons (ds_set (i := 3) sc_f_vars_l.nd rfl (by first | exact Or.inl rfl | exact Or.inr rfl) (de_pop (de_var 2)))
    (dss_one (ds_if (dt_eqZ C.u65 (de_subs C.u1 (de_var 3) de_int) de_str) (dss_one (ds_expr (de_extend (de_var 2) (da_cons (de_lst (da_cons (de_subs C.u1 (de_var 3) de_int) (da_cons (de_subs C.u1 (de_var 3) de_int) da_nil))) da_nil)))) (dss_one (ds_if (dt_bool (dw_and (dt_eqZ C.u65 (de_subs C.u1 (de_var 3) de_int) de_str) (dt_and1 (dt_notInX C.u65 (de_subs C.u1 (de_var 3) de_int) (de_var 1))))) (dss_one (ds_expr (de_append (de_var 1) (da_cons (de_subs C.u1 (de_var 3) de_int) da_nil)))) dss_nil))))))
    (dss_one (ds_ret (de_ice (de_var 1))))))
set_option maxHeartbeats 4000000 in
theorem ok_f_letter_kind_l (T : Tops K mg w ad fd) (R : Rk P w K mg base ad fd k r) : FnX P w K mg base (k + 1) (ad .f_letter_kind_l) (fd .f_letter_kind_l) ["_law_tape", "_law_names", "_law_cons", "_law_deep"] (spX K 4 (runF 8 (b_f_letter_kind_l r))) := by
  refine fnX_data T.fn_f_letter_kind_l sc_f_letter_kind_l rfl rfl _ fun cdv A outer s H E C po => ?_
  unfold b_f_letter_kind_l f_letter_kind_l_2 f_letter_kind_l_1
  exact (dss_cons (ds_if (dt_bool (dw_or (dt_eqZ C.u65 (de_var 3) de_int) (dt_or1 (dt_eqZ C.u65 (de_callX R.f_draw_l C rfl T.m_f_draw_l T.kp_f_draw_l T.b_f_draw_l (da_cons (de_var 0) (da_cons de_int da_nil))) de_int)))) (dss_one (ds_ret (de_if (dt_bool (dw_and (dt_neZ C.u65 (de_var 1) (de_lst da_nil)) (dt_and1 (dt_eqZ C.u65 (de_callX R.f_draw_l C rfl T.m_f_draw_l T.kp_f_draw_l T.b_f_draw_l (da_cons (de_var 0) (da_cons de_int da_nil))) de_int)))) (de_tup (da_cons de_str (da_cons (de_callX R.f_pick_l C rfl T.m_f_pick_l T.kp_f_pick_l T.b_f_pick_l (da_cons (de_var 0) (da_cons (de_var 1) da_nil))) da_nil))) (de_tup (da_cons de_str (da_cons (de_subs C.u1 (de_callX R.f_pick_l C rfl T.m_f_pick_l T.kp_f_pick_l T.b_f_pick_l (da_cons (de_var 0) (da_cons (de_var 2) da_nil))) de_int) da_nil)))))) dss_nil)
    (dss_cons (ds_asg (vs := [5, 6]) (de_callX R.f_pick_l C rfl T.m_f_pick_l T.kp_f_pick_l T.b_f_pick_l (da_cons (de_var 0) (da_cons (de_var 2) da_nil))) (dg_tup rfl (dgs_cons (dg_name (i := 5) sc_f_letter_kind_l.nd rfl (by first | exact Or.inl rfl | exact Or.inr rfl) (by decide)) (dgs_cons (dg_name (i := 6) sc_f_letter_kind_l.nd rfl (by first | exact Or.inl rfl | exact Or.inr rfl) (by decide)) dgs_nil))))
    (dss_cons (ds_setLc (i := 4) (own := [("_law_k", 7)]) finL_ok rfl sc_f_letter_kind_l.nd rfl rfl (sw_true rfl rfl rfl rfl) (di_range rfl T.b_range (da_cons (de_var 6) da_nil)) (blkOk_by (by show blkC ["_law_tape", "_law_names", "_law_cons", "_law_deep", "_law_parts", "_law_name", "_law_many", "_law_k"] (defScope s_f_letter_kind_l) _ _ = true; decide +kernel)) (fun _ _ _ _ _ => (dg_name (i := 7) sc_f_letter_kind_l.nd rfl (by first | exact Or.inl rfl | exact Or.inr rfl) (by decide))) (fun _ _ _ _ _ => dts_nil) (fun _ _ _ _ _ => (de_callX R.f_letter_kind_l C.blk rfl T.m_f_letter_kind_l T.kp_f_letter_kind_l T.b_f_letter_kind_l (da_cons (de_var 0) (da_cons (de_var 1) (da_cons (de_var 2) (da_cons (de_sub (de_var 3) de_int) da_nil)))))))
    (dss_cons (ds_if (dt_bool (dw_and (dt_neZ C.u65 (de_var 1) (de_lst da_nil)) (dw_and (dt_eqZ C.u65 (de_var 6) de_int) (dt_and1 (dt_eqZ C.u65 (de_callX R.f_draw_l C rfl T.m_f_draw_l T.kp_f_draw_l T.b_f_draw_l (da_cons (de_var 0) (da_cons de_int da_nil))) de_int))))) (dss_one (ds_ret (de_tup (da_cons de_str (da_cons (de_tup (da_cons de_str (da_cons (de_callX R.f_pick_l C rfl T.m_f_pick_l T.kp_f_pick_l T.b_f_pick_l (da_cons (de_var 0) (da_cons (de_var 1) da_nil))) da_nil))) (da_cons (de_subs C.u1 (de_var 4) de_int) da_nil)))))) dss_nil)
    (dss_one (ds_ret (de_callX R.f_con_l C rfl T.m_f_con_l T.kp_f_con_l T.b_f_con_l (da_cons (de_var 5) (da_cons (de_var 4) da_nil)))))))))
set_option maxHeartbeats 4000000 in
theorem ok_f_solve_l (T : Tops K mg w ad fd) (R : Rk P w K mg base ad fd k r) : FnX P w K mg base (k + 1) (ad .f_solve_l) (fd .f_solve_l) ["_law_pairs"] (spX K 1 (runF 7 (b_f_solve_l r))) := by
  refine fnX_data T.fn_f_solve_l sc_f_solve_l rfl rfl _ fun cdv A outer s H E C po => ?_
  unfold b_f_solve_l f_solve_l_5 f_solve_l_4 f_solve_l_3 f_solve_l_2 f_solve_l_1
  exact (dss_cons (ds_asgTT (vs := [1, 2]) rfl (da_cons de_dnewM (da_cons (de_listXM rfl rfl T.b_list (da_cons (de_var 0) da_nil)) da_nil)) (dgs_cons (dg_name (i := 1) sc_f_solve_l.nd rfl (by first | exact Or.inl rfl | exact Or.inr rfl) (by decide)) (dgs_cons (dg_name (i := 2) sc_f_solve_l.nd rfl (by first | exact Or.inl rfl | exact Or.inr rfl) (by decide)) dgs_nil)) (hd := (lenCons (lenCons lenNil))))
    (dss_cons (ds_while 100000000 po (dt_neZ C.u65 (de_var 2) (de_lst da_nil)) (dss_ice 1 (dss_cons (ds_asg (vs := [3, 4]) (de_lc (own := [("_law_kind", 5)]) finL_ok rfl sc_f_solve_l.nd (di_seq (de_popAt (de_var 2) (da_cons de_int da_nil))) (blkOk_by (by show blkC ["_law_pairs", "_law_by", "_law_waiting", "_law_one", "_law_other", "_law_kind", "_law_name"] (defScope s_f_solve_l) _ _ = true; decide +kernel)) (fun _ _ _ _ _ => (dg_name (i := 5) sc_f_solve_l.nd rfl (by first | exact Or.inl rfl | exact Or.inr rfl) (by decide))) (fun _ _ _ _ _ => dts_nil) (fun _ _ _ _ _ => (de_callX R.f_put_l C.blk rfl T.m_f_put_l T.kp_f_put_l T.b_f_put_l (da_cons (de_var 5) (da_cons (de_var 1) da_nil))))) (dg_lst rfl (dgs_cons (dg_name (i := 3) sc_f_solve_l.nd rfl (by first | exact Or.inl rfl | exact Or.inr rfl) (by decide)) (dgs_cons (dg_name (i := 4) sc_f_solve_l.nd rfl (by first | exact Or.inl rfl | exact Or.inr rfl) (by decide)) dgs_nil))))
    (dss_cons (ds_if (dt_eqZ C.u65 (de_var 3) (de_var 4)) (dss_one ds_cont) dss_nil)
    (dss_cons (ds_if (dt_neZ C.u65 (de_subs C.u1 (de_var 3) de_int) de_str) (dss_one (ds_asgTT (vs := [3, 4]) rfl (da_cons (de_var 4) (da_cons (de_var 3) da_nil)) (dgs_cons (dg_name (i := 3) sc_f_solve_l.nd rfl (by first | exact Or.inl rfl | exact Or.inr rfl) (by decide)) (dgs_cons (dg_name (i := 4) sc_f_solve_l.nd rfl (by first | exact Or.inl rfl | exact Or.inr rfl) (by decide)) dgs_nil)) (hd := (lenCons (lenCons lenNil))))) dss_nil)
    (dss_one (ds_if (dt_eqZ C.u65 (de_subs C.u1 (de_var 3) de_int) de_str) (dss_cons (ds_if (dt_inX C.u65 (de_subs C.u1 (de_var 3) de_int) (de_callX R.f_vars_l C rfl T.m_f_vars_l T.kp_f_vars_l T.b_f_vars_l (da_cons (de_lst (da_cons (de_var 4) da_nil)) da_nil))) (dss_one (ds_ret de_non)) dss_nil)
    (dss_cons (ds_set (i := 1) sc_f_solve_l.nd rfl (by first | exact Or.inl rfl | exact Or.inr rfl) (de_dictPM rfl rfl T.b_dict (da_cons (de_lc (own := [("_law_name", 6)]) finL_ok rfl sc_f_solve_l.nd (di_key (de_var 1)) (blkOk_by (by show blkC ["_law_pairs", "_law_by", "_law_waiting", "_law_one", "_law_other", "_law_kind", "_law_name"] (defScope s_f_solve_l) _ _ = true; decide +kernel)) (fun _ _ _ _ _ => (dg_name (i := 6) sc_f_solve_l.nd rfl (by first | exact Or.inl rfl | exact Or.inr rfl) (by decide))) (fun _ _ _ _ _ => dts_nil) (fun _ _ _ _ _ => (de_tup (da_cons (de_var 6) (da_cons (de_callX R.f_put_l C.blk rfl T.m_f_put_l T.kp_f_put_l T.b_f_put_l (da_cons (de_subs C.blk.u1 (de_var 1) (de_var 6)) (da_cons (de_dispL (.cons (de_subs C.blk.u1 (de_var 3) de_int) (de_var 4) .nil)) da_nil))) da_nil))))) da_nil)))
    (dss_one (ds_asg (vs := []) (de_var 4) (dg_sub (W := W0) C.u1 (de_var 1) (de_subs C.u1 (de_var 3) de_int)))))) (dss_one (ds_if (dt_bool (dw_and (dt_eqZ C.u65 (de_subs C.u1 (de_var 3) de_int) de_str) (dt_and1 (dt_eqZ C.u65 (de_subs C.u1 (de_var 4) de_int) de_str)))) (dss_one (ds_set (i := 2) sc_f_solve_l.nd rfl (by first | exact Or.inl rfl | exact Or.inr rfl) (de_addM (de_lst (da_cons (de_tup (da_cons (de_subs C.u1 (de_var 3) de_int) (da_cons (de_subs C.u1 (de_var 4) de_int) da_nil))) (da_cons (de_tup (da_cons (de_subs C.u1 (de_var 3) de_int) (da_cons (de_subs C.u1 (de_var 4) de_int) da_nil))) da_nil))) (de_var 2)))) (dss_one (ds_ret de_non)))))))))))
    (dss_one (ds_ret (de_ice (de_var 1))))))
set_option maxHeartbeats 4000000 in
theorem ok_f_renamed_l (T : Tops K mg w ad fd) (R : Rk P w K mg base ad fd k r) : FnX P w K mg base (k + 1) (ad .f_renamed_l) (fd .f_renamed_l) ["_law_kinds", "_law_others"] (spX K 2 (runF 9 (b_f_renamed_l r))) := by
  refine fnX_data T.fn_f_renamed_l sc_f_renamed_l rfl rfl _ fun cdv A outer s H E C po => ?_
  unfold b_f_renamed_l f_renamed_l_5 f_renamed_l_4 f_renamed_l_3 f_renamed_l_2 f_renamed_l_1
  exact (dss_cons (ds_par (i := 2) (j := 3) rfl sc_f_renamed_l.nd rfl rfl (by decide) rfl rfl (da_cons de_dnewM (da_cons de_dnewM da_nil)))
    (dss_cons (ds_for (vs := [4, 5]) po rfl (di_zipX rfl T.b_zip (da_cons (de_var 0) (da_cons (de_var 1) da_nil))) (dg_tup rfl (dgs_cons (dg_name (i := 4) sc_f_renamed_l.nd rfl (by first | exact Or.inl rfl | exact Or.inr rfl) (by decide)) (dgs_cons (dg_name (i := 5) sc_f_renamed_l.nd rfl (by first | exact Or.inl rfl | exact Or.inr rfl) (by decide)) dgs_nil))) (dss_cons (ds_set (i := 6) sc_f_renamed_l.nd rfl (by first | exact Or.inl rfl | exact Or.inr rfl) (de_lstM (da_cons (de_tup (da_cons (de_var 4) (da_cons (de_var 5) da_nil))) da_nil)))
    (dss_one (ds_while 100000000 po (dt_neZ C.u65 (de_var 6) (de_lst da_nil)) (dss_cons (ds_asg (vs := [7, 8]) (de_pop (de_var 6)) (dg_tup rfl (dgs_cons (dg_name (i := 7) sc_f_renamed_l.nd rfl (by first | exact Or.inl rfl | exact Or.inr rfl) (by decide)) (dgs_cons (dg_name (i := 8) sc_f_renamed_l.nd rfl (by first | exact Or.inl rfl | exact Or.inr rfl) (by decide)) dgs_nil))))
    (dss_cons (ds_if (dt_bool (dw_or (dt_neZ C.u65 (de_subs C.u1 (de_var 7) de_int) (de_subs C.u1 (de_var 8) de_int)) (dt_or1 (dt_bool (dw_and (dt_eqZ C.u65 (de_subs C.u1 (de_var 7) de_int) de_str) (dt_and1 (dt_neZ C.u65 (de_var 7) (de_var 8)))))))) (dss_one (ds_ret de_bl)) dss_nil)
    (dss_cons (ds_if (dt_eqZ C.u65 (de_subs C.u1 (de_var 7) de_int) de_str) (dss_one (ds_expr (de_extend (de_var 6) (da_cons (de_lst (da_cons (de_tup (da_cons (de_subs C.u1 (de_var 7) de_int) (da_cons (de_subs C.u1 (de_var 8) de_int) da_nil))) (da_cons (de_tup (da_cons (de_subs C.u1 (de_var 7) de_int) (da_cons (de_subs C.u1 (de_var 8) de_int) da_nil))) da_nil))) da_nil)))) dss_nil)
    (dss_one (ds_if (dt_eqZ C.u65 (de_subs C.u1 (de_var 7) de_int) de_str) (dss_one (ds_if (dt_bool (dw_or (dt_neZ C.u65 (de_setd (de_var 2) (de_subs C.u1 (de_var 7) de_int) (de_subs C.u1 (de_var 8) de_int)) (de_subs C.u1 (de_var 8) de_int)) (dt_or1 (dt_neZ C.u65 (de_setd (de_var 3) (de_subs C.u1 (de_var 8) de_int) (de_subs C.u1 (de_var 7) de_int)) (de_subs C.u1 (de_var 7) de_int))))) (dss_one (ds_ret de_bl)) dss_nil)) dss_nil)))))))))
    (dss_one (ds_ret de_bl))))
set_option maxHeartbeats 4000000 in
theorem ok_f_pairs_drawn_l (T : Tops K mg w ad fd) (R : Rk P w K mg base ad fd k r) : FnX P w K mg base (k + 1) (ad .f_pairs_drawn_l) (fd .f_pairs_drawn_l) ["_law_tape", "_law_names", "_law_cons"] (spX K 3 (runF 11 (b_f_pairs_drawn_l r))) := by
  refine fnX_data T.fn_f_pairs_drawn_l sc_f_pairs_drawn_l rfl rfl _ fun cdv A outer s H E C po => ?_
  unfold b_f_pairs_drawn_l f_pairs_drawn_l_3 f_pairs_drawn_l_2 f_pairs_drawn_l_1
  exact (dss_cons (ds_set (i := 3) sc_f_pairs_drawn_l.nd rfl (by first | exact Or.inl rfl | exact Or.inr rfl) (de_lstM da_nil))
    (dss_cons (ds_for (vs := [4]) po rfl (di_range rfl T.b_range (da_cons (de_callX R.f_draw_l C rfl T.m_f_draw_l T.kp_f_draw_l T.b_f_draw_l (da_cons (de_var 0) (da_cons de_int da_nil))) da_nil)) (dg_name (i := 4) sc_f_pairs_drawn_l.nd rfl (by first | exact Or.inl rfl | exact Or.inr rfl) (by decide)) (dss_cons (ds_set (i := 5) sc_f_pairs_drawn_l.nd rfl (by first | exact Or.inl rfl | exact Or.inr rfl) (de_callX R.f_letter_kind_l C rfl T.m_f_letter_kind_l T.kp_f_letter_kind_l T.b_f_letter_kind_l (da_cons (de_var 0) (da_cons (de_var 1) (da_cons (de_var 2) (da_cons (de_addX de_int (de_callX R.f_draw_l C rfl T.m_f_draw_l T.kp_f_draw_l T.b_f_draw_l (da_cons (de_var 0) (da_cons de_int da_nil)))) da_nil))))))
    (dss_cons (ds_set (i := 6) sc_f_pairs_drawn_l.nd rfl (by first | exact Or.inl rfl | exact Or.inr rfl) (de_callX R.f_letter_kind_l C rfl T.m_f_letter_kind_l T.kp_f_letter_kind_l T.b_f_letter_kind_l (da_cons (de_var 0) (da_cons (de_var 1) (da_cons (de_var 2) (da_cons (de_addX de_int (de_callX R.f_draw_l C rfl T.m_f_draw_l T.kp_f_draw_l T.b_f_draw_l (da_cons (de_var 0) (da_cons de_int da_nil)))) da_nil))))))
    (dss_cons (ds_if (dt_gt  (de_callX R.f_draw_l C rfl T.m_f_draw_l T.kp_f_draw_l T.b_f_draw_l (da_cons (de_var 0) (da_cons de_int da_nil))) de_int) (dss_cons (ds_set (i := 7) sc_f_pairs_drawn_l.nd rfl (by first | exact Or.inl rfl | exact Or.inr rfl) (de_callX R.f_letter_kind_l C rfl T.m_f_letter_kind_l T.kp_f_letter_kind_l T.b_f_letter_kind_l (da_cons (de_var 0) (da_cons (de_var 1) (da_cons (de_var 2) (da_cons de_int da_nil))))))
    (dss_cons (ds_set (i := 8) sc_f_pairs_drawn_l.nd rfl (by first | exact Or.inl rfl | exact Or.inr rfl) (de_dictP rfl rfl T.b_dict (da_cons (de_lc (own := [("_law_name", 10)]) finL_ok rfl sc_f_pairs_drawn_l.nd (di_seq (de_var 1)) (blkOk_by (by show blkC ["_law_tape", "_law_names", "_law_cons", "_law_found", "_law_k", "_law_one", "_law_other", "_law_pattern", "_law_first", "_law_second", "_law_name"] (defScope s_f_pairs_drawn_l) _ _ = true; decide +kernel)) (fun _ _ _ _ _ => (dg_name (i := 10) sc_f_pairs_drawn_l.nd rfl (by first | exact Or.inl rfl | exact Or.inr rfl) (by decide))) (fun _ _ _ _ _ => (dts_one (dt_eqZ C.blk.u65 (de_callX R.f_draw_l C.blk rfl T.m_f_draw_l T.kp_f_draw_l T.b_f_draw_l (da_cons (de_var 0) (da_cons de_int da_nil))) de_int))) (fun _ _ _ _ _ => (de_tup (da_cons (de_var 10) (da_cons (de_callX R.f_letter_kind_l C.blk rfl T.m_f_letter_kind_l T.kp_f_letter_kind_l T.b_f_letter_kind_l (da_cons (de_var 0) (da_cons (de_var 1) (da_cons (de_var 2) (da_cons de_int da_nil))))) da_nil))))) da_nil)))
    (dss_cons (ds_set (i := 9) sc_f_pairs_drawn_l.nd rfl (by first | exact Or.inl rfl | exact Or.inr rfl) (de_dictP rfl rfl T.b_dict (da_cons (de_lc (own := [("_law_name", 10)]) finL_ok rfl sc_f_pairs_drawn_l.nd (di_seq (de_var 1)) (blkOk_by (by show blkC ["_law_tape", "_law_names", "_law_cons", "_law_found", "_law_k", "_law_one", "_law_other", "_law_pattern", "_law_first", "_law_second", "_law_name"] (defScope s_f_pairs_drawn_l) _ _ = true; decide +kernel)) (fun _ _ _ _ _ => (dg_name (i := 10) sc_f_pairs_drawn_l.nd rfl (by first | exact Or.inl rfl | exact Or.inr rfl) (by decide))) (fun _ _ _ _ _ => (dts_one (dt_eqZ C.blk.u65 (de_callX R.f_draw_l C.blk rfl T.m_f_draw_l T.kp_f_draw_l T.b_f_draw_l (da_cons (de_var 0) (da_cons de_int da_nil))) de_int))) (fun _ _ _ _ _ => (de_tup (da_cons (de_var 10) (da_cons (de_callX R.f_letter_kind_l C.blk rfl T.m_f_letter_kind_l T.kp_f_letter_kind_l T.b_f_letter_kind_l (da_cons (de_var 0) (da_cons (de_var 1) (da_cons (de_var 2) (da_cons de_int da_nil))))) da_nil))))) da_nil)))
    (dss_one (ds_par (i := 5) (j := 6) rfl sc_f_pairs_drawn_l.nd rfl rfl (by decide) rfl rfl (da_cons (de_callX R.f_put_l C rfl T.m_f_put_l T.kp_f_put_l T.b_f_put_l (da_cons (de_var 7) (da_cons (de_var 8) da_nil))) (da_cons (de_callX R.f_put_l C rfl T.m_f_put_l T.kp_f_put_l T.b_f_put_l (da_cons (de_var 7) (da_cons (de_var 9) da_nil))) da_nil))))))) dss_nil)
    (dss_one (ds_expr (de_append (de_var 3) (da_cons (de_tup (da_cons (de_var 5) (da_cons (de_var 6) da_nil))) da_nil))))))))
    (dss_one (ds_ret (de_ice (de_var 3))))))
set_option maxHeartbeats 4000000 in
theorem ok_f_law (T : Tops K mg w ad fd) (R : Rk P w K mg base ad fd k r) : FnX P w K mg base (k + 1) (ad .f_law) (fd .f_law) ["_law_script"] (spX K 1 (runF 16 (b_f_law r))) := by
  refine fnX_data T.fn_f_law sc_f_law rfl rfl _ fun cdv A outer s H E C po => ?_
  unfold b_f_law f_law_5 f_law_4 f_law_3 f_law_2 f_law_1
  exact (dss_cons (ds_set (i := 1) sc_f_law.nd rfl (by first | exact Or.inl rfl | exact Or.inr rfl) (de_callX R.f_begin_l C rfl T.m_f_begin_l T.kp_f_begin_l T.b_f_begin_l (da_cons (de_var 0) da_nil)))
    (dss_cons (ds_for (vs := [2]) po rfl (di_range rfl T.b_range (da_cons de_int da_nil)) (dg_name (i := 2) sc_f_law.nd rfl (by first | exact Or.inl rfl | exact Or.inr rfl) (by decide)) (dss_cons (ds_par (i := 6) (j := 7) rfl sc_f_law.nd rfl rfl (by decide) rfl rfl (da_cons (de_callX R.f_words_l C rfl T.m_f_words_l T.kp_f_words_l T.b_f_words_l (da_cons (de_var 1) (da_cons de_int da_nil))) (da_cons (de_callX R.f_words_l C rfl T.m_f_words_l T.kp_f_words_l T.b_f_words_l (da_cons (de_var 1) (da_cons de_int da_nil))) da_nil)))
    (dss_cons (ds_set (i := 3) sc_f_law.nd rfl (by first | exact Or.inl rfl | exact Or.inr rfl) (de_lst (da_cons (de_tup (da_cons (de_subs C.u1 (de_var 6) de_int) (da_cons de_int da_nil))) (da_cons (de_tup (da_cons (de_subs C.u1 (de_var 6) de_int) (da_cons de_int da_nil))) (da_cons (de_tup (da_cons (de_subs C.u1 (de_var 6) de_int) (da_cons de_int da_nil))) (da_cons (de_tup (da_cons de_str (da_cons de_int da_nil))) (da_cons (de_tup (da_cons de_str (da_cons de_int da_nil))) da_nil)))))))
    (dss_cons (ds_set (i := 4) sc_f_law.nd rfl (by first | exact Or.inl rfl | exact Or.inr rfl) (de_callX R.f_pairs_drawn_l C rfl T.m_f_pairs_drawn_l T.kp_f_pairs_drawn_l T.b_f_pairs_drawn_l (da_cons (de_var 1) (da_cons (de_var 7) (da_cons (de_var 3) da_nil)))))
    (dss_cons (ds_par (i := 8) (j := 9) rfl sc_f_law.nd rfl rfl (by decide) rfl rfl (da_cons (de_callX R.f_solve_l C rfl T.m_f_solve_l T.kp_f_solve_l T.b_f_solve_l (da_cons (de_var 4) da_nil)) (da_cons (de_repr C.hgd C.u64 rfl T.b_repr (da_cons (de_var 4) da_nil)) da_nil)))
    (dss_cons (ds_set (i := 5) sc_f_law.nd rfl (by first | exact Or.inl rfl | exact Or.inr rfl) (de_if (dt_eqZ C.u65 (de_callX R.f_draw_l C rfl T.m_f_draw_l T.kp_f_draw_l T.b_f_draw_l (da_cons (de_var 1) (da_cons de_int da_nil))) de_int) (de_callX R.f_unite C rfl T.m_f_unite T.kp_f_unite T.b_f_unite (da_cons (de_var 4) da_nil)) (de_callX R.f_unite C rfl T.m_f_unite T.kp_f_unite T.b_f_unite (da_cons (de_tupleX rfl rfl T.b_tuple (da_cons (de_var 4) da_nil)) da_nil))))
    (dss_cons (ds_if (dt_bool (dw_or (dt_neZ C.u65 (de_isN  (de_var 5) de_non) (de_isN  (de_var 8) de_non)) (dt_or1 (dt_neZ C.u65 (de_repr C.hgd C.u64 rfl T.b_repr (da_cons (de_var 4) da_nil)) (de_var 9))))) (dss_one (ds_ret de_bl)) dss_nil)
    (dss_one (ds_if (dt_notN  (de_var 8) de_non) (dss_cons (ds_set (i := 10) sc_f_law.nd rfl (by first | exact Or.inl rfl | exact Or.inr rfl) (de_callX R.f_vars_l C rfl T.m_f_vars_l T.kp_f_vars_l T.b_f_vars_l (da_cons (de_sumL rfl rfl T.b_sum (da_cons (de_lc (own := [("_law_pair", 15)]) finL_ok rfl sc_f_law.nd (di_seq (de_var 4)) (blkOk_by (by show blkC ["_law_script", "_law_tape", "_law_turn", "_law_cons", "_law_pairs", "_law_told", "_law_words_here", "_law_names", "_law_due", "_law_kept", "_law_all_names", "_law_inner", "_law_rows", "_law_by", "_law_name", "_law_pair"] (defScope s_f_law) _ _ = true; decide +kernel)) (fun _ _ _ _ _ => (dg_name (i := 15) sc_f_law.nd rfl (by first | exact Or.inl rfl | exact Or.inr rfl) (by decide))) (fun _ _ _ _ _ => dts_nil) (fun _ _ _ _ _ => (de_listX rfl rfl T.b_list (da_cons (de_var 15) da_nil)))) (da_cons (de_lst da_nil) da_nil))) da_nil)))
    (dss_cons (ds_set (i := 11) sc_f_law.nd rfl (by first | exact Or.inl rfl | exact Or.inr rfl) (de_callX R.f_vars_l C rfl T.m_f_vars_l T.kp_f_vars_l T.b_f_vars_l (da_cons (de_lc (own := [("_law_name", 14)]) finL_ok rfl sc_f_law.nd (di_key (de_var 5)) (blkOk_by (by show blkC ["_law_script", "_law_tape", "_law_turn", "_law_cons", "_law_pairs", "_law_told", "_law_words_here", "_law_names", "_law_due", "_law_kept", "_law_all_names", "_law_inner", "_law_rows", "_law_by", "_law_name", "_law_pair"] (defScope s_f_law) _ _ = true; decide +kernel)) (fun _ _ _ _ _ => (dg_name (i := 14) sc_f_law.nd rfl (by first | exact Or.inl rfl | exact Or.inr rfl) (by decide))) (fun _ _ _ _ _ => dts_nil) (fun _ _ _ _ _ => (de_subs C.blk.u1 (de_var 5) (de_var 14)))) da_nil)))
    (dss_cons (ds_if (dt_neZ C.u65 (de_lc (own := [("_law_name", 14)]) finL_ok rfl sc_f_law.nd (di_key (de_var 5)) (blkOk_by (by show blkC ["_law_script", "_law_tape", "_law_turn", "_law_cons", "_law_pairs", "_law_told", "_law_words_here", "_law_names", "_law_due", "_law_kept", "_law_all_names", "_law_inner", "_law_rows", "_law_by", "_law_name", "_law_pair"] (defScope s_f_law) _ _ = true; decide +kernel)) (fun _ _ _ _ _ => (dg_name (i := 14) sc_f_law.nd rfl (by first | exact Or.inl rfl | exact Or.inr rfl) (by decide))) (fun _ _ _ _ _ => (dts_one (dt_bool (dw_or (dt_notInX C.blk.u65 (de_var 14) (de_var 10)) (dt_or1 (dt_inX C.blk.u65 (de_var 14) (de_var 11))))))) (fun _ _ _ _ _ => (de_var 14))) (de_lst da_nil)) (dss_one (ds_ret de_bl)) dss_nil)
    (dss_cons (ds_if (dt_neZ C.u65 (de_lc (own := [("_law_pair", 15)]) finL_ok rfl sc_f_law.nd (di_seq (de_var 4)) (blkOk_by (by show blkC ["_law_script", "_law_tape", "_law_turn", "_law_cons", "_law_pairs", "_law_told", "_law_words_here", "_law_names", "_law_due", "_law_kept", "_law_all_names", "_law_inner", "_law_rows", "_law_by", "_law_name", "_law_pair"] (defScope s_f_law) _ _ = true; decide +kernel)) (fun _ _ _ _ _ => (dg_name (i := 15) sc_f_law.nd rfl (by first | exact Or.inl rfl | exact Or.inr rfl) (by decide))) (fun _ _ _ _ _ => (dts_one (dt_neZ C.blk.u65 (de_callX R.f_put_l C.blk rfl T.m_f_put_l T.kp_f_put_l T.b_f_put_l (da_cons (de_subs C.blk.u1 (de_var 15) de_int) (da_cons (de_var 5) da_nil))) (de_callX R.f_put_l C.blk rfl T.m_f_put_l T.kp_f_put_l T.b_f_put_l (da_cons (de_subs C.blk.u1 (de_var 15) de_int) (da_cons (de_var 5) da_nil)))))) (fun _ _ _ _ _ => (de_var 15))) (de_lst da_nil)) (dss_one (ds_ret de_bl)) dss_nil)
    (dss_cons (ds_setLc (i := 12) (own := [("_law_by", 13)]) finL_ok rfl sc_f_law.nd rfl rfl (sw_true rfl rfl rfl rfl) (di_seq (de_tup (da_cons (de_var 5) (da_cons (de_var 8) da_nil)))) (blkOk_by (by show blkC ["_law_script", "_law_tape", "_law_turn", "_law_cons", "_law_pairs", "_law_told", "_law_words_here", "_law_names", "_law_due", "_law_kept", "_law_all_names", "_law_inner", "_law_rows", "_law_by", "_law_name", "_law_pair"] (defScope s_f_law) _ _ = true; decide +kernel)) (fun _ _ _ _ _ => (dg_name (i := 13) sc_f_law.nd rfl (by first | exact Or.inl rfl | exact Or.inr rfl) (by decide))) (fun _ _ _ _ _ => dts_nil) (fun _ _ _ _ _ => (de_lc (own := [("_law_name", 14)]) finL_ok rfl sc_f_law.nd (di_seq (de_var 10)) (blkOk_by (by kernel_rfl)) (fun _ _ _ _ _ => (dg_name (i := 14) sc_f_law.nd rfl (by first | exact Or.inl rfl | exact Or.inr rfl) (by decide))) (fun _ _ _ _ _ => dts_nil) (fun _ _ _ _ _ => (de_callX R.f_put_l C.blk.blk rfl T.m_f_put_l T.kp_f_put_l T.b_f_put_l (da_cons (de_tup (da_cons de_str (da_cons (de_var 14) da_nil))) (da_cons (de_var 13) da_nil)))))))
    (dss_one (ds_if (dt_not (dt_val (de_callX R.f_renamed_l C rfl T.m_f_renamed_l T.kp_f_renamed_l T.b_f_renamed_l (da_cons (de_subs C.u1 (de_var 12) de_int) (da_cons (de_subs C.u1 (de_var 12) de_int) da_nil))))) (dss_one (ds_ret de_bl)) dss_nil))))))) dss_nil)))))))))
    (dss_one (ds_ret de_bl))))
theorem all_ok (T : Tops K mg w ad fd) : ∀ k, Rk P w K mg base ad fd k (F k)
  | 0 => ⟨fnX_none, fnX_none, fnX_none, fnX_none, fnX_none, fnX_none, fnX_none, fnX_none, fnX_none, fnX_none, fnX_none, fnX_none, fnX_none, fnX_none, fnX_none, fnX_none, fnX_none, fnX_none⟩
  | k + 1 => by
    have R := all_ok T k
    exact ⟨ok_f_found_at T R, ok_f_stands_in T R, ok_f_is_free T R, ok_f_united T R, ok_f_resolved T R, ok_f_unite T R, ok_f_begin_l T R, ok_f_draw_l T R, ok_f_pick_l T R, ok_f_words_l T R, ok_f_con_l T R, ok_f_put_l T R, ok_f_vars_l T R, ok_f_letter_kind_l T R, ok_f_solve_l T R, ok_f_renamed_l T R, ok_f_pairs_drawn_l T R, ok_f_law T R⟩
end
end K07

namespace K07
open PySem L2 DL PySem.Spec PyProof.Rows
theorem all_mk {l : PySem.W.OpenLaw} {w : World} {k : Nat} {K : PySem.W.Frag} {h : Heap} {mg : Str → Option Value} {fa : Addr} (X : K.In h) (G : h.Ns mainGlobals mg) (hfa : mg "law" = some (.ref fa))
    {f0 : Addr} {od0 an0 : Option Addr} {sl0 : Array (Option Value)} {oc0 kV0 dc0 pm0 cd0 ct0 : Value}
    {f1 : Addr} {od1 an1 : Option Addr} {sl1 : Array (Option Value)} {oc1 kV1 dc1 pm1 cd1 ct1 : Value}
    {f2 : Addr} {od2 an2 : Option Addr} {sl2 : Array (Option Value)} {oc2 kV2 dc2 pm2 cd2 ct2 : Value}
    {f3 : Addr} {od3 an3 : Option Addr} {sl3 : Array (Option Value)} {oc3 kV3 dc3 pm3 cd3 ct3 : Value}
    {dT3 dE3 : Addr} {dd3 de3 : Option Addr} {dn3 dm3 : Nat} {ds3 dl3 : Array (Option Value)} {di3 : Array Value} {dp3 : List (PyData × V)}
    {f4 : Addr} {od4 an4 : Option Addr} {sl4 : Array (Option Value)} {oc4 kV4 dc4 pm4 cd4 ct4 : Value}
    {f5 : Addr} {od5 an5 : Option Addr} {sl5 : Array (Option Value)} {oc5 kV5 dc5 pm5 cd5 ct5 : Value}
    {f6 : Addr} {od6 an6 : Option Addr} {sl6 : Array (Option Value)} {oc6 kV6 dc6 pm6 cd6 ct6 : Value}
    {f7 : Addr} {od7 an7 : Option Addr} {sl7 : Array (Option Value)} {oc7 kV7 dc7 pm7 cd7 ct7 : Value}
    {f8 : Addr} {od8 an8 : Option Addr} {sl8 : Array (Option Value)} {oc8 kV8 dc8 pm8 cd8 ct8 : Value}
    {f9 : Addr} {od9 an9 : Option Addr} {sl9 : Array (Option Value)} {oc9 kV9 dc9 pm9 cd9 ct9 : Value}
    {f10 : Addr} {od10 an10 : Option Addr} {sl10 : Array (Option Value)} {oc10 kV10 dc10 pm10 cd10 ct10 : Value}
    {f11 : Addr} {od11 an11 : Option Addr} {sl11 : Array (Option Value)} {oc11 kV11 dc11 pm11 cd11 ct11 : Value}
    {f12 : Addr} {od12 an12 : Option Addr} {sl12 : Array (Option Value)} {oc12 kV12 dc12 pm12 cd12 ct12 : Value}
    {f13 : Addr} {od13 an13 : Option Addr} {sl13 : Array (Option Value)} {oc13 kV13 dc13 pm13 cd13 ct13 : Value}
    {f14 : Addr} {od14 an14 : Option Addr} {sl14 : Array (Option Value)} {oc14 kV14 dc14 pm14 cd14 ct14 : Value}
    {f15 : Addr} {od15 an15 : Option Addr} {sl15 : Array (Option Value)} {oc15 kV15 dc15 pm15 cd15 ct15 : Value}
    {f16 : Addr} {od16 an16 : Option Addr} {sl16 : Array (Option Value)} {oc16 kV16 dc16 pm16 cd16 ct16 : Value}
    {f17 : Addr} {od17 an17 : Option Addr} {sl17 : Array (Option Value)} {oc17 kV17 dc17 pm17 cd17 ct17 : Value}
    (a0 : PySem.W.nsIn K mainGlobals "found_at" = some (some (.ref f0)))
    (l0 : K.lookup f0 = some ⟨oc0, od0, .func (PySem.W.fnOf "found_at" "found_at" (defArgs s_f_found_at) (defBody s_f_found_at) (defScope s_f_found_at) .none kV0 dc0 pm0 an0 cd0 ct0), sl0⟩)
    (c0 : PySem.W.codeIn K cd0 "found_at" = true)
    (k0 : PySem.W.keepIn K (.ref f0) = true)
    (a1 : PySem.W.nsIn K mainGlobals "stands_in" = some (some (.ref f1)))
    (l1 : K.lookup f1 = some ⟨oc1, od1, .func (PySem.W.fnOf "stands_in" "stands_in" (defArgs s_f_stands_in) (defBody s_f_stands_in) (defScope s_f_stands_in) .none kV1 dc1 pm1 an1 cd1 ct1), sl1⟩)
    (c1 : PySem.W.codeIn K cd1 "stands_in" = true)
    (k1 : PySem.W.keepIn K (.ref f1) = true)
    (a2 : PySem.W.nsIn K mainGlobals "is_free" = some (some (.ref f2)))
    (l2 : K.lookup f2 = some ⟨oc2, od2, .func (PySem.W.fnOf "is_free" "is_free" (defArgs s_f_is_free) (defBody s_f_is_free) (defScope s_f_is_free) .none kV2 dc2 pm2 an2 cd2 ct2), sl2⟩)
    (c2 : PySem.W.codeIn K cd2 "is_free" = true)
    (k2 : PySem.W.keepIn K (.ref f2) = true)
    (a3 : PySem.W.nsIn K mainGlobals "united" = some (some (.ref f3)))
    (l3 : K.lookup f3 = some ⟨oc3, od3, .func (PySem.W.fnOf "united" "united" (defArgs s_f_united) (defBody s_f_united) (defScope s_f_united) (.ref dT3) kV3 dc3 pm3 an3 cd3 ct3), sl3⟩)
    (dt3 : K.lookup dT3 = some ⟨.type "tuple", dd3, .seq #[.ref dE3] dn3, ds3⟩)
    (du3 : K.lookup dE3 = some ⟨.type "tuple", de3, .seq di3 dm3, dl3⟩)
    (dv3 : flats di3.toList = some dp3)
    (dw3 : di3.size ≤ 1000)
    (dx3 : PyData.tuple (dp3.map (·.1)) = (.tuple []))
    (c3 : PySem.W.codeIn K cd3 "united" = true)
    (k3 : PySem.W.keepIn K (.ref f3) = true)
    (a4 : PySem.W.nsIn K mainGlobals "resolved" = some (some (.ref f4)))
    (l4 : K.lookup f4 = some ⟨oc4, od4, .func (PySem.W.fnOf "resolved" "resolved" (defArgs s_f_resolved) (defBody s_f_resolved) (defScope s_f_resolved) .none kV4 dc4 pm4 an4 cd4 ct4), sl4⟩)
    (c4 : PySem.W.codeIn K cd4 "resolved" = true)
    (k4 : PySem.W.keepIn K (.ref f4) = true)
    (a5 : PySem.W.nsIn K mainGlobals "unite" = some (some (.ref f5)))
    (l5 : K.lookup f5 = some ⟨oc5, od5, .func (PySem.W.fnOf "unite" "unite" (defArgs s_f_unite) (defBody s_f_unite) (defScope s_f_unite) .none kV5 dc5 pm5 an5 cd5 ct5), sl5⟩)
    (c5 : PySem.W.codeIn K cd5 "unite" = true)
    (k5 : PySem.W.keepIn K (.ref f5) = true)
    (a6 : PySem.W.nsIn K mainGlobals "_law_begin" = some (some (.ref f6)))
    (l6 : K.lookup f6 = some ⟨oc6, od6, .func (PySem.W.fnOf "_law_begin" "_law_begin" (defArgs s_f_begin_l) (defBody s_f_begin_l) (defScope s_f_begin_l) .none kV6 dc6 pm6 an6 cd6 ct6), sl6⟩)
    (c6 : PySem.W.codeIn K cd6 "_law_begin" = true)
    (k6 : PySem.W.keepIn K (.ref f6) = true)
    (a7 : PySem.W.nsIn K mainGlobals "_law_draw" = some (some (.ref f7)))
    (l7 : K.lookup f7 = some ⟨oc7, od7, .func (PySem.W.fnOf "_law_draw" "_law_draw" (defArgs s_f_draw_l) (defBody s_f_draw_l) (defScope s_f_draw_l) .none kV7 dc7 pm7 an7 cd7 ct7), sl7⟩)
    (c7 : PySem.W.codeIn K cd7 "_law_draw" = true)
    (k7 : PySem.W.keepIn K (.ref f7) = true)
    (a8 : PySem.W.nsIn K mainGlobals "_law_pick" = some (some (.ref f8)))
    (l8 : K.lookup f8 = some ⟨oc8, od8, .func (PySem.W.fnOf "_law_pick" "_law_pick" (defArgs s_f_pick_l) (defBody s_f_pick_l) (defScope s_f_pick_l) .none kV8 dc8 pm8 an8 cd8 ct8), sl8⟩)
    (c8 : PySem.W.codeIn K cd8 "_law_pick" = true)
    (k8 : PySem.W.keepIn K (.ref f8) = true)
    (a9 : PySem.W.nsIn K mainGlobals "_law_words" = some (some (.ref f9)))
    (l9 : K.lookup f9 = some ⟨oc9, od9, .func (PySem.W.fnOf "_law_words" "_law_words" (defArgs s_f_words_l) (defBody s_f_words_l) (defScope s_f_words_l) .none kV9 dc9 pm9 an9 cd9 ct9), sl9⟩)
    (c9 : PySem.W.codeIn K cd9 "_law_words" = true)
    (k9 : PySem.W.keepIn K (.ref f9) = true)
    (a10 : PySem.W.nsIn K mainGlobals "_law_con" = some (some (.ref f10)))
    (l10 : K.lookup f10 = some ⟨oc10, od10, .func (PySem.W.fnOf "_law_con" "_law_con" (defArgs s_f_con_l) (defBody s_f_con_l) (defScope s_f_con_l) .none kV10 dc10 pm10 an10 cd10 ct10), sl10⟩)
    (c10 : PySem.W.codeIn K cd10 "_law_con" = true)
    (k10 : PySem.W.keepIn K (.ref f10) = true)
    (a11 : PySem.W.nsIn K mainGlobals "_law_put" = some (some (.ref f11)))
    (l11 : K.lookup f11 = some ⟨oc11, od11, .func (PySem.W.fnOf "_law_put" "_law_put" (defArgs s_f_put_l) (defBody s_f_put_l) (defScope s_f_put_l) .none kV11 dc11 pm11 an11 cd11 ct11), sl11⟩)
    (c11 : PySem.W.codeIn K cd11 "_law_put" = true)
    (k11 : PySem.W.keepIn K (.ref f11) = true)
    (a12 : PySem.W.nsIn K mainGlobals "_law_vars" = some (some (.ref f12)))
    (l12 : K.lookup f12 = some ⟨oc12, od12, .func (PySem.W.fnOf "_law_vars" "_law_vars" (defArgs s_f_vars_l) (defBody s_f_vars_l) (defScope s_f_vars_l) .none kV12 dc12 pm12 an12 cd12 ct12), sl12⟩)
    (c12 : PySem.W.codeIn K cd12 "_law_vars" = true)
    (k12 : PySem.W.keepIn K (.ref f12) = true)
    (a13 : PySem.W.nsIn K mainGlobals "_law_letter_kind" = some (some (.ref f13)))
    (l13 : K.lookup f13 = some ⟨oc13, od13, .func (PySem.W.fnOf "_law_letter_kind" "_law_letter_kind" (defArgs s_f_letter_kind_l) (defBody s_f_letter_kind_l) (defScope s_f_letter_kind_l) .none kV13 dc13 pm13 an13 cd13 ct13), sl13⟩)
    (c13 : PySem.W.codeIn K cd13 "_law_letter_kind" = true)
    (k13 : PySem.W.keepIn K (.ref f13) = true)
    (a14 : PySem.W.nsIn K mainGlobals "_law_solve" = some (some (.ref f14)))
    (l14 : K.lookup f14 = some ⟨oc14, od14, .func (PySem.W.fnOf "_law_solve" "_law_solve" (defArgs s_f_solve_l) (defBody s_f_solve_l) (defScope s_f_solve_l) .none kV14 dc14 pm14 an14 cd14 ct14), sl14⟩)
    (c14 : PySem.W.codeIn K cd14 "_law_solve" = true)
    (k14 : PySem.W.keepIn K (.ref f14) = true)
    (a15 : PySem.W.nsIn K mainGlobals "_law_renamed" = some (some (.ref f15)))
    (l15 : K.lookup f15 = some ⟨oc15, od15, .func (PySem.W.fnOf "_law_renamed" "_law_renamed" (defArgs s_f_renamed_l) (defBody s_f_renamed_l) (defScope s_f_renamed_l) .none kV15 dc15 pm15 an15 cd15 ct15), sl15⟩)
    (c15 : PySem.W.codeIn K cd15 "_law_renamed" = true)
    (k15 : PySem.W.keepIn K (.ref f15) = true)
    (a16 : PySem.W.nsIn K mainGlobals "_law_pairs_drawn" = some (some (.ref f16)))
    (l16 : K.lookup f16 = some ⟨oc16, od16, .func (PySem.W.fnOf "_law_pairs_drawn" "_law_pairs_drawn" (defArgs s_f_pairs_drawn_l) (defBody s_f_pairs_drawn_l) (defScope s_f_pairs_drawn_l) .none kV16 dc16 pm16 an16 cd16 ct16), sl16⟩)
    (c16 : PySem.W.codeIn K cd16 "_law_pairs_drawn" = true)
    (k16 : PySem.W.keepIn K (.ref f16) = true)
    (a17 : PySem.W.nsIn K mainGlobals "law" = some (some (.ref f17)))
    (l17 : K.lookup f17 = some ⟨oc17, od17, .func (PySem.W.fnOf "law" "law" (defArgs s_f_law) (defBody s_f_law) (defScope s_f_law) .none kV17 dc17 pm17 an17 cd17 ct17), sl17⟩)
    (c17 : PySem.W.codeIn K cd17 "law" = true)
    (k17 : PySem.W.keepIn K (.ref f17) = true)
    (z_dict : PySem.W.nsIn K mainGlobals "dict" = some none)
    (z_int : PySem.W.nsIn K mainGlobals "int" = some none)
    (z_len : PySem.W.nsIn K mainGlobals "len" = some none)
    (z_list : PySem.W.nsIn K mainGlobals "list" = some none)
    (z_range : PySem.W.nsIn K mainGlobals "range" = some none)
    (z_repr : PySem.W.nsIn K mainGlobals "repr" = some none)
    (z_sorted : PySem.W.nsIn K mainGlobals "sorted" = some none)
    (z_sum : PySem.W.nsIn K mainGlobals "sum" = some none)
    (z_tuple : PySem.W.nsIn K mainGlobals "tuple" = some none)
    (z_zip : PySem.W.nsIn K mainGlobals "zip" = some none) :
    ∃ fd : FuncData, (∀ (s : Shared) (u : Value), BindsTo s fd ⟨[u], []⟩ [("_law_script", u)]) ∧ ∀ base : Heap, K.In base → base.Ns mainGlobals mg → FnX l.prog w K mg base k fa fd ["_law_script"] (spX K 1 (F k .f_law)) := by
  have e := (PySem.W.mg_of X G a17).symm.trans hfa
  obtain rfl : f17 = fa := by injection e with e; injection e
  have F0 := fun_mk (st := s_f_found_at) l0 c0 k0
  have B0 := F0.binds (ps := ["kind", "by"]) fun _ _ _ _ _ _ us hl => match us, hl with | [_, _], _ => rfl
  have F1 := fun_mk (st := s_f_stands_in) l1 c1 k1
  have B1 := F1.binds (ps := ["name", "kind", "by"]) fun _ _ _ _ _ _ us hl => match us, hl with | [_, _, _], _ => rfl
  have F2 := fun_mk (st := s_f_is_free) l2 c2 k2
  have B2 := F2.binds (ps := ["kind", "fixed"]) fun _ _ _ _ _ _ us hl => match us, hl with | [_, _], _ => rfl
  have F3 : FunE K "united" "united" s_f_united f3 (PySem.W.fnOf "united" "united" (defArgs s_f_united) (defBody s_f_united) (defScope s_f_united) (.ref dT3) kV3 dc3 pm3 an3 cd3 ct3) := ⟨⟨oc3, od3, _, kV3, dc3, pm3, an3, cd3, ct3, sl3, rfl, l3, c3⟩, k3⟩
  have B3 : BindsD K (PySem.W.fnOf "united" "united" (defArgs s_f_united) (defBody s_f_united) (defScope s_f_united) (.ref dT3) kV3 dc3 pm3 an3 cd3 ct3) ["by", "pairs", "fixed"] [(.tuple [])] := binds_one dt3 rfl (val_tup du3 rfl rfl dv3 dw3 dx3) fun us hl => match us, hl with | [_, _], _ => ⟨_, rfl, rfl⟩
  have F4 := fun_mk (st := s_f_resolved) l4 c4 k4
  have B4 := F4.binds (ps := ["kind", "by"]) fun _ _ _ _ _ _ us hl => match us, hl with | [_, _], _ => rfl
  have F5 := fun_mk (st := s_f_unite) l5 c5 k5
  have B5 := F5.binds (ps := ["pairs"]) fun _ _ _ _ _ _ us hl => match us, hl with | [_], _ => rfl
  have F6 := fun_mk (st := s_f_begin_l) l6 c6 k6
  have B6 := F6.binds (ps := ["_law_script"]) fun _ _ _ _ _ _ us hl => match us, hl with | [_], _ => rfl
  have F7 := fun_mk (st := s_f_draw_l) l7 c7 k7
  have B7 := F7.binds (ps := ["_law_tape", "_law_many"]) fun _ _ _ _ _ _ us hl => match us, hl with | [_, _], _ => rfl
  have F8 := fun_mk (st := s_f_pick_l) l8 c8 k8
  have B8 := F8.binds (ps := ["_law_tape", "_law_items"]) fun _ _ _ _ _ _ us hl => match us, hl with | [_, _], _ => rfl
  have F9 := fun_mk (st := s_f_words_l) l9 c9 k9
  have B9 := F9.binds (ps := ["_law_tape", "_law_many"]) fun _ _ _ _ _ _ us hl => match us, hl with | [_, _], _ => rfl
  have F10 := fun_mk (st := s_f_con_l) l10 c10 k10
  have B10 := F10.binds (ps := ["_law_name", "_law_parts"]) fun _ _ _ _ _ _ us hl => match us, hl with | [_, _], _ => rfl
  have F11 := fun_mk (st := s_f_put_l) l11 c11 k11
  have B11 := F11.binds (ps := ["_law_kind", "_law_by"]) fun _ _ _ _ _ _ us hl => match us, hl with | [_, _], _ => rfl
  have F12 := fun_mk (st := s_f_vars_l) l12 c12 k12
  have B12 := F12.binds (ps := ["_law_kinds"]) fun _ _ _ _ _ _ us hl => match us, hl with | [_], _ => rfl
  have F13 := fun_mk (st := s_f_letter_kind_l) l13 c13 k13
  have B13 := F13.binds (ps := ["_law_tape", "_law_names", "_law_cons", "_law_deep"]) fun _ _ _ _ _ _ us hl => match us, hl with | [_, _, _, _], _ => rfl
  have F14 := fun_mk (st := s_f_solve_l) l14 c14 k14
  have B14 := F14.binds (ps := ["_law_pairs"]) fun _ _ _ _ _ _ us hl => match us, hl with | [_], _ => rfl
  have F15 := fun_mk (st := s_f_renamed_l) l15 c15 k15
  have B15 := F15.binds (ps := ["_law_kinds", "_law_others"]) fun _ _ _ _ _ _ us hl => match us, hl with | [_, _], _ => rfl
  have F16 := fun_mk (st := s_f_pairs_drawn_l) l16 c16 k16
  have B16 := F16.binds (ps := ["_law_tape", "_law_names", "_law_cons"]) fun _ _ _ _ _ _ us hl => match us, hl with | [_, _, _], _ => rfl
  have F17 := fun_mk (st := s_f_law) l17 c17 k17
  have B17 := F17.binds (ps := ["_law_script"]) fun _ _ _ _ _ _ us hl => match us, hl with | [_], _ => rfl
  have T : Tops K mg w (fun i => match i with | .f_found_at => f0 | .f_stands_in => f1 | .f_is_free => f2 | .f_united => f3 | .f_resolved => f4 | .f_unite => f5 | .f_begin_l => f6 | .f_draw_l => f7 | .f_pick_l => f8 | .f_words_l => f9 | .f_con_l => f10 | .f_put_l => f11 | .f_vars_l => f12 | .f_letter_kind_l => f13 | .f_solve_l => f14 | .f_renamed_l => f15 | .f_pairs_drawn_l => f16 | .f_law => f17) (fun i => match i with | .f_found_at => PySem.W.fnOf "found_at" "found_at" (defArgs s_f_found_at) (defBody s_f_found_at) (defScope s_f_found_at) .none kV0 dc0 pm0 an0 cd0 ct0 | .f_stands_in => PySem.W.fnOf "stands_in" "stands_in" (defArgs s_f_stands_in) (defBody s_f_stands_in) (defScope s_f_stands_in) .none kV1 dc1 pm1 an1 cd1 ct1 | .f_is_free => PySem.W.fnOf "is_free" "is_free" (defArgs s_f_is_free) (defBody s_f_is_free) (defScope s_f_is_free) .none kV2 dc2 pm2 an2 cd2 ct2 | .f_united => PySem.W.fnOf "united" "united" (defArgs s_f_united) (defBody s_f_united) (defScope s_f_united) (.ref dT3) kV3 dc3 pm3 an3 cd3 ct3 | .f_resolved => PySem.W.fnOf "resolved" "resolved" (defArgs s_f_resolved) (defBody s_f_resolved) (defScope s_f_resolved) .none kV4 dc4 pm4 an4 cd4 ct4 | .f_unite => PySem.W.fnOf "unite" "unite" (defArgs s_f_unite) (defBody s_f_unite) (defScope s_f_unite) .none kV5 dc5 pm5 an5 cd5 ct5 | .f_begin_l => PySem.W.fnOf "_law_begin" "_law_begin" (defArgs s_f_begin_l) (defBody s_f_begin_l) (defScope s_f_begin_l) .none kV6 dc6 pm6 an6 cd6 ct6 | .f_draw_l => PySem.W.fnOf "_law_draw" "_law_draw" (defArgs s_f_draw_l) (defBody s_f_draw_l) (defScope s_f_draw_l) .none kV7 dc7 pm7 an7 cd7 ct7 | .f_pick_l => PySem.W.fnOf "_law_pick" "_law_pick" (defArgs s_f_pick_l) (defBody s_f_pick_l) (defScope s_f_pick_l) .none kV8 dc8 pm8 an8 cd8 ct8 | .f_words_l => PySem.W.fnOf "_law_words" "_law_words" (defArgs s_f_words_l) (defBody s_f_words_l) (defScope s_f_words_l) .none kV9 dc9 pm9 an9 cd9 ct9 | .f_con_l => PySem.W.fnOf "_law_con" "_law_con" (defArgs s_f_con_l) (defBody s_f_con_l) (defScope s_f_con_l) .none kV10 dc10 pm10 an10 cd10 ct10 | .f_put_l => PySem.W.fnOf "_law_put" "_law_put" (defArgs s_f_put_l) (defBody s_f_put_l) (defScope s_f_put_l) .none kV11 dc11 pm11 an11 cd11 ct11 | .f_vars_l => PySem.W.fnOf "_law_vars" "_law_vars" (defArgs s_f_vars_l) (defBody s_f_vars_l) (defScope s_f_vars_l) .none kV12 dc12 pm12 an12 cd12 ct12 | .f_letter_kind_l => PySem.W.fnOf "_law_letter_kind" "_law_letter_kind" (defArgs s_f_letter_kind_l) (defBody s_f_letter_kind_l) (defScope s_f_letter_kind_l) .none kV13 dc13 pm13 an13 cd13 ct13 | .f_solve_l => PySem.W.fnOf "_law_solve" "_law_solve" (defArgs s_f_solve_l) (defBody s_f_solve_l) (defScope s_f_solve_l) .none kV14 dc14 pm14 an14 cd14 ct14 | .f_renamed_l => PySem.W.fnOf "_law_renamed" "_law_renamed" (defArgs s_f_renamed_l) (defBody s_f_renamed_l) (defScope s_f_renamed_l) .none kV15 dc15 pm15 an15 cd15 ct15 | .f_pairs_drawn_l => PySem.W.fnOf "_law_pairs_drawn" "_law_pairs_drawn" (defArgs s_f_pairs_drawn_l) (defBody s_f_pairs_drawn_l) (defScope s_f_pairs_drawn_l) .none kV16 dc16 pm16 an16 cd16 ct16 | .f_law => PySem.W.fnOf "law" "law" (defArgs s_f_law) (defBody s_f_law) (defScope s_f_law) .none kV17 dc17 pm17 an17 cd17 ct17) := ⟨k0, F0, PySem.W.mg_of X G a0, B0, k1, F1, PySem.W.mg_of X G a1, B1, k2, F2, PySem.W.mg_of X G a2, B2, k3, F3, PySem.W.mg_of X G a3, B3, k4, F4, PySem.W.mg_of X G a4, B4, k5, F5, PySem.W.mg_of X G a5, B5, k6, F6, PySem.W.mg_of X G a6, B6, k7, F7, PySem.W.mg_of X G a7, B7, k8, F8, PySem.W.mg_of X G a8, B8, k9, F9, PySem.W.mg_of X G a9, B9, k10, F10, PySem.W.mg_of X G a10, B10, k11, F11, PySem.W.mg_of X G a11, B11, k12, F12, PySem.W.mg_of X G a12, B12, k13, F13, PySem.W.mg_of X G a13, B13, k14, F14, PySem.W.mg_of X G a14, B14, k15, F15, PySem.W.mg_of X G a15, B15, k16, F16, PySem.W.mg_of X G a16, B16, k17, F17, PySem.W.mg_of X G a17, B17, PySem.W.mg_none_of X G z_dict, PySem.W.mg_none_of X G z_int, PySem.W.mg_none_of X G z_len, PySem.W.mg_none_of X G z_list, PySem.W.mg_none_of X G z_range, PySem.W.mg_none_of X G z_repr, PySem.W.mg_none_of X G z_sorted, PySem.W.mg_none_of X G z_sum, PySem.W.mg_none_of X G z_tuple, PySem.W.mg_none_of X G z_zip⟩
  exact ⟨_, fun s v => .of_eq rfl, fun base _ _ => (all_ok T k).f_law⟩
end K07

open PySem PySem.W PyProof.Rows
set_option maxRecDepth 100000 in
set_option maxHeartbeats 0 in
theorem PySem.Challenge.cw_leastneeds_k07_whole_most_general_ways_holds : PySem.Challenge.rw_leastneeds_k07_whole_most_general_ways.Holds := by
  w_on; o_law; k_head; (case hw => w_witness2)
  k_fill
  refine DL.walkX_data (k := K07.TOP) (x := "_law_script") (g := K07.F K07.TOP .f_law) (l := PySem.Challenge.rw_leastneeds_k07_whole_most_general_ways) rfl rfl ⟨rfl, by decide, by decide⟩ (fun w h Y => PySem.W.kIn_of Y) ?F K07.holds
  case F =>
    intro w mg fa h KX G hmg
    refine' K07.all_mk KX G hmg ?a0 ?l0 ?c0 ?k0 ?a1 ?l1 ?c1 ?k1 ?a2 ?l2 ?c2 ?k2 ?a3 ?l3 ?dt3 ?du3 ?dv3 ?dw3 ?dx3 ?c3 ?k3 ?a4 ?l4 ?c4 ?k4 ?a5 ?l5 ?c5 ?k5 ?a6 ?l6 ?c6 ?k6 ?a7 ?l7 ?c7 ?k7 ?a8 ?l8 ?c8 ?k8 ?a9 ?l9 ?c9 ?k9 ?a10 ?l10 ?c10 ?k10 ?a11 ?l11 ?c11 ?k11 ?a12 ?l12 ?c12 ?k12 ?a13 ?l13 ?c13 ?k13 ?a14 ?l14 ?c14 ?k14 ?a15 ?l15 ?c15 ?k15 ?a16 ?l16 ?c16 ?k16 ?a17 ?l17 ?c17 ?k17 ?z_dict ?z_int ?z_len ?z_list ?z_range ?z_repr ?z_sorted ?z_sum ?z_tuple ?z_zip
    (case a0 => k_is)
    (case l0 => k_is)
    (case c0 => k_is)
    (case k0 => k_is)
    (case a1 => k_is)
    (case l1 => k_is)
    (case c1 => k_is)
    (case k1 => k_is)
    (case a2 => k_is)
    (case l2 => k_is)
    (case c2 => k_is)
    (case k2 => k_is)
    (case a3 => k_is)
    (case l3 => k_is)
    (case dt3 => k_is)
    (case du3 => k_is)
    (case dv3 => rfl)
    (case dw3 => decide)
    (case dx3 => rfl)
    (case c3 => k_is)
    (case k3 => k_is)
    (case a4 => k_is)
    (case l4 => k_is)
    (case c4 => k_is)
    (case k4 => k_is)
    (case a5 => k_is)
    (case l5 => k_is)
    (case c5 => k_is)
    (case k5 => k_is)
    (case a6 => k_is)
    (case l6 => k_is)
    (case c6 => k_is)
    (case k6 => k_is)
    (case a7 => k_is)
    (case l7 => k_is)
    (case c7 => k_is)
    (case k7 => k_is)
    (case a8 => k_is)
    (case l8 => k_is)
    (case c8 => k_is)
    (case k8 => k_is)
    (case a9 => k_is)
    (case l9 => k_is)
    (case c9 => k_is)
    (case k9 => k_is)
    (case a10 => k_is)
    (case l10 => k_is)
    (case c10 => k_is)
    (case k10 => k_is)
    (case a11 => k_is)
    (case l11 => k_is)
    (case c11 => k_is)
    (case k11 => k_is)
    (case a12 => k_is)
    (case l12 => k_is)
    (case c12 => k_is)
    (case k12 => k_is)
    (case a13 => k_is)
    (case l13 => k_is)
    (case c13 => k_is)
    (case k13 => k_is)
    (case a14 => k_is)
    (case l14 => k_is)
    (case c14 => k_is)
    (case k14 => k_is)
    (case a15 => k_is)
    (case l15 => k_is)
    (case c15 => k_is)
    (case k15 => k_is)
    (case a16 => k_is)
    (case l16 => k_is)
    (case c16 => k_is)
    (case k16 => k_is)
    (case a17 => k_is)
    (case l17 => k_is)
    (case c17 => k_is)
    (case k17 => k_is)
    (case z_dict => k_is)
    (case z_int => k_is)
    (case z_len => k_is)
    (case z_list => k_is)
    (case z_range => k_is)
    (case z_repr => k_is)
    (case z_sorted => k_is)
    (case z_sum => k_is)
    (case z_tuple => k_is)
    (case z_zip => k_is)
#print axioms PySem.Challenge.cw_leastneeds_k07_whole_most_general_ways_holds
