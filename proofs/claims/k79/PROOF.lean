import PyProof.Rows.All
import Wide.All
import OpenK.AllK
import Wide.FinOn
import HandS.ForMost
import HandS.Exc
import HandS.WordsExc
import HandS.Lambda
import HandS.TupAny
import HandS.Flow
import HandS.Style
import HandS.SetKeys
import HandS.More
import HandS.TryOnly
import HandS.Zip
import HandS.IsInst
import HandS.FStr
import HandS.Text
import HandS.Deep
import HandS.Wide
import HandS.DictComp
import HandS.Star
import HandS.ClsMeth
import PyProof.RulesMatch
import KE.GoesEnum
import KE.GoesZip
import KE.GoesMore
import KE.KDictZip
import HandS.Conv
import HandS.Rev
import KE.KDictSum
import KE.KDictList
import HandS.ExcInit
import HandS.ExcField
import HandS.ExcIs
import KE.KExcInit
import HandS.EndOwn
import HandS.Iter
import PyProof.StrLawsRepr
import PySem.Challenge.RW_leastneeds_k79_cuts_of_terms
set_option Elab.async false
set_option linter.all false
set_option maxRecDepth 100000
namespace DL
open PySem L2

/-- an exception: its class by its name in the module, its fields (where it has an own dict) -/
structure Exn where
  nm : Str
  fs : Option (List (Str × PyData))
/-- any other thing; a caught exception with the place of its dict -/
structure Xv where
  v : V
  o : Option (Addr × Exn)
/-- a value: plain data, a mutable object of the store, a list that is only read (the script), any other thing -/
inductive D where
  | p (x : PyData)
  | ob (i : Nat)
  | ro (xs : List PyData)
  | ext (v : Xv)

/-- a mutable object -/
inductive MO where
  | dead
  | lst (xs : List PyData)
  | dic (kvs : List (Key × PyData))
  | tab (P : Addr) (q : Str)

abbrev Sto := List MO

/-- the ghost: where the objects of the store stand; what is frozen -/
structure Gh where
  ι : List Addr
  φ : List (Addr × HO)

def Holds (φ : List (Addr × HO)) (H : Hp) : Prop := ∀ p ∈ φ, H p.1 = some p.2
/-- a frozen list, a frozen dict -/
def FL (φ : List (Addr × HO)) (a : Addr) (vs : List V) : Prop := ∀ H : Hp, Holds φ H → H a = some (.lst vs)
def RL (K : PySem.W.Frag) (φ : List (Addr × HO)) (a : Addr) (vs : List V) : Prop := ∀ H : Hp, Holds φ H → SqL K H a vs
def FD (φ : List (Addr × HO)) (a : Addr) (ws : List (Key × V)) : Prop := ∃ o : Obj, ∀ H : Hp, Holds φ H → H a = some (.frz o (.dK ws))
theorem FL.mono {φ φ' : List (Addr × HO)} {a : Addr} {vs : List V} (h : FL φ a vs) (s : ∀ p ∈ φ, p ∈ φ') : FL φ' a vs := fun H q => h H fun p hp => q p (s p hp)
theorem RL.mono {K : PySem.W.Frag} {φ φ' : List (Addr × HO)} {a : Addr} {vs : List V} (h : RL K φ a vs) (s : ∀ p ∈ φ, p ∈ φ') : RL K φ' a vs := fun H q => h H fun p hp => q p (s p hp)
theorem FD.mono {φ φ' : List (Addr × HO)} {a : Addr} {vs : List (Key × V)} (h : FD φ a vs) (s : ∀ p ∈ φ, p ∈ φ') : FD φ' a vs := let ⟨o, h⟩ := h; ⟨o, fun H q => h H fun p hp => q p (s p hp)⟩

def keyPy : Key → PyData
  | .inl i => .int i
  | .inr x => .str x

mutual
/-- plain data at a value -/
inductive Dn (K : PySem.W.Frag) (φ : List (Addr × HO)) (H : Hp) : PyData → V → Prop
  | non : Dn K φ H .none .non
  | bl (b : Bool) : Dn K φ H (.bool b) (.bl b)
  | int (i : Int) : Dn K φ H (.int i) (.int i)
  | str (x : Str) : Dn K φ H (.str x) (.str x)
  | lst {a : Addr} {vs : List V} {ds : List PyData} : FL φ a vs → DnAll K φ H ds vs → Dn K φ H (.list ds) (.ref a)
  | tup {a : Addr} {vs : List V} {ds : List PyData} : SqT K H a vs → DnAll K φ H ds vs → Dn K φ H (.tuple ds) (.ref a)
  | dic {a : Addr} {ws : List (Key × V)} {kvs : List (PyData × PyData)} : FD φ a ws → kvs.map (·.1) = ws.map (fun p => keyPy p.1) → DnAll K φ H (kvs.map (·.2)) (ws.map (·.2)) → Dn K φ H (.dict kvs) (.ref a)
inductive DnAll (K : PySem.W.Frag) (φ : List (Addr × HO)) (H : Hp) : List PyData → List V → Prop
  | nil : DnAll K φ H [] []
  | cons {d : PyData} {ds : List PyData} {v : V} {vs : List V} : Dn K φ H d v → DnAll K φ H ds vs → DnAll K φ H (d :: ds) (v :: vs)
end

def ExO (K : PySem.W.Frag) (φ : List (Addr × HO)) (H : Hp) (dd : Addr) (x : Exn) : Prop := ∃ fs ws, x.fs = some fs ∧ (dd, HO.xd ws) ∈ φ ∧ fs.map (·.1) = ws.map (·.1) ∧ DnAll K φ H (fs.map (·.2)) (ws.map (·.2))
def Den (K : PySem.W.Frag) (H : Hp) (G : Gh) : D → V → Prop
  | .p x, v => Dn K G.φ H x v
  | .ob i, v => ∃ a, v = .ref a ∧ G.ι[i]? = some a
  | .ro xs, v => ∃ a vs, v = .ref a ∧ RL K G.φ a vs ∧ DnAll K G.φ H xs vs
  | .ext u, v => v = u.v ∧ ∀ p, u.o = some p → ExO K G.φ H p.1 p.2

inductive DenL (K : PySem.W.Frag) (H : Hp) (G : Gh) : List D → List V → Prop
  | nil : DenL K H G [] []
  | cons {d : D} {ds : List D} {v : V} {vs : List V} : Den K H G d v → DenL K H G ds vs → DenL K H G (d :: ds) (v :: vs)

theorem DnAll.length {K : PySem.W.Frag} {φ : List (Addr × HO)} {H : Hp} : ∀ {ds : List PyData} {vs : List V}, DnAll K φ H ds vs → ds.length = vs.length
  | _, _, .nil => rfl
  | _, _, .cons _ t => by rw [List.length_cons, List.length_cons, t.length]
theorem DenL.length {K : PySem.W.Frag} {G : Gh} {H : Hp} : ∀ {ds : List D} {vs : List V}, DenL K H G ds vs → ds.length = vs.length
  | _, _, .nil => rfl
  | _, _, .cons _ t => by rw [List.length_cons, List.length_cons, t.length]
theorem DnAll.get {K : PySem.W.Frag} {φ : List (Addr × HO)} {H : Hp} : ∀ {ds : List PyData} {vs : List V} {i : Nat} {d : PyData}, DnAll K φ H ds vs → ds[i]? = some d → ∃ v, vs[i]? = some v ∧ Dn K φ H d v
  | _, _, _, _, .nil, e => by simp at e
  | _, _, 0, _, .cons r _, e => by simp at e; subst e; exact ⟨_, rfl, r⟩
  | _, _, i + 1, d, .cons _ t, e => by
    obtain ⟨v, h1, h2⟩ := DnAll.get (i := i) (d := d) t (by simpa using e)
    exact ⟨v, by simpa using h1, h2⟩
theorem DnAll.getV {K : PySem.W.Frag} {φ : List (Addr × HO)} {H : Hp} : ∀ {ds : List PyData} {vs : List V} {i : Nat} {v : V}, DnAll K φ H ds vs → vs[i]? = some v → ∃ d, ds[i]? = some d ∧ Dn K φ H d v
  | _, _, _, _, .nil, e => by simp at e
  | _, _, 0, _, .cons r _, e => by simp at e; subst e; exact ⟨_, rfl, r⟩
  | _, _, i + 1, d, .cons _ t, e => by
    obtain ⟨v, h1, h2⟩ := DnAll.getV (i := i) (v := d) t (by simpa using e)
    exact ⟨v, by simpa using h1, h2⟩
theorem DnAll.append {K : PySem.W.Frag} {φ : List (Addr × HO)} {H : Hp} : ∀ {ds es : List PyData} {vs us : List V}, DnAll K φ H ds vs → DnAll K φ H es us → DnAll K φ H (ds ++ es) (vs ++ us)
  | _, _, _, _, .nil, s => s
  | _, _, _, _, .cons r t, s => .cons r (t.append s)
theorem DnAll.set {K : PySem.W.Frag} {φ : List (Addr × HO)} {H : Hp} {d : PyData} {v : V} (h : Dn K φ H d v) : ∀ {ds : List PyData} {vs : List V} (i : Nat), DnAll K φ H ds vs → DnAll K φ H (ds.set i d) (vs.set i v)
  | _, _, _, .nil => .nil
  | _, _, 0, .cons _ t => .cons h t
  | _, _, i + 1, .cons r t => .cons r (DnAll.set h i t)
theorem DnAll.take {K : PySem.W.Frag} {φ : List (Addr × HO)} {H : Hp} : ∀ {ds : List PyData} {vs : List V} (n : Nat), DnAll K φ H ds vs → DnAll K φ H (ds.take n) (vs.take n)
  | _, _, 0, _ => .nil
  | _, _, _ + 1, .nil => .nil
  | _, _, n + 1, .cons r t => .cons r (DnAll.take n t)
theorem DnAll.drop {K : PySem.W.Frag} {φ : List (Addr × HO)} {H : Hp} : ∀ {ds : List PyData} {vs : List V} (n : Nat), DnAll K φ H ds vs → DnAll K φ H (ds.drop n) (vs.drop n)
  | _, _, 0, r => r
  | _, _, _ + 1, .nil => .nil
  | _, _, n + 1, .cons _ t => DnAll.drop n t
theorem DnAll.reverse {K : PySem.W.Frag} {φ : List (Addr × HO)} {H : Hp} : ∀ {ds : List PyData} {vs : List V}, DnAll K φ H ds vs → DnAll K φ H ds.reverse vs.reverse
  | _, _, .nil => .nil
  | _, _, .cons r t => by
    rw [List.reverse_cons, List.reverse_cons]
    exact t.reverse.append (.cons r .nil)

def Live (G : Gh) (S : Sto) (b : Addr) : Prop := ∃ (i : Nat) (o : MO), G.ι[i]? = some b ∧ S[i]? = some o ∧ o ≠ .dead
def OkO (K : PySem.W.Frag) (H : Hp) (φ : List (Addr × HO)) (a : Addr) : MO → Prop
  | .dead => H a ≠ none
  | .lst xs => ∃ vs, H a = some (.lst vs) ∧ DnAll K φ H xs vs
  | .dic kvs => ∃ ws : List (Key × V), H a = some (.dK ws) ∧ kvs.map (·.1) = ws.map (·.1) ∧ DnAll K φ H (kvs.map (·.2)) (ws.map (·.2))
  | .tab P q => a = P ∧ ∃ ps : Array Value, H a = some (.tbl ps) ∧ TriplesOk ps.toList ∧ ∀ (pos : Pos) (cv : Value), codeAmong pos ps.toList = some cv → ∃ c, cv = .ref c ∧ (c, LamX.CodeO c q) ∈ φ
structure Rep (K : PySem.W.Frag) (H : Hp) (G : Gh) (S : Sto) : Prop where
  len : G.ι.length = S.length
  nd : G.ι.Nodup
  ok : ∀ (i : Nat) (a : Addr) (o : MO), G.ι[i]? = some a → S[i]? = some o → OkO K H G.φ a o
  phi : Holds G.φ H
  pnl : ∀ p ∈ G.φ, ¬ Live G S p.1
structure Ext (H : Hp) (G : Gh) (S : Sto) (H' : Hp) (G' : Gh) (S' : Sto) : Prop where
  pre : ∀ (i : Nat) (a : Addr), G.ι[i]? = some a → G'.ι[i]? = some a
  phi : ∀ p ∈ G.φ, p ∈ G'.φ
  frame : ∀ b o, H b = some o → ¬ Live G S b → H' b = some o
  fresh : ∀ b, Live G' S' b → Live G S b ∨ H b = none
  iot : ∀ b, b ∈ G'.ι → b ∈ G.ι ∨ H b = none
  phf : ∀ p ∈ G'.φ, p ∈ G.φ ∨ H p.1 = none ∨ Live G S p.1

section
variable {K : PySem.W.Frag} {H H1 H2 : Hp} {G G1 G2 : Gh} {S S1 S2 : Sto}
theorem Ext.refl : Ext H G S H G S := ⟨fun _ _ h => h, fun _ h => h, fun _ _ h _ => h, fun _ h => .inl h, fun _ h => .inl h, fun _ h => .inl h⟩
theorem Ext.back (a : Ext H G S H1 G1 S1) {c : Addr} (q : H1 c = none) : Live G S c ∨ H c = none := by
  by_cases l : Live G S c
  · exact .inl l
  · cases e : H c with
    | none => exact .inr rfl
    | some o => rw [a.frame c o e l] at q; cases q
theorem Live.mem {c : Addr} (l : Live G S c) : c ∈ G.ι := by
  obtain ⟨i, o, h, _⟩ := l
  exact List.mem_of_getElem? h
theorem Ext.trans (a : Ext H G S H1 G1 S1) (b : Ext H1 G1 S1 H2 G2 S2) : Ext H G S H2 G2 S2 := by
  refine ⟨fun i x h => b.pre i x (a.pre i x h), fun p h => b.phi p (a.phi p h), fun c o h n => ?_, fun c h => ?_, fun c h => ?_, fun p h => ?_⟩
  · refine b.frame c o (a.frame c o h n) fun l => ?_
    rcases a.fresh c l with q | q
    · exact n q
    · rw [h] at q; cases q
  · rcases b.fresh c h with q | q
    · exact a.fresh c q
    · exact a.back q
  · rcases b.iot c h with q | q
    · exact a.iot c q
    · rcases a.back q with q | q
      · exact .inl q.mem
      · exact .inr q
  · rcases b.phf p h with q | q | q
    · exact a.phf p q
    · rcases a.back q with q | q
      · exact .inr (.inr q)
      · exact .inr (.inl q)
    · rcases a.fresh _ q with q | q
      · exact .inr (.inr q)
      · exact .inr (.inl q)
/-- what stands at a live place is a list or a dict -/
theorem Rep.live (r : Rep K H G S) {b : Addr} (l : Live G S b) : (∃ vs, H b = some (.lst vs)) ∨ (∃ ws, H b = some (.dK ws)) ∨ ∃ ps, H b = some (.tbl ps) := by
  obtain ⟨i, o, h1, h2, h3⟩ := l
  have q := r.ok i b o h1 h2
  cases o with
  | dead => exact absurd rfl h3
  | lst xs => obtain ⟨vs, e, _⟩ := q; exact .inl ⟨vs, e⟩
  | dic kvs => obtain ⟨ws, e, _⟩ := q; exact .inr (.inl ⟨ws, e⟩)
  | tab P t => obtain ⟨_, ps, e, _⟩ := q; exact .inr (.inr ⟨ps, e⟩)
theorem Rep.notLive {b : Addr} {o : HO} (r : Rep K H G S) (e : H b = some o) (h1 : ∀ vs, o ≠ .lst vs) (h2 : ∀ ws, o ≠ .dK ws) (h3 : ∀ ps, o ≠ .tbl ps) : ¬ Live G S b := fun l => by
  rcases r.live l with ⟨vs, q⟩ | ⟨ws, q⟩ | ⟨ps, q⟩
  · rw [e] at q; cases q; exact h1 vs rfl
  · rw [e] at q; cases q; exact h2 ws rfl
  · rw [e] at q; cases q; exact h3 ps rfl
theorem Rep.tr (r : Rep K H G S) {b : Addr} (h : b ∈ G.ι) : H b ≠ none := by
  obtain ⟨i, hi, e⟩ := List.getElem_of_mem h
  have hS : i < S.length := by rw [← r.len]; exact hi
  have q := r.ok i b S[i] (by rw [List.getElem?_eq_getElem hi, e]) (by rw [List.getElem?_eq_getElem hS])
  intro z
  cases o : S[i] with
  | dead => rw [o] at q; exact q z
  | lst xs => rw [o] at q; obtain ⟨vs, e, _⟩ := q; rw [z] at e; cases e
  | dic kvs => rw [o] at q; obtain ⟨ws, e, _⟩ := q; rw [z] at e; cases e
  | tab P t => rw [o] at q; obtain ⟨_, ps, e, _⟩ := q; rw [z] at e; cases e
theorem Ext.tup (r : Rep K H G S) (x : Ext H G S H1 G1 S1) {a : Addr} {vs : List V} (h : SqT K H a vs) : SqT K H1 a vs := by
  rcases h with (h | ⟨o, h⟩) | h
  · exact .inl (.inl (x.frame _ _ h (r.notLive h (fun _ z => nomatch z) (fun _ z => nomatch z) fun _ z => nomatch z)))
  · exact .inl (.inr ⟨o, x.frame _ _ h (r.notLive h (fun _ z => nomatch z) (fun _ z => nomatch z) fun _ z => nomatch z)⟩)
  · exact .inr h
end

mutual
theorem Dn.mono {K : PySem.W.Frag} {φ φ' : List (Addr × HO)} {H H' : Hp} (hs : ∀ p ∈ φ, p ∈ φ') (ht : ∀ a vs, SqT K H a vs → SqT K H' a vs) : ∀ {d : PyData} {v : V}, Dn K φ H d v → Dn K φ' H' d v
  | _, _, .non => .non
  | _, _, .bl b => .bl b
  | _, _, .int i => .int i
  | _, _, .str x => .str x
  | _, _, .lst h t => .lst (h.mono hs) (DnAll.mono hs ht t)
  | _, _, .tup h t => .tup (ht _ _ h) (DnAll.mono hs ht t)
  | _, _, .dic h e t => .dic (h.mono hs) e (DnAll.mono hs ht t)
theorem DnAll.mono {K : PySem.W.Frag} {φ φ' : List (Addr × HO)} {H H' : Hp} (hs : ∀ p ∈ φ, p ∈ φ') (ht : ∀ a vs, SqT K H a vs → SqT K H' a vs) : ∀ {ds : List PyData} {vs : List V}, DnAll K φ H ds vs → DnAll K φ' H' ds vs
  | _, _, .nil => .nil
  | _, _, .cons h t => .cons (Dn.mono hs ht h) (DnAll.mono hs ht t)
end

section
variable {K : PySem.W.Frag} {H H1 H2 : Hp} {G G1 G2 : Gh} {S S1 S2 : Sto}
theorem Ext.dn (r : Rep K H G S) (x : Ext H G S H1 G1 S1) {d : PyData} {v : V} (h : Dn K G.φ H d v) : Dn K G1.φ H1 d v := h.mono x.phi fun _ _ => x.tup r
theorem Ext.dnAll (r : Rep K H G S) (x : Ext H G S H1 G1 S1) {ds : List PyData} {vs : List V} (h : DnAll K G.φ H ds vs) : DnAll K G1.φ H1 ds vs := h.mono x.phi fun _ _ => x.tup r
theorem Ext.den (r : Rep K H G S) (x : Ext H G S H1 G1 S1) : ∀ {d : D} {v : V}, Den K H G d v → Den K H1 G1 d v
  | .p _, _, h => x.dn r h
  | .ob _, _, ⟨a, e, h⟩ => ⟨a, e, x.pre _ _ h⟩
  | .ro _, _, ⟨a, vs, e, h, t⟩ => ⟨a, vs, e, h.mono x.phi, x.dnAll r t⟩
  | .ext _, _, h => ⟨h.1, fun p hp => let ⟨fs, ws, e1, e2, e3, e4⟩ := h.2 p hp; ⟨fs, ws, e1, x.phi _ e2, e3, x.dnAll r e4⟩⟩
theorem Ext.denL (r : Rep K H G S) (x : Ext H G S H1 G1 S1) : ∀ {ds : List D} {vs : List V}, DenL K H G ds vs → DenL K H1 G1 ds vs
  | _, _, .nil => .nil
  | _, _, .cons h t => .cons (x.den r h) (x.denL r t)
end

abbrev Ev := List (Option D)
def RelO (K : PySem.W.Frag) (H : Hp) (G : Gh) : Option D → Option V → Prop
  | none, _ => True
  | some d, some v => Den K H G d v
  | some _, none => False
inductive RelS (K : PySem.W.Frag) (H : Hp) (G : Gh) : Ev → St → Prop
  | nil : RelS K H G [] []
  | cons {d : Option D} {ds : Ev} {v : Option V} {vs : St} : RelO K H G d v → RelS K H G ds vs → RelS K H G (d :: ds) (v :: vs)
section
variable {K : PySem.W.Frag} {H H1 : Hp} {G G1 : Gh} {S S1 : Sto}
theorem RelS.length : ∀ {ρ : Ev} {σ : St}, RelS K H G ρ σ → ρ.length = σ.length
  | _, _, .nil => rfl
  | _, _, .cons _ t => by rw [List.length_cons, List.length_cons, t.length]
theorem Ext.relS (r : Rep K H G S) (x : Ext H G S H1 G1 S1) : ∀ {ρ : Ev} {σ : St}, RelS K H G ρ σ → RelS K H1 G1 ρ σ
  | _, _, .nil => .nil
  | _, _, .cons (d := d) (v := v) h t => .cons (by
      cases d with
      | none => trivial
      | some d => cases v with
        | none => exact h
        | some v => exact x.den r h) (x.relS r t)
theorem RelS.get : ∀ {ρ : Ev} {σ : St} {i : Nat} {d : D}, RelS K H G ρ σ → ρ[i]? = some (some d) → ∃ v, σ[i]? = some (some v) ∧ Den K H G d v
  | _, _, _, _, .nil, e => by simp at e
  | _, _, 0, d, .cons (v := v) h _, e => by
    simp at e; subst e
    cases v with
    | none => exact False.elim h
    | some v => exact ⟨v, rfl, h⟩
  | _, _, i + 1, d, .cons _ t, e => by
    obtain ⟨v, h1, h2⟩ := RelS.get (i := i) (d := d) t (by simpa using e)
    exact ⟨v, by simpa using h1, h2⟩
theorem RelS.set {d : D} {v : V} (h : Den K H G d v) : ∀ {ρ : Ev} {σ : St} (i : Nat), RelS K H G ρ σ → RelS K H G (ρ.set i (some d)) (σ.set i (some v))
  | _, _, _, .nil => .nil
  | _, _, 0, .cons _ t => .cons h t
  | _, _, i + 1, .cons r t => .cons r (RelS.set h i t)
theorem RelS.setNone {w : Option V} : ∀ {ρ : Ev} {σ : St} (i : Nat), RelS K H G ρ σ → RelS K H G (ρ.set i none) (σ.set i w)
  | _, _, _, .nil => .nil
  | _, _, 0, .cons _ t => .cons trivial t
  | _, _, i + 1, .cons r t => .cons r (RelS.setNone i t)
theorem RelS.forget : ∀ {ρ : Ev} {σ : St} (i : Nat), RelS K H G ρ σ → RelS K H G (ρ.set i none) σ
  | _, _, _, .nil => .nil
  | _, _, 0, .cons _ t => .cons trivial t
  | _, _, i + 1, .cons r t => .cons r (RelS.forget i t)
theorem RelS.ofArgs : ∀ {ds : List D} {vs : List V} (n : Nat), DenL K H G ds vs → RelS K H G (ds.map some ++ List.replicate n none) (vs.map some ++ List.replicate n none)
  | _, _, 0, .nil => .nil
  | _, _, n + 1, .nil => by
    rw [List.replicate_succ, List.replicate_succ]
    exact .cons trivial (RelS.ofArgs (ds := []) (vs := []) n .nil)
  | _, _, n, .cons h t => .cons h (RelS.ofArgs n t)
end

def clsOf (K : PySem.W.Frag) (n : Str) : Value := ((PySem.W.nsIn K mainGlobals n).getD none).getD .none
def ExnAt (K : PySem.W.Frag) (H : Hp) (G : Gh) (x : Exn) (d : Option Addr) : Prop :=
  match x.fs with
  | none => d = none
  | some fs => ∃ a ws, d = some a ∧ (a, HO.xd ws) ∈ G.φ ∧ fs.map (·.1) = ws.map (·.1) ∧ DnAll K G.φ H (fs.map (·.2)) (ws.map (·.2))

inductive Out (α : Type) where
  | ok (a : α) (s : Sto)
  | err (x : Exn) (s : Sto)
  | bad
abbrev M (α : Type) := Sto → Out α
def Out.bind {α β : Type} : Out α → (α → M β) → Out β
  | .ok a s, k => k a s
  | .err x s, _ => .err x s
  | .bad, _ => .bad
@[simp] theorem Out.bind_ok {α β : Type} (a : α) (s : Sto) (k : α → M β) : (Out.ok a s).bind k = k a s := rfl
@[simp] theorem Out.bind_err {α β : Type} (x : Exn) (s : Sto) (k : α → M β) : (Out.err x s : Out α).bind k = .err x s := rfl
@[simp] theorem Out.bind_bad {α β : Type} (k : α → M β) : (Out.bad : Out α).bind k = .bad := rfl

abbrev FE := Ev → M D
abbrev FT := Ev → M Bool
abbrev FA := Ev → M (List D)
inductive Fl where
  | next (ρ : Ev)
  | ret (d : D)
  | brk (ρ : Ev)
  | cont (ρ : Ev)
  | exc (x : Exn) (ρ : Ev)
abbrev FS := Ev → Sto → Option (Fl × Sto)

def Aft {α : Type} (K : PySem.W.Frag) (W : WX) (σ : St) (H : Hp) (G : Gh) (S : Sto) (o : Out α) (P : α → Hp → Gh → Sto → Prop) : Prop :=
  match o with
  | .ok a S' => ∀ H' G', Ext H G S H' G' S' → Rep K H' G' S' → P a H' G' S'
  | .err x S' => ∀ H' G' d, Ext H G S H' G' S' → Rep K H' G' S' → ExnAt K H' G' x d → W (clsOf K x.nm) d σ H'
  | .bad => False
theorem Aft.bind {α β : Type} {K : PySem.W.Frag} {W : WX} {σ : St} {H : Hp} {G : Gh} {S : Sto} {o : Out α} {k : α → M β} {P : β → Hp → Gh → Sto → Prop} (h : Aft K W σ H G S (o.bind k) P) :
    Aft K W σ H G S o fun a H1 G1 S1 => Aft K W σ H1 G1 S1 (k a S1) P := by
  cases o with
  | ok a S1 =>
    intro H1 G1 x1 r1
    have h' : Aft K W σ H G S (k a S1) P := h
    show Aft K W σ H1 G1 S1 (k a S1) P
    cases e : k a S1 with
    | ok b S2 =>
      rw [e] at h'
      exact fun H2 G2 x2 r2 => h' H2 G2 (x1.trans x2) r2
    | err x S2 =>
      rw [e] at h'
      exact fun H2 G2 d x2 r2 z => h' H2 G2 d (x1.trans x2) r2 z
    | bad => rw [e] at h'; exact h'
  | err x S1 => exact h
  | bad => exact h
theorem Aft.mono {α : Type} {K : PySem.W.Frag} {W : WX} {σ : St} {H : Hp} {G : Gh} {S : Sto} {o : Out α} {P P' : α → Hp → Gh → Sto → Prop} (h : Aft K W σ H G S o P) (f : ∀ a H' G' S', Ext H G S H' G' S' → Rep K H' G' S' → P a H' G' S' → P' a H' G' S') :
    Aft K W σ H G S o P' := by
  cases o with
  | ok a S1 => exact fun H1 G1 x1 r1 => f a H1 G1 S1 x1 r1 (h H1 G1 x1 r1)
  | err x S1 => exact h
  | bad => exact h
/-- the outcome is known -/
theorem Aft.here {α : Type} {K : PySem.W.Frag} {W : WX} {σ : St} {H : Hp} {G : Gh} {S : Sto} {a : α} {S' : Sto} {P : α → Hp → Gh → Sto → Prop} (h : Aft K W σ H G S (.ok a S') P) {H' : Hp} {G' : Gh} (x : Ext H G S H' G' S') (r : Rep K H' G' S') : P a H' G' S' := h H' G' x r

def AftS (K : PySem.W.Frag) (W : WX) (E : Ends) (H : Hp) (G : Gh) (S : Sto) (o : Option (Fl × Sto)) : Prop :=
  match o with
  | none => False
  | some (.next ρ', S') => ∀ H' G' σ', Ext H G S H' G' S' → Rep K H' G' S' → RelS K H' G' ρ' σ' → E.nx σ' H'
  | some (.ret d, S') => ∀ H' G' v, Ext H G S H' G' S' → Rep K H' G' S' → Den K H' G' d v → E.rt v H'
  | some (.brk ρ', S') => ∀ H' G' σ', Ext H G S H' G' S' → Rep K H' G' S' → RelS K H' G' ρ' σ' → E.bk σ' H'
  | some (.cont ρ', S') => ∀ H' G' σ', Ext H G S H' G' S' → Rep K H' G' S' → RelS K H' G' ρ' σ' → E.ct σ' H'
  | some (.exc x ρ', S') => ∀ H' G' σ' d, Ext H G S H' G' S' → Rep K H' G' S' → RelS K H' G' ρ' σ' → ExnAt K H' G' x d → W (clsOf K x.nm) d σ' H'
theorem AftS.ext {K : PySem.W.Frag} {W : WX} {E : Ends} {H H1 : Hp} {G G1 : Gh} {S S1 : Sto} {o : Option (Fl × Sto)} (h : AftS K W E H G S o) (x : Ext H G S H1 G1 S1) : AftS K W E H1 G1 S1 o := by
  match o with
  | none => exact h
  | some (.next ρ', S') => exact fun H' G' σ' x' => h H' G' σ' (x.trans x')
  | some (.ret d, S') => exact fun H' G' v x' => h H' G' v (x.trans x')
  | some (.brk ρ', S') => exact fun H' G' σ' x' => h H' G' σ' (x.trans x')
  | some (.cont ρ', S') => exact fun H' G' σ' x' => h H' G' σ' (x.trans x')
  | some (.exc y ρ', S') => exact fun H' G' σ' d x' => h H' G' σ' d (x.trans x')

def rd (K : PySem.W.Frag) (W : WX) (f : FE) : TE := fun σ H Q => ∃ G S ρ, RelS K H G ρ σ ∧ Rep K H G S ∧ Aft K W σ H G S (f ρ S) fun d H' G' _ => ∀ v, Den K H' G' d v → Q v H'
def rdT (K : PySem.W.Frag) (W : WX) (f : FT) : TT := fun σ H Q => ∃ G S ρ, RelS K H G ρ σ ∧ Rep K H G S ∧ Aft K W σ H G S (f ρ S) fun b H' _ _ => Q b H'
def rdA (K : PySem.W.Frag) (W : WX) (f : FA) : TA := fun σ H Q => ∃ G S ρ, RelS K H G ρ σ ∧ Rep K H G S ∧ Aft K W σ H G S (f ρ S) fun ds H' G' _ => ∀ vs, DenL K H' G' ds vs → Q vs H'
def rdS (K : PySem.W.Frag) (W : WX) (f : FS) : TS := fun E σ H => ∃ G S ρ, RelS K H G ρ σ ∧ Rep K H G S ∧ AftS K W E H G S (f ρ S)

structure DE (X : Cx) (W : WX) (e : Expr) (f : FE) : Prop where
  run : PE X e (rd X.K W f)
structure DT (X : Cx) (W : WX) (e : Expr) (f : FT) : Prop where
  run : PT X e (rdT X.K W f)
structure DA (X : Cx) (W : WX) (es : List Expr) (f : FA) : Prop where
  run : PA X es (rdA X.K W f)
structure DS (X : Cx) (W : WX) (st : Stmt) (f : FS) : Prop where
  run : PS X st (rdS X.K W f)
structure DSs (X : Cx) (W : WX) (sts : List Stmt) (f : FS) : Prop where
  run : PSs X sts (rdS X.K W f)

section
variable {X : Cx}
theorem PE.imp {e : Expr} {t t' : TE} (h : PE X e t) (i : ∀ σ H Q, t' σ H Q → t σ H Q) : PE X e t' := ⟨fun pins s σ H Q I q => h.run pins s σ H Q I (i σ H Q q)⟩
theorem PT.imp {e : Expr} {t t' : TT} (h : PT X e t) (i : ∀ σ H Q, t' σ H Q → t σ H Q) : PT X e t' := ⟨fun pins s σ H Q I q => h.run pins s σ H Q I (i σ H Q q)⟩
theorem PA.imp {es : List Expr} {t t' : TA} (h : PA X es t) (i : ∀ σ H Q, t' σ H Q → t σ H Q) : PA X es t' := ⟨fun pos pins s σ H Q I q => h.run pos pins s σ H Q I (i σ H Q q)⟩
theorem PS.imp {st : Stmt} {t t' : TS} (h : PS X st t) (i : ∀ D σ H, t' D σ H → t D σ H) : PS X st t' := ⟨fun pins s σ H D I q => h.run pins s σ H D I (i D σ H q)⟩
theorem PSs.imp {sts : List Stmt} {t t' : TS} (h : PSs X sts t) (i : ∀ D σ H, t' D σ H → t D σ H) : PSs X sts t' := ⟨fun pins s σ H D I q => h.run pins s σ H D I (i D σ H q)⟩
end

section
variable {K : PySem.W.Frag} {H : Hp} {G : Gh} {S : Sto}
theorem Rep.notIn (r : Rep K H G S) {p : Addr} (hp : H p = none) : p ∉ G.ι := fun h => r.tr h hp
theorem Rep.notPhi (r : Rep K H G S) {p : Addr} (hp : H p = none) : ∀ q ∈ G.φ, q.1 ≠ p := fun q hq e => by
  have := r.phi q hq
  rw [e, hp] at this; cases this
/-- a new object that is not tracked by the ghost -/
theorem Ext.other (r : Rep K H G S) {p : Addr} {o : HO} (hp : H p = none) : Ext H G S (upd H p o) G S :=
  ⟨fun _ _ h => h, fun _ h => h, fun b u h _ => by rw [upd_ne (ne_of_none h hp)]; exact h, fun b l => .inl l, fun _ h => .inl h, fun _ h => .inl h⟩
theorem OkO.ext {H' : Hp} {φ' : List (Addr × HO)} {a : Addr} {o : MO} (hs : ∀ p ∈ G.φ, p ∈ φ') (ht : ∀ a vs, SqT K H a vs → SqT K H' a vs) (e : ∀ u, H a = some u → H' a = some u) (h : OkO K H G.φ a o) : OkO K H' φ' a o := by
  cases o with
  | dead =>
    intro z
    cases q : H a with
    | none => exact h q
    | some u => rw [e u q] at z; cases z
  | lst xs => obtain ⟨vs, q, t⟩ := h; exact ⟨vs, e _ q, t.mono hs ht⟩
  | dic kvs => obtain ⟨ws, q, k, t⟩ := h; exact ⟨ws, e _ q, k, t.mono hs ht⟩
  | tab P u =>
    obtain ⟨ea, ps, q, k, t⟩ := h
    exact ⟨ea, ps, e _ q, k, fun pos cv hc => let ⟨c, e1, e2⟩ := t pos cv hc; ⟨c, e1, hs _ e2⟩⟩
theorem Rep.other (r : Rep K H G S) {p : Addr} {o : HO} (hp : H p = none) : Rep K (upd H p o) G S := by
  have x := Ext.other (o := o) r hp
  have nn : ∀ {b : Addr} {u : HO}, H b = some u → upd H p o b = some u := fun h => by rw [upd_ne (ne_of_none h hp)]; exact h
  exact ⟨r.len, r.nd, fun i a m h1 h2 => OkO.ext (fun _ h => h) (fun _ _ => x.tup r) (fun u => nn) (r.ok i a m h1 h2), fun q hq => nn (r.phi q hq), r.pnl⟩
/-- a new frozen object -/
theorem Ext.froz (r : Rep K H G S) {p : Addr} {o : HO} (hp : H p = none) : Ext H G S (upd H p o) ⟨G.ι, (p, o) :: G.φ⟩ S :=
  ⟨fun _ _ h => h, fun _ h => List.mem_cons_of_mem _ h, fun b u h _ => by rw [upd_ne (ne_of_none h hp)]; exact h, fun b l => .inl l, fun _ h => .inl h, fun q h => by
    rcases List.mem_cons.mp h with e | h
    · rw [e]; exact .inr (.inl hp)
    · exact .inl h⟩
theorem Rep.froz (r : Rep K H G S) {p : Addr} {o : HO} (hp : H p = none) : Rep K (upd H p o) ⟨G.ι, (p, o) :: G.φ⟩ S := by
  have x := Ext.froz (o := o) r hp
  have nn : ∀ {b : Addr} {u : HO}, H b = some u → upd H p o b = some u := fun h => by rw [upd_ne (ne_of_none h hp)]; exact h
  refine ⟨r.len, r.nd, fun i a m h1 h2 => OkO.ext (G := G) (fun _ h => List.mem_cons_of_mem _ h) (fun _ _ => x.tup r) (fun u => nn) (r.ok i a m h1 h2), fun q hq => ?_, fun q hq => ?_⟩
  · rcases List.mem_cons.mp hq with e | hq
    · subst e; exact upd_same
    · exact nn (r.phi q hq)
  · rcases List.mem_cons.mp hq with e | hq
    · subst e
      rintro ⟨i, m, h1, _, _⟩
      exact r.notIn hp (List.mem_of_getElem? h1)
    · exact r.pnl q hq
/-- a new mutable object -/
def Gh.add (G : Gh) (p : Addr) : Gh := ⟨G.ι ++ [p], G.φ⟩
theorem Gh.add_last (r : Rep K H G S) (p : Addr) : (G.add p).ι[S.length]? = some p := by
  show (G.ι ++ [p])[S.length]? = _
  rw [← r.len]; simp
theorem Live.add {p b : Addr} {m : MO} (r : Rep K H G S) (l : Live (G.add p) (S ++ [m]) b) : Live G S b ∨ b = p := by
  obtain ⟨i, o, h1, h2, h3⟩ := l
  have h1 : (G.ι ++ [p])[i]? = some b := h1
  by_cases hi : i < S.length
  · rw [List.getElem?_append_left (by rw [r.len]; exact hi)] at h1
    rw [List.getElem?_append_left hi] at h2
    exact .inl ⟨i, o, h1, h2, h3⟩
  · rw [List.getElem?_append_right (by rw [r.len]; omega)] at h1
    have : b ∈ [p] := List.mem_of_getElem? h1
    exact .inr (by simpa using this)
theorem Ext.new (r : Rep K H G S) {p : Addr} {o : HO} (m : MO) (hp : H p = none) : Ext H G S (upd H p o) (G.add p) (S ++ [m]) := by
  refine ⟨fun i a h => ?_, fun _ h => h, fun b u h _ => by rw [upd_ne (ne_of_none h hp)]; exact h, fun b l => ?_, fun b h => ?_, fun _ h => .inl h⟩
  · show (G.ι ++ [p])[i]? = some a
    rw [List.getElem?_append_left (List.getElem?_eq_some_iff.mp h).1]; exact h
  · rcases Live.add r l with q | q
    · exact .inl q
    · rw [q]; exact .inr hp
  · rcases List.mem_append.mp (show b ∈ G.ι ++ [p] from h) with q | q
    · exact .inl q
    · have e : b = p := by simpa using q
      rw [e]; exact .inr hp
theorem Rep.new (r : Rep K H G S) {p : Addr} {o : HO} {m : MO} (hp : H p = none) (h : OkO K (upd H p o) G.φ p m) : Rep K (upd H p o) (G.add p) (S ++ [m]) := by
  have x := Ext.new (o := o) r m hp
  have nn : ∀ {b : Addr} {u : HO}, H b = some u → upd H p o b = some u := fun h => by rw [upd_ne (ne_of_none h hp)]; exact h
  refine ⟨?_, ?_, fun i a mo h1 h2 => ?_, fun q hq => nn (r.phi q hq), fun q hq l => ?_⟩
  · show (G.ι ++ [p]).length = (S ++ [m]).length
    rw [List.length_append, List.length_append, r.len]; rfl
  · show (G.ι ++ [p]).Nodup
    rw [List.nodup_append]
    refine ⟨r.nd, by simp, fun a ha b hb => ?_⟩
    have e : b = p := by simpa using hb
    subst e
    intro z; subst z; exact r.notIn hp ha
  · have h1 : (G.ι ++ [p])[i]? = some a := h1
    by_cases hi : i < S.length
    · rw [List.getElem?_append_left (by rw [r.len]; exact hi)] at h1
      rw [List.getElem?_append_left hi] at h2
      exact OkO.ext (G := G) (fun _ h => h) (fun _ _ => x.tup r) (fun u => nn) (r.ok i a mo h1 h2)
    · have hl : i < (S ++ [m]).length := (List.getElem?_eq_some_iff.mp h2).1
      rw [List.length_append] at hl
      have e : i = S.length := by have : i < S.length + 1 := hl; omega
      subst e
      rw [← r.len] at h1
      simp at h1 h2
      subst h1 h2
      exact h
  · rcases Live.add r l with z | z
    · exact r.pnl q hq z
    · exact r.notPhi hp q hq z
/-- a mutable object is changed -/
theorem Live.set {i : Nat} {m m' : MO} {b : Addr} (hm : S[i]? = some m) (hl : m ≠ .dead) (l : Live G (S.set i m') b) : Live G S b := by
  obtain ⟨j, o, h1, h2, h3⟩ := l
  by_cases e : i = j
  · subst e
    exact ⟨i, m, h1, hm, hl⟩
  · rw [List.getElem?_set_ne e] at h2
    exact ⟨j, o, h1, h2, h3⟩
theorem Ext.chg (r : Rep K H G S) {i : Nat} {a : Addr} {m m' : MO} {o : HO} (ha : G.ι[i]? = some a) (hm : S[i]? = some m) (hl : m ≠ .dead) : Ext H G S (upd H a o) G (S.set i m') := by
  refine ⟨fun _ _ h => h, fun _ h => h, fun b u h n => ?_, fun b l => .inl (Live.set hm hl l), fun _ h => .inl h, fun _ h => .inl h⟩
  rw [upd_ne (fun z => n ⟨i, m, by rw [z]; exact ha, hm, hl⟩)]; exact h
theorem Rep.chg (r : Rep K H G S) {i : Nat} {a : Addr} {m m' : MO} {o : HO} (ha : G.ι[i]? = some a) (hm : S[i]? = some m) (hl : m ≠ .dead) (h : OkO K (upd H a o) G.φ a m') : Rep K (upd H a o) G (S.set i m') := by
  have x := Ext.chg (o := o) (m' := m') r ha hm hl
  refine ⟨by rw [List.length_set]; exact r.len, r.nd, fun j b mo h1 h2 => ?_, fun q hq => x.frame _ _ (r.phi q hq) (r.pnl q hq), fun q hq l => r.pnl q hq (Live.set hm hl l)⟩
  by_cases e : i = j
  · subst e
    rw [ha] at h1; cases h1
    have hlt : i < S.length := (List.getElem?_eq_some_iff.mp hm).1
    rw [List.getElem?_set_self hlt] at h2
    cases h2
    exact h
  · rw [List.getElem?_set_ne e] at h2
    have hne : b ≠ a := fun z => e (nodup_ix' r.nd ha (by rw [← z]; exact h1))
    exact OkO.ext (G := G) (fun _ h => h) (fun _ _ => x.tup r) (fun u hu => by rw [upd_ne hne]; exact hu) (r.ok j b mo h1 h2)
  where
  nodup_ix' {l : List Addr} (hN : l.Nodup) {i j : Nat} {x : Addr} (a : l[i]? = some x) (b : l[j]? = some x) : i = j := by
    obtain ⟨h1, e1⟩ := List.getElem?_eq_some_iff.mp a
    obtain ⟨h2, e2⟩ := List.getElem?_eq_some_iff.mp b
    exact (List.getElem_inj hN).mp (e1.trans e2.symm)
/-- a mutable object is frozen -/
theorem Ext.ice {i : Nat} {a : Addr} {m : MO} {o : HO} (ha : G.ι[i]? = some a) (hm : S[i]? = some m) (hl : m ≠ .dead) : Ext H G S H ⟨G.ι, (a, o) :: G.φ⟩ (S.set i .dead) :=
  ⟨fun _ _ h => h, fun _ h => List.mem_cons_of_mem _ h, fun b u h _ => h, fun b l => .inl (by
    obtain ⟨j, u, h1, h2, h3⟩ := l
    exact Live.set hm hl ⟨j, u, h1, h2, h3⟩), fun _ h => .inl h, fun q h => by
      rcases List.mem_cons.mp h with e | h
      · rw [e]; exact .inr (.inr ⟨i, m, ha, hm, hl⟩)
      · exact .inl h⟩
theorem Rep.ice (r : Rep K H G S) {i : Nat} {a : Addr} {m : MO} {o : HO} (ha : G.ι[i]? = some a) (hm : S[i]? = some m) (hl : m ≠ .dead) (ho : H a = some o) : Rep K H ⟨G.ι, (a, o) :: G.φ⟩ (S.set i .dead) := by
  have hlt : i < S.length := (List.getElem?_eq_some_iff.mp hm).1
  refine ⟨by rw [List.length_set]; exact r.len, r.nd, fun j b mo h1 h2 => ?_, fun q hq => ?_, fun q hq l => ?_⟩
  · by_cases e : i = j
    · subst e
      rw [List.getElem?_set_self hlt] at h2
      cases h2
      have h1 : G.ι[i]? = some b := h1
      rw [ha] at h1; cases h1
      show H a ≠ none
      rw [ho]; exact fun z => nomatch z
    · rw [List.getElem?_set_ne e] at h2
      exact OkO.ext (G := G) (fun _ h => List.mem_cons_of_mem _ h) (fun _ _ h => h) (fun _ h => h) (r.ok j b mo h1 h2)
  · rcases List.mem_cons.mp hq with e | hq
    · subst e; exact ho
    · exact r.phi q hq
  · rcases List.mem_cons.mp hq with e | hq
    · subst e
      obtain ⟨j, u, h1, h2, h3⟩ := l
      have h1 : G.ι[j]? = some a := h1
      by_cases e : i = j
      · subst e
        rw [List.getElem?_set_self hlt] at h2
        cases h2
        exact h3 rfl
      · exact e (Rep.chg.nodup_ix' r.nd ha h1)
    · obtain ⟨j, u, h1, h2, h3⟩ := l
      exact r.pnl q hq (Live.set hm hl ⟨j, u, h1, h2, h3⟩)
/-- the later objects of the store are forgotten -/
theorem Live.cut {n : Nat} {b : Addr} (l : Live ⟨G.ι.take n, G.φ⟩ (S.take n) b) : Live G S b := by
  obtain ⟨i, o, h1, h2, h3⟩ := l
  have h1 : (G.ι.take n)[i]? = some b := h1
  rw [List.getElem?_take] at h1 h2
  by_cases hi : i < n
  · rw [if_pos hi] at h1 h2
    exact ⟨i, o, h1, h2, h3⟩
  · rw [if_neg hi] at h1; cases h1
theorem Rep.cut (r : Rep K H G S) (n : Nat) : Rep K H ⟨G.ι.take n, G.φ⟩ (S.take n) := by
  refine ⟨by rw [List.length_take, List.length_take, r.len], r.nd.sublist (List.take_sublist _ _), fun i a o h1 h2 => ?_, r.phi, fun q hq l => r.pnl q hq l.cut⟩
  have h1 : (G.ι.take n)[i]? = some a := h1
  rw [List.getElem?_take] at h1 h2
  by_cases hi : i < n
  · rw [if_pos hi] at h1 h2
    exact r.ok i a o h1 h2
  · rw [if_neg hi] at h1; cases h1
theorem Ext.cut {H1 : Hp} {G1 : Gh} {S1 : Sto} (r : Rep K H G S) (x : Ext H G S H1 G1 S1) : Ext H G S H1 ⟨G1.ι.take S.length, G1.φ⟩ (S1.take S.length) := by
  refine ⟨fun i a h => ?_, x.phi, x.frame, fun b l => x.fresh b l.cut, fun b h => x.iot b (List.mem_of_mem_take h), x.phf⟩
  have hi : i < S.length := by rw [← r.len]; exact (List.getElem?_eq_some_iff.mp h).1
  show (G1.ι.take S.length)[i]? = some a
  rw [List.getElem?_take, if_pos hi]
  exact x.pre i a h
end
end DL

namespace DL
open PySem L2

def LIM : Nat := 1000000
theorem LIM_le : LIM ≤ sizeLine := by unfold LIM; rw [sizeLine_eq]; decide
theorem LIM_lt : LIM < sizeLine := by unfold LIM; rw [sizeLine_eq]; decide

def pys : List D → Option (List PyData)
  | [] => some []
  | .p x :: r => match pys r with
    | some xs => some (x :: xs)
    | none => none
  | _ :: _ => none
section
variable {K : PySem.W.Frag} {H : Hp} {G : Gh} {S : Sto}
theorem pys_den : ∀ {ds : List D} {xs : List PyData} {vs : List V}, pys ds = some xs → DenL K H G ds vs → DnAll K G.φ H xs vs
  | [], xs, _, e, .nil => by cases e; exact .nil
  | .p x :: r, xs, _, e, .cons h t => by
    simp only [pys] at e
    cases q : pys r with
    | none => rw [q] at e; cases e
    | some ys =>
      rw [q] at e; cases e
      exact .cons h (pys_den q t)
  | .ob _ :: _, _, _, e, _ => by cases e
  | .ro _ :: _, _, _, e, _ => by cases e
  | .ext _ :: _, _, _, e, _ => by cases e
theorem pys_len : ∀ {ds : List D} {xs : List PyData}, pys ds = some xs → ds.length = xs.length
  | [], xs, e => by cases e; rfl
  | .p x :: r, xs, e => by
    simp only [pys] at e
    cases q : pys r with
    | none => rw [q] at e; cases e
    | some ys =>
      rw [q] at e; cases e
      rw [List.length_cons, List.length_cons, pys_len q]
  | .ob _ :: _, _, e => by cases e
  | .ro _ :: _, _, e => by cases e
  | .ext _ :: _, _, e => by cases e
end

abbrev QD (K : PySem.W.Frag) (Q : VK) : D → Hp → Gh → Sto → Prop := fun d H' G' _ => ∀ v, Den K H' G' d v → Q v H'
section
variable {K : PySem.W.Frag} {W : WX} {σ : St} {H : Hp} {G : Gh} {S : Sto} {Q : VK} {p : Addr}
theorem Aft.ret {d : D} {v : V} (h : Aft K W σ H G S (.ok d S) (QD K Q)) (r : Rep K H G S) (dv : Den K H G d v) : Q v H := h H G Ext.refl r v dv
theorem Aft.newTup {xs : List PyData} {vs : List V} (h : Aft K W σ H G S (.ok (.p (.tuple xs)) S) (QD K Q)) (r : Rep K H G S) (t : DnAll K G.φ H xs vs) (hp : H p = none) : Q (.ref p) (upd H p (.tup vs)) :=
  h _ G (Ext.other r hp) (Rep.other r hp) _ (Dn.tup (SqT.of upd_same) ((Ext.other r hp).dnAll r t))
theorem Aft.newLst {xs : List PyData} {vs : List V} (h : Aft K W σ H G S (.ok (.p (.list xs)) S) (QD K Q)) (r : Rep K H G S) (t : DnAll K G.φ H xs vs) (hp : H p = none) : Q (.ref p) (upd H p (.lst vs)) :=
  h _ _ (Ext.froz r hp) (Rep.froz r hp) _ (Dn.lst (fun _ q => q _ List.mem_cons_self) ((Ext.froz r hp).dnAll r t))
theorem Aft.newLstM {xs : List PyData} {vs : List V} (h : Aft K W σ H G S (.ok (.ob S.length) (S ++ [.lst xs])) (QD K Q)) (r : Rep K H G S) (t : DnAll K G.φ H xs vs) (hp : H p = none) : Q (.ref p) (upd H p (.lst vs)) :=
  h _ _ (Ext.new r _ hp) (Rep.new r hp ⟨vs, upd_same, (Ext.new r (.lst xs) hp).dnAll r t⟩) _ ⟨p, rfl, Gh.add_last r p⟩
theorem Aft.newDicM {kvs : List (Key × PyData)} {ws : List (Key × V)} (h : Aft K W σ H G S (.ok (.ob S.length) (S ++ [.dic kvs])) (QD K Q)) (r : Rep K H G S) (e : kvs.map (·.1) = ws.map (·.1)) (t : DnAll K G.φ H (kvs.map (·.2)) (ws.map (·.2))) (hp : H p = none) : Q (.ref p) (upd H p (.dK ws)) :=
  h _ _ (Ext.new r _ hp) (Rep.new r hp ⟨ws, upd_same, e, (Ext.new r (.dic kvs) hp).dnAll r t⟩) _ ⟨p, rfl, Gh.add_last r p⟩
def pyKv (kvs : List (Key × PyData)) : List (PyData × PyData) := kvs.map fun p => (keyPy p.1, p.2)
theorem pyKv_keys (kvs : List (Key × PyData)) : (pyKv kvs).map (·.1) = kvs.map (fun p => keyPy p.1) := by simp [pyKv]
theorem pyKv_vals (kvs : List (Key × PyData)) : (pyKv kvs).map (·.2) = kvs.map (·.2) := by simp [pyKv]
theorem Dn.dicOf {φ : List (Addr × HO)} {a : Addr} {kvs : List (Key × PyData)} {ws : List (Key × V)} (f : FD φ a ws) (e : kvs.map (·.1) = ws.map (·.1)) (t : DnAll K φ H (kvs.map (·.2)) (ws.map (·.2))) : Dn K φ H (.dict (pyKv kvs)) (.ref a) := by
  refine .dic f ?_ (by rw [pyKv_vals]; exact t)
  rw [pyKv_keys]
  have := congrArg (List.map keyPy) e
  simpa [List.map_map, Function.comp_def] using this
theorem Aft.newDic {kvs : List (Key × PyData)} {ws : List (Key × V)} (h : Aft K W σ H G S (.ok (.p (.dict (pyKv kvs))) S) (QD K Q)) (r : Rep K H G S) (e : kvs.map (·.1) = ws.map (·.1)) (t : DnAll K G.φ H (kvs.map (·.2)) (ws.map (·.2))) (hp : H p = none) (od : Obj) : Q (.ref p) (upd H p (.frz od (.dK ws))) :=
  h _ _ (Ext.froz r hp) (Rep.froz r hp) _ (Dn.dicOf ⟨od, fun _ q => q _ List.mem_cons_self⟩ e ((Ext.froz r hp).dnAll r t))
theorem upd_twice {H : Hp} {p : Addr} {a b : HO} : upd (upd H p a) p b = upd H p b := by
  funext c
  by_cases h : c = p
  · rw [h, upd_same, upd_same]
  · rw [upd_ne h, upd_ne h, upd_ne h]
/-- what is told behind a step in which a thing may be locked -/
def Lk (Q : VK) : VK := fun v H => Q v H ∨ ∃ d u, H d = some u ∧ Mut (some u) ∧ ∀ od, Q v (upd H d (.frz od u))
theorem Lk.of {Q : VK} {v : V} {H : Hp} (h : Q v H) : Lk Q v H := .inl h
theorem Aft.newDicL {kvs : List (Key × PyData)} {ws : List (Key × V)} (h : Aft K W σ H G S (.ok (.p (.dict (pyKv kvs))) S) (QD K Q)) (r : Rep K H G S) (e : kvs.map (·.1) = ws.map (·.1)) (t : DnAll K G.φ H (kvs.map (·.2)) (ws.map (·.2))) (hp : H p = none) : Lk Q (.ref p) (upd H p (.dK ws)) :=
  .inr ⟨p, .dK ws, upd_same, trivial, fun od => by rw [upd_twice]; exact h.newDic r e t hp od⟩
theorem PE.lk {X : Cx} {e : Expr} {t : TE} (h : PE X e t) : PE X e (fun σ H Q => t σ H (Lk Q)) := by
  refine ⟨fun pins s σ H Q I hw => thn (h.run pins s σ H _ I hw) fun v s1 ⟨x, H1, I1, r, q⟩ => ?_⟩
  rcases q with q | ⟨d, u, hd, mu, q⟩
  · exact ⟨x, H1, I1, r, q⟩
  · obtain ⟨od, I2⟩ := I1.lock hd mu
    exact ⟨x, _, I2, r, q od⟩
theorem CallR.lk {X : Cx} {f : Value} {r : List V → Hp → VK → Prop} (h : CallR X f r) : CallR X f (fun xs H Q => r xs H (Lk Q)) := by
  intro pins s σ H xs us Q I rv hw
  refine thn (h pins s σ H xs us _ I rv hw) fun v s1 ⟨x, H1, I1, r, q⟩ => ?_
  rcases q with q | ⟨d, u, hd, mu, q⟩
  · exact ⟨x, H1, I1, r, q⟩
  · obtain ⟨od, I2⟩ := I1.lock hd mu
    exact ⟨x, _, I2, r, q od⟩
def LkS (nx : L2.St → Hp → Prop) : L2.St → Hp → Prop := fun σ H => nx σ H ∨ ∃ d u, H d = some u ∧ Mut (some u) ∧ ∀ od, nx σ (upd H d (.frz od u))
theorem PS.lkN {X : Cx} {st : Stmt} {t : TS} (h : PS X st t) : PS X st (fun D σ H => t { D with nx := LkS D.nx } σ H) := by
  refine ⟨fun pins s σ H D I hw => thn (h.run pins s σ H _ I hw) fun f s1 q => ?_⟩
  cases f with
  | next =>
    obtain ⟨σ', H', I1, q⟩ := q
    rcases q with q | ⟨d, u, hd, mu, q⟩
    · exact ⟨σ', H', I1, q⟩
    · obtain ⟨od, I2⟩ := I1.lock hd mu
      exact ⟨σ', _, I2, q od⟩
  | brk => exact q
  | cont => exact q
  | ret v => exact q
theorem PSs.lk {X : Cx} {sts : List Stmt} {t : TS} (h : PSs X sts t) : PSs X sts (fun D σ H => t D σ H ∨ ∃ d u, H d = some u ∧ Mut (some u) ∧ ∀ od, t D σ (upd H d (.frz od u))) := by
  refine ⟨fun pins s σ H D I hw => ?_⟩
  rcases hw with hw | ⟨d, u, hd, mu, hw⟩
  · exact h.run pins s σ H D I hw
  · obtain ⟨od, I2⟩ := I.lock hd mu
    exact h.run pins s σ _ D I2 (hw od)
end

def eVar (i : Nat) : FE := fun ρ S => match ρ[i]? with
  | some (some d) => .ok d S
  | _ => .bad
def eC (d : D) : FE := fun _ S => .ok d S
section
variable {X : Cx} {W : WX}
theorem de_var (i : Nat) {x : Str} {pos : Pos} (hN : X.N[i]? = some x := by rfl) (hv : Vis X.env.scope x := by first | exact Or.inl rfl | exact Or.inr (Or.inl rfl) | exact Or.inr (Or.inr rfl)) (hd : (x == ("__debug__" : Str)) = false := by decide)
    (hcd : (x == ("__classdict__" : Str)) = false := by decide) : DE X W (.Name x pos) (eVar i) := by
  refine ⟨PE.imp (pe_var hN hv hd hcd) fun σ H Q ⟨G, S, ρ, rs, rp, h⟩ => ?_⟩
  unfold eVar at h
  split at h
  · rename_i d e
    obtain ⟨v, h1, h2⟩ := rs.get e
    exact ⟨v, h1, h.ret rp h2⟩
  · exact h.elim
theorem de_int {i : Int} {j pos} : DE X W (.Constant (.int i) j pos) (eC (.p (.int i))) := ⟨PE.imp pe_int fun σ H Q ⟨G, S, ρ, rs, rp, h⟩ => Aft.ret h rp (.int i)⟩
theorem de_bl {b : Bool} {j pos} : DE X W (.Constant (.bool b) j pos) (eC (.p (.bool b))) := ⟨PE.imp pe_bl fun σ H Q ⟨G, S, ρ, rs, rp, h⟩ => Aft.ret h rp (.bl b)⟩
theorem de_non {j pos} : DE X W (.Constant .none j pos) (eC (.p .none)) := ⟨PE.imp pe_non fun σ H Q ⟨G, S, ρ, rs, rp, h⟩ => Aft.ret h rp .non⟩
theorem de_str {x : Str} {j pos} : DE X W (.Constant (.str x) j pos) (eC (.p (.str x))) := ⟨PE.imp pe_str fun σ H Q ⟨G, S, ρ, rs, rp, h⟩ => Aft.ret h rp (.str x)⟩
/-- a constant of the module, by its data -/
theorem de_glob {x : Str} {v : V} {u : Value} {d : D} {pos : Pos} (hg : Gl X x) (hm : X.mg x = some u) (r : RelV v u) (hd : ∀ H G, Den X.K H G d v) (hdb : (x == ("__debug__" : Str)) = false := by decide) : DE X W (.Name x pos) (eC d) :=
  ⟨PE.imp (pe_glob hg hm r hdb) fun σ H Q ⟨G, S, ρ, rs, rp, h⟩ => Aft.ret h rp (hd H G)⟩
end

def aNil : FA := fun _ S => .ok [] S
def aCons (f : FE) (g : FA) : FA := fun ρ S => (f ρ S).bind fun d S1 => (g ρ S1).bind fun ds S2 => .ok (d :: ds) S2
def mkTup : List D → M D := fun ds S => match pys ds with
  | some xs => if xs.length ≤ LIM then .ok (.p (.tuple xs)) S else .bad
  | none => .bad
def mkLst : List D → M D := fun ds S => match pys ds with
  | some xs => if xs.length ≤ LIM then .ok (.p (.list xs)) S else .bad
  | none => .bad
def mkLstM : List D → M D := fun ds S => match pys ds with
  | some xs => if xs.length ≤ LIM then .ok (.ob S.length) (S ++ [.lst xs]) else .bad
  | none => .bad
def eA (g : List D → M D) (f : FA) : FE := fun ρ S => (f ρ S).bind g
section
variable {X : Cx} {W : WX} {e : Expr} {es : List Expr} {f : FE} {g : FA} {pos : Pos}
theorem da_nil : DA X W [] aNil := ⟨PA.imp pa_nil fun σ H Q ⟨G, S, ρ, rs, rp, h⟩ => h H G Ext.refl rp _ .nil⟩
theorem da_cons (he : DE X W e f) (hr : DA X W es g) (hs : starEach (e :: es) X.env = (false, eval e X.env) :: starEach es X.env := by rfl) : DA X W (e :: es) (aCons f g) := by
  refine ⟨PA.imp (pa_cons he.run hr.run hs) fun σ H Q ⟨G, S, ρ, rs, rp, h⟩ => ?_⟩
  refine ⟨G, S, ρ, rs, rp, (Aft.bind h).mono fun d H1 G1 S1 x1 r1 h1 v dv => ?_⟩
  refine ⟨G1, S1, ρ, x1.relS rp rs, r1, (Aft.bind h1).mono fun ds H2 G2 S2 x2 r2 h2 vs dvs => ?_⟩
  exact h2 H2 G2 Ext.refl r2 _ (.cons (x2.den r1 dv) dvs)
theorem de_tup {k} (h : DA X W es g) : DE X W (.Tuple es k pos) (eA mkTup g) := by
  refine ⟨PE.imp (pe_tup h.run) fun σ H Q ⟨G, S, ρ, rs, rp, h⟩ => ?_⟩
  refine ⟨G, S, ρ, rs, rp, (Aft.bind h).mono fun ds H1 G1 S1 x1 r1 h1 vs dvs => ?_⟩
  unfold mkTup at h1
  split at h1
  · rename_i xs e
    have t := pys_den e dvs
    by_cases hl : xs.length ≤ LIM
    · rw [if_pos hl] at h1
      exact ⟨by rw [← t.length]; exact Nat.le_trans hl LIM_le, fun p hp => h1.newTup r1 t hp⟩
    · rw [if_neg hl] at h1; exact h1.elim
  · exact h1.elim
theorem de_lst (h : DA X W es g) : DE X W (.List es pos) (eA mkLst g) := by
  refine ⟨PE.imp (pe_lst h.run) fun σ H Q ⟨G, S, ρ, rs, rp, h⟩ => ?_⟩
  refine ⟨G, S, ρ, rs, rp, (Aft.bind h).mono fun ds H1 G1 S1 x1 r1 h1 vs dvs => ?_⟩
  unfold mkLst at h1
  split at h1
  · rename_i xs e
    have t := pys_den e dvs
    by_cases hl : xs.length ≤ LIM
    · rw [if_pos hl] at h1
      exact ⟨by rw [← t.length]; exact Nat.le_trans hl LIM_le, fun p hp => h1.newLst r1 t hp⟩
    · rw [if_neg hl] at h1; exact h1.elim
  · exact h1.elim
theorem de_lstM (h : DA X W es g) : DE X W (.List es pos) (eA mkLstM g) := by
  refine ⟨PE.imp (pe_lst h.run) fun σ H Q ⟨G, S, ρ, rs, rp, h⟩ => ?_⟩
  refine ⟨G, S, ρ, rs, rp, (Aft.bind h).mono fun ds H1 G1 S1 x1 r1 h1 vs dvs => ?_⟩
  unfold mkLstM at h1
  split at h1
  · rename_i xs e
    have t := pys_den e dvs
    by_cases hl : xs.length ≤ LIM
    · rw [if_pos hl] at h1
      exact ⟨by rw [← t.length]; exact Nat.le_trans hl LIM_le, fun p hp => h1.newLstM r1 t hp⟩
    · rw [if_neg hl] at h1; exact h1.elim
  · exact h1.elim
end

/-- the data's operation g is what the reading r asks -/
def Sim2 (K : PySem.W.Frag) (r : R2) (g : D → D → M D) : Prop :=
  ∀ (W : WX) (σ : St) (H : Hp) (G : Gh) (S : Sto) (x y : D) (v w : V) (Q : VK), Rep K H G S → Den K H G x v → Den K H G y w → Aft K W σ H G S (g x y S) (QD K Q) → r v w H Q
def Sim1 (K : PySem.W.Frag) (r : V → Hp → VK → Prop) (g : D → M D) : Prop :=
  ∀ (W : WX) (σ : St) (H : Hp) (G : Gh) (S : Sto) (x : D) (v : V) (Q : VK), Rep K H G S → Den K H G x v → Aft K W σ H G S (g x S) (QD K Q) → r v H Q
def SimA (K : PySem.W.Frag) (r : List V → Hp → VK → Prop) (g : List D → M D) : Prop :=
  ∀ (W : WX) (σ : St) (H : Hp) (G : Gh) (S : Sto) (xs : List D) (vs : List V) (Q : VK), Rep K H G S → DenL K H G xs vs → Aft K W σ H G S (g xs S) (QD K Q) → r vs H Q
def e2 (g : D → D → M D) (a b : FE) : FE := fun ρ S => (a ρ S).bind fun x S1 => (b ρ S1).bind fun y S2 => g x y S2
def e1 (g : D → M D) (a : FE) : FE := fun ρ S => (a ρ S).bind g
section
variable {X : Cx} {W : WX} {a b : Expr} {f h : FE} {pos : Pos}
theorem sim_op {r : R2} {g : D → D → M D} (m : Sim2 X.K r g) {σ : St} {H : Hp} {Q : VK} (q : rd X.K W (e2 g f h) σ H Q) : tOp r (rd X.K W f) (rd X.K W h) σ H Q := by
  obtain ⟨G, S, ρ, rs, rp, q⟩ := q
  refine ⟨G, S, ρ, rs, rp, (Aft.bind q).mono fun x H1 G1 S1 x1 r1 q1 v dv => ?_⟩
  refine ⟨G1, S1, ρ, x1.relS rp rs, r1, (Aft.bind q1).mono fun y H2 G2 S2 x2 r2 q2 w dw => ?_⟩
  exact m W σ H2 G2 S2 x y v w Q r2 (x2.den r1 dv) dw q2
theorem de_bin {op : Operator} {r : R2} {g : D → D → M D} (o : OpR X (binaryOp op) r) (m : Sim2 X.K r g) (ha : DE X W a f) (hb : DE X W b h) : DE X W (.BinOp a op b pos) (e2 g f h) :=
  ⟨PE.imp (pe_op o ha.run hb.run) fun _ _ _ q => sim_op m q⟩
theorem de_cmp {op : CmpOp} {r : R2} {g : D → D → M D} (o : OpR X (compareOp op) r) (m : Sim2 X.K r g) (ha : DE X W a f) (hb : DE X W b h) (hm : behindInMarks op b = false) : DE X W (.Compare a [op] [b] pos) (e2 g f h) :=
  ⟨PE.imp (pe_cmpR o ha.run hb.run hm) fun _ _ _ q => sim_op m q⟩
theorem de_ix {r : R2} {g : D → D → M D} (o : IxR X r) (m : Sim2 X.K r g) (ha : DE X W a f) (hb : DE X W b h) (hs : PlainIx b) : DE X W (.Subscript a b pos) (e2 g f h) :=
  ⟨PE.imp (pe_ix o ha.run hb.run hs) fun _ _ _ q => sim_op m q⟩
theorem de_un {op : UnaryOp} {r : V → Hp → VK → Prop} {g : D → M D} (o : UnR X (unaryOp op) r) (m : Sim1 X.K r g) (ha : DE X W a f) : DE X W (.UnaryOp op a pos) (e1 g f) := by
  refine ⟨PE.imp (pe_un o ha.run) fun σ H Q ⟨G, S, ρ, rs, rp, q⟩ => ?_⟩
  exact ⟨G, S, ρ, rs, rp, (Aft.bind q).mono fun x H1 G1 S1 x1 r1 q1 v dv => m W σ H1 G1 S1 x v Q r1 dv q1⟩
end

def opI (C : Int → Int → Bool) (g : Int → Int → Int) : D → D → M D := fun x y S => match x, y with
  | .p (.int i), .p (.int j) => if C i j then .ok (.p (.int (g i j))) S else .bad
  | _, _ => .bad
def opC (g : Int → Int → Bool) : D → D → M D := fun x y S => match x, y with
  | .p (.int i), .p (.int j) => .ok (.p (.bool (g i j))) S
  | _, _ => .bad
section
variable {K : PySem.W.Frag} {H : Hp} {G : Gh}
theorem den_int {i : Int} {v : V} (h : Den K H G (.p (.int i)) v) : v = .int i := by cases h; rfl
theorem den_str {i : Str} {v : V} (h : Den K H G (.p (.str i)) v) : v = .str i := by cases h; rfl
theorem den_bool {i : Bool} {v : V} (h : Den K H G (.p (.bool i)) v) : v = .bl i := by cases h; rfl
theorem den_none {v : V} (h : Den K H G (.p .none) v) : v = .non := by cases h; rfl
theorem den_tup {xs : List PyData} {v : V} (h : Den K H G (.p (.tuple xs)) v) : ∃ a vs, v = .ref a ∧ SqT K H a vs ∧ DnAll K G.φ H xs vs := by
  cases h with
  | tup h t => exact ⟨_, _, rfl, h, t⟩
theorem den_lst {xs : List PyData} {v : V} (h : Den K H G (.p (.list xs)) v) : ∃ a vs, v = .ref a ∧ FL G.φ a vs ∧ DnAll K G.φ H xs vs := by
  cases h with
  | lst h t => exact ⟨_, _, rfl, h, t⟩
theorem den_dic {kvs : List (PyData × PyData)} {v : V} (h : Den K H G (.p (.dict kvs)) v) : ∃ a ws, v = .ref a ∧ FD G.φ a ws ∧ kvs.map (·.1) = ws.map (fun p => keyPy p.1) ∧ DnAll K G.φ H (kvs.map (·.2)) (ws.map (·.2)) := by
  cases h with
  | dic h e t => exact ⟨_, _, rfl, h, e, t⟩
theorem sim_int {C : Int → Int → Bool} {P : Int → Int → Prop} {g : Int → Int → Int} (hC : ∀ i j, C i j = true → P i j) : Sim2 K (rI P fun i j => .int (g i j)) (opI C g) := by
  intro W σ H G S x y v w Q rp dx dy q
  unfold opI at q
  split at q
  · rename_i i j
    by_cases hc : C i j = true
    · rw [if_pos hc] at q
      exact ⟨i, j, den_int dx, den_int dy, hC i j hc, q.ret rp (.int _)⟩
    · rw [if_neg hc] at q; exact q.elim
  · exact q.elim
theorem sim_int0 {g : Int → Int → Int} : Sim2 K (rI0 fun i j => .int (g i j)) (opI (fun _ _ => true) g) := by
  intro W σ H G S x y v w Q rp dx dy q
  unfold opI at q
  split at q
  · rename_i i j
    exact ⟨i, j, den_int dx, den_int dy, q.ret rp (.int _)⟩
  · exact q.elim
theorem sim_cmp {g : Int → Int → Bool} : Sim2 K (rI0 fun i j => .bl (g i j)) (opC g) := by
  intro W σ H G S x y v w Q rp dx dy q
  unfold opC at q
  split at q
  · rename_i i j
    exact ⟨i, j, den_int dx, den_int dy, q.ret rp (.bl _)⟩
  · exact q.elim
end
def opSub : D → D → M D := opI (fun _ _ => true) fun i j => i - j
def opMulI : D → D → M D := opI (fun i j => (decide (-(2 ^ 64) < i) && decide (i < 2 ^ 64)) || (decide (-(2 ^ 64) < j) && decide (j < 2 ^ 64))) fun i j => i * j
def opMod : D → D → M D := opI (fun _ j => decide (0 < j)) fun i j => i % j
def opDiv : D → D → M D := opI (fun _ j => decide (0 < j) && decide (j < 1073741824)) fun i j => i / j
def opPow : D → D → M D := opI (fun i j => decide (0 ≤ j) && (decide (j ≤ 1000000) && decide (i.natAbs < 2 ^ 64))) fun i j => i ^ j.toNat
def opLt : D → D → M D := opC fun i j => decide (i < j)
def opLe : D → D → M D := opC fun i j => decide (i ≤ j)
def opGt : D → D → M D := opC fun i j => decide (j < i)
def opGe : D → D → M D := opC fun i j => decide (j ≤ i)
section
variable {X : Cx} {W : WX} {a b : Expr} {f h : FE} {pos : Pos}
theorem de_sub (ha : DE X W a f) (hb : DE X W b h) : DE X W (.BinOp a .Sub b pos) (e2 opSub f h) := de_bin op_sub sim_int0 ha hb
theorem de_mod (ha : DE X W a f) (hb : DE X W b h) : DE X W (.BinOp a .Mod b pos) (e2 opMod f h) := de_bin op_mod (sim_int fun i j q => of_decide_eq_true q) ha hb
theorem de_div (ha : DE X W a f) (hb : DE X W b h) : DE X W (.BinOp a .FloorDiv b pos) (e2 opDiv f h) := de_bin op_fdiv (sim_int fun i j q => by
  rw [Bool.and_eq_true, decide_eq_true_iff, decide_eq_true_iff] at q; exact q) ha hb
theorem de_pow (ha : DE X W a f) (hb : DE X W b h) : DE X W (.BinOp a .Pow b pos) (e2 opPow f h) := de_bin op_pow (sim_int fun i j q => by
  rw [Bool.and_eq_true, Bool.and_eq_true, decide_eq_true_iff, decide_eq_true_iff, decide_eq_true_iff] at q; exact q) ha hb
theorem de_lt (ha : DE X W a f) (hb : DE X W b h) : DE X W (.Compare a [.Lt] [b] pos) (e2 opLt f h) := de_cmp op_lt sim_cmp ha hb (nomark _)
theorem de_le (ha : DE X W a f) (hb : DE X W b h) : DE X W (.Compare a [.LtE] [b] pos) (e2 opLe f h) := de_cmp op_le sim_cmp ha hb (nomark _)
theorem de_gt (ha : DE X W a f) (hb : DE X W b h) : DE X W (.Compare a [.Gt] [b] pos) (e2 opGt f h) := de_cmp op_gt sim_cmp ha hb (nomark _)
theorem de_ge (ha : DE X W a f) (hb : DE X W b h) : DE X W (.Compare a [.GtE] [b] pos) (e2 opGe f h) := de_cmp op_ge sim_cmp ha hb (nomark _)
def opNeg : D → M D := fun x S => match x with
  | .p (.int i) => .ok (.p (.int (-i))) S
  | _ => .bad
theorem de_neg (ha : DE X W a f) : DE X W (.UnaryOp .USub a pos) (e1 opNeg f) := de_un un_neg (fun W σ H G S x v Q rp dx q => by
  unfold opNeg at q
  split at q
  · rename_i i
    exact ⟨i, den_int dx, q.ret rp (.int _)⟩
  · exact q.elim) ha
/-- + of ints, texts, lists, tuples -/
def opAdd : D → D → M D := fun x y S => match x, y with
  | .p (.int i), .p (.int j) => .ok (.p (.int (i + j))) S
  | .p (.str i), .p (.str j) => if i.length + j.length ≤ LIM then .ok (.p (.str (i ++ j))) S else .bad
  | .p (.list i), .p (.list j) => if i.length + j.length ≤ LIM then .ok (.p (.list (i ++ j))) S else .bad
  | .p (.tuple i), .p (.tuple j) => if i.length + j.length ≤ LIM then .ok (.p (.tuple (i ++ j))) S else .bad
  | _, _ => .bad
def rAddD (K : PySem.W.Frag) : R2 := fun x y H Q => rI0 (fun i j => .int (i + j)) x y H Q ∨ (∃ i j, x = .str i ∧ y = .str j ∧ i.length + j.length ≤ sizeLine ∧ Q (.str (i ++ j)) H) ∨ rCat x y H Q ∨ rCatA K x y H Q
theorem DnAll.nil_iff {K : PySem.W.Frag} {φ : List (Addr × HO)} {H : Hp} {ds : List PyData} {vs : List V} (h : DnAll K φ H ds vs) : vs = [] ↔ ds = [] := by
  cases h <;> simp
theorem sim_add {K : PySem.W.Frag} : Sim2 K (rAddD K) opAdd := by
  intro W σ H G S x y v w Q rp dx dy q
  unfold opAdd at q
  split at q
  · rename_i i j
    exact .inl ⟨i, j, den_int dx, den_int dy, q.ret rp (.int _)⟩
  · rename_i i j
    by_cases hc : i.length + j.length ≤ LIM
    · rw [if_pos hc] at q
      exact .inr (.inl ⟨i, j, den_str dx, den_str dy, Nat.le_trans hc LIM_le, q.ret rp (.str _)⟩)
    · rw [if_neg hc] at q; exact q.elim
  · rename_i i j
    by_cases hc : i.length + j.length ≤ LIM
    · rw [if_pos hc] at q
      obtain ⟨a, vs, rfl, fa, ta⟩ := den_lst dx
      obtain ⟨b, ws, rfl, fb, tb⟩ := den_lst dy
      exact .inr (.inr (.inl ⟨a, b, vs, ws, rfl, rfl, fa H rp.phi, fb H rp.phi, by rw [← ta.length, ← tb.length]; exact Nat.le_trans hc LIM_le, fun p hp => q.newLst rp (ta.append tb) hp⟩))
    · rw [if_neg hc] at q; exact q.elim
  · rename_i i j
    by_cases hc : i.length + j.length ≤ LIM
    · rw [if_pos hc] at q
      obtain ⟨a, vs, rfl, fa, ta⟩ := den_tup dx
      obtain ⟨b, ws, rfl, fb, tb⟩ := den_tup dy
      refine .inr (.inr (.inr ⟨a, b, vs, ws, rfl, rfl, fa, fb, by rw [← ta.length, ← tb.length]; exact Nat.le_trans hc LIM_le, fun e => ?_, fun _ e => ?_, fun _ _ p hp => q.newTup rp (ta.append tb) hp⟩))
      · have e' := ta.nil_iff.mp e
        rw [e', List.nil_append] at q
        exact q.ret rp dy
      · have e' := tb.nil_iff.mp e
        rw [e', List.append_nil] at q
        exact q.ret rp dx
    · rw [if_neg hc] at q; exact q.elim
  · exact q.elim
theorem de_add (ha : DE X W a f) (hb : DE X W b h) : DE X W (.BinOp a .Add b pos) (e2 opAdd f h) :=
  de_bin (op_add.or (op_add_str.or (op_cat.or op_catA))) sim_add ha hb
theorem de_mulI (ha : DE X W a f) (hb : DE X W b h) : DE X W (.BinOp a .Mult b pos) (e2 opMulI f h) := de_bin op_mul (sim_int fun i j q => by
  simp only [Bool.or_eq_true, Bool.and_eq_true, decide_eq_true_eq] at q; exact q) ha hb
end

def val (S : Sto) : D → Option PyData
  | .p x => some x
  | .ob i => match S[i]? with
    | some (.lst xs) => some (.list xs)
    | _ => none
  | _ => none
def opEq (neg : Bool) : D → D → M D := fun x y S => match val S x, val S y with
  | some a, some b => if SeqAt.shaped a && SeqAt.shaped b then .ok (.p (.bool (if neg then !PyData.eqv a b else PyData.eqv a b))) S else .bad
  | _, _ => .bad
mutual
theorem Dn.dp {K : PySem.W.Frag} {φ : List (Addr × HO)} {H : Hp} (ph : L2.Hp → Prop := fun _ => True) (hφ : Holds φ H) : ∀ {d : PyData} {v : V}, d.canLay0 = true → Dn K φ H d v → Dp K H v d
  | _, _, _, .non => .non
  | _, _, _, .bl b => .bl b
  | _, _, _, .int i => .int i
  | _, _, _, .str x => .str x
  | _, _, h, .lst f t => .lst (SqL.of (f H hφ)) (DnAll.dp ph hφ (by simpa only [PyData.canLay0] using h) t)
  | _, _, h, .tup f t => .tup f (DnAll.dp ph hφ (by simpa only [PyData.canLay0] using h) t)
  | _, _, h, .dic _ _ _ => by simp only [PyData.canLay0] at h; cases h
theorem DnAll.dp {K : PySem.W.Frag} {φ : List (Addr × HO)} {H : Hp} (ph : L2.Hp → Prop := fun _ => True) (hφ : Holds φ H) : ∀ {ds : List PyData} {vs : List V}, PyData.canLayAll0 ds = true → DnAll K φ H ds vs → DpAll K H vs ds
  | _, _, _, .nil => .nil
  | _, _, h, .cons a t => by
    simp only [PyData.canLayAll0, Bool.and_eq_true] at h
    exact .cons (Dn.dp ph hφ h.1 a) (DnAll.dp ph hφ h.2 t)
end
theorem val_dp {K : PySem.W.Frag} {H : Hp} {G : Gh} {S : Sto} (rp : Rep K H G S) {d : D} {v : V} {a : PyData} (e : val S d = some a) (hs : SeqAt.shaped a = true) (h : Den K H G d v) : Dp K H v a := by
  have hc := SeqAt.canLay_of_shaped hs
  cases d with
  | p x => cases e; exact Dn.dp (fun _ => True) rp.phi hc h
  | ob i =>
    simp only [val] at e
    split at e
    · rename_i xs ei
      cases e
      obtain ⟨ad, rfl, ha⟩ := h
      obtain ⟨vs, e1, t⟩ := rp.ok i ad _ ha ei
      exact .lst (SqL.of e1) (DnAll.dp (fun _ => True) rp.phi (by simpa only [PyData.canLay0] using hc) t)
    · cases e
  | ro _ => cases e
  | ext _ => cases e
section
variable {X : Cx} {W : WX} {a b : Expr} {f h : FE} {pos : Pos}
theorem sim_eq {K : PySem.W.Frag} : Sim2 K (rEqD K) (opEq false) := by
  intro W σ H G S x y v w Q rp dx dy q
  unfold opEq at q
  split at q
  · rename_i a b ea eb
    by_cases hc : (SeqAt.shaped a && SeqAt.shaped b) = true
    · rw [if_pos hc] at q
      rw [Bool.and_eq_true] at hc
      exact ⟨a, b, val_dp rp ea hc.1 dx, val_dp rp eb hc.2 dy, hc.1, hc.2, q.ret rp (.bl _)⟩
    · rw [if_neg hc] at q; exact q.elim
  · exact q.elim
theorem sim_ne {K : PySem.W.Frag} : Sim2 K (rNeD K) (opEq true) := by
  intro W σ H G S x y v w Q rp dx dy q
  unfold opEq at q
  split at q
  · rename_i a b ea eb
    by_cases hc : (SeqAt.shaped a && SeqAt.shaped b) = true
    · rw [if_pos hc] at q
      rw [Bool.and_eq_true] at hc
      exact ⟨a, b, val_dp rp ea hc.1 dx, val_dp rp eb hc.2 dy, hc.1, hc.2, q.ret rp (.bl _)⟩
    · rw [if_neg hc] at q; exact q.elim
  · exact q.elim
theorem de_eq (hu : X.A.units + 64 < cLine) (ha : DE X W a f) (hb : DE X W b h) : DE X W (.Compare a [.Eq] [b] pos) (e2 (opEq false) f h) := de_cmp (op_eqD hu) sim_eq ha hb (nomark _)
theorem de_ne (hu : X.A.units + 64 < cLine) (ha : DE X W a f) (hb : DE X W b h) : DE X W (.Compare a [.NotEq] [b] pos) (e2 (opEq true) f h) := de_cmp (op_neD hu) sim_ne ha hb (nomark _)
/-- is None, is not None -/
def opIsN (neg : Bool) : D → D → M D := fun x y S => match y with
  | .p .none => match x with
    | .p .none => .ok (.p (.bool (!neg))) S
    | .ext _ => .bad
    | _ => .ok (.p (.bool neg)) S
  | _ => .bad
theorem isN_of {K : PySem.W.Frag} {H : Hp} {G : Gh} {x : D} {v : V} (h : Den K H G x v) (hx : ∀ u, x ≠ .ext u) : decide (v = .non) = (match x with | .p .none => true | _ => false) := by
  cases x with
  | p d => cases h <;> rfl
  | ob i => obtain ⟨a, rfl, _⟩ := h; rfl
  | ro xs => obtain ⟨a, vs, rfl, _⟩ := h; rfl
  | ext u => exact absurd rfl (hx u)
theorem sim_isN {K : PySem.W.Frag} : Sim2 K (fun x y H Q => y = .non ∧ Q (.bl (decide (x = .non))) H) (opIsN false) := by
  intro W σ H G S x y v w Q rp dx dy q
  unfold opIsN at q
  split at q
  · refine ⟨den_none dy, ?_⟩
    split at q
    · rw [den_none dx]; exact q.ret rp (.bl _)
    · exact q.elim
    · rename_i h1 h2
      rw [isN_of dx fun u e => h2 u e]
      refine q.ret rp ?_
      split
      · exact absurd rfl h1
      · exact .bl _
  · exact q.elim
theorem sim_notN {K : PySem.W.Frag} : Sim2 K (fun x y H Q => y = .non ∧ Q (.bl (!decide (x = .non))) H) (opIsN true) := by
  intro W σ H G S x y v w Q rp dx dy q
  unfold opIsN at q
  split at q
  · refine ⟨den_none dy, ?_⟩
    split at q
    · rw [den_none dx]; exact q.ret rp (.bl _)
    · exact q.elim
    · rename_i h1 h2
      rw [isN_of dx fun u e => h2 u e]
      refine q.ret rp ?_
      split
      · exact absurd rfl h1
      · exact .bl _
  · exact q.elim
theorem de_isN (ha : DE X W a f) (hb : DE X W b h) : DE X W (.Compare a [.Is] [b] pos) (e2 (opIsN false) f h) := de_cmp op_isN sim_isN ha hb (nomark _)
theorem de_notN (ha : DE X W a f) (hb : DE X W b h) : DE X W (.Compare a [.IsNot] [b] pos) (e2 (opIsN true) f h) := de_cmp op_notN sim_notN ha hb (nomark _)
end
end DL

namespace DL
open PySem L2

def pyKey : PyData → Option Key
  | .int i => some (.inl i)
  | .str x => some (.inr x)
  | _ => none
theorem pyKey_keyPy (k : Key) : pyKey (keyPy k) = some k := by cases k <;> rfl
theorem keyPy_of {d : PyData} {k : Key} (h : pyKey d = some k) : d = keyPy k := by
  cases d <;> first | (cases h; rfl) | cases h
def unKv : List (PyData × PyData) → Option (List (Key × PyData))
  | [] => some []
  | (k, d) :: r => match pyKey k, unKv r with
    | some k', some r' => some ((k', d) :: r')
    | _, _ => none
@[simp] theorem unKv_pyKv : ∀ kvs : List (Key × PyData), unKv (pyKv kvs) = some kvs
  | [] => rfl
  | (k, d) :: r => by
    show unKv ((keyPy k, d) :: pyKv r) = _
    simp only [unKv, pyKey_keyPy, unKv_pyKv r]
theorem unKv_eq : ∀ {l : List (PyData × PyData)} {kvs : List (Key × PyData)}, unKv l = some kvs → l = pyKv kvs
  | [], kvs, h => by cases h; rfl
  | (k, d) :: r, kvs, h => by
    simp only [unKv] at h
    split at h
    · rename_i k' r' e1 e2
      cases h
      rw [unKv_eq e2, keyPy_of e1]; rfl
    · cases h
def valD (kvs : List (Key × PyData)) (k : Key) : Option PyData := (kvs.find? fun kv => decide (kv.1 = k)).map (·.2)
def putD (kvs : List (Key × PyData)) (k : Key) (d : PyData) : List (Key × PyData) :=
  if (kvs.any fun kv => decide (kv.1 = k)) = true then kvs.map (fun kv => if kv.1 = k then (kv.1, d) else kv) else kvs ++ [(k, d)]
section
variable {K : PySem.W.Frag} {φ : List (Addr × HO)} {H : Hp}
structure KvR (K : PySem.W.Frag) (φ : List (Addr × HO)) (H : Hp) (kvs : List (Key × PyData)) (ws : List (Key × V)) : Prop where
  ks : kvs.map (·.1) = ws.map (·.1)
  vs : DnAll K φ H (kvs.map (·.2)) (ws.map (·.2))
theorem KvR.nil : KvR K φ H [] [] := ⟨rfl, .nil⟩
theorem KvR.cons {k : Key} {d : PyData} {v : V} {kvs : List (Key × PyData)} {ws : List (Key × V)} (h : Dn K φ H d v) (t : KvR K φ H kvs ws) : KvR K φ H ((k, d) :: kvs) ((k, v) :: ws) := ⟨by simp [t.ks], .cons h t.vs⟩
theorem KvR.inv {p : Key × PyData} {kvs : List (Key × PyData)} {l : List (Key × V)} (r : KvR K φ H (p :: kvs) l) : ∃ v ws, l = (p.1, v) :: ws ∧ Dn K φ H p.2 v ∧ KvR K φ H kvs ws := by
  obtain ⟨e, t⟩ := r
  cases l with
  | nil => simp at e
  | cons q ws =>
    simp only [List.map_cons, List.cons.injEq] at e
    cases t with
    | cons h t => exact ⟨q.2, ws, by rw [e.1], h, ⟨e.2, t⟩⟩
theorem KvR.nil_inv {l : List (Key × V)} (r : KvR K φ H [] l) : l = [] := by
  have := r.ks
  simpa using this
theorem KvR.length {kvs : List (Key × PyData)} {ws : List (Key × V)} (r : KvR K φ H kvs ws) : kvs.length = ws.length := by
  have := congrArg List.length r.ks
  simpa using this
theorem KvR.val {k : Key} : ∀ {kvs : List (Key × PyData)} {ws : List (Key × V)}, KvR K φ H kvs ws → (∀ d, valD kvs k = some d → ∃ v, valV ws k = some v ∧ Dn K φ H d v) ∧ (valD kvs k = none → valV ws k = none)
  | [], _, r => by
    rw [r.nil_inv]
    exact ⟨fun d e => (by cases e), fun _ => rfl⟩
  | p :: kvs, _, r => by
    obtain ⟨v, ws, rfl, h, t⟩ := r.inv
    have ih := KvR.val (k := k) t
    by_cases e : p.1 = k
    · have e1 : valD (p :: kvs) k = some p.2 := by simp [valD, List.find?_cons, e]
      have e2 : valV ((p.1, v) :: ws) k = some v := by simp [valV, List.find?_cons, e]
      rw [e1, e2]
      exact ⟨fun d q => by cases q; exact ⟨v, rfl, h⟩, fun q => by cases q⟩
    · have e1 : valD (p :: kvs) k = valD kvs k := by simp [valD, List.find?_cons, e]
      have e2 : valV ((p.1, v) :: ws) k = valV ws k := by simp [valV, List.find?_cons, e]
      rw [e1, e2]; exact ih
theorem KvR.mapPut {k : Key} {d : PyData} {v : V} (h : Dn K φ H d v) : ∀ {kvs : List (Key × PyData)} {ws : List (Key × V)}, KvR K φ H kvs ws → KvR K φ H (kvs.map fun kv => if kv.1 = k then (kv.1, d) else kv) (ws.map fun kv => if kv.1 = k then (kv.1, v) else kv)
  | [], _, r => by rw [r.nil_inv]; exact .nil
  | p :: kvs, _, r => by
    obtain ⟨u, ws, rfl, hu, t⟩ := r.inv
    rw [List.map_cons, List.map_cons]
    by_cases e : p.1 = k
    · rw [if_pos e, if_pos e]; exact .cons h (KvR.mapPut h t)
    · rw [if_neg e, if_neg e]; exact .cons hu (KvR.mapPut h t)
theorem KvR.snoc {k : Key} {d : PyData} {v : V} (h : Dn K φ H d v) : ∀ {kvs : List (Key × PyData)} {ws : List (Key × V)}, KvR K φ H kvs ws → KvR K φ H (kvs ++ [(k, d)]) (ws ++ [(k, v)])
  | [], _, r => by rw [r.nil_inv]; exact .cons h .nil
  | p :: kvs, _, r => by
    obtain ⟨u, ws, rfl, hu, t⟩ := r.inv
    exact .cons hu (KvR.snoc h t)
theorem KvR.any {k : Key} : ∀ {kvs : List (Key × PyData)} {ws : List (Key × V)}, KvR K φ H kvs ws → (kvs.any fun kv => decide (kv.1 = k)) = (ws.any fun kv => decide (kv.1 = k))
  | [], _, r => by rw [r.nil_inv]; rfl
  | p :: kvs, _, r => by
    obtain ⟨u, ws, rfl, hu, t⟩ := r.inv
    rw [List.any_cons, List.any_cons, KvR.any t]
theorem KvR.put {k : Key} {d : PyData} {v : V} {kvs : List (Key × PyData)} {ws : List (Key × V)} (r : KvR K φ H kvs ws) (h : Dn K φ H d v) : KvR K φ H (putD kvs k d) (putK ws k v) := by
  unfold putD putK
  rw [r.any]
  split
  · exact r.mapPut h
  · exact r.snoc h
end

def dicOf (S : Sto) : D → Option (List (Key × PyData))
  | .p (.dict l) => unKv l
  | .ob i => match S[i]? with
    | some (.dic kvs) => some kvs
    | _ => none
  | _ => none
def lstOf (S : Sto) : D → Option (List PyData)
  | .p (.list l) => some l
  | .ob i => match S[i]? with
    | some (.lst l) => some l
    | _ => none
  | _ => none
/-- lists (also the script) and tuples -/
def seqOf (S : Sto) : D → Option (List PyData)
  | .p (.list l) => some l
  | .p (.tuple l) => some l
  | .ro l => some l
  | .ob i => match S[i]? with
    | some (.lst l) => some l
    | _ => none
  | _ => none
section
variable {K : PySem.W.Frag} {H : Hp} {G : Gh} {S : Sto}
theorem dicOf_den (rp : Rep K H G S) {d : D} {v : V} {kvs : List (Key × PyData)} (e : dicOf S d = some kvs) (h : Den K H G d v) : ∃ a ws, v = .ref a ∧ Rd H a (.dK ws) ∧ KvR K G.φ H kvs ws := by
  cases d with
  | p x =>
    cases x with
    | dict l =>
      obtain ⟨a, ws, rfl, f, ek, t⟩ := den_dic h
      have el := unKv_eq (show unKv l = some kvs from e)
      subst el
      refine ⟨a, ws, rfl, .inr ⟨f.choose, f.choose_spec H rp.phi⟩, ?_, by rw [pyKv_vals] at t; exact t⟩
      rw [pyKv_keys] at ek
      have q := congrArg (List.map pyKey) ek
      simp only [List.map_map, Function.comp_def, pyKey_keyPy] at q
      have q2 := congrArg (List.filterMap id) q
      simpa [List.filterMap_map, Function.comp_def] using q2
    | _ => cases e
  | ob i =>
    simp only [dicOf] at e
    split at e
    · rename_i ks ei
      cases e
      obtain ⟨a, rfl, ha⟩ := h
      obtain ⟨ws, e1, e2, t⟩ := rp.ok i a _ ha ei
      exact ⟨a, ws, rfl, .inl e1, e2, t⟩
    · cases e
  | ro _ => cases e
  | ext _ => cases e
theorem lstOf_den (rp : Rep K H G S) {d : D} {v : V} {xs : List PyData} (e : lstOf S d = some xs) (h : Den K H G d v) : ∃ a vs, v = .ref a ∧ H a = some (.lst vs) ∧ DnAll K G.φ H xs vs := by
  cases d with
  | p x =>
    cases x with
    | list l =>
      cases e
      obtain ⟨a, vs, rfl, f, t⟩ := den_lst h
      exact ⟨a, vs, rfl, f H rp.phi, t⟩
    | _ => cases e
  | ob i =>
    simp only [lstOf] at e
    split at e
    · rename_i ks ei
      cases e
      obtain ⟨a, rfl, ha⟩ := h
      obtain ⟨vs, e1, t⟩ := rp.ok i a _ ha ei
      exact ⟨a, vs, rfl, e1, t⟩
    · cases e
  | ro _ => cases e
  | ext _ => cases e
theorem seqOf_den (rp : Rep K H G S) {d : D} {v : V} {xs : List PyData} (e : seqOf S d = some xs) (h : Den K H G d v) : ∃ a vs, v = .ref a ∧ (SqL K H a vs ∨ SqT K H a vs) ∧ DnAll K G.φ H xs vs := by
  cases d with
  | p x =>
    cases x with
    | list l =>
      cases e
      obtain ⟨a, vs, rfl, f, t⟩ := den_lst h
      exact ⟨a, vs, rfl, .inl (SqL.of (f H rp.phi)), t⟩
    | tuple l =>
      cases e
      obtain ⟨a, vs, rfl, f, t⟩ := den_tup h
      exact ⟨a, vs, rfl, .inr f, t⟩
    | _ => cases e
  | ob i =>
    simp only [seqOf] at e
    split at e
    · rename_i ks ei
      cases e
      obtain ⟨a, rfl, ha⟩ := h
      obtain ⟨vs, e1, t⟩ := rp.ok i a _ ha ei
      exact ⟨a, vs, rfl, .inl (SqL.of e1), t⟩
    · cases e
  | ro l =>
    cases e
    obtain ⟨a, vs, rfl, f, t⟩ := h
    exact ⟨a, vs, rfl, .inl (f H rp.phi), t⟩
  | ext _ => cases e
end

theorem atI_dn {K : PySem.W.Frag} {φ : List (Addr × HO)} {H : Hp} {xs : List PyData} {vs : List V} {i : Int} {d : PyData} (t : DnAll K φ H xs vs) (e : atI xs i = some d) : ∃ v, atI vs i = some v ∧ Dn K φ H d v := by
  unfold atI at e ⊢
  rw [← t.length]
  cases q : ixN xs.length i with
  | none => rw [q] at e; cases e
  | some j =>
    rw [q] at e
    exact t.get e
def opSubs : D → D → M D := fun x y S => match y with
  | .p (.int i) => match x with
    | .p (.str z) => if z.length ≤ LIM then (match atI z.cps.toList i with
      | some c => .ok (.p (.str ⟨#[c]⟩)) S
      | none => .bad) else .bad
    | x => match seqOf S x with
      | some xs => (match atI xs i with
        | some d => .ok (.p d) S
        | none => .bad)
      | none => match dicOf S x with
        | some kvs => (match valD kvs (.inl i) with
          | some d => .ok (.p d) S
          | none => .bad)
        | none => .bad
  | .p (.str k) => match dicOf S x with
    | some kvs => (match valD kvs (.inr k) with
      | some d => .ok (.p d) S
      | none => .bad)
    | none => .bad
  | _ => .bad
def rIxDic : R2 := fun x y H Q => ∃ a v, x = .ref a ∧ DGet H a y (some v) ∧ Q v H
section
variable {X : Cx} {W : WX} {a b : Expr} {f h : FE} {pos : Pos}
theorem ix_dic (hu : X.A.units + 1 < cLine) : IxR X rIxDic := by
  intro value slice pins s σ H x y v u Q I rx ry q hs
  obtain ⟨a, w, rfl, g, q⟩ := q
  cases rx
  exact PyProof.Rows.tail_any (dict_typeIs I g) PySem.F.slot_dict_getitem.lookup (d_getItem hu I g ry fun w' s3 I3 rw' => ⟨w, H, I3, rw', q⟩) hs
theorem sim_subs {K : PySem.W.Frag} : Sim2 K (fun x y H Q => rIx K x y H Q ∨ rIxDic x y H Q) opSubs := by
  intro W σ H G S x y v w Q rp dx dy q
  unfold opSubs at q
  split at q
  · rename_i i
    obtain rfl := den_int dy
    split at q
    · rename_i z
      obtain rfl := den_str dx
      by_cases hz : z.length ≤ LIM
      · rw [if_pos hz] at q
        split at q
        · rename_i c e
          exact .inl (.inr (.inr ⟨z, i, c, rfl, rfl, Nat.le_trans hz LIM_le, e, q.ret rp (.str _)⟩))
        · exact q.elim
      · rw [if_neg hz] at q; exact q.elim
    · split at q
      · rename_i xs es
        obtain ⟨a, vs, rfl, hq, t⟩ := seqOf_den rp es dx
        split at q
        · rename_i d e
          obtain ⟨v, e1, dv⟩ := atI_dn t e
          rcases hq with hq | hq
          · exact .inl (.inl ⟨a, vs, i, v, rfl, rfl, hq, e1, q.ret rp dv⟩)
          · exact .inl (.inr (.inl ⟨a, vs, i, v, rfl, rfl, hq, e1, q.ret rp dv⟩))
        · exact q.elim
      · split at q
        · rename_i kvs es
          obtain ⟨a, ws, rfl, hH, r⟩ := dicOf_den rp es dx
          split at q
          · rename_i d e
            obtain ⟨v, e1, dv⟩ := (r.val (k := .inl i)).1 d e
            refine .inr ⟨a, v, rfl, ?_, q.ret rp dv⟩
            rw [← e1]; exact .inl ⟨ws, Sum.inl i, hH, rfl, rfl⟩
          · exact q.elim
        · exact q.elim
  · rename_i k
    obtain rfl := den_str dy
    split at q
    · rename_i kvs es
      obtain ⟨a, ws, rfl, hH, r⟩ := dicOf_den rp es dx
      split at q
      · rename_i d e
        obtain ⟨v, e1, dv⟩ := (r.val (k := .inr k)).1 d e
        refine .inr ⟨a, v, rfl, ?_, q.ret rp dv⟩
        rw [← e1]; exact .inl ⟨ws, Sum.inr k, hH, rfl, rfl⟩
      · exact q.elim
    · exact q.elim
  · exact q.elim
theorem de_subs (hu : X.A.units + 1 < cLine) (ha : DE X W a f) (hb : DE X W b h) (hs : PlainIx b := by exact fun _ _ => rfl) : DE X W (.Subscript a b pos) (e2 opSubs f h) :=
  de_ix (ix_seq.or (ix_dic hu)) sim_subs ha hb hs

def flatP : PyData → Bool
  | .none => true
  | .bool _ => true
  | .int _ => true
  | .str _ => true
  | _ => false
def eqP : PyData → PyData → Bool
  | .none, .none => true
  | .bool a, .bool b => a == b
  | .bool a, .int b => (if a then 1 else 0) == b
  | .int a, .bool b => a == (if b then 1 else 0)
  | .int a, .int b => a == b
  | .str a, .str b => a == b
  | _, _ => false
def inP (x : PyData) (xs : List PyData) : Bool := xs.any fun y => eqP y x
theorem flat_dn {K : PySem.W.Frag} {φ : List (Addr × HO)} {H : Hp} {d : PyData} {v : V} (f : flatP d = true) (h : Dn K φ H d v) : flatV v = true := by
  cases h <;> first | rfl | cases f
theorem eq_dn {K : PySem.W.Frag} {φ : List (Addr × HO)} {H : Hp} {d e : PyData} {v w : V} (f : flatP d = true) (g : flatP e = true) (h : Dn K φ H d v) (k : Dn K φ H e w) : eqV v w = eqP d e := by
  cases h <;> first | exact absurd (show false = true from f) Bool.false_ne_true | (cases k <;> first | exact absurd (show false = true from g) Bool.false_ne_true | rfl)
theorem flat_all {K : PySem.W.Frag} {φ : List (Addr × HO)} {H : Hp} : ∀ {ds : List PyData} {vs : List V}, ds.all flatP = true → DnAll K φ H ds vs → vs.all flatV = true
  | _, _, _, .nil => rfl
  | _, _, f, .cons h t => by
    rw [List.all_cons, Bool.and_eq_true] at f ⊢
    exact ⟨flat_dn f.1 h, flat_all f.2 t⟩
theorem in_all {K : PySem.W.Frag} {φ : List (Addr × HO)} {H : Hp} {x : PyData} {v : V} (fx : flatP x = true) (hx : Dn K φ H x v) : ∀ {ds : List PyData} {vs : List V}, ds.all flatP = true → DnAll K φ H ds vs → inV v vs = inP x ds
  | _, _, _, .nil => rfl
  | _, _, f, .cons h t => by
    rw [List.all_cons, Bool.and_eq_true] at f
    show (eqV _ v || inV v _) = (eqP _ x || inP x _)
    rw [eq_dn f.1 fx h hx, in_all fx hx f.2 t]
/-- a text within a text -/
def inStr (i j : Str) : Bool := !(Builtin.Str.occurrences j i 0 j.length 1).isEmpty
def opIn (neg : Bool) : D → D → M D := fun x y S => match x with
  | .p a => match y, a with
    | .p (.str j), .str i => .ok (.p (.bool (if neg then !inStr i j else inStr i j))) S
    | y, a => match seqOf S y with
      | some xs => if flatP a && xs.all flatP then .ok (.p (.bool (if neg then !inP a xs else inP a xs))) S else .bad
      | none => match dicOf S y, pyKey a with
        | some kvs, some k => .ok (.p (.bool (if neg then !(valD kvs k).isSome else (valD kvs k).isSome))) S
        | _, _ => .bad
  | _ => .bad
def rInD (K : PySem.W.Frag) (neg : Bool) : R2 := fun x y H Q => (∃ i j, x = .str i ∧ y = .str j ∧ Q (.bl (if neg then !inStr i j else inStr i j)) H) ∨ rIn K neg x y H Q ∨ ∃ a ov, y = .ref a ∧ DGet H a x ov ∧ Q (.bl (if neg then !ov.isSome else ov.isSome)) H
theorem sim_in {K : PySem.W.Frag} (neg : Bool) : Sim2 K (rInD K neg) (opIn neg) := by
  intro W σ H G S x y v w Q rp dx dy q
  unfold opIn at q
  split at q
  · rename_i a
    split at q
    · rename_i j i
      obtain rfl := den_str dx
      obtain rfl := den_str dy
      exact .inl ⟨i, j, rfl, rfl, q.ret rp (.bl _)⟩
    · split at q
      · rename_i xs es
        by_cases hc : (flatP a && xs.all flatP) = true
        · rw [if_pos hc] at q
          rw [Bool.and_eq_true] at hc
          obtain ⟨b, vs, rfl, hq, t⟩ := seqOf_den rp es dy
          refine .inr (.inl ⟨b, vs, rfl, hq, flat_dn hc.1 dx, flat_all hc.2 t, ?_⟩)
          rw [in_all hc.1 dx hc.2 t]
          exact q.ret rp (.bl _)
        · rw [if_neg hc] at q; exact q.elim
      · split at q
        · rename_i kvs k es ek
          obtain ⟨b, ws, rfl, hH, r⟩ := dicOf_den rp es dy
          have ea := keyPy_of ek
          subst ea
          have ev : v = kV k := by
            cases k with
            | inl i => exact den_int dx
            | inr z => exact den_str dx
          subst ev
          have e1 : (valV ws k).isSome = (valD kvs k).isSome := by
            cases e : valD kvs k with
            | none => rw [(r.val (k := k)).2 e]; rfl
            | some d => obtain ⟨u, e1, _⟩ := (r.val (k := k)).1 d e; rw [e1]; rfl
          refine .inr (.inr ⟨b, valV ws k, rfl, .inl ⟨ws, k, hH, rfl, rfl⟩, ?_⟩)
          rw [e1]
          exact q.ret rp (.bl _)
        · exact q.elim
  · exact q.elim
theorem op_inD (hu : X.A.units + 1 < cLine) : OpR X (compareOp .In) (rInD X.K false) := by
  intro pins s σ H x y v u Q I rx ry q
  rcases q with q | q | ⟨a, ov, rfl, g, q⟩
  · exact op_in_str pins s σ H x y v u Q I rx ry q
  · exact op_in_seq pins s σ H x y v u Q I rx ry q
  · cases ry
    exact d_in hu I g rx fun s3 I3 => ⟨.bl ov.isSome, H, I3, rfl, q⟩
theorem op_notInD (hu : X.A.units + 1 < cLine) : OpR X (compareOp .NotIn) (rInD X.K true) := by
  intro pins s σ H x y v u Q I rx ry q
  rcases q with q | q | ⟨a, ov, rfl, g, q⟩
  · exact L2.op_notIn_str pins s σ H x y v u Q I rx ry q
  · exact op_notIn_seq pins s σ H x y v u Q I rx ry q
  · cases ry
    exact d_notIn hu I g rx fun s3 I3 => ⟨.bl (!ov.isSome), H, I3, rfl, q⟩
theorem de_in (hu : X.A.units + 1 < cLine) (ha : DE X W a f) (hb : DE X W b h) (hm : behindInMarks .In b = false := by rfl) : DE X W (.Compare a [.In] [b] pos) (e2 (opIn false) f h) := de_cmp (op_inD hu) (sim_in false) ha hb hm
theorem de_notIn (hu : X.A.units + 1 < cLine) (ha : DE X W a f) (hb : DE X W b h) (hm : behindInMarks .NotIn b = false := by rfl) : DE X W (.Compare a [.NotIn] [b] pos) (e2 (opIn true) f h) := de_cmp (op_notInD hu) (sim_in true) ha hb hm
end

def tru (S : Sto) : D → Option Bool
  | .p .none => some false
  | .p (.bool b) => some b
  | .p (.int i) => some (i != 0)
  | .p (.str x) => if x.length ≤ LIM then some ((x.length : Int) != 0) else none
  | .p (.list xs) => some (!xs.isEmpty)
  | .p (.tuple xs) => some (!xs.isEmpty)
  | .p (.dict _) => none
  | .ro xs => some (!xs.isEmpty)
  | .ob i => match S[i]? with
    | some (.lst l) => some (!l.isEmpty)
    | some (.dic l) => some (!l.isEmpty)
    | _ => none
  | .ext _ => none
theorem DnAll.isEmpty {K : PySem.W.Frag} {φ : List (Addr × HO)} {H : Hp} {ds : List PyData} {vs : List V} (h : DnAll K φ H ds vs) : vs.isEmpty = ds.isEmpty := by cases h <;> rfl
theorem KvR.isEmpty {K : PySem.W.Frag} {φ : List (Addr × HO)} {H : Hp} {ds : List (Key × PyData)} {vs : List (Key × V)} (h : KvR K φ H ds vs) : vs.isEmpty = ds.isEmpty := by
  have := h.length
  cases ds <;> cases vs <;> first | rfl | (simp at this)
theorem tru_den {K : PySem.W.Frag} {H : Hp} {G : Gh} {S : Sto} (rp : Rep K H G S) {d : D} {v : V} {b : Bool} (e : tru S d = some b) (h : Den K H G d v) : TruV K v H b := by
  cases d with
  | p x =>
    cases x with
    | none => cases e; rw [den_none h]; rfl
    | bool c => cases e; rw [den_bool h]; rfl
    | int i => cases e; rw [den_int h]; rfl
    | str z =>
      simp only [tru] at e
      by_cases hz : z.length ≤ LIM
      · rw [if_pos hz] at e; cases e; rw [den_str h]; exact ⟨Nat.le_trans hz LIM_le, rfl⟩
      · rw [if_neg hz] at e; cases e
    | list l =>
      cases e
      obtain ⟨a, vs, rfl, f, t⟩ := den_lst h
      exact .inl ⟨vs, SqL.of (f H rp.phi), by rw [t.isEmpty]⟩
    | tuple l =>
      cases e
      obtain ⟨a, vs, rfl, f, t⟩ := den_tup h
      exact .inr (.inl ⟨vs, f, by rw [t.isEmpty]⟩)
    | dict l => cases e
  | ro l =>
    cases e
    obtain ⟨a, vs, rfl, f, t⟩ := h
    exact .inl ⟨vs, f H rp.phi, by rw [t.isEmpty]⟩
  | ob i =>
    obtain ⟨a, rfl, ha⟩ := h
    simp only [tru] at e
    split at e
    · rename_i l ei
      cases e
      obtain ⟨vs, e1, t⟩ := rp.ok i a _ ha ei
      exact .inl ⟨vs, SqL.of e1, by rw [t.isEmpty]⟩
    · rename_i l ei
      cases e
      obtain ⟨ws, e1, e2, t⟩ := rp.ok i a _ ha ei
      exact .inr (.inr ⟨ws, e1, by rw [KvR.isEmpty ⟨e2, t⟩]⟩)
    · cases e
  | ext _ => cases e
def truM : D → M Bool := fun d S => match tru S d with
  | some b => .ok b S
  | none => .bad
def tVal (f : FE) : FT := fun ρ S => (f ρ S).bind truM
def tAndD (f g : FT) : FT := fun ρ S => (f ρ S).bind fun b S1 => if b = true then g ρ S1 else .ok false S1
def tOrD (f g : FT) : FT := fun ρ S => (f ρ S).bind fun b S1 => if b = true then .ok true S1 else g ρ S1
def tNotD (f : FT) : FT := fun ρ S => (f ρ S).bind fun b S1 => .ok (!b) S1
def eIf (t : FT) (f g : FE) : FE := fun ρ S => (t ρ S).bind fun b S1 => if b = true then f ρ S1 else g ρ S1
def eAnd (f g : FE) : FE := fun ρ S => (f ρ S).bind fun d S1 => (truM d S1).bind fun b S2 => if b = true then g ρ S2 else .ok d S2
def eOr (f g : FE) : FE := fun ρ S => (f ρ S).bind fun d S1 => (truM d S1).bind fun b S2 => if b = true then .ok d S2 else g ρ S2
def eNot (f : FE) : FE := fun ρ S => (f ρ S).bind fun d S1 => (truM d S1).bind fun b S2 => .ok (.p (.bool (!b))) S2
section
variable {X : Cx} {W : WX} {a b c : Expr} {rest : List Expr} {f g : FE} {t u : FT} {pos : Pos}
theorem dt_val (ha : DE X W a f) (he : ∀ whole, isTrue a X.env whole = (do let v ← whole; standAt a.pos; holding [v] (truthy v)) := by intro _; rfl) : DT X W a (tVal f) := by
  refine ⟨PT.imp (pt_truth ha.run he) fun σ H Q ⟨G, S, ρ, rs, rp, q⟩ => ?_⟩
  refine ⟨G, S, ρ, rs, rp, (Aft.bind q).mono fun d H1 G1 S1 x1 r1 q1 v dv => ?_⟩
  unfold truM at q1
  split at q1
  · rename_i b e
    exact ⟨b, tru_den r1 e dv, q1 H1 G1 Ext.refl r1⟩
  · exact q1.elim
/-- a comparison as a test -/
theorem dt_cmp {op : CmpOp} {r : R2} {g2 : D → D → M D} (o : OpR X (compareOp op) r) (m : Sim2 X.K r g2) (ha : DE X W a f) (hb : DE X W b g) (hm : behindInMarks op b = false) : DT X W (.Compare a [op] [b] pos) (fun ρ S => (e2 g2 f g ρ S).bind fun d S1 => match d with | .p (.bool c) => .ok c S1 | _ => .bad) := by
  refine ⟨PT.imp (pt_cmpR o ha.run hb.run hm) fun σ H Q ⟨G, S, ρ, rs, rp, q⟩ => ?_⟩
  refine sim_op m ⟨G, S, ρ, rs, rp, (Aft.bind q).mono fun d H1 G1 S1 x1 r1 q1 v dv => ?_⟩
  split at q1
  · rename_i c
    exact ⟨c, den_bool dv, q1 H1 G1 Ext.refl r1⟩
  · exact q1.elim
theorem dt_and1 (ha : DT X W a t) : PW X (.BoolOp .And [a] pos) (rdT X.K W t) := pw_and1 ha.run
theorem dt_or1 (ha : DT X W a t) : PW X (.BoolOp .Or [a] pos) (rdT X.K W t) := pw_or1 ha.run
theorem PW.imp {e : Expr} {t t' : TT} (h : PW X e t) (i : ∀ σ H Q, t' σ H Q → t σ H Q) : PW X e t' := ⟨fun wh pins s σ H Q I q => h.run wh pins s σ H Q I (i σ H Q q)⟩
theorem dw_and (ha : DT X W a t) (hb : PW X (.BoolOp .And (b :: rest) pos) (rdT X.K W u)) : PW X (.BoolOp .And (a :: b :: rest) pos) (rdT X.K W (tAndD t u)) := by
  refine PW.imp (pw_and ha.run hb) fun σ H Q ⟨G, S, ρ, rs, rp, q⟩ => ?_
  refine ⟨G, S, ρ, rs, rp, (Aft.bind q).mono fun c H1 G1 S1 x1 r1 q1 => ?_⟩
  cases c with
  | true => exact ⟨G1, S1, ρ, x1.relS rp rs, r1, q1⟩
  | false => exact q1 H1 G1 Ext.refl r1
theorem dw_or (ha : DT X W a t) (hb : PW X (.BoolOp .Or (b :: rest) pos) (rdT X.K W u)) : PW X (.BoolOp .Or (a :: b :: rest) pos) (rdT X.K W (tOrD t u)) := by
  refine PW.imp (pw_or ha.run hb) fun σ H Q ⟨G, S, ρ, rs, rp, q⟩ => ?_
  refine ⟨G, S, ρ, rs, rp, (Aft.bind q).mono fun c H1 G1 S1 x1 r1 q1 => ?_⟩
  cases c with
  | false => exact ⟨G1, S1, ρ, x1.relS rp rs, r1, q1⟩
  | true => exact q1 H1 G1 Ext.refl r1
theorem dt_bool (h : PW X a (rdT X.K W t)) : DT X W a t := ⟨h.pt⟩
theorem dt_not (ha : DT X W a t) : DT X W (.UnaryOp .Not a pos) (tNotD t) := by
  refine ⟨PT.imp (pt_not ha.run) fun σ H Q ⟨G, S, ρ, rs, rp, q⟩ => ?_⟩
  exact ⟨G, S, ρ, rs, rp, (Aft.bind q).mono fun c H1 G1 S1 x1 r1 q1 => q1 H1 G1 Ext.refl r1⟩
theorem de_if (hc : DT X W c t) (ha : DE X W a f) (hb : DE X W b g) : DE X W (.IfExp c a b pos) (eIf t f g) := by
  refine ⟨PE.imp (pe_ifExp hc.run ha.run hb.run) fun σ H Q ⟨G, S, ρ, rs, rp, q⟩ => ?_⟩
  refine ⟨G, S, ρ, rs, rp, (Aft.bind q).mono fun c H1 G1 S1 x1 r1 q1 => ?_⟩
  cases c with
  | true => exact ⟨G1, S1, ρ, x1.relS rp rs, r1, q1⟩
  | false => exact ⟨G1, S1, ρ, x1.relS rp rs, r1, q1⟩
theorem de_one {op} (h : DE X W a f) : DE X W (.BoolOp op [a] pos) f := ⟨pe_one h.run⟩
theorem de_and (ha : DE X W a f) (hb : DE X W (.BoolOp .And (b :: rest) pos) g) : DE X W (.BoolOp .And (a :: b :: rest) pos) (eAnd f g) := by
  refine ⟨PE.imp (pe_andT ha.run hb.run) fun σ H Q ⟨G, S, ρ, rs, rp, q⟩ => ?_⟩
  refine ⟨G, S, ρ, rs, rp, (Aft.bind q).mono fun d H1 G1 S1 x1 r1 q1 v dv => ?_⟩
  unfold truM at q1
  split at q1
  · rename_i b e
    refine ⟨b, tru_den r1 e dv, ?_⟩
    cases b with
    | true => exact ⟨G1, S1, ρ, x1.relS rp rs, r1, q1⟩
    | false => exact Aft.ret q1 r1 dv
  · exact q1.elim
theorem de_or (ha : DE X W a f) (hb : DE X W (.BoolOp .Or (b :: rest) pos) g) : DE X W (.BoolOp .Or (a :: b :: rest) pos) (eOr f g) := by
  refine ⟨PE.imp (pe_orT ha.run hb.run) fun σ H Q ⟨G, S, ρ, rs, rp, q⟩ => ?_⟩
  refine ⟨G, S, ρ, rs, rp, (Aft.bind q).mono fun d H1 G1 S1 x1 r1 q1 v dv => ?_⟩
  unfold truM at q1
  split at q1
  · rename_i b e
    refine ⟨b, tru_den r1 e dv, ?_⟩
    cases b with
    | false => exact ⟨G1, S1, ρ, x1.relS rp rs, r1, q1⟩
    | true => exact Aft.ret q1 r1 dv
  · exact q1.elim
theorem de_not (ha : DE X W a f) : DE X W (.UnaryOp .Not a pos) (eNot f) := by
  refine ⟨PE.imp (pe_notT ha.run) fun σ H Q ⟨G, S, ρ, rs, rp, q⟩ => ?_⟩
  refine ⟨G, S, ρ, rs, rp, (Aft.bind q).mono fun d H1 G1 S1 x1 r1 q1 v dv => ?_⟩
  unfold truM at q1
  split at q1
  · rename_i b e
    exact ⟨b, tru_den r1 e dv, Aft.ret q1 r1 (.bl _)⟩
  · exact q1.elim
/-- the test of a comparison, by the comparison's data -/
def tC2 (g2 : D → D → M D) (f g : FE) : FT := fun ρ S => (e2 g2 f g ρ S).bind fun d S1 => match d with | .p (.bool c) => .ok c S1 | _ => .bad
theorem dt_eq (hu : X.A.units + 64 < cLine) (ha : DE X W a f) (hb : DE X W b g) : DT X W (.Compare a [.Eq] [b] pos) (tC2 (opEq false) f g) := dt_cmp (op_eqD hu) sim_eq ha hb (nomark _)
theorem dt_ne (hu : X.A.units + 64 < cLine) (ha : DE X W a f) (hb : DE X W b g) : DT X W (.Compare a [.NotEq] [b] pos) (tC2 (opEq true) f g) := dt_cmp (op_neD hu) sim_ne ha hb (nomark _)
theorem dt_lt (ha : DE X W a f) (hb : DE X W b g) : DT X W (.Compare a [.Lt] [b] pos) (tC2 opLt f g) := dt_cmp op_lt sim_cmp ha hb (nomark _)
theorem dt_le (ha : DE X W a f) (hb : DE X W b g) : DT X W (.Compare a [.LtE] [b] pos) (tC2 opLe f g) := dt_cmp op_le sim_cmp ha hb (nomark _)
theorem dt_gt (ha : DE X W a f) (hb : DE X W b g) : DT X W (.Compare a [.Gt] [b] pos) (tC2 opGt f g) := dt_cmp op_gt sim_cmp ha hb (nomark _)
theorem dt_ge (ha : DE X W a f) (hb : DE X W b g) : DT X W (.Compare a [.GtE] [b] pos) (tC2 opGe f g) := dt_cmp op_ge sim_cmp ha hb (nomark _)
theorem dt_isN (ha : DE X W a f) (hb : DE X W b g) : DT X W (.Compare a [.Is] [b] pos) (tC2 (opIsN false) f g) := dt_cmp op_isN sim_isN ha hb (nomark _)
theorem dt_notN (ha : DE X W a f) (hb : DE X W b g) : DT X W (.Compare a [.IsNot] [b] pos) (tC2 (opIsN true) f g) := dt_cmp op_notN sim_notN ha hb (nomark _)
theorem dt_in (hu : X.A.units + 1 < cLine) (ha : DE X W a f) (hb : DE X W b g) (hm : behindInMarks .In b = false := by rfl) : DT X W (.Compare a [.In] [b] pos) (tC2 (opIn false) f g) := dt_cmp (op_inD hu) (sim_in false) ha hb hm
theorem dt_notIn (hu : X.A.units + 1 < cLine) (ha : DE X W a f) (hb : DE X W b g) (hm : behindInMarks .NotIn b = false := by rfl) : DT X W (.Compare a [.NotIn] [b] pos) (tC2 (opIn true) f g) := dt_cmp (op_notInD hu) (sim_in true) ha hb hm
end
end DL

namespace DL
open PySem L2

def Out.st {α : Type} (o : Out α) (ρ : Ev) (k : α → Sto → Option (Fl × Sto)) : Option (Fl × Sto) :=
  match o with
  | .ok a s => k a s
  | .err x s => some (.exc x ρ, s)
  | .bad => none
@[simp] theorem Out.st_ok {α : Type} (a : α) (s : Sto) (ρ : Ev) (k : α → Sto → Option (Fl × Sto)) : (Out.ok a s).st ρ k = k a s := rfl
@[simp] theorem Out.st_err {α : Type} (x : Exn) (s : Sto) (ρ : Ev) (k : α → Sto → Option (Fl × Sto)) : (Out.err x s : Out α).st ρ k = some (.exc x ρ, s) := rfl
@[simp] theorem Out.st_bad {α : Type} (ρ : Ev) (k : α → Sto → Option (Fl × Sto)) : (Out.bad : Out α).st ρ k = none := rfl
section
variable {K : PySem.W.Frag} {W : WX} {E : Ends} {H : Hp} {G : Gh} {S : Sto} {σ : St} {ρ : Ev}
theorem AftS.st {α : Type} {o : Out α} {k : α → Sto → Option (Fl × Sto)} (h : AftS K W E H G S (o.st ρ k)) (rs : RelS K H G ρ σ) (rp : Rep K H G S) : Aft K W σ H G S o fun a H1 G1 S1 => AftS K W E H1 G1 S1 (k a S1) := by
  cases o with
  | ok a S1 => exact fun H1 G1 x1 _ => AftS.ext (show AftS K W E H G S (k a S1) from h) x1
  | err x S1 => exact fun H1 G1 d x1 r1 e => h H1 G1 σ d x1 r1 (x1.relS rp rs) e
  | bad => exact h
theorem AftS.next {ρ' : Ev} {S' : Sto} (h : AftS K W E H G S (some (.next ρ', S'))) {H' : Hp} {G' : Gh} {σ' : St} (x : Ext H G S H' G' S') (r : Rep K H' G' S') (s : RelS K H' G' ρ' σ') : E.nx σ' H' := h H' G' σ' x r s
end

def sNext : FS := fun ρ S => some (.next ρ, S)
def sSeq (f g : FS) : FS := fun ρ S => match f ρ S with
  | some (.next ρ', S') => g ρ' S'
  | o => o
def sExpr (f : FE) : FS := fun ρ S => (f ρ S).st ρ fun _ S1 => some (.next ρ, S1)
def sRet (f : FE) : FS := fun ρ S => (f ρ S).st ρ fun d S1 => some (.ret d, S1)
def sSet (i : Nat) (f : FE) : FS := fun ρ S => (f ρ S).st ρ fun d S1 => some (.next (ρ.set i (some d)), S1)
def sIf (t : FT) (f g : FS) : FS := fun ρ S => (t ρ S).st ρ fun b S1 => if b = true then f ρ S1 else g ρ S1
section
variable {X : Cx} {W : WX} {e c : Expr} {st : Stmt} {sts as bs : List Stmt} {f : FE} {g h : FS} {t : FT} {pos : Pos}
theorem dss_nil : DSs X W [] sNext := ⟨PSs.imp pss_nil fun E σ H ⟨G, S, ρ, rs, rp, q⟩ => AftS.next q Ext.refl rp rs⟩
theorem AftS.seq {K : PySem.W.Frag} {E : Ends} {H : Hp} {G : Gh} {S : Sto} {ρ : Ev} (q : AftS K W E H G S (sSeq g h ρ S)) (rp : Rep K H G S) : AftS K W { E with nx := rdS K W h E } H G S (g ρ S) := by
  unfold sSeq at q
  cases eo : g ρ S with
  | none => rw [eo] at q; exact q
  | some p =>
    obtain ⟨fl, S1⟩ := p
    rw [eo] at q
    cases fl with
    | next ρ1 => exact fun H1 G1 σ1 x1 r1 s1 => ⟨G1, S1, ρ1, s1, r1, AftS.ext q x1⟩
    | ret d => exact q
    | brk ρ1 => exact q
    | cont ρ1 => exact q
    | exc x ρ1 => exact q
theorem dss_cons (h1 : DS X W st g) (h2 : DSs X W sts h) : DSs X W (st :: sts) (sSeq g h) :=
  ⟨PSs.imp (pss_cons h1.run h2.run) fun E σ H ⟨G, S, ρ, rs, rp, q⟩ => ⟨G, S, ρ, rs, rp, AftS.seq q rp⟩⟩
theorem dss_one (h1 : DS X W st g) : DSs X W [st] g := ⟨pss_one h1.run⟩
theorem ds_expr (he : DE X W e f) (hs : swapsWith e none pos.line X.env = pure false := by rfl) : DS X W (.Expr e pos) (sExpr f) :=
  ⟨PS.imp (ps_expr he.run hs) fun E σ H ⟨G, S, ρ, rs, rp, q⟩ => ⟨G, S, ρ, rs, rp, (AftS.st q rs rp).mono fun d H1 G1 S1 x1 r1 q1 v dv => AftS.next q1 Ext.refl r1 (x1.relS rp rs)⟩⟩
theorem ds_ret (he : DE X W e f) : DS X W (.Return (some e) pos) (sRet f) :=
  ⟨PS.imp (ps_ret he.run) fun E σ H ⟨G, S, ρ, rs, rp, q⟩ => ⟨G, S, ρ, rs, rp, (AftS.st q rs rp).mono fun d H1 G1 S1 x1 r1 q1 v dv => q1 H1 G1 v Ext.refl r1 dv⟩⟩
theorem ds_retN : DS X W (.Return none pos) (sRet (eC (.p .none))) :=
  ⟨PS.imp ps_retN fun E σ H ⟨G, S, ρ, rs, rp, q⟩ => q H G _ Ext.refl rp .non⟩
theorem ds_set {i : Nat} {x : Str} {pos' : Pos} (hN : X.N.Nodup) (hi : X.N[i]? = some x) (hx : Loc X.env.scope x) (he : DE X W e f) (hs : swapsWith e (some (.Name x pos')) pos.line X.env = pure false := by rfl)
    (hf : X.fn x = true ∨ X.env.scope.names.lookup x = some .local := by first | exact .inl rfl | exact .inr rfl | assumption) : DS X W (.Assign [.Name x pos'] e pos) (sSet i f) :=
  ⟨PS.imp (ps_set hN hi hx he.run hs hf) fun E σ H ⟨G, S, ρ, rs, rp, q⟩ => ⟨G, S, ρ, rs, rp, (AftS.st q rs rp).mono fun d H1 G1 S1 x1 r1 q1 v dv => AftS.next q1 Ext.refl r1 ((x1.relS rp rs).set dv i)⟩⟩
theorem ds_if (hc : DT X W c t) (ha : DSs X W as g) (hb : DSs X W bs h) : DS X W (.If c as bs pos) (sIf t g h) := by
  refine ⟨PS.imp (ps_if hc.run ha.run hb.run) fun E σ H ⟨G, S, ρ, rs, rp, q⟩ => ⟨G, S, ρ, rs, rp, (AftS.st q rs rp).mono fun b H1 G1 S1 x1 r1 q1 => ?_⟩⟩
  cases b with
  | true => exact ⟨G1, S1, ρ, x1.relS rp rs, r1, q1⟩
  | false => exact ⟨G1, S1, ρ, x1.relS rp rs, r1, q1⟩
theorem ds_never : DS X W st (fun _ _ => none) := ⟨PS.imp ps_never fun E σ H ⟨G, S, ρ, rs, rp, q⟩ => q.elim⟩
theorem ds_pass : DS X W (.Pass pos) sNext := ⟨PS.imp ps_pass fun E σ H ⟨G, S, ρ, rs, rp, q⟩ => AftS.next q Ext.refl rp rs⟩
theorem ds_cont : DS X W (.Continue pos) (fun ρ S => some (.cont ρ, S)) := ⟨PS.imp ps_continue fun E σ H ⟨G, S, ρ, rs, rp, q⟩ => q H G σ Ext.refl rp rs⟩
theorem ds_brk : DS X W (.Break pos) (fun ρ S => some (.brk ρ, S)) := ⟨PS.imp ps_break fun E σ H ⟨G, S, ρ, rs, rp, q⟩ => q H G σ Ext.refl rp rs⟩

def iceD (d : D) (S : Sto) : D × Sto := match d with
  | .ob j => match S[j]? with
    | some (.lst xs) => (.p (.list xs), S.set j .dead)
    | some (.dic kvs) => (.p (.dict (pyKv kvs)), S.set j .dead)
    | _ => (d, S)
  | _ => (d, S)
theorem ice_den {K : PySem.W.Frag} {H : Hp} {G : Gh} {S : Sto} {d : D} {v : V} (rp : Rep K H G S) (dv : Den K H G d v) : (∃ G', Ext H G S H G' (iceD d S).2 ∧ Rep K H G' (iceD d S).2 ∧ Den K H G' (iceD d S).1 v) ∨ ∃ a ws, H a = some (.dK ws) ∧ ∀ od, ∃ G', Ext H G S (upd H a (.frz od (.dK ws))) G' (iceD d S).2 ∧ Rep K (upd H a (.frz od (.dK ws))) G' (iceD d S).2 ∧ Den K (upd H a (.frz od (.dK ws))) G' (iceD d S).1 v := by
  unfold iceD
  cases d with
  | p x => exact .inl ⟨G, Ext.refl, rp, dv⟩
  | ro x => exact .inl ⟨G, Ext.refl, rp, dv⟩
  | ext x => exact .inl ⟨G, Ext.refl, rp, dv⟩
  | ob j =>
    obtain ⟨a, rfl, ha⟩ := id dv
    cases e : S[j]? with
    | none => simp only [e]; exact .inl ⟨G, Ext.refl, rp, dv⟩
    | some m =>
      cases m with
      | dead => simp only [e]; exact .inl ⟨G, Ext.refl, rp, dv⟩
      | tab P q => simp only [e]; exact .inl ⟨G, Ext.refl, rp, dv⟩
      | lst xs =>
        simp only [e]
        obtain ⟨vs, e1, t⟩ := rp.ok j a _ ha e
        exact .inl ⟨⟨G.ι, (a, .lst vs) :: G.φ⟩, Ext.ice ha e (fun z => nomatch z), rp.ice ha e (fun z => nomatch z) e1, Dn.lst (fun _ q => q _ List.mem_cons_self) (t.mono (fun _ h => List.mem_cons_of_mem _ h) fun _ _ h => h)⟩
      | dic kvs =>
        simp only [e]
        obtain ⟨ws, e1, e2, t⟩ := rp.ok j a _ ha e
        refine .inr ⟨a, ws, e1, fun od => ?_⟩
        have x1 := Ext.chg (o := .frz od (.dK ws)) (m' := .dic kvs) rp ha e (fun z => nomatch z)
        have xt : ∀ b vs, SqT K H b vs → SqT K (upd H a (.frz od (.dK ws))) b vs := fun b vs => x1.tup rp
        have hlt : j < S.length := (List.getElem?_eq_some_iff.mp e).1
        have r1 : Rep K (upd H a (.frz od (.dK ws))) G (S.set j .dead) := rp.chg ha e (fun z => nomatch z) (by show upd H a _ a ≠ none; rw [upd_same]; exact fun z => nomatch z)
        have x2 : Ext H G S (upd H a (.frz od (.dK ws))) ⟨G.ι, (a, .frz od (.dK ws)) :: G.φ⟩ (S.set j .dead) := by
          have y := Ext.chg (o := .frz od (.dK ws)) (m' := .dead) rp ha e (fun z => nomatch z)
          exact ⟨y.pre, fun _ h => List.mem_cons_of_mem _ h, y.frame, y.fresh, y.iot, fun q h => by
            rcases List.mem_cons.mp h with e' | h
            · rw [e']; exact .inr (.inr ⟨j, _, ha, e, fun z => nomatch z⟩)
            · exact .inl h⟩
        have nl : ¬ Live G (S.set j .dead) a := fun ⟨i, u, h1, h2, h3⟩ => by
          by_cases ei : j = i
          · subst ei
            rw [List.getElem?_set_self hlt] at h2
            cases h2
            exact h3 rfl
          · exact ei (Rep.chg.nodup_ix' rp.nd ha h1)
        refine ⟨⟨G.ι, (a, .frz od (.dK ws)) :: G.φ⟩, x2, ⟨r1.len, r1.nd, fun i b mo h1 h2 => OkO.ext (G := G) (fun _ h => List.mem_cons_of_mem _ h) (fun _ _ h => h) (fun _ h => h) (r1.ok i b mo h1 h2), fun q hq => ?_, fun q hq l => ?_⟩, Dn.dicOf ⟨od, fun _ q => q _ List.mem_cons_self⟩ e2 (t.mono (fun _ h => List.mem_cons_of_mem _ h) xt)⟩
        · rcases List.mem_cons.mp hq with e' | hq
          · subst e'; exact upd_same
          · exact r1.phi q hq
        · rcases List.mem_cons.mp hq with e' | hq
          · subst e'; exact nl l
          · exact r1.pnl q hq l
def sIce (i : Nat) (f : FS) : FS := fun ρ S => match ρ[i]? with
  | some (some d) => f (ρ.set i (some (iceD d S).1)) (iceD d S).2
  | _ => none
theorem RelS.set' {K : PySem.W.Frag} {H : Hp} {G : Gh} {d : D} : ∀ {ρ : Ev} {σ : St} (i : Nat) {v : V}, σ[i]? = some (some v) → Den K H G d v → RelS K H G ρ σ → RelS K H G (ρ.set i (some d)) σ
  | _, _, _, _, e, _, .nil => .nil
  | _, _, 0, _, e, h, .cons _ t => .cons (by simp at e; subst e; exact h) t
  | _, _, i + 1, _, e, h, .cons r t => .cons r (RelS.set' i (by simpa using e) h t)
theorem dss_ice (i : Nat) (h1 : DSs X W sts g) : DSs X W sts (sIce i g) := by
  refine ⟨PSs.imp (PSs.lk h1.run) fun E σ H ⟨G, S, ρ, rs, rp, q⟩ => ?_⟩
  unfold sIce at q
  split at q
  · rename_i d e
    obtain ⟨v, h1, h2⟩ := rs.get e
    rcases ice_den rp h2 with ⟨G', x, r, dv⟩ | ⟨a, ws, ha, h⟩
    · exact .inl ⟨G', _, _, (x.relS rp rs).set' i h1 dv, r, AftS.ext q x⟩
    · refine .inr ⟨a, .dK ws, ha, trivial, fun od => ?_⟩
      obtain ⟨G', x, r, dv⟩ := h od
      exact ⟨G', _, _, (x.relS rp rs).set' i h1 dv, r, AftS.ext q x⟩
  · exact q.elim
/-- an expression's value frozen -/
def eIce (f : FE) : FE := fun ρ S => (f ρ S).bind fun d S1 => .ok (iceD d S1).1 (iceD d S1).2
theorem de_ice (he : DE X W e f) : DE X W e (eIce f) := by
  refine ⟨PE.imp (PE.lk he.run) fun σ H Q ⟨G, S, ρ, rs, rp, q⟩ => ⟨G, S, ρ, rs, rp, (Aft.bind q).mono fun d H1 G1 S1 x1 r1 q1 v dv => ?_⟩⟩
  rcases ice_den r1 dv with ⟨G', x, r, dv'⟩ | ⟨a, ws, ha, h⟩
  · exact .inl (q1 H1 G' x r v dv')
  · refine .inr ⟨a, .dK ws, ha, trivial, fun od => ?_⟩
    obtain ⟨G', x, r, dv'⟩ := h od
    exact q1 _ G' x r v dv'
end

abbrev FG := D → Ev → Sto → Option (Ev × Sto)
abbrev FGs := List D → Ev → Sto → Option (Ev × Sto)
def AftG (K : PySem.W.Frag) (H : Hp) (G : Gh) (S : Sto) (o : Option (Ev × Sto)) (P : Ev → Hp → Gh → Sto → Prop) : Prop :=
  match o with
  | none => False
  | some (ρ', S') => ∀ H' G', Ext H G S H' G' S' → Rep K H' G' S' → P ρ' H' G' S'
def rdG (K : PySem.W.Frag) (vs : List Nat) (g : FG) : TG := fun v σ H Q => ∃ G S ρ d, RelS K H G ρ σ ∧ Rep K H G S ∧ Den K H G d v ∧ AftG K H G S (g d ρ S) fun ρ' H' G' _ => ∀ σ', RelS K H' G' ρ' σ' → wipe σ' vs = wipe σ vs → Q σ' H'
def rdGs (K : PySem.W.Frag) (vs : List Nat) (g : FGs) : TGs := fun us σ H Q => ∃ G S ρ ds, RelS K H G ρ σ ∧ Rep K H G S ∧ DenL K H G ds us ∧ AftG K H G S (g ds ρ S) fun ρ' H' G' _ => ∀ σ', RelS K H' G' ρ' σ' → wipe σ' vs = wipe σ vs → Q σ' H'
/-- the target stores in the places vs alone -/
structure DG (X : Cx) (vs : List Nat) (tg : Expr) (g : FG) : Prop where
  run : PG X tg (rdG X.K vs g)
structure DGs (X : Cx) (vs : List Nat) (tgs : List Expr) (g : FGs) : Prop where
  run : PGs X tgs (rdGs X.K vs g)
theorem PG.imp {X : Cx} {tg : Expr} {t t' : TG} (h : PG X tg t) (i : ∀ v σ H Q, t' v σ H Q → t v σ H Q) : PG X tg t' := ⟨fun pins s σ H v u Q I r q => h.run pins s σ H v u Q I r (i v σ H Q q)⟩
theorem PGs.imp {X : Cx} {tg : List Expr} {t t' : TGs} (h : PGs X tg t) (i : ∀ v σ H Q, t' v σ H Q → t v σ H Q) : PGs X tg t' := ⟨fun pins s σ H v u Q I r q => h.run pins s σ H v u Q I r (i v σ H Q q)⟩
theorem wipe_set (σ : St) (i : Nat) (x : Option V) : ∀ vs : List Nat, i ∈ vs → wipe (σ.set i x) vs = wipe σ vs
  | [], h => by cases h
  | v :: vs, h => by
    show (wipe (σ.set i x) vs).set v none = (wipe σ vs).set v none
    by_cases hv : i ∈ vs
    · rw [wipe_set σ i x vs hv]
    · have e : i = v := by rcases List.mem_cons.mp h with e | e; exact e; exact absurd e hv
      subst e
      have : ∀ (l : List Nat), i ∉ l → wipe (σ.set i x) l = (wipe σ l).set i x := by
        intro l
        induction l with
        | nil => intro _; rfl
        | cons a l ih =>
          intro hl
          show (wipe (σ.set i x) l).set a none = ((wipe σ l).set a none).set i x
          rw [ih (fun z => hl (List.mem_cons_of_mem _ z)), List.set_comm _ _ (fun z => hl (by rw [z]; exact List.mem_cons_self))]
      rw [this vs hv, List.set_set]
theorem wipe_wipe (σ : St) (vs : List Nat) : wipe (wipe σ vs) vs = wipe σ vs := by
  have : ∀ (l vs : List Nat), (∀ a ∈ l, a ∈ vs) → wipe (wipe σ l) vs = wipe σ vs := by
    intro l
    induction l with
    | nil => intro vs _; rfl
    | cons a l ih =>
      intro vs h
      show wipe ((wipe σ l).set a none) vs = wipe σ vs
      rw [wipe_set _ a none vs (h a List.mem_cons_self)]
      exact ih vs fun b hb => h b (List.mem_cons_of_mem _ hb)
  exact this vs vs fun _ h => h
def gN (i : Nat) : FG := fun d ρ S => some (ρ.set i (some d), S)
def gNils : FGs := fun ds ρ S => match ds with
  | [] => some (ρ, S)
  | _ => none
def gConss (g : FG) (h : FGs) : FGs := fun ds ρ S => match ds with
  | d :: r => match g d ρ S with
    | some (ρ1, S1) => h r ρ1 S1
    | none => none
  | [] => none
/-- a tuple (list) of n things is taken apart -/
def gTupD (n : Nat) (h : FGs) : FG := fun d ρ S => match d with
  | .p (.tuple xs) => if xs.length = n then h (xs.map .p) ρ S else none
  | _ => none
def gLstD (n : Nat) (h : FGs) : FG := fun d ρ S => match lstOf S d with
  | some xs => if xs.length = n then h (xs.map .p) ρ S else none
  | none => none
theorem DnAll.denL {K : PySem.W.Frag} {G : Gh} {H : Hp} : ∀ {ds : List PyData} {vs : List V}, DnAll K G.φ H ds vs → DenL K H G (ds.map .p) vs
  | _, _, .nil => .nil
  | _, _, .cons h t => .cons h t.denL
theorem AftG.ext {K : PySem.W.Frag} {H H1 : Hp} {G G1 : Gh} {S S1 : Sto} {o : Option (Ev × Sto)} {P : Ev → Hp → Gh → Sto → Prop} (h : AftG K H G S o P) (x : Ext H G S H1 G1 S1) : AftG K H1 G1 S1 o P := by
  match o with
  | none => exact h
  | some (ρ', S') => exact fun H' G' x' => h H' G' (x.trans x')
theorem AftG.mono {K : PySem.W.Frag} {H : Hp} {G : Gh} {S : Sto} {o : Option (Ev × Sto)} {P P' : Ev → Hp → Gh → Sto → Prop} (h : AftG K H G S o P) (f : ∀ ρ' H' G' S', Ext H G S H' G' S' → Rep K H' G' S' → P ρ' H' G' S' → P' ρ' H' G' S') : AftG K H G S o P' := by
  match o with
  | none => exact h
  | some (ρ', S') => exact fun H' G' x' r => f ρ' H' G' S' x' r (h H' G' x' r)
/-- o[i] = v of a list, of a dict -/
def setD : D → D → D → Sto → Option Sto := fun o i v S => match o, v with
  | .ob j, .p d => match S[j]?, i with
    | some (.lst xs), .p (.int k) => match ixN xs.length k with
      | some n => some (S.set j (.lst (xs.set n d)))
      | none => none
    | some (.dic kvs), .p k => match pyKey k with
      | some k' => if kvs.length < LIM then some (S.set j (.dic (putD kvs k' d))) else none
      | none => none
    | _, _ => none
  | _, _ => none
def gSubD (f h : FE) : FG := fun d ρ S => match f ρ S with
  | .ok o S1 => match h ρ S1 with
    | .ok i S2 => match setD o i d S2 with
      | some S3 => some (ρ, S3)
      | none => none
    | _ => none
  | _ => none
def rSetD : V → V → V → Hp → (Hp → Prop) → Prop := fun o i v H Q => rSetL o i v H Q ∨ ∃ a H', o = .ref a ∧ DPut H a i v H' ∧ Q H'
section
variable {X : Cx} {W : WX} {e : Expr} {es : List Expr} {f : FE} {g : FG} {h : FGs} {pos : Pos} {vs : List Nat}
theorem dg_name {i : Nat} {x : Str} (hN : X.N.Nodup) (hi : X.N[i]? = some x) (hx : Loc X.env.scope x) (hv : i ∈ vs) (hf : X.fn x = true ∨ X.env.scope.names.lookup x = some .local := by first | exact .inl rfl | exact .inr rfl | assumption) : DG X vs (.Name x pos) (gN i) :=
  ⟨PG.imp (pg_name hN hi hx hf) fun v σ H Q ⟨G, S, ρ, d, rs, rp, dv, q⟩ => q H G Ext.refl rp _ (rs.set dv i) (wipe_set σ i _ vs hv)⟩
theorem dgs_nil : DGs X vs [] gNils := by
  refine ⟨PGs.imp pgs_nil fun us σ H Q ⟨G, S, ρ, ds, rs, rp, dv, q⟩ => ?_⟩
  cases dv with
  | nil => exact ⟨rfl, q H G Ext.refl rp σ rs rfl⟩
  | cons _ _ => exact q.elim
theorem dgs_cons (h1 : DG X vs e g) (h2 : DGs X vs es h) (hs : (assignEach (e :: es) X.env).map (·.2) = assign e X.env :: (assignEach es X.env).map (·.2) := by rfl) : DGs X vs (e :: es) (gConss g h) := by
  refine ⟨PGs.imp (pgs_cons h1.run h2.run hs) fun us σ H Q ⟨G, S, ρ, ds, rs, rp, dv, q⟩ => ?_⟩
  cases dv with
  | nil => exact q.elim
  | cons d1 d2 =>
    rename_i d ds v us _x
    refine ⟨_, _, rfl, G, S, ρ, d, rs, rp, d1, ?_⟩
    have q : AftG X.K H G S (match g d ρ S with | some (ρ1, S1) => h ds ρ1 S1 | none => none) _ := q
    cases eg : g d ρ S with
    | none => rw [eg] at q; exact q
    | some p =>
      obtain ⟨ρ1, S1⟩ := p
      rw [eg] at q
      exact fun H1 G1 x1 r1 σ1 rs1 w1 => ⟨G1, S1, ρ1, ds, rs1, r1, x1.denL rp d2, (q.ext x1).mono fun ρ2 H2 G2 S2 x2 r2 q2 σ2 rs2 w2 => q2 σ2 rs2 (w2.trans w1)⟩
theorem dg_tup {n k : Nat} (hc : X.calm = true) (hg : DGs X vs es h) (hn : (assignEach es X.env).length = n := by rfl) (hst : (assignEach es X.env).findIdx? (·.1) = none := by rfl) : DG X vs (.Tuple es k pos) (gTupD n h) := by
  refine ⟨PG.imp (pg_tup hc hg.run hn hst) fun v σ H Q ⟨G, S, ρ, d, rs, rp, dv, q⟩ => ?_⟩
  unfold gTupD at q
  split at q
  · rename_i xs
    by_cases hl : xs.length = n
    · rw [if_pos hl] at q
      obtain ⟨a, us, rfl, hq, t⟩ := den_tup dv
      exact ⟨a, us, rfl, hq, by rw [← t.length]; exact hl, G, S, ρ, _, rs, rp, t.denL, q⟩
    · rw [if_neg hl] at q; exact q.elim
  · exact q.elim
theorem dg_lst {n k : Nat} (hc : X.calm = true) (hg : DGs X vs es h) (hn : (assignEach es X.env).length = n := by rfl) (hst : (assignEach es X.env).findIdx? (·.1) = none := by rfl) : DG X vs (.Tuple es k pos) (gLstD n h) := by
  refine ⟨PG.imp (pg_lst hc hg.run hn hst) fun v σ H Q ⟨G, S, ρ, d, rs, rp, dv, q⟩ => ?_⟩
  unfold gLstD at q
  split at q
  · rename_i xs e
    by_cases hl : xs.length = n
    · rw [if_pos hl] at q
      obtain ⟨a, us, rfl, hq, t⟩ := lstOf_den rp e dv
      exact ⟨a, us, rfl, SqL.of hq, by rw [← t.length]; exact hl, G, S, ρ, _, rs, rp, t.denL, q⟩
    · rw [if_neg hl] at q; exact q.elim
  · exact q.elim
theorem set_D (hu : X.A.units + 1 < cLine) : PSet X rSetD := by
  intro pins s σ H o i v ov iv u Q I ro ri rv q
  rcases q with q | ⟨a, H', rfl, g, q⟩
  · exact set_list pins s σ H o i v ov iv u Q I ro ri rv q
  · cases ro
    exact d_setItem hu I g ri rv fun s' I' => ⟨H', I', q⟩
theorem setD_den {K : PySem.W.Frag} {H : Hp} {G : Gh} {S S' : Sto} {o i d : D} {ov iv v : V} (rp : Rep K H G S) (e : setD o i d S = some S') (ho : Den K H G o ov) (hi : Den K H G i iv) (hd : Den K H G d v) {Q : Hp → Prop}
    (q : ∀ H', Ext H G S H' G S' → Rep K H' G S' → Q H') : rSetD ov iv v H Q := by
  unfold setD at e
  split at e
  · rename_i j x
    obtain ⟨a, rfl, ha⟩ := ho
    split at e
    · rename_i xs k em
      obtain rfl := den_int hi
      obtain ⟨us, e1, t⟩ := rp.ok j a _ ha em
      split at e
      · rename_i n en
        cases e
        refine .inl ⟨a, us, k, n, rfl, rfl, e1, by rw [← t.length]; exact en, ?_⟩
        have x := Ext.chg (o := .lst (us.set n v)) (m' := .lst (xs.set n x)) rp ha em (fun z => nomatch z)
        exact q _ x (rp.chg ha em (fun z => nomatch z) ⟨_, upd_same, x.dnAll rp (t.set hd n)⟩)
      · cases e
    · rename_i kvs k em
      obtain ⟨ws, e1, e2, t⟩ := rp.ok j a _ ha em
      have r : KvR K G.φ H kvs ws := ⟨e2, t⟩
      split at e
      · rename_i k' ek
        by_cases hl : kvs.length < LIM
        · rw [if_pos hl] at e
          cases e
          have ea := keyPy_of ek
          subst ea
          have ev : iv = kV k' := by
            cases k' with
            | inl i => exact den_int hi
            | inr z => exact den_str hi
          subst ev
          refine .inr ⟨a, _, rfl, DPut.k e1 (by rw [← r.length]; exact Nat.lt_trans hl LIM_lt), ?_⟩
          have rr := r.put (k := k') hd
          have x := Ext.chg (o := .dK (putK ws k' v)) (m' := .dic (putD kvs k' x)) rp ha em (fun z => nomatch z)
          exact q _ x (rp.chg ha em (fun z => nomatch z) ⟨_, upd_same, rr.ks, x.dnAll rp rr.vs⟩)
        · rw [if_neg hl] at e; cases e
      · cases e
    · cases e
  · cases e
theorem Aft.of_ok {α : Type} {K : PySem.W.Frag} {σ : St} {H : Hp} {G : Gh} {S : Sto} {o : Out α} {a : α} {S' : Sto} {P : α → Hp → Gh → Sto → Prop} (e : o = .ok a S') (h : ∀ H' G', Ext H G S H' G' S' → Rep K H' G' S' → P a H' G' S') : Aft K W σ H G S o P := by
  rw [e]; exact h
theorem dg_sub {o i : Expr} {fo fi : FE} (hu : X.A.units + 1 < cLine) (ho : DE X W o fo) (hi : DE X W i fi) (ha : ∀ v, assign (.Subscript o i pos) X.env v = (do
      let ov ← holding [v] (eval o X.env)
      let iv ← holding [v, ov] (eval i X.env)
      standAt pos
      holding [v, ov, iv] (setItem ov iv v)
      release [v, ov, iv] []) := by intro _; rfl) : DG X vs (.Subscript o i pos) (gSubD fo fi) := by
  refine ⟨PG.imp (pg_sub ho.run hi.run (set_D hu) ha) fun v σ H Q ⟨G, S, ρ, d, rs, rp, dv, q⟩ => ?_⟩
  unfold gSubD at q
  split at q
  · rename_i od S1 e1
    split at q
    · rename_i id S2 e2
      split at q
      · rename_i S3 e3
        refine ⟨G, S, ρ, rs, rp, Aft.of_ok e1 fun H1 G1 x1 r1 ov dov => ?_⟩
        refine ⟨G1, S1, ρ, x1.relS rp rs, r1, Aft.of_ok e2 fun H2 G2 x2 r2 iv div => ?_⟩
        refine setD_den r2 e3 (x2.den r1 dov) div ((x1.trans x2).den rp dv) fun H3 x3 r3 => ?_
        exact q H3 G2 ((x1.trans x2).trans x3) r3 σ (((x1.trans x2).trans x3).relS rp rs) rfl
      · exact q.elim
    · exact q.elim
  · exact q.elim
end

def sAsg (f : FE) (g : FG) : FS := fun ρ S => (f ρ S).st ρ fun d S1 => match g d ρ S1 with
  | some (ρ', S2) => some (.next ρ', S2)
  | none => none
def sAsgs (f : FA) (g : FGs) : FS := fun ρ S => (f ρ S).st ρ fun ds S1 => match g ds ρ S1 with
  | some (ρ', S2) => some (.next ρ', S2)
  | none => none
section
variable {X : Cx} {W : WX} {e tg : Expr} {es ts : List Expr} {f : FE} {fa : FA} {g : FG} {h : FGs} {pos : Pos} {vs : List Nat}
theorem AftS.tgt {K : PySem.W.Frag} {E : Ends} {H : Hp} {G : Gh} {S : Sto} {σ : St} {o : Option (Ev × Sto)} (q : AftS K W E H G S (match o with | some (ρ', S2) => some (.next ρ', S2) | none => none)) :
    AftG K H G S o fun ρ' H' G' _ => ∀ σ', RelS K H' G' ρ' σ' → wipe σ' vs = wipe σ vs → E.nx σ' H' := by
  match o with
  | none => exact q
  | some (ρ', S') => exact fun H' G' x r σ' rs _ => AftS.next q x r rs
theorem ds_asg (he : DE X W e f) (hg : DG X vs tg g) (hs : swapsWithSole [tg] e pos.line X.env = pure false := by rfl) (hw : swappedStores [tg] e X.env = pure none := by rfl)
    (h1 : (assignEach [tg] X.env).map (·.2) = [assign tg X.env] := by rfl) : DS X W (.Assign [tg] e pos) (sAsg f g) := by
  refine ⟨PS.imp (ps_asg he.run hg.run hs hw h1) fun E σ H ⟨G, S, ρ, rs, rp, q⟩ => ⟨G, S, ρ, rs, rp, (AftS.st q rs rp).mono fun d H1 G1 S1 x1 r1 q1 v dv => ?_⟩⟩
  exact ⟨G1, S1, ρ, d, x1.relS rp rs, r1, dv, AftS.tgt q1⟩
/-- (a, b, ..) = (x, y, ..), by a tuple that is taken apart at once -/
theorem ds_asgTT {n k k' : Nat} {p1 p2 : Pos} (hc : X.calm = true) (ha : DA X W es fa) (hg : DGs X vs ts h) (hl : ts.length = es.length := by rfl) (hn : (assignEach ts X.env).length = n := by rfl) (hst : (assignEach ts X.env).findIdx? (·.1) = none := by rfl)
    (hd : ∀ (ds : List D) ρ S ρ' S', h ds ρ S = some (ρ', S') → ds.length = n) (h100 : n ≤ 100 := by decide)
    (hs : swapsWithSole [.Tuple ts k p1] (.Tuple es k' p2) pos.line X.env = pure false := by rfl) (hw : swappedStores [.Tuple ts k p1] (.Tuple es k' p2) X.env = pure none := by rfl)
    (h1 : (assignEach [.Tuple ts k p1] X.env).map (·.2) = [assign (.Tuple ts k p1) X.env] := by rfl) : DS X W (.Assign [.Tuple ts k p1] (.Tuple es k' p2) pos) (sAsgs fa h) := by
  refine ⟨PS.imp (ps_asg (pe_tup ha.run) (pg_tup hc hg.run hn hst) hs hw h1) fun E σ H ⟨G, S, ρ, rs, rp, q⟩ => ⟨G, S, ρ, rs, rp, (AftS.st q rs rp).mono fun ds H1 G1 S1 x1 r1 q1 us dv => ?_⟩⟩
  cases eo : h ds ρ S1 with
  | none => rw [eo] at q1; exact q1.elim
  | some p =>
    obtain ⟨ρ', S2⟩ := p
    have hlen := hd ds ρ S1 ρ' S2 eo
    have hul : us.length = n := by rw [← dv.length]; exact hlen
    refine ⟨by rw [hul]; exact Nat.le_trans h100 (Nat.le_trans (by decide) LIM_le), fun p hp => ⟨p, us, rfl, SqT.of upd_same, hul, ?_⟩⟩
    have x2 := Ext.other (o := .tup us) r1 hp
    have r2 := Rep.other (o := .tup us) r1 hp
    refine ⟨G1, S1, ρ, ds, x2.relS r1 (x1.relS rp rs), r2, x2.denL r1 dv, ?_⟩
    exact (AftS.tgt q1).ext x2
def gsLen (n : Nat) (h : FGs) : FGs := fun ds ρ S => if ds.length = n then h ds ρ S else none
end
end DL

namespace DL
open PySem L2

def W0 : WX := fun _ _ _ _ => False
/-- no exception may come out of it -/
def noErr {α : Type} : Out α → Out α
  | .ok a s => .ok a s
  | _ => .bad
@[simp] theorem noErr_ok {α : Type} (a : α) (s : Sto) : noErr (.ok a s) = .ok a s := rfl
theorem Aft.noErr {α : Type} {K : PySem.W.Frag} {W W' : WX} {σ σ' : St} {H : Hp} {G : Gh} {S : Sto} {o : Out α} {P : α → Hp → Gh → Sto → Prop} (h : Aft K W σ H G S (noErr o) P) : Aft K W' σ' H G S o P := by
  cases o with
  | ok a s => exact h
  | err x s => exact h.elim
  | bad => exact h.elim

section
variable {X : Cx} {W : WX} {a b : Expr} {fa : FA} {pos : Pos}
theorem lenNil : ∀ (ds : List D) ρ S ρ' S', gNils ds ρ S = some (ρ', S') → ds.length = 0 := by
  intro ds ρ S ρ' S' h
  cases ds with
  | nil => rfl
  | cons _ _ => cases h
theorem lenCons {g : FG} {h : FGs} {n : Nat} (i : ∀ (ds : List D) ρ S ρ' S', h ds ρ S = some (ρ', S') → ds.length = n) : ∀ (ds : List D) ρ S ρ' S', gConss g h ds ρ S = some (ρ', S') → ds.length = n + 1 := by
  intro ds ρ S ρ' S' q
  cases ds with
  | nil => cases q
  | cons d r =>
    simp only [gConss] at q
    split at q
    · rename_i ρ1 S1 e
      rw [List.length_cons, i r ρ1 S1 ρ' S' q]
    · cases q
theorem ds_par {i j : Nat} {x y : Str} {px py pt : Pos} {kt k2 pt2} (hc : X.calm = true) (hN : X.N.Nodup) (hi : X.N[i]? = some x) (hj : X.N[j]? = some y) (hij : i ≠ j)
    (hx : X.env.scope.names.lookup x = some .local) (hy : X.env.scope.names.lookup y = some .local) (ha : DA X W [a, b] fa)
    (hw : swappedStores [.Tuple [.Name x px, .Name y py] kt pt] (.Tuple [a, b] k2 pt2) X.env = pure (some [x, y]) := by rfl)
    (hs : swapsWithSole [.Tuple [.Name x px, .Name y py] kt pt] (.Tuple [a, b] k2 pt2) pos.line X.env = pure false := by rfl) :
    DS X W (.Assign [.Tuple [.Name x px, .Name y py] kt pt] (.Tuple [a, b] k2 pt2) pos) (sAsgs fa (gConss (gN i) (gConss (gN j) gNils))) := by
  refine ⟨PS.imp (ps_par hc hN hi hj hij hx hy ha.run hw hs) fun E σ H ⟨G, S, ρ, rs, rp, q⟩ => ⟨G, S, ρ, rs, rp, (AftS.st q rs rp).mono fun ds H1 G1 S1 x1 r1 q1 us dv => ?_⟩⟩
  cases dv with
  | nil => exact q1.elim
  | cons d1 t1 =>
    cases t1 with
    | nil => exact q1.elim
    | cons d2 t2 =>
      cases t2 with
      | nil => exact ⟨_, _, rfl, AftS.next q1 Ext.refl r1 (((x1.relS rp rs).set d1 i).set d2 j)⟩
      | cons _ _ => exact q1.elim
theorem ds_par3 {i j l : Nat} {x y z : Str} {c : Expr} {px py pz pt : Pos} {kt k2 pt2} (hc : X.calm = true) (hN : X.N.Nodup) (hi : X.N[i]? = some x) (hj : X.N[j]? = some y) (hl : X.N[l]? = some z) (hij : i ≠ j) (hil : i ≠ l) (hjl : j ≠ l)
    (hx : X.env.scope.names.lookup x = some .local) (hy : X.env.scope.names.lookup y = some .local) (hz : X.env.scope.names.lookup z = some .local) (ha : DA X W [a, b, c] fa)
    (hw : swappedStores [.Tuple [.Name x px, .Name y py, .Name z pz] kt pt] (.Tuple [a, b, c] k2 pt2) X.env = pure (some [x, y, z]) := by rfl)
    (hs : swapsWithSole [.Tuple [.Name x px, .Name y py, .Name z pz] kt pt] (.Tuple [a, b, c] k2 pt2) pos.line X.env = pure false := by rfl) :
    DS X W (.Assign [.Tuple [.Name x px, .Name y py, .Name z pz] kt pt] (.Tuple [a, b, c] k2 pt2) pos) (sAsgs fa (gConss (gN i) (gConss (gN j) (gConss (gN l) gNils)))) := by
  refine ⟨PS.imp (ps_par3 hc hN hi hj hl hij hil hjl hx hy hz ha.run hw hs) fun E σ H ⟨G, S, ρ, rs, rp, q⟩ => ⟨G, S, ρ, rs, rp, (AftS.st q rs rp).mono fun ds H1 G1 S1 x1 r1 q1 us dv => ?_⟩⟩
  cases dv with
  | nil => exact q1.elim
  | cons d1 t1 =>
    cases t1 with
    | nil => exact q1.elim
    | cons d2 t2 =>
      cases t2 with
      | nil => exact q1.elim
      | cons d3 t3 =>
        cases t3 with
        | nil => exact ⟨_, _, _, rfl, AftS.next q1 Ext.refl r1 ((((x1.relS rp rs).set d1 i).set d2 j).set d3 l)⟩
        | cons _ _ => exact q1.elim
end

def whileD : Nat → FT → FS → FS
  | 0, _, _ => fun _ _ => none
  | n + 1, t, b => fun ρ S => (t ρ S).st ρ fun c S1 => if c = true then (match b ρ S1 with
      | some (.next ρ', S2) => whileD n t b ρ' S2
      | some (.cont ρ', S2) => whileD n t b ρ' S2
      | some (.brk ρ', S2) => some (.next ρ', S2)
      | o => o) else some (.next ρ, S1)
section
variable {X : Cx} {W : WX} {c : Expr} {body : List Stmt} {t : FT} {b : FS} {pos : Pos}
theorem ds_while (n : Nat) (hp : PassesOwn (model X.prog X.w) X.A X.env X.xe) (hc : DT X W c t) (hb : DSs X W body b) : DS X W (.While c body [] pos) (whileD n t b) := by
  refine ⟨PS.imp (ps_while hp hc.run hb.run) fun E σ H ⟨G, S, ρ, rs, rp, q⟩ => ?_⟩
  refine ⟨fun m σ H => ∃ G S ρ, RelS X.K H G ρ σ ∧ Rep X.K H G S ∧ AftS X.K W E H G S (whileD m t b ρ S), ⟨n, G, S, ρ, rs, rp, q⟩, ?_⟩
  rintro m σ H ⟨G, S, ρ, rs, rp, q⟩
  cases m with
  | zero => exact q.elim
  | succ m =>
    refine ⟨G, S, ρ, rs, rp, (AftS.st q rs rp).mono fun d H1 G1 S1 x1 r1 q1 => ?_⟩
    cases d with
    | false => exact AftS.next q1 Ext.refl r1 (x1.relS rp rs)
    | true =>
      refine ⟨fun σ' H' => ∃ G S ρ, RelS X.K H' G ρ σ' ∧ Rep X.K H' G S ∧ AftS X.K W E H' G S (whileD m t b ρ S), fun σ' H' h => ⟨m, Nat.lt_succ_self m, h⟩, G1, S1, ρ, x1.relS rp rs, r1, ?_⟩
      have q1 : AftS X.K W E H1 G1 S1 (match b ρ S1 with
        | some (.next ρ', S2) => whileD m t b ρ' S2
        | some (.cont ρ', S2) => whileD m t b ρ' S2
        | some (.brk ρ', S2) => some (.next ρ', S2)
        | o => o) := q1
      cases eo : b ρ S1 with
      | none => rw [eo] at q1; exact q1
      | some p =>
        obtain ⟨fl, S2⟩ := p
        rw [eo] at q1
        cases fl with
        | next ρ1 => exact fun H2 G2 σ2 x2 r2 s2 => ⟨G2, S2, ρ1, s2, r2, AftS.ext q1 x2⟩
        | cont ρ1 => exact fun H2 G2 σ2 x2 r2 s2 => ⟨G2, S2, ρ1, s2, r2, AftS.ext q1 x2⟩
        | brk ρ1 => exact q1
        | ret d => exact q1
        | exc x ρ1 => exact q1
end

structure Gives (K : PySem.W.Frag) (J : It) (H0 : Hp) (G0 : Gh) (S0 : Sto) (ds : List D) : Prop where
  go : ∀ (H : Hp) (G : Gh) (S : Sto), Ext H0 G0 S0 H G S → Rep K H G S → ∀ (i : Nat), i < ds.length → J.go i H
  yld : ∀ (H : Hp) (G : Gh) (S : Sto), Ext H0 G0 S0 H G S → Rep K H G S → ∀ (i : Nat) (d : D), ds[i]? = some d → ∀ x H', J.yld i H x H' → Ext H G S H' G S ∧ Rep K H' G S ∧ Den K H' G d x ∧ (H' = H ∨ ∃ T o, H T = none ∧ H' = upd H T o)
  stop : ∀ (H : Hp) (G : Gh) (S : Sto), Ext H0 G0 S0 H G S → Rep K H G S → J.stop ds.length H
abbrev FI := Ev → M (List D)
def rdI (K : PySem.W.Frag) (W : WX) (f : FI) : TI := fun σ H R => ∃ G S ρ, RelS K H G ρ σ ∧ Rep K H G S ∧ Aft K W σ H G S (f ρ S) fun ds H' G' S' => ∀ J, Gives K J H' G' S' ds → R J H'
structure DI (X : Cx) (W : WX) (tg iter : Expr) (f : FI) : Prop where
  run : PI X tg iter (rdI X.K W f)
theorem PI.imp {X : Cx} {tg iter : Expr} {t t' : TI} (h : PI X tg iter t) (i : ∀ σ H R, t' σ H R → t σ H R) : PI X tg iter t' := ⟨fun pins s σ H R I q => h.run pins s σ H R I (i σ H R q)⟩
/-- a list that stays, a tuple -/
theorem gives_list {K : PySem.W.Frag} {H : Hp} {G : Gh} {S : Sto} {a : Addr} {vs : List V} {xs : List PyData} (rp : Rep K H G S) (f : RL K G.φ a vs) (t : DnAll K G.φ H xs vs) : Gives K (Itl K a) H G S (xs.map .p) where
  go := fun H1 G1 S1 x r i hi => by
    rw [List.length_map, t.length] at hi
    exact ⟨vs, vs[i], (f.mono x.phi) H1 r.phi, by simp [hi]⟩
  yld := fun H1 G1 S1 x r i d e v H' y => by
    obtain ⟨e1, y⟩ := y
    subst e1
    have e2 := y vs ((f.mono x.phi) _ r.phi)
    obtain ⟨d', ed, dn⟩ := (x.dnAll rp t).getV e2
    rw [List.getElem?_map, ed] at e
    cases e
    exact ⟨Ext.refl, r, dn, .inl rfl⟩
  stop := fun H1 G1 S1 x r => by
    rw [List.length_map, t.length]
    exact ⟨vs, (f.mono x.phi) H1 r.phi, Nat.le_refl _⟩
theorem gives_tup {K : PySem.W.Frag} {H : Hp} {G : Gh} {S : Sto} {a : Addr} {vs : List V} {xs : List PyData} (rp : Rep K H G S) (f : SqT K H a vs) (t : DnAll K G.φ H xs vs) : Gives K (Itt K a) H G S (xs.map .p) where
  go := fun H1 G1 S1 x r i hi => by
    rw [List.length_map, t.length] at hi
    exact ⟨vs, vs[i], x.tup rp f, by simp [hi]⟩
  yld := fun H1 G1 S1 x r i d e v H' y => by
    obtain ⟨e1, y⟩ := y
    subst e1
    have e2 := y vs (x.tup rp f)
    obtain ⟨d', ed, dn⟩ := (x.dnAll rp t).getV e2
    rw [List.getElem?_map, ed] at e
    cases e
    exact ⟨Ext.refl, r, dn, .inl rfl⟩
  stop := fun H1 G1 S1 x r => by
    rw [List.length_map, t.length]
    exact ⟨vs, x.tup rp f, Nat.le_refl _⟩
theorem gives_range {K : PySem.W.Frag} {H : Hp} {G : Gh} {S : Sto} {lo : Int} {n : Nat} : Gives K (Itr lo n) H G S ((List.range n).map fun i : Nat => D.p (.int (lo + (i : Int)))) where
  go := fun H1 G1 S1 x r i hi => by simpa [Itr] using hi
  yld := fun H1 G1 S1 x r i d e v H' y => by
    obtain ⟨e1, e2⟩ := y
    subst e1 e2
    rw [List.getElem?_map] at e
    by_cases hi : i < n
    · rw [List.getElem?_range hi] at e
      cases e
      exact ⟨Ext.refl, r, .int _, .inl rfl⟩
    · rw [List.getElem?_eq_none (by simpa using hi)] at e; cases e
  stop := fun H1 G1 S1 x r => by simp [Itr]
theorem gives_str {K : PySem.W.Frag} {H : Hp} {G : Gh} {S : Sto} {z : Str} : Gives K (Its z) H G S (z.cps.toList.map fun c => D.p (.str ⟨#[c]⟩)) where
  go := fun H1 G1 S1 x r i hi => by simpa [Its] using hi
  yld := fun H1 G1 S1 x r i d e v H' y => by
    obtain ⟨e1, c, e2, e3⟩ := y
    subst e1 e3
    rw [List.getElem?_map, Array.getElem?_toList, e2] at e
    cases e
    exact ⟨Ext.refl, r, .str _, .inl rfl⟩
  stop := fun H1 G1 S1 x r => by simp [Its]
/-- x in (a list, a tuple, a text) -/
def itM : D → M (List D) := fun d S => match d with
  | .p (.list xs) => .ok (xs.map .p) S
  | .ro xs => .ok (xs.map .p) S
  | .p (.tuple xs) => .ok (xs.map .p) S
  | .p (.str z) => .ok (z.cps.toList.map fun c => D.p (.str ⟨#[c]⟩)) S
  | _ => .bad
def iSeq (f : FE) : FI := fun ρ S => (f ρ S).bind itM
def rangeM : List D → M (List D) := fun ds S => match ds with
  | [.p (.int j)] => if -1000000 ≤ j ∧ j ≤ 1000000 then .ok ((List.range j.toNat).map fun i : Nat => D.p (.int (0 + (i : Int)))) S else .bad
  | _ => .bad
def iRange (f : FA) : FI := fun ρ S => (f ρ S).bind rangeM
section
variable {X : Cx} {W : WX} {l tg : Expr} {f : FE} {pos : Pos}
/-- whatever is walked: a list, a tuple, a text -/
theorem pi_any {t : TE} (hl : PE X l t) : PI X tg l (fun σ H R => t σ H fun x H1 => (∃ a, x = .ref a ∧ (∃ xs, SqL X.K H1 a xs) ∧ R (Itl X.K a) H1) ∨ (∃ a, x = .ref a ∧ (∃ xs, SqT X.K H1 a xs) ∧ R (Itt X.K a) H1) ∨ ∃ z, x = .str z ∧ R (Its z) H1) := by
  refine ⟨fun pins s σ H R I h => ?_⟩
  refine thn (hl.run pins s σ H _ I h) fun v s1 ⟨x, H1, I1, r1, q1⟩ => ?_
  rcases q1 with ⟨a, rfl, ⟨xs, hq⟩, q⟩ | ⟨a, rfl, ⟨xs, hq⟩, q⟩ | ⟨z, rfl, q⟩
  · cases r1
    obtain ⟨its, rv, p, hz⟩ := I1.list hq
    refine wpAny_pyIter_list p.isList ⟨s1.heap.objs.size, [s1.heap.objs.size], _, _, H1, rfl, I1.kept (t' := s1.toks) fun b o e => Heap.get?_push_of_some _ e, turn_list a _, ⟨_, Heap.get?_push_size _ rfl, rfl, rfl⟩, fun b hb => ?_, q⟩
    obtain rfl : b = s1.heap.objs.size := by simpa using hb
    exact I1.fpOk (Nat.le_refl _) (I1.hok.fresh (Nat.le_refl _))
  · cases r1
    obtain ⟨its, rv, p, hz⟩ := I1.tuple hq
    refine wpAny_pyIter_tuple (show s1.heap.IsTuple a its.toArray from p) ⟨s1.heap.objs.size, [s1.heap.objs.size], _, _, H1, rfl, I1.kept (t' := s1.toks) fun b o e => Heap.get?_push_of_some _ e, turn_tuple a _, ⟨_, Heap.get?_push_size _ rfl, rfl, rfl⟩, fun b hb => ?_, q⟩
    obtain rfl : b = s1.heap.objs.size := by simpa using hb
    exact I1.fpOk (Nat.le_refl _) (I1.hok.fresh (Nat.le_refl _))
  · obtain ⟨t, rfl⟩ := r1
    cases ha : z.cps.all (· < 128)
    · exact wpAny_pyIter_wide ha (pi_one (tk := s1.toks) I1 _ (turn_str _ z t "str_iterator" (.inr rfl)) ⟨_, Heap.get?_push_size _ rfl, rfl, rfl⟩ q)
    · exact wpAny_pyIter_ascii ha (pi_one (tk := s1.toks) I1 _ (turn_str _ z t "str_ascii_iterator" (.inl rfl)) ⟨_, Heap.get?_push_size _ rfl, rfl, rfl⟩ q)
theorem di_seq (he : DE X W l f) : DI X W tg l (iSeq f) := by
  refine ⟨PI.imp (pi_any he.run) fun σ H R ⟨G, S, ρ, rs, rp, q⟩ => ⟨G, S, ρ, rs, rp, (Aft.bind q).mono fun d H1 G1 S1 x1 r1 q1 v dv => ?_⟩⟩
  unfold itM at q1
  split at q1
  · obtain ⟨a, vs, rfl, fl, t⟩ := den_lst dv
    exact .inl ⟨a, rfl, ⟨vs, SqL.of (fl H1 r1.phi)⟩, q1 H1 G1 Ext.refl r1 _ (gives_list r1 (fun H' h' => SqL.of (fl H' h')) t)⟩
  · obtain ⟨a, vs, rfl, fl, t⟩ := dv
    exact .inl ⟨a, rfl, ⟨vs, fl H1 r1.phi⟩, q1 H1 G1 Ext.refl r1 _ (gives_list r1 fl t)⟩
  · obtain ⟨a, vs, rfl, fl, t⟩ := den_tup dv
    exact .inr (.inl ⟨a, rfl, ⟨vs, fl⟩, q1 H1 G1 Ext.refl r1 _ (gives_tup r1 fl t)⟩)
  · rename_i z
    obtain rfl := den_str dv
    exact .inr (.inr ⟨z, rfl, q1 H1 G1 Ext.refl r1 _ gives_str⟩)
  · exact q1.elim
end

section
variable {X : Cx} {W : WX} {a tg : Expr} {f : FE} {p pos : Pos}
theorem di_range {fa : FA} (hg : Gl X "range") (hm : X.mg "range" = none) (ha : DA X W [a] fa) (hs : starEach [a] X.env = [(false, eval a X.env)] := by rfl) : DI X W tg (.Call (.Name "range" p) [a] [] pos) (iRange fa) := by
  refine ⟨PI.imp (pi_range1 hg hm ha.run hs) fun σ H R ⟨G, S, ρ, rs, rp, q⟩ => ⟨G, S, ρ, rs, rp, (Aft.bind q).mono fun ds H1 G1 S1 x1 r1 q1 vs dv => ?_⟩⟩
  unfold rangeM at q1
  split at q1
  · rename_i j
    cases dv with
    | cons dv t =>
      cases t
      obtain rfl := den_int dv
      by_cases hj : -1000000 ≤ j ∧ j ≤ 1000000
      · rw [if_pos hj] at q1
        exact ⟨j, rfl, by omega, by omega, q1 H1 G1 Ext.refl r1 _ gives_range⟩
      · rw [if_neg hj] at q1; exact q1.elim
  · exact q1.elim

def zipP : List PyData → List PyData → List D
  | x :: xs, y :: ys => .p (.tuple [x, y]) :: zipP xs ys
  | _, _ => []
theorem zipP_len : ∀ (xs ys : List PyData), (zipP xs ys).length = min xs.length ys.length
  | [], _ => by simp [zipP]
  | _ :: _, [] => by simp [zipP]
  | x :: xs, y :: ys => by simp only [zipP, List.length_cons, zipP_len xs ys]; omega
theorem zipP_get : ∀ (xs ys : List PyData) (i : Nat) (d : D), (zipP xs ys)[i]? = some d → ∃ x y, xs[i]? = some x ∧ ys[i]? = some y ∧ d = .p (.tuple [x, y])
  | [], _, i, d, h => by simp [zipP] at h
  | _ :: _, [], i, d, h => by simp [zipP] at h
  | x :: xs, y :: ys, 0, d, h => by simp [zipP] at h; exact ⟨x, y, rfl, rfl, h.symm⟩
  | x :: xs, y :: ys, i + 1, d, h => by
    obtain ⟨x', y', h1, h2, h3⟩ := zipP_get xs ys i d (by simpa [zipP] using h)
    exact ⟨x', y', by simpa using h1, by simpa using h2, h3⟩
def enumP (n : Nat) : List PyData → List D
  | x :: xs => .p (.tuple [.int (n : Nat), x]) :: enumP (n + 1) xs
  | [] => []
theorem enumP_len : ∀ (n : Nat) (xs : List PyData), (enumP n xs).length = xs.length
  | _, [] => rfl
  | n, x :: xs => by simp only [enumP, List.length_cons, enumP_len]
theorem enumP_get : ∀ (n : Nat) (xs : List PyData) (i : Nat) (d : D), (enumP n xs)[i]? = some d → ∃ x, xs[i]? = some x ∧ d = .p (.tuple [.int ((n + i : Nat) : Int), x])
  | n, [], i, d, h => by simp [enumP] at h
  | n, x :: xs, 0, d, h => by simp [enumP] at h; exact ⟨x, rfl, h.symm⟩
  | n, x :: xs, i + 1, d, h => by
    obtain ⟨x', h1, h3⟩ := enumP_get (n + 1) xs i d (by simpa [enumP] using h)
    exact ⟨x', by simpa using h1, by rw [h3, show n + 1 + i = n + (i + 1) by omega]⟩
def zipM : List D → M (List D) := fun ds S => match ds with
  | [.p (.list xs), .p (.list ys)] => .ok (zipP xs ys) S
  | [.p (.tuple xs), .p (.tuple ys)] => .ok (zipP xs ys) S
  | _ => .bad
def enumM : List D → M (List D) := fun ds S => match ds with
  | [.p (.list xs)] => .ok (enumP 0 xs) S
  | _ => .bad
def iA (g : List D → M (List D)) (fa : FA) : FI := fun ρ S => (fa ρ S).bind g
theorem pair_new {K : PySem.W.Frag} {H : Hp} {G : Gh} {S : Sto} {T : Addr} {x y : PyData} {v w : V} (r : Rep K H G S) (hT : H T = none) (h1 : Dn K G.φ H x v) (h2 : Dn K G.φ H y w) : Ext H G S (upd H T (.tup [v, w])) G S ∧ Rep K (upd H T (.tup [v, w])) G S ∧ Den K (upd H T (.tup [v, w])) G (.p (.tuple [x, y])) (.ref T) := by
  have e := Ext.other (o := .tup [v, w]) r hT
  exact ⟨e, Rep.other r hT, Dn.tup (SqT.of upd_same) (.cons (e.dn r h1) (.cons (e.dn r h2) .nil))⟩
theorem gives_zip {K : PySem.W.Frag} {H : Hp} {G : Gh} {S : Sto} {a b : Addr} {vs ws : List V} {xs ys : List PyData} (rp : Rep K H G S) (fa : FL G.φ a vs) (ta : DnAll K G.φ H xs vs) (fb : FL G.φ b ws) (tb : DnAll K G.φ H ys ws) : Gives K (Itz K a b) H G S (zipP xs ys) where
  go := fun H1 G1 S1 x r i hi => by
    rw [zipP_len, ta.length, tb.length] at hi
    exact ⟨vs, ws, vs[i], ws[i], SqL.of ((fa.mono x.phi) H1 r.phi), SqL.of ((fb.mono x.phi) H1 r.phi), by simp, by simp⟩
  yld := fun H1 G1 S1 x r i d e v H' y => by
    obtain ⟨T, u, w, rfl, hT, rfl, y1, y2⟩ := y
    have e1 := y1 vs (SqL.of ((fa.mono x.phi) H1 r.phi))
    have e2 := y2 ws (SqL.of ((fb.mono x.phi) H1 r.phi))
    obtain ⟨d1, ed1, dn1⟩ := (x.dnAll rp ta).getV e1
    obtain ⟨d2, ed2, dn2⟩ := (x.dnAll rp tb).getV e2
    obtain ⟨x', y', h1, h2, rfl⟩ := zipP_get xs ys i d e
    rw [ed1] at h1; cases h1
    rw [ed2] at h2; cases h2
    obtain ⟨p1, p2, p3⟩ := pair_new r hT dn1 dn2
    exact ⟨p1, p2, p3, .inr ⟨T, _, hT, rfl⟩⟩
  stop := fun H1 G1 S1 x r => by
    rw [zipP_len, ta.length, tb.length]
    exact ⟨vs, ws, SqL.of ((fa.mono x.phi) H1 r.phi), SqL.of ((fb.mono x.phi) H1 r.phi), by omega⟩
theorem gives_zipT {K : PySem.W.Frag} {H : Hp} {G : Gh} {S : Sto} {a b : Addr} {vs ws : List V} {xs ys : List PyData} (rp : Rep K H G S) (fa : SqT K H a vs) (ta : DnAll K G.φ H xs vs) (fb : SqT K H b ws) (tb : DnAll K G.φ H ys ws) : Gives K (RZ.ItzT K a b) H G S (zipP xs ys) where
  go := fun H1 G1 S1 x r i hi => by
    rw [zipP_len, ta.length, tb.length] at hi
    exact ⟨vs, ws, vs[i], ws[i], x.tup rp fa, x.tup rp fb, by simp, by simp⟩
  yld := fun H1 G1 S1 x r i d e v H' y => by
    obtain ⟨T, u, w, rfl, hT, rfl, y1, y2⟩ := y
    have e1 := y1 vs (x.tup rp fa)
    have e2 := y2 ws (x.tup rp fb)
    obtain ⟨d1, ed1, dn1⟩ := (x.dnAll rp ta).getV e1
    obtain ⟨d2, ed2, dn2⟩ := (x.dnAll rp tb).getV e2
    obtain ⟨x', y', h1, h2, rfl⟩ := zipP_get xs ys i d e
    rw [ed1] at h1; cases h1
    rw [ed2] at h2; cases h2
    obtain ⟨p1, p2, p3⟩ := pair_new r hT dn1 dn2
    exact ⟨p1, p2, p3, .inr ⟨T, _, hT, rfl⟩⟩
  stop := fun H1 G1 S1 x r => by
    rw [zipP_len, ta.length, tb.length]
    exact ⟨vs, ws, x.tup rp fa, x.tup rp fb, by omega⟩
theorem gives_enum {K : PySem.W.Frag} {H : Hp} {G : Gh} {S : Sto} {a : Addr} {vs : List V} {xs : List PyData} (rp : Rep K H G S) (fa : FL G.φ a vs) (ta : DnAll K G.φ H xs vs) : Gives K (Ite K a) H G S (enumP 0 xs) where
  go := fun H1 G1 S1 x r i hi => by
    rw [enumP_len, ta.length] at hi
    exact ⟨vs, vs[i], SqL.of ((fa.mono x.phi) H1 r.phi), by simp⟩
  yld := fun H1 G1 S1 x r i d e v H' y => by
    obtain ⟨T, u, rfl, hT, rfl, y1⟩ := y
    have e1 := y1 vs (SqL.of ((fa.mono x.phi) H1 r.phi))
    obtain ⟨d1, ed1, dn1⟩ := (x.dnAll rp ta).getV e1
    obtain ⟨x', h1, rfl⟩ := enumP_get 0 xs i d e
    rw [ed1] at h1; cases h1
    have e0 : ((0 + i : Nat) : Int) = (i : Int) := by rw [Nat.zero_add]
    rw [e0]
    obtain ⟨p1, p2, p3⟩ := pair_new r hT (Dn.int (i : Int)) dn1
    exact ⟨p1, p2, p3, .inr ⟨T, _, hT, rfl⟩⟩
  stop := fun H1 G1 S1 x r => by
    rw [enumP_len, ta.length]
    exact ⟨vs, SqL.of ((fa.mono x.phi) H1 r.phi), Nat.le_refl _⟩
theorem di_zip {b : Expr} {fa : FA} {tpos : Pos} {elts : List Expr} {kk : Nat} (hg : Gl X "zip") (hm : X.mg "zip" = none) (ha : DA X W [a, b] fa) (hs : starEach [a, b] X.env = (false, eval a X.env) :: starEach [b] X.env := by rfl) (hpl : (backTo pos (starEach [b] X.env)).any (·.1) = false := by rfl) :
    DI X W (.Tuple elts kk tpos) (.Call (.Name "zip" p) [a, b] [] pos) (iA zipM fa) := by
  refine ⟨PI.imp (RZ.pi_zipA hg hm ha.run hs hpl) fun σ H R ⟨G, S, ρ, rs, rp, q⟩ => ⟨G, S, ρ, rs, rp, (Aft.bind q).mono fun ds H1 G1 S1 x1 r1 q1 vs dv => ?_⟩⟩
  unfold zipM at q1
  split at q1
  · cases dv with
    | cons d1 t =>
      cases t with
      | cons d2 t =>
        cases t
        obtain ⟨a, vs, rfl, fa, ta⟩ := den_lst d1
        obtain ⟨b, ws, rfl, fb, tb⟩ := den_lst d2
        exact ⟨a, b, vs, ws, rfl, .inl ⟨SqL.of (fa _ r1.phi), SqL.of (fb _ r1.phi), q1 H1 G1 Ext.refl r1 _ (gives_zip r1 fa ta fb tb)⟩⟩
  · cases dv with
    | cons d1 t =>
      cases t with
      | cons d2 t =>
        cases t
        obtain ⟨a, vs, rfl, fa, ta⟩ := den_tup d1
        obtain ⟨b, ws, rfl, fb, tb⟩ := den_tup d2
        exact ⟨a, b, vs, ws, rfl, .inr ⟨fa, fb, q1 H1 G1 Ext.refl r1 _ (gives_zipT r1 fa ta fb tb)⟩⟩
  · exact q1.elim
theorem di_enum {fa : FA} {tpos : Pos} {elts : List Expr} {kk : Nat} (hg : Gl X "enumerate") (hm : X.mg "enumerate" = none) (ha : DA X W [a] fa) (hs : starEach [a] X.env = [(false, eval a X.env)] := by rfl) :
    DI X W (.Tuple elts kk tpos) (.Call (.Name "enumerate" p) [a] [] pos) (iA enumM fa) := by
  refine ⟨PI.imp (pi_enum hg hm ha.run hs) fun σ H R ⟨G, S, ρ, rs, rp, q⟩ => ⟨G, S, ρ, rs, rp, (Aft.bind q).mono fun ds H1 G1 S1 x1 r1 q1 vs dv => ?_⟩⟩
  unfold enumM at q1
  split at q1
  · cases dv with
    | cons d1 t =>
      cases t
      obtain ⟨a, vs, rfl, fa, ta⟩ := den_lst d1
      exact ⟨a, vs, rfl, SqL.of (fa _ r1.phi), q1 H1 G1 Ext.refl r1 _ (gives_enum r1 fa ta)⟩
  · exact q1.elim
end

def forD (g : FG) (b : FS) : List D → FS
  | [] => fun ρ S => some (.next ρ, S)
  | d :: r => fun ρ S => match g d ρ S with
    | none => none
    | some (ρ1, S1) => match b ρ1 S1 with
      | some (.next ρ2, S2) => forD g b r ρ2 S2
      | some (.cont ρ2, S2) => forD g b r ρ2 S2
      | some (.brk ρ2, S2) => some (.next ρ2, S2)
      | o => o
def sFor (f : FI) (g : FG) (b : FS) : FS := fun ρ S => (f ρ S).st ρ fun ds S1 => forD g b ds ρ S1
section
variable {X : Cx} {W : WX} {tg iter : Expr} {body : List Stmt} {f : FI} {g : FG} {b : FS} {pos : Pos} {vs : List Nat}
theorem ds_for (hp : PassesOwn (model X.prog X.w) X.A X.env X.xe) (hc : X.calm = true) (hi : DI X W tg iter f) (hg : DG X vs tg g) (hb : DSs X W body b) (hs : ∀ x, foldedSetIterable iter X.env x = pure x := by intro _; rfl) : DS X W (.For tg iter body [] pos) (sFor f g b) := by
  refine ⟨PS.imp (ps_for hp hc hi.run hg.run hb.run hs) fun E σ H ⟨G, S, ρ, rs, rp, q⟩ => ⟨G, S, ρ, rs, rp, (AftS.st q rs rp).mono fun ds H1 G1 S1 x1 r1 q1 J gv => ?_⟩⟩
  refine ⟨fun i m σ H => ∃ G S ρ, m = ds.length - i ∧ i ≤ ds.length ∧ Ext H1 G1 S1 H G S ∧ RelS X.K H G ρ σ ∧ Rep X.K H G S ∧ AftS X.K W E H G S (forD g b (ds.drop i) ρ S),
    ⟨ds.length, G1, S1, ρ, by simp, Nat.zero_le _, Ext.refl, x1.relS rp rs, r1, by simpa using q1⟩, ?_⟩
  rintro i m σ H ⟨G, S, ρ, rfl, hi, x, rs, rp, q⟩
  by_cases hlt : i < ds.length
  · refine .inr ⟨gv.go H G S x rp i hlt, fun σ' H' => ∃ G' S' ρ', Ext H1 G1 S1 H' G' S' ∧ RelS X.K H' G' ρ' σ' ∧ Rep X.K H' G' S' ∧ AftS X.K W E H' G' S' (forD g b (ds.drop (i + 1)) ρ' S'),
      fun σ' H' ⟨G', S', ρ', x', rs', rp', q'⟩ => ⟨ds.length - (i + 1), by omega, G', S', ρ', rfl, hlt, x', rs', rp', q'⟩, fun v H' y => ?_⟩
    obtain ⟨ex, rp', dv, _⟩ := gv.yld H G S x rp i ds[i] (by simp [hlt]) v H' y
    refine ⟨G, S, ρ, ds[i], ex.relS rp rs, rp', dv, ?_⟩
    rw [List.drop_eq_getElem_cons hlt] at q
    have q : AftS X.K W E H G S (match g ds[i] ρ S with
      | none => none
      | some (ρ1, S1) => match b ρ1 S1 with
        | some (.next ρ2, S2) => forD g b (ds.drop (i + 1)) ρ2 S2
        | some (.cont ρ2, S2) => forD g b (ds.drop (i + 1)) ρ2 S2
        | some (.brk ρ2, S2) => some (.next ρ2, S2)
        | o => o) := q
    cases eg : g ds[i] ρ S with
    | none => rw [eg] at q; exact q.elim
    | some pr =>
      obtain ⟨ρ1, S2⟩ := pr
      rw [eg] at q
      refine fun H2 G2 x2 r2 σ2 rs2 _ => ⟨G2, S2, ρ1, rs2, r2, ?_⟩
      have xx := ex.trans x2
      have q := AftS.ext q xx
      simp only at q
      cases eb : b ρ1 S2 with
      | none => rw [eb] at q; exact q
      | some pb =>
        obtain ⟨fl, S3⟩ := pb
        rw [eb] at q
        cases fl with
        | next ρ2 => exact fun H3 G3 σ3 x3 r3 s3 => ⟨G3, S3, ρ2, (x.trans xx).trans x3, s3, r3, AftS.ext q x3⟩
        | cont ρ2 => exact fun H3 G3 σ3 x3 r3 s3 => ⟨G3, S3, ρ2, (x.trans xx).trans x3, s3, r3, AftS.ext q x3⟩
        | brk ρ2 => exact q
        | ret d => exact q
        | exc y ρ2 => exact q
  · have e : i = ds.length := by omega
    subst e
    rw [List.drop_length] at q
    exact .inl ⟨gv.stop H G S x rp, AftS.next q Ext.refl rp rs⟩
end
end DL

namespace DL
open PySem L2

structure Beside (H : Hp) (G : Gh) (D : Addr) (o : HO) : Prop where
  at_ : H D = some o
  ι : D ∉ G.ι
  φ : ∀ p ∈ G.φ, p.1 ≠ D
section
variable {K : PySem.W.Frag} {H H1 : Hp} {G G1 : Gh} {S S1 : Sto} {D : Addr} {o : HO}
theorem Beside.ext (b : Beside H G D o) (x : Ext H G S H1 G1 S1) : Beside H1 G1 D o := by
  have nl : ¬ Live G S D := fun l => b.ι l.mem
  refine ⟨x.frame D o b.at_ nl, fun h => ?_, fun p hp e => ?_⟩
  · rcases x.iot D h with q | q
    · exact b.ι q
    · rw [b.at_] at q; cases q
  · rcases x.phf p hp with q | q | q
    · exact b.φ p q e
    · rw [e, b.at_] at q; cases q
    · rw [e] at q; exact nl q
theorem Rep.aside (r : Rep K H G S) {xs ys : List V} (b : Beside H G D (.lst xs)) : Rep K (upd H D (.lst ys)) G S := by
  have ht : ∀ a vs, SqT K H a vs → SqT K (upd H D (.lst ys)) a vs := fun a vs h => by
    rcases h with (h | ⟨u, h⟩) | h
    · exact .inl (.inl (by rw [upd_ne (ne_of h b.at_ (fun z => nomatch z))]; exact h))
    · exact .inl (.inr ⟨u, by rw [upd_ne (ne_of h b.at_ (fun z => nomatch z))]; exact h⟩)
    · exact .inr h
  refine ⟨r.len, r.nd, fun i a m h1 h2 => OkO.ext (G := G) (fun _ h => h) ht (fun u hu => ?_) (r.ok i a m h1 h2), fun p hp => ?_, r.pnl⟩
  · rw [upd_ne (fun z => b.ι (by rw [← z]; exact List.mem_of_getElem? h1))]; exact hu
  · rw [upd_ne (b.φ p hp)]; exact r.phi p hp
theorem dn_aside {φ : List (Addr × HO)} {xs ys : List V} (e : H D = some (.lst xs)) {ds : List PyData} {vs : List V} (t : DnAll K φ H ds vs) : DnAll K φ (upd H D (.lst ys)) ds vs :=
  t.mono (fun _ h => h) fun a vs h => by
    rcases h with (h | ⟨u, h⟩) | h
    · exact .inl (.inl (by rw [upd_ne (ne_of h e (fun z => nomatch z))]; exact h))
    · exact .inl (.inr ⟨u, by rw [upd_ne (ne_of h e (fun z => nomatch z))]; exact h⟩)
    · exact .inr h
theorem Ext.aside {H0 : Hp} {G0 : Gh} {S0 : Sto} {u : HO} (x : Ext H0 G0 S0 H G S) (h0 : H0 D = none) : Ext H0 G0 S0 (upd H D u) G S :=
  ⟨x.pre, x.phi, fun b o h n => by rw [upd_ne (ne_of_none h h0)]; exact x.frame b o h n, x.fresh, x.iot, x.phf⟩
/-- it is frozen at last -/
theorem Ext.iceD {H0 : Hp} {G0 : Gh} {S0 : Sto} (x : Ext H0 G0 S0 H G S) (h0 : H0 D = none) : Ext H0 G0 S0 H ⟨G.ι, (D, o) :: G.φ⟩ S :=
  ⟨x.pre, fun p hp => List.mem_cons_of_mem _ (x.phi p hp), x.frame, x.fresh, x.iot, fun p hp => by
    rcases List.mem_cons.mp hp with e | hp
    · rw [e]; exact .inr (.inl h0)
    · exact x.phf p hp⟩
theorem Rep.iceD (r : Rep K H G S) (b : Beside H G D o) : Rep K H ⟨G.ι, (D, o) :: G.φ⟩ S := by
  refine ⟨r.len, r.nd, fun i a m h1 h2 => OkO.ext (G := G) (fun _ h => List.mem_cons_of_mem _ h) (fun _ _ h => h) (fun _ h => h) (r.ok i a m h1 h2), fun p hp => ?_, fun p hp => ?_⟩
  · rcases List.mem_cons.mp hp with e | hp
    · rw [e]; exact b.at_
    · exact r.phi p hp
  · rcases List.mem_cons.mp hp with e | hp
    · rw [e]; exact fun l => b.ι (Live.mem l)
    · exact r.pnl p hp
end

def wipeD (ρ : Ev) : List Nat → Ev
  | [] => ρ
  | v :: vs => (wipeD ρ vs).set v none
theorem RelS.wipe {K : PySem.W.Frag} {H : Hp} {G : Gh} {ρ : Ev} {σ : St} (r : RelS K H G ρ σ) : ∀ vs : List Nat, RelS K H G (wipeD ρ vs) (L2.wipe σ vs)
  | [] => r
  | v :: vs => (r.wipe vs).setNone v
def lcD (g : FG) (t : FT) (e : FE) (ρ : Ev) : List D → M (List PyData)
  | [] => fun S => .ok [] S
  | d :: r => fun S => match g d ρ S with
    | none => .bad
    | some (ρ1, S1) => (t ρ1 S1).bind fun b S2 => if b = true then (e ρ1 S2).bind (fun y S3 => match y with
        | .p v => (lcD g t e ρ r S3).bind fun vs S4 => .ok (v :: vs) S4
        | _ => .bad) else lcD g t e ρ r S2
def eLc (f : FI) (g : FG) (t : FT) (e : FE) (vs : List Nat) (fin : List PyData → M D) : FE := fun ρ S => (f ρ S).bind fun ds S1 => if ds.length ≤ LIM then (noErr (lcD g t e (wipeD ρ vs) ds S1)).bind fin else .bad
def finL : List PyData → M D := fun ys S => .ok (.p (.list ys)) S
def finM : List PyData → M D := fun ys S => .ok (.ob S.length) (S ++ [.lst ys])
def tYesD : FT := fun _ S => .ok true S
/-- how the new list is handed on -/
def FinOk (fin : List PyData → M D) : Prop := ∀ (K : PySem.W.Frag) (W : WX) (σ : St) (H0 H : Hp) (G0 G : Gh) (S0 S : Sto) (ys : List PyData) (vs : List V) (D : Addr) (Q : VK),
  Ext H0 G0 S0 H G S → H0 D = none → Rep K H G S → Beside H G D (.lst vs) → DnAll K G.φ H ys vs → (∀ (S' : Sto) (d : DL.D), fin ys S = .ok d S' → ∀ H' G', Ext H0 G0 S0 H' G' S' → Rep K H' G' S' → ∀ v, Den K H' G' d v → Q v H') → Q (.ref D) H
theorem finL_ok : FinOk finL := fun K W σ H0 H G0 G S0 S ys vs D Q x h0 r b t q =>
  q S _ rfl H _ (x.iceD h0) (r.iceD b) _ (Dn.lst (fun _ q => q _ List.mem_cons_self) (t.mono (fun _ h => List.mem_cons_of_mem _ h) fun _ _ h => h))
theorem finM_ok : FinOk finM := fun K W σ H0 H G0 G S0 S ys vs D Q x h0 r b t q => by
  refine q (S ++ [.lst ys]) (.ob S.length) rfl H (G.add D) ?_ ?_ _ (show Den K H (G.add D) (.ob S.length) (.ref D) from ⟨D, rfl, Gh.add_last r D⟩)
  · refine ⟨fun i a h => ?_, x.phi, x.frame, fun c l => ?_, fun c h => ?_, x.phf⟩
    · have h := x.pre i a h
      show (G.ι ++ [D])[i]? = some a
      rw [List.getElem?_append_left (List.getElem?_eq_some_iff.mp h).1]; exact h
    · rcases Live.add r l with q | q
      · exact x.fresh c q
      · rw [q]; exact .inr h0
    · rcases List.mem_append.mp (show c ∈ G.ι ++ [D] from h) with q | q
      · exact x.iot c q
      · have e : c = D := by simpa using q
        rw [e]; exact .inr h0
  · refine ⟨?_, ?_, fun i a mo h1 h2 => ?_, r.phi, fun q hq l => ?_⟩
    · show (G.ι ++ [D]).length = (S ++ [MO.lst ys]).length
      rw [List.length_append, List.length_append, r.len]; rfl
    · show (G.ι ++ [D]).Nodup
      rw [List.nodup_append]
      refine ⟨r.nd, by simp, fun a ha c hc => ?_⟩
      have e : c = D := by simpa using hc
      subst e
      intro z; subst z; exact b.ι ha
    · have h1 : (G.ι ++ [D])[i]? = some a := h1
      by_cases hi : i < S.length
      · rw [List.getElem?_append_left (by rw [r.len]; exact hi)] at h1
        rw [List.getElem?_append_left hi] at h2
        exact r.ok i a mo h1 h2
      · have hl : i < (S ++ [MO.lst ys]).length := (List.getElem?_eq_some_iff.mp h2).1
        rw [List.length_append] at hl
        have e : i = S.length := by have : i < S.length + 1 := hl; omega
        subst e
        rw [← r.len] at h1
        simp at h1 h2
        subst h1 h2
        exact ⟨vs, b.at_, t⟩
    · rcases Live.add r l with z | z
      · exact r.pnl q hq z
      · exact b.φ q hq z
section
variable {X : Cx} {W : WX}
/-- the reading of a comprehension, by data -/
theorem lc_read {f : FI} {g : FG} {t : FT} {e : FE} {vs : List Nat} {fin : List PyData → M D} (fo : FinOk fin) {σ : St} {H : Hp} {Q : VK} (q : rd X.K W (eLc f g t e vs fin) σ H Q) :
    tLc (rdI X.K W f) (rdG X.K vs g) (rdT X.K W0 t) (rd X.K W0 e) vs σ H Q := by
  obtain ⟨G, S, ρ, rs, rp, q⟩ := q
  refine ⟨G, S, ρ, rs, rp, (Aft.bind q).mono fun ds H1 G1 S1 x1 r1 q1 J gv Da hDa => ?_⟩
  by_cases hl : ds.length ≤ LIM
  · simp only [if_pos hl] at q1
    cases eo : lcD g t e (wipeD ρ vs) ds S1 with
    | bad => rw [eo] at q1; exact q1.elim
    | err x s => rw [eo] at q1; exact q1.elim
    | ok ys Sn =>
      rw [eo] at q1
      have q2 : Aft X.K W σ H1 G1 S1 (fin ys Sn) (QD X.K Q) := q1
      have rs1 : RelS X.K H1 G1 (wipeD ρ vs) (wipe σ vs) := (x1.relS rp rs).wipe vs
      have b0 : Beside (upd H1 Da (.lst [])) G1 Da (.lst []) := ⟨upd_same, r1.notIn hDa, r1.notPhi hDa⟩
      refine ⟨fun i m H => ∃ G S accV accD rest, m = ds.length - i ∧ i ≤ ds.length ∧ Ext H1 G1 S1 H G S ∧ Rep X.K H G S ∧ Beside H G Da (.lst accV) ∧ DnAll X.K G.φ H accD accV ∧ accV.length ≤ i ∧ lcD g t e (wipeD ρ vs) (ds.drop i) S = .ok rest Sn ∧ ys = accD ++ rest,
        ⟨ds.length, G1, S1, [], [], ys, by simp, Nat.zero_le _, Ext.other r1 hDa, Rep.other r1 hDa, b0, .nil, Nat.le_refl _, by simpa using eo, rfl⟩, ?_⟩
      rintro i m H ⟨G, S, accV, accD, rest, rfl, hi, x, r, b, ta, hlen, el, rfl⟩
      by_cases hlt : i < ds.length
      · refine .inr ⟨gv.go H G S x r i hlt, fun H' => ∃ G' S' accV' accD' rest', Ext H1 G1 S1 H' G' S' ∧ Rep X.K H' G' S' ∧ Beside H' G' Da (.lst accV') ∧ DnAll X.K G'.φ H' accD' accV' ∧ accV'.length ≤ i + 1 ∧ lcD g t e (wipeD ρ vs) (ds.drop (i + 1)) S' = .ok rest' Sn ∧ accD ++ rest = accD' ++ rest',
          fun H' ⟨G', S', accV', accD', rest', h1, h2, h3, h4, h5, h6, h7⟩ => ⟨ds.length - (i + 1), by omega, G', S', accV', accD', rest', rfl, hlt, h1, h2, h3, h4, h5, h6, h7⟩, fun v H' y => ?_⟩
        obtain ⟨ex, rp', dv, _⟩ := gv.yld H G S x r i ds[i] (by simp [hlt]) v H' y
        rw [List.drop_eq_getElem_cons hlt] at el
        unfold lcD at el
        split at el
        · cases el
        · rename_i ρ1 S2 eg
          refine ⟨G, S, wipeD ρ vs, ds[i], (x.trans ex).relS r1 rs1, rp', dv, ?_⟩
          rw [eg]
          refine fun H2 G2 x2 r2 σ2 rs2 w2 => ⟨by rw [w2, wipe_wipe], ?_⟩
          have xa := x.trans (ex.trans x2)
          cases et : t ρ1 S2 with
          | bad => rw [et] at el; cases el
          | err _ _ => rw [et] at el; cases el
          | ok bb S3 =>
            rw [et] at el
            refine ⟨G2, S2, ρ1, rs2, r2, Aft.of_ok et fun H3 G3 x3 r3 => ?_⟩
            have xb := xa.trans x3
            have b3 := b.ext ((ex.trans x2).trans x3)
            have ta3 : DnAll X.K G3.φ H3 accD accV := ((ex.trans x2).trans x3).dnAll r ta
            cases bb with
            | false =>
              refine L2.iteF ?_
              simp only [Out.bind_ok, if_neg Bool.false_ne_true] at el
              exact ⟨G3, S3, accV, accD, rest, xb, r3, b3, ta3, by omega, el, rfl⟩
            | true =>
              refine L2.iteT ?_
              simp only [Out.bind_ok, if_pos] at el
              cases ee : e ρ1 S3 with
              | bad => rw [ee] at el; cases el
              | err _ _ => rw [ee] at el; cases el
              | ok yd S4 =>
                rw [ee] at el
                refine ⟨G3, S3, ρ1, x3.relS r2 rs2, r3, Aft.of_ok ee fun H4 G4 x4 r4 w dw => ?_⟩
                have b4 := b3.ext x4
                cases yd with
                | p pv =>
                  simp only [Out.bind_ok] at el
                  cases er : lcD g t e (wipeD ρ vs) (ds.drop (i + 1)) S4 with
                  | bad => rw [er] at el; cases el
                  | err _ _ => rw [er] at el; cases el
                  | ok vs' S5 =>
                    rw [er] at el
                    have el : Out.ok (pv :: vs') S5 = Out.ok rest Sn := el
                    cases el
                    refine ⟨accV, b4.at_, Nat.lt_of_le_of_lt hlen (Nat.lt_of_lt_of_le hlt (Nat.le_trans hl LIM_le)), G4, S4, accV ++ [w], accD ++ [pv], vs', (xb.trans x4).aside hDa, r4.aside b4, ⟨upd_same, b4.ι, b4.φ⟩, ?_, by rw [List.length_append, List.length_singleton]; omega, er, by rw [List.append_assoc]; rfl⟩
                    exact (dn_aside b4.at_ (x4.dnAll r3 ta3)).append (dn_aside b4.at_ (.cons dw .nil))
                | ob _ => cases el
                | ro _ => cases el
                | ext _ => cases el
      · have e : i = ds.length := by omega
        subst e
        rw [List.drop_length] at el
        unfold lcD at el
        cases el
        rw [List.append_nil] at q2
        refine .inl ⟨gv.stop H G _ x r, fo X.K W σ H1 H G1 G S1 _ accD accV Da Q x hDa r b ta fun S' d ef H' G' x' r' v dv => ?_⟩
        rw [ef] at q2
        exact q2 H' G' x' r' v dv
  · simp only [if_neg hl] at q1; exact q1.elim
theorem PTs.imp {ifs : List Expr} {t t' : TT} (h : PTs X ifs t) (i : ∀ σ H Q, t' σ H Q → t σ H Q) : PTs X ifs t' := ⟨fun pins s σ H Q I q => h.run pins s σ H Q I (i σ H Q q)⟩
variable {elt tg iter : Expr} {ifs : List Expr} {scope : Scope} {own : List (Str × Nat)} {pos spos : Pos} {f : FI} {g : FG} {t : FT} {e : FE} {fin : List PyData → M D}
theorem dts_nil : PTs X [] (rdT X.K W tYesD) := PTs.imp pts_nil fun σ H Q ⟨G, S, ρ, rs, rp, q⟩ => q H G Ext.refl rp
theorem dts_one {c : Expr} (h : DT X W c t) : PTs X [c] (rdT X.K W t) := pts_one h.run
theorem de_lc (fo : FinOk fin) (hc : X.calm = true) (hN : X.N.Nodup) (hi : DI X W tg iter f) (ok : BlkOk X.N X.env.scope scope own)
    (hg : ∀ (s : Shared) (H : Hp) (C : Addr) (cl : List (Str × Addr)) (fp : List Addr), DG (X.blk s H scope (compEnvC scope cl C X.env) fp) (own.map (·.2)) tg g)
    (ht : ∀ (s : Shared) (H : Hp) (C : Addr) (cl : List (Str × Addr)) (fp : List Addr), PTs (X.blk s H scope (compEnvC scope cl C X.env) fp) ifs (rdT X.K W0 t))
    (he : ∀ (s : Shared) (H : Hp) (C : Addr) (cl : List (Str × Addr)) (fp : List Addr), DE (X.blk s H scope (compEnvC scope cl C X.env) fp) W0 elt e) (hs : ∀ x, foldedSetIterable iter X.env x = pure x := by intro _; rfl) :
    DE X W (.ListComp elt [⟨tg, iter, ifs, 0⟩] scope pos) (eLc f g t e (own.map (·.2)) fin) :=
  ⟨PE.imp (pe_lc (g := rdG X.K (own.map (·.2)) g) (te := rd X.K W0 e) hc hN hi.run ok (fun s H C cl fp => (hg s H C cl fp).run) ht (fun s H C cl fp => (he s H C cl fp).run) hs) fun _ _ _ q => lc_read fo q⟩
theorem ds_setLc {i : Nat} {y : Str} {py : Pos} (fo : FinOk fin) (hc : X.calm = true) (hN : X.N.Nodup) (hy : X.N[i]? = some y) (hyl : X.env.scope.names.lookup y = some .local)
    (hsw : swapsWith (.ListComp elt [⟨tg, iter, ifs, 0⟩] scope pos) (some (.Name y py)) spos.line X.env = pure true) (hi : DI X W tg iter f) (ok : BlkOk X.N X.env.scope scope own)
    (hg : ∀ (s : Shared) (H : Hp) (C : Addr) (cl : List (Str × Addr)) (fp : List Addr), DG (X.blk s H scope (compEnvC scope cl C X.env) fp) (own.map (·.2)) tg g)
    (ht : ∀ (s : Shared) (H : Hp) (C : Addr) (cl : List (Str × Addr)) (fp : List Addr), PTs (X.blk s H scope (compEnvC scope cl C X.env) fp) ifs (rdT X.K W0 t))
    (he : ∀ (s : Shared) (H : Hp) (C : Addr) (cl : List (Str × Addr)) (fp : List Addr), DE (X.blk s H scope (compEnvC scope cl C X.env) fp) W0 elt e) (hs : ∀ x, foldedSetIterable iter X.env x = pure x := by intro _; rfl) :
    DS X W (.Assign [.Name y py] (.ListComp elt [⟨tg, iter, ifs, 0⟩] scope pos) spos) (sSet i (eLc f g t e (own.map (·.2)) fin)) := by
  refine ⟨PS.imp (ps_setLc (g := rdG X.K (own.map (·.2)) g) (te := rd X.K W0 e) hc hN hy hyl hsw hi.run ok (fun s H C cl fp => (hg s H C cl fp).run) ht (fun s H C cl fp => (he s H C cl fp).run) hs) fun E σ H ⟨G, S, ρ, rs, rp, q⟩ => ?_⟩
  exact lc_read fo ⟨G, S, ρ, rs, rp, (AftS.st q rs rp).mono fun d H1 G1 S1 x1 r1 q1 v dv => AftS.next q1 Ext.refl r1 ((x1.relS rp rs).set dv i)⟩
end
end DL

namespace DL
open PySem L2 PySem.Spec PyProof.Rows

/-- a def keeps its promise wherever no repr is under way -/
structure FnG (P : Program) (w : World) (K : PySem.W.Frag) (mg : Str → Option Value) (base : Heap) (k : Nat) (f : Addr) (fd : FuncData) (ps : List Str) (sp : Sp) : Prop where
  len : ∀ vs H Q E, sp vs H Q E → vs.length = ps.length
  run : ∀ (A : Around) (outer : List Env) (s : Shared) (H : Hp) (args : Args) (us : List Value) (vs : List V) (Q : VK) (E : XK), Room k A → A.guards = some [] → Env0 P w K mg base A outer s H → BindsTo s fd args (ps.zip us) → Vals vs us → sp vs H Q E →
    codeAny (model P w) A (.call (.ref f) args) (CR CX0 outer P w H s Q E) s

theorem fnG_of {P : Program} {w : World} {K : PySem.W.Frag} {mg : Str → Option Value} {base : Heap} {x qual : Str} {st : Stmt} {f : Addr} {fd : FuncData} {N ps : List Str} {k : Nat} {sp : Sp} (F : Fun K x qual st f fd) (Sc : FnScope N ps (defScope st)) (len : ∀ vs H Q E, sp vs H Q E → vs.length = ps.length)
    (hbody : ∀ (cdv : Value) (A : Around) (outer : List Env) (s : Shared) (H : Hp) (vs : List V) (Q : VK) (E : XK), Room k (A.deeper (envOfC qual (defScope st) s.heap.objs.size f cdv)) → A.guards = some [] → sp vs H Q E →
      ∃ t, PSs (cxOf CX0 P w K mg base N qual (defScope st) f cdv A outer s H E).nox (defBody st) t ∧ t { nx := fun _ H' => Q .non H', rt := Q } (start N vs) H) : FnG P w K mg base (k + 1) f fd ps sp := by
  obtain ⟨oc, od, kV, doc, pm, an, cdv, ct, osl, rfl, lk, hcd⟩ := F.ex
  refine ⟨len, fun A outer s H args us vs Q E hr hgd e0 hb r hsp => ?_⟩
  have hl := len _ _ _ _ hsp
  have keepB : ∀ b o, base.get? b = some o → s.heap.get? b = some o := fun b o e => (e0.bs b o e).1
  have KX : K.In s.heap := e0.mod.kin.keeps keepB
  have lim : s.heap.NoLimit := e0.mod.nolimit.keeps keepB
  obtain ⟨t, ht, hq⟩ := hbody cdv A outer s H vs Q E (hr.deeper _) hgd hsp
  refine codeAny_call_function hr.depth (KX _ _ lk) rfl Sc.co Sc.gen rfl (PySem.W.codeRec_of KX hcd) (hb _ _ _ _ ?_)
  refine wpAny_newFunctionEnv_cells Sc.kind (fun y hy => ?_) fun env he s1 xx => ?_
  · obtain ⟨n, v⟩ := y
    rcases Sc.par n (List.of_mem_zip hy).1 with q | q
    · exact .inl q
    · exact .inr ⟨q, PySem.W.cellsFrom_some _ _ _ (.inl q)⟩
  subst he
  refine ⟨lim.keeps xx.toInCall.keep, codeAny_func ?_⟩
  have I := inv_start (CX := CX0) (E := E) Sc hr.hd e0 hl r xx
  refine wpAny_mono (ht.nox.run [] s1 (start N vs) H _ I hq) (fun fl s' hs => ?_) fun e s' hs => hs
  cases fl with
  | ret u =>
    obtain ⟨v, σ', H', J, rv, q⟩ := hs
    exact ⟨v, H', J.os, J.bare, J.base, J.hok, rv, q⟩
  | next =>
    obtain ⟨σ', H', J, q⟩ := hs
    exact ⟨.non, H', J.os, J.bare, J.base, J.hok, rfl, q⟩
  | brk =>
    obtain ⟨_, _, _, q⟩ := hs
    exact False.elim q
  | cont =>
    obtain ⟨_, _, _, q⟩ := hs
    exact False.elim q

/-- the later objects of the store are forgotten when a def is left -/
def cutD (n : Nat) : Out D → Out D
  | .ok (.ob i) s => if i < n then .ok (.ob i) (s.take n) else .ok (.ob i) s
  | .ok d s => .ok d (s.take n)
  | o => o
def runF (m : Nat) (body : FS) : List D → M D := fun ds S => match body (ds.map some ++ List.replicate (m - ds.length) none) S with
  | some (.ret d, s) => .ok d s
  | some (.next _, s) => .ok (.p .none) s
  | some (.exc x _, s) => .err x s
  | _ => .bad
def spD (K : PySem.W.Frag) (n : Nat) (g : List D → M D) : Sp := fun vs H Q _ => ∃ G S ds, ds.length = n ∧ DenL K H G ds vs ∧ Rep K H G S ∧ Aft K W0 [] H G S (cutD S.length (g ds S)) (QD K Q)
theorem den_cut {K : PySem.W.Frag} {H : Hp} {G : Gh} {n : Nat} {d : D} {v : V} (h : Den K H G d v) (hi : ∀ i, d = .ob i → i < n) : Den K H ⟨G.ι.take n, G.φ⟩ d v := by
  cases d with
  | p x => exact h
  | ob i =>
    obtain ⟨a, rfl, ha⟩ := h
    exact ⟨a, rfl, by show (G.ι.take n)[i]? = some a; rw [List.getElem?_take, if_pos (hi i rfl)]; exact ha⟩
  | ro xs => exact h
  | ext u => exact h
theorem Aft.uncut {K : PySem.W.Frag} {H : Hp} {G : Gh} {S S' : Sto} {d : D} {Q : VK} (rp : Rep K H G S) (q : Aft K W0 [] H G S (cutD S.length (.ok d S')) (QD K Q)) {H' : Hp} {G' : Gh} {v : V} (x : Ext H G S H' G' S') (r : Rep K H' G' S') (dv : Den K H' G' d v) : Q v H' := by
  have fin : (∀ i, d = .ob i → i < S.length) → Aft K W0 [] H G S (.ok d (S'.take S.length)) (QD K Q) → Q v H' := fun hi q => q H' _ (x.cut rp) (r.cut _) v (den_cut dv hi)
  cases d with
  | p y => exact fin (fun i e => nomatch e) q
  | ro y => exact fin (fun i e => nomatch e) q
  | ext y => exact fin (fun i e => nomatch e) q
  | ob i =>
    by_cases hi : i < S.length
    · have q : Aft K W0 [] H G S (if i < S.length then .ok (.ob i) (S'.take S.length) else .ok (.ob i) S') (QD K Q) := q
      rw [if_pos hi] at q
      exact fin (fun j e => by cases e; exact hi) q
    · have q : Aft K W0 [] H G S (if i < S.length then .ok (.ob i) (S'.take S.length) else .ok (.ob i) S') (QD K Q) := q
      rw [if_neg hi] at q
      exact q H' G' x r v dv
theorem fn_data {P : Program} {w : World} {K : PySem.W.Frag} {mg : Str → Option Value} {base : Heap} {x qual : Str} {st : Stmt} {f : Addr} {fd : FuncData} {N ps : List Str} {k m n : Nat} (F : Fun K x qual st f fd) (Sc : FnScope N ps (defScope st)) (hm : N.length = m) (hn : ps.length = n) (body : FS)
    (hb : ∀ (cdv : Value) (A : Around) (outer : List Env) (s : Shared) (H : Hp) (E : XK), Room k (A.deeper (envOfC qual (defScope st) s.heap.objs.size f cdv)) → A.guards = some [] → DSs (cxOf CX0 P w K mg base N qual (defScope st) f cdv A outer s H E).nox W0 (defBody st) body) :
    FnG P w K mg base (k + 1) f fd ps (spD K n (runF m body)) := by
  subst hm hn
  refine fnG_of F Sc (fun vs H Q E ⟨G, S, ds, hl, dl, _⟩ => by rw [← dl.length]; exact hl) fun cdv A outer s H vs Q E hr hgd ⟨G, S, ds, hl, dl, rp, q⟩ => ?_
  refine ⟨_, (hb cdv A outer s H E hr hgd).run, G, S, ds.map some ++ List.replicate (N.length - ds.length) none, ?_, rp, ?_⟩
  · rw [dl.length]
    exact RelS.ofArgs (N.length - vs.length) dl
  · unfold runF at q
    cases eo : body (ds.map some ++ List.replicate (N.length - ds.length) none) S with
    | none => rw [eo] at q; exact q
    | some pr =>
      obtain ⟨fl, S'⟩ := pr
      rw [eo] at q
      cases fl with
      | ret d => exact fun H' G' v x r dv => Aft.uncut rp q x r dv
      | next ρ' => exact fun H' G' σ' x r rs => Aft.uncut (d := .p .none) rp q x r .non
      | brk ρ' => exact q.elim
      | cont ρ' => exact q.elim
      | exc y ρ' => exact fun H' G' σ' d x r rs e => q H' G' d x r e
/-- nothing can be asked of a def without fuel -/
theorem fn_none {P : Program} {w : World} {K : PySem.W.Frag} {mg : Str → Option Value} {base : Heap} {f : Addr} {fd : FuncData} {ps : List Str} {k n : Nat} (hn : ps.length = n) : FnG P w K mg base k f fd ps (spD K n fun _ _ => .bad) :=
  ⟨fun vs H Q E ⟨_, _, _, _, _, _, q⟩ => q.elim, fun _ _ _ _ _ _ _ _ _ _ _ _ _ _ ⟨_, _, _, _, _, _, q⟩ => q.elim⟩

def eCall (n : Nat) (g : List D → M D) (fa : FA) : FE := fun ρ S => (fa ρ S).bind fun ds S1 => if ds.length = n then noErr (cutD S1.length (g ds S1)) else .bad
section
variable {X : Cx} {W : WX} {k n : Nat} {f : Addr} {fd : FuncData} {ps : List Str} {sp : Sp} {x : Str} {p pos : Pos} {e : Expr} {es : List Expr} {fa : FA} {g : List D → M D}
theorem run_fnG {pins : List (Addr × Obj)} {σ : L2.St} {H : Hp} {s : Shared} {Q : VK} {us : List Value} {vs : List V} (F : FnG X.prog X.w X.K X.mg X.base k f fd ps sp) (hr : Room k X.A) (hgd : X.A.guards = some []) (hb : Binds X.K fd ps [])
    (I : Inv X pins σ H s) (r : Vals vs us) (h : sp vs H Q E0) : wpAny (model X.prog X.w) X.A (call (.ref f) us) (EP X pins σ Q) X.xe s := by
  have hl : us.length = ps.length := by rw [← r.length]; exact F.len _ _ _ _ h
  have hbs := hb s us I.kIn (by simpa using hl)
  rw [List.append_nil] at hbs
  refine wpAny_call (codeAny_mono (F.run X.A X.stack s H ⟨us, []⟩ us vs Q E0 hr hgd I.env0 hbs r h) fun res s' hq => ?_)
  match res, hq with
  | .error e, hq => exact False.elim hq
  | .ok (.ret u), hq => exact I.after hq
  | .ok .next, hq => exact False.elim hq
  | .ok .brk, hq => exact False.elim hq
  | .ok .cont, hq => exact False.elim hq
theorem call_read {σ : L2.St} {H : Hp} {Q : VK} (q : rd X.K W (eCall n g fa) σ H Q) : rdA X.K W fa σ H fun vs H1 => spD X.K n g vs H1 Q E0 := by
  obtain ⟨G, S, ρ, rs, rp, q⟩ := q
  refine ⟨G, S, ρ, rs, rp, (Aft.bind q).mono fun ds H1 G1 S1 x1 r1 q1 vs dv => ?_⟩
  by_cases hl : ds.length = n
  · simp only [if_pos hl] at q1
    exact ⟨G1, S1, ds, hl, dv, r1, Aft.noErr q1⟩
  · simp only [if_neg hl] at q1; exact q1.elim
theorem de_call (F : FnG X.prog X.w X.K X.mg X.base k f fd ps (spD X.K n g)) (hr : Room k X.A) (hgd : X.A.guards = some []) (hg : Gl X x) (hm : X.mg x = some (.ref f)) (hk : PySem.W.keepIn X.K (.ref f) = true) (hb : Binds X.K fd ps [])
    (ha : DA X W (e :: es) fa) (hdb : (x == ("__debug__" : Str)) = false := by decide) (he : starEach (e :: es) X.env = (false, eval e X.env) :: starEach es X.env := by rfl) (hpl : (backTo pos (starEach es X.env)).any (·.1) = false := by rfl) :
    DE X W (.Call (.Name x p) (e :: es) [] pos) (eCall n g fa) := by
  refine ⟨⟨fun pins s σ H Q I h => wpAny_Call_Name_kw (ld_glob I hg hm ?_ hdb)⟩⟩
  refine PySem.W.callWith_K (h₀ := X.base) I.ok.mod.kin hk (thn (ha.run.run pos pins s σ H _ I (call_read h)) fun us s1 ⟨vs, H1, I1, r, q⟩ => ⟨I1.kIn, run_fnG F hr hgd hb I1 r q⟩) he hpl
theorem de_call0 (F : FnG X.prog X.w X.K X.mg X.base k f fd ps (spD X.K n g)) (hr : Room k X.A) (hgd : X.A.guards = some []) (hg : Gl X x) (hm : X.mg x = some (.ref f)) (hk : PySem.W.keepIn X.K (.ref f) = true) (hb : Binds X.K fd ps [])
    (hdb : (x == ("__debug__" : Str)) = false := by decide) : DE X W (.Call (.Name x p) [] [] pos) (eCall n g aNil) := by
  refine ⟨⟨fun pins s σ H Q I h => wpAny_Call_Name_kw (ld_glob I hg hm ?_ hdb)⟩⟩
  obtain ⟨G, S, ρ, rs, rp, q⟩ := call_read h
  exact PySem.W.callWith_K0 I.kIn hk (run_fnG (us := []) F hr hgd hb I .nil (q H G Ext.refl rp [] .nil))
end

/-- what the law's def is to do: at every script, True -/
def spLaw (K : PySem.W.Frag) (g : List D → M D) : Sp := spD K 1 g
theorem law_go {P : Program} {w : World} {K : PySem.W.Frag} {mg mb : Str → Option Value} {k : Nat} {fa a : Addr} {fd : FuncData} {x : Str} {sp : Sp} {s₁ : Shared} {vs : List Value} {ns : List Int}
    (KX : K.In s₁.heap) (hns : s₁.heap.Ns mainGlobals mg) (hb : s₁.heap.Ns builtinsNs mb) (hbb : ∀ x : Str, x ≠ "__name__" → mb x = bootBuiltins x) (hlim : s₁.heap.NoLimit) (hg : s₁.gens = #[])
    (ha : s₁.heap.get? a = some { cls := .type "list", data := .seq vs.toArray }) (hi : IntsAre vs ns) (hl : ns.length ≤ sizeLine) (hr : Room k callerA)
    (F : ∀ base : Heap, K.In base → base.Ns mainGlobals mg → FnG P w K mg base k fa fd [x] sp) (hbind : ∀ (s : Shared) (u : Value), BindsTo s fd ⟨[u], []⟩ [(x, u)])
    (hsp : ∀ H : Hp, Only H → SqL K H a (ns.map V.int) → sp [.ref a] H (fun v _ => v = .bl true) fun _ _ _ => False) :
    codeAny (model P w) callerA (.call (.ref fa) ⟨[.ref a], []⟩) (fun r s' => r = .ok (.ret (.bool true)) ∧ OldK s₁.heap s'.heap ∧ s'.os = s₁.os ∧ AllBare s'.gens) s₁ := by
  have rv := vals_ints hi
  have lenV := hi.length
  have main : ∀ H : Hp, Only H → SqL K H a (ns.map V.int) → HOk P w H s₁.heap → (∀ b, H b ≠ none → b = a) → (H a ≠ none → K.lookup a = none) →
      codeAny (model P w) callerA (.call (.ref fa) ⟨[.ref a], []⟩) (fun r s' => r = .ok (.ret (.bool true)) ∧ OldK s₁.heap s'.heap ∧ s'.os = s₁.os ∧ AllBare s'.gens) s₁ := by
    intro H hO hS hok hA hK
    have free : ∀ {b : Addr} {o : Obj} {es : Array DictEntry} {ep : Nat}, s₁.heap.get? b = some o → o.data = .dict es ep → H b = none := fun {b o es ep} e d => by
      by_cases q : H b = none
      · exact q
      · have e' := hA b q
        subst e'
        rw [ha] at e; cases e
        cases (show Data.seq vs.toArray _ = Data.dict es ep from d)
    have nsK : ∀ {b : Addr} {m : Str → Option Value}, s₁.heap.Ns b m → (hidT s₁.heap H).Ns b m := fun ⟨o, es, ep, e, d, r⟩ => ⟨o, es, ep, hidT_get e (free e d), d, r⟩
    have hKb : K.In (hidT s₁.heap H) := fun b o e => hidT_get (KX b o e) (by
      by_cases q : H b = none
      · exact q
      · have e' := hA b q
        subst e'
        rw [hK q] at e; cases e)
    obtain ⟨mc, l1, l2⟩ := id hlim
    have hM : Mod K mg (hidT s₁.heap H) := ⟨hKb, nsK hns, ⟨mb, nsK hb, hbb⟩, ⟨mc, nsK l1, l2⟩⟩
    have e0 : Env0 P w K mg (hidT s₁.heap H) callerA [] s₁ H := ⟨rfl, hM, fun b o e => of_hidT e, Nat.le_of_eq (hidT_size _ _), trivial, fun b hb => absurd (show b ∈ ([] : List Addr) from hb) (by simp), hok, .of_eq hg⟩
    refine codeAny_mono ((F _ hKb (nsK hns)).run callerA [] s₁ H ⟨[.ref a], []⟩ [.ref a] [.ref a] _ _ hr rfl e0 (hbind s₁ (.ref a)) (.cons rfl .nil) (hsp H hO hS)) fun r s' h => ?_
    match r, h with
    | .error e, h => exact False.elim h
    | .ok .next, h => exact False.elim h
    | .ok .brk, h => exact False.elim h
    | .ok .cont, h => exact False.elim h
    | .ok (.ret u), h =>
      obtain ⟨v, H', os, bare, un, hok', r', q⟩ := h
      have q' : v = .bl true := q
      subst q'
      obtain rfl : u = Value.bool true := r'
      refine ⟨rfl, OldK.of_keep fun b o e => ?_, os, bare⟩
      rcases hO b with z | ⟨ob, xs, z⟩
      · exact un.keep b o e z (fun y => absurd (show b ∈ ([] : List Addr) from y) (by simp)) (by simp)
      · obtain ⟨e1, _⟩ := hok b _ z
        obtain ⟨e2, _⟩ := hok' b _ (un.frzs b ob _ z)
        rw [e] at e1; cases e1
        exact e2
  cases hk : K.lookup a with
  | some o =>
    have e := KX a o hk
    rw [ha] at e
    cases e
    refine main (fun _ => none) (fun _ => .inl rfl) (.inr ⟨_, vs.toArray, _, hk, rfl, rfl, rfl, by rw [List.size_toArray, lenV]; exact hl, by simpa using rv⟩) (fun b u z => by cases (show (none : Option HO) = some u from z)) (fun b z => absurd rfl z) fun z => absurd rfl z
  | none =>
    refine main (upd (fun _ => none) a (.frz { cls := .type "list", data := .seq vs.toArray } (.lst (ns.map V.int)))) (fun b => ?_) (.inl (.inr ⟨{ cls := .type "list", data := .seq vs.toArray }, upd_same⟩)) (fun b u z => ?_) (fun b z => ?_) fun _ => hk
    · by_cases hb : b = a
      · subst hb; exact .inr ⟨_, _, upd_same⟩
      · rw [upd_ne hb]; exact .inl rfl
    · by_cases hb : b = a
      · subst hb
        rw [upd_same] at z; cases z
        exact ⟨ha, by rw [List.length_map]; exact hl, vs, _, rv, ha⟩
      · rw [upd_ne hb] at z; cases z
    · by_cases hb : b = a
      · exact hb
      · rw [upd_ne hb] at z; exact absurd rfl z
def nums (ns : List Int) : List PyData := ns.map .int
theorem nums_dn {K : PySem.W.Frag} {φ : List (Addr × HO)} {H : Hp} : ∀ ns : List Int, DnAll K φ H (nums ns) (ns.map V.int)
  | [] => .nil
  | n :: ns => .cons (.int n) (nums_dn ns)
/-- at the law's entry: the store is empty, the script is a list that is only read -/
theorem law_sp {K : PySem.W.Frag} {g : List D → M D} {ns : List Int} {a : Addr} {H : Hp} (h : ∃ S', g [.ro (nums ns)] [] = .ok (.p (.bool true)) S') (hO : Only H) (hS : SqL K H a (ns.map V.int)) : spD K 1 g [.ref a] H (fun v _ => v = .bl true) fun _ _ _ => False := by
  obtain ⟨S', e⟩ := h
  have fin : ∀ (φ : List (Addr × HO)), Holds φ H → RL K φ a (ns.map V.int) → spD K 1 g [.ref a] H (fun v _ => v = .bl true) fun _ _ _ => False := fun φ hφ hr => by
    refine ⟨⟨[], φ⟩, [], [.ro (nums ns)], rfl, .cons ⟨a, _, rfl, hr, nums_dn ns⟩ .nil, ⟨rfl, List.nodup_nil, fun i b o h => by simp at h, hφ, fun p _ l => ?_⟩, ?_⟩
    · obtain ⟨i, o, h, _⟩ := l
      simp at h
    · rw [e]
      exact fun H' G' x r v dv => den_bool dv
  rcases hS with (h | ⟨o, h⟩) | h
  · exact fin [(a, .lst (ns.map V.int))] (fun p hp => by obtain rfl := List.mem_singleton.mp hp; exact h) fun H' q => SqL.of (q _ (List.mem_singleton.mpr rfl))
  · exact fin [(a, .frz o (.lst (ns.map V.int)))] (fun p hp => by obtain rfl := List.mem_singleton.mp hp; exact h) fun H' q => .inl (.inr ⟨o, q _ (List.mem_singleton.mpr rfl)⟩)
  · exact fin [] (fun p hp => by cases hp) fun H' _ => .inr h
/-- from the law's mirror to the walk that k_head leaves -/
theorem walk_data {l : PySem.W.OpenLaw} {k : Nat} {q : Program} {loose : List Str} {XP : (Str → Option Value) → Heap → Prop} {YP : World → Heap → Prop} {d : DefRec} {K : Params → PySem.W.Frag} {x : Str} {g : List D → M D}
    (hn : l.most = some 63) (hdf : d.params.defaults = []) (hr : Room k callerA) (hY : ∀ (w : World) (h : Heap), YP w h → (K w.params).In h)
    (F : ∀ (w : World) (mg : Str → Option Value) (fa : Addr) (h : Heap), (K w.params).In h → h.Ns mainGlobals mg → mg d.name = some (.ref fa) →
      ∃ fd : FuncData, (∀ (s : Shared) (u : Value), BindsTo s fd ⟨[u], []⟩ [(x, u)]) ∧ ∀ base : Heap, (K w.params).In base → base.Ns mainGlobals mg → FnG l.prog w (K w.params) mg base k fa fd [x] (spD (K w.params) 1 g))
    (hg : ∀ ns : List Int, ns.length ≤ 63 → ∃ S', g [.ro (nums ns)] [] = .ok (.p (.bool true)) S') : PySem.W.WalkO q loose XP YP l.row.toRowW d [] (fun f vs => PySem.call f vs) := by
  refine Att.attach_call hn hdf fun w s₀ s₁ mg mb fa o pm cd doc a vs ns G Y ho hd hcd hmg hobj hints hlen hgn => ?_
  have KX := hY w _ Y
  obtain ⟨fd, hb, hF⟩ := F w mg fa _ KX G.T.g hmg
  exact law_go KX G.T.g G.T.b G.T.builtins G.T.nolimit hgn hobj hints (Nat.le_trans hlen (by decide)) hr hF hb fun H hO hS => law_sp (hg ns hlen) hO hS
end DL

namespace DL
open PySem L2 PySem.Spec PyProof.Rows

mutual
inductive RD (h : Heap) : Value → PyData → Prop
  | none : RD h .none .none
  | bool (b) : RD h (.bool b) (.bool b)
  | int (i t) : RD h (.int i t) (.int i)
  | str (x t) : RD h (.str x t) (.str x)
  | list {a o vs n xs} : h.get? a = some o → o.cls = .type "list" → o.data = .seq vs n → RDs h vs.toList xs → RD h (.ref a) (.list xs)
  | tuple {a o vs n xs} : h.get? a = some o → o.cls = .type "tuple" → o.data = .seq vs n → RDs h vs.toList xs → RD h (.ref a) (.tuple xs)
  | dict {a o es n kvs} : h.get? a = some o → o.cls = .type "dict" → o.data = .dict es n → (a == sysModules) = false → RDs h (es.toList.map (·.key)) (kvs.map (·.1)) → RDs h (es.toList.map (·.val)) (kvs.map (·.2)) → RD h (.ref a) (.dict kvs)
inductive RDs (h : Heap) : List Value → List PyData → Prop
  | nil : RDs h [] []
  | cons {v vs d ds} : RD h v d → RDs h vs ds → RDs h (v :: vs) (d :: ds)
end
mutual
theorem RD.reads {h : Heap} : ∀ {v : Value} {d : PyData}, RD h v d → ∃ as, Reads h v d as
  | _, _, .none => ⟨_, .none⟩
  | _, _, .bool b => ⟨_, .bool b⟩
  | _, _, .int i t => ⟨_, .int i t⟩
  | _, _, .str x t => ⟨_, .str x t⟩
  | _, _, .list h1 h2 h3 h4 => let ⟨as, r⟩ := h4.reads; ⟨_, .list h1 h2 h3 r⟩
  | _, _, .tuple h1 h2 h3 h4 => let ⟨as, r⟩ := h4.reads; ⟨_, .tuple h1 h2 h3 r⟩
  | _, _, .dict h1 h2 h3 _ h4 h5 => let ⟨as, r⟩ := h4.reads; let ⟨bs, r'⟩ := h5.reads; ⟨_, .dict h1 h2 h3 r r'⟩
theorem RDs.reads {h : Heap} : ∀ {vs : List Value} {ds : List PyData}, RDs h vs ds → ∃ as, ReadsAll h vs ds as
  | _, _, .nil => ⟨_, .nil⟩
  | _, _, .cons a b => let ⟨as, r⟩ := a.reads; let ⟨bs, r'⟩ := b.reads; ⟨_, .cons r r'⟩
end
section
variable {prog : Program} {w : World} {h₀ : Heap}
theorem deepD {n m : Nat} : n < 1 + max n m := by omega
mutual
theorem RD.reprK : ∀ {v : Value} {d : PyData}, RD h₀ v d → d.showable = true → d.shown.length ≤ sizeLine → ∃ bs, ReadAtMost h₀ d.depth bs ∧ ReprK prog w bs h₀ d.depth v d.shown
  | _, _, .none, _, _ => ⟨[], (fun _ h => nomatch h), by simp only [PyData.shown]; exact .of_is ReprIs.none _ _ _⟩
  | _, _, .bool b, _, _ => ⟨[], (fun _ h => nomatch h), by simp only [PyData.shown]; exact .of_is (ReprIs.bool b) _ _ _⟩
  | _, _, .int i t, hs, _ => ⟨[], (fun _ h => nomatch h), by simp only [PyData.shown]; exact .of_is (ReprIs.int t (by simpa [PyData.showable] using hs)) _ _ _⟩
  | _, _, .str x t, _, hz => ⟨[], (fun _ h => nomatch h), by simp only [PyData.shown]; exact .of_is (ReprIs.str x t (by simpa only [PyData.shown] using hz)) _ _ _⟩
  | _, _, .list (a := a) (vs := vs) (xs := xs) h1 h2 h3 h4, hs, hz => by
    simp only [PyData.shown] at hz
    obtain ⟨bs, hb, hk⟩ := RDs.reprK h4 (by simpa [PyData.showable] using hs) fun t ht => Nat.le_trans (listText_mem_le ht) hz
    obtain ⟨as, rr⟩ := h4.reads
    have r := Reads.list h1 h2 h3 rr
    refine ⟨a :: bs, ReadAtMost.cons r (by simp only [PyData.depth]; omega) hb, ?_⟩
    have hna := not_mem_of_deeper r (by simp only [PyData.depth]; omega) hb
    simp only [PyData.depth, PyData.shown]
    obtain ⟨l⟩ := vs
    cases l with
    | nil =>
      cases (show RDs h₀ [] xs from h4)
      simp only [PyData.shownAll, listText_nil]
      exact ReprK.listEmpty h1 h2 h3
    | cons x l => exact ReprK.list h1 h2 h3 hna (by simpa using hk.length_eq) fun i y e => hk.item i y (by simpa using e)
  | _, _, .tuple (a := a) (xs := xs) h1 h2 h3 h4, hs, hz => by
    simp only [PyData.shown] at hz
    obtain ⟨bs, hb, hk⟩ := RDs.reprK h4 (by simpa [PyData.showable] using hs) fun t ht => Nat.le_trans (tupleText_mem_le ht) hz
    obtain ⟨as, rr⟩ := h4.reads
    have r := Reads.tuple h1 h2 h3 rr
    refine ⟨a :: bs, ReadAtMost.cons r (by simp only [PyData.depth]; omega) hb, ?_⟩
    have hna := not_mem_of_deeper r (by simp only [PyData.depth]; omega) hb
    simp only [PyData.depth, PyData.shown]
    exact ReprK.tuple h1 h2 h3 hna hk
  | _, _, .dict (a := a) (es := es) (kvs := kvs) h1 h2 h3 hsys h4 h5, hs, hz => by
    simp only [PyData.shown] at hz
    obtain ⟨hs1, hs2⟩ := PyData.showableKv_split kvs (by simpa [PyData.showable] using hs)
    have z1 : ∀ t ∈ PyData.shownAll (kvs.map (·.1)), t.length ≤ sizeLine := fun t ht => by
      obtain ⟨p, hp, hl⟩ := PyData.shownKv_key_le kvs t ht
      exact Nat.le_trans hl (Nat.le_trans (dictText_mem_le hp) hz)
    have z2 : ∀ t ∈ PyData.shownAll (kvs.map (·.2)), t.length ≤ sizeLine := fun t ht => by
      obtain ⟨p, hp, hl⟩ := PyData.shownKv_val_le kvs t ht
      exact Nat.le_trans hl (Nat.le_trans (dictText_mem_le hp) hz)
    obtain ⟨b1, hb1, k1⟩ := RDs.reprK h4 hs1 z1
    obtain ⟨b2, hb2, k2⟩ := RDs.reprK h5 hs2 z2
    obtain ⟨as, r1⟩ := h4.reads
    obtain ⟨cs, r2⟩ := h5.reads
    have r := Reads.dict h1 h2 h3 r1 r2
    have hb : ReadAtMost h₀ (PyData.depthKv kvs) (b1 ++ b2) := (hb1.mono (PyData.depthAll_keys_le kvs)).append (hb2.mono (PyData.depthAll_vals_le kvs))
    refine ⟨a :: (b1 ++ b2), ReadAtMost.cons r (by simp only [PyData.depth]; omega) hb, ?_⟩
    have hna := not_mem_of_deeper r (by simp only [PyData.depth]; omega) hb
    simp only [PyData.depth, PyData.shown, PyData.shownKv_eq]
    exact ReprK.dict h1 h2 h3 hsys hna (ReprEntriesK.of_two es.toList _ _ (k1.more_le (fun b hb => List.mem_append_left _ hb) (PyData.depthAll_keys_le kvs)) (k2.more_le (fun b hb => List.mem_append_right _ hb) (PyData.depthAll_vals_le kvs)))
theorem RDs.reprK : ∀ {vs : List Value} {ds : List PyData}, RDs h₀ vs ds → PyData.showableAll ds = true → (∀ t ∈ PyData.shownAll ds, t.length ≤ sizeLine) → ∃ bs, ReadAtMost h₀ (PyData.depthAll ds) bs ∧ ReprAllK prog w bs h₀ (PyData.depthAll ds) vs (PyData.shownAll ds)
  | _, _, .nil, _, _ => ⟨[], (fun _ h => nomatch h), by simp only [PyData.shownAll]; exact .nil⟩
  | _, _, .cons (d := d) (ds := ds) r rs, hs, hz => by
    simp only [PyData.showableAll, Bool.and_eq_true] at hs
    simp only [PyData.shownAll] at hz
    obtain ⟨b1, hb1, k1⟩ := RD.reprK r hs.1 (hz _ List.mem_cons_self)
    obtain ⟨b2, hb2, k2⟩ := RDs.reprK rs hs.2 fun t ht => hz t (List.mem_cons_of_mem _ ht)
    simp only [PyData.depthAll, PyData.shownAll]
    exact ⟨b1 ++ b2, (hb1.mono (Nat.le_max_left _ _)).append (hb2.mono (Nat.le_max_right _ _)), .cons ((k1.more fun b hb => List.mem_append_left _ hb).level_le (Nat.le_max_left _ _)) (k2.more_le (fun b hb => List.mem_append_right _ hb) (Nat.le_max_right _ _))⟩
end
theorem repr_RD {v : Value} {d : PyData} {A : Around} {E : Value → Shared → Prop} {s : Shared} {Q : Value → Shared → Prop} (r : RD s.heap v d) (hs : d.showable = true) (hz : d.shown.length ≤ sizeLine) (hg : A.guards = some []) (hu : A.units + (d.depth + 1) < cLine)
    (hQ : ∀ h' u tk, (∀ b o, s.heap.get? b = some o → h'.get? b = some o) → Q (.str d.shown u) { s with heap := h', toks := tk }) : wpAny (model prog w) A (call (.builtin "repr") [v]) Q E s := by
  have hu1 : A.in1.units + d.depth < cLine := by show A.units + 1 + d.depth < cLine; omega
  cases r with
  | none => exact PySem.P.repr_of_none (by simpa only [PyData.shown] using hQ s.heap s.toks (s.toks + 1) fun _ _ e => e)
  | bool b => exact PySem.P.repr_of_bool (by simpa only [PyData.shown] using hQ s.heap s.toks (s.toks + 1) fun _ _ e => e)
  | int i t => exact PySem.P.repr_of_int (by simpa [PyData.showable] using hs) (by simpa only [PyData.shown] using hQ s.heap s.toks (s.toks + 1) fun _ _ e => e)
  | str x t => exact PySem.P.repr_of_str (by simpa only [PyData.shown] using hQ s.heap s.toks (s.toks + 1) fun _ _ e => e) (by simpa only [PyData.shown] using hz)
  | list h1 h2 h3 h4 =>
    rename_i a o vs n xs
    simp only [PyData.shown] at hz hQ
    obtain ⟨bs, hb, hk⟩ := RDs.reprK (prog := prog) (w := w) h4 (by simpa [PyData.showable] using hs) fun t ht => Nat.le_trans (listText_mem_le ht) hz
    obtain ⟨as, rr⟩ := h4.reads
    have hna := not_mem_of_deeper (Reads.list h1 h2 h3 rr) (by simp only [PyData.depth]; omega) hb
    simp only [PyData.depth] at hu1
    refine call_repr_slot (by omega) ⟨o, h1, h2⟩ F.slot_list_repr.toG ?_
    obtain ⟨l⟩ := vs
    cases l with
    | nil =>
      cases (show RDs s.heap [] xs from h4)
      simp only [PyData.shownAll, listText_nil] at hQ
      exact call_list_repr_empty ⟨o, h1, h2⟩ h1 h3 ⟨_, _, rfl, hQ s.heap _ _ fun _ _ e => e⟩
    | cons x l => exact call_list_reprK h1 h2 h3 hna (by simpa using hk.length_eq) (fun i y e => hk.item i y (by simpa using e)) hg (fun b _ => Clear.nil b) hu1 (fun _ _ e => e) (fun h' u tk hk => ⟨_, _, rfl, hQ h' u tk hk⟩) hz
  | tuple h1 h2 h3 h4 =>
    rename_i a o vs n xs
    simp only [PyData.shown] at hz hQ
    obtain ⟨bs, hb, hk⟩ := RDs.reprK (prog := prog) (w := w) h4 (by simpa [PyData.showable] using hs) fun t ht => Nat.le_trans (tupleText_mem_le ht) hz
    obtain ⟨as, rr⟩ := h4.reads
    have hna := not_mem_of_deeper (Reads.tuple h1 h2 h3 rr) (by simp only [PyData.depth]; omega) hb
    simp only [PyData.depth] at hu1
    exact call_repr_slot (by omega) ⟨o, h1, h2⟩ F.slot_tuple_repr (call_tuple_reprK h1 h2 h3 hna hk hg (fun b _ => Clear.nil b) hu1 (fun _ _ e => e) (fun h' u tk hk => ⟨_, _, rfl, hQ h' u tk hk⟩) hz)
  | dict h1 h2 h3 hsys h4 h5 =>
    rename_i a o es n kvs
    simp only [PyData.shown] at hz hQ
    obtain ⟨hs1, hs2⟩ := PyData.showableKv_split kvs (by simpa [PyData.showable] using hs)
    have z1 : ∀ t ∈ PyData.shownAll (kvs.map (·.1)), t.length ≤ sizeLine := fun t ht => by
      obtain ⟨p, hp, hl⟩ := PyData.shownKv_key_le kvs t ht
      exact Nat.le_trans hl (Nat.le_trans (dictText_mem_le hp) hz)
    have z2 : ∀ t ∈ PyData.shownAll (kvs.map (·.2)), t.length ≤ sizeLine := fun t ht => by
      obtain ⟨p, hp, hl⟩ := PyData.shownKv_val_le kvs t ht
      exact Nat.le_trans hl (Nat.le_trans (dictText_mem_le hp) hz)
    obtain ⟨b1, hb1, k1⟩ := RDs.reprK (prog := prog) (w := w) h4 hs1 z1
    obtain ⟨b2, hb2, k2⟩ := RDs.reprK (prog := prog) (w := w) h5 hs2 z2
    obtain ⟨as, r1⟩ := h4.reads
    obtain ⟨cs, r2⟩ := h5.reads
    have hb : ReadAtMost s.heap (PyData.depthKv kvs) (b1 ++ b2) := (hb1.mono (PyData.depthAll_keys_le kvs)).append (hb2.mono (PyData.depthAll_vals_le kvs))
    have hna := not_mem_of_deeper (Reads.dict h1 h2 h3 r1 r2) (by simp only [PyData.depth]; omega) hb
    simp only [PyData.depth] at hu1
    rw [PyData.shownKv_eq] at hz hQ
    exact call_repr_slot (by omega) ⟨o, h1, h2⟩ F.slot_dict_repr (call_dict_reprK h1 h2 h3 hsys hna (ReprEntriesK.of_two es.toList _ _
      (k1.more_le (fun b hb => List.mem_append_left _ hb) (PyData.depthAll_keys_le kvs)) (k2.more_le (fun b hb => List.mem_append_right _ hb) (PyData.depthAll_vals_le kvs))) hg (fun b _ => Clear.nil b) hu1 (fun _ _ e => e) (fun h' u tk hk => ⟨_, _, rfl, hQ h' u tk hk⟩) hz)
end
end DL

namespace DL
open PySem L2 PySem.Spec PyProof.Rows

section
variable {X : Cx} {W : WX} {x : Str} {p pos : Pos} {e : Expr} {es : List Expr} {fa : FA} {id T : String} {r : List V → Hp → VK → Prop} {g : List D → M D}
theorem sim_A (m : SimA X.K r g) {σ : L2.St} {H : Hp} {Q : VK} (q : rd X.K W (eA g fa) σ H Q) : tCB r (rdA X.K W fa) σ H Q := by
  obtain ⟨G, S, ρ, rs, rp, q⟩ := q
  exact ⟨G, S, ρ, rs, rp, (Aft.bind q).mono fun ds H1 G1 S1 x1 r1 q1 vs dv => m W σ H1 G1 S1 ds vs Q r1 dv q1⟩
theorem de_callB (hc : CallR X (.builtin id) r) (m : SimA X.K r g) (hg : Gl X x) (hm : X.mg x = none) (hv : bootBuiltins x = some (.builtin id)) (ha : DA X W (e :: es) fa) (hn : x ≠ "__name__" := by decide) (hdb : (x == ("__debug__" : Str)) = false := by decide)
    (he : starEach (e :: es) X.env = (false, eval e X.env) :: starEach es X.env := by rfl) (hpl : (backTo pos (starEach es X.env)).any (·.1) = false := by rfl) : DE X W (.Call (.Name x p) (e :: es) [] pos) (eA g fa) :=
  ⟨PE.imp (pe_callB hc hg hm hv ha.run hn hdb he hpl) fun _ _ _ q => sim_A m q⟩
theorem de_callTy (hc : CallR X (.type T) r) (m : SimA X.K r g) (hg : Gl X x) (hm : X.mg x = none) (hv : bootBuiltins x = some (.type T)) (ha : DA X W (e :: es) fa) (hn : x ≠ "__name__" := by decide) (hdb : (x == ("__debug__" : Str)) = false := by decide)
    (he : starEach (e :: es) X.env = (false, eval e X.env) :: starEach es X.env := by rfl) (hpl : (backTo pos (starEach es X.env)).any (·.1) = false := by rfl) : DE X W (.Call (.Name x p) (e :: es) [] pos) (eA g fa) :=
  ⟨PE.imp (pe_callTy hc hg hm hv ha.run hn hdb he hpl) fun _ _ _ q => sim_A m q⟩
end
section
variable {K : PySem.W.Frag} {H : Hp} {G : Gh}
theorem denL1 {d : D} {vs : List V} (h : DenL K H G [d] vs) : ∃ v, vs = [v] ∧ Den K H G d v := by
  cases h with
  | cons h t => cases t; exact ⟨_, rfl, h⟩
theorem denL2 {d e : D} {vs : List V} (h : DenL K H G [d, e] vs) : ∃ v w, vs = [v, w] ∧ Den K H G d v ∧ Den K H G e w := by
  cases h with
  | cons h t => cases t with
    | cons h2 t => cases t; exact ⟨_, _, rfl, h, h2⟩
end

def lenM : List D → M D := fun ds S => match ds with
  | [d] => match d with
    | .p (.str z) => if z.length ≤ LIM then .ok (.p (.int z.length)) S else .bad
    | d => match seqOf S d with
      | some xs => .ok (.p (.int xs.length)) S
      | none => match dicOf S d with
        | some kvs => .ok (.p (.int kvs.length)) S
        | none => .bad
  | _ => .bad
def rLen (K : PySem.W.Frag) : List V → Hp → VK → Prop := fun xs H Q => (∃ p ys, xs = [.ref p] ∧ (SqL K H p ys ∨ SqT K H p ys) ∧ Q (.int ys.length) H) ∨ (∃ z, xs = [.str z] ∧ z.length ≤ sizeLine ∧ Q (.int z.length) H) ∨ ∃ a kvs, xs = [V.ref a] ∧ Rd H a (.dK kvs) ∧ Q (.int kvs.length) H
theorem sim_len {K : PySem.W.Frag} : SimA K (rLen K) lenM := by
  intro W σ H G S xs vs Q rp dv q
  unfold lenM at q
  split at q
  · rename_i d
    obtain ⟨v, rfl, dv1⟩ := denL1 dv
    replace dv := dv1
    split at q
    · rename_i z
      by_cases hz : z.length ≤ LIM
      · rw [if_pos hz] at q
        rw [den_str dv]
        exact .inr (.inl ⟨z, rfl, Nat.le_trans hz LIM_le, q.ret rp (.int _)⟩)
      · rw [if_neg hz] at q; exact q.elim
    · split at q
      · rename_i xs es
        obtain ⟨a, us, rfl, hq, t⟩ := seqOf_den rp es dv
        refine .inl ⟨a, us, rfl, hq, ?_⟩
        rw [← t.length]
        exact q.ret rp (.int _)
      · split at q
        · rename_i kvs es
          obtain ⟨a, ws, rfl, hH, r⟩ := dicOf_den rp es dv
          refine .inr (.inr ⟨a, ws, rfl, hH, ?_⟩)
          rw [← r.length]
          exact q.ret rp (.int _)
        · exact q.elim
  · exact q.elim
section
variable {X : Cx} {W : WX} {p pos : Pos} {e : Expr} {fa : FA}
theorem call_lenRd : CallR X (.builtin "len") (fun xs H Q => ∃ a kvs, xs = [V.ref a] ∧ Rd H a (.dK kvs) ∧ Q (.int kvs.length) H) := by
  intro pins s σ H vs us Q I r h
  obtain ⟨a, kvs, rfl, e, q⟩ := h
  rw [Vals.ref1 r]
  exact d_len I e fun t s' I' => ⟨.int _, H, I', ⟨t, rfl⟩, q⟩
theorem de_len (hg : Gl X "len") (hm : X.mg "len" = none) (ha : DA X W [e] fa) (he : starEach [e] X.env = (false, eval e X.env) :: starEach [] X.env := by rfl) : DE X W (.Call (.Name "len" p) [e] [] pos) (eA lenM fa) :=
  de_callB (call_len_seq.or (call_len_str.or call_lenRd)) sim_len hg hm PySem.boot_len ha (by decide) (by decide) he

def intM : List D → M D := fun ds S => match ds with
  | [.p (.int i)] => .ok (.p (.int i)) S
  | [.p (.bool b)] => .ok (.p (.int (if b then 1 else 0))) S
  | _ => .bad
theorem de_int1 (hg : Gl X "int") (hm : X.mg "int" = none) (ha : DA X W [e] fa) (he : starEach [e] X.env = (false, eval e X.env) :: starEach [] X.env := by rfl) : DE X W (.Call (.Name "int" p) [e] [] pos) (eA intM fa) :=
  de_callTy (r := fun xs H Q => (∃ i, xs = [.int i] ∧ Q (.int i) H) ∨ ∃ k, xs = [.bl k] ∧ Q (.int (if k then 1 else 0)) H) call_int1 (by
    intro W σ H G S xs vs Q rp dv q
    unfold intM at q
    split at q
    · rename_i i
      obtain ⟨v, rfl, dv1⟩ := denL1 dv
      replace dv := dv1
      rw [den_int dv]
      exact .inl ⟨i, rfl, q.ret rp (.int _)⟩
    · rename_i b
      obtain ⟨v, rfl, dv1⟩ := denL1 dv
      replace dv := dv1
      rw [den_bool dv]
      exact .inr ⟨b, rfl, q.ret rp (.int _)⟩
    · exact q.elim) hg hm (by decide +kernel) ha (by decide) (by decide) he
def listM (fin : List PyData → M D) : List D → M D := fun ds S => match ds with
  | [d] => match seqOf S d with
    | some xs => fin xs S
    | none => .bad
  | _ => .bad
def rList (K : PySem.W.Frag) : List V → Hp → VK → Prop := fun xs H Q => ∃ p ys, xs = [.ref p] ∧ (SqL K H p ys ∨ SqT K H p ys) ∧ ∀ l, H l = none → Q (.ref l) (upd H l (.lst ys))
theorem sim_listL {K : PySem.W.Frag} : SimA K (rList K) (listM finL) := by
  intro W σ H G S xs vs Q rp dv q
  unfold listM at q
  split at q
  · obtain ⟨v, rfl, dv1⟩ := denL1 dv
    replace dv := dv1
    split at q
    · rename_i xs es
      obtain ⟨a, us, rfl, hq, t⟩ := seqOf_den rp es dv
      exact ⟨a, us, rfl, hq, fun l hl => Aft.newLst q rp t hl⟩
    · exact q.elim
  · exact q.elim
theorem sim_listM {K : PySem.W.Frag} : SimA K (rList K) (listM finM) := by
  intro W σ H G S xs vs Q rp dv q
  unfold listM at q
  split at q
  · obtain ⟨v, rfl, dv1⟩ := denL1 dv
    replace dv := dv1
    split at q
    · rename_i xs es
      obtain ⟨a, us, rfl, hq, t⟩ := seqOf_den rp es dv
      exact ⟨a, us, rfl, hq, fun l hl => Aft.newLstM q rp t hl⟩
    · exact q.elim
  · exact q.elim
theorem de_list (hg : Gl X "list") (hm : X.mg "list" = none) (ha : DA X W [e] fa) (he : starEach [e] X.env = (false, eval e X.env) :: starEach [] X.env := by rfl) : DE X W (.Call (.Name "list" p) [e] [] pos) (eA (listM finL) fa) :=
  de_callTy call_list_of sim_listL hg hm (by decide +kernel) ha (by decide) (by decide) he
theorem de_listM (hg : Gl X "list") (hm : X.mg "list" = none) (ha : DA X W [e] fa) (he : starEach [e] X.env = (false, eval e X.env) :: starEach [] X.env := by rfl) : DE X W (.Call (.Name "list" p) [e] [] pos) (eA (listM finM) fa) :=
  de_callTy call_list_of sim_listM hg hm (by decide +kernel) ha (by decide) (by decide) he
def tupleM : List D → M D := fun ds S => match ds with
  | [.p (.tuple xs)] => .ok (.p (.tuple xs)) S
  | [d] => match lstOf S d with
    | some xs => .ok (.p (.tuple xs)) S
    | none => .bad
  | _ => .bad
theorem de_tuple (hg : Gl X "tuple") (hm : X.mg "tuple" = none) (ha : DA X W [e] fa) (he : starEach [e] X.env = (false, eval e X.env) :: starEach [] X.env := by rfl) : DE X W (.Call (.Name "tuple" p) [e] [] pos) (eA tupleM fa) :=
  de_callTy call_tuple_of (by
    intro W σ H G S xs vs Q rp dv q
    unfold tupleM at q
    split at q
    · obtain ⟨v, rfl, dv1⟩ := denL1 dv
      replace dv := dv1
      obtain ⟨a, us, rfl, hq, t⟩ := den_tup dv
      exact ⟨a, us, rfl, .inr ⟨hq, q.ret rp dv⟩⟩
    · obtain ⟨v, rfl, dv1⟩ := denL1 dv
      replace dv := dv1
      split at q
      · rename_i xs es
        obtain ⟨a, us, rfl, hq, t⟩ := lstOf_den rp es dv
        exact ⟨a, us, rfl, .inl ⟨SqL.of hq, fun l hl => Aft.newTup q rp t hl⟩⟩
      · exact q.elim
    · exact q.elim) hg hm (by decide +kernel) ha (by decide) (by decide) he
def bools : List PyData → Option (List Bool)
  | [] => some []
  | .bool b :: r => match bools r with
    | some bs => some (b :: bs)
    | none => none
  | _ :: _ => none
theorem bools_dn {K : PySem.W.Frag} {φ : List (Addr × HO)} {H : Hp} : ∀ {xs : List PyData} {bs : List Bool} {vs : List V}, bools xs = some bs → DnAll K φ H xs vs → vs = bs.map V.bl
  | [], bs, _, e, .nil => by cases e; rfl
  | .bool b :: r, bs, _, e, .cons h t => by
    simp only [bools] at e
    cases q : bools r with
    | none => rw [q] at e; cases e
    | some cs =>
      rw [q] at e; cases e
      cases h
      rw [bools_dn q t]; rfl
  | .none :: _, _, _, e, _ => by cases e
  | .int _ :: _, _, _, e, _ => by cases e
  | .str _ :: _, _, _, e, _ => by cases e
  | .list _ :: _, _, _, e, _ => by cases e
  | .tuple _ :: _, _, _, e, _ => by cases e
  | .dict _ :: _, _, _, e, _ => by cases e
def allM (any : Bool) : List D → M D := fun ds S => match ds with
  | [d] => match lstOf S d with
    | some xs => match bools xs with
      | some bs => .ok (.p (.bool (if any then bs.any id else bs.all id))) S
      | none => .bad
    | none => .bad
  | _ => .bad
theorem de_all (hc : X.calm = true) (hg : Gl X "all") (hm : X.mg "all" = none) (ha : DA X W [e] fa) (he : starEach [e] X.env = (false, eval e X.env) :: starEach [] X.env := by rfl) : DE X W (.Call (.Name "all" p) [e] [] pos) (eA (allM false) fa) :=
  de_callB (cr_all hc) (by
    intro W σ H G S xs vs Q rp dv q
    unfold allM at q
    split at q
    · obtain ⟨v, rfl, dv1⟩ := denL1 dv
      replace dv := dv1
      split at q
      · rename_i xs es
        split at q
        · rename_i bs eb
          obtain ⟨a, us, rfl, hq, t⟩ := lstOf_den rp es dv
          refine ⟨a, bs, rfl, ?_, q.ret rp (.bl _)⟩
          rw [← bools_dn eb t]; exact SqL.of hq
        · exact q.elim
      · exact q.elim
    · exact q.elim) hg hm (by decide +kernel) ha (by decide) (by decide) he
theorem de_any (hc : X.calm = true) (hg : Gl X "any") (hm : X.mg "any" = none) (ha : DA X W [e] fa) (he : starEach [e] X.env = (false, eval e X.env) :: starEach [] X.env := by rfl) : DE X W (.Call (.Name "any" p) [e] [] pos) (eA (allM true) fa) :=
  de_callB (cr_any hc) (by
    intro W σ H G S xs vs Q rp dv q
    unfold allM at q
    split at q
    · obtain ⟨v, rfl, dv1⟩ := denL1 dv
      replace dv := dv1
      split at q
      · rename_i xs es
        split at q
        · rename_i bs eb
          obtain ⟨a, us, rfl, hq, t⟩ := lstOf_den rp es dv
          refine ⟨a, bs, rfl, ?_, q.ret rp (.bl _)⟩
          rw [← bools_dn eb t]; exact SqL.of hq
        · exact q.elim
      · exact q.elim
    · exact q.elim) hg hm (by decide +kernel) ha (by decide) (by decide) he

def reprM : List D → M D := fun ds S => match ds with
  | [.p d] => if d.showable && (decide (d.depth ≤ 60) && decide (d.shown.length ≤ LIM)) then .ok (.p (.str d.shown)) S else .bad
  | _ => .bad
def rRepr (K : PySem.W.Frag) : List V → Hp → VK → Prop := fun xs H Q => ∃ v d φ, xs = [v] ∧ Holds φ H ∧ Dn K φ H d v ∧ d.showable = true ∧ d.depth ≤ 60 ∧ d.shown.length ≤ LIM ∧ Q (.str d.shown) H
theorem pairs_keys {P : Program} {w : World} {h : Heap} : ∀ {es : List DictEntry} {kvs : List (Key × Value)} {ds : List PyData} {ws : List (Key × V)}, Pairs (mixKind P w) es kvs → KV ws kvs → ds = ws.map (fun p => keyPy p.1) → RDs h (es.map (·.key)) ds
  | _, _, _, _, .nil, r, e => by
    cases r
    subst e
    exact .nil
  | _, _, _, _, .cons (e := en) hk hv t, r, e => by
    cases r with
    | cons r1 r2 =>
      rename_i pw ws
      subst e
      refine .cons ?_ (pairs_keys t r2 rfl)
      have hk : keyIs _ en.key = true := hk
      rw [← r1.1] at hk
      rcases keyIs_shape hk with ⟨i, tk, e1, e2⟩ | ⟨z, tk, e1, e2⟩
      · show RD h en.key (keyPy pw.1)
        rw [e2, e1]; exact .int i tk
      · show RD h en.key (keyPy pw.1)
        rw [e2, e1]; exact .str z tk
theorem pairs_vals {P : Program} {w : World} : ∀ {es : List DictEntry} {kvs : List (Key × Value)} {ws : List (Key × V)}, Pairs (mixKind P w) es kvs → KV ws kvs → Vals (ws.map (·.2)) (es.map (·.val))
  | _, _, _, .nil, r => by cases r; exact .nil
  | _, _, _, .cons hk hv t, r => by
    cases r with
    | cons r1 r2 => exact .cons (by rw [← hv] at r1; exact r1.2) (pairs_vals t r2)
mutual
theorem Dn.rd {φ : List (Addr × HO)} {pins : List (Addr × Obj)} {σ : L2.St} {H : Hp} {s : Shared} (I : Inv X pins σ H s) (hφ : Holds φ H) : ∀ {d : PyData} {v : V} {u : Value}, Dn X.K φ H d v → RelV v u → RD s.heap u d
  | _, _, _, .non, r => by cases r; exact .none
  | _, _, _, .bl b, r => by cases r; exact .bool b
  | _, _, _, .int i, r => by obtain ⟨t, rfl⟩ := r; exact .int i t
  | _, _, _, .str x, r => by obtain ⟨t, rfl⟩ := r; exact .str x t
  | _, _, _, .lst f t, r => by
    cases r
    obtain ⟨its, n, rv, e, _⟩ := I.lst (f H hφ)
    exact .list e rfl rfl (DnAll.rd I hφ t (by simpa using rv))
  | _, _, _, .tup f t, r => by
    cases r
    obtain ⟨its, rv, ⟨o, e, c, n, dd⟩, _⟩ := I.tuple f
    exact .tuple e c dd (DnAll.rd I hφ t (by simpa using rv))
  | _, _, _, .dic (ws := ws) f ek t, r => by
    cases r
    obtain ⟨_, hsys, vs, rel, o, es, ep, e, ex, dd, _, pr, _⟩ := dk_rd I.hok (.inr ⟨f.choose, f.choose_spec H hφ⟩)
    exact .dict e ex.1 dd hsys (pairs_keys pr rel ek) (DnAll.rd I hφ t (pairs_vals pr rel))
theorem DnAll.rd {φ : List (Addr × HO)} {pins : List (Addr × Obj)} {σ : L2.St} {H : Hp} {s : Shared} (I : Inv X pins σ H s) (hφ : Holds φ H) : ∀ {ds : List PyData} {vs : List V} {us : List Value}, DnAll X.K φ H ds vs → Vals vs us → RDs s.heap us ds
  | _, _, _, .nil, r => by cases r; exact .nil
  | _, _, _, .cons h t, r => by
    cases r with
    | cons r1 r2 => exact .cons (Dn.rd I hφ h r1) (DnAll.rd I hφ t r2)
end
theorem call_reprD (hgd : X.A.guards = some []) (hu : X.A.units + 64 < cLine) : CallR X (.builtin "repr") (rRepr X.K) := by
  intro pins s σ H xs us Q I r q
  obtain ⟨v, d, φ, rfl, hφ, dn, hs, hd, hz, q⟩ := q
  obtain ⟨u, rfl, rv⟩ := vals1 r
  exact repr_RD (Dn.rd I hφ dn rv) hs (Nat.le_trans hz LIM_le) hgd (by omega) fun h' t tk hk => ⟨.str d.shown, H, I.kept hk, ⟨t, rfl⟩, q⟩
theorem de_repr (hgd : X.A.guards = some []) (hu : X.A.units + 64 < cLine) (hg : Gl X "repr") (hm : X.mg "repr" = none) (ha : DA X W [e] fa) (he : starEach [e] X.env = (false, eval e X.env) :: starEach [] X.env := by rfl) : DE X W (.Call (.Name "repr" p) [e] [] pos) (eA reprM fa) :=
  de_callB (call_reprD hgd hu) (by
    intro W σ H G S xs vs Q rp dv q
    unfold reprM at q
    split at q
    · rename_i d
      obtain ⟨v, rfl, dv1⟩ := denL1 dv
      by_cases hc : (d.showable && (decide (d.depth ≤ 60) && decide (d.shown.length ≤ LIM))) = true
      · rw [if_pos hc] at q
        simp only [Bool.and_eq_true, decide_eq_true_eq] at hc
        exact ⟨v, d, G.φ, rfl, rp.phi, dv1, hc.1, hc.2.1, hc.2.2, q.ret rp (.str _)⟩
      · rw [if_neg hc] at q; exact q.elim
    · exact q.elim) hg hm (by decide +kernel) ha (by decide) (by decide) he
end

inductive Tg where
  | str | tuple | int | bool | list | dict
def Tg.nm : Tg → String
  | .str => "str" | .tuple => "tuple" | .int => "int" | .bool => "bool" | .list => "list" | .dict => "dict"
def isT : Tg → PyData → Bool
  | .str, .str _ => true
  | .tuple, .tuple _ => true
  | .int, .int _ => true
  | .int, .bool _ => true
  | .bool, .bool _ => true
  | .list, .list _ => true
  | .dict, .dict _ => true
  | _, _ => false
def isiM (T : Tg) : D → M D := fun d S => match d with
  | .p x => .ok (.p (.bool (isT T x))) S
  | _ => .bad
def tyP : PyData → String
  | .none => "NoneType" | .bool _ => "bool" | .int _ => "int" | .str _ => "str" | .list _ => "list" | .tuple _ => "tuple" | .dict _ => "dict"
theorem isT_ok {K : PySem.W.Frag} (T : Tg) (x : PyData) : PySem.W.kitOne K (.type (tyP x)) (.type T.nm) = some (isT T x) := by
  cases T <;> cases x <;> exact kit_ty (by first | rfl | kernel_rfl)
theorem tyP_ok {K : PySem.W.Frag} {H : Hp} {G : Gh} {S : Sto} (rp : Rep K H G S) {x : PyData} {v : V} (h : Dn K G.φ H x v) : TyX K H v (.type (tyP x)) := by
  cases h with
  | non => exact .base .non
  | bl b => exact .base (.bl b)
  | int i => exact .base (.int i)
  | str z => exact .base (.str z)
  | lst f t => exact .base (.lst (f H rp.phi))
  | tup f t =>
    rcases f with (f | ⟨o, f⟩) | ⟨o, its, n, k1, k2, _⟩
    · exact .base (.tup f)
    · exact .fTuple f
    · exact .kTuple k1 k2
  | dic f e t => exact .fDict (f.choose_spec H rp.phi)
section
variable {X : Cx} {W : WX} {p pos pT : Pos} {e : Expr} {f : FE}
theorem de_isi (T : Tg) (hg : Gl X "isinstance") (hm : X.mg "isinstance" = none) (hgT : Gl X (Str.ofString T.nm)) (hmT : X.mg (Str.ofString T.nm) = none) (hvT : bootBuiltins (Str.ofString T.nm) = some (.type T.nm)) (ha : DE X W e f) (hnT : Str.ofString T.nm ≠ "__name__" := by decide) (hdT : (Str.ofString T.nm == ("__debug__" : Str)) = false := by decide)
    (he : starEach [e, .Name (Str.ofString T.nm) pT] X.env = (false, eval e X.env) :: starEach [.Name (Str.ofString T.nm) pT] X.env := by rfl) (hpl : (backTo pos (starEach [.Name (Str.ofString T.nm) pT] X.env)).any (·.1) = false := by rfl) (he2 : starEach [.Name (Str.ofString T.nm) pT] X.env = (false, eval (.Name (Str.ofString T.nm) pT) X.env) :: starEach [] X.env := by rfl) :
    DE X W (.Call (.Name "isinstance" p) [e, .Name (Str.ofString T.nm) pT] [] pos) (e1 (isiM T) f) := by
  refine ⟨PE.imp (pe_callB call_isi hg hm (by decide +kernel) (pa_cons ha.run (pa_cons (pe_bltn (v := .ty T.nm) hgT hmT hvT rfl hnT hdT) pa_nil he2) he) (by decide) (by decide) he hpl) fun σ H Q ⟨G, S, ρ, rs, rp, q⟩ => ?_⟩
  refine ⟨G, S, ρ, rs, rp, (Aft.bind q).mono fun d H1 G1 S1 x1 r1 q1 v dv => ?_⟩
  unfold isiM at q1
  split at q1
  · rename_i x
    exact ⟨v, .ty T.nm, .type (tyP x), .type T.nm, isT T x, rfl, .ty _, tyP_ok r1 dv, isT_ok T x, q1.ret r1 (.bl _)⟩
  · exact q1.elim
end

def rdO (K : PySem.W.Frag) (W : WX) (f : Ev → M (Option Int)) : TO := fun σ H Q => ∃ G S ρ, RelS K H G ρ σ ∧ Rep K H G S ∧ Aft K W σ H G S (f ρ S) fun o H' _ _ => Q o H'
def oNone : Ev → M (Option Int) := fun _ S => .ok none S
def oInt : D → M (Option Int) := fun d S => match d with
  | .p (.int i) => .ok (some i) S
  | _ => .bad
def oSome (f : FE) : Ev → M (Option Int) := fun ρ S => (f ρ S).bind oInt
/-- a list, also the script -/
def rlOf (S : Sto) : D → Option (List PyData)
  | .p (.list l) => some l
  | .ro l => some l
  | .ob i => match S[i]? with
    | some (.lst l) => some l
    | _ => none
  | _ => none
theorem rlOf_den {K : PySem.W.Frag} {H : Hp} {G : Gh} {S : Sto} (rp : Rep K H G S) {d : D} {v : V} {xs : List PyData} (e : rlOf S d = some xs) (h : Den K H G d v) : ∃ a vs, v = .ref a ∧ SqL K H a vs ∧ DnAll K G.φ H xs vs := by
  cases d with
  | p x =>
    cases x with
    | list l =>
      cases e
      obtain ⟨a, vs, rfl, f, t⟩ := den_lst h
      exact ⟨a, vs, rfl, SqL.of (f H rp.phi), t⟩
    | _ => cases e
  | ob i =>
    simp only [rlOf] at e
    split at e
    · rename_i ks ei
      cases e
      obtain ⟨a, rfl, ha⟩ := h
      obtain ⟨vs, e1, t⟩ := rp.ok i a _ ha ei
      exact ⟨a, vs, rfl, SqL.of e1, t⟩
    · cases e
  | ro l =>
    cases e
    obtain ⟨a, vs, rfl, f, t⟩ := h
    exact ⟨a, vs, rfl, f H rp.phi, t⟩
  | ext _ => cases e
def cutP (xs : List PyData) (lo hi : Option Int) : List PyData := (xs.drop (HT.sIx xs.length 0 lo)).take (HT.sIx xs.length xs.length hi - HT.sIx xs.length 0 lo)
theorem cut_dn {K : PySem.W.Frag} {φ : List (Addr × HO)} {H : Hp} {xs : List PyData} {vs : List V} {lo hi : Option Int} (t : DnAll K φ H xs vs) : DnAll K φ H (cutP xs lo hi) (cutV vs lo hi) := by
  unfold cutP cutV
  rw [t.length]
  exact (t.drop _).take _
def sliM : D → Option Int → Option Int → M D := fun d lo hi S => match d with
  | .p (.tuple xs) => .ok (.p (.tuple (cutP xs lo hi))) S
  | .p (.str z) => if z.length ≤ LIM then .ok (.p (.str (cutS z lo hi))) S else .bad
  | d => match rlOf S d with
    | some xs => .ok (.p (.list (cutP xs lo hi))) S
    | none => .bad
def eSli (f : FE) (lo hi : Ev → M (Option Int)) : FE := fun ρ S => (f ρ S).bind fun d S1 => (lo ρ S1).bind fun l S2 => (hi ρ S2).bind fun u S3 => sliM d l u S3
theorem cut_whole {xs : List PyData} {lo hi : Option Int} (h : HT.sIx xs.length 0 lo = 0 ∧ HT.sIx xs.length xs.length hi = xs.length) : cutP xs lo hi = xs := by
  unfold cutP
  rw [h.1, h.2]; simp
section
variable {X : Cx} {W : WX} {p2 pos : Pos} {e : Expr} {lo hi : Option Expr} {f : FE} {l u : Ev → M (Option Int)}
theorem do_none : PO X none (rdO X.K W oNone) := ⟨fun pins s σ H Q I ⟨G, S, ρ, rs, rp, q⟩ => po_none.run pins s σ H Q I (q H G Ext.refl rp)⟩
theorem do_some (h : DE X W e f) : PO X (some e) (rdO X.K W (oSome f)) := by
  refine ⟨fun pins s σ H Q I ⟨G, S, ρ, rs, rp, q⟩ => (po_some h.run).run pins s σ H Q I ⟨G, S, ρ, rs, rp, (Aft.bind q).mono fun d H1 G1 S1 x1 r1 q1 v dv => ?_⟩⟩
  unfold oInt at q1
  split at q1
  · rename_i i
    exact ⟨i, den_int dv, q1 H1 G1 Ext.refl r1⟩
  · exact q1.elim
theorem de_slice (he : DE X W e f) (hl : PO X lo (rdO X.K W l)) (hu : PO X hi (rdO X.K W u)) : DE X W (.Subscript e (.Slice lo hi none p2) pos) (eSli f l u) := by
  refine ⟨PE.imp (pe_slice (sl_list.or (sl_tupA.or sl_str)) he.run hl hu) fun σ H Q ⟨G, S, ρ, rs, rp, q⟩ => ?_⟩
  refine ⟨G, S, ρ, rs, rp, (Aft.bind q).mono fun d H1 G1 S1 x1 r1 q1 v dv => ?_⟩
  refine ⟨G1, S1, ρ, x1.relS rp rs, r1, (Aft.bind q1).mono fun lv H2 G2 S2 x2 r2 q2 => ?_⟩
  refine ⟨G2, S2, ρ, x2.relS r1 (x1.relS rp rs), r2, (Aft.bind q2).mono fun uv H3 G3 S3 x3 r3 q3 => ?_⟩
  have dv3 := (x2.trans x3).den r1 dv
  clear dv
  unfold sliM at q3
  split at q3
  · obtain ⟨a, vs, rfl, hq, t⟩ := den_tup dv3
    refine .inr (.inl ⟨a, vs, rfl, hq, fun hw => ?_, fun _ p hp => q3.newTup r3 (cut_dn t) hp⟩)
    rw [← t.length] at hw
    rw [cut_whole hw] at q3
    exact q3.ret r3 dv3
  · rename_i z
    by_cases hz : z.length ≤ LIM
    · rw [if_pos hz] at q3
      exact .inr (.inr ⟨z, den_str dv3, Nat.le_trans hz LIM_le, q3.ret r3 (.str _)⟩)
    · rw [if_neg hz] at q3; exact q3.elim
  · split at q3
    · rename_i xs es
      obtain ⟨a, vs, rfl, hq, t⟩ := rlOf_den r3 es dv3
      exact .inl ⟨a, vs, rfl, hq, fun p hp => q3.newLst r3 (cut_dn t) hp⟩
    · exact q3.elim
def revM : D → M D := fun d S => match rlOf S d with
  | some xs => .ok (.p (.list xs.reverse)) S
  | none => .bad
theorem de_rev {k : Nat} {p1 p3 : Pos} (he : DE X W e f) : DE X W (.Subscript e (.Slice none none (some (.UnaryOp .USub (.Constant (.int 1) k p1) p2)) p3) pos) (e1 revM f) := by
  refine ⟨PE.imp (pe_revL he.run) fun σ H Q ⟨G, S, ρ, rs, rp, q⟩ => ⟨G, S, ρ, rs, rp, (Aft.bind q).mono fun d H1 G1 S1 x1 r1 q1 v dv => ?_⟩⟩
  unfold revM at q1
  split at q1
  · rename_i xs es
    obtain ⟨a, vs, rfl, hq, t⟩ := rlOf_den r1 es dv
    exact ⟨a, vs, rfl, hq, fun p hp => q1.newLst r1 t.reverse hp⟩
  · exact q1.elim
end
end DL

namespace DL
open PySem L2 PySem.Spec PyProof.Rows

def pairsD : List (FE × FE) → Ev → M (List (Key × PyData))
  | [] => fun _ S => .ok [] S
  | (fk, fv) :: r => fun ρ S => (fk ρ S).bind fun k S1 => (fv ρ S1).bind fun v S2 => (pairsD r ρ S2).bind fun kvs S3 => match k, v with
    | .p kd, .p vd => (match pyKey kd with
      | some key => .ok ((key, vd) :: kvs) S3
      | none => .bad)
    | _, _ => .bad
def mergeD (kvs : List (Key × PyData)) : List (Key × PyData) := kvs.foldl (fun acc kv => putD acc kv.1 kv.2) []
def finDL : List (Key × PyData) → M D := fun kvs S => .ok (.p (.dict (pyKv kvs))) S
def finDM : List (Key × PyData) → M D := fun kvs S => .ok (.ob S.length) (S ++ [.dic kvs])
def eDisp (fs : List (FE × FE)) (fin : List (Key × PyData) → M D) : FE := fun ρ S => (pairsD fs ρ S).bind fun kvs S1 => if kvs.length ≤ 15 then fin (mergeD kvs) S1 else .bad
inductive DPs (X : Cx) (W : WX) (pos : Pos) : List (Option Expr) → List Expr → List (FE × FE) → Prop where
  | nil : DPs X W pos [] [] []
  | cons {k v : Expr} {ks : List (Option Expr)} {vs : List Expr} {fk fv : FE} {fs : List (FE × FE)} (hk : DE X W k fk) (hv : DE X W v fv) (hr : DPs X W pos ks vs fs) : DPs X W pos (some k :: ks) (v :: vs) ((fk, fv) :: fs)
section
variable {K : PySem.W.Frag} {φ : List (Addr × HO)} {H H1 : Hp} {G G1 : Gh} {S S1 : Sto} {D : Addr} {o : HO}
theorem KvR.mono {φ' : List (Addr × HO)} {H' : Hp} {kvs : List (Key × PyData)} {ws : List (Key × V)} (r : KvR K φ H kvs ws) (hs : ∀ p ∈ φ, p ∈ φ') (ht : ∀ a vs, SqT K H a vs → SqT K H' a vs) : KvR K φ' H' kvs ws := ⟨r.ks, r.vs.mono hs ht⟩
theorem KvR.merge : ∀ {kvs : List (Key × PyData)} {ws : List (Key × V)} {acc : List (Key × PyData)} {bcc : List (Key × V)}, KvR K φ H kvs ws → KvR K φ H acc bcc → KvR K φ H (kvs.foldl (fun acc kv => putD acc kv.1 kv.2) acc) (ws.foldl (fun acc kv => putK acc kv.1 kv.2) bcc)
  | [], _, _, _, r, b => by rw [r.nil_inv]; exact b
  | p :: kvs, _, _, _, r, b => by
    obtain ⟨v, ws, rfl, h, t⟩ := r.inv
    rw [List.foldl_cons, List.foldl_cons]
    exact KvR.merge t (b.put h)
theorem tup_aside {u : HO} (e : H D = some o) (h1 : ∀ xs, o ≠ .tup xs) (h2 : ∀ ob v, o ≠ .frz ob v) : ∀ a vs, SqT K H a vs → SqT K (upd H D u) a vs := fun a vs h => by
  rcases h with (h | ⟨ob, h⟩) | h
  · exact .inl (.inl (by rw [upd_ne (ne_of h e (fun z => h1 _ z.symm))]; exact h))
  · exact .inl (.inr ⟨ob, by rw [upd_ne (ne_of h e (fun z => h2 _ _ z.symm))]; exact h⟩)
  · exact .inr h
theorem Rep.asideD {u : HO} (r : Rep K H G S) (b : Beside H G D o) (h1 : ∀ xs, o ≠ .tup xs) (h2 : ∀ ob v, o ≠ .frz ob v) : Rep K (upd H D u) G S := by
  refine ⟨r.len, r.nd, fun i a m g1 g2 => OkO.ext (G := G) (fun _ h => h) (tup_aside b.at_ h1 h2) (fun v hv => ?_) (r.ok i a m g1 g2), fun p hp => ?_, r.pnl⟩
  · rw [upd_ne (fun z => b.ι (by rw [← z]; exact List.mem_of_getElem? g1))]; exact hv
  · rw [upd_ne (b.φ p hp)]; exact r.phi p hp
end
section
variable {X : Cx} {W : WX} {pos : Pos} {keys : List (Option Expr)} {values : List Expr} {fs : List (FE × FE)}
theorem DPs.run (h : DPs X W pos keys values fs) : PPs X pos keys values (fs.map fun p => (rd X.K W p.1, rd X.K W p.2)) := by
  induction h with
  | nil => exact pps_nil
  | cons hk hv hr ih => exact pps_cons hk.run hv.run ih
theorem pairs_read {K : PySem.W.Frag} : ∀ (fs : List (FE × FE)) {σ : L2.St} {H : Hp} {G : Gh} {S : Sto} {ρ : Ev} {R : List (V × V) → Hp → Prop}, RelS K H G ρ σ → Rep K H G S →
    Aft K W σ H G S (pairsD fs ρ S) (fun kvs H' G' _ => ∀ ws, KvR K G'.φ H' kvs ws → R (ws.map fun kv => (kV kv.1, kv.2)) H') → tPairs (fs.map fun p => (rd K W p.1, rd K W p.2)) σ H R
  | [], σ, H, G, S, ρ, R, rs, rp, q => q H G Ext.refl rp [] .nil
  | (fk, fv) :: r, σ, H, G, S, ρ, R, rs, rp, q => by
    refine ⟨G, S, ρ, rs, rp, (Aft.bind q).mono fun k H1 G1 S1 x1 r1 q1 kv dk => ?_⟩
    refine ⟨G1, S1, ρ, x1.relS rp rs, r1, (Aft.bind q1).mono fun v H2 G2 S2 x2 r2 q2 vv dv => ?_⟩
    refine pairs_read r (x2.relS r1 (x1.relS rp rs)) r2 ((Aft.bind q2).mono fun kvs H3 G3 S3 x3 r3 q3 ws kr => ?_)
    have dk3 := (x2.trans x3).den r1 dk
    have dv3 := x3.den r2 dv
    split at q3
    · split at q3
      · rename_i kd vd key ek
        have ekd := keyPy_of ek
        subst ekd
        have ev : kv = kV key := by
          cases key with
          | inl i => exact den_int dk3
          | inr z => exact den_str dk3
        subst ev
        exact q3 H3 G3 Ext.refl r3 ((key, vv) :: ws) (kr.cons dv3)
      · exact q3.elim
    · exact q3.elim
theorem de_dispL (h : DPs X W pos keys values fs) (hall : keys.all (·.isSome) = true := by rfl) (hl : keys.length = values.length := by rfl) (h0 : keys ≠ [] := by exact (fun z => nomatch z)) (h15 : keys.length ≤ 15 := by decide) : DE X W (.Dict keys values pos) (eDisp fs finDL) := by
  refine ⟨PE.imp (PE.lk (pe_disp h.run hall hl h0 h15)) fun σ H Q ⟨G, S, ρ, rs, rp, q⟩ p hp => ?_⟩
  have x0 := Ext.other (o := .dK []) rp hp
  have r0 := Rep.other (o := .dK []) rp hp
  have b0 : Beside (upd H p (.dK [])) G p (.dK []) := ⟨upd_same, rp.notIn hp, rp.notPhi hp⟩
  refine pairs_read fs (x0.relS rp rs) r0 ?_
  have q' := Aft.bind q
  cases eo : pairsD fs ρ S with
  | bad => rw [eo] at q'; exact q'
  | err x s => rw [eo] at q'; exact fun H1 G1 d x1 r1 e => q' H1 G1 d (x0.trans x1) r1 e
  | ok kvs S1 =>
    rw [eo] at q'
    intro H1 G1 x1 r1 ws kr
    have b1 := b0.ext x1
    have q1 := q' H1 G1 (x0.trans x1) r1
    by_cases hk : kvs.length ≤ 15
    · simp only [if_pos hk] at q1
      refine ⟨b1.at_, ws, rfl, by rw [← kr.length]; exact hk, ?_⟩
      have nt : ∀ xs, HO.dK [] ≠ .tup xs := fun _ z => nomatch z
      have nf : ∀ ob v, HO.dK [] ≠ .frz ob v := fun _ _ z => nomatch z
      refine .inr ⟨p, .dK (mergeK [] ws), upd_same, trivial, fun od => ?_⟩
      rw [upd_twice]
      have b2 : Beside (upd H1 p (.frz od (.dK (mergeK [] ws)))) G1 p (.frz od (.dK (mergeK [] ws))) := ⟨upd_same, b1.ι, b1.φ⟩
      have r2 : Rep X.K (upd H1 p (.frz od (.dK (mergeK [] ws)))) G1 S1 := r1.asideD b1 nt nf
      have kr2 : KvR X.K G1.φ (upd H1 p (.frz od (.dK (mergeK [] ws)))) (mergeD kvs) (mergeK [] ws) := (kr.merge .nil).mono (fun _ h => h) (tup_aside b1.at_ nt nf)
      have xx : Ext H G S (upd H1 p (.frz od (.dK (mergeK [] ws)))) ⟨G1.ι, (p, .frz od (.dK (mergeK [] ws))) :: G1.φ⟩ S1 := ((x0.trans x1).aside hp).iceD hp
      have q2 := q'
      have fin : Aft X.K W σ H G S (.ok (.p (.dict (pyKv (mergeD kvs)))) S1) (QD X.K Q) := fun H9 G9 x9 r9 => by
        have := q' H9 G9 x9 r9
        simp only [if_pos hk] at this
        exact this H9 G9 Ext.refl r9
      exact fin _ _ xx (r2.iceD b2) _ (Dn.dicOf ⟨od, fun _ z => z _ List.mem_cons_self⟩ kr2.ks (kr2.vs.mono (fun _ h => List.mem_cons_of_mem _ h) fun _ _ h => h))
    · simp only [if_neg hk] at q1; exact q1.elim
theorem de_dispM (h : DPs X W pos keys values fs) (hall : keys.all (·.isSome) = true := by rfl) (hl : keys.length = values.length := by rfl) (h0 : keys ≠ [] := by exact (fun z => nomatch z)) (h15 : keys.length ≤ 15 := by decide) : DE X W (.Dict keys values pos) (eDisp fs finDM) := by
  refine ⟨PE.imp (pe_disp h.run hall hl h0 h15) fun σ H Q ⟨G, S, ρ, rs, rp, q⟩ p hp => ?_⟩
  have x0 := Ext.other (o := .dK []) rp hp
  have r0 := Rep.other (o := .dK []) rp hp
  have b0 : Beside (upd H p (.dK [])) G p (.dK []) := ⟨upd_same, rp.notIn hp, rp.notPhi hp⟩
  refine pairs_read fs (x0.relS rp rs) r0 ?_
  have q' := Aft.bind q
  cases eo : pairsD fs ρ S with
  | bad => rw [eo] at q'; exact q'
  | err x s => rw [eo] at q'; exact fun H1 G1 d x1 r1 e => q' H1 G1 d (x0.trans x1) r1 e
  | ok kvs S1 =>
    rw [eo] at q'
    intro H1 G1 x1 r1 ws kr
    have b1 := b0.ext x1
    have q1 := q' H1 G1 (x0.trans x1) r1
    by_cases hk : kvs.length ≤ 15
    · refine ⟨b1.at_, ws, rfl, by rw [← kr.length]; exact hk, ?_⟩
      have nt : ∀ xs, HO.dK [] ≠ .tup xs := fun _ z => nomatch z
      have nf : ∀ ob v, HO.dK [] ≠ .frz ob v := fun _ _ z => nomatch z
      have r2 : Rep X.K (upd H1 p (.dK (mergeK [] ws))) G1 S1 := r1.asideD b1 nt nf
      have kr2 : KvR X.K G1.φ (upd H1 p (.dK (mergeK [] ws))) (mergeD kvs) (mergeK [] ws) := (kr.merge .nil).mono (fun _ h => h) (tup_aside b1.at_ nt nf)
      have x2 : Ext H G S (upd H1 p (.dK (mergeK [] ws))) G1 S1 := (x0.trans x1).aside hp
      have fin : Aft X.K W σ H G S (.ok (.ob S1.length) (S1 ++ [.dic (mergeD kvs)])) (QD X.K Q) := by
        have q'' := Aft.bind q
        rw [eo] at q''
        intro H9 G9 x9 r9
        simp only [eDisp] at q
        rw [eo] at q
        simp only [Out.bind_ok, if_pos hk] at q
        exact q H9 G9 x9 r9
      refine fin _ (G1.add p) ?_ ?_ _ (show Den X.K _ (G1.add p) (.ob S1.length) (.ref p) from ⟨p, rfl, Gh.add_last r1 p⟩)
      · refine ⟨fun i a h => ?_, x2.phi, x2.frame, fun c l => ?_, fun c h => ?_, x2.phf⟩
        · have h := x2.pre i a h
          show (G1.ι ++ [p])[i]? = some a
          rw [List.getElem?_append_left (List.getElem?_eq_some_iff.mp h).1]; exact h
        · rcases Live.add r1 l with z | z
          · exact x2.fresh c z
          · rw [z]; exact .inr hp
        · rcases List.mem_append.mp (show c ∈ G1.ι ++ [p] from h) with z | z
          · exact x2.iot c z
          · have e : c = p := by simpa using z
            rw [e]; exact .inr hp
      · refine ⟨?_, ?_, fun i a mo h1 h2 => ?_, r2.phi, fun z hz l => ?_⟩
        · show (G1.ι ++ [p]).length = (S1 ++ [MO.dic (mergeD kvs)]).length
          rw [List.length_append, List.length_append, r1.len]; rfl
        · show (G1.ι ++ [p]).Nodup
          rw [List.nodup_append]
          refine ⟨r1.nd, by simp, fun a ha c hc => ?_⟩
          have e : c = p := by simpa using hc
          subst e
          intro z; subst z; exact b1.ι ha
        · have h1 : (G1.ι ++ [p])[i]? = some a := h1
          by_cases hi : i < S1.length
          · rw [List.getElem?_append_left (by rw [r1.len]; exact hi)] at h1
            rw [List.getElem?_append_left hi] at h2
            exact r2.ok i a mo h1 h2
          · have hl : i < (S1 ++ [MO.dic (mergeD kvs)]).length := (List.getElem?_eq_some_iff.mp h2).1
            rw [List.length_append] at hl
            have e : i = S1.length := by have : i < S1.length + 1 := hl; omega
            subst e
            rw [← r1.len] at h1
            simp at h1 h2
            subst h1 h2
            exact ⟨_, upd_same, kr2.ks, kr2.vs⟩
        · rcases Live.add r1 l with y | y
          · exact r2.pnl z hz y
          · exact b1.φ z hz y
    · simp only [if_neg hk] at q1; exact q1.elim
/-- {} -/
theorem de_dnewM : DE X W (.Dict [] [] pos) (fun _ S => .ok (.ob S.length) (S ++ [.dic []])) :=
  ⟨PE.imp pe_dnewK fun σ H Q ⟨G, S, ρ, rs, rp, q⟩ d hd => Aft.newDicM (kvs := []) (ws := []) q rp rfl .nil hd⟩
theorem de_dnewL : DE X W (.Dict [] [] pos) (fun _ S => .ok (.p (.dict [])) S) :=
  ⟨PE.imp (PE.lk pe_dnewK) fun σ H Q ⟨G, S, ρ, rs, rp, q⟩ d hd => Aft.newDicL (kvs := []) (ws := []) q rp rfl .nil hd⟩
end

def strsP : List PyData → Option (List Str)
  | [] => some []
  | .str z :: r => match strsP r with
    | some zs => some (z :: zs)
    | none => none
  | _ :: _ => none
theorem strsP_dn {K : PySem.W.Frag} {φ : List (Addr × HO)} {H : Hp} : ∀ {xs : List PyData} {zs : List Str} {vs : List V}, strsP xs = some zs → DnAll K φ H xs vs → vs = zs.map V.str
  | [], zs, _, e, .nil => by cases e; rfl
  | .str b :: r, zs, _, e, .cons h t => by
    simp only [strsP] at e
    cases q : strsP r with
    | none => rw [q] at e; cases e
    | some cs =>
      rw [q] at e; cases e
      cases h
      rw [strsP_dn q t]; rfl
  | .none :: _, _, _, e, _ => by cases e
  | .int _ :: _, _, _, e, _ => by cases e
  | .bool _ :: _, _, _, e, _ => by cases e
  | .list _ :: _, _, _, e, _ => by cases e
  | .tuple _ :: _, _, _, e, _ => by cases e
  | .dict _ :: _, _, _, e, _ => by cases e
def joinM (a : Str) : D → M D := fun l S => match seqOf S l with
  | some xs => (match strsP xs with
    | some ys => if (ys.map (·.length)).sum + ys.length * a.length ≤ 16777216 then .ok (.p (.str (Txt.join a ys))) S else .bad
    | none => .bad)
  | none => .bad
def eJoin (f g : FE) : FE := fun ρ S => (f ρ S).bind fun d S1 => match d with
  | .p (.str a) => (g ρ S1).bind (joinM a)
  | _ => .bad
def fmtM : D → M D := fun d S => match d with
  | .p (.str z) => if z.length ≤ LIM then .ok (.p (.str z)) S else .bad
  | .p (.int i) => if i.natAbs.log2 < 1920 then .ok (.p (.str (toString i))) S else .bad
  | _ => .bad
def jsD : List FE → Str → Ev → M D
  | [], acc => fun _ S => .ok (.p (.str acc)) S
  | f :: r, acc => fun ρ S => (f ρ S).bind fun d S1 => match d with
    | .p (.str y) => if (acc ++ y).length ≤ LIM then jsD r (acc ++ y) ρ S1 else .bad
    | _ => .bad
inductive DJ (X : Cx) (W : WX) : List Expr → List FE → Prop where
  | nil : DJ X W [] []
  | cons {e : Expr} {f : FE} {es : List Expr} {fs : List FE} (h : DE X W e f) (r : DJ X W es fs) : DJ X W (e :: es) (f :: fs)
section
variable {X : Cx} {W : WX} {pos apos : Pos} {o e : Expr} {f g : FE}
theorem de_join (ho : DE X W o f) (he : DE X W e g) (hs : starEach [e] X.env = [(false, eval e X.env)] := by rfl) (hbase : attributeBase o "join" X.env (eval o X.env) = eval o X.env := by rfl) (hline : (apos.endLine == pos.line) = true := by rfl) : DE X W (.Call (.Attribute o "join" apos) [e] [] pos) (eJoin f g) := by
  refine ⟨PE.imp (pe_join ho.run he.run hs hbase hline) fun σ H Q ⟨G, S, ρ, rs, rp, q⟩ => ⟨G, S, ρ, rs, rp, (Aft.bind q).mono fun d H1 G1 S1 x1 r1 q1 v dv => ?_⟩⟩
  split at q1
  · rename_i a
    refine ⟨⟨a, den_str dv⟩, G1, S1, ρ, x1.relS rp rs, r1, (Aft.bind q1).mono fun l H2 G2 S2 x2 r2 q2 w dw => ?_⟩
    unfold joinM at q2
    split at q2
    · rename_i xs es
      split at q2
      · rename_i ys ey
        obtain ⟨b, vs, rfl, hq, t⟩ := seqOf_den r2 es dw
        have ev := strsP_dn ey t
        subst ev
        by_cases hz : (ys.map (·.length)).sum + ys.length * a.length ≤ 16777216
        · rw [if_pos hz] at q2
          exact ⟨a, b, ys, den_str dv, rfl, hq, hz, q2.ret r2 (.str _)⟩
        · rw [if_neg hz] at q2; exact q2.elim
      · exact q2.elim
    · exact q2.elim
  · exact q1.elim
theorem de_fmt (he : DE X W e f) : DE X W (.FormattedValue e (-1) none pos) (e1 fmtM f) := by
  refine ⟨PE.imp (pe_fmt he.run) fun σ H Q ⟨G, S, ρ, rs, rp, q⟩ => ⟨G, S, ρ, rs, rp, (Aft.bind q).mono fun d H1 G1 S1 x1 r1 q1 v dv => ?_⟩⟩
  unfold fmtM at q1
  split at q1
  · rename_i z
    by_cases hz : z.length ≤ LIM
    · rw [if_pos hz] at q1
      exact .inl ⟨z, den_str dv, Nat.le_trans hz LIM_le, q1.ret r1 (.str _)⟩
    · rw [if_neg hz] at q1; exact q1.elim
  · rename_i i
    by_cases hz : i.natAbs.log2 < 1920
    · rw [if_pos hz] at q1
      exact .inr ⟨i, den_int dv, hz, q1.ret r1 (.str _)⟩
    · rw [if_neg hz] at q1; exact q1.elim
  · exact q1.elim
theorem DJ.run {es : List Expr} {fs : List FE} (h : DJ X W es fs) : PJ X es (fs.map (rd X.K W)) := by
  induction h with
  | nil => exact .nil
  | cons h r ih => exact .cons h.run ih
theorem js_read {K : PySem.W.Frag} {Q : VK} : ∀ (fs : List FE) (acc : Str) {σ : L2.St} {H : Hp} {G : Gh} {S : Sto} {ρ : Ev}, RelS K H G ρ σ → Rep K H G S → Aft K W σ H G S (jsD fs acc ρ S) (QD K Q) → tJs (fs.map (rd K W)) acc σ H fun out H1 => Q (.str out) H1
  | [], acc, σ, H, G, S, ρ, rs, rp, q => Aft.ret q rp (.str acc)
  | f :: r, acc, σ, H, G, S, ρ, rs, rp, q => by
    refine ⟨G, S, ρ, rs, rp, (Aft.bind q).mono fun d H1 G1 S1 x1 r1 q1 v dv => ?_⟩
    split at q1
    · rename_i y
      by_cases hz : (acc ++ y).length ≤ LIM
      · rw [if_pos hz] at q1
        exact ⟨y, den_str dv, Nat.le_trans hz LIM_le, js_read r (acc ++ y) (x1.relS rp rs) r1 q1⟩
      · rw [if_neg hz] at q1; exact q1.elim
    · exact q1.elim
theorem de_fstr {v1 v2 : Expr} {rest : List Expr} {fs : List FE} (h : DJ X W (v1 :: v2 :: rest) fs) : DE X W (.JoinedStr (v1 :: v2 :: rest) pos) (jsD fs Str.empty) :=
  ⟨PE.imp (pe_joined h.run) fun σ H Q ⟨G, S, ρ, rs, rp, q⟩ => js_read fs Str.empty rs rp q⟩
end
end DL

namespace DL
open PySem L2 PySem.Spec PyProof.Rows

def eChain (g g' : D → D → M D) (a b c : FE) : FE := fun ρ S => (a ρ S).bind fun x S1 => (b ρ S1).bind fun y S2 => (g x y S2).bind fun z S3 => match z with
  | .p (.bool true) => (c ρ S3).bind fun w S4 => g' y w S4
  | .p (.bool false) => .ok (.p (.bool false)) S3
  | _ => .bad
def boolM : D → M Bool := fun d S => match d with
  | .p (.bool c) => .ok c S
  | _ => .bad
def tChain (g g' : D → D → M D) (a b c : FE) : FT := fun ρ S => (eChain g g' a b c ρ S).bind boolM
section
variable {X : Cx} {W : WX} {a b c : Expr} {fa fb fc : FE} {pos : Pos} {r r' : R2} {g g' : D → D → M D}
theorem chain_read (m : Sim2 X.K r g) (m' : Sim2 X.K r' g') {σ : L2.St} {H : Hp} {Q : VK} (q : rd X.K W (eChain g g' fa fb fc) σ H Q) : L2.tChain r r' (rd X.K W fa) (rd X.K W fb) (rd X.K W fc) σ H Q := by
  obtain ⟨G, S, ρ, rs, rp, q⟩ := q
  refine ⟨G, S, ρ, rs, rp, (Aft.bind q).mono fun x H1 G1 S1 x1 r1 q1 v dv => ?_⟩
  refine ⟨G1, S1, ρ, x1.relS rp rs, r1, (Aft.bind q1).mono fun y H2 G2 S2 x2 r2 q2 w dw => ?_⟩
  refine m W σ H2 G2 S2 x y v w _ r2 (x2.den r1 dv) dw ((Aft.bind q2).mono fun z H3 G3 S3 x3 r3 q3 u du => ?_)
  split at q3
  · refine ⟨true, den_bool du, L2.iteT ⟨G3, S3, ρ, (x2.trans x3).relS r1 (x1.relS rp rs), r3, (Aft.bind q3).mono fun w' H4 G4 S4 x4 r4 q4 u' du' => ?_⟩⟩
    exact m' W σ H4 G4 S4 y w' w u' Q r4 ((x3.trans x4).den r2 dw) du' q4
  · exact ⟨false, den_bool du, L2.iteF (q3.ret r3 (.bl _))⟩
  · exact q3.elim
theorem de_chain {op op' : CmpOp} (o : OpR X (compareOp op) r) (m : Sim2 X.K r g) (o' : OpR X (compareOp op') r') (m' : Sim2 X.K r' g') (ha : DE X W a fa) (hb : DE X W b fb) (hc : DE X W c fc) (hm : lastMarks [op, op'] [b, c] = false := by with_unfolding_all rfl) : DE X W (.Compare a [op, op'] [b, c] pos) (eChain g g' fa fb fc) :=
  ⟨PE.imp (pe_chain o o' ha.run hb.run hc.run hm) fun _ _ _ q => chain_read m m' q⟩
theorem dt_chain {op op' : CmpOp} (o : OpR X (compareOp op) r) (m : Sim2 X.K r g) (o' : OpR X (compareOp op') r') (m' : Sim2 X.K r' g') (ha : DE X W a fa) (hb : DE X W b fb) (hc : DE X W c fc) (hm : lastMarks [op, op'] [b, c] = false := by with_unfolding_all rfl) : DT X W (.Compare a [op, op'] [b, c] pos) (tChain g g' fa fb fc) := by
  refine ⟨PT.imp (pt_chain o o' ha.run hb.run hc.run hm) fun σ H Q ⟨G, S, ρ, rs, rp, q⟩ => ?_⟩
  refine chain_read m m' ⟨G, S, ρ, rs, rp, (Aft.bind q).mono fun d H1 G1 S1 x1 r1 q1 v dv => ?_⟩
  unfold boolM at q1
  split at q1
  · rename_i c
    exact ⟨c, den_bool dv, q1 H1 G1 Ext.refl r1⟩
  · exact q1.elim
theorem de_lele (ha : DE X W a fa) (hb : DE X W b fb) (hc : DE X W c fc) (hm : lastMarks [.LtE, .LtE] [b, c] = false := by with_unfolding_all rfl) : DE X W (.Compare a [.LtE, .LtE] [b, c] pos) (eChain opLe opLe fa fb fc) := de_chain op_le sim_cmp op_le sim_cmp ha hb hc hm
theorem dt_lele (ha : DE X W a fa) (hb : DE X W b fb) (hc : DE X W c fc) (hm : lastMarks [.LtE, .LtE] [b, c] = false := by with_unfolding_all rfl) : DT X W (.Compare a [.LtE, .LtE] [b, c] pos) (tChain opLe opLe fa fb fc) := dt_chain op_le sim_cmp op_le sim_cmp ha hb hc hm
theorem dt_lelt (ha : DE X W a fa) (hb : DE X W b fb) (hc : DE X W c fc) (hm : lastMarks [.LtE, .Lt] [b, c] = false := by with_unfolding_all rfl) : DT X W (.Compare a [.LtE, .Lt] [b, c] pos) (tChain opLe opLt fa fb fc) := dt_chain op_le sim_cmp op_lt sim_cmp ha hb hc hm
theorem dt_ltlt (ha : DE X W a fa) (hb : DE X W b fb) (hc : DE X W c fc) (hm : lastMarks [.Lt, .Lt] [b, c] = false := by with_unfolding_all rfl) : DT X W (.Compare a [.Lt, .Lt] [b, c] pos) (tChain opLt opLt fa fb fc) := dt_chain op_lt sim_cmp op_lt sim_cmp ha hb hc hm
/-- is not, of bools -/
def opNotB : D → D → M D := fun x y S => match x, y with
  | .p (.bool a), .p (.bool b) => .ok (.p (.bool (!decide (a = b)))) S
  | _, _ => .bad
theorem sim_notB {K : PySem.W.Frag} : Sim2 K rNotB opNotB := by
  intro W σ H G S x y v w Q rp dx dy q
  unfold opNotB at q
  split at q
  · rename_i a b
    exact ⟨a, b, den_bool dx, den_bool dy, q.ret rp (.bl _)⟩
  · exact q.elim
theorem dt_notB (ha : DE X W a fa) (hb : DE X W b fb) : DT X W (.Compare a [.IsNot] [b] pos) (tC2 opNotB fa fb) := dt_cmp op_notBl sim_notB ha hb (nomark _)
end

section
variable {X : Cx} {W : WX} {k : Nat} {f : Addr} {fd : FuncData} {y x : Str} {p pos kpos : Pos} {e : Expr} {fe : FE} {g : List D → M D}
theorem de_callKw1 (F : FnG X.prog X.w X.K X.mg X.base k f fd [y] (spD X.K 1 g)) (hr : Room k X.A) (hgd : X.A.guards = some []) (hg : Gl X x) (hm : X.mg x = some (.ref f)) (hk : PySem.W.keepIn X.K (.ref f) = true) (hb : ∀ (s : Shared) (u : Value), BindsTo s fd ⟨[], [(y, u)]⟩ [(y, u)])
    (ha : DE X W e fe) (hall : (backToKw pos (keywordEach [⟨some y, e, kpos⟩] X.env)).all (·.1.isSome) = true := by rfl) (hks : (backToKw pos (keywordEach [⟨some y, e, kpos⟩] X.env)).filterMap (·.1) = [y] := by rfl)
    (hdb : (x == ("__debug__" : Str)) = false := by decide) (hpl : ((backTo pos (starEach [] X.env)).any (·.1) || (backToKw pos (keywordEach [⟨some y, e, kpos⟩] X.env)).any (·.1.isNone)) = false := by rfl) :
    DE X W (.Call (.Name x p) [] [⟨some y, e, kpos⟩] pos) (eCall 1 g (aCons fe aNil)) := by
  refine ⟨⟨fun pins s σ H Q I h => wpAny_Call_Name_kw (ld_glob I hg hm ?_ hdb)⟩⟩
  have hkw : PK X [⟨some y, e, kpos⟩] (tCons (rd X.K W fe) tNil) := pk_cons ha.run pk_nil
  have hq : tCons (rd X.K W fe) tNil σ H fun vs H1 => spD X.K 1 g vs H1 Q E0 := by
    obtain ⟨G, S, ρ, rs, rp, q⟩ := h
    refine ⟨G, S, ρ, rs, rp, ?_⟩
    have q : Aft X.K W σ H G S (((fe ρ S).bind fun d S1 => .ok [d] S1).bind fun ds S1 => if ds.length = 1 then noErr (cutD S1.length (g ds S1)) else .bad) (QD X.K Q) := q
    cases eo : fe ρ S with
    | bad => rw [eo] at q; exact q
    | err z S1 => rw [eo] at q; exact q
    | ok d S1 =>
      rw [eo] at q
      intro H1 G1 x1 r1 v dv
      have q1 : Aft X.K W σ H G S (noErr (cutD S1.length (g [d] S1))) (QD X.K Q) := q
      refine ⟨G1, S1, [d], rfl, .cons dv .nil, r1, ?_⟩
      have q2 : Aft X.K W0 [] H G S (cutD S1.length (g [d] S1)) (QD X.K Q) := Aft.noErr q1
      cases ec : cutD S1.length (g [d] S1) with
      | bad => rw [ec] at q2; exact q2
      | err z S2 => rw [ec] at q1; exact q1.elim
      | ok d2 S2 => rw [ec] at q2; exact fun H2 G2 x2 r2 => q2 H2 G2 (x1.trans x2) r2
  refine PySem.W.callWith_KW0 (h₀ := X.base) I.ok.mod.kin hk hall (thn (hkw.run pos pins s σ H _ I hq) fun ws s2 ⟨zs, H2, I2, rz, q2⟩ => ⟨I2.kIn, ?_⟩) hpl
  rw [hks]
  have hl : zs.length = 1 := F.len _ _ _ _ q2
  have rl := rz.length
  obtain ⟨z, rfl⟩ := List.length_eq_one_iff.mp hl
  obtain ⟨u, rfl⟩ := List.length_eq_one_iff.mp (rl.symm.trans hl)
  · refine wpAny_call (codeAny_mono (F.run X.A X.stack s2 H2 ⟨[], [(y, u)]⟩ [u] [z] Q E0 hr hgd I2.env0 (hb s2 u) rz q2) fun res s' hq => ?_)
    match res, hq with
    | .error e, hq => exact False.elim hq
    | .ok (.ret u), hq => exact I2.after hq
    | .ok .next, hq => exact False.elim hq
    | .ok .brk, hq => exact False.elim hq
    | .ok .cont, hq => exact False.elim hq
end

def appendM : D → List D → M D := fun o ds S => match o, ds with
  | .ob i, [.p x] => match S[i]? with
    | some (.lst xs) => if xs.length < LIM then .ok (.p .none) (S.set i (.lst (xs ++ [x]))) else .bad
    | _ => .bad
  | _, _ => .bad
def extendM : D → List D → M D := fun o ds S => match o, ds with
  | .ob i, [l] => match S[i]?, lstOf S l with
    | some (.lst xs), some ys => if xs.length + ys.length ≤ LIM then .ok (.p .none) (S.set i (.lst (xs ++ ys))) else .bad
    | _, _ => .bad
  | _, _ => .bad
def popM : D → List D → M D := fun o ds S => match o, ds with
  | .ob i, [] => match S[i]? with
    | some (.lst xs) => (match xs[xs.length - 1]? with
      | some y => .ok (.p y) (S.set i (.lst xs.dropLast))
      | none => .bad)
    | _ => .bad
  | .ob i, [.p (.int k)] => match S[i]? with
    | some (.lst xs) => if 0 ≤ k ∧ k ≤ 1000000 then (match xs[k.toNat]? with
      | some y => .ok (.p y) (S.set i (.lst (xs.eraseIdx k.toNat)))
      | none => .bad) else .bad
    | _ => .bad
  | _, _ => .bad
/-- o.m(..) of a list -/
def eLm (m : D → List D → M D) (f : FE) (fa : FA) : FE := fun ρ S => (f ρ S).bind fun o S1 => match rlOf S1 o with
  | some _ => (fa ρ S1).bind fun ds S2 => m o ds S2
  | none => .bad
def SimM (K : PySem.W.Frag) (r : V → List V → Hp → VK → Prop) (m : D → List D → M D) : Prop :=
  ∀ (W : WX) (σ : L2.St) (H : Hp) (G : Gh) (S : Sto) (o : D) (ds : List D) (v : V) (vs : List V) (Q : VK), Rep K H G S → Den K H G o v → DenL K H G ds vs → Aft K W σ H G S (m o ds S) (QD K Q) → r v vs H Q
theorem DnAll.dropLast {K : PySem.W.Frag} {φ : List (Addr × HO)} {H : Hp} {ds : List PyData} {vs : List V} (t : DnAll K φ H ds vs) : DnAll K φ H ds.dropLast vs.dropLast := by
  rw [List.dropLast_eq_take, List.dropLast_eq_take, t.length]
  exact t.take _
theorem DnAll.eraseIdx {K : PySem.W.Frag} {φ : List (Addr × HO)} {H : Hp} {ds : List PyData} {vs : List V} (k : Nat) (t : DnAll K φ H ds vs) : DnAll K φ H (ds.eraseIdx k) (vs.eraseIdx k) := by
  rw [List.eraseIdx_eq_take_drop_succ, List.eraseIdx_eq_take_drop_succ]
  exact (t.take k).append (t.drop (k + 1))
section
variable {K : PySem.W.Frag}
theorem Aft.chgLst {W : WX} {σ : L2.St} {H : Hp} {G : Gh} {S : Sto} {Q : VK} {i : Nat} {a : Addr} {m : MO} {xs : List PyData} {vs : List V} {d : PyData} {v : V} (q : Aft K W σ H G S (.ok (.p d) (S.set i (.lst xs))) (QD K Q)) (rp : Rep K H G S) (ha : G.ι[i]? = some a) (hm : S[i]? = some m) (hl : m ≠ .dead) (t : DnAll K G.φ H xs vs) (dv : Dn K G.φ H d v) : Q v (upd H a (.lst vs)) := by
  have x := Ext.chg (o := .lst vs) (m' := .lst xs) rp ha hm hl
  exact q _ G x (rp.chg ha hm hl ⟨vs, upd_same, x.dnAll rp t⟩) v (x.dn rp dv)
theorem sim_append : SimM K rAppend appendM := by
  intro W σ H G S o ds v vs Q rp dv dvs q
  unfold appendM at q
  split at q
  · rename_i i x
    obtain ⟨a, rfl, ha⟩ := dv
    obtain ⟨u, rfl, du⟩ := denL1 dvs
    split at q
    · rename_i xs em
      obtain ⟨us, e1, t⟩ := rp.ok i a _ ha em
      by_cases hl : xs.length < LIM
      · rw [if_pos hl] at q
        exact ⟨a, us, u, rfl, rfl, e1, by rw [← t.length]; exact Nat.lt_trans hl LIM_lt, q.chgLst rp ha em (fun z => nomatch z) (t.append (.cons du .nil)) .non⟩
      · rw [if_neg hl] at q; exact q.elim
    · exact q.elim
  · exact q.elim
theorem sim_extend : SimM K rExtend extendM := by
  intro W σ H G S o ds v vs Q rp dv dvs q
  unfold extendM at q
  split at q
  · rename_i i l
    obtain ⟨a, rfl, ha⟩ := dv
    obtain ⟨u, rfl, du⟩ := denL1 dvs
    split at q
    · rename_i xs ys em el
      obtain ⟨us, e1, t⟩ := rp.ok i a _ ha em
      obtain ⟨b, ws, rfl, e2, t2⟩ := lstOf_den rp el du
      by_cases hl : xs.length + ys.length ≤ LIM
      · rw [if_pos hl] at q
        exact ⟨a, b, us, ws, rfl, rfl, e1, e2, by rw [← t.length, ← t2.length]; exact Nat.le_trans hl LIM_le, q.chgLst rp ha em (fun z => nomatch z) (t.append t2) .non⟩
      · rw [if_neg hl] at q; exact q.elim
    · exact q.elim
  · exact q.elim
theorem sim_pop : SimM K (fun x vs H Q => rPop x vs H Q ∨ rPopAt x vs H Q) popM := by
  intro W σ H G S o ds v vs Q rp dv dvs q
  unfold popM at q
  split at q
  · rename_i i
    obtain ⟨a, rfl, ha⟩ := dv
    cases dvs
    split at q
    · rename_i xs em
      obtain ⟨us, e1, t⟩ := rp.ok i a _ ha em
      split at q
      · rename_i y ey
        obtain ⟨u, eu, du⟩ := t.get ey
        exact .inl ⟨a, us, u, rfl, rfl, e1, by rw [← t.length]; exact eu, q.chgLst rp ha em (fun z => nomatch z) t.dropLast du⟩
      · exact q.elim
    · exact q.elim
  · rename_i i k
    obtain ⟨a, rfl, ha⟩ := dv
    obtain ⟨u, rfl, du⟩ := denL1 dvs
    obtain rfl := den_int du
    split at q
    · rename_i xs em
      obtain ⟨us, e1, t⟩ := rp.ok i a _ ha em
      by_cases hk : 0 ≤ k ∧ k ≤ 1000000
      · rw [if_pos hk] at q
        split at q
        · rename_i y ey
          obtain ⟨w, ew, dw⟩ := t.get ey
          have hlt : k.toNat < us.length := (List.getElem?_eq_some_iff.mp ew).1
          exact .inr ⟨a, us, k, k.toNat, w, rfl, rfl, e1, by omega, by omega, seqIndex_of hk.1 (by omega), ew, q.chgLst rp ha em (fun z => nomatch z) (t.eraseIdx _) dw⟩
        · exact q.elim
      · rw [if_neg hk] at q; exact q.elim
    · exact q.elim
  · exact q.elim
end
section
variable {X : Cx} {W : WX} {o e : Expr} {es : List Expr} {f : FE} {fa : FA} {apos cpos : Pos} {r : V → List V → Hp → VK → Prop} {m : D → List D → M D}
theorem lm_read (sm : SimM X.K r m) {σ : L2.St} {H : Hp} {Q : VK} (q : rd X.K W (eLm m f fa) σ H Q) : tBM X.K "list" r (rd X.K W f) (rdA X.K W fa) σ H Q := by
  obtain ⟨G, S, ρ, rs, rp, q⟩ := q
  refine ⟨G, S, ρ, rs, rp, (Aft.bind q).mono fun od H1 G1 S1 x1 r1 q1 v dv => ?_⟩
  split at q1
  · rename_i xs eo
    obtain ⟨a, vs, rfl, hq, t⟩ := rlOf_den r1 eo dv
    refine ⟨.inl ⟨rfl, vs, hq⟩, G1, S1, ρ, x1.relS rp rs, r1, (Aft.bind q1).mono fun ds H2 G2 S2 x2 r2 q2 us dus => ?_⟩
    exact sm W σ H2 G2 S2 od ds _ us Q r2 (x2.den r1 dv) dus q2
  · exact q1.elim
theorem de_append (ho : DE X W o f) (ha : DA X W (e :: es) fa) (hbase : attributeBase o "append" X.env (eval o X.env) = eval o X.env := by rfl)
    (hfew : ((backTo cpos (starEach (e :: es) X.env)).all (fun x => !x.1) && (backToKw cpos (keywordEach [] X.env)).all (fun x => x.1.isSome)
      && decide ((e :: es).length + ([] : List Keyword).length + (if ([] : List Keyword).isEmpty then 0 else 1) < 30)) = true := by rfl)
    (hline : (apos.endLine == cpos.line) = true := by rfl) (hs : starEach (e :: es) X.env = (false, eval e X.env) :: starEach es X.env := by rfl) (hplain : (backTo cpos (starEach es X.env)).any (·.1) = false := by rfl) :
    DE X W (.Call (.Attribute o "append" apos) (e :: es) [] cpos) (eLm appendM f fa) :=
  ⟨PE.imp (pe_bm PySem.F.plainAttrs_list PySem.F.slot_list_append PySem.F.type_list_append mt_append ho.run ha.run hbase hfew hline hs hplain) fun _ _ _ q => lm_read sim_append q⟩
theorem de_extend (ho : DE X W o f) (ha : DA X W (e :: es) fa) (hbase : attributeBase o "extend" X.env (eval o X.env) = eval o X.env := by rfl)
    (hfew : ((backTo cpos (starEach (e :: es) X.env)).all (fun x => !x.1) && (backToKw cpos (keywordEach [] X.env)).all (fun x => x.1.isSome)
      && decide ((e :: es).length + ([] : List Keyword).length + (if ([] : List Keyword).isEmpty then 0 else 1) < 30)) = true := by rfl)
    (hline : (apos.endLine == cpos.line) = true := by rfl) (hs : starEach (e :: es) X.env = (false, eval e X.env) :: starEach es X.env := by rfl) (hplain : (backTo cpos (starEach es X.env)).any (·.1) = false := by rfl) :
    DE X W (.Call (.Attribute o "extend" apos) (e :: es) [] cpos) (eLm extendM f fa) :=
  ⟨PE.imp (pe_bm PySem.F.plainAttrs_list PySem.F.slot_list_extend PySem.F.type_list_extend mt_extend ho.run ha.run hbase hfew hline hs hplain) fun _ _ _ q => lm_read sim_extend q⟩
theorem de_popAt (ho : DE X W o f) (ha : DA X W (e :: es) fa) (hbase : attributeBase o "pop" X.env (eval o X.env) = eval o X.env := by rfl)
    (hfew : ((backTo cpos (starEach (e :: es) X.env)).all (fun x => !x.1) && (backToKw cpos (keywordEach [] X.env)).all (fun x => x.1.isSome)
      && decide ((e :: es).length + ([] : List Keyword).length + (if ([] : List Keyword).isEmpty then 0 else 1) < 30)) = true := by rfl)
    (hline : (apos.endLine == cpos.line) = true := by rfl) (hs : starEach (e :: es) X.env = (false, eval e X.env) :: starEach es X.env := by rfl) (hplain : (backTo cpos (starEach es X.env)).any (·.1) = false := by rfl) :
    DE X W (.Call (.Attribute o "pop" apos) (e :: es) [] cpos) (eLm popM f fa) :=
  ⟨PE.imp (pe_bm PySem.F.plainAttrs_list PySem.F.slot_list_pop PySem.F.type_list_pop (MtR.or (show MtR X "list.pop" _ from mt_pop) mt_popAt) ho.run ha.run hbase hfew hline hs hplain) fun _ _ _ q => lm_read sim_pop q⟩
theorem de_pop (ho : DE X W o f) (hbase : attributeBase o "pop" X.env (eval o X.env) = eval o X.env := by rfl) (hline : (apos.endLine == cpos.line) = true := by rfl) : DE X W (.Call (.Attribute o "pop" apos) [] [] cpos) (eLm popM f aNil) := by
  refine ⟨PE.imp (pe_bm0 PySem.F.plainAttrs_list PySem.F.slot_list_pop PySem.F.type_list_pop (MtR.or (show MtR X "list.pop" _ from mt_pop) mt_popAt) ho.run hbase hline) fun σ H Q q => ?_⟩
  obtain ⟨G, S, ρ, rs, rp, q⟩ := q
  refine ⟨G, S, ρ, rs, rp, (Aft.bind q).mono fun od H1 G1 S1 x1 r1 q1 v dv => ?_⟩
  split at q1
  · rename_i xs eo
    obtain ⟨a, vs, rfl, hq, t⟩ := rlOf_den r1 eo dv
    exact ⟨.inl ⟨rfl, vs, hq⟩, sim_pop W σ H1 G1 S1 od [] _ [] Q r1 dv .nil q1⟩
  · exact q1.elim

def getM : D → D → D → M D := fun o k x S => match dicOf S o, k with
  | some kvs, .p kd => (match pyKey kd with
    | some key => (match valD kvs key with
      | some d => .ok (.p d) S
      | none => .ok x S)
    | none => .bad)
  | _, _ => .bad
def setdM : D → D → D → M D := fun o k x S => match o, k, x with
  | .ob i, .p kd, .p xd => match S[i]?, pyKey kd with
    | some (.dic kvs), some key => if kvs.length < LIM then (match valD kvs key with
      | some d => .ok (.p d) S
      | none => .ok (.p xd) (S.set i (.dic (putD kvs key xd)))) else .bad
    | _, _ => .bad
  | _, _, _ => .bad
def eDm (m : D → D → D → M D) (f g h : FE) : FE := fun ρ S => (f ρ S).bind fun o S1 => match dicOf S1 o with
  | some _ => (g ρ S1).bind fun k S2 => (h ρ S2).bind fun x S3 => m o k x S3
  | none => .bad
variable {g h : FE} {e2 : Expr}
theorem de_get (hu : X.A.units + 1 < cLine) (ho : DE X W o f) (he : DE X W e g) (hf : DE X W e2 h) (m : M2 X o "get" apos e e2 cpos := by exact ⟨rfl, rfl, rfl, rfl⟩) : DE X W (.Call (.Attribute o "get" apos) [e, e2] [] cpos) (eDm getM f g h) := by
  refine ⟨PE.imp (pe_dget2 hu ho.run he.run hf.run m) fun σ H Q ⟨G, S, ρ, rs, rp, q⟩ => ⟨G, S, ρ, rs, rp, (Aft.bind q).mono fun od H1 G1 S1 x1 r1 q1 v dv => ?_⟩⟩
  split at q1
  · rename_i kv0 eo
    obtain ⟨a, ws, rfl, hH, _⟩ := dicOf_den r1 eo dv
    refine ⟨a, rfl, .inl ⟨ws, hH⟩, G1, S1, ρ, x1.relS rp rs, r1, (Aft.bind q1).mono fun k H2 G2 S2 x2 r2 q2 kv dk => ?_⟩
    refine ⟨G2, S2, ρ, x2.relS r1 (x1.relS rp rs), r2, (Aft.bind q2).mono fun x H3 G3 S3 x3 r3 q3 xv dx => ?_⟩
    unfold getM at q3
    split at q3
    · rename_i kvs kd eo3
      obtain ⟨b, ws3, eb, hH3, kr⟩ := dicOf_den r3 eo3 ((x2.trans x3).den r1 dv)
      cases eb
      split at q3
      · rename_i key ek
        have ekd := keyPy_of ek
        subst ekd
        have dk3 := x3.den r2 dk
        have ev : kv = kV key := by
          cases key with
          | inl i => exact den_int dk3
          | inr z => exact den_str dk3
        subst ev
        refine ⟨valV ws3 key, .inl ⟨ws3, key, hH3, rfl, rfl⟩, ?_⟩
        split at q3
        · rename_i d ed
          obtain ⟨u, eu, du⟩ := (kr.val (k := key)).1 d ed
          rw [eu]
          exact q3.ret r3 du
        · rename_i ed
          rw [(kr.val (k := key)).2 ed]
          exact q3.ret r3 dx
      · exact q3.elim
    · exact q3.elim
  · exact q1.elim
theorem de_setd (ho : DE X W o f) (he : DE X W e g) (hf : DE X W e2 h) (m : M2 X o "setdefault" apos e e2 cpos := by exact ⟨rfl, rfl, rfl, rfl⟩) : DE X W (.Call (.Attribute o "setdefault" apos) [e, e2] [] cpos) (eDm setdM f g h) := by
  refine ⟨PE.imp (pe_dsetd ho.run he.run hf.run m) fun σ H Q ⟨G, S, ρ, rs, rp, q⟩ => ⟨G, S, ρ, rs, rp, (Aft.bind q).mono fun od H1 G1 S1 x1 r1 q1 v dv => ?_⟩⟩
  split at q1
  · rename_i kv0 eo
    obtain ⟨a, ws, rfl, hH, _⟩ := dicOf_den r1 eo dv
    refine ⟨a, rfl, .inl ⟨ws, hH⟩, G1, S1, ρ, x1.relS rp rs, r1, (Aft.bind q1).mono fun k H2 G2 S2 x2 r2 q2 kv dk => ?_⟩
    refine ⟨G2, S2, ρ, x2.relS r1 (x1.relS rp rs), r2, (Aft.bind q2).mono fun x H3 G3 S3 x3 r3 q3 xv dx => ?_⟩
    have dv3 := (x2.trans x3).den r1 dv
    have dk3 := x3.den r2 dk
    unfold setdM at q3
    split at q3
    · rename_i i kd xd
      obtain ⟨b, eb, ha⟩ := dv3
      cases eb
      split at q3
      · rename_i kvs key em ek
        have ekd := keyPy_of ek
        subst ekd
        have ev : kv = kV key := by
          cases key with
          | inl i => exact den_int dk3
          | inr z => exact den_str dk3
        subst ev
        obtain ⟨ws3, e1, e2, t⟩ := r3.ok i a _ ha em
        have kr : KvR X.K G3.φ H3 kvs ws3 := ⟨e2, t⟩
        by_cases hl : kvs.length < LIM
        · rw [if_pos hl] at q3
          refine ⟨ws3, key, e1, rfl, by rw [← kr.length]; exact Nat.lt_trans hl LIM_lt, fun u eu => ?_, fun eu => ?_⟩
          · split at q3
            · rename_i d ed
              obtain ⟨u', eu', du⟩ := (kr.val (k := key)).1 d ed
              rw [eu] at eu'; cases eu'
              exact q3.ret r3 du
            · rename_i ed
              rw [(kr.val (k := key)).2 ed] at eu; cases eu
          · split at q3
            · rename_i d ed
              obtain ⟨u', eu', du⟩ := (kr.val (k := key)).1 d ed
              rw [eu] at eu'; cases eu'
            · have rr := kr.put (k := key) dx
              have xx := Ext.chg (o := .dK (putK ws3 key xv)) (m' := .dic (putD kvs key xd)) r3 ha em (fun z => nomatch z)
              exact q3 _ G3 xx (r3.chg ha em (fun z => nomatch z) ⟨_, upd_same, rr.ks, xx.dnAll r3 rr.vs⟩) xv (xx.dn r3 dx)
        · rw [if_neg hl] at q3; exact q3.elim
      · exact q3.elim
    · exact q3.elim
  · exact q1.elim
end
end DL

namespace DL
open PySem L2 PySem.Spec PyProof.Rows

def GlobIs (K : PySem.W.Frag) (mg : Str → Option Value) (x : Str) (d : PyData) : Prop := ∃ (u : Value) (v : V), mg x = some u ∧ RelV v u ∧ ∀ H G, Den K H G (.p d) v
theorem de_globD {X : Cx} {W : WX} {x : Str} {d : PyData} {pos : Pos} (hg : Gl X x) (h : GlobIs X.K X.mg x d) (hdb : (x == ("__debug__" : Str)) = false := by decide) : DE X W (.Name x pos) (eC (.p d)) := by
  obtain ⟨u, v, hm, r, hd⟩ := h
  exact de_glob hg hm r hd hdb
/-- flat values of the top -/
def flatOf : Value → Option (PyData × V)
  | .none => some (.none, .non)
  | .bool b => some (.bool b, .bl b)
  | .int i _ => some (.int i, .int i)
  | .str x _ => some (.str x, .str x)
  | _ => none
def flats : List Value → Option (List (PyData × V))
  | [] => some []
  | u :: us => match flatOf u, flats us with
    | some p, some ps => some (p :: ps)
    | _, _ => none
theorem flat_ok {K : PySem.W.Frag} {φ : List (Addr × HO)} {H : Hp} {u : Value} {p : PyData × V} (e : flatOf u = some p) : RelV p.2 u ∧ Dn K φ H p.1 p.2 := by
  unfold flatOf at e
  split at e <;> first | (cases e; exact ⟨rfl, .non⟩) | (cases e; exact ⟨rfl, .bl _⟩) | (cases e; exact ⟨⟨_, rfl⟩, .int _⟩) | (cases e; exact ⟨⟨_, rfl⟩, .str _⟩) | cases e
theorem flats_ok {K : PySem.W.Frag} {φ : List (Addr × HO)} {H : Hp} : ∀ {us : List Value} {ps : List (PyData × V)}, flats us = some ps → Vals (ps.map (·.2)) us ∧ DnAll K φ H (ps.map (·.1)) (ps.map (·.2))
  | [], ps, e => by cases e; exact ⟨.nil, .nil⟩
  | u :: us, ps, e => by
    unfold flats at e
    split at e
    · rename_i p ps' e1 e2
      cases e
      have h := flat_ok (K := K) (φ := φ) (H := H) e1
      have t := flats_ok (K := K) (φ := φ) (H := H) e2
      exact ⟨.cons h.1 t.1, .cons h.2 t.2⟩
    · cases e
section
variable {K : PySem.W.Frag} {h : Heap} {mg : Str → Option Value} {x : Str}
theorem glob_flat {u : Value} {p : PyData × V} {d : PyData} (X : K.In h) (G : h.Ns mainGlobals mg) (e : PySem.W.nsIn K mainGlobals x = some (some u)) (f : flatOf u = some p) (hd : p.1 = d := by rfl) : GlobIs K mg x d := by
  subst hd
  exact ⟨u, p.2, PySem.W.mg_of X G e, (flat_ok (K := K) (φ := []) (H := fun _ => none) f).1, fun H G => (flat_ok f).2⟩
theorem glob_tup {a : Addr} {o : Obj} {its : Array Value} {n : Nat} {ps : List (PyData × V)} {d : PyData} (X : K.In h) (G : h.Ns mainGlobals mg) (e : PySem.W.nsIn K mainGlobals x = some (some (.ref a))) (l : K.lookup a = some o) (hc : o.cls = .type "tuple") (hs : o.data = .seq its n)
    (f : flats its.toList = some ps) (hz : its.size ≤ 1000) (hd : PyData.tuple (ps.map (·.1)) = d) : GlobIs K mg x d := by
  subst hd
  refine ⟨.ref a, .ref a, PySem.W.mg_of X G e, rfl, fun H G => .tup (.inr ⟨o, its, n, l, hc, hs, Nat.le_of_lt (small1000 hz), ?_⟩) (flats_ok f).2⟩
  exact (flats_ok (K := K) (φ := []) (H := fun _ => none) f).1
end

def opEqX (neg : Bool) : D → D → M D := fun x y S => match x, y with
  | .p (.str a), .p (.str b) => .ok (.p (.bool (if neg then !(a == b) else (a == b)))) S
  | .p (.int a), .p (.int b) => .ok (.p (.bool (if neg then !(a == b) else (a == b)))) S
  | .p (.bool a), .p (.bool b) => .ok (.p (.bool (if neg then !(a == b) else (a == b)))) S
  | .p (.tuple xs), .p (.tuple []) => .ok (.p (.bool (if neg then !xs.isEmpty else xs.isEmpty))) S
  | x, y => opEq neg x y S
def rT0 (K : PySem.W.Frag) (neg : Bool) : R2 := fun x y H Q => ∃ a b vs, x = .ref a ∧ y = .ref b ∧ SqT K H a vs ∧ SqT K H b [] ∧ Q (.bl (if neg then !vs.isEmpty else vs.isEmpty)) H
section
variable {X : Cx}
theorem op_eqT0 (hu : X.A.units < cLine) : OpR X (compareOp .Eq) (rT0 X.K false) := by
  intro pins s σ H x y v u Q I rx ry h
  obtain ⟨a, b, vs, rfl, rfl, ha, hb, q⟩ := h
  cases (show v = Value.ref a from rx)
  cases (show u = Value.ref b from ry)
  obtain ⟨its, r1, p1, _⟩ := I.tuple ha
  obtain ⟨jts, r2, p2, _⟩ := I.tuple hb
  cases r2
  have e1 : its.length = vs.length := r1.length.symm
  refine SeqAt.RcAt.tuples (e := fun _ => true) p1 p2 hu (fun j h1 h2 => absurd h2 (by simp)) X.prog X.w X.xe _ ?_
  refine ⟨.bl _, H, I, rfl, ?_⟩
  have e : vs.isEmpty = ((List.range (min its.toArray.size ([] : List Value).toArray.size)).all (fun _ => true) && its.toArray.size == ([] : List Value).toArray.size) := by
    cases vs <;> cases its <;> simp at e1 ⊢
  rw [← e]
  exact q
theorem op_neT0 (hu : X.A.units < cLine) : OpR X (compareOp .NotEq) (rT0 X.K true) := by
  intro pins s σ H x y v u Q I rx ry h
  obtain ⟨a, b, vs, rfl, rfl, ha, hb, q⟩ := h
  cases (show v = Value.ref a from rx)
  cases (show u = Value.ref b from ry)
  obtain ⟨its, r1, p1, _⟩ := I.tuple ha
  obtain ⟨jts, r2, p2, _⟩ := I.tuple hb
  cases r2
  have e1 : its.length = vs.length := r1.length.symm
  refine SeqAt.RcNeAt.tuples (e := fun _ => true) p1 p2 hu (fun j h1 h2 => absurd h2 (by simp)) X.prog X.w X.xe _ ?_
  refine ⟨.bl _, H, I, rfl, ?_⟩
  have e : vs.isEmpty = ((List.range (min its.toArray.size ([] : List Value).toArray.size)).all (fun _ => true) && its.toArray.size == ([] : List Value).toArray.size) := by
    cases vs <;> cases its <;> simp at e1 ⊢
  rw [← e]
  exact q
def rEqX (K : PySem.W.Frag) : R2 := fun x y H Q => rEq x y H Q ∨ rT0 K false x y H Q ∨ rEqD K x y H Q
def rNeX (K : PySem.W.Frag) : R2 := fun x y H Q => rNe x y H Q ∨ rT0 K true x y H Q ∨ rNeD K x y H Q
theorem op_eqX (hu : X.A.units + 64 < cLine) : OpR X (compareOp .Eq) (rEqX X.K) := by
  intro pins s σ H x y v u Q I rx ry h
  rcases h with h | h | h
  · exact op_eq pins s σ H x y v u Q I rx ry h
  · exact op_eqT0 (by omega) pins s σ H x y v u Q I rx ry h
  · exact op_eqD hu pins s σ H x y v u Q I rx ry h
theorem op_neX (hu : X.A.units + 64 < cLine) : OpR X (compareOp .NotEq) (rNeX X.K) := by
  intro pins s σ H x y v u Q I rx ry h
  rcases h with h | h | h
  · exact op_ne pins s σ H x y v u Q I rx ry h
  · exact op_neT0 (by omega) pins s σ H x y v u Q I rx ry h
  · exact op_neD hu pins s σ H x y v u Q I rx ry h
end
theorem DnAll.isE {K : PySem.W.Frag} {φ : List (Addr × HO)} {H : Hp} {ds : List PyData} {vs : List V} (h : DnAll K φ H ds vs) : ds.isEmpty = vs.isEmpty := by cases h <;> rfl
theorem sim_eqX {K : PySem.W.Frag} : Sim2 K (rEqX K) (opEqX false) := by
  intro W σ H G S x y v w Q rp dx dy q
  unfold opEqX at q
  split at q
  · rename_i a b
    obtain rfl := den_str dx; obtain rfl := den_str dy
    exact .inl ⟨rfl, by rw [dec_str]; exact q.ret rp (.bl _)⟩
  · rename_i a b
    obtain rfl := den_int dx; obtain rfl := den_int dy
    exact .inl ⟨rfl, by rw [dec_int]; exact q.ret rp (.bl _)⟩
  · rename_i a b
    obtain rfl := den_bool dx; obtain rfl := den_bool dy
    exact .inl ⟨rfl, by rw [dec_bl]; exact q.ret rp (.bl _)⟩
  · rename_i xs
    obtain ⟨a, vs, rfl, ha, t⟩ := den_tup dx
    obtain ⟨b, ws, rfl, hb, t2⟩ := den_tup dy
    cases t2
    refine .inr (.inl ⟨a, b, vs, rfl, rfl, ha, hb, ?_⟩)
    rw [t.isE] at q
    exact q.ret rp (.bl _)
  · exact .inr (.inr (sim_eq W σ H G S x y v w Q rp dx dy q))
theorem sim_neX {K : PySem.W.Frag} : Sim2 K (rNeX K) (opEqX true) := by
  intro W σ H G S x y v w Q rp dx dy q
  unfold opEqX at q
  split at q
  · rename_i a b
    obtain rfl := den_str dx; obtain rfl := den_str dy
    exact .inl ⟨rfl, by rw [dec_str]; exact q.ret rp (.bl _)⟩
  · rename_i a b
    obtain rfl := den_int dx; obtain rfl := den_int dy
    exact .inl ⟨rfl, by rw [dec_int]; exact q.ret rp (.bl _)⟩
  · rename_i a b
    obtain rfl := den_bool dx; obtain rfl := den_bool dy
    exact .inl ⟨rfl, by rw [dec_bl]; exact q.ret rp (.bl _)⟩
  · rename_i xs
    obtain ⟨a, vs, rfl, ha, t⟩ := den_tup dx
    obtain ⟨b, ws, rfl, hb, t2⟩ := den_tup dy
    cases t2
    refine .inr (.inl ⟨a, b, vs, rfl, rfl, ha, hb, ?_⟩)
    rw [t.isE] at q
    exact q.ret rp (.bl _)
  · exact .inr (.inr (sim_ne W σ H G S x y v w Q rp dx dy q))
section
variable {X : Cx} {W : WX} {a b : Expr} {f h : FE} {pos : Pos}
theorem de_eqX (hu : X.A.units + 64 < cLine) (ha : DE X W a f) (hb : DE X W b h) : DE X W (.Compare a [.Eq] [b] pos) (e2 (opEqX false) f h) := de_cmp (op_eqX hu) sim_eqX ha hb (nomark _)
theorem de_neX (hu : X.A.units + 64 < cLine) (ha : DE X W a f) (hb : DE X W b h) : DE X W (.Compare a [.NotEq] [b] pos) (e2 (opEqX true) f h) := de_cmp (op_neX hu) sim_neX ha hb (nomark _)
theorem dt_eqX (hu : X.A.units + 64 < cLine) (ha : DE X W a f) (hb : DE X W b h) : DT X W (.Compare a [.Eq] [b] pos) (tC2 (opEqX false) f h) := dt_cmp (op_eqX hu) sim_eqX ha hb (nomark _)
theorem dt_neX (hu : X.A.units + 64 < cLine) (ha : DE X W a f) (hb : DE X W b h) : DT X W (.Compare a [.NotEq] [b] pos) (tC2 (opEqX true) f h) := dt_cmp (op_neX hu) sim_neX ha hb (nomark _)
end
end DL

namespace DL
open PySem L2

section
variable {ρ : Ev} {S : Sto} {f g h : FE} {fa : FA} {t u : FT} {a b c : FS} {d : D}
@[simp] theorem eC_ : eC d ρ S = .ok d S := rfl
@[simp] theorem aNil_ : aNil ρ S = .ok [] S := rfl
@[simp] theorem aCons_ : aCons f fa ρ S = (f ρ S).bind fun d S1 => (fa ρ S1).bind fun ds S2 => .ok (d :: ds) S2 := rfl
@[simp] theorem eA_ {m : List D → M D} : eA m fa ρ S = (fa ρ S).bind m := rfl
@[simp] theorem e2_ {m : D → D → M D} : e2 m f g ρ S = (f ρ S).bind fun x S1 => (g ρ S1).bind fun y S2 => m x y S2 := rfl
@[simp] theorem e1_ {m : D → M D} : e1 m f ρ S = (f ρ S).bind m := rfl
@[simp] theorem sNext_ : sNext ρ S = some (.next ρ, S) := rfl
theorem sSeq_ : sSeq a b ρ S = (match a ρ S with | some (.next ρ', S') => b ρ' S' | o => o) := rfl
theorem sSeq_next {ρ' : Ev} {S' : Sto} (e : a ρ S = some (.next ρ', S')) : sSeq a b ρ S = b ρ' S' := by unfold sSeq; rw [e]
theorem sSeq_ret {d : D} {S' : Sto} (e : a ρ S = some (.ret d, S')) : sSeq a b ρ S = some (.ret d, S') := by unfold sSeq; rw [e]
@[simp] theorem sExpr_ : sExpr f ρ S = (f ρ S).st ρ fun _ S1 => some (.next ρ, S1) := rfl
@[simp] theorem sRet_ : sRet f ρ S = (f ρ S).st ρ fun d S1 => some (.ret d, S1) := rfl
@[simp] theorem sSet_ {i : Nat} : sSet i f ρ S = (f ρ S).st ρ fun d S1 => some (.next (ρ.set i (some d)), S1) := rfl
@[simp] theorem sIf_ : sIf t a b ρ S = (t ρ S).st ρ fun c S1 => if c = true then a ρ S1 else b ρ S1 := rfl
@[simp] theorem st_ok {α : Type} {x : α} {k : α → Sto → Option (Fl × Sto)} : (Out.ok x S).st ρ k = k x S := rfl
@[simp] theorem gN_ {i : Nat} : gN i d ρ S = some (ρ.set i (some d), S) := rfl
@[simp] theorem gNils_ : gNils [] ρ S = some (ρ, S) := rfl
@[simp] theorem gConss_ {x : FG} {y : FGs} {ds : List D} : gConss x y (d :: ds) ρ S = (match x d ρ S with | some (ρ1, S1) => y ds ρ1 S1 | none => none) := by
  unfold gConss; rfl
@[simp] theorem gSubD_ : gSubD f g d ρ S = (match f ρ S with
  | .ok o S1 => match g ρ S1 with
    | .ok i S2 => match setD o i d S2 with
      | some S3 => some (ρ, S3)
      | none => none
    | _ => none
  | _ => none) := rfl
@[simp] theorem sAsg_ {x : FG} : sAsg f x ρ S = (f ρ S).st ρ fun d S1 => match x d ρ S1 with
  | some (ρ', S2) => some (.next ρ', S2)
  | none => none := rfl
@[simp] theorem sAsgs_ {x : FGs} : sAsgs fa x ρ S = (fa ρ S).st ρ fun d S1 => match x d ρ S1 with
  | some (ρ', S2) => some (.next ρ', S2)
  | none => none := rfl
@[simp] theorem tVal_ : tVal f ρ S = (f ρ S).bind truM := rfl
@[simp] theorem tAnd_ : tAndD t u ρ S = (t ρ S).bind fun b S1 => if b = true then u ρ S1 else .ok false S1 := rfl
@[simp] theorem tOr_ : tOrD t u ρ S = (t ρ S).bind fun b S1 => if b = true then .ok true S1 else u ρ S1 := rfl
@[simp] theorem tNot_ : tNotD t ρ S = (t ρ S).bind fun b S1 => .ok (!b) S1 := rfl
@[simp] theorem eIf_ : eIf t f g ρ S = (t ρ S).bind fun b S1 => if b = true then f ρ S1 else g ρ S1 := rfl
@[simp] theorem eAnd_ : eAnd f g ρ S = (f ρ S).bind fun d S1 => (truM d S1).bind fun b S2 => if b = true then g ρ S2 else .ok d S2 := rfl
@[simp] theorem eOr_ : eOr f g ρ S = (f ρ S).bind fun d S1 => (truM d S1).bind fun b S2 => if b = true then .ok d S2 else g ρ S2 := rfl
@[simp] theorem eNot_ : eNot f ρ S = (f ρ S).bind fun d S1 => (truM d S1).bind fun b S2 => .ok (.p (.bool (!b))) S2 := rfl
@[simp] theorem tC2_ {m : D → D → M D} : tC2 m f g ρ S = (e2 m f g ρ S).bind fun d S1 => match d with | .p (.bool c) => .ok c S1 | _ => .bad := rfl
@[simp] theorem truM_b {b : Bool} : truM (.p (.bool b)) S = .ok b S := rfl
@[simp] theorem truM_l {xs : List PyData} : truM (.p (.list xs)) S = .ok (!xs.isEmpty) S := rfl
@[simp] theorem truM_t {xs : List PyData} : truM (.p (.tuple xs)) S = .ok (!xs.isEmpty) S := rfl
@[simp] theorem noErr_k {α : Type} {x : α} : noErr (.ok x S) = .ok x S := rfl
@[simp] theorem iSeq_ : iSeq f ρ S = (f ρ S).bind itM := rfl
@[simp] theorem iRange_ : iRange fa ρ S = (fa ρ S).bind rangeM := rfl
@[simp] theorem sFor_ {i : FI} {x : FG} : sFor i x a ρ S = (i ρ S).st ρ fun ds S1 => forD x a ds ρ S1 := rfl
@[simp] theorem oNone_ : oNone ρ S = .ok none S := rfl
@[simp] theorem oSome_ : oSome f ρ S = (f ρ S).bind oInt := rfl
@[simp] theorem oInt_ {i : Int} : oInt (.p (.int i)) S = .ok (some i) S := rfl
@[simp] theorem eSli_ {lo hi : Ev → M (Option Int)} : eSli f lo hi ρ S = (f ρ S).bind fun d S1 => (lo ρ S1).bind fun l S2 => (hi ρ S2).bind fun u S3 => sliM d l u S3 := rfl
@[simp] theorem tYes_ : tYesD ρ S = .ok true S := rfl
@[simp] theorem finL_ {ys : List PyData} : finL ys S = .ok (.p (.list ys)) S := rfl
@[simp] theorem tChain_ {m m' : D → D → M D} : tChain m m' f g h ρ S = (eChain m m' f g h ρ S).bind boolM := rfl
@[simp] theorem boolM_ {b : Bool} : boolM (.p (.bool b)) S = .ok b S := rfl
@[simp] theorem eChain_ {m m' : D → D → M D} : eChain m m' f g h ρ S = (f ρ S).bind fun x S1 => (g ρ S1).bind fun y S2 => (m x y S2).bind fun z S3 => match z with
  | .p (.bool true) => (h ρ S3).bind fun w S4 => m' y w S4
  | .p (.bool false) => .ok (.p (.bool false)) S3
  | _ => .bad := rfl
@[simp] theorem eCall_ {n : Nat} {m : List D → M D} : eCall n m fa ρ S = (fa ρ S).bind fun ds S1 => if ds.length = n then noErr (cutD S1.length (m ds S1)) else .bad := rfl
@[simp] theorem cutD_p {x : PyData} {n : Nat} : cutD n (.ok (.p x) S) = .ok (.p x) (S.take n) := rfl
end
theorem eVar_ok {i : Nat} {ρ : Ev} {S : Sto} {d : D} (h : ρ[i]? = some (some d)) : eVar i ρ S = .ok d S := by unfold eVar; rw [h]
@[simp] theorem eVar0 {d : D} {r : Ev} {S : Sto} : eVar 0 (some d :: r) S = .ok d S := rfl
@[simp] theorem eVarS {i : Nat} {d : Option D} {r : Ev} {S : Sto} : eVar (i + 1) (d :: r) S = eVar i r S := by unfold eVar; simp
@[simp] theorem pys_nil : pys [] = some [] := rfl
@[simp] theorem pys_cons {x : PyData} {r : List D} : pys (.p x :: r) = (pys r).map (x :: ·) := by
  simp only [pys]; cases pys r <;> rfl
@[simp] theorem opLt_i {i j : Int} {S : Sto} : opLt (.p (.int i)) (.p (.int j)) S = .ok (.p (.bool (decide (i < j)))) S := rfl
@[simp] theorem opLe_i {i j : Int} {S : Sto} : opLe (.p (.int i)) (.p (.int j)) S = .ok (.p (.bool (decide (i ≤ j)))) S := rfl
@[simp] theorem opGt_i {i j : Int} {S : Sto} : opGt (.p (.int i)) (.p (.int j)) S = .ok (.p (.bool (decide (j < i)))) S := rfl
@[simp] theorem opGe_i {i j : Int} {S : Sto} : opGe (.p (.int i)) (.p (.int j)) S = .ok (.p (.bool (decide (j ≤ i)))) S := rfl
@[simp] theorem opAdd_i {i j : Int} {S : Sto} : opAdd (.p (.int i)) (.p (.int j)) S = .ok (.p (.int (i + j))) S := rfl
@[simp] theorem opSub_i {i j : Int} {S : Sto} : opSub (.p (.int i)) (.p (.int j)) S = .ok (.p (.int (i - j))) S := rfl
@[simp] theorem opNeg_i {i : Int} {S : Sto} : opNeg (.p (.int i)) S = .ok (.p (.int (-i))) S := rfl
theorem opMod_i {i j : Int} {S : Sto} (h : 0 < j) : opMod (.p (.int i)) (.p (.int j)) S = .ok (.p (.int (i % j))) S := by simp [opMod, opI, h]
theorem opDiv_i {i j : Int} {S : Sto} (h : 0 < j) (h2 : j < 1073741824) : opDiv (.p (.int i)) (.p (.int j)) S = .ok (.p (.int (i / j))) S := by simp [opDiv, opI, h, h2]
theorem opMul_i {i j : Int} {S : Sto} (h : -(2 ^ 64) < i ∧ i < 2 ^ 64) : opMulI (.p (.int i)) (.p (.int j)) S = .ok (.p (.int (i * j))) S := by
  have h1 : -18446744073709551616 < i := h.1
  have h2 : i < 18446744073709551616 := h.2
  simp [opMulI, opI, h1, h2]
theorem opPow_i {i j : Int} {S : Sto} (h0 : 0 ≤ j) (h1 : j ≤ 1000000) (h2 : i.natAbs < 2 ^ 64) : opPow (.p (.int i)) (.p (.int j)) S = .ok (.p (.int (i ^ j.toNat))) S := by
  have h3 : i.natAbs < 18446744073709551616 := h2
  simp [opPow, opI, h0, h1, h3]
@[simp] theorem intM_i {i : Int} {S : Sto} : intM [.p (.int i)] S = .ok (.p (.int i)) S := rfl
@[simp] theorem lenM_l {xs : List PyData} {S : Sto} : lenM [.p (.list xs)] S = .ok (.p (.int xs.length)) S := rfl
@[simp] theorem lenM_t {xs : List PyData} {S : Sto} : lenM [.p (.tuple xs)] S = .ok (.p (.int xs.length)) S := rfl
theorem lenM_s {x : Str} {S : Sto} (h : x.length ≤ LIM) : lenM [.p (.str x)] S = .ok (.p (.int x.length)) S := by simp [lenM, h]
theorem atI_ok {xs : List PyData} {i : Int} (h0 : 0 ≤ i) (h1 : i < xs.length) : ∃ d, atI xs i = some d ∧ d ∈ xs := by
  have hk : i.toNat < xs.length := by omega
  have ek : i = ((i.toNat : Nat) : Int) := by omega
  refine ⟨xs[i.toNat], ?_, List.getElem_mem hk⟩
  have q : atI xs ((i.toNat : Nat) : Int) = some xs[i.toNat] := atI_nat (by simp [hk])
  rw [← ek] at q
  exact q
theorem subs_l {xs : List PyData} {i : Int} {d : PyData} {S : Sto} (h : atI xs i = some d) : opSubs (.p (.list xs)) (.p (.int i)) S = .ok (.p d) S := by simp [opSubs, seqOf, h]
theorem subs_t {xs : List PyData} {i : Int} {d : PyData} {S : Sto} (h : atI xs i = some d) : opSubs (.p (.tuple xs)) (.p (.int i)) S = .ok (.p d) S := by simp [opSubs, seqOf, h]

def tpd (cs : List PyData) (p l : Int) : List (Key × PyData) := [(.inr "cells", .list cs), (.inr "place", .int p), (.inr "left", .int l)]
section
variable {cs : List PyData} {p l : Int} {S : Sto} {i : Nat}
theorem tp_cells (h : S[i]? = some (.dic (tpd cs p l))) : opSubs (.ob i) (.p (.str "cells")) S = .ok (.p (.list cs)) S := by
  have e : valD (tpd cs p l) (.inr "cells") = some (.list cs) := rfl
  simp only [opSubs, dicOf, h, e]
theorem tp_place (h : S[i]? = some (.dic (tpd cs p l))) : opSubs (.ob i) (.p (.str "place")) S = .ok (.p (.int p)) S := by
  have e : valD (tpd cs p l) (.inr "place") = some (.int p) := rfl
  simp only [opSubs, dicOf, h, e]
theorem tp_left (h : S[i]? = some (.dic (tpd cs p l))) : opSubs (.ob i) (.p (.str "left")) S = .ok (.p (.int l)) S := by
  have e : valD (tpd cs p l) (.inr "left") = some (.int l) := rfl
  simp only [opSubs, dicOf, h, e]
theorem tp_setL {l' : Int} (h : S[i]? = some (.dic (tpd cs p l))) : setD (.ob i) (.p (.str "left")) (.p (.int l')) S = some (S.set i (.dic (tpd cs p l'))) := by
  have e : putD (tpd cs p l) (.inr "left") (.int l') = tpd cs p l' := rfl
  have e2 : pyKey (.str "left") = some (.inr "left") := rfl
  have e3 : (tpd cs p l).length < LIM := by show 3 < LIM; decide
  simp only [setD, h, e2, e, if_pos e3]
theorem tp_setP {p' : Int} (h : S[i]? = some (.dic (tpd cs p l))) : setD (.ob i) (.p (.str "place")) (.p (.int p')) S = some (S.set i (.dic (tpd cs p' l))) := by
  have e : putD (tpd cs p l) (.inr "place") (.int p') = tpd cs p' l := rfl
  have e2 : pyKey (.str "place") = some (.inr "place") := rfl
  have e3 : (tpd cs p l).length < LIM := by show 3 < LIM; decide
  simp only [setD, h, e2, e, if_pos e3]
theorem tp_at {o : MO} (h : S[i]? = some (.dic (tpd cs p l))) : (S.set i o)[i]? = some o := by
  rw [List.getElem?_set_self]
  exact (List.getElem?_eq_some_iff.mp h).1
end
def drawA : FS := (sSeq (sAsgs (aCons (e2 opSubs (eVar 0) (eC (.p (.str "place")))) (aCons (eA lenM (aCons (e2 opSubs (eVar 0) (eC (.p (.str "cells")))) aNil)) aNil)) (gConss (gN 3) (gConss (gN 4) gNils)))
    (sSeq (sAsgs (aCons (e2 opSubs (e2 opSubs (eVar 0) (eC (.p (.str "cells")))) (e2 opMod (eA intM (aCons (eVar 3) aNil)) (eVar 4))) (aCons (e2 opAdd (eVar 3) (eC (.p (.int 1)))) aNil)) (gConss (gN 5) (gConss (gSubD (eVar 0) (eC (.p (.str "place")))) gNils)))
    (sSeq (sAsg (e2 opMod (eA intM (aCons (e2 opPow (e2 opAdd (e2 opAdd (e2 opMod (eA intM (aCons (eVar 5) aNil)) (eC (.p (.int 2147483587)))) (e2 opMulI (eC (.p (.int 48271))) (eVar 3))) (eC (.p (.int 16807)))) (eC (.p (.int 13)))) aNil)) (e2 opAdd (e2 opPow (eC (.p (.int 10))) (eC (.p (.int 50)))) (eC (.p (.int 57))))) (gSubD (eVar 0) (eC (.p (.str "left")))))
    (sIf (tAndD (tC2 (opGe) (eVar 5) (e2 opPow (eC (.p (.int 10))) (eC (.p (.int 18))))) (tC2 (opLt) (eVar 3) (eVar 4))) (sAsg (e2 opSub (eVar 5) (e2 opPow (eC (.p (.int 10))) (eC (.p (.int 18))))) (gSubD (eVar 0) (eC (.p (.str "left"))))) sNext))))
def drawB : FS := (sSeq (sIf (tC2 (opLt) (e2 opSubs (eVar 0) (eC (.p (.str "left")))) (eVar 1)) drawA sNext)
    (sSeq (sAsgs (aCons (e2 opMod (eA intM (aCons (e2 opSubs (eVar 0) (eC (.p (.str "left")))) aNil)) (eVar 1)) (aCons (e2 opDiv (e2 opSubs (eVar 0) (eC (.p (.str "left")))) (eVar 1)) aNil)) (gConss (gN 2) (gConss (gSubD (eVar 0) (eC (.p (.str "left")))) gNils)))
    (sRet (eVar 2))))
theorem drawA_ok {cs : List PyData} {p l m : Int} {S : Sto} {i : Nat} (hc : ∀ d ∈ cs, ∃ z, d = .int z) (hne : cs ≠ []) (h : S[i]? = some (.dic (tpd cs p l))) (hp : 0 ≤ p) (hp2 : p ≤ 1000000000000) :
    ∃ x y z l', drawA [some (.ob i), some (.p (.int m)), none, none, none, none] S = some (.next [some (.ob i), some (.p (.int m)), none, x, y, z], S.set i (.dic (tpd cs (p + 1) l'))) := by
  have hl : 0 < cs.length := List.length_pos_iff.mpr hne
  obtain ⟨d, e1, hd⟩ := atI_ok (xs := cs) (i := p % (cs.length : Int)) (Int.emod_nonneg _ (by omega)) (Int.emod_lt_of_pos _ (by omega))
  obtain ⟨z, rfl⟩ := hc d hd
  have hS1 := tp_at (o := .dic (tpd cs (p + 1) l)) h
  have hb : (z % 2147483587 + 48271 * p + 16807).natAbs < 2 ^ 64 := by
    have a1 := Int.emod_nonneg z (show (2147483587 : Int) ≠ 0 by decide)
    have a2 := Int.emod_lt_of_pos z (show (0 : Int) < 2147483587 by decide)
    have : (2 : Nat) ^ 64 = 18446744073709551616 := by decide
    omega
  have hz : (0 : Int) < 10 ^ (50 : Int).toNat + 57 := by decide
  unfold drawA
  simp [sSeq_, gSubD, tp_place h, tp_cells h, opMod_i (show (0 : Int) < (cs.length : Int) by omega), subs_l e1, tp_setP h, hS1]
  simp [sSeq_, opMod_i (show (0 : Int) < 2147483587 by decide), opMul_i (show -(2 ^ 64) < (48271 : Int) ∧ (48271 : Int) < 2 ^ 64 by decide), opPow_i (show (0 : Int) ≤ 13 by decide) (by decide) hb, opPow_i (show (0 : Int) ≤ 50 by decide) (by decide) (show (10 : Int).natAbs < 2 ^ 64 by decide), opMod_i hz, tp_setL hS1]
  have hS2 : ∀ l2, (List.set S i (.dic (tpd cs (p + 1) l2)))[i]? = some (.dic (tpd cs (p + 1) l2)) := fun l2 => tp_at h
  simp [sSeq_, opMod_i (show (0 : Int) < 100000000000000000000000000000000000000000000000057 by decide), opPow_i (show (0 : Int) ≤ 18 by decide) (by decide) (show (10 : Int).natAbs < 2 ^ 64 by decide), tp_setL hS1]
  by_cases c1 : 1000000000000000000 ≤ z
  · by_cases c2 : p < (cs.length : Int)
    · simp [sSeq_, c1, c2, tp_setL (hS2 _)]
      exact ⟨_, rfl⟩
    · simp [sSeq_, c1, c2]
      exact ⟨_, rfl⟩
  · simp [sSeq_, c1]
    exact ⟨_, rfl⟩
theorem drawB_ok {cs : List PyData} {p l m : Int} {S : Sto} {i : Nat} (hc : ∀ d ∈ cs, ∃ z, d = .int z) (hne : cs ≠ []) (h : S[i]? = some (.dic (tpd cs p l))) (hp : 0 ≤ p) (hp2 : p ≤ 1000000000000) (hm : 0 < m) (hm2 : m < 1073741824) :
    ∃ g p' l', 0 ≤ g ∧ g < m ∧ 0 ≤ p' ∧ p' ≤ p + 1 ∧ runF 6 drawB [.ob i, .p (.int m)] S = .ok (.p (.int g)) (S.set i (.dic (tpd cs p' l'))) := by
  have second : ∀ {x y z : Option D} {S : Sto} {p l : Int}, S[i]? = some (.dic (tpd cs p l)) → (sSeq (sAsgs (aCons (e2 opMod (eA intM (aCons (e2 opSubs (eVar 0) (eC (.p (.str "left")))) aNil)) (eVar 1)) (aCons (e2 opDiv (e2 opSubs (eVar 0) (eC (.p (.str "left")))) (eVar 1)) aNil)) (gConss (gN 2) (gConss (gSubD (eVar 0) (eC (.p (.str "left")))) gNils)))
      (sRet (eVar 2))) [some (.ob i), some (.p (.int m)), none, x, y, z] S = some (.ret (.p (.int (l % m))), S.set i (.dic (tpd cs p (l / m)))) := by
    intro x y z S p l h
    simp [sSeq_, tp_left h, opMod_i hm, opDiv_i hm hm2, tp_setL h]
  have g0 : ∀ l, 0 ≤ l % m := fun l => Int.emod_nonneg _ (by omega)
  have g1 : ∀ l, l % m < m := fun l => Int.emod_lt_of_pos _ hm
  by_cases c : l < m
  · obtain ⟨x, y, z, l', e⟩ := drawA_ok (m := m) hc hne h hp hp2
    have s2 := second (x := x) (y := y) (z := z) (tp_at (o := .dic (tpd cs (p + 1) l')) h)
    refine ⟨l' % m, p + 1, l' / m, g0 _, g1 _, by omega, by omega, ?_⟩
    have e0 : drawB [some (.ob i), some (.p (.int m)), none, none, none, none] S = some (.ret (.p (.int (l' % m))), S.set i (.dic (tpd cs (p + 1) (l' / m)))) := by
      unfold drawB
      rw [sSeq_next (a := sIf _ _ _) (ρ' := [some (.ob i), some (.p (.int m)), none, x, y, z]) (S' := S.set i (.dic (tpd cs (p + 1) l'))) (by simp [sSeq_, tp_left h, c, e]), s2, List.set_set]
    show runF 6 drawB [.ob i, .p (.int m)] S = _
    unfold runF
    show (match drawB [some (.ob i), some (.p (.int m)), none, none, none, none] S with | some (.ret d, s) => Out.ok d s | some (.next _, s) => .ok (.p .none) s | some (.exc x _, s) => .err x s | _ => .bad) = _
    rw [e0]
  · refine ⟨l % m, p, l / m, g0 _, g1 _, by omega, by omega, ?_⟩
    have e0 : drawB [some (.ob i), some (.p (.int m)), none, none, none, none] S = some (.ret (.p (.int (l % m))), S.set i (.dic (tpd cs p (l / m)))) := by
      unfold drawB
      rw [sSeq_next (a := sIf _ _ _) (ρ' := [some (.ob i), some (.p (.int m)), none, none, none, none]) (S' := S) (by simp [sSeq_, tp_left h, c]), second h]
    unfold runF
    show (match drawB [some (.ob i), some (.p (.int m)), none, none, none, none] S with | some (.ret d, s) => Out.ok d s | some (.next _, s) => .ok (.p .none) s | some (.exc x _, s) => .err x s | _ => .bad) = _
    rw [e0]
end DL

namespace DL
open PySem L2

theorem run_ret {m : Nat} {b : FS} {ds : List D} {S S' : Sto} {d : D} (e : b (ds.map some ++ List.replicate (m - ds.length) none) S = some (.ret d, S')) : runF m b ds S = .ok d S' := by unfold runF; rw [e]
@[simp] theorem cut_len {x : PyData} {S : Sto} : cutD S.length (.ok (.p x) S) = .ok (.p x) S := by simp
theorem cut_same {x : PyData} {S S' : Sto} (h : S'.length = S.length) : cutD S.length (.ok (.p x) S') = .ok (.p x) S' := by
  rw [← h]; simp
/-- a comprehension whose test and value leave the store as it is -/
theorem lcD_filter {g : FG} {t : FT} {e : FE} {ρ : Ev} {S : Sto} (c : D → Bool) (h : D → PyData) : ∀ {ds : List D}, (∀ d ∈ ds, ∃ ρ1, g d ρ S = some (ρ1, S) ∧ t ρ1 S = .ok (c d) S ∧ (c d = true → e ρ1 S = .ok (.p (h d)) S)) → lcD g t e ρ ds S = .ok ((ds.filter c).map h) S
  | [], _ => rfl
  | d :: r, H => by
    obtain ⟨ρ1, h1, h2, h3⟩ := H d List.mem_cons_self
    have ih := lcD_filter (ds := r) c h fun x hx => H x (List.mem_cons_of_mem _ hx)
    unfold lcD
    rw [h1]
    show (t ρ1 S).bind _ = _
    rw [h2]
    by_cases hc : c d = true
    · simp [hc, h3 hc, ih]
    · simp [hc, ih]
theorem lcD_map {g : FG} {e : FE} {ρ : Ev} {S : Sto} (h : D → PyData) {ds : List D} (H : ∀ d ∈ ds, ∃ ρ1, g d ρ S = some (ρ1, S) ∧ e ρ1 S = .ok (.p (h d)) S) : lcD g tYesD e ρ ds S = .ok (ds.map h) S := by
  have q := lcD_filter (t := tYesD) (e := e) (g := g) (ρ := ρ) (S := S) (fun _ => true) h (ds := ds) fun d hd => by
    obtain ⟨ρ1, h1, h2⟩ := H d hd
    exact ⟨ρ1, h1, rfl, fun _ => h2⟩
  rw [q, List.filter_eq_self.mpr fun _ _ => rfl]
@[simp] theorem eLc_ {f : FI} {g : FG} {t : FT} {e : FE} {vs : List Nat} {fin : List PyData → M D} {ρ : Ev} {S : Sto} : eLc f g t e vs fin ρ S = (f ρ S).bind fun ds S1 => if ds.length ≤ LIM then (noErr (lcD g t e (wipeD ρ vs) ds S1)).bind fin else .bad := rfl
@[simp] theorem itM_s {z : Str} {S : Sto} : itM (.p (.str z)) S = .ok (z.cps.toList.map fun c => D.p (.str ⟨#[c]⟩)) S := rfl
@[simp] theorem itM_l {xs : List PyData} {S : Sto} : itM (.p (.list xs)) S = .ok (xs.map .p) S := rfl
@[simp] theorem itM_t {xs : List PyData} {S : Sto} : itM (.p (.tuple xs)) S = .ok (xs.map .p) S := rfl
@[simp] theorem wipe1 {ρ : Ev} {v : Nat} : wipeD ρ [v] = ρ.set v none := rfl
@[simp] theorem isi_ {T : Tg} {x : PyData} {S : Sto} : isiM T (.p x) S = .ok (.p (.bool (isT T x))) S := rfl
@[simp] theorem in_ss {neg : Bool} {i j : Str} {S : Sto} : opIn neg (.p (.str i)) (.p (.str j)) S = .ok (.p (.bool (if neg then !inStr i j else inStr i j))) S := rfl
theorem in_t {neg : Bool} {a : PyData} {xs : List PyData} {S : Sto} (h : flatP a = true) (h2 : xs.all flatP = true) : opIn neg (.p a) (.p (.tuple xs)) S = .ok (.p (.bool (if neg then !inP a xs else inP a xs))) S := by
  cases a <;> simp_all [opIn, seqOf]
theorem in_l {neg : Bool} {a : PyData} {xs : List PyData} {S : Sto} (h : flatP a = true) (h2 : xs.all flatP = true) : opIn neg (.p a) (.p (.list xs)) S = .ok (.p (.bool (if neg then !inP a xs else inP a xs))) S := by
  cases a <;> simp_all [opIn, seqOf]
theorem mkTup_ {ds : List D} {xs : List PyData} {S : Sto} (h : pys ds = some xs) (hl : xs.length ≤ LIM) : mkTup ds S = .ok (.p (.tuple xs)) S := by simp [mkTup, h, hl]
theorem mkLst_ {ds : List D} {xs : List PyData} {S : Sto} (h : pys ds = some xs) (hl : xs.length ≤ LIM) : mkLst ds S = .ok (.p (.list xs)) S := by simp [mkLst, h, hl]
@[simp] theorem mkTup0 {S : Sto} : mkTup [] S = .ok (.p (.tuple [])) S := rfl
@[simp] theorem mkTup1 {S : Sto} {a : PyData} : mkTup [.p a] S = .ok (.p (.tuple [a])) S := rfl
@[simp] theorem mkTup2 {S : Sto} {a b : PyData} : mkTup [.p a, .p b] S = .ok (.p (.tuple [a, b])) S := rfl
@[simp] theorem mkTup3 {S : Sto} {a b c : PyData} : mkTup [.p a, .p b, .p c] S = .ok (.p (.tuple [a, b, c])) S := rfl
@[simp] theorem mkLst0 {S : Sto} : mkLst [] S = .ok (.p (.list [])) S := rfl
@[simp] theorem mkLst1 {S : Sto} {a : PyData} : mkLst [.p a] S = .ok (.p (.list [a])) S := rfl
@[simp] theorem mkLst2 {S : Sto} {a b : PyData} : mkLst [.p a, .p b] S = .ok (.p (.list [a, b])) S := rfl
@[simp] theorem mkLst3 {S : Sto} {a b c : PyData} : mkLst [.p a, .p b, .p c] S = .ok (.p (.list [a, b, c])) S := rfl
@[simp] theorem eqX_s {neg : Bool} {a b : Str} {S : Sto} : opEqX neg (.p (.str a)) (.p (.str b)) S = .ok (.p (.bool (if neg then !(a == b) else (a == b)))) S := rfl
@[simp] theorem eqX_i {neg : Bool} {a b : Int} {S : Sto} : opEqX neg (.p (.int a)) (.p (.int b)) S = .ok (.p (.bool (if neg then !(a == b) else (a == b)))) S := rfl
@[simp] theorem eqX_b {neg : Bool} {a b : Bool} {S : Sto} : opEqX neg (.p (.bool a)) (.p (.bool b)) S = .ok (.p (.bool (if neg then !(a == b) else (a == b)))) S := rfl
@[simp] theorem eqX_t0 {neg : Bool} {xs : List PyData} {S : Sto} : opEqX neg (.p (.tuple xs)) (.p (.tuple [])) S = .ok (.p (.bool (if neg then !xs.isEmpty else xs.isEmpty))) S := rfl
theorem eqX_l {neg : Bool} {xs ys : List PyData} {S : Sto} (h1 : SeqAt.shaped (.list xs) = true) (h2 : SeqAt.shaped (.list ys) = true) : opEqX neg (.p (.list xs)) (.p (.list ys)) S = .ok (.p (.bool (if neg then !PyData.eqvAll xs ys else PyData.eqvAll xs ys))) S := by
  unfold opEqX
  simp [opEq, val, h1, h2, PyData.eqv]
theorem eqX_t {neg : Bool} {xs : List PyData} {y : PyData} {ys : List PyData} {S : Sto} (h1 : SeqAt.shaped (.tuple xs) = true) (h2 : SeqAt.shaped (.tuple (y :: ys)) = true) : opEqX neg (.p (.tuple xs)) (.p (.tuple (y :: ys))) S = .ok (.p (.bool (if neg then !PyData.eqvAll xs (y :: ys) else PyData.eqvAll xs (y :: ys)))) S := by
  unfold opEqX
  simp [opEq, val, h1, h2, PyData.eqv]
@[simp] theorem subs_t0 {a : PyData} {r : List PyData} {S : Sto} : opSubs (.p (.tuple (a :: r))) (.p (.int 0)) S = .ok (.p a) S := subs_t (by rw [show (0 : Int) = ((0 : Nat) : Int) from rfl]; exact atI_nat rfl)
@[simp] theorem subs_t1 {a b : PyData} {r : List PyData} {S : Sto} : opSubs (.p (.tuple (a :: b :: r))) (.p (.int 1)) S = .ok (.p b) S := subs_t (by rw [show (1 : Int) = ((1 : Nat) : Int) from rfl]; exact atI_nat rfl)
@[simp] theorem subs_t2 {a b c : PyData} {r : List PyData} {S : Sto} : opSubs (.p (.tuple (a :: b :: c :: r))) (.p (.int 2)) S = .ok (.p c) S := subs_t (by rw [show (2 : Int) = ((2 : Nat) : Int) from rfl]; exact atI_nat rfl)
@[simp] theorem subs_l0 {a : PyData} {r : List PyData} {S : Sto} : opSubs (.p (.list (a :: r))) (.p (.int 0)) S = .ok (.p a) S := subs_l (by rw [show (0 : Int) = ((0 : Nat) : Int) from rfl]; exact atI_nat rfl)
@[simp] theorem subs_l1 {a b : PyData} {r : List PyData} {S : Sto} : opSubs (.p (.list (a :: b :: r))) (.p (.int 1)) S = .ok (.p b) S := subs_l (by rw [show (1 : Int) = ((1 : Nat) : Int) from rfl]; exact atI_nat rfl)
@[simp] theorem subs_l2 {a b c : PyData} {r : List PyData} {S : Sto} : opSubs (.p (.list (a :: b :: c :: r))) (.p (.int 2)) S = .ok (.p c) S := subs_l (by rw [show (2 : Int) = ((2 : Nat) : Int) from rfl]; exact atI_nat rfl)
theorem add_s {i j : Str} {S : Sto} (h : i.length + j.length ≤ LIM) : opAdd (.p (.str i)) (.p (.str j)) S = .ok (.p (.str (i ++ j))) S := by simp [opAdd, h]
theorem add_l {i j : List PyData} {S : Sto} (h : i.length + j.length ≤ LIM) : opAdd (.p (.list i)) (.p (.list j)) S = .ok (.p (.list (i ++ j))) S := by simp [opAdd, h]
theorem add_t {i j : List PyData} {S : Sto} (h : i.length + j.length ≤ LIM) : opAdd (.p (.tuple i)) (.p (.tuple j)) S = .ok (.p (.tuple (i ++ j))) S := by simp [opAdd, h]
/-- a loop over a list with an invariant by the turn -/
theorem forD_inv {g : FG} {b : FS} (Inv : Nat → Ev → Sto → Prop) : ∀ {ds : List D} {j : Nat} {ρ : Ev} {S : Sto}, Inv j ρ S →
    (∀ i d ρ S, ds[i]? = some d → Inv (j + i) ρ S → ∃ ρ1 S1 ρ2 S2, g d ρ S = some (ρ1, S1) ∧ b ρ1 S1 = some (.next ρ2, S2) ∧ Inv (j + i + 1) ρ2 S2) →
    ∃ ρ' S', forD g b ds ρ S = some (.next ρ', S') ∧ Inv (j + ds.length) ρ' S'
  | [], j, ρ, S, h, _ => ⟨ρ, S, rfl, h⟩
  | d :: r, j, ρ, S, h, st => by
    obtain ⟨ρ1, S1, ρ2, S2, e1, e2, h2⟩ := st 0 d ρ S rfl h
    obtain ⟨ρ', S', e3, h3⟩ := forD_inv Inv (ds := r) (j := j + 1) (ρ := ρ2) (S := S2) h2 fun i x ρ S hx hi => by
      have q := st (i + 1) x ρ S (by simpa using hx) (by rw [show j + (i + 1) = j + 1 + i by omega]; exact hi)
      rw [show j + (i + 1) + 1 = j + 1 + i + 1 by omega] at q
      exact q
    refine ⟨ρ', S', ?_, by rw [List.length_cons, show j + (r.length + 1) = j + 1 + r.length by omega]; exact h3⟩
    unfold forD
    rw [e1]
    show (match b ρ1 S1 with | some (.next ρ2, S2) => forD g b r ρ2 S2 | some (.cont ρ2, S2) => forD g b r ρ2 S2 | some (.brk ρ2, S2) => some (.next ρ2, S2) | o => o) = _
    rw [e2]
    exact e3

def Cells (cs : List PyData) : Prop := (∀ d ∈ cs, ∃ z, d = .int z) ∧ cs ≠ []
def Tape (cs : List PyData) (i L : Nat) (n : Int) (S : Sto) : Prop := S.length = L ∧ ∃ p l, 0 ≤ p ∧ p ≤ n ∧ S[i]? = some (.dic (tpd cs p l))
theorem Tape.mono {cs : List PyData} {i L : Nat} {n n' : Int} {S : Sto} (h : Tape cs i L n S) (hn : n ≤ n') : Tape cs i L n' S := by
  obtain ⟨a, p, l, b, c, d⟩ := h
  exact ⟨a, p, l, b, by omega, d⟩
theorem draw_ok {cs : List PyData} {i L : Nat} {n m : Int} {S : Sto} (hc : Cells cs) (h : Tape cs i L n S) (hn : n ≤ 1000000000000) (hm : 0 < m) (hm2 : m < 1073741824) :
    ∃ g S', runF 6 drawB [.ob i, .p (.int m)] S = .ok (.p (.int g)) S' ∧ 0 ≤ g ∧ g < m ∧ Tape cs i L (n + 1) S' := by
  obtain ⟨hl, p, l, h0, h1, hS⟩ := h
  obtain ⟨g, p', l', a, b, c, d, e⟩ := drawB_ok hc.1 hc.2 hS h0 (by omega) hm hm2
  exact ⟨g, _, e, a, b, by rw [List.length_set]; exact hl, p', l', c, by omega, tp_at hS⟩
def pickB (dr : List D → M D) : FS := (sRet (e2 opSubs (eVar 1) (eCall 2 dr (aCons (eVar 0) (aCons (eA lenM (aCons (eVar 1) aNil)) aNil)))))
theorem pick_ok {cs : List PyData} {i L : Nat} {n : Int} {S : Sto} {xs : List PyData} (hc : Cells cs) (h : Tape cs i L n S) (hn : n ≤ 1000000000000) (hx : xs ≠ []) (hx2 : xs.length < 1000000) :
    ∃ d S', runF 2 (pickB (runF 6 drawB)) [.ob i, .p (.list xs)] S = .ok (.p d) S' ∧ d ∈ xs ∧ Tape cs i L (n + 1) S' := by
  have hl : 0 < xs.length := List.length_pos_iff.mpr hx
  obtain ⟨g, S', e, g0, g1, ht⟩ := draw_ok (m := (xs.length : Int)) hc h hn (by omega) (by omega)
  obtain ⟨d, e2, hd⟩ := atI_ok g0 g1
  refine ⟨d, S', run_ret ?_, hd, ht⟩
  show pickB (runF 6 drawB) [some (.ob i), some (.p (.list xs))] S = _
  unfold pickB
  simp [sSeq_, e, cut_same (ht.1.trans h.1.symm), subs_l e2]
end DL

namespace DL
open PySem L2

theorem cutP_mem {xs : List PyData} {lo hi : Option Int} {d : PyData} (h : d ∈ cutP xs lo hi) : d ∈ xs := List.mem_of_mem_drop (List.mem_of_mem_take h)
def beginB : FS := (sRet (eDisp [((eC (.p (.str "cells"))), (eOr (eSli (eVar 0) oNone (oSome (eC (.p (.int 63))))) (eA mkLst (aCons (eC (.p (.int 0))) aNil)))), ((eC (.p (.str "place"))), (eC (.p (.int 0)))), ((eC (.p (.str "left"))), (eC (.p (.int 0))))] finDM))
theorem begin_ok (ns : List Int) : ∃ cs, Cells cs ∧ runF 1 beginB [.ro (nums ns)] [] = .ok (.ob 0) [.dic (tpd cs 0 0)] := by
  have go : ∀ {v : PyData}, (eOr (eSli (eVar 0) oNone (oSome (eC (.p (.int 63))))) (eA mkLst (aCons (eC (.p (.int 0))) aNil))) [some (.ro (nums ns))] [] = .ok (.p v) [] → runF 1 beginB [.ro (nums ns)] [] = .ok (.ob 0) [.dic [(.inr "cells", v), (.inr "place", .int 0), (.inr "left", .int 0)]] := by
    intro v e
    refine run_ret ?_
    show beginB [some (.ro (nums ns))] [] = _
    unfold beginB
    have m : mergeD [(.inr "cells", v), (.inr "place", .int 0), (.inr "left", .int 0)] = [(.inr "cells", v), (.inr "place", .int 0), (.inr "left", .int 0)] := rfl
    simp only [sSeq_, sRet_, eDisp, pairsD, eC_, Out.bind_ok, e, pyKey, List.length_cons, List.length_nil]
    rw [if_pos (by decide), m]
    rfl
  have es : sliM (.ro (nums ns)) none (some 63) [] = .ok (.p (.list (cutP (nums ns) none (some 63)))) [] := rfl
  cases hx : cutP (nums ns) none (some 63) with
  | nil =>
    rw [hx] at es
    refine ⟨[.int 0], ⟨fun d hd => ⟨0, by simpa using hd⟩, by simp⟩, go ?_⟩
    simp [es]
  | cons a r =>
    rw [hx] at es
    refine ⟨a :: r, ⟨fun d hd => ?_, by simp⟩, go ?_⟩
    · have : d ∈ nums ns := cutP_mem (lo := none) (hi := some 63) (by rw [hx]; exact hd)
      obtain ⟨z, _, rfl⟩ := List.mem_map.mp this
      exact ⟨z, rfl⟩
    · simp [es]
theorem tape0 {cs : List PyData} : Tape cs 0 1 0 [.dic (tpd cs 0 0)] := ⟨rfl, 0, 0, Int.le_refl 0, Int.le_refl 0, rfl⟩
theorem cutP_drop {xs : List PyData} {k : Nat} : cutP xs (some (k : Int)) none = xs.drop k := by
  unfold cutP
  rw [HT.sIx_nat, HT.sIx_none]
  by_cases h : k ≤ xs.length
  · rw [Nat.min_eq_left h]
    exact List.take_of_length_le (by simp)
  · rw [Nat.min_eq_right (by omega), List.drop_eq_nil_of_le (Nat.le_refl _), List.drop_eq_nil_of_le (by omega)]
    simp
theorem cutP_take {xs : List PyData} {k : Nat} : cutP xs none (some (k : Int)) = xs.take k := by
  unfold cutP
  rw [HT.sIx_nat, HT.sIx_none]
  by_cases h : k ≤ xs.length
  · rw [Nat.min_eq_left h]
    simp
  · rw [Nat.min_eq_right (by omega), List.take_of_length_le (i := k) (by omega)]
    simp
end DL

namespace DL
open PySem L2

mutual
/-- a bound of the repr's length -/
def wt : PyData → Nat
  | .list xs => wtAll xs + 4
  | .tuple xs => wtAll xs + 4
  | .none => 4
  | .bool _ => 5
  | .int i => (PyData.int i).shown.length
  | .str x => (PyData.str x).shown.length
  | .dict kvs => (PyData.dict kvs).shown.length
def wtAll : List PyData → Nat
  | [] => 0
  | x :: xs => wt x + 2 + wtAll xs
end
theorem str_len_app (a b : Str) : (a ++ b).length = a.length + b.length := Str.length_append a b
theorem textFrom_le : ∀ (ts : List Str) (k : Nat) (acc : Str), (textFrom k acc ts).length ≤ acc.length + (ts.map fun t => t.length + 2).sum
  | [], k, acc => by show acc.length ≤ _; omega
  | t :: r, k, acc => by
    have q := textFrom_le r (k + 1) (acc ++ (if k > 0 then ", " else "" : String) ++ t)
    show (textFrom (k + 1) (acc ++ (if k > 0 then ", " else "" : String) ++ t) r).length ≤ _
    have e : (Str.ofString (if k > 0 then ", " else "" : String)).length ≤ 2 := by
      split
      · decide +kernel
      · decide +kernel
    rw [str_len_app, str_len_app] at q
    simp only [List.map_cons, List.sum_cons]
    omega
theorem join_le (ts : List Str) : (Str.join ", " ts).length ≤ (ts.map fun t => t.length + 2).sum := by
  have q := StrLaws.join_length_le ", " ts
  have e : (Str.ofString ", ").length = 2 := by decide +kernel
  rw [e] at q
  have : ∀ ts : List Str, (ts.map fun t => t.length + 2).sum = (ts.map (·.length)).sum + ts.length * 2 := fun ts => by
    induction ts with
    | nil => rfl
    | cons t r ih => simp only [List.map_cons, List.sum_cons, List.length_cons, ih]; omega
  rw [this]
  exact q
mutual
theorem shown_le : ∀ d : PyData, d.shown.length ≤ wt d
  | .none => by decide +kernel
  | .bool b => by cases b <;> decide +kernel
  | .int i => Nat.le_refl _
  | .str x => Nat.le_refl _
  | .dict kvs => Nat.le_refl _
  | .list xs => by
    have q := shownAll_le xs
    have t := textFrom_le (PyData.shownAll xs) 0 "["
    show (textFrom 0 (Str.ofString "[") (PyData.shownAll xs) ++ Str.ofString "]").length ≤ wtAll xs + 4
    rw [str_len_app]
    have e1 : (Str.ofString "[").length = 1 := by decide +kernel
    have e2 : (Str.ofString "]").length = 1 := by decide +kernel
    omega
  | .tuple xs => by
    have q := shownAll_le xs
    have t := join_le (PyData.shownAll xs)
    show (Str.ofString "(" ++ Str.join ", " (PyData.shownAll xs) ++ Str.ofString (if (PyData.shownAll xs).length == 1 then ",)" else ")" : String)).length ≤ wtAll xs + 4
    rw [str_len_app, str_len_app]
    have e1 : (Str.ofString "(").length = 1 := by decide +kernel
    have e2 : (Str.ofString (if (PyData.shownAll xs).length == 1 then ",)" else ")" : String)).length ≤ 2 := by
      split
      · decide +kernel
      · decide +kernel
    omega
theorem shownAll_le : ∀ xs : List PyData, ((PyData.shownAll xs).map fun t => t.length + 2).sum ≤ wtAll xs
  | [] => Nat.le_refl _
  | x :: xs => by
    have q1 := shown_le x
    have q2 := shownAll_le xs
    show (x.shown.length + 2) + ((PyData.shownAll xs).map fun t => t.length + 2).sum ≤ wt x + 2 + wtAll xs
    omega
end
theorem wtAll_app : ∀ (xs ys : List PyData), wtAll (xs ++ ys) = wtAll xs + wtAll ys
  | [], ys => by simp [wtAll]
  | x :: xs, ys => by
    show wt x + 2 + wtAll (xs ++ ys) = wt x + 2 + wtAll xs + wtAll ys
    rw [wtAll_app xs ys]
    omega
theorem depthAll_app : ∀ (xs ys : List PyData), PyData.depthAll (xs ++ ys) = max (PyData.depthAll xs) (PyData.depthAll ys)
  | [], ys => by show _ = max 0 _; simp
  | x :: xs, ys => by
    show max x.depth (PyData.depthAll (xs ++ ys)) = max (max x.depth (PyData.depthAll xs)) (PyData.depthAll ys)
    rw [depthAll_app xs ys]
    omega
theorem repr_ok {d : PyData} {S : Sto} (h1 : d.showable = true) (h2 : d.depth ≤ 60) (h3 : wt d ≤ 1000000) : reprM [.p d] S = .ok (.p (.str d.shown)) S := by
  have q := shown_le d
  have h4 : d.shown.length ≤ LIM := by unfold LIM; omega
  simp [reprM, h1, h2, h4]
end DL

namespace DL
open PySem L2 PySem.Spec PyProof.Rows

def ordM : List D → M D := fun ds S => match ds with
  | [.p (.str x)] => if x.length = 1 then .ok (.p (.int (x.cps.getD 0 0 : Nat))) S else .bad
  | _ => .bad
def absM : List D → M D := fun ds S => match ds with
  | [.p (.int i)] => .ok (.p (.int (if i < 0 then -i else i))) S
  | _ => .bad
def strM : List D → M D := fun ds S => match ds with
  | [.p (.int i)] => if i.natAbs.log2 < 1920 then .ok (.p (.str (toString i))) S else .bad
  | _ => .bad
def intsP : List PyData → Option (List Int)
  | [] => some []
  | .int i :: r => (intsP r).map (i :: ·)
  | _ :: _ => none
theorem intsP_dn {K : PySem.W.Frag} {φ : List (Addr × HO)} {H : Hp} : ∀ {xs : List PyData} {ns : List Int} {vs : List V}, intsP xs = some ns → DnAll K φ H xs vs → vs = ns.map V.int
  | [], ns, _, e, .nil => by cases e; rfl
  | x :: r, ns, _, e, .cons h t => by
    cases x with
    | int i =>
      simp only [intsP, Option.map_eq_some_iff] at e
      obtain ⟨ms, e1, rfl⟩ := e
      have q := intsP_dn e1 t
      cases h
      rw [q]
      rfl
    | _ => simp [intsP] at e
def sumM : List D → M D := fun ds S => match ds with
  | [d] => (match rlOf S d with
    | some xs => (match intsP xs with
      | some ns => .ok (.p (.int ns.sum)) S
      | none => .bad)
    | none => .bad)
  | _ => .bad
def maxI : List Int → Int
  | [] => 0
  | [x] => x
  | x :: y :: r => max x (maxI (y :: r))
theorem maxI_ge : ∀ {ns : List Int} {y : Int}, y ∈ ns → y ≤ maxI ns
  | [x], y, h => by simp at h; subst h; exact Int.le_refl _
  | x :: z :: r, y, h => by
    show y ≤ max x (maxI (z :: r))
    rcases List.mem_cons.mp h with rfl | h
    · exact Int.le_max_left ..
    · exact Int.le_trans (maxI_ge h) (Int.le_max_right ..)
theorem maxI_mem : ∀ {ns : List Int}, ns ≠ [] → maxI ns ∈ ns
  | [], h => absurd rfl h
  | [x], _ => by simp [maxI]
  | x :: z :: r, _ => by
    show max x (maxI (z :: r)) ∈ _
    by_cases c : x ≤ maxI (z :: r)
    · rw [Int.max_eq_right c]; exact List.mem_cons_of_mem _ (maxI_mem (by simp))
    · rw [Int.max_eq_left (by omega)]; exact List.mem_cons_self
def maxM : List D → M D := fun ds S => match ds with
  | [d] => (match rlOf S d with
    | some xs => (match intsP xs with
      | some (n :: ns) => .ok (.p (.int (maxI (n :: ns)))) S
      | _ => .bad)
    | none => .bad)
  | _ => .bad
section
variable {X : Cx} {W : WX} {e : Expr} {fa : FA} {p pos : Pos}
theorem de_ord (hg : Gl X "ord") (hm : X.mg "ord" = none) (ha : DA X W [e] fa) (he : starEach [e] X.env = (false, eval e X.env) :: starEach [] X.env := by rfl) : DE X W (.Call (.Name "ord" p) [e] [] pos) (eA ordM fa) :=
  de_callB call_ord (fun W σ H G S ds vs Q rp dv q => by
    unfold ordM at q
    split at q
    · rename_i x
      obtain ⟨v, rfl, dv1⟩ := denL1 dv
      obtain rfl := den_str dv1
      by_cases c : x.length = 1
      · rw [if_pos c] at q
        exact ⟨x, rfl, c, q.ret rp (.int _)⟩
      · rw [if_neg c] at q; exact q.elim
    · exact q.elim) hg hm rfl ha (he := he)
theorem de_abs (hg : Gl X "abs") (hm : X.mg "abs" = none) (ha : DA X W [e] fa) (he : starEach [e] X.env = (false, eval e X.env) :: starEach [] X.env := by rfl) : DE X W (.Call (.Name "abs" p) [e] [] pos) (eA absM fa) :=
  de_callB call_abs (fun W σ H G S ds vs Q rp dv q => by
    unfold absM at q
    split at q
    · rename_i x
      obtain ⟨v, rfl, dv1⟩ := denL1 dv
      obtain rfl := den_int dv1
      exact ⟨x, rfl, q.ret rp (.int _)⟩
    · exact q.elim) hg hm rfl ha (he := he)
theorem de_strI (hg : Gl X "str") (hm : X.mg "str" = none) (ha : DA X W [e] fa) (he : starEach [e] X.env = (false, eval e X.env) :: starEach [] X.env := by rfl) : DE X W (.Call (.Name "str" p) [e] [] pos) (eA strM fa) :=
  de_callTy call_str_int (fun W σ H G S ds vs Q rp dv q => by
    unfold strM at q
    split at q
    · rename_i x
      obtain ⟨v, rfl, dv1⟩ := denL1 dv
      obtain rfl := den_int dv1
      by_cases c : x.natAbs.log2 < 1920
      · rw [if_pos c] at q
        exact ⟨x, rfl, c, q.ret rp (.str _)⟩
      · rw [if_neg c] at q; exact q.elim
    · exact q.elim) hg hm rfl ha (he := he)
theorem de_sum (hc : X.calm = true) (hg : Gl X "sum") (hm : X.mg "sum" = none) (ha : DA X W [e] fa) (he : starEach [e] X.env = (false, eval e X.env) :: starEach [] X.env := by rfl) : DE X W (.Call (.Name "sum" p) [e] [] pos) (eA sumM fa) :=
  de_callB (cr_sum hc) (fun W σ H G S ds vs Q rp dv q => by
    unfold sumM at q
    split at q
    · rename_i d
      obtain ⟨v, rfl, dv1⟩ := denL1 dv
      split at q
      · rename_i xs ex
        obtain ⟨a, us, rfl, hq, t⟩ := rlOf_den rp ex dv1
        split at q
        · rename_i ns en
          obtain rfl := intsP_dn en t
          exact ⟨a, ns, rfl, hq, q.ret rp (.int _)⟩
        · exact q.elim
      · exact q.elim
    · exact q.elim) hg hm rfl ha (he := he)
theorem de_max (hc : X.calm = true) (hg : Gl X "max") (hm : X.mg "max" = none) (ha : DA X W [e] fa) (he : starEach [e] X.env = (false, eval e X.env) :: starEach [] X.env := by rfl) : DE X W (.Call (.Name "max" p) [e] [] pos) (eA maxM fa) :=
  de_callB (cr_max hc) (fun W σ H G S ds vs Q rp dv q => by
    unfold maxM at q
    split at q
    · rename_i d
      obtain ⟨v, rfl, dv1⟩ := denL1 dv
      split at q
      · rename_i xs ex
        obtain ⟨a, us, rfl, hq, t⟩ := rlOf_den rp ex dv1
        split at q
        · rename_i n ns en
          obtain rfl := intsP_dn en t
          refine ⟨a, n :: ns, rfl, hq, by simp, fun m hm1 hm2 => ?_⟩
          have e1 : m = maxI (n :: ns) := Int.le_antisymm (maxI_ge hm1) (hm2 _ (maxI_mem (by simp)))
          subst e1
          exact q.ret rp (.int _)
        · exact q.elim
      · exact q.elim
    · exact q.elim) hg hm rfl ha (he := he)
end

def repS (x : Str) (n : Int) : Str := if n < 1 then Str.empty else if (n == 1 || x.length == 0) = true then x else ⟨(List.replicate n.toNat x.cps).foldl (· ++ ·) #[]⟩
def opMulX : D → D → M D := fun x y S => match x, y with
  | .p (.int i), .p (.int j) => if i.natAbs.log2 + j.natAbs.log2 < 1000000 then .ok (.p (.int (i * j))) S else .bad
  | .p (.str z), .p (.int n) => if z.length ≤ 1000 ∧ -1000 ≤ n ∧ n ≤ 1000 then .ok (.p (.str (repS z n))) S else .bad
  | x, .p (.int n) => match lstOf S x with
    | some xs => if xs.length ≤ 1000 ∧ -1000 ≤ n ∧ n ≤ 1000 then .ok (.p (.list (List.replicate n.toNat xs).flatten)) S else .bad
    | none => .bad
  | _, _ => .bad
def rMulX : R2 := fun x y H Q => rI CMulW (fun i j => .int (i * j)) x y H Q ∨ rRep x y H Q ∨ ∃ z n, x = .str z ∧ y = .int n ∧ z.length ≤ 1000 ∧ -1000 ≤ n ∧ n ≤ 1000 ∧ Q (.str (repS z n)) H
theorem rep_size : ∀ (k : Nat) (x acc : Array Nat), ((List.replicate k x).foldl (· ++ ·) acc).size = acc.size + k * x.size
  | 0, x, acc => by simp
  | k + 1, x, acc => by
    rw [List.replicate_succ, List.foldl_cons, rep_size k x (acc ++ x), Array.size_append, Nat.succ_mul]
    omega
theorem rep_dn {K : PySem.W.Frag} {φ : List (Addr × HO)} {H : Hp} {xs : List PyData} {vs : List V} (t : DnAll K φ H xs vs) : ∀ k : Nat, DnAll K φ H (List.replicate k xs).flatten (List.replicate k vs).flatten
  | 0 => .nil
  | k + 1 => by
    rw [List.replicate_succ, List.replicate_succ, List.flatten_cons, List.flatten_cons]
    exact t.append (rep_dn t k)
section
variable {X : Cx}
theorem op_mulX1 : OpR X (binaryOp .Mult) rMulX := by
  intro pins s σ H x y v u Q I rx ry h
  rcases h with h | h | h
  · exact op_mulW pins s σ H x y v u Q I rx ry h
  · exact op_rep pins s σ H x y v u Q I rx ry h
  · obtain ⟨z, n, rfl, rfl, hz, h1, h2, q⟩ := h
    obtain ⟨t, rfl⟩ := rx
    obtain ⟨t', rfl⟩ := ry
    refine PySem.P.mul_str (by
      rw [decide_eq_false (show ¬ n < -(2 ^ 63 : Int) by omega), decide_eq_false (show ¬ n ≥ 2 ^ 63 by omega)]; rfl) (fun c1 c2 => ?_) (fun c1 c2 => ?_) ?_
    · have : (2 ^ 63 - 1 : Int) / n ≥ 1000 := by
        refine (Int.le_ediv_iff_mul_le (by omega)).mpr ?_
        omega
      omega
    · have hk : z.length * n.toNat ≤ 1000 * 1000 := Nat.mul_le_mul hz (by omega)
      show decide (z.length * n.toNat > sizeLine) = false
      exact decide_eq_false (by have := LIM_le; unfold LIM at this; omega)
    · by_cases c1 : n < 1
      · have q' : Q (.str Str.empty) H := by unfold repS at q; rw [if_pos c1] at q; exact q
        rw [if_pos c1]
        exact ⟨Nat.zero_le _, .str _, H, I.tok _, ⟨_, rfl⟩, q'⟩
      · by_cases c2 : (n == 1 || z.length == 0) = true
        · have q' : Q (.str z) H := by unfold repS at q; rw [if_neg c1, if_pos c2] at q; exact q
          rw [if_neg c1, if_pos c2]
          exact ⟨.str _, H, I, ⟨_, rfl⟩, q'⟩
        · have q' : Q (.str ⟨(List.replicate n.toNat z.cps).foldl (· ++ ·) #[]⟩) H := by unfold repS at q; rw [if_neg c1, if_neg c2] at q; exact q
          rw [if_neg c1, if_neg c2]
          refine ⟨?_, .str _, H, I.tok _, ⟨_, rfl⟩, q'⟩
          show ((List.replicate n.toNat z.cps).foldl (· ++ ·) #[]).size ≤ sizeLine
          rw [rep_size]
          have hk : n.toNat * z.cps.size ≤ 1000 * 1000 := Nat.mul_le_mul (by omega) hz
          have := LIM_le
          unfold LIM at this
          simp
          omega
end
theorem sim_mulX {K : PySem.W.Frag} : Sim2 K rMulX opMulX := by
  intro W σ H G S x y v w Q rp dx dy q
  unfold opMulX at q
  split at q
  · rename_i i j
    obtain rfl := den_int dx; obtain rfl := den_int dy
    by_cases c : i.natAbs.log2 + j.natAbs.log2 < 1000000
    · rw [if_pos c] at q
      exact .inl ⟨i, j, rfl, rfl, c, q.ret rp (.int _)⟩
    · rw [if_neg c] at q; exact q.elim
  · rename_i z n
    obtain rfl := den_str dx; obtain rfl := den_int dy
    by_cases c : z.length ≤ 1000 ∧ -1000 ≤ n ∧ n ≤ 1000
    · rw [if_pos c] at q
      exact .inr (.inr ⟨z, n, rfl, rfl, c.1, c.2.1, c.2.2, q.ret rp (.str _)⟩)
    · rw [if_neg c] at q; exact q.elim
  · rename_i x' n _ _
    obtain rfl := den_int dy
    split at q
    · rename_i xs ex
      obtain ⟨a, vs, rfl, hH, t⟩ := lstOf_den rp ex dx
      by_cases c : xs.length ≤ 1000 ∧ -1000 ≤ n ∧ n ≤ 1000
      · rw [if_pos c] at q
        refine .inr (.inl ⟨a, n, vs, rfl, rfl, hH, by omega, by omega, ?_, fun p hp => q.newLst rp (rep_dn t n.toNat) hp⟩)
        rw [← t.length]
        have hk : xs.length * n.toNat ≤ 1000 * 1000 := Nat.mul_le_mul c.1 (by omega)
        have := LIM_le
        unfold LIM at this
        omega
      · rw [if_neg c] at q; exact q.elim
    · exact q.elim
  · exact q.elim
def opDivX : D → D → M D := opI (fun _ j => decide (0 < j) && decide (j.natAbs.log2 < 9000)) fun i j => i / j
/-- <= of numbers, of texts -/
def opLeX : D → D → M D := fun x y S => match x, y with
  | .p (.int i), .p (.int j) => .ok (.p (.bool (decide (i ≤ j)))) S
  | .p (.str i), .p (.str j) => .ok (.p (.bool (!decide (j.cps.toList < i.cps.toList)))) S
  | _, _ => .bad
def rLeX : R2 := fun x y H Q => rI0 (fun i j => .bl (decide (i ≤ j))) x y H Q ∨ ∃ i j, x = .str i ∧ y = .str j ∧ Q (.bl (!decide (j.cps.toList < i.cps.toList))) H
theorem sim_leX {K : PySem.W.Frag} : Sim2 K rLeX opLeX := by
  intro W σ H G S x y v w Q rp dx dy q
  unfold opLeX at q
  split at q
  · rename_i i j
    obtain rfl := den_int dx; obtain rfl := den_int dy
    exact .inl ⟨i, j, rfl, rfl, q.ret rp (.bl _)⟩
  · rename_i i j
    obtain rfl := den_str dx; obtain rfl := den_str dy
    exact .inr ⟨i, j, rfl, rfl, q.ret rp (.bl _)⟩
  · exact q.elim
section
variable {X : Cx} {W : WX} {a b c : Expr} {f g h : FE} {pos : Pos}
theorem op_leX1 : OpR X (compareOp .LtE) rLeX := by
  intro pins s σ H x y v u Q I rx ry h
  rcases h with h | h
  · exact op_le pins s σ H x y v u Q I rx ry h
  · exact op_le_str pins s σ H x y v u Q I rx ry h
theorem de_mulX (ha : DE X W a f) (hb : DE X W b h) : DE X W (.BinOp a .Mult b pos) (e2 opMulX f h) := de_bin op_mulX1 sim_mulX ha hb
theorem de_divX (ha : DE X W a f) (hb : DE X W b h) : DE X W (.BinOp a .FloorDiv b pos) (e2 opDivX f h) := de_bin op_fdivW (sim_int fun i j q => by
  simp only [Bool.and_eq_true, decide_eq_true_eq] at q
  exact q) ha hb
theorem de_leX (ha : DE X W a f) (hb : DE X W b h) : DE X W (.Compare a [.LtE] [b] pos) (e2 opLeX f h) := de_cmp op_leX1 sim_leX ha hb (nomark _)
theorem dt_leX (ha : DE X W a f) (hb : DE X W b h) : DT X W (.Compare a [.LtE] [b] pos) (tC2 opLeX f h) := dt_cmp op_leX1 sim_leX ha hb (nomark _)
theorem de_leXleX (ha : DE X W a f) (hb : DE X W b g) (hc : DE X W c h) (hm : lastMarks [.LtE, .LtE] [b, c] = false := by with_unfolding_all rfl) : DE X W (.Compare a [.LtE, .LtE] [b, c] pos) (eChain opLeX opLeX f g h) := de_chain op_leX1 sim_leX op_leX1 sim_leX ha hb hc hm
theorem dt_leXleX (ha : DE X W a f) (hb : DE X W b g) (hc : DE X W c h) (hm : lastMarks [.LtE, .LtE] [b, c] = false := by with_unfolding_all rfl) : DT X W (.Compare a [.LtE, .LtE] [b, c] pos) (tChain opLeX opLeX f g h) := dt_chain op_leX1 sim_leX op_leX1 sim_leX ha hb hc hm
theorem dt_leXlt (ha : DE X W a f) (hb : DE X W b g) (hc : DE X W c h) (hm : lastMarks [.LtE, .Lt] [b, c] = false := by with_unfolding_all rfl) : DT X W (.Compare a [.LtE, .Lt] [b, c] pos) (tChain opLeX opLt f g h) := dt_chain op_leX1 sim_leX op_lt sim_cmp ha hb hc hm
end
end DL

namespace DL
open PySem L2 PySem.Spec PyProof.Rows

def deepIn (neg : Bool) : D → D → M D := fun x y S => match val S x, val S y with
  | some d, some (.list ds) => if SeqAt.shaped d && SeqAt.shaped (.list ds) then .ok (.p (.bool (if neg then !(ds.any fun z => PyData.eqv z d) else ds.any fun z => PyData.eqv z d))) S else .bad
  | _, _ => .bad
def opInX (neg : Bool) : D → D → M D := fun x y S => match opIn neg x y S with
  | .bad => deepIn neg x y S
  | o => o
def rInX (K : PySem.W.Frag) (neg : Bool) : R2 := fun x y H Q => DL.rInD K neg x y H Q ∨ ∃ d ds, Dp K H x d ∧ Dp K H y (.list ds) ∧ SeqAt.shaped d = true ∧ SeqAt.shaped (.list ds) = true ∧ Q (.bl (if neg then !(ds.any fun z => PyData.eqv z d) else ds.any fun z => PyData.eqv z d)) H
theorem sim_inX {K : PySem.W.Frag} (neg : Bool) : Sim2 K (rInX K neg) (opInX neg) := by
  intro W σ H G S x y v w Q rp dx dy q
  unfold opInX at q
  cases e : opIn neg x y S with
  | ok d S1 =>
    rw [e] at q
    exact .inl (sim_in neg W σ H G S x y v w Q rp dx dy (by rw [e]; exact q))
  | err z S1 =>
    rw [e] at q
    exact .inl (sim_in neg W σ H G S x y v w Q rp dx dy (by rw [e]; exact q))
  | bad =>
    rw [e] at q
    have q : Aft K W σ H G S (deepIn neg x y S) (QD K Q) := q
    unfold deepIn at q
    split at q
    · rename_i d ds e1 e2
      by_cases c : (SeqAt.shaped d && SeqAt.shaped (.list ds)) = true
      · rw [if_pos c] at q
        simp only [Bool.and_eq_true] at c
        exact .inr ⟨d, ds, val_dp rp e1 c.1 dx, val_dp rp e2 c.2 dy, c.1, c.2, q.ret rp (.bl _)⟩
      · rw [if_neg c] at q; exact q.elim
    · exact q.elim
def eSplit (f g : FE) : FE := fun ρ S => (f ρ S).bind fun d S1 => match d with
  | .p (.str a) => (g ρ S1).bind fun e S2 => (match e with
    | .p (.str b) => if (b.length == 0) = false ∧ a.length + 2 ≤ LIM then .ok (.p (.list ((Txt.split a b).map .str))) S2 else .bad
    | _ => .bad)
  | _ => .bad
theorem strs_dn {K : PySem.W.Frag} {φ : List (Addr × HO)} {H : Hp} : ∀ xs : List Str, DnAll K φ H (xs.map .str) (xs.map V.str)
  | [] => .nil
  | x :: xs => .cons (.str x) (strs_dn xs)
section
variable {X : Cx} {W : WX} {a b o e : Expr} {f g h : FE} {pos apos : Pos}
theorem op_inX1 (hu : X.A.units + 65 < cLine) : OpR X (compareOp .In) (rInX X.K false) := by
  intro pins s σ H x y v u Q I rx ry h
  rcases h with h | h
  · exact DL.op_inD (by omega) pins s σ H x y v u Q I rx ry h
  · exact L2.op_inD hu pins s σ H x y v u Q I rx ry h
theorem op_notInX1 (hu : X.A.units + 65 < cLine) : OpR X (compareOp .NotIn) (rInX X.K true) := by
  intro pins s σ H x y v u Q I rx ry h
  rcases h with h | h
  · exact DL.op_notInD (by omega) pins s σ H x y v u Q I rx ry h
  · exact L2.op_notInD hu pins s σ H x y v u Q I rx ry h
theorem hu65 {A : Around} {k : Nat} (hr : Room k A) : A.units + 65 < cLine := by have := hr.un; omega
theorem de_inX (hu : X.A.units + 65 < cLine) (ha : DE X W a f) (hb : DE X W b h) (hm : behindInMarks .In b = false := by rfl) : DE X W (.Compare a [.In] [b] pos) (e2 (opInX false) f h) := de_cmp (op_inX1 hu) (sim_inX false) ha hb hm
theorem de_notInX (hu : X.A.units + 65 < cLine) (ha : DE X W a f) (hb : DE X W b h) (hm : behindInMarks .NotIn b = false := by rfl) : DE X W (.Compare a [.NotIn] [b] pos) (e2 (opInX true) f h) := de_cmp (op_notInX1 hu) (sim_inX true) ha hb hm
theorem dt_inX (hu : X.A.units + 65 < cLine) (ha : DE X W a f) (hb : DE X W b h) (hm : behindInMarks .In b = false := by rfl) : DT X W (.Compare a [.In] [b] pos) (tC2 (opInX false) f h) := dt_cmp (op_inX1 hu) (sim_inX false) ha hb hm
theorem dt_notInX (hu : X.A.units + 65 < cLine) (ha : DE X W a f) (hb : DE X W b h) (hm : behindInMarks .NotIn b = false := by rfl) : DT X W (.Compare a [.NotIn] [b] pos) (tC2 (opInX true) f h) := dt_cmp (op_notInX1 hu) (sim_inX true) ha hb hm
theorem de_split (ho : DE X W o f) (he : DE X W e g) (hs : starEach [e] X.env = [(false, eval e X.env)] := by rfl) (hbase : attributeBase o "split" X.env (eval o X.env) = eval o X.env := by rfl) (hline : (apos.endLine == pos.line) = true := by rfl) : DE X W (.Call (.Attribute o "split" apos) [e] [] pos) (eSplit f g) := by
  refine ⟨PE.imp (pe_split ho.run he.run hs hbase hline) fun σ H Q ⟨G, S, ρ, rs, rp, q⟩ => ⟨G, S, ρ, rs, rp, (Aft.bind q).mono fun d H1 G1 S1 x1 r1 q1 v dv => ?_⟩⟩
  split at q1
  · rename_i z
    obtain rfl := den_str dv
    refine ⟨⟨z, rfl⟩, G1, S1, ρ, x1.relS rp rs, r1, (Aft.bind q1).mono fun d2 H2 G2 S2 x2 r2 q2 u du => ?_⟩
    split at q2
    · rename_i b'
      obtain rfl := den_str du
      by_cases c : (b'.length == 0) = false ∧ z.length + 2 ≤ LIM
      · rw [if_pos c] at q2
        exact ⟨z, b', rfl, rfl, c.1, Nat.le_trans c.2 LIM_le, fun p hp => q2.newLst r2 (strs_dn _) hp⟩
      · rw [if_neg c] at q2; exact q2.elim
    · exact q2.elim
  · exact q1.elim
end
end DL

namespace DL
open PySem L2

theorem lg {n k : Nat} (h : n < 2 ^ k) (hk : 0 < k) : n.log2 < k := by
  by_cases c : n = 0
  · subst c; simpa using hk
  · exact (Nat.log2_lt c).mpr h
@[simp] theorem opLeX_i {i j : Int} {S : Sto} : opLeX (.p (.int i)) (.p (.int j)) S = .ok (.p (.bool (decide (i ≤ j)))) S := rfl
@[simp] theorem opLeX_s {i j : Str} {S : Sto} : opLeX (.p (.str i)) (.p (.str j)) S = .ok (.p (.bool (!decide (j.cps.toList < i.cps.toList)))) S := rfl
theorem opMulX_i {i j : Int} {S : Sto} (h : i.natAbs.log2 + j.natAbs.log2 < 1000000) : opMulX (.p (.int i)) (.p (.int j)) S = .ok (.p (.int (i * j))) S := by simp [opMulX, h]
theorem opDivX_i {i j : Int} {S : Sto} (h : 0 < j) (h2 : j.natAbs.log2 < 9000) : opDivX (.p (.int i)) (.p (.int j)) S = .ok (.p (.int (i / j))) S := by simp [opDivX, opI, h, h2]
@[simp] theorem inX_ss {neg : Bool} {i j : Str} {S : Sto} : opInX neg (.p (.str i)) (.p (.str j)) S = .ok (.p (.bool (if neg then !inStr i j else inStr i j))) S := rfl
theorem inX_t {neg : Bool} {a : PyData} {xs : List PyData} {S : Sto} (h : flatP a = true) (h2 : xs.all flatP = true) : opInX neg (.p a) (.p (.tuple xs)) S = .ok (.p (.bool (if neg then !inP a xs else inP a xs))) S := by
  unfold opInX; rw [in_t h h2]
theorem inX_l {neg : Bool} {a : PyData} {xs : List PyData} {S : Sto} (h : flatP a = true) (h2 : xs.all flatP = true) : opInX neg (.p a) (.p (.list xs)) S = .ok (.p (.bool (if neg then !inP a xs else inP a xs))) S := by
  unfold opInX; rw [in_l h h2]
/-- the draw's constants: q, a, b, the power, the ten's power and what is added -/
structure DrC where
  q : Int
  a : Int
  b : Int
  e : Int
  t : Int
  z : Int
def DrC.ok (c : DrC) : Prop := 0 < c.q ∧ c.q ≤ 4294967296 ∧ 0 ≤ c.a ∧ c.a ≤ 100000 ∧ 0 ≤ c.b ∧ c.b ≤ 100000 ∧ 0 ≤ c.e ∧ c.e ≤ 1000 ∧ 0 ≤ c.t ∧ c.t ≤ 1000 ∧ 0 ≤ c.z
def drawA2 (c : DrC) : FS := (sSeq (sAsgs (aCons (e2 opSubs (eVar 0) (eC (.p (.str "place")))) (aCons (eA lenM (aCons (e2 opSubs (eVar 0) (eC (.p (.str "cells")))) aNil)) aNil)) (gConss (gN 3) (gConss (gN 4) gNils)))
    (sSeq (sAsgs (aCons (e2 opSubs (e2 opSubs (eVar 0) (eC (.p (.str "cells")))) (e2 opMod (eA intM (aCons (eVar 3) aNil)) (eVar 4))) (aCons (e2 opAdd (eVar 3) (eC (.p (.int 1)))) aNil)) (gConss (gN 5) (gConss (gSubD (eVar 0) (eC (.p (.str "place")))) gNils)))
    (sSeq (sAsg (e2 opMod (eA intM (aCons (e2 opPow (e2 opAdd (e2 opAdd (e2 opMod (eA intM (aCons (eVar 5) aNil)) (eC (.p (.int c.q)))) (e2 opMulX (eC (.p (.int c.a))) (eVar 3))) (eC (.p (.int c.b)))) (eC (.p (.int c.e)))) aNil)) (e2 opAdd (e2 opPow (eC (.p (.int 10))) (eC (.p (.int c.t)))) (eC (.p (.int c.z))))) (gSubD (eVar 0) (eC (.p (.str "left")))))
    (sIf (tAndD (tC2 (opGe) (eVar 5) (e2 opPow (eC (.p (.int 10))) (eC (.p (.int 18))))) (tC2 (opLt) (eVar 3) (eVar 4))) (sAsg (e2 opSub (eVar 5) (e2 opPow (eC (.p (.int 10))) (eC (.p (.int 18))))) (gSubD (eVar 0) (eC (.p (.str "left"))))) sNext))))
def drawB2 (c : DrC) : FS := (sSeq (sIf (tC2 (opLt) (e2 opSubs (eVar 0) (eC (.p (.str "left")))) (eVar 1)) (drawA2 c) sNext)
    (sSeq (sAsgs (aCons (e2 opMod (eA intM (aCons (e2 opSubs (eVar 0) (eC (.p (.str "left")))) aNil)) (eVar 1)) (aCons (e2 opDivX (e2 opSubs (eVar 0) (eC (.p (.str "left")))) (eVar 1)) aNil)) (gConss (gN 2) (gConss (gSubD (eVar 0) (eC (.p (.str "left")))) gNils)))
    (sRet (eVar 2))))
theorem drawA2_ok {c : DrC} (hc0 : c.ok) {cs : List PyData} {p l m : Int} {S : Sto} {i : Nat} (hc : ∀ d ∈ cs, ∃ z, d = .int z) (hne : cs ≠ []) (h : S[i]? = some (.dic (tpd cs p l))) (hp : 0 ≤ p) (hp2 : p ≤ 1000000000000) :
    ∃ x y z l', drawA2 c [some (.ob i), some (.p (.int m)), none, none, none, none] S = some (.next [some (.ob i), some (.p (.int m)), none, x, y, z], S.set i (.dic (tpd cs (p + 1) l'))) := by
  obtain ⟨h1, h2, h3, h4, h5, h6, h7, h8, h9, h10, h11⟩ := hc0
  have hl : 0 < cs.length := List.length_pos_iff.mpr hne
  obtain ⟨d, e1, hd⟩ := atI_ok (xs := cs) (i := p % (cs.length : Int)) (Int.emod_nonneg _ (by omega)) (Int.emod_lt_of_pos _ (by omega))
  obtain ⟨z, rfl⟩ := hc d hd
  have hS1 := tp_at (o := .dic (tpd cs (p + 1) l)) h
  have hap : c.a * p ≤ 100000 * 1000000000000 := Int.mul_le_mul h4 hp2 hp (by decide)
  have hap0 : 0 ≤ c.a * p := Int.mul_nonneg h3 hp
  have hb : (z % c.q + c.a * p + c.b).natAbs < 2 ^ 64 := by
    have a1 := Int.emod_nonneg z (show c.q ≠ 0 by omega)
    have a2 := Int.emod_lt_of_pos z h1
    have : (2 : Nat) ^ 64 = 18446744073709551616 := by decide
    omega
  have hz : (0 : Int) < 10 ^ c.t.toNat + c.z := by
    have : (0 : Int) < 10 ^ c.t.toNat := Int.pow_pos (by decide)
    omega
  have hlg : c.a.natAbs.log2 + p.natAbs.log2 < 1000000 := by
    have a1 := lg (n := c.a.natAbs) (k := 40) (by have : (2 : Nat) ^ 40 = 1099511627776 := by decide
                                                  omega) (by decide)
    have a2 := lg (n := p.natAbs) (k := 41) (by have : (2 : Nat) ^ 41 = 2199023255552 := by decide
                                                omega) (by decide)
    omega
  have k1 := fun S => opMod_i (i := z) (S := S) h1
  have k2 := fun S => opMulX_i (S := S) hlg
  have k3 := fun S => opPow_i (S := S) h7 (show c.e ≤ 1000000 by omega) hb
  have k4 := fun S => opPow_i (S := S) h9 (show c.t ≤ 1000000 by omega) (show (10 : Int).natAbs < 2 ^ 64 by decide)
  have k5 := fun x S => opMod_i (i := x) (S := S) hz
  have k6 := fun S => opPow_i (i := 10) (S := S) (show (0 : Int) ≤ 18 by decide) (by decide) (show (10 : Int).natAbs < 2 ^ 64 by decide)
  have hS2 : ∀ l2, (List.set S i (.dic (tpd cs (p + 1) l2)))[i]? = some (.dic (tpd cs (p + 1) l2)) := fun l2 => tp_at h
  unfold drawA2
  simp only [sSeq_, sAsgs_, aCons_, aNil_, e2_, eVarS, eVar0, eC_, Out.bind_ok, tp_place h, eA_, tp_cells h, lenM_l, st_ok, gConss_, gN_, gNils_, List.set_cons_succ, List.set_cons_zero, intM_i, opMod_i (show (0 : Int) < (cs.length : Int) by omega), subs_l e1, opAdd_i, gSubD_, tp_setP h, sAsg_, k1, k2, k3, k4, k5, tp_setL hS1, List.set_set]
  by_cases c1 : (10 : Int) ^ (18 : Int).toNat ≤ z
  · by_cases c2 : p < (cs.length : Int)
    · simp only [sIf_, tAnd_, tC2_, e2_, eVarS, eVar0, eC_, Out.bind_ok, k6, opGe_i, c1, decide_true, if_true, opLt_i, c2, st_ok, sAsg_, opSub_i, gSubD_, tp_setL (hS2 _), List.set_set]
      exact ⟨_, _, _, _, rfl⟩
    · simp only [sIf_, tAnd_, tC2_, e2_, eVarS, eVar0, eC_, Out.bind_ok, k6, opGe_i, c1, decide_true, if_true, opLt_i, c2, decide_false, Bool.false_eq_true, if_false, st_ok, sNext_]
      exact ⟨_, _, _, _, rfl⟩
  · simp only [sIf_, tAnd_, tC2_, e2_, eVarS, eVar0, eC_, Out.bind_ok, k6, opGe_i, c1, decide_false, Bool.false_eq_true, if_false, st_ok, sNext_]
    exact ⟨_, _, _, _, rfl⟩
theorem drawB2_ok {c : DrC} (hc0 : c.ok) {cs : List PyData} {p l m : Int} {S : Sto} {i : Nat} (hc : ∀ d ∈ cs, ∃ z, d = .int z) (hne : cs ≠ []) (h : S[i]? = some (.dic (tpd cs p l))) (hp : 0 ≤ p) (hp2 : p ≤ 1000000000000) (hm : 0 < m) (hm2 : m.natAbs.log2 < 9000) :
    ∃ g p' l', 0 ≤ g ∧ g < m ∧ 0 ≤ p' ∧ p' ≤ p + 1 ∧ runF 6 (drawB2 c) [.ob i, .p (.int m)] S = .ok (.p (.int g)) (S.set i (.dic (tpd cs p' l'))) := by
  have second : ∀ {x y z : Option D} {S : Sto} {p l : Int}, S[i]? = some (.dic (tpd cs p l)) → (sSeq (sAsgs (aCons (e2 opMod (eA intM (aCons (e2 opSubs (eVar 0) (eC (.p (.str "left")))) aNil)) (eVar 1)) (aCons (e2 opDivX (e2 opSubs (eVar 0) (eC (.p (.str "left")))) (eVar 1)) aNil)) (gConss (gN 2) (gConss (gSubD (eVar 0) (eC (.p (.str "left")))) gNils)))
      (sRet (eVar 2))) [some (.ob i), some (.p (.int m)), none, x, y, z] S = some (.ret (.p (.int (l % m))), S.set i (.dic (tpd cs p (l / m)))) := by
    intro x y z S p l h
    simp [sSeq_, tp_left h, opMod_i hm, opDivX_i hm hm2, tp_setL h]
  have g0 : ∀ l, 0 ≤ l % m := fun l => Int.emod_nonneg _ (by omega)
  have g1 : ∀ l, l % m < m := fun l => Int.emod_lt_of_pos _ hm
  by_cases cc : l < m
  · obtain ⟨x, y, z, l', e⟩ := drawA2_ok (m := m) hc0 hc hne h hp hp2
    have s2 := second (x := x) (y := y) (z := z) (tp_at (o := .dic (tpd cs (p + 1) l')) h)
    refine ⟨l' % m, p + 1, l' / m, g0 _, g1 _, by omega, by omega, run_ret ?_⟩
    show drawB2 c [some (.ob i), some (.p (.int m)), none, none, none, none] S = _
    unfold drawB2
    rw [sSeq_next (a := sIf _ _ _) (ρ' := [some (.ob i), some (.p (.int m)), none, x, y, z]) (S' := S.set i (.dic (tpd cs (p + 1) l'))) (by simp [sSeq_, tp_left h, cc, e]), s2, List.set_set]
  · refine ⟨l % m, p, l / m, g0 _, g1 _, by omega, by omega, run_ret ?_⟩
    show drawB2 c [some (.ob i), some (.p (.int m)), none, none, none, none] S = _
    unfold drawB2
    rw [sSeq_next (a := sIf _ _ _) (ρ' := [some (.ob i), some (.p (.int m)), none, none, none, none]) (S' := S) (by simp [sSeq_, tp_left h, cc]), second h]
theorem draw2_ok {c : DrC} (hc0 : c.ok) {cs : List PyData} {i L : Nat} {n m : Int} {S : Sto} (hc : Cells cs) (h : Tape cs i L n S) (hn : n ≤ 1000000000000) (hm : 0 < m) (hm2 : m.natAbs.log2 < 9000) :
    ∃ g S', runF 6 (drawB2 c) [.ob i, .p (.int m)] S = .ok (.p (.int g)) S' ∧ 0 ≤ g ∧ g < m ∧ Tape cs i L (n + 1) S' := by
  obtain ⟨hl, p, l, h0, h1, hS⟩ := h
  obtain ⟨g, p', l', a, b, c', d, e⟩ := drawB2_ok hc0 hc.1 hc.2 hS h0 (by omega) hm hm2
  exact ⟨g, _, e, a, b, by rw [List.length_set]; exact hl, p', l', c', by omega, tp_at hS⟩
theorem pick2_ok {c : DrC} (hc0 : c.ok) {cs : List PyData} {i L : Nat} {n : Int} {S : Sto} {xs : List PyData} (hc : Cells cs) (h : Tape cs i L n S) (hn : n ≤ 1000000000000) (hx : xs ≠ []) (hx2 : xs.length < 1000000) :
    ∃ d S', runF 2 (pickB (runF 6 (drawB2 c))) [.ob i, .p (.list xs)] S = .ok (.p d) S' ∧ d ∈ xs ∧ Tape cs i L (n + 1) S' := by
  have hl : 0 < xs.length := List.length_pos_iff.mpr hx
  obtain ⟨g, S', e, g0, g1, ht⟩ := draw2_ok hc0 (m := (xs.length : Int)) hc h hn (by omega) (by
    have := lg (n := ((xs.length : Int)).natAbs) (k := 40) (by have : (2 : Nat) ^ 40 = 1099511627776 := by decide
                                                               omega) (by decide)
    omega)
  obtain ⟨d, e2, hd⟩ := atI_ok g0 g1
  refine ⟨d, S', run_ret ?_, hd, ht⟩
  show pickB (runF 6 (drawB2 c)) [some (.ob i), some (.p (.list xs))] S = _
  unfold pickB
  simp [e, cut_same (ht.1.trans h.1.symm), subs_l e2]
theorem strOk_of (s : String) : PyData.strOk (Str.ofString s) = true := by
  rw [Str.ofString_eq_toList]
  unfold PyData.strOk
  rw [Array.all_eq_true']
  intro c hc
  simp at hc
  obtain ⟨x, _, rfl⟩ := hc
  have := x.valid
  simp [UInt32.isValidChar, Nat.isValidChar] at this
  simp only [decide_eq_true_eq]
  rcases this with h | h
  · omega
  · exact h.2
end DL

namespace DL
open PySem L2

theorem lcD_go {g : FG} {e : FE} {ρ : Ev} (Inv : Nat → Sto → Prop) (P : PyData → Prop) : ∀ {ds : List D} {j : Nat} {S : Sto}, Inv j S →
    (∀ i d S, ds[i]? = some d → Inv (j + i) S → ∃ ρ1 y S', g d ρ S = some (ρ1, S) ∧ e ρ1 S = .ok (.p y) S' ∧ P y ∧ Inv (j + i + 1) S') →
    ∃ ys S', lcD g tYesD e ρ ds S = .ok ys S' ∧ ys.length = ds.length ∧ (∀ y ∈ ys, P y) ∧ Inv (j + ds.length) S'
  | [], j, S, h, _ => ⟨[], S, rfl, rfl, (fun y hy => nomatch hy), h⟩
  | d :: r, j, S, h, st => by
    obtain ⟨ρ1, y, S1, e1, e2, py, h1⟩ := st 0 d S rfl h
    obtain ⟨ys, S2, e3, l, ps, h2⟩ := lcD_go Inv P (ds := r) (j := j + 1) (S := S1) h1 fun i x S hx hi => by
      have q := st (i + 1) x S (by simpa using hx) (by rw [show j + (i + 1) = j + 1 + i by omega]; exact hi)
      rw [show j + (i + 1) + 1 = j + 1 + i + 1 by omega] at q
      exact q
    refine ⟨y :: ys, S2, ?_, by simp [l], fun z hz => ?_, by rw [List.length_cons, show j + (r.length + 1) = j + 1 + r.length by omega]; exact h2⟩
    · unfold lcD
      rw [e1]
      show (tYesD ρ1 S).bind _ = _
      simp only [tYes_, Out.bind_ok, if_true, e2, e3]
    · rcases List.mem_cons.mp hz with rfl | hz
      · exact py
      · exact ps z hz
theorem range_ok {j : Int} {S : Sto} (h0 : 0 ≤ j) (h1 : j ≤ 1000000) : rangeM [.p (.int j)] S = .ok ((List.range j.toNat).map fun i : Nat => D.p (.int (0 + (i : Int)))) S := by
  unfold rangeM
  simp only
  rw [if_pos ⟨by omega, h1⟩]
end DL

namespace DL
open PySem L2

def wp {α : Type} (o : Out α) (Q : α → Sto → Prop) (X : Exn → Sto → Prop) : Prop := match o with
  | .ok a s => Q a s
  | .err x s => X x s
  | .bad => False
def wpS (o : Option (Fl × Sto)) (Q : Fl → Sto → Prop) : Prop := match o with
  | some (fl, s) => Q fl s
  | none => False
def wpG (o : Option (Ev × Sto)) (Q : Ev → Sto → Prop) : Prop := match o with
  | some (ρ, s) => Q ρ s
  | none => False
def noX : Exn → Sto → Prop := fun _ _ => False
def sq (b : FS) (Q : Fl → Sto → Prop) : Fl → Sto → Prop := fun fl s => match fl with
  | .next ρ => wpS (b ρ s) Q
  | .ret d => Q (.ret d) s
  | .brk ρ => Q (.brk ρ) s
  | .cont ρ => Q (.cont ρ) s
  | .exc x ρ => Q (.exc x ρ) s
def rn (Q : D → Sto → Prop) (X : Exn → Sto → Prop) : Fl → Sto → Prop := fun fl s => match fl with
  | .ret d => Q d s
  | .next _ => Q (.p .none) s
  | .exc x _ => X x s
  | _ => False
section
variable {α β : Type} {a : α} {s S : Sto} {Q : α → Sto → Prop} {X : Exn → Sto → Prop} {R : Fl → Sto → Prop} {ρ : Ev} {o : Out α} {k : α → M β} {Q' : β → Sto → Prop}
@[simp] theorem wp_ok : wp (.ok a s) Q X = Q a s := rfl
@[simp] theorem wp_err {x : Exn} : wp (.err x s : Out α) Q X = X x s := rfl
@[simp] theorem wp_bad : wp (.bad : Out α) Q X = False := rfl
@[simp ↓] theorem wp_bind : wp (o.bind k) Q' X = wp o (fun a s => wp (k a s) Q' X) X := by cases o <;> rfl
@[simp] theorem wp_noErr : wp (noErr o) Q X = wp o Q noX := by cases o <;> rfl
@[simp] theorem wpS_some {fl : Fl} : wpS (some (fl, s)) R = R fl s := rfl
@[simp ↓] theorem wpS_st {kk : α → Sto → Option (Fl × Sto)} : wpS (o.st ρ kk) R = wp o (fun a s => wpS (kk a s) R) (fun x s => R (.exc x ρ) s) := by cases o <;> rfl
@[simp ↓] theorem wpS_seq {a b : FS} : wpS (sSeq a b ρ S) R = wpS (a ρ S) (sq b R) := by
  unfold sSeq
  cases e : a ρ S with
  | none => rfl
  | some p =>
    obtain ⟨fl, s⟩ := p
    cases fl <;> rfl
theorem wpS_seq0 {a b : FS} : wpS (match a ρ S with | some (.next ρ', S') => b ρ' S' | o => o) R = wpS (a ρ S) (sq b R) := wpS_seq (a := a) (b := b)
@[simp] theorem sq_next {b : FS} : sq b R (.next ρ) s = wpS (b ρ s) R := rfl
@[simp] theorem sq_ret {b : FS} {d : D} : sq b R (.ret d) s = R (.ret d) s := rfl
@[simp] theorem sq_brk {b : FS} : sq b R (.brk ρ) s = R (.brk ρ) s := rfl
@[simp] theorem sq_cont {b : FS} : sq b R (.cont ρ) s = R (.cont ρ) s := rfl
@[simp] theorem sq_exc {b : FS} {x : Exn} : sq b R (.exc x ρ) s = R (.exc x ρ) s := rfl
@[simp] theorem rn_ret {Q : D → Sto → Prop} {d : D} : rn Q X (.ret d) s = Q d s := rfl
@[simp] theorem rn_next {Q : D → Sto → Prop} : rn Q X (.next ρ) s = Q (.p .none) s := rfl
@[simp] theorem rn_exc {Q : D → Sto → Prop} {x : Exn} : rn Q X (.exc x ρ) s = X x s := rfl
@[simp] theorem wpG_some {Q : Ev → Sto → Prop} : wpG (some (ρ, s)) Q = Q ρ s := rfl
@[simp] theorem wpG_none {Q : Ev → Sto → Prop} : wpG none Q = False := rfl
@[simp ↓] theorem wp_ite {c : Prop} [Decidable c] {x y : Out α} : wp (if c then x else y) Q X = if c then wp x Q X else wp y Q X := by split <;> rfl
@[simp ↓] theorem wpS_ite {c : Prop} [Decidable c] {x y : Option (Fl × Sto)} : wpS (if c then x else y) R = if c then wpS x R else wpS y R := by split <;> rfl
theorem wp_run {m : Nat} {b : FS} {ds : List D} {Q : D → Sto → Prop} : wp (runF m b ds S) Q X = wpS (b (ds.map some ++ List.replicate (m - ds.length) none) S) (rn Q X) := by
  unfold runF
  cases e : b (ds.map some ++ List.replicate (m - ds.length) none) S with
  | none => rfl
  | some p =>
    obtain ⟨fl, s⟩ := p
    cases fl <;> rfl
theorem wp_mono {Q2 : α → Sto → Prop} {X2 : Exn → Sto → Prop} (h : wp o Q X) (f : ∀ a s, Q a s → Q2 a s) (fx : ∀ x s, X x s → X2 x s) : wp o Q2 X2 := by
  cases o with
  | ok a s => exact f a s h
  | err x s => exact fx x s h
  | bad => exact h
theorem wp_eq {s' : Sto} (h : wp o (fun b t => b = a ∧ t = s') noX) : o = .ok a s' := by
  cases o with
  | ok b t => obtain ⟨rfl, rfl⟩ := h; rfl
  | err x t => exact h.elim
  | bad => exact h.elim
theorem wp_ex (h : wp o Q noX) : ∃ a s, o = .ok a s ∧ Q a s := by
  cases o with
  | ok b t => exact ⟨b, t, rfl, h⟩
  | err x t => exact h.elim
  | bad => exact h.elim
theorem wp_of (e : o = .ok a s) (h : Q a s) : wp o Q X := by rw [e]; exact h
/-- a def's end: plain data goes out, the later objects are forgotten -/
theorem wp_cut {n : Nat} {o : Out D} {Q : D → Sto → Prop} (h : wp o (fun d s => ∃ x, d = .p x ∧ Q (.p x) (s.take n)) X) : wp (cutD n o) Q X := by
  cases o with
  | ok d s =>
    obtain ⟨x, rfl, q⟩ := h
    exact q
  | err x s => exact h
  | bad => exact h
/-- a def's end where the store keeps its length -/
theorem wp_cutS {n : Nat} {o : Out D} {Q : D → Sto → Prop} (h : wp o (fun d s => s.length = n ∧ Q d s) X) : wp (cutD n o) Q X := by
  cases o with
  | ok d s =>
    obtain ⟨rfl, q⟩ := h
    cases d with
    | ob i =>
      show wp (if i < s.length then Out.ok (D.ob i) (s.take s.length) else .ok (.ob i) s) Q X
      rw [List.take_of_length_le (Nat.le_refl _)]
      split <;> exact q
    | p x => show Q _ (s.take s.length); rw [List.take_of_length_le (Nat.le_refl _)]; exact q
    | ro x => show Q _ (s.take s.length); rw [List.take_of_length_le (Nat.le_refl _)]; exact q
    | ext x => show Q _ (s.take s.length); rw [List.take_of_length_le (Nat.le_refl _)]; exact q
  | err x s => exact h
  | bad => exact h
/-- a loop by its turns -/
theorem forD_wp {g : FG} {b : FS} (Inv : Nat → Ev → Sto → Prop) : ∀ {ds : List D} {j : Nat} {ρ : Ev} {S : Sto}, Inv j ρ S →
    (∀ i d ρ S, ds[i]? = some d → Inv (j + i) ρ S → wpG (g d ρ S) fun ρ1 S1 => wpS (b ρ1 S1) fun fl s => match fl with
      | .next ρ2 => Inv (j + i + 1) ρ2 s
      | .cont ρ2 => Inv (j + i + 1) ρ2 s
      | .brk ρ2 => R (.next ρ2) s
      | fl => R fl s) →
    (∀ ρ S, Inv (j + ds.length) ρ S → R (.next ρ) S) → wpS (forD g b ds ρ S) R
  | [], j, ρ, S, h, _, e => e ρ S h
  | d :: r, j, ρ, S, h, st, e => by
    have q := st 0 d ρ S rfl h
    unfold forD
    cases eg : g d ρ S with
    | none => rw [eg] at q; exact q
    | some p =>
      obtain ⟨ρ1, S1⟩ := p
      rw [eg] at q
      have q : wpS (b ρ1 S1) _ := q
      show wpS (match b ρ1 S1 with | some (.next ρ2, S2) => forD g b r ρ2 S2 | some (.cont ρ2, S2) => forD g b r ρ2 S2 | some (.brk ρ2, S2) => some (.next ρ2, S2) | o => o) R
      have more : ∀ ρ2 S2, Inv (j + 1) ρ2 S2 → wpS (forD g b r ρ2 S2) R := fun ρ2 S2 hi => forD_wp Inv (ds := r) (j := j + 1) hi (fun i x ρ S hx hi => by
        have q := st (i + 1) x ρ S (by simpa using hx) (by rw [show j + (i + 1) = j + 1 + i by omega]; exact hi)
        rw [show j + (i + 1) + 1 = j + 1 + i + 1 by omega] at q
        exact q) fun ρ S hi => e ρ S (by rw [List.length_cons, show j + (r.length + 1) = j + 1 + r.length by omega]; exact hi)
      cases eb : b ρ1 S1 with
      | none => rw [eb] at q; exact q
      | some p =>
        obtain ⟨fl, S2⟩ := p
        rw [eb] at q
        cases fl with
        | next ρ2 => exact more ρ2 S2 q
        | cont ρ2 => exact more ρ2 S2 q
        | brk ρ2 => exact q
        | ret d => exact q
        | exc x ρ2 => exact q
@[simp] theorem forD_nil {g : FG} {b : FS} : forD g b [] ρ S = some (.next ρ, S) := rfl
def fq (g : FG) (b : FS) (r : List D) (R : Fl → Sto → Prop) : Fl → Sto → Prop := fun fl s => match fl with
  | .next ρ2 => wpS (forD g b r ρ2 s) R
  | .cont ρ2 => wpS (forD g b r ρ2 s) R
  | .brk ρ2 => R (.next ρ2) s
  | .ret d => R (.ret d) s
  | .exc x ρ2 => R (.exc x ρ2) s
section
variable {g : FG} {b : FS} {r : List D}
@[simp] theorem fq_next : fq g b r R (.next ρ) s = wpS (forD g b r ρ s) R := rfl
@[simp] theorem fq_cont : fq g b r R (.cont ρ) s = wpS (forD g b r ρ s) R := rfl
@[simp] theorem fq_brk : fq g b r R (.brk ρ) s = R (.next ρ) s := rfl
@[simp] theorem fq_ret {d : D} : fq g b r R (.ret d) s = R (.ret d) s := rfl
@[simp] theorem fq_exc {x : Exn} : fq g b r R (.exc x ρ) s = R (.exc x ρ) s := rfl
end
@[simp] theorem wpS_forD {g : FG} {b : FS} {d : D} {r : List D} : wpS (forD g b (d :: r) ρ S) R = wpG (g d ρ S) fun ρ1 S1 => wpS (b ρ1 S1) (fq g b r R) := by
  conv => lhs; unfold forD
  cases eg : g d ρ S with
  | none => rfl
  | some p =>
    obtain ⟨ρ1, S1⟩ := p
    show wpS (match b ρ1 S1 with | some (.next ρ2, S2) => forD g b r ρ2 S2 | some (.cont ρ2, S2) => forD g b r ρ2 S2 | some (.brk ρ2, S2) => some (.next ρ2, S2) | o => o) R = wpS (b ρ1 S1) _
    cases eb : b ρ1 S1 with
    | none => rfl
    | some p =>
      obtain ⟨fl, S2⟩ := p
      cases fl <;> rfl
/-- a comprehension by its items -/
theorem lcD_wp {g : FG} {t : FT} {e : FE} (Inv : Nat → List PyData → Sto → Prop) {Q : List PyData → Sto → Prop} : ∀ {ds : List D} {j : Nat} {ys : List PyData} {S : Sto}, Inv j ys S →
    (∀ i d ys S, ds[i]? = some d → Inv (j + i) ys S → wpG (g d ρ S) fun ρ1 S1 => wp (t ρ1 S1) (fun c S2 => if c = true then wp (e ρ1 S2) (fun y S3 => ∃ z, y = .p z ∧ Inv (j + i + 1) (ys ++ [z]) S3) X else Inv (j + i + 1) ys S2) X) →
    (∀ zs S, Inv (j + ds.length) (ys ++ zs) S → Q zs S) → wp (lcD g t e ρ ds S) Q X
  | [], j, ys, S, h, _, f => f [] S (by simpa using h)
  | d :: r, j, ys, S, h, st, f => by
    have q := st 0 d ys S rfl h
    unfold lcD
    cases eg : g d ρ S with
    | none => rw [eg] at q; exact q
    | some p =>
      obtain ⟨ρ1, S1⟩ := p
      rw [eg] at q
      have q : wp (t ρ1 S1) _ X := q
      show wp ((t ρ1 S1).bind _) Q X
      cases et : t ρ1 S1 with
      | bad => rw [et] at q; exact q
      | err x s => rw [et] at q; exact q
      | ok c S2 =>
        rw [et] at q
        have more : ∀ (us : List PyData) S3, Inv (j + 1) (ys ++ us) S3 → wp (lcD g t e ρ r S3) (fun zs S4 => Q (us ++ zs) S4) X := fun us S3 hi => lcD_wp Inv (ds := r) (j := j + 1) (ys := ys ++ us) hi (fun i x ys S hx hi => by
          have q := st (i + 1) x ys S (by simpa using hx) (by rw [show j + (i + 1) = j + 1 + i by omega]; exact hi)
          rw [show j + (i + 1) + 1 = j + 1 + i + 1 by omega] at q
          exact q) fun zs S4 hi => f (us ++ zs) S4 (by rw [List.length_cons, show j + (r.length + 1) = j + 1 + r.length by omega, ← List.append_assoc]; exact hi)
        cases c with
        | false => exact by simpa using more [] S2 (by simpa using q)
        | true =>
          have q : wp (e ρ1 S2) (fun y S3 => ∃ z, y = .p z ∧ Inv (j + 1) (ys ++ [z]) S3) X := q
          cases ee : e ρ1 S2 with
          | bad => rw [ee] at q; exact q.elim
          | err x s => rw [ee] at q; simp [ee]; exact q
          | ok y S3 =>
            rw [ee] at q
            obtain ⟨z, rfl, hi⟩ := q
            have m := more [z] S3 hi
            simp only [Out.bind_ok, if_true, ee]
            show wp ((lcD g t e ρ r S3).bind fun zs S4 => Out.ok (z :: zs) S4) Q X
            simpa using m
end
@[simp] theorem tupleM_l {xs : List PyData} {S : Sto} : tupleM [.p (.list xs)] S = .ok (.p (.tuple xs)) S := rfl
@[simp] theorem tupleM_t {xs : List PyData} {S : Sto} : tupleM [.p (.tuple xs)] S = .ok (.p (.tuple xs)) S := rfl
/-- a comprehension each of whose items draws at most so often -/
theorem lcT_wp {cs : List PyData} {i l : Nat} {n c : Int} {g : FG} {e : FE} {ρ : Ev} {ds : List D} {S : Sto} {Q : List PyData → Sto → Prop} {X : Exn → Sto → Prop} (L : Nat) (P : PyData → Prop) (hc : 0 ≤ c) (hl : ds.length ≤ L) (h : Tape cs i l n S)
    (st : ∀ d ∈ ds, ∀ n' S, n ≤ n' → n' + c ≤ n + L * c → Tape cs i l n' S → wpG (g d ρ S) fun ρ1 S1 => wp (e ρ1 S1) (fun y S2 => ∃ z, y = .p z ∧ P z ∧ Tape cs i l (n' + c) S2) X)
    (f : ∀ zs S', zs.length = ds.length → (∀ z ∈ zs, P z) → Tape cs i l (n + L * c) S' → Q zs S') : wp (lcD g tYesD e ρ ds S) Q X := by
  refine lcD_wp (fun j ys S => ys.length = j ∧ (∀ y ∈ ys, P y) ∧ Tape cs i l (n + j * c) S) (j := 0) (ys := []) ⟨rfl, (fun y hy => nomatch hy), by simpa using h⟩ ?_ ?_
  · rintro j d ys S he ⟨h1, h2, h3⟩
    have hj : j < ds.length := (List.getElem?_eq_some_iff.mp he).1
    rw [Nat.zero_add] at h1 h3 ⊢
    have hs : ((j + 1 : Nat) : Int) * c = j * c + c := by rw [show ((j + 1 : Nat) : Int) = (j : Int) + 1 by omega, Int.add_mul, Int.one_mul]
    have hb : ((j + 1 : Nat) : Int) * c ≤ L * c := Int.mul_le_mul_of_nonneg_right (by omega) hc
    have hz : 0 ≤ (j : Int) * c := Int.mul_nonneg (by omega) hc
    have q := st d (List.mem_of_getElem? he) (n + j * c) S (by omega) (by omega) h3
    cases eg : g d ρ S with
    | none => rw [eg] at q; exact q
    | some p =>
      obtain ⟨ρ1, S1⟩ := p
      rw [eg] at q
      have q : wp (e ρ1 S1) _ X := q
      simp only [wpG_some, tYes_, wp_ok, if_true]
      refine wp_mono q (fun y s ⟨z, e1, e2, e3⟩ => ⟨z, e1, by simp [h1], fun y hy => ?_, by rw [hs, ← Int.add_assoc]; exact e3⟩) fun _ _ h => h
      rcases List.mem_append.mp hy with hy | hy
      · exact h2 y hy
      · simp at hy; rw [hy]; exact e2
  · rintro zs S' ⟨h1, h2, h3⟩
    have hb : ((0 + ds.length : Nat) : Int) * c ≤ L * c := Int.mul_le_mul_of_nonneg_right (by omega) hc
    exact f zs S' (by simpa using h1) (by simpa using h2) (h3.mono (by omega))
/-- a comprehension whose items leave the store as it is -/
theorem lcP_wp {g : FG} {e : FE} {ρ : Ev} {ds : List D} {S : Sto} {Q : List PyData → Sto → Prop} {X : Exn → Sto → Prop} (P : PyData → Prop)
    (st : ∀ d ∈ ds, wpG (g d ρ S) fun ρ1 S1 => wp (e ρ1 S1) (fun y S2 => ∃ z, y = .p z ∧ P z ∧ S2 = S) X)
    (f : ∀ zs, zs.length = ds.length → (∀ z ∈ zs, P z) → Q zs S) : wp (lcD g tYesD e ρ ds S) Q X := by
  refine lcD_wp (fun j ys S' => ys.length = j ∧ (∀ y ∈ ys, P y) ∧ S' = S) (j := 0) (ys := []) ⟨rfl, (fun y hy => nomatch hy), rfl⟩ ?_ ?_
  · rintro j d ys S' he ⟨h1, h2, rfl⟩
    have q := st d (List.mem_of_getElem? he)
    cases eg : g d ρ S' with
    | none => rw [eg] at q; exact q
    | some p =>
      obtain ⟨ρ1, S1⟩ := p
      rw [eg] at q
      have q : wp (e ρ1 S1) _ X := q
      simp only [wpG_some, tYes_, wp_ok, if_true]
      refine wp_mono q (fun y s ⟨z, e1, e2, e3⟩ => ⟨z, e1, by simp [h1], fun y hy => ?_, e3⟩) fun _ _ h => h
      rcases List.mem_append.mp hy with hy | hy
      · exact h2 y hy
      · simp at hy; rw [hy]; exact e2
  · rintro zs S' ⟨h1, h2, rfl⟩
    exact f zs (by simpa using h1) (by simpa using h2)
/-- a loop each of whose turns draws at most so often -/
theorem forT_wp {cs : List PyData} {i l : Nat} {n c : Int} {g : FG} {b : FS} {ρ : Ev} {ds : List D} {S : Sto} {R : Fl → Sto → Prop} (L : Nat) (P : Nat → Ev → Prop) (hc : 0 ≤ c) (hl : ds.length ≤ L) (h0 : P 0 ρ) (h : Tape cs i l n S)
    (st : ∀ j d ρ n' S, ds[j]? = some d → P j ρ → n ≤ n' → n' + c ≤ n + L * c → Tape cs i l n' S → wpG (g d ρ S) fun ρ1 S1 => wpS (b ρ1 S1) fun fl s => match fl with
      | .next ρ2 => P (j + 1) ρ2 ∧ Tape cs i l (n' + c) s
      | .cont ρ2 => P (j + 1) ρ2 ∧ Tape cs i l (n' + c) s
      | .brk ρ2 => R (.next ρ2) s
      | fl => R fl s)
    (f : ∀ ρ S, P ds.length ρ → Tape cs i l (n + L * c) S → R (.next ρ) S) : wpS (forD g b ds ρ S) R := by
  refine forD_wp (fun j ρ S => P j ρ ∧ Tape cs i l (n + j * c) S) (j := 0) ⟨h0, by simpa using h⟩ ?_ ?_
  · rintro j d ρ S he ⟨h1, h3⟩
    have hj : j < ds.length := (List.getElem?_eq_some_iff.mp he).1
    rw [Nat.zero_add] at h1 h3 ⊢
    have hs : ((j + 1 : Nat) : Int) * c = j * c + c := by rw [show ((j + 1 : Nat) : Int) = (j : Int) + 1 by omega, Int.add_mul, Int.one_mul]
    have hb : ((j + 1 : Nat) : Int) * c ≤ L * c := Int.mul_le_mul_of_nonneg_right (by omega) hc
    have hz : 0 ≤ (j : Int) * c := Int.mul_nonneg (by omega) hc
    rw [hs, ← Int.add_assoc]
    exact st j d ρ (n + j * c) S he h1 (by omega) (by omega) h3
  · rintro ρ S ⟨h1, h3⟩
    have hb : ((0 + ds.length : Nat) : Int) * c ≤ L * c := Int.mul_le_mul_of_nonneg_right (by omega) hc
    exact f ρ S (by simpa using h1) (h3.mono (by omega))
/-- the tape's draws and picks, forward -/
theorem draw2_wp {c : DrC} (hc0 : c.ok) {cs : List PyData} {i L : Nat} {n m : Int} {S : Sto} {Q : D → Sto → Prop} {X : Exn → Sto → Prop} (hc : Cells cs) (h : Tape cs i L n S) (hn : n ≤ 1000000000000) (hm : 0 < m) (hm2 : m.natAbs.log2 < 9000)
    (q : ∀ g S', 0 ≤ g → g < m → Tape cs i L (n + 1) S' → Q (.p (.int g)) S') : wp (cutD S.length (runF 6 (drawB2 c) [.ob i, .p (.int m)] S)) Q X := by
  obtain ⟨g, S', e, a, b, c⟩ := draw2_ok hc0 hc h hn hm hm2
  rw [e, cut_same (c.1.trans h.1.symm)]
  exact q g S' a b c
theorem pick2_wp {c : DrC} (hc0 : c.ok) {cs : List PyData} {i L : Nat} {n : Int} {S : Sto} {xs : List PyData} {Q : D → Sto → Prop} {X : Exn → Sto → Prop} (hc : Cells cs) (h : Tape cs i L n S) (hn : n ≤ 1000000000000) (hx : xs ≠ []) (hx2 : xs.length < 1000000)
    (q : ∀ d S', d ∈ xs → Tape cs i L (n + 1) S' → Q (.p d) S') : wp (cutD S.length (runF 2 (pickB (runF 6 (drawB2 c))) [.ob i, .p (.list xs)] S)) Q X := by
  obtain ⟨d, S', e, a, c⟩ := pick2_ok hc0 hc h hn hx hx2
  rw [e, cut_same (c.1.trans h.1.symm)]
  exact q d S' a c
end DL

namespace DL
open PySem L2 PySem.Spec PyProof.Rows

def eBad : FE := fun _ _ => .bad
def sBad : FS := fun _ _ => none
theorem de_bad {X : Cx} {W : WX} {e : Expr} : DE X W e eBad := ⟨⟨fun _ _ _ _ _ _ ⟨_, _, _, _, _, q⟩ => q.elim⟩⟩
theorem ds_bad {X : Cx} {W : WX} {st : Stmt} : DS X W st sBad := ⟨⟨fun _ _ _ _ _ _ ⟨_, _, _, _, _, q⟩ => q.elim⟩⟩

def eqKv (ka kb : List (Key × PyData)) : Bool := ka.length == kb.length && ka.all fun p => match valD kb p.1 with
  | some y => PyData.eqv p.2 y
  | none => false
def shKv (ka : List (Key × PyData)) : Bool := ka.all fun p => SeqAt.shaped p.2
def opEqZ (neg : Bool) : D → D → M D := fun x y S => match dicOf S x, dicOf S y with
  | some ka, some kb => if shKv ka && shKv kb then .ok (.p (.bool (if neg then !eqKv ka kb else eqKv ka kb))) S else .bad
  | _, _ => opEqX neg x y S
def DpKv (K : PySem.W.Frag) (H : Hp) (ka : List (Key × PyData)) (wa : List (Key × V)) : Prop := ka.map (·.1) = wa.map (·.1) ∧ DpAll K H (wa.map (·.2)) (ka.map (·.2)) ∧ shKv ka = true
def rEqKv (K : PySem.W.Frag) (neg : Bool) : R2 := fun x y H Q => ∃ a b ka kb wa wb, x = .ref a ∧ y = .ref b ∧ Rd H a (.dK wa) ∧ Rd H b (.dK wb) ∧ DpKv K H ka wa ∧ DpKv K H kb wb ∧ Q (.bl (if neg then !eqKv ka kb else eqKv ka kb)) H
theorem DpKv.inv {K : PySem.W.Frag} {H : Hp} {p : Key × PyData} {ka : List (Key × PyData)} {l : List (Key × V)} (r : DpKv K H (p :: ka) l) : ∃ v wa, l = (p.1, v) :: wa ∧ Dp K H v p.2 ∧ SeqAt.shaped p.2 = true ∧ DpKv K H ka wa := by
  obtain ⟨e, t, s⟩ := r
  cases l with
  | nil => simp at e
  | cons q wa =>
    simp only [List.map_cons, List.cons.injEq] at e
    simp only [shKv, List.all_cons, Bool.and_eq_true] at s
    cases t with
    | cons h t => exact ⟨q.2, wa, by rw [e.1], h, s.1, e.2, t, s.2⟩
theorem DpKv.val {K : PySem.W.Frag} {H : Hp} {k : Key} : ∀ {ka : List (Key × PyData)} {wa : List (Key × V)}, DpKv K H ka wa → (∀ d, valD ka k = some d → ∃ v, valV wa k = some v ∧ Dp K H v d ∧ SeqAt.shaped d = true) ∧ (valD ka k = none → valV wa k = none)
  | [], wa, r => by
    have : wa = [] := by have := r.1; simpa using this
    subst this
    exact ⟨fun d e => (by cases e), fun _ => rfl⟩
  | p :: ka, _, r => by
    obtain ⟨v, ws, rfl, h, sh, t⟩ := r.inv
    have ih := DpKv.val (k := k) t
    by_cases e : p.1 = k
    · have e1 : valD (p :: ka) k = some p.2 := by simp [valD, List.find?_cons, e]
      have e2 : valV ((p.1, v) :: ws) k = some v := by simp [valV, List.find?_cons, e]
      rw [e1, e2]
      exact ⟨fun d q => by cases q; exact ⟨v, rfl, h, sh⟩, fun q => by cases q⟩
    · have e1 : valD (p :: ka) k = valD ka k := by simp [valD, List.find?_cons, e]
      have e2 : valV ((p.1, v) :: ws) k = valV ws k := by simp [valV, List.find?_cons, e]
      rw [e1, e2]
      exact ih
section
variable {X : Cx}
theorem hits_kv {pins : List (Addr × Obj)} {σ : L2.St} {H : Hp} {s : Shared} {A : Around} (I : L2.Inv X pins σ H s) (hu : A.in1.units + 64 < cLine) {kb : List (Key × PyData)} {wb : List (Key × V)} {vb : List (Key × Value)} (rb : KV wb vb) (db : DpKv X.K H kb wb) :
    ∀ {ka : List (Key × PyData)} {wa : List (Key × V)} {va : List (Key × Value)}, KV wa va → DpKv X.K H ka wa → PySem.W.KeqHits A.in1 s vb va (ka.all fun p => match valD kb p.1 with | some y => PyData.eqv p.2 y | none => false)
  | [], wa, va, ra, da => by
    have : wa = [] := by have := da.1; simpa using this
    subst this
    cases ra
    exact .nil
  | p :: ka, _, va, ra, da => by
    obtain ⟨v, wa, rfl, h, sh, t⟩ := da.inv
    cases ra with
    | @cons _ q _ qs h1 t1 =>
      obtain ⟨k, u⟩ := q
      obtain ⟨hk, hr⟩ := h1
      have hk : p.1 = k := hk
      subst hk
      have ih := hits_kv I hu rb db t1 t
      rw [List.all_cons]
      cases e : valD kb p.1 with
      | none =>
        have z : L2.RelO (valV wb p.1) (valueAt vb p.1) := rb.val p.1
        rw [(db.val (k := p.1)).2 e] at z
        have z' : valueAt vb p.1 = none := by cases hz : valueAt vb p.1 with | none => rfl | some y => rw [hz] at z; exact z.elim
        exact .miss z'
      | some d =>
        obtain ⟨y, ey, dy, sy⟩ := (db.val (k := p.1)).1 d e
        have z : L2.RelO (valV wb p.1) (valueAt vb p.1) := rb.val p.1
        rw [ey] at z
        obtain ⟨yv, hy, ry⟩ := z.some_of
        obtain ⟨as, r1⟩ := Dp.reads I p.2 v u h hr
        obtain ⟨bs, r2⟩ := Dp.reads I d y yv dy ry
        exact .hit hy (PySem.W.keq_at r1 r2 sh sy hu) ih
theorem op_eqKv (hu : X.A.units + 65 < cLine) : OpR X (compareOp .Eq) (rEqKv X.K false) := by
  intro pins s σ H x y v u Q I rx ry h
  obtain ⟨a, b, ka, kb, wa, wb, rfl, rfl, ea, eb, da, db, q⟩ := h
  obtain rfl : v = Value.ref a := rx
  obtain rfl : u = Value.ref b := ry
  obtain ⟨_, ya, va, ra, dda⟩ := (show ObjOk X.prog X.w H s.heap a (.dK wa) from ea.ok I.hok)
  obtain ⟨_, yb, vb, rb, ddb⟩ := (show ObjOk X.prog X.w H s.heap b (.dK wb) from eb.ok I.hok)
  have l1 : ka.length = va.length := by rw [← ra.length]; have := congrArg List.length da.1; simpa using this
  have l2 : kb.length = vb.length := by rw [← rb.length]; have := congrArg List.length db.1; simpa using this
  refine PySem.W.keq_eq (knd := mixKind X.prog X.w) ya yb dda ddb (by omega) (fun _ => hits_kv I (by show X.A.units + 1 + 64 < cLine; omega) rb db ra da) ⟨.bl _, H, I, rfl, ?_⟩
  rw [← l1, ← l2]
  exact q
theorem op_neKv (hu : X.A.units + 65 < cLine) : OpR X (compareOp .NotEq) (rEqKv X.K true) := by
  intro pins s σ H x y v u Q I rx ry h
  obtain ⟨a, b, ka, kb, wa, wb, rfl, rfl, ea, eb, da, db, q⟩ := h
  obtain rfl : v = Value.ref a := rx
  obtain rfl : u = Value.ref b := ry
  obtain ⟨_, ya, va, ra, dda⟩ := (show ObjOk X.prog X.w H s.heap a (.dK wa) from ea.ok I.hok)
  obtain ⟨_, yb, vb, rb, ddb⟩ := (show ObjOk X.prog X.w H s.heap b (.dK wb) from eb.ok I.hok)
  have l1 : ka.length = va.length := by rw [← ra.length]; have := congrArg List.length da.1; simpa using this
  have l2 : kb.length = vb.length := by rw [← rb.length]; have := congrArg List.length db.1; simpa using this
  refine PySem.W.keq_ne (knd := mixKind X.prog X.w) ya yb dda ddb (by omega) (fun _ => hits_kv I (by show X.A.units + 1 + 64 < cLine; omega) rb db ra da) ⟨.bl _, H, I, rfl, ?_⟩
  rw [← l1, ← l2]
  exact q
end
theorem shKv_lay : ∀ {ka : List (Key × PyData)}, shKv ka = true → PyData.canLayAll0 (ka.map (·.2)) = true
  | [], _ => rfl
  | p :: ka, h => by
    simp only [shKv, List.all_cons, Bool.and_eq_true] at h
    show (PyData.canLay0 p.2 && PyData.canLayAll0 (ka.map (·.2))) = true
    rw [SeqAt.canLay_of_shaped h.1, shKv_lay (ka := ka) h.2]
    rfl
theorem dpKv_of {K : PySem.W.Frag} {H : Hp} {G : Gh} {S : Sto} (rp : Rep K H G S) {ka : List (Key × PyData)} {wa : List (Key × V)} (r : KvR K G.φ H ka wa) (sh : shKv ka = true) : DpKv K H ka wa :=
  ⟨r.ks, DnAll.dp (fun _ => True) rp.phi (shKv_lay sh) r.vs, sh⟩
def rEqZ (K : PySem.W.Frag) : R2 := fun x y H Q => rEqX K x y H Q ∨ rEqKv K false x y H Q
def rNeZ (K : PySem.W.Frag) : R2 := fun x y H Q => rNeX K x y H Q ∨ rEqKv K true x y H Q
theorem sim_eqZ {K : PySem.W.Frag} : Sim2 K (rEqZ K) (opEqZ false) := by
  intro W σ H G S x y v w Q rp dx dy q
  unfold opEqZ at q
  split at q
  · rename_i ka kb e1 e2
    by_cases c : (shKv ka && shKv kb) = true
    · rw [if_pos c] at q
      rw [Bool.and_eq_true] at c
      obtain ⟨a, wa, rfl, ha, ra⟩ := dicOf_den rp e1 dx
      obtain ⟨b, wb, rfl, hb, rb⟩ := dicOf_den rp e2 dy
      exact .inr ⟨a, b, ka, kb, wa, wb, rfl, rfl, ha, hb, dpKv_of rp ra c.1, dpKv_of rp rb c.2, q.ret rp (.bl _)⟩
    · rw [if_neg c] at q; exact q.elim
  · exact .inl (sim_eqX W σ H G S x y v w Q rp dx dy q)
theorem sim_neZ {K : PySem.W.Frag} : Sim2 K (rNeZ K) (opEqZ true) := by
  intro W σ H G S x y v w Q rp dx dy q
  unfold opEqZ at q
  split at q
  · rename_i ka kb e1 e2
    by_cases c : (shKv ka && shKv kb) = true
    · rw [if_pos c] at q
      rw [Bool.and_eq_true] at c
      obtain ⟨a, wa, rfl, ha, ra⟩ := dicOf_den rp e1 dx
      obtain ⟨b, wb, rfl, hb, rb⟩ := dicOf_den rp e2 dy
      exact .inr ⟨a, b, ka, kb, wa, wb, rfl, rfl, ha, hb, dpKv_of rp ra c.1, dpKv_of rp rb c.2, q.ret rp (.bl _)⟩
    · rw [if_neg c] at q; exact q.elim
  · exact .inl (sim_neX W σ H G S x y v w Q rp dx dy q)
section
variable {X : Cx} {W : WX} {a b : Expr} {f h : FE} {pos : Pos}
theorem op_eqZ (hu : X.A.units + 65 < cLine) : OpR X (compareOp .Eq) (rEqZ X.K) := by
  intro pins s σ H x y v u Q I rx ry h
  rcases h with h | h
  · exact op_eqX (by omega) pins s σ H x y v u Q I rx ry h
  · exact op_eqKv hu pins s σ H x y v u Q I rx ry h
theorem op_neZ (hu : X.A.units + 65 < cLine) : OpR X (compareOp .NotEq) (rNeZ X.K) := by
  intro pins s σ H x y v u Q I rx ry h
  rcases h with h | h
  · exact op_neX (by omega) pins s σ H x y v u Q I rx ry h
  · exact op_neKv hu pins s σ H x y v u Q I rx ry h
theorem de_eqZ (hu : X.A.units + 65 < cLine) (ha : DE X W a f) (hb : DE X W b h) : DE X W (.Compare a [.Eq] [b] pos) (e2 (opEqZ false) f h) := de_cmp (op_eqZ hu) sim_eqZ ha hb (nomark _)
theorem de_neZ (hu : X.A.units + 65 < cLine) (ha : DE X W a f) (hb : DE X W b h) : DE X W (.Compare a [.NotEq] [b] pos) (e2 (opEqZ true) f h) := de_cmp (op_neZ hu) sim_neZ ha hb (nomark _)
theorem dt_eqZ (hu : X.A.units + 65 < cLine) (ha : DE X W a f) (hb : DE X W b h) : DT X W (.Compare a [.Eq] [b] pos) (tC2 (opEqZ false) f h) := dt_cmp (op_eqZ hu) sim_eqZ ha hb (nomark _)
theorem dt_neZ (hu : X.A.units + 65 < cLine) (ha : DE X W a f) (hb : DE X W b h) : DT X W (.Compare a [.NotEq] [b] pos) (tC2 (opEqZ true) f h) := dt_cmp (op_neZ hu) sim_neZ ha hb (nomark _)
end
end DL

namespace DL
open PySem L2 PySem.Spec PyProof.Rows

structure FnX (P : Program) (w : World) (K : PySem.W.Frag) (mg : Str → Option Value) (base : Heap) (k : Nat) (f : Addr) (fd : FuncData) (ps : List Str) (sp : Sp) : Prop where
  len : ∀ vs H Q E, sp vs H Q E → vs.length = ps.length
  run : ∀ (A : Around) (outer : List Env) (s : Shared) (H : Hp) (args : Args) (us : List Value) (vs : List V) (Q : VK) (E : XK), Room k A → A.guards = some [] → Env0 P w K mg base A outer s H → BindsTo s fd args (ps.zip us) → Vals vs us → sp vs H Q E →
    codeAny (model P w) A (.call (.ref f) args) (CR (L2.CX P w) outer P w H s Q E) s
/-- .. called by position -/
structure FnP (P : Program) (w : World) (K : PySem.W.Frag) (mg : Str → Option Value) (base : Heap) (k : Nat) (f : Addr) (sp : Sp) : Prop where
  run : ∀ (A : Around) (outer : List Env) (s : Shared) (H : Hp) (us : List Value) (vs : List V) (Q : VK) (E : XK), Room k A → A.guards = some [] → Env0 P w K mg base A outer s H → Vals vs us → sp vs H Q E →
    codeAny (model P w) A (.call (.ref f) ⟨us, []⟩) (CR (L2.CX P w) outer P w H s Q E) s
theorem FnX.toP {P : Program} {w : World} {K : PySem.W.Frag} {mg : Str → Option Value} {base : Heap} {k : Nat} {f : Addr} {fd : FuncData} {ps : List Str} {sp : Sp} (F : FnX P w K mg base k f fd ps sp) (hb : Binds K fd ps []) : FnP P w K mg base k f sp := by
  refine ⟨fun A outer s H us vs Q E hr hgd e0 r h => ?_⟩
  have hl : us.length = ps.length := by rw [← r.length]; exact F.len _ _ _ _ h
  have KX : K.In s.heap := e0.mod.kin.keeps fun b o e => (e0.bs b o e).1
  have hbs := hb s us KX (by simpa using hl)
  rw [List.append_nil] at hbs
  exact F.run A outer s H ⟨us, []⟩ us vs Q E hr hgd e0 hbs r h
theorem fnX_of {P : Program} {w : World} {K : PySem.W.Frag} {mg : Str → Option Value} {base : Heap} {x qual : Str} {st : Stmt} {f : Addr} {fd : FuncData} {N ps : List Str} {k : Nat} {sp : Sp} (F : Fun K x qual st f fd) (Sc : FnScope N ps (defScope st)) (len : ∀ vs H Q E, sp vs H Q E → vs.length = ps.length)
    (hbody : ∀ (cdv : Value) (A : Around) (outer : List Env) (s : Shared) (H : Hp) (vs : List V) (Q : VK) (E : XK), Room k (A.deeper (envOfC qual (defScope st) s.heap.objs.size f cdv)) → A.guards = some [] → sp vs H Q E →
      ∃ t, PSs (cxOf (L2.CX P w) P w K mg base N qual (defScope st) f cdv A outer s H E) (defBody st) t ∧ t { nx := fun _ H' => Q .non H', rt := Q } (start N vs) H) : FnX P w K mg base (k + 1) f fd ps sp := by
  obtain ⟨oc, od, kV, doc, pm, an, cdv, ct, osl, rfl, lk, hcd⟩ := F.ex
  refine ⟨len, fun A outer s H args us vs Q E hr hgd e0 hb r hsp => ?_⟩
  have hl := len _ _ _ _ hsp
  have keepB : ∀ b o, base.get? b = some o → s.heap.get? b = some o := fun b o e => (e0.bs b o e).1
  have KX : K.In s.heap := e0.mod.kin.keeps keepB
  have lim : s.heap.NoLimit := e0.mod.nolimit.keeps keepB
  obtain ⟨t, ht, hq⟩ := hbody cdv A outer s H vs Q E (hr.deeper _) hgd hsp
  refine codeAny_call_function hr.depth (KX _ _ lk) rfl Sc.co Sc.gen rfl (PySem.W.codeRec_of KX hcd) (hb _ _ _ _ ?_)
  refine wpAny_newFunctionEnv_cells Sc.kind (fun y hy => ?_) fun env he s1 xx => ?_
  · obtain ⟨n, v⟩ := y
    rcases Sc.par n (List.of_mem_zip hy).1 with q | q
    · exact .inl q
    · exact .inr ⟨q, PySem.W.cellsFrom_some _ _ _ (.inl q)⟩
  subst he
  refine ⟨lim.keeps xx.toInCall.keep, codeAny_func ?_⟩
  have I := inv_start (CX := L2.CX P w) (E := E) Sc hr.hd e0 hl r xx
  refine wpAny_mono (ht.run [] s1 (start N vs) H _ I hq) (fun fl s' hs => ?_) fun e s' hs => hs
  cases fl with
  | ret u =>
    obtain ⟨v, σ', H', J, rv, q⟩ := hs
    exact ⟨v, H', J.os, J.bare, J.base, J.hok, rv, q⟩
  | next =>
    obtain ⟨σ', H', J, q⟩ := hs
    exact ⟨.non, H', J.os, J.bare, J.base, J.hok, rfl, q⟩
  | brk =>
    obtain ⟨_, _, _, q⟩ := hs
    exact False.elim q
  | cont =>
    obtain ⟨_, _, _, q⟩ := hs
    exact False.elim q

/-- the later objects are forgotten when a def is left -/
def cutX (n : Nat) : Out D → Out D
  | .ok (.ob i) s => if i < n then .ok (.ob i) (s.take n) else .ok (.ob i) s
  | .ok d s => .ok d (s.take n)
  | .err x s => .err x (s.take n)
  | .bad => .bad
abbrev WE (E : XK) : WX := fun c d _ H => E c d H
def spX (K : PySem.W.Frag) (n : Nat) (g : List D → M D) : Sp := fun vs H Q E => ∃ G S ds, ds.length = n ∧ DenL K H G ds vs ∧ Rep K H G S ∧ Aft K (WE E) [] H G S (cutX S.length (g ds S)) (QD K Q)
def spV (K : PySem.W.Frag) (g : List D → M D) : Sp := fun vs H Q E => ∃ G S ds, DenL K H G ds vs ∧ Rep K H G S ∧ Aft K (WE E) [] H G S (cutX S.length (g ds S)) (QD K Q)
theorem exn_cut {K : PySem.W.Frag} {H : Hp} {G : Gh} {n : Nat} {x : Exn} {d : Option Addr} (h : ExnAt K H G x d) : ExnAt K H ⟨G.ι.take n, G.φ⟩ x d := h
theorem Aft.uncutX {K : PySem.W.Frag} {W : WX} {H : Hp} {G : Gh} {S S' : Sto} {d : D} {Q : VK} (rp : Rep K H G S) (q : Aft K W [] H G S (cutX S.length (.ok d S')) (QD K Q)) {H' : Hp} {G' : Gh} {v : V} (x : Ext H G S H' G' S') (r : Rep K H' G' S') (dv : Den K H' G' d v) : Q v H' := by
  have fin : (∀ i, d = .ob i → i < S.length) → Aft K W [] H G S (.ok d (S'.take S.length)) (QD K Q) → Q v H' := fun hi q => q H' _ (x.cut rp) (r.cut _) v (den_cut dv hi)
  cases d with
  | p y => exact fin (fun i e => nomatch e) q
  | ro y => exact fin (fun i e => nomatch e) q
  | ext y => exact fin (fun i e => nomatch e) q
  | ob i =>
    by_cases hi : i < S.length
    · have q : Aft K W [] H G S (if i < S.length then .ok (.ob i) (S'.take S.length) else .ok (.ob i) S') (QD K Q) := q
      rw [if_pos hi] at q
      exact fin (fun j e => by cases e; exact hi) q
    · have q : Aft K W [] H G S (if i < S.length then .ok (.ob i) (S'.take S.length) else .ok (.ob i) S') (QD K Q) := q
      rw [if_neg hi] at q
      exact q H' G' x r v dv
/-- what stands behind a body, from what is wanted of the def -/
theorem body_read {K : PySem.W.Frag} {H : Hp} {G : Gh} {S : Sto} {Q : VK} {E : XK} {m : Nat} {ds : List D} {body : FS} (rp : Rep K H G S) (q : Aft K (WE E) [] H G S (cutX S.length (runF m body ds S)) (QD K Q)) :
    AftS K (WE E) { nx := fun _ H' => Q .non H', rt := Q } H G S (body (ds.map some ++ List.replicate (m - ds.length) none) S) := by
  unfold runF at q
  cases eo : body (ds.map some ++ List.replicate (m - ds.length) none) S with
  | none => rw [eo] at q; exact q
  | some pr =>
    obtain ⟨fl, S'⟩ := pr
    rw [eo] at q
    cases fl with
    | ret d => exact fun H' G' v x r dv => Aft.uncutX rp q x r dv
    | next ρ' => exact fun H' G' σ' x r rs => Aft.uncutX (d := .p .none) rp q x r .non
    | brk ρ' => exact q.elim
    | cont ρ' => exact q.elim
    | exc y ρ' => exact fun H' G' σ' d x r rs e => q H' ⟨G'.ι.take S.length, G'.φ⟩ d (x.cut rp) (r.cut _) (exn_cut e)
/-- the things a body's derivation may use -/
structure Ctx (X : Cx) (W : WX) (k : Nat) : Prop where
  hr : Room k X.A
  hgd : X.A.guards = some []
  tk : Takes X W
theorem Ctx.blk {X : Cx} {W : WX} {k : Nat} (C : Ctx X W k) {s : Shared} {H : Hp} {sc : Scope} {env : Env} {fp : List Addr} : Ctx (X.blk s H sc env fp) W0 k := ⟨C.hr, C.hgd, takes0⟩
theorem Ctx.u1 {X : Cx} {W : WX} {k : Nat} (C : Ctx X W k) : X.A.units + 1 < cLine := hu_of C.hr
theorem Ctx.u64 {X : Cx} {W : WX} {k : Nat} (C : Ctx X W k) : X.A.units + 64 < cLine := C.hr.units
theorem Ctx.u65 {X : Cx} {W : WX} {k : Nat} (C : Ctx X W k) : X.A.units + 65 < cLine := hu65 C.hr
/-- a loop lets exceptions on -/
abbrev Po (X : Cx) : Prop := PassesOwn (model X.prog X.w) X.A X.env X.xe
theorem fnX_data {P : Program} {w : World} {K : PySem.W.Frag} {mg : Str → Option Value} {base : Heap} {x qual : Str} {st : Stmt} {f : Addr} {fd : FuncData} {N ps : List Str} {k m n : Nat} (F : Fun K x qual st f fd) (Sc : FnScope N ps (defScope st)) (hm : N.length = m) (hn : ps.length = n) (body : FS)
    (hb : ∀ (cdv : Value) (A : Around) (outer : List Env) (s : Shared) (H : Hp) (E : XK), Ctx (cxOf (L2.CX P w) P w K mg base N qual (defScope st) f cdv A outer s H E) (WE E) k → Po (cxOf (L2.CX P w) P w K mg base N qual (defScope st) f cdv A outer s H E) → DSs (cxOf (L2.CX P w) P w K mg base N qual (defScope st) f cdv A outer s H E) (WE E) (defBody st) body) :
    FnX P w K mg base (k + 1) f fd ps (spX K n (runF m body)) := by
  subst hm hn
  refine fnX_of F Sc (fun vs H Q E ⟨G, S, ds, hl, dl, _⟩ => by rw [← dl.length]; exact hl) fun cdv A outer s H vs Q E hr hgd ⟨G, S, ds, hl, dl, rp, q⟩ => ?_
  refine ⟨_, (hb cdv A outer s H E ⟨hr, hgd, takes_of rfl rfl rfl rfl⟩ (passes_of rfl)).run, G, S, ds.map some ++ List.replicate (N.length - ds.length) none, ?_, rp, body_read rp q⟩
  rw [dl.length]
  exact RelS.ofArgs (N.length - vs.length) dl
theorem fnX_none {P : Program} {w : World} {K : PySem.W.Frag} {mg : Str → Option Value} {base : Heap} {f : Addr} {fd : FuncData} {ps : List Str} {k n : Nat} : FnX P w K mg base k f fd ps (spX K n fun _ _ => .bad) :=
  ⟨fun vs H Q E ⟨_, _, _, _, _, _, q⟩ => q.elim, fun _ _ _ _ _ _ _ _ _ _ _ _ _ _ ⟨_, _, _, _, _, _, q⟩ => q.elim⟩
theorem fnP_none {P : Program} {w : World} {K : PySem.W.Frag} {mg : Str → Option Value} {base : Heap} {f : Addr} {k : Nat} : FnP P w K mg base k f (spV K fun _ _ => .bad) :=
  ⟨fun _ _ _ _ _ _ _ _ _ _ _ _ ⟨_, _, _, _, _, q⟩ => q.elim⟩

theorem Aft.from {α : Type} {K : PySem.W.Frag} {W : WX} {σ : L2.St} {H H1 : Hp} {G G1 : Gh} {S S1 : Sto} {o : Out α} {P : α → Hp → Gh → Sto → Prop} (q : Aft K W σ H G S o P) (x : Ext H G S H1 G1 S1) : Aft K W σ H1 G1 S1 o P := by
  cases o with
  | ok a S' => exact fun H' G' x' r => q H' G' (x.trans x') r
  | err y S' => exact fun H' G' d x' r e => q H' G' d (x.trans x') r e
  | bad => exact q
theorem denL_app {K : PySem.W.Frag} {H : Hp} {G : Gh} : ∀ {ds es : List D} {vs us : List V}, DenL K H G ds vs → DenL K H G es us → DenL K H G (ds ++ es) (vs ++ us)
  | _, _, _, _, .nil, s => s
  | _, _, _, _, .cons r t, s => .cons r (denL_app t s)

def runV (n m : Nat) (body : FS) : List D → M D := fun ds S => if n ≤ ds.length ∧ ds.length ≤ LIM then (match pys (ds.drop n) with
  | some xs => runF m body (ds.take n ++ [.p (.tuple xs)]) S
  | none => .bad) else .bad
theorem denL_take {K : PySem.W.Frag} {H : Hp} {G : Gh} : ∀ {ds : List D} {vs : List V} (n : Nat), DenL K H G ds vs → DenL K H G (ds.take n) (vs.take n) ∧ DenL K H G (ds.drop n) (vs.drop n)
  | _, _, 0, h => ⟨.nil, h⟩
  | _, _, _ + 1, .nil => ⟨.nil, .nil⟩
  | _, _, n + 1, .cons a t => ⟨.cons a (denL_take n t).1, (denL_take n t).2⟩
theorem fnP_star {P : Program} {w : World} {K : PySem.W.Frag} {mg : Str → Option Value} {base : Heap} {x qual : Str} {st : Stmt} {f : Addr} {fd : FuncData} {N ps : List Str} {pv : Str} {k m n : Nat} (F : Fun K x qual st f fd) (Sc : FnScope N (ps ++ [pv]) (defScope st)) (hm : N.length = m) (hn : ps.length = n) (body : FS)
    (hbd : ∀ us rest : List Value, us.length = ps.length → bindArgs fd ⟨us ++ rest, []⟩ = (newTuple rest >>= fun t => pure (ps.zip us ++ [(pv, t)])))
    (hb : ∀ (cdv : Value) (A : Around) (outer : List Env) (s : Shared) (H : Hp) (E : XK), Ctx (cxOf (L2.CX P w) P w K mg base N qual (defScope st) f cdv A outer s H E) (WE E) k → Po (cxOf (L2.CX P w) P w K mg base N qual (defScope st) f cdv A outer s H E) → DSs (cxOf (L2.CX P w) P w K mg base N qual (defScope st) f cdv A outer s H E) (WE E) (defBody st) body) :
    FnP P w K mg base (k + 1) f (spV K (runV n m body)) := by
  subst hm hn
  obtain ⟨oc, od, kV, doc, pm, an, cdv, ct, osl, rfl, lk, hcd⟩ := F.ex
  refine ⟨fun A outer s H us vs Q E hr hgd e0 r hsp => ?_⟩
  obtain ⟨G, S, ds, dl, rp, q⟩ := hsp
  unfold runV at q
  by_cases hlen : ps.length ≤ ds.length ∧ ds.length ≤ LIM
  · rw [if_pos hlen] at q
    cases ep : pys (ds.drop ps.length) with
    | none => rw [ep] at q; exact q.elim
    | some xs =>
      rw [ep] at q
      obtain ⟨d1, d2⟩ := denL_take ps.length dl
      have hlv : vs.length = ds.length := dl.length.symm
      have hw : (vs.take ps.length).length = ps.length := by rw [List.length_take, hlv]; omega
      rw [← List.take_append_drop ps.length vs] at r
      obtain ⟨u1, u2, eu, r1, r2⟩ := StX.vals_split r
      subst eu
      have hn0 : H s.heap.objs.size = Option.none := e0.hok.fresh (Nat.le_refl _)
      have hl1 : u1.length = ps.length := by rw [← r1.length]; exact hw
      have hz : (vs.drop ps.length).length ≤ sizeLine := by
        rw [List.length_drop, hlv]
        exact Nat.le_trans (Nat.sub_le _ _) (Nat.le_trans hlen.2 LIM_le)
      have hl2 : u2.length ≤ sizeLine := by rw [← r2.length]; exact hz
      refine StX.run_bnd lk hcd Sc hr e0 (G := fun zs H2 => ∃ p, H p = Option.none ∧ zs = vs.take ps.length ++ [V.ref p] ∧ H2 = upd H p (.tup (vs.drop ps.length))) (fun A' Ex Q' h => ?_) fun s2 H2 zs ⟨p, hp, ex, eH⟩ hr' => ?_
      · rw [hbd u1 u2 hl1]
        refine wpAny_bind (wpAny_newTuple (wpAny_pure ?_) hl2)
        have new : ObjOk P w (upd H s.heap.objs.size (.tup (vs.drop ps.length))) (s.heap.push ({ cls := .type "tuple", data := .seq u2.toArray } : Obj)) s.heap.objs.size (.tup (vs.drop ps.length)) := ⟨hz, u2, r2, ⟨_, Heap.get?_push_size _ rfl, rfl, _, rfl⟩⟩
        have un := StX.un_laid (fs := frs outer) (s := s) (o := ({ cls := .type "tuple", data := .seq u2.toArray } : Obj)) (u := .tup (vs.drop ps.length)) hn0
        have z := h _ _ (vs.take ps.length ++ [V.ref s.heap.objs.size]) (u1 ++ [Value.ref s.heap.objs.size]) (StX.env0_laid e0 new) un rfl (fun e s' => StX.cxUp outer s H _ _ E e s' un (fun b o q => Heap.get?_push_of_some _ q) rfl) (r1.append (.cons rfl .nil))
          (by rw [List.length_append, List.length_append, hw] <;> rfl) ⟨_, hn0, rfl, rfl⟩
        rw [List.zip_append hl1.symm] at z
        exact z
      · subst ex eH
        have x2 : Ext H G S (upd H p (.tup (vs.drop ps.length))) G S := Ext.other rp hp
        have r2' : Rep K (upd H p (.tup (vs.drop ps.length))) G S := Rep.other rp hp
        have dt : Den K (upd H p (.tup (vs.drop ps.length))) G (.p (.tuple xs)) (.ref p) := by
          refine Dn.tup (.inl (.inl upd_same)) ?_
          exact x2.dnAll rp (pys_den ep d2)
        have dl2 : DenL K (upd H p (.tup (vs.drop ps.length))) G (ds.take ps.length ++ [.p (.tuple xs)]) (vs.take ps.length ++ [V.ref p]) := denL_app (x2.denL rp d1) (.cons dt .nil)
        have q2 : Aft K (WE E) [] H G S (cutX S.length (runF N.length body (ds.take ps.length ++ [.p (.tuple xs)]) S)) (QD K Q) := q
        refine ⟨_, (hb cdv A outer s2 _ E ⟨hr', hgd, takes_of rfl rfl rfl rfl⟩ (passes_of rfl)).run, G, S, (ds.take ps.length ++ [D.p (.tuple xs)]).map some ++ List.replicate (N.length - (ds.take ps.length ++ [D.p (.tuple xs)]).length) none, ?_, r2', body_read (K := K) r2' (Aft.from q2 x2)⟩
        rw [dl2.length]
        exact RelS.ofArgs _ dl2
  · rw [if_neg hlen] at q; exact q.elim

def eCallX (n : Nat) (g : List D → M D) (fa : FA) : FE := fun ρ S => (fa ρ S).bind fun ds S1 => if ds.length = n then cutX S1.length (g ds S1) else .bad
section
variable {X : Cx} {W : WX} {k n : Nat} {f : Addr} {fd : FuncData} {ps : List Str} {sp : Sp} {x : Str} {p pos : Pos} {e : Expr} {es : List Expr} {fa : FA} {g : List D → M D}
theorem run_fnP {pins : List (Addr × Obj)} {σ : L2.St} {H : Hp} {s : Shared} {Q : VK} {us : List Value} {vs : List V} (F : FnP X.prog X.w X.K X.mg X.base k f sp) (C : Ctx X W k)
    (I : L2.Inv X pins σ H s) (r : Vals vs us) (h : sp vs H Q fun c d H' => W c d σ H') : wpAny (model X.prog X.w) X.A (call (.ref f) us) (EP X pins σ Q) X.xe s := by
  refine wpAny_call (codeAny_mono (F.run X.A X.stack s H us vs Q _ C.hr C.hgd I.env0 r h) fun res s' hq => ?_)
  match res, hq with
  | .error e, hq => exact C.tk e s' (XE.of_call I (fun cls d H' h => h) hq)
  | .ok (.ret u), hq => exact I.after hq
  | .ok .next, hq => exact False.elim hq
  | .ok .brk, hq => exact False.elim hq
  | .ok .cont, hq => exact False.elim hq
theorem callX_read {σ : L2.St} {H : Hp} {Q : VK} (q : rd X.K W (eCallX n g fa) σ H Q) : rdA X.K W fa σ H fun vs H1 => spX X.K n g vs H1 Q fun c d H' => W c d σ H' := by
  obtain ⟨G, S, ρ, rs, rp, q⟩ := q
  refine ⟨G, S, ρ, rs, rp, (Aft.bind q).mono fun ds H1 G1 S1 x1 r1 q1 vs dv => ?_⟩
  by_cases hl : ds.length = n
  · simp only [if_pos hl] at q1
    refine ⟨G1, S1, ds, hl, dv, r1, ?_⟩
    cases eo : cutX S1.length (g ds S1) with
    | ok a S2 => rw [eo] at q1; exact q1
    | err y S2 => rw [eo] at q1; exact q1
    | bad => rw [eo] at q1; exact q1
  · simp only [if_neg hl] at q1; exact q1.elim
theorem spV_of {vs : List V} {H : Hp} {Q : VK} {E : XK} (h : spX X.K n g vs H Q E) : spV X.K g vs H Q E := by
  obtain ⟨G, S, ds, _, a, b, c⟩ := h
  exact ⟨G, S, ds, a, b, c⟩
theorem de_callP (F : FnP X.prog X.w X.K X.mg X.base k f sp) (hsp : ∀ vs H Q E, spX X.K n g vs H Q E → sp vs H Q E) (C : Ctx X W k) (hg : Gl X x) (hm : X.mg x = some (.ref f)) (hk : PySem.W.keepIn X.K (.ref f) = true)
    (ha : DA X W (e :: es) fa) (hdb : (x == ("__debug__" : Str)) = false := by decide) (he : starEach (e :: es) X.env = (false, eval e X.env) :: starEach es X.env := by rfl) (hpl : (backTo pos (starEach es X.env)).any (·.1) = false := by rfl) :
    DE X W (.Call (.Name x p) (e :: es) [] pos) (eCallX n g fa) := by
  refine ⟨⟨fun pins s σ H Q I h => wpAny_Call_Name_kw (ld_glob I hg hm ?_ hdb)⟩⟩
  refine PySem.W.callWith_K (h₀ := X.base) I.ok.mod.kin hk (thn (ha.run.run pos pins s σ H _ I (callX_read h)) fun us s1 ⟨vs, H1, I1, r, q⟩ => ⟨I1.kIn, run_fnP F C I1 r (hsp _ _ _ _ q)⟩) he hpl
theorem de_callP0 (F : FnP X.prog X.w X.K X.mg X.base k f sp) (hsp : ∀ vs H Q E, spX X.K n g vs H Q E → sp vs H Q E) (C : Ctx X W k) (hg : Gl X x) (hm : X.mg x = some (.ref f)) (hk : PySem.W.keepIn X.K (.ref f) = true)
    (hdb : (x == ("__debug__" : Str)) = false := by decide) : DE X W (.Call (.Name x p) [] [] pos) (eCallX n g aNil) := by
  refine ⟨⟨fun pins s σ H Q I h => wpAny_Call_Name_kw (ld_glob I hg hm ?_ hdb)⟩⟩
  obtain ⟨G, S, ρ, rs, rp, q⟩ := callX_read h
  exact PySem.W.callWith_K0 I.kIn hk (run_fnP (us := []) F C I .nil (hsp _ _ _ _ (q H G Ext.refl rp [] .nil)))
/-- a def with parameters only -/
theorem de_callX (F : FnX X.prog X.w X.K X.mg X.base k f fd ps (spX X.K n g)) (C : Ctx X W k) (hg : Gl X x) (hm : X.mg x = some (.ref f)) (hk : PySem.W.keepIn X.K (.ref f) = true) (hb : Binds X.K fd ps [])
    (ha : DA X W (e :: es) fa) (hdb : (x == ("__debug__" : Str)) = false := by decide) (he : starEach (e :: es) X.env = (false, eval e X.env) :: starEach es X.env := by rfl) (hpl : (backTo pos (starEach es X.env)).any (·.1) = false := by rfl) :
    DE X W (.Call (.Name x p) (e :: es) [] pos) (eCallX n g fa) := de_callP (F.toP hb) (fun _ _ _ _ h => h) C hg hm hk ha hdb he hpl
theorem de_callX0 (F : FnX X.prog X.w X.K X.mg X.base k f fd ps (spX X.K n g)) (C : Ctx X W k) (hg : Gl X x) (hm : X.mg x = some (.ref f)) (hk : PySem.W.keepIn X.K (.ref f) = true) (hb : Binds X.K fd ps [])
    (hdb : (x == ("__debug__" : Str)) = false := by decide) : DE X W (.Call (.Name x p) [] [] pos) (eCallX n g aNil) := de_callP0 (F.toP hb) (fun _ _ _ _ h => h) C hg hm hk hdb
/-- a def with a star parameter -/
theorem de_callV (F : FnP X.prog X.w X.K X.mg X.base k f (spV X.K g)) (C : Ctx X W k) (hg : Gl X x) (hm : X.mg x = some (.ref f)) (hk : PySem.W.keepIn X.K (.ref f) = true)
    (ha : DA X W (e :: es) fa) (hdb : (x == ("__debug__" : Str)) = false := by decide) (he : starEach (e :: es) X.env = (false, eval e X.env) :: starEach es X.env := by rfl) (hpl : (backTo pos (starEach es X.env)).any (·.1) = false := by rfl) :
    DE X W (.Call (.Name x p) (e :: es) [] pos) (eCallX n g fa) := de_callP F (fun _ _ _ _ h => spV_of h) C hg hm hk ha hdb he hpl
theorem de_callV0 (F : FnP X.prog X.w X.K X.mg X.base k f (spV X.K g)) (C : Ctx X W k) (hg : Gl X x) (hm : X.mg x = some (.ref f)) (hk : PySem.W.keepIn X.K (.ref f) = true)
    (hdb : (x == ("__debug__" : Str)) = false := by decide) : DE X W (.Call (.Name x p) [] [] pos) (eCallX n g aNil) := de_callP0 F (fun _ _ _ _ h => spV_of h) C hg hm hk hdb
end

theorem law_goX {P : Program} {w : World} {K : PySem.W.Frag} {mg mb : Str → Option Value} {k : Nat} {fa a : Addr} {fd : FuncData} {x : Str} {sp : Sp} {s₁ : Shared} {vs : List Value} {ns : List Int}
    (KX : K.In s₁.heap) (hns : s₁.heap.Ns mainGlobals mg) (hb : s₁.heap.Ns builtinsNs mb) (hbb : ∀ x : Str, x ≠ "__name__" → mb x = bootBuiltins x) (hlim : s₁.heap.NoLimit) (hg : s₁.gens = #[])
    (ha : s₁.heap.get? a = some { cls := .type "list", data := .seq vs.toArray }) (hi : IntsAre vs ns) (hl : ns.length ≤ sizeLine) (hr : Room k callerA)
    (F : ∀ base : Heap, K.In base → base.Ns mainGlobals mg → FnX P w K mg base k fa fd [x] sp) (hbind : ∀ (s : Shared) (u : Value), BindsTo s fd ⟨[u], []⟩ [(x, u)])
    (hsp : ∀ H : Hp, Only H → SqL K H a (ns.map V.int) → sp [.ref a] H (fun v _ => v = .bl true) fun _ _ _ => False) :
    codeAny (model P w) callerA (.call (.ref fa) ⟨[.ref a], []⟩) (fun r s' => r = .ok (.ret (.bool true)) ∧ OldK s₁.heap s'.heap ∧ s'.os = s₁.os ∧ AllBare s'.gens) s₁ := by
  have rv := vals_ints hi
  have lenV := hi.length
  have main : ∀ H : Hp, Only H → SqL K H a (ns.map V.int) → HOk P w H s₁.heap → (∀ b, H b ≠ none → b = a) → (H a ≠ none → K.lookup a = none) →
      codeAny (model P w) callerA (.call (.ref fa) ⟨[.ref a], []⟩) (fun r s' => r = .ok (.ret (.bool true)) ∧ OldK s₁.heap s'.heap ∧ s'.os = s₁.os ∧ AllBare s'.gens) s₁ := by
    intro H hO hS hok hA hK
    have free : ∀ {b : Addr} {o : Obj} {es : Array DictEntry} {ep : Nat}, s₁.heap.get? b = some o → o.data = .dict es ep → H b = none := fun {b o es ep} e d => by
      by_cases q : H b = none
      · exact q
      · have e' := hA b q
        subst e'
        rw [ha] at e; cases e
        cases (show Data.seq vs.toArray _ = Data.dict es ep from d)
    have nsK : ∀ {b : Addr} {m : Str → Option Value}, s₁.heap.Ns b m → (hidT s₁.heap H).Ns b m := fun ⟨o, es, ep, e, d, r⟩ => ⟨o, es, ep, hidT_get e (free e d), d, r⟩
    have hKb : K.In (hidT s₁.heap H) := fun b o e => hidT_get (KX b o e) (by
      by_cases q : H b = none
      · exact q
      · have e' := hA b q
        subst e'
        rw [hK q] at e; cases e)
    obtain ⟨mc, l1, l2⟩ := id hlim
    have hM : Mod K mg (hidT s₁.heap H) := ⟨hKb, nsK hns, ⟨mb, nsK hb, hbb⟩, ⟨mc, nsK l1, l2⟩⟩
    have e0 : Env0 P w K mg (hidT s₁.heap H) callerA [] s₁ H := ⟨rfl, hM, fun b o e => of_hidT e, Nat.le_of_eq (hidT_size _ _), trivial, fun b hb => absurd (show b ∈ ([] : List Addr) from hb) (by simp), hok, .of_eq hg⟩
    refine codeAny_mono ((F _ hKb (nsK hns)).run callerA [] s₁ H ⟨[.ref a], []⟩ [.ref a] [.ref a] _ _ hr rfl e0 (hbind s₁ (.ref a)) (.cons rfl .nil) (hsp H hO hS)) fun r s' h => ?_
    match r, h with
    | .error e, h =>
      obtain ⟨_, _, _, _, _, _, _, _, _, _, _, _, z⟩ := (show L2.CX P w [] H s₁ (fun _ _ _ => False) e s' from h)
      exact z.elim
    | .ok .next, h => exact False.elim h
    | .ok .brk, h => exact False.elim h
    | .ok .cont, h => exact False.elim h
    | .ok (.ret u), h =>
      obtain ⟨v, H', os, bare, un, hok', r', q⟩ := h
      have q' : v = .bl true := q
      subst q'
      obtain rfl : u = Value.bool true := r'
      refine ⟨rfl, OldK.of_keep fun b o e => ?_, os, bare⟩
      rcases hO b with z | ⟨ob, xs, z⟩
      · exact un.keep b o e z (fun y => absurd (show b ∈ ([] : List Addr) from y) (by simp)) (by simp)
      · obtain ⟨e1, _⟩ := hok b _ z
        obtain ⟨e2, _⟩ := hok' b _ (un.frzs b ob _ z)
        rw [e] at e1; cases e1
        exact e2
  cases hk : K.lookup a with
  | some o =>
    have e := KX a o hk
    rw [ha] at e
    cases e
    refine main (fun _ => none) (fun _ => .inl rfl) (.inr ⟨_, vs.toArray, _, hk, rfl, rfl, rfl, by rw [List.size_toArray, lenV]; exact hl, by simpa using rv⟩) (fun b u z => by cases (show (none : Option HO) = some u from z)) (fun b z => absurd rfl z) fun z => absurd rfl z
  | none =>
    refine main (upd (fun _ => none) a (.frz { cls := .type "list", data := .seq vs.toArray } (.lst (ns.map V.int)))) (fun b => ?_) (.inl (.inr ⟨{ cls := .type "list", data := .seq vs.toArray }, upd_same⟩)) (fun b u z => ?_) (fun b z => ?_) fun _ => hk
    · by_cases hb : b = a
      · subst hb; exact .inr ⟨_, _, upd_same⟩
      · rw [upd_ne hb]; exact .inl rfl
    · by_cases hb : b = a
      · subst hb
        rw [upd_same] at z; cases z
        exact ⟨ha, by rw [List.length_map]; exact hl, vs, _, rv, ha⟩
      · rw [upd_ne hb] at z; cases z
    · by_cases hb : b = a
      · exact hb
      · rw [upd_ne hb] at z; exact absurd rfl z
theorem law_spX {K : PySem.W.Frag} {g : List D → M D} {ns : List Int} {a : Addr} {H : Hp} (h : ∃ S', g [.ro (nums ns)] [] = .ok (.p (.bool true)) S') (hO : Only H) (hS : SqL K H a (ns.map V.int)) : spX K 1 g [.ref a] H (fun v _ => v = .bl true) fun _ _ _ => False := by
  obtain ⟨S', e⟩ := h
  have fin : ∀ (φ : List (Addr × HO)), Holds φ H → RL K φ a (ns.map V.int) → spX K 1 g [.ref a] H (fun v _ => v = .bl true) fun _ _ _ => False := fun φ hφ hr => by
    refine ⟨⟨[], φ⟩, [], [.ro (nums ns)], rfl, .cons ⟨a, _, rfl, hr, nums_dn ns⟩ .nil, ⟨rfl, List.nodup_nil, fun i b o h => by simp at h, hφ, fun p _ l => ?_⟩, ?_⟩
    · obtain ⟨i, o, h, _⟩ := l
      simp at h
    · rw [e]
      exact fun H' G' x r v dv => den_bool dv
  rcases hS with (h | ⟨o, h⟩) | h
  · exact fin [(a, .lst (ns.map V.int))] (fun p hp => by obtain rfl := List.mem_singleton.mp hp; exact h) fun H' q => SqL.of (q _ (List.mem_singleton.mpr rfl))
  · exact fin [(a, .frz o (.lst (ns.map V.int)))] (fun p hp => by obtain rfl := List.mem_singleton.mp hp; exact h) fun H' q => .inl (.inr ⟨o, q _ (List.mem_singleton.mpr rfl)⟩)
  · exact fin [] (fun p hp => by cases hp) fun H' _ => .inr h
theorem walkX_data {l : PySem.W.OpenLaw} {k : Nat} {q : Program} {loose : List Str} {XP : (Str → Option Value) → Heap → Prop} {YP : World → Heap → Prop} {d : DefRec} {K : Params → PySem.W.Frag} {x : Str} {g : List D → M D}
    (hn : l.most = some 63) (hdf : d.params.defaults = []) (hr : Room k callerA) (hY : ∀ (w : World) (h : Heap), YP w h → (K w.params).In h)
    (F : ∀ (w : World) (mg : Str → Option Value) (fa : Addr) (h : Heap), (K w.params).In h → h.Ns mainGlobals mg → mg d.name = some (.ref fa) →
      ∃ fd : FuncData, (∀ (s : Shared) (u : Value), BindsTo s fd ⟨[u], []⟩ [(x, u)]) ∧ ∀ base : Heap, (K w.params).In base → base.Ns mainGlobals mg → FnX l.prog w (K w.params) mg base k fa fd [x] (spX (K w.params) 1 g))
    (hg : ∀ ns : List Int, ns.length ≤ 63 → ∃ S', g [.ro (nums ns)] [] = .ok (.p (.bool true)) S') : PySem.W.WalkO q loose XP YP l.row.toRowW d [] (fun f vs => PySem.call f vs) := by
  refine Att.attach_call hn hdf fun w s₀ s₁ mg mb fa o pm cd doc a vs ns G Y ho hd hcd hmg hobj hints hlen hgn => ?_
  have KX := hY w _ Y
  obtain ⟨fd, hb, hF⟩ := F w mg fa _ KX G.T.g hmg
  exact law_goX KX G.T.g G.T.b G.T.builtins G.T.nolimit hgn hobj hints (Nat.le_trans hlen (by decide)) hr hF hb fun H hO hS => law_spX (hg ns hlen) hO hS
end DL

namespace DL
open PySem L2 PySem.Spec PyProof.Rows

structure SMet (K : PySem.W.Frag) (C : Addr) (mc : Value) (m : Str) (p g : Addr) : Prop where
  rd : PySem.W.readsIn K C mc = true
  ga : PySem.W.specialIn K (.ref C) "__getattribute__" = some (some (.builtin "type.__getattribute__"))
  at_ : PySem.W.findCls K (.ref C) mc m = some (.get (.builtin "staticmethod.__get__") (.ref p) .none (.ref C))
  rc : ∃ rest, PySem.W.recIn K p "staticmethod" = some (.ref g :: rest)
section
variable {X : Cx} {W : WX} {k n : Nat} {C q f : Addr} {mc : Value} {sp : Sp} {x m : Str} {p apos pos : Pos} {e : Expr} {es : List Expr} {fa : FA} {g : List D → M D} {pl : Sem Bool}
theorem de_smethP (c : SMet X.K C mc m q f) (F : FnP X.prog X.w X.K X.mg X.base k f sp) (hsp : ∀ vs H Q E, spX X.K n g vs H Q E → sp vs H Q E) (K' : Ctx X W k) (hg : Gl X x) (hm : X.mg x = some (.ref C)) (hk : PySem.W.keepIn X.K (.ref f) = true)
    (ha : DA X W (e :: es) fa) (hdb : (x == ("__debug__" : Str)) = false := by decide) (he : starEach (e :: es) X.env = (false, eval e X.env) :: starEach es X.env := by rfl) (hpl : (backTo pos (starEach es X.env)).any (·.1) = false := by rfl)
    (ht : eval (.Call (.Attribute (.Name x p) m apos) (e :: es) [] pos) X.env = (do
      let ov ← eval (.Name x p) X.env
      standAt apos.atName
      let (f, first) ← holding [ov] (getMethod ov m pl)
      callWith pos f first (backTo pos (starEach (e :: es) X.env)) (backToKw pos (keywordEach [] X.env))) := by rfl) :
    DE X W (.Call (.Attribute (.Name x p) m apos) (e :: es) [] pos) (eCallX n g fa) := by
  have hx : PE X (.Name x p) (tC (.ref C)) := pe_glob hg hm rfl hdb
  refine ⟨⟨fun pins s σ H Q I h => ?_⟩⟩
  refine PySem.W.methodCall_KW (pl := pl) (thn (hx.run pins s σ H (fun v H1 => v = .ref C ∧ H1 = H) I ⟨rfl, rfl⟩) fun u s1 ⟨y, H1, I1, rx, ex, eH⟩ => ?_) ht
  subst ex eH
  obtain rfl : u = Value.ref C := rx
  obtain ⟨rest, hp⟩ := c.rc
  refine PySem.W.method_cls I1.kIn c.ga (PySem.W.cls_bind I1.kIn c.rd c.at_ (wpAny_call (PySem.W.sm_get (s := { s1 with toks := s1.toks + 1 }) I1.kIn hp (PySem.W.handed_on rfl ?_))))
  have I2 := I1.tok (s1.toks + 1)
  refine PySem.W.callWith_K (h₀ := X.base) I2.ok.mod.kin hk (thn (ha.run.run pos pins _ σ _ _ I2 (callX_read h)) fun us s3 ⟨vs, H2, I3, rv, q2⟩ => ⟨I3.kIn, run_fnP F K' I3 rv (hsp _ _ _ _ q2)⟩) he hpl
theorem de_smethV (c : SMet X.K C mc m q f) (F : FnP X.prog X.w X.K X.mg X.base k f (spV X.K g)) (K' : Ctx X W k) (hg : Gl X x) (hm : X.mg x = some (.ref C)) (hk : PySem.W.keepIn X.K (.ref f) = true)
    (ha : DA X W (e :: es) fa) (hdb : (x == ("__debug__" : Str)) = false := by decide) (he : starEach (e :: es) X.env = (false, eval e X.env) :: starEach es X.env := by rfl) (hpl : (backTo pos (starEach es X.env)).any (·.1) = false := by rfl)
    (ht : eval (.Call (.Attribute (.Name x p) m apos) (e :: es) [] pos) X.env = (do
      let ov ← eval (.Name x p) X.env
      standAt apos.atName
      let (f, first) ← holding [ov] (getMethod ov m pl)
      callWith pos f first (backTo pos (starEach (e :: es) X.env)) (backToKw pos (keywordEach [] X.env))) := by rfl) :
    DE X W (.Call (.Attribute (.Name x p) m apos) (e :: es) [] pos) (eCallX n g fa) := de_smethP c F (fun _ _ _ _ h => spV_of h) K' hg hm hk ha hdb he hpl ht
end

section
variable {X : Cx} {W : WX} {k n : Nat} {f : Addr} {sp : Sp} {x m : Str} {p apos pos : Pos} {e : Expr} {es : List Expr} {fa : FA} {g : List D → M D} {pl : Sem Bool}
theorem de_smethVE (c : ∃ C mc q, X.mg x = some (.ref C) ∧ SMet X.K C mc m q f) (F : FnP X.prog X.w X.K X.mg X.base k f (spV X.K g)) (K' : Ctx X W k) (hg : Gl X x) (hk : PySem.W.keepIn X.K (.ref f) = true)
    (ha : DA X W (e :: es) fa) (hdb : (x == ("__debug__" : Str)) = false := by decide) (he : starEach (e :: es) X.env = (false, eval e X.env) :: starEach es X.env := by rfl) (hpl : (backTo pos (starEach es X.env)).any (·.1) = false := by rfl)
    (ht : eval (.Call (.Attribute (.Name x p) m apos) (e :: es) [] pos) X.env = (do
      let ov ← eval (.Name x p) X.env
      standAt apos.atName
      let (f, first) ← holding [ov] (getMethod ov m pl)
      callWith pos f first (backTo pos (starEach (e :: es) X.env)) (backToKw pos (keywordEach [] X.env))) := by rfl) :
    DE X W (.Call (.Attribute (.Name x p) m apos) (e :: es) [] pos) (eCallX n g fa) := by
  obtain ⟨C, mc, q, hm, c⟩ := c
  exact de_smethV c F K' hg hm hk ha hdb he hpl ht
end
inductive Arm where
  | texts (xs : List Str)
  | any
def armB (x : Str) : Arm → Bool
  | .texts xs => xs.contains x
  | .any => true
def armGo (x : Str) : List (Arm × FS) → FS
  | [] => sNext
  | (a, b) :: r => if armB x a then b else armGo x r
def sMatch (f : FE) (arms : List (Arm × FS)) : FS := fun ρ S => (f ρ S).st ρ fun d S1 => match d with
  | .p (.str x) => armGo x arms ρ S1
  | _ => none
inductive PatT : List Pattern → List Str → Prop
  | nil : PatT [] []
  | cons {x : Str} {j : Nat} {p1 p2 : Pos} {ps : List Pattern} {xs : List Str} : PatT ps xs → PatT (.MatchValue (.Constant (.str x) j p1) p2 :: ps) (x :: xs)
inductive DArms (X : Cx) (W : WX) : List MatchCase → List (Arm × FS) → Prop
  | nil : DArms X W [] []
  | one {x : Str} {j : Nat} {p1 p2 : Pos} {body : List Stmt} {b : FS} {cs : List MatchCase} {r : List (Arm × FS)} : DSs X W body b → DArms X W cs r → DArms X W (⟨.MatchValue (.Constant (.str x) j p1) p2, none, body⟩ :: cs) ((.texts [x], b) :: r)
  | or {ps : List Pattern} {xs : List Str} {p2 : Pos} {body : List Stmt} {b : FS} {cs : List MatchCase} {r : List (Arm × FS)} : PatT ps xs → namesOfAll (ps.take 1) = [] → DSs X W body b → DArms X W cs r → DArms X W (⟨.MatchOr ps p2, none, body⟩ :: cs) ((.texts xs, b) :: r)
  | any {p2 : Pos} {body : List Stmt} {b : FS} {cs : List MatchCase} {r : List (Arm × FS)} : DSs X W body b → DArms X W cs r → DArms X W (⟨.MatchAs none none p2, none, body⟩ :: cs) ((.any, b) :: r)
section
variable {X : Cx} {W : WX} {pins : List (Addr × Obj)} {σ : L2.St} {H : Hp} {s : Shared}
theorem eq_text (I : L2.Inv X pins σ H s) {x y : Str} {t : Tok} {j : Nat} {p1 p2 : Pos} {Q : Option (List (Str × Value)) → Shared → Prop} (h : ∀ s', L2.Inv X pins σ H s' → Q (if (y == x) = true then some [] else none) s') :
    wpAny (model X.prog X.w) X.A (matchPattern (.MatchValue (.Constant (.str y) j p1) p2) X.env (.str x t)) Q X.xe s := by
  refine wpAny_matchPattern_Value ((pe_str (X := X)).run pins s σ H (fun v H1 => v = .str y ∧ H1 = H) I ⟨rfl, rfl⟩ |> fun z => thn z fun u s1 ⟨v, H1, I1, rv, ev, eH⟩ => ?_)
  subst ev eH
  obtain ⟨t2, rfl⟩ := rv
  refine thn ((op_eq (X := X)) pins s1 σ H1 (.str x) (.str y) (.str x t) (.str y t2) (fun v H2 => v = .bl (decide (V.str x = V.str y)) ∧ H2 = H1) I1 ⟨t, rfl⟩ ⟨t2, rfl⟩ ⟨rfl, rfl, rfl⟩) fun c s2 ⟨v, H2, I2, rv, ev, eH⟩ => ?_
  subst ev eH
  cases (show c = Value.bool (decide (V.str x = V.str y)) from rv)
  refine wpAny_truthy_bool ?_
  have e : decide (V.str x = V.str y) = (y == x) := by
    by_cases c : x = y
    · subst c; simp
    · have : ¬ y = x := fun z => c z.symm
      simp [c, this]
  rw [e]
  have z := h s2 I2
  cases hb : (y == x) with
  | true => rw [hb] at z; exact z
  | false => rw [hb] at z; exact z
theorem eq_first : ∀ {ps : List Pattern} {xs : List Str} (_ : PatT ps xs) {s : Shared} (_ : L2.Inv X pins σ H s) {x : Str} {t : Tok} {Q : Option (List (Str × Value)) → Shared → Prop} (_ : ∀ s', L2.Inv X pins σ H s' → Q (if xs.contains x = true then some [] else none) s'),
    wpAny (model X.prog X.w) X.A (matchFirst ps X.env (.str x t)) Q X.xe s
  | _, _, .nil, s, I, x, t, Q, h => wpAny_matchFirst_nil (h s I)
  | _, _, .cons (x := y) (xs := ys) r, s, I, x, t, Q, h => by
    refine wpAny_matchFirst_cons (eq_text I fun s1 I1 => ?_)
    by_cases c : (y == x) = true
    · rw [if_pos c]
      have z := h s1 I1
      have e : (y :: ys).contains x = true := by simp at c; simp [c]
      rw [if_pos e] at z
      exact z
    · rw [if_neg c]
      refine eq_first r I1 fun s2 I2 => ?_
      have z := h s2 I2
      have e : (y :: ys).contains x = ys.contains x := by
        have c' : ¬ x = y := fun q => c (by simp [q])
        simp [c']
      rw [e] at z
      exact z
theorem arms_run {x : Str} {t : Tok} {D : Ends} : ∀ {cs : List MatchCase} {arms : List (Arm × FS)} (_ : DArms X W cs arms) {s : Shared} (_ : L2.Inv X pins σ H s) (first : Bool) (_ : rdS X.K W (armGo x arms) D σ H),
    wpAny (model X.prog X.w) X.A (matchCases cs X.env (.str x t) first) (SP X pins D) X.xe s
  | _, _, .nil, s, I, first, h => by
    obtain ⟨G, S, ρ, rs, rp, q⟩ := h
    exact wpAny_matchCases_nil ⟨σ, H, I, AftS.next q Ext.refl rp rs⟩
  | _, _, .one (x := y) (b := b) (r := r) hb ht, s, I, first, h => by
    refine wpAny_matchCases_cons (eq_text I fun s1 I1 => ?_)
    by_cases c : (y == x) = true
    · rw [if_pos c]
      have e : armGo x ((.texts [y], b) :: r) = b := by simp at c; simp [armGo, armB, c]
      rw [e] at h
      exact wpAny_assignInOrder_none (hb.run.run pins s1 σ H D I1 h)
    · rw [if_neg c]
      have e : armGo x ((.texts [y], b) :: r) = armGo x r := by
        have c' : ¬ x = y := fun q => c (by simp [q])
        simp [armGo, armB, c']
      rw [e] at h
      exact arms_run ht I1 false h
  | _, _, .or (xs := ys) (b := b) (r := r) hp hn hb ht, s, I, first, h => by
    refine wpAny_matchCases_cons (wpAny_matchPattern_Or (eq_first hp I fun s1 I1 => ?_))
    by_cases c : ys.contains x = true
    · rw [if_pos c]
      have e : armGo x ((.texts ys, b) :: r) = b := by simp only [armGo, armB, c, if_true]
      rw [e] at h
      rw [hn]
      exact wpAny_assignInOrder_none (hb.run.run pins s1 σ H D I1 h)
    · rw [if_neg c]
      have e : armGo x ((.texts ys, b) :: r) = armGo x r := by
        rw [Bool.not_eq_true] at c
        simp only [armGo, armB, c, Bool.false_eq_true, if_false]
      rw [e] at h
      exact arms_run ht I1 false h
  | _, _, .any (b := b) (r := r) hb ht, s, I, first, h => by
    refine wpAny_matchCases_cons (wpAny_matchPattern_Capture ?_)
    exact wpAny_assignInOrder_none (hb.run.run pins s σ H D I h)
theorem ds_match {e : Expr} {cs : List MatchCase} {pos : Pos} {f : FE} {arms : List (Arm × FS)} (he : DE X W e f) (ha : DArms X W cs arms) : DS X W (.Match e cs pos) (sMatch f arms) := by
  refine ⟨⟨fun pins s σ H D I ⟨G, S, ρ, rs, rp, q⟩ => ?_⟩⟩
  refine wpAny_Match (thn (he.run.run pins s σ H (fun v H1 => ∃ x, v = .str x ∧ rdS X.K W (armGo x arms) D σ H1) I ⟨G, S, ρ, rs, rp, (AftS.st q rs rp).mono fun d H1 G1 S1 x1 r1 q1 v dv => ?_⟩) fun u s1 ⟨v, H1, I1, rv, x, ev, h⟩ => ?_)
  · split at q1
    · rename_i x
      exact ⟨x, den_str dv, G1, S1, ρ, x1.relS rp rs, r1, q1⟩
    · exact q1.elim
  · subst ev
    obtain ⟨t, rfl⟩ := rv
    exact arms_run ha I1 true h
end

inductive KdEnts (K : PySem.W.Frag) : List DictEntry → List (Str × PyData) → Prop
  | nil : KdEnts K [] []
  | cons {h : Int} {k : Str} {t : Tok} {u : Value} {d : PyData} {es : List DictEntry} {tbl : List (Str × PyData)} : (∃ v, RelV v u ∧ ∀ H G, Den K H G (.p d) v) → KdEnts K es tbl → KdEnts K (⟨h, .str k t, u⟩ :: es) ((k, d) :: tbl)
structure KdIs (K : PySem.W.Frag) (mg : Str → Option Value) (w : World) (x : Str) (tbl : List (Str × PyData)) : Prop where
  ex : ∃ d es n, mg x = some (.ref d) ∧ KDict K w d es n ∧ KdEnts K es.toList tbl
def kdM (tbl : List (Str × PyData)) : D → M D := fun d S => match d with
  | .p (.str z) => (match tbl.lookup z with
    | some x => .ok (.p x) S
    | none => .bad)
  | _ => .bad
def kdInM (neg : Bool) (tbl : List (Str × PyData)) : D → M D := fun d S => match d with
  | .p (.str z) => .ok (.p (.bool (if neg then !(tbl.lookup z).isSome else (tbl.lookup z).isSome))) S
  | _ => .bad
theorem isStr_of (k z : Str) (t : Tok) : (Value.str k t).isStr z = (k == z) := rfl
theorem KdEnts.find {K : PySem.W.Frag} {z : Str} : ∀ {es : List DictEntry} {tbl : List (Str × PyData)}, KdEnts K es tbl →
    (∀ d, tbl.lookup z = some d → ∃ e v, es.find? (·.key.isStr z) = some e ∧ RelV v e.val ∧ ∀ H G, Den K H G (.p d) v) ∧ (tbl.lookup z = none → es.find? (·.key.isStr z) = none ∧ es.any (·.refKey) = false)
  | _, _, .nil => ⟨(fun d e => nomatch e), fun _ => ⟨rfl, rfl⟩⟩
  | _, _, .cons (k := k) (t := t) (u := u) (d := d0) (es := es) (tbl := tbl) hv r => by
    have ih := KdEnts.find (z := z) r
    by_cases c : z = k
    · subst c
      have e1 : ((z, d0) :: tbl).lookup z = some d0 := by simp
      rw [e1]
      refine ⟨fun d e => ?_, (fun e => nomatch e)⟩
      cases e
      obtain ⟨v, h1, h2⟩ := hv
      exact ⟨_, v, List.find?_cons_of_pos (by rw [isStr_of]; simp), h1, h2⟩
    · have e1 : ((k, d0) :: tbl).lookup z = tbl.lookup z := by
        rw [List.lookup_cons]
        have : (z == k) = false := by simp [c]
        rw [this]
      have c' : ¬ k = z := fun q => c q.symm
      have e2 : ∀ h, (⟨h, .str k t, u⟩ :: es : List DictEntry).find? (·.key.isStr z) = es.find? (·.key.isStr z) := fun h => List.find?_cons_of_neg (by rw [isStr_of]; simp [c'])
      rw [e1, e2]
      refine ⟨ih.1, fun e => ⟨(ih.2 e).1, ?_⟩⟩
      rw [List.any_cons, (ih.2 e).2]
      rfl
theorem kd_tup {K : PySem.W.Frag} {a : Addr} {o : Obj} {its : Array Value} {n : Nat} {ps : List (PyData × V)} {d : PyData} (l : K.lookup a = some o) (hc : o.cls = .type "tuple") (hs : o.data = .seq its n) (f : flats its.toList = some ps) (hz : its.size ≤ 1000) (hd : PyData.tuple (ps.map (·.1)) = d) :
    ∃ v, RelV v (.ref a) ∧ ∀ H G, Den K H G (.p d) v := by
  subst hd
  refine ⟨.ref a, rfl, fun H G => .tup (.inr ⟨o, its, n, l, hc, hs, Nat.le_of_lt (small1000 hz), ?_⟩) (flats_ok f).2⟩
  exact (flats_ok (K := K) (φ := []) (H := fun _ => none) f).1
section
variable {X : Cx} {W : WX} {x : Str} {p pos : Pos} {i : Expr} {f : FE} {tbl : List (Str × PyData)}
theorem kd_ns {d : Addr} {es : Array DictEntry} {n : Nat} {z : Str} (D : KDict X.K X.w d es n) (E : KdEnts X.K es.toList tbl) :
    (∀ y, tbl.lookup z = some y → ∃ u v, PySem.W.nsIn X.K d z = some (some u) ∧ RelV v u ∧ ∀ H G, Den X.K H G (.p y) v) ∧ (tbl.lookup z = none → PySem.W.nsIn X.K d z = some none) := by
  have q := E.find (z := z)
  refine ⟨fun y e => ?_, fun e => ?_⟩
  · obtain ⟨en, v, h1, h2, h3⟩ := q.1 y e
    exact ⟨en.val, v, by unfold PySem.W.nsIn; rw [D.at_]; simp only [h1], h2, h3⟩
  · obtain ⟨h1, h2⟩ := q.2 e
    unfold PySem.W.nsIn
    rw [D.at_]
    simp only [h1, h2, Bool.false_eq_true, if_false]
theorem de_kdGet (hg : Gl X x) (h : KdIs X.K X.mg X.w x tbl) (he : DE X W i f) (hs : PlainIx i := by exact fun _ _ => rfl) (hdb : (x == ("__debug__" : Str)) = false := by decide) : DE X W (.Subscript (.Name x p) i pos) (e1 (kdM tbl) f) := by
  obtain ⟨d, es, n, hm, D, E⟩ := h.ex
  refine ⟨PE.imp (pe_ix ix_kdict (pe_glob hg hm (v := .ref d) rfl hdb) he.run hs) fun σ H Q ⟨G, S, ρ, rs, rp, q⟩ => ?_⟩
  refine ⟨G, S, ρ, rs, rp, (Aft.bind q).mono fun a H1 G1 S1 x1 r1 q1 v dv => ?_⟩
  unfold kdM at q1
  split at q1
  · rename_i z
    obtain rfl := den_str dv
    split at q1
    · rename_i y ey
      obtain ⟨u, w, h1, h2, h3⟩ := (kd_ns (z := z) D E).1 y ey
      exact ⟨d, z, w, rfl, rfl, ⟨es, n, u, D.at_, D.lit, h1, h2⟩, q1.ret r1 (h3 H1 G1)⟩
    · exact q1.elim
  · exact q1.elim
theorem de_kdIn (hg : Gl X x) (h : KdIs X.K X.mg X.w x tbl) (he : DE X W i f) (hm' : behindInMarks .In (.Name x p) = false := by rfl) (hdb : (x == ("__debug__" : Str)) = false := by decide) : DE X W (.Compare i [.In] [.Name x p] pos) (e1 (kdInM false tbl) f) := by
  obtain ⟨d, es, n, hm, D, E⟩ := h.ex
  refine ⟨PE.imp (pe_cmpR (op_in_kd D) he.run (pe_glob hg hm (v := .ref d) rfl hdb) hm') fun σ H Q ⟨G, S, ρ, rs, rp, q⟩ => ?_⟩
  refine ⟨G, S, ρ, rs, rp, (Aft.bind q).mono fun a H1 G1 S1 x1 r1 q1 v dv => ?_⟩
  unfold kdInM at q1
  split at q1
  · rename_i z
    obtain rfl := den_str dv
    cases e : tbl.lookup z with
    | none => rw [e] at q1; exact ⟨z, none, rfl, rfl, (kd_ns (z := z) D E).2 e, q1.ret r1 (.bl _)⟩
    | some y =>
      rw [e] at q1
      obtain ⟨u, w, h1, h2, h3⟩ := (kd_ns (z := z) D E).1 y e
      exact ⟨z, some u, rfl, rfl, h1, q1.ret r1 (.bl _)⟩
  · exact q1.elim
theorem de_kdNotIn (hg : Gl X x) (h : KdIs X.K X.mg X.w x tbl) (he : DE X W i f) (hm' : behindInMarks .NotIn (.Name x p) = false := by rfl) (hdb : (x == ("__debug__" : Str)) = false := by decide) : DE X W (.Compare i [.NotIn] [.Name x p] pos) (e1 (kdInM true tbl) f) := by
  obtain ⟨d, es, n, hm, D, E⟩ := h.ex
  refine ⟨PE.imp (pe_cmpR (op_notIn_kd D) he.run (pe_glob hg hm (v := .ref d) rfl hdb) hm') fun σ H Q ⟨G, S, ρ, rs, rp, q⟩ => ?_⟩
  refine ⟨G, S, ρ, rs, rp, (Aft.bind q).mono fun a H1 G1 S1 x1 r1 q1 v dv => ?_⟩
  unfold kdInM at q1
  split at q1
  · rename_i z
    obtain rfl := den_str dv
    cases e : tbl.lookup z with
    | none => rw [e] at q1; exact ⟨z, none, rfl, rfl, (kd_ns (z := z) D E).2 e, q1.ret r1 (.bl _)⟩
    | some y =>
      rw [e] at q1
      obtain ⟨u, w, h1, h2, h3⟩ := (kd_ns (z := z) D E).1 y e
      exact ⟨z, some u, rfl, rfl, h1, q1.ret r1 (.bl _)⟩
  · exact q1.elim
def tKd (neg : Bool) (tbl : List (Str × PyData)) (f : FE) : FT := fun ρ S => (f ρ S).bind fun d S1 => match d with
  | .p (.str z) => .ok (if neg then !(tbl.lookup z).isSome else (tbl.lookup z).isSome) S1
  | _ => .bad
theorem dt_kdIn (hg : Gl X x) (h : KdIs X.K X.mg X.w x tbl) (he : DE X W i f) (hm' : behindInMarks .In (.Name x p) = false := by rfl) (hdb : (x == ("__debug__" : Str)) = false := by decide) : DT X W (.Compare i [.In] [.Name x p] pos) (tKd false tbl f) := by
  obtain ⟨d, es, n, hm, D, E⟩ := h.ex
  refine ⟨PT.imp (pt_cmpR (op_in_kd D) he.run (pe_glob hg hm (v := .ref d) rfl hdb) hm') fun σ H Q ⟨G, S, ρ, rs, rp, q⟩ => ?_⟩
  refine ⟨G, S, ρ, rs, rp, (Aft.bind q).mono fun a H1 G1 S1 x1 r1 q1 v dv => ?_⟩
  split at q1
  · rename_i z
    obtain rfl := den_str dv
    cases e : tbl.lookup z with
    | none => rw [e] at q1; exact ⟨z, none, rfl, rfl, (kd_ns (z := z) D E).2 e, _, rfl, q1 H1 G1 Ext.refl r1⟩
    | some y =>
      rw [e] at q1
      obtain ⟨u, w, h1, h2, h3⟩ := (kd_ns (z := z) D E).1 y e
      exact ⟨z, some u, rfl, rfl, h1, _, rfl, q1 H1 G1 Ext.refl r1⟩
  · exact q1.elim
theorem dt_kdNotIn (hg : Gl X x) (h : KdIs X.K X.mg X.w x tbl) (he : DE X W i f) (hm' : behindInMarks .NotIn (.Name x p) = false := by rfl) (hdb : (x == ("__debug__" : Str)) = false := by decide) : DT X W (.Compare i [.NotIn] [.Name x p] pos) (tKd true tbl f) := by
  obtain ⟨d, es, n, hm, D, E⟩ := h.ex
  refine ⟨PT.imp (pt_cmpR (op_notIn_kd D) he.run (pe_glob hg hm (v := .ref d) rfl hdb) hm') fun σ H Q ⟨G, S, ρ, rs, rp, q⟩ => ?_⟩
  refine ⟨G, S, ρ, rs, rp, (Aft.bind q).mono fun a H1 G1 S1 x1 r1 q1 v dv => ?_⟩
  split at q1
  · rename_i z
    obtain rfl := den_str dv
    cases e : tbl.lookup z with
    | none => rw [e] at q1; exact ⟨z, none, rfl, rfl, (kd_ns (z := z) D E).2 e, _, rfl, q1 H1 G1 Ext.refl r1⟩
    | some y =>
      rw [e] at q1
      obtain ⟨u, w, h1, h2, h3⟩ := (kd_ns (z := z) D E).1 y e
      exact ⟨z, some u, rfl, rfl, h1, _, rfl, q1 H1 G1 Ext.refl r1⟩
  · exact q1.elim
end

def max2M : List D → M D := fun ds S => match ds with
  | [.p (.int i), .p (.int j)] => .ok (.p (.int (if j > i then j else i))) S
  | _ => .bad
def min2M : List D → M D := fun ds S => match ds with
  | [.p (.int i), .p (.int j)] => .ok (.p (.int (if j < i then j else i))) S
  | _ => .bad
def intTM : List D → M D := fun ds S => match ds with
  | [.p (.str z)] => if z.length ≤ 640 then (match PySem.intText? z with
    | some n => .ok (.p (.int n)) S
    | none => .bad) else .bad
  | ds => intM ds S
section
variable {X : Cx} {W : WX} {e e' : Expr} {fa : FA} {p pos : Pos}
theorem de_max2 (hc : X.calm = true) (hg : Gl X "max") (hm : X.mg "max" = none) (ha : DA X W [e, e'] fa) (he : starEach [e, e'] X.env = (false, eval e X.env) :: starEach [e'] X.env := by rfl) (hpl : (backTo pos (starEach [e'] X.env)).any (·.1) = false := by rfl) : DE X W (.Call (.Name "max" p) [e, e'] [] pos) (eA max2M fa) :=
  de_callB (call_max2 hc) (fun W σ H G S ds vs Q rp dv q => by
    unfold max2M at q
    split at q
    · rename_i i j
      obtain ⟨u, v, rfl, d1, d2⟩ := denL2 dv
      obtain rfl := den_int d1
      obtain rfl := den_int d2
      exact ⟨i, j, rfl, q.ret rp (.int _)⟩
    · exact q.elim) hg hm rfl ha (he := he) (hpl := hpl)
theorem de_min2 (hc : X.calm = true) (hg : Gl X "min") (hm : X.mg "min" = none) (ha : DA X W [e, e'] fa) (he : starEach [e, e'] X.env = (false, eval e X.env) :: starEach [e'] X.env := by rfl) (hpl : (backTo pos (starEach [e'] X.env)).any (·.1) = false := by rfl) : DE X W (.Call (.Name "min" p) [e, e'] [] pos) (eA min2M fa) :=
  de_callB (call_min2 hc) (fun W σ H G S ds vs Q rp dv q => by
    unfold min2M at q
    split at q
    · rename_i i j
      obtain ⟨u, v, rfl, d1, d2⟩ := denL2 dv
      obtain rfl := den_int d1
      obtain rfl := den_int d2
      exact ⟨i, j, rfl, q.ret rp (.int _)⟩
    · exact q.elim) hg hm rfl ha (he := he) (hpl := hpl)
theorem de_intT (hg : Gl X "int") (hm : X.mg "int" = none) (ha : DA X W [e] fa) (he : starEach [e] X.env = (false, eval e X.env) :: starEach [] X.env := by rfl) : DE X W (.Call (.Name "int" p) [e] [] pos) (eA intTM fa) :=
  de_callTy (T := "int") (r := fun xs H Q => ((∃ i, xs = [.int i] ∧ Q (.int i) H) ∨ ∃ k, xs = [.bl k] ∧ Q (.int (if k then 1 else 0)) H) ∨ ∃ a n, xs = [.str a] ∧ PySem.intText? a = some n ∧ a.length ≤ 640 ∧ Q (.int n) H) (by
    intro pins s σ H xs us Q I r h
    rcases h with h | h
    · exact call_int1 pins s σ H xs us Q I r h
    · exact call_int_str pins s σ H xs us Q I r h) (by
    intro W σ H G S xs vs Q rp dv q
    unfold intTM at q
    split at q
    · rename_i z
      obtain ⟨v, rfl, dv1⟩ := denL1 dv
      obtain rfl := den_str dv1
      by_cases c : z.length ≤ 640
      · rw [if_pos c] at q
        split at q
        · rename_i n en
          exact .inr ⟨z, n, rfl, en, c, q.ret rp (.int _)⟩
        · exact q.elim
      · rw [if_neg c] at q; exact q.elim
    · unfold intM at q
      split at q
      · obtain ⟨v, rfl, dv1⟩ := denL1 dv
        rw [den_int dv1]
        exact .inl (.inl ⟨_, rfl, q.ret rp (.int _)⟩)
      · obtain ⟨v, rfl, dv1⟩ := denL1 dv
        rw [den_bool dv1]
        exact .inl (.inr ⟨_, rfl, q.ret rp (.int _)⟩)
      · exact q.elim) hg hm (by decide +kernel) ha (by decide) (by decide) he
end
end DL

namespace DL
open PySem L2

section
variable {ρ : Ev} {S : Sto} {f g h : FE} {fa : FA} {n : Nat} {Q : D → Sto → Prop} {X : Exn → Sto → Prop}
@[simp] theorem eCallX_ {m : List D → M D} : eCallX n m fa ρ S = (fa ρ S).bind fun ds S1 => if ds.length = n then cutX S1.length (m ds S1) else .bad := rfl
@[simp] theorem cutX_p {x : PyData} : cutX n (.ok (.p x) S) = .ok (.p x) (S.take n) := rfl
@[simp] theorem cutX_err {x : Exn} : cutX n (.err x S) = .err x (S.take n) := rfl
theorem cutX_len {x : PyData} : cutX S.length (.ok (.p x) S) = .ok (.p x) S := by simp
theorem cutX_same {x : PyData} {S' : Sto} (h : S'.length = S.length) : cutX S.length (.ok (.p x) S') = .ok (.p x) S' := by rw [← h]; simp
theorem wp_cutX {o : Out D} (h : wp o (fun d s => ∃ x, d = .p x ∧ Q (.p x) (s.take n)) (fun x s => X x (s.take n))) : wp (cutX n o) Q X := by
  cases o with
  | ok d s =>
    obtain ⟨x, rfl, q⟩ := h
    exact q
  | err x s => exact h
  | bad => exact h
/-- a def's end where the store keeps its length -/
theorem wp_cutXS {o : Out D} (h : wp o (fun d s => s.length = n ∧ Q d s) (fun x s => s.length = n ∧ X x s)) : wp (cutX n o) Q X := by
  cases o with
  | ok d s =>
    obtain ⟨rfl, q⟩ := h
    cases d with
    | ob i =>
      show wp (if i < s.length then Out.ok (D.ob i) (s.take s.length) else .ok (.ob i) s) Q X
      rw [List.take_of_length_le (Nat.le_refl _)]
      split <;> exact q
    | p x => show Q _ (s.take s.length); rw [List.take_of_length_le (Nat.le_refl _)]; exact q
    | ro x => show Q _ (s.take s.length); rw [List.take_of_length_le (Nat.le_refl _)]; exact q
    | ext x => show Q _ (s.take s.length); rw [List.take_of_length_le (Nat.le_refl _)]; exact q
  | err x s =>
    obtain ⟨rfl, q⟩ := h
    show X x (s.take s.length)
    rw [List.take_of_length_le (Nat.le_refl _)]; exact q
  | bad => exact h
/-- a call that leaves the store -/
theorem wp_callP {o : Out D} {x : PyData} (e : o = .ok (.p x) S) (h : Q (.p x) S) : wp (cutX S.length o) Q X := by rw [e, cutX_len]; exact h
@[simp] theorem eqZ_s {neg : Bool} {a b : Str} : opEqZ neg (.p (.str a)) (.p (.str b)) S = .ok (.p (.bool (if neg then !(a == b) else (a == b)))) S := rfl
@[simp] theorem eqZ_i {neg : Bool} {a b : Int} : opEqZ neg (.p (.int a)) (.p (.int b)) S = .ok (.p (.bool (if neg then !(a == b) else (a == b)))) S := rfl
@[simp] theorem eqZ_b {neg : Bool} {a b : Bool} : opEqZ neg (.p (.bool a)) (.p (.bool b)) S = .ok (.p (.bool (if neg then !(a == b) else (a == b)))) S := rfl
@[simp] theorem eqZ_t0 {neg : Bool} {xs : List PyData} : opEqZ neg (.p (.tuple xs)) (.p (.tuple [])) S = .ok (.p (.bool (if neg then !xs.isEmpty else xs.isEmpty))) S := rfl
theorem eqZ_t {neg : Bool} {xs ys : List PyData} : opEqZ neg (.p (.tuple xs)) (.p (.tuple ys)) S = opEqX neg (.p (.tuple xs)) (.p (.tuple ys)) S := rfl
theorem eqZ_l {neg : Bool} {xs ys : List PyData} : opEqZ neg (.p (.list xs)) (.p (.list ys)) S = opEqX neg (.p (.list xs)) (.p (.list ys)) S := rfl
@[simp] theorem sMatch_ {arms : List (Arm × FS)} : sMatch f arms ρ S = (f ρ S).st ρ fun d S1 => match d with
  | .p (.str x) => armGo x arms ρ S1
  | _ => none := rfl
@[simp] theorem armGo_nil {x : Str} : armGo x [] ρ S = some (.next ρ, S) := rfl
theorem armGo_cons {x : Str} {a : Arm} {b : FS} {r : List (Arm × FS)} : armGo x ((a, b) :: r) = if armB x a then b else armGo x r := rfl
theorem armGo_yes {x : Str} {a : Arm} {b : FS} {r : List (Arm × FS)} (h : armB x a = true) : armGo x ((a, b) :: r) ρ S = b ρ S := by rw [armGo_cons, if_pos h]
theorem armGo_no {x : Str} {a : Arm} {b : FS} {r : List (Arm × FS)} (h : armB x a = false) : armGo x ((a, b) :: r) ρ S = armGo x r ρ S := by rw [armGo_cons, if_neg (by rw [h]; simp)]
@[simp] theorem eIce_ : eIce f ρ S = (f ρ S).bind fun d S1 => .ok (iceD d S1).1 (iceD d S1).2 := rfl
@[simp] theorem iceD_p {x : PyData} : iceD (.p x) S = (.p x, S) := rfl
theorem iceD_l {i : Nat} {xs : List PyData} (h : S[i]? = some (.lst xs)) : iceD (.ob i) S = (.p (.list xs), S.set i .dead) := by simp [iceD, h]
theorem iceD_d {i : Nat} {kvs : List (Key × PyData)} (h : S[i]? = some (.dic kvs)) : iceD (.ob i) S = (.p (.dict (pyKv kvs)), S.set i .dead) := by simp [iceD, h]
@[simp] theorem max2_ {i j : Int} : max2M [.p (.int i), .p (.int j)] S = .ok (.p (.int (if j > i then j else i))) S := rfl
@[simp] theorem min2_ {i j : Int} : min2M [.p (.int i), .p (.int j)] S = .ok (.p (.int (if j < i then j else i))) S := rfl
@[simp] theorem mkLstM0 : mkLstM [] S = .ok (.ob S.length) (S ++ [.lst []]) := rfl
@[simp] theorem iA_ {m : List D → M (List D)} : iA m fa ρ S = (fa ρ S).bind m := rfl
end
section
variable {c : DrC} {cs : List PyData} {i L : Nat} {n m : Int} {S : Sto} {Q : D → Sto → Prop} {X : Exn → Sto → Prop}
theorem drawX_wp (hc0 : c.ok) (hc : Cells cs) (h : Tape cs i L n S) (hn : n ≤ 1000000000000) (hm : 0 < m) (hm2 : m.natAbs.log2 < 9000)
    (q : ∀ g S', 0 ≤ g → g < m → Tape cs i L (n + 1) S' → Q (.p (.int g)) S') : wp (cutX S.length (runF 6 (drawB2 c) [.ob i, .p (.int m)] S)) Q X := by
  obtain ⟨g, S', e, a, b, c⟩ := draw2_ok hc0 hc h hn hm hm2
  rw [e, cutX_same (c.1.trans h.1.symm)]
  exact q g S' a b c
def pickBX (dr : List D → M D) : FS := (sRet (e2 opSubs (eVar 1) (eCallX 2 dr (aCons (eVar 0) (aCons (eA lenM (aCons (eVar 1) aNil)) aNil)))))
theorem pickX_wp (hc0 : c.ok) {xs : List PyData} (hc : Cells cs) (h : Tape cs i L n S) (hn : n ≤ 1000000000000) (hx : xs ≠ []) (hx2 : xs.length < 1000000)
    (q : ∀ d S', d ∈ xs → Tape cs i L (n + 1) S' → Q (.p d) S') : wp (cutX S.length (runF 2 (pickBX (runF 6 (drawB2 c))) [.ob i, .p (.list xs)] S)) Q X := by
  have hl : 0 < xs.length := List.length_pos_iff.mpr hx
  refine wp_cutXS ?_
  rw [wp_run]
  show wpS (pickBX (runF 6 (drawB2 c)) [some (.ob i), some (.p (.list xs))] S) _
  unfold pickBX
  simp
  refine drawX_wp hc0 hc h hn (by omega) (by
    have := lg (n := ((xs.length : Int)).natAbs) (k := 40) (by have : (2 : Nat) ^ 40 = 1099511627776 := by decide
                                                               omega) (by decide)
    omega) fun g S' g0 g1 t => ?_
  obtain ⟨d, e2, hd⟩ := atI_ok g0 g1
  simp [subs_l e2]
  exact ⟨t.1.trans h.1.symm, q d S' hd t⟩
end
end DL

namespace DL
open PySem L2 PySem.Spec PyProof.Rows

set_option maxHeartbeats 1000000 in
theorem meets_enum1 {v : Value} {o : Obj} {H : Heap → Prop} (B : Begins v o H) :
    Meets (Builtin.«enumerate.__new__» ⟨[.type "enumerate", v], []⟩) (fun _ R s => H s.heap ∧
      R (.ok (.ret (.ref (s.heap.push o).objs.size))) { s with heap := (s.heap.push o).push { cls := .type "enumerate", data := .fields #[.none, .bool false, .ref s.heap.objs.size, rawInt 0, .none, .none] } }) :=
  .of_wp fun prog w A R s h => by
    obtain ⟨hp, g, d, tk, os⟩ := s; obtain ⟨h1, h⟩ := h
    have hsub := sub_enumerate
    have q1 : ∀ {A' : Around} {E : Value → Shared → Prop} {Q : Value → Shared → Prop}, Q (.ref hp.objs.size) ⟨hp.push o, g, d, tk, os⟩ → wpAny (model prog w) A' (pyIter v) Q E ⟨hp, g, d, tk, os⟩ :=
      fun q => B.iter prog w _ _ ⟨hp, g, d, tk, os⟩ _ h1 q
    wp_walk using q1
    refine wpAny_stack_any fun st => wpAny_pure ?_
    split
    · rename_i c _ _ _ _ _
      cases (c == Value.type "enumerate")
      · wp_walk using q1
        exact ⟨_, rfl, h⟩
      · wp_walk using q1
        exact ⟨_, rfl, h⟩
    · wp_walk using q1
      exact ⟨_, rfl, h⟩
theorem enum_begins1 {prog : Program} {w : World} {A : Around} {E : Value → Shared → Prop} {s : Shared} {v : Value} {o : Obj} {H : Heap → Prop} {Q : Value → Shared → Prop} (B : Begins v o H) (h1 : H s.heap)
    (h : ∀ h', IsEnum h' (s.heap.objs.size + 1) s.heap.objs.size 0 .none → h'.get? s.heap.objs.size = some o → h'.objs.size = s.heap.objs.size + 2 →
      (∀ b o, s.heap.get? b = some o → h'.get? b = some o) → Q (.ref (s.heap.objs.size + 1)) { s with heap := h' }) :
    wpAny (model prog w) A (call (.type "enumerate") [v]) Q E s := by
  refine callType_new F.called_enumerate (by decide) (F.typeCall_enumerate_1 _) (F.newCall_enumerate_1 _) (fun obj => F.args_object_init_2 obj _) F.entry_enumerate_new (meets_enum1 B) ⟨h1, ?_⟩
  have hz : (s.heap.push o).objs.size = s.heap.objs.size + 1 := Heap.size_push ..
  show _ ∧ _
  rw [hz]
  have he : IsEnum ((s.heap.push o).push { cls := .type "enumerate", data := .fields #[.none, .bool false, .ref s.heap.objs.size, rawInt 0, .none, .none] }) (s.heap.objs.size + 1) s.heap.objs.size 0 .none := by
    have := Heap.get?_push_size (s.heap.push o) (o := { cls := .type "enumerate", data := .fields #[.none, .bool false, .ref s.heap.objs.size, rawInt 0, .none, .none] }) rfl
    rw [hz] at this; exact this
  refine ⟨⟨_, he, rfl⟩, h _ he (Heap.get?_push_of_some _ (Heap.get?_push_size _ B.free)) (by rw [Heap.size_push, hz]) fun b o x => Heap.get?_push_of_some _ (Heap.get?_push_of_some _ x)⟩
/-- the tuple at a, each item in a new pair -/
def IteT (K : PySem.W.Frag) (a : Addr) : It :=
  ⟨fun i H => ∃ (xs : List V) (x : V), SqT K H a xs ∧ xs[i]? = some x, fun i H v H' => ∃ T x, v = .ref T ∧ H T = none ∧ H' = upd H T (.tup [.int (i : Nat), x]) ∧ ∀ xs, SqT K H a xs → xs[i]? = some x, fun i H => ∃ xs : List V, SqT K H a xs ∧ xs.length = i⟩
theorem turn_enumT {P : Program} {w : World} {K : PySem.W.Frag} {elts : List Expr} {kk : Nat} {tpos : Pos} (a e it : Addr) :
    Turn P w K (.Tuple elts kk tpos) (IteT K a) [e, it] e (fun i h => (∃ old, IsEnum h e it ((i : Nat) : Int) old) ∧ h.IsTupleIter it a i ∧ e ≠ it ∧ e ≠ a ∧ it ≠ a) where
  mem := by simp
  obj := fun i h st b hb => by
    obtain ⟨⟨old, he⟩, ⟨o, ho, hc, hd⟩, _⟩ := st
    have e' : b = e ∨ b = it := by simpa using hb
    rcases e' with z | z
    · rw [z]; exact ⟨_, he, fun v q => nomatch q⟩
    · rw [z]; exact ⟨o, ho, fun v q => by rw [hd] at q; cases q⟩
  keep := fun i h h' st k => let ⟨⟨old, he⟩, hi, hne⟩ := st; ⟨⟨old, k e (by simp) _ he⟩, hi.at fun o q => k it (by simp) o q, hne⟩
  item := by
    intro X hP hw hK hc i pins s σ H E I hf st hg
    subst hP hw hK
    obtain ⟨⟨old, he⟩, hit, hne, hea, hia⟩ := st
    obtain ⟨xs, x, hq, hx⟩ := hg
    obtain ⟨its, rv, p, hz⟩ := I.tuple hq
    obtain ⟨u, hu, ru⟩ := rv.get hx
    have hel : e < s.heap.objs.size := Heap.lt_size he
    have hil : it < s.heap.objs.size := by obtain ⟨_, q, _⟩ := hit; exact Heap.lt_size q
    have hlt : i < its.toArray.size := by
      have := (List.getElem?_eq_some_iff.mp hu).1
      simpa using this
    refine wpAny_pyNext_enum_itemC (Draws.tuple (prog := X.prog) (w := X.w) (A := X.A.in1) (I.ok.hd hc) it a (Ne.symm hia) its.toArray) he ⟨hit, p⟩ hlt hne (by simp [hne, hea]) fun u' h' tk hP ho hst' hT hsz hk => ?_
    have eu : u' = u := by
      have h2 : its.toArray[i]? = some u := by simpa using hu
      rw [h2] at hP; cases hP; rfl
    subst eu
    refine ⟨_, rfl, wpAny_letOwnedTupleGo_enum (s := { s with heap := h', toks := tk + 1 }) ho fun h'' he' sb => ?_⟩
    have hT2 : h''.get? s.heap.objs.size = some { cls := .type "tuple", data := .seq #[.int i tk, u'] } := (sb.2 _ (Nat.ne_of_gt hel)).trans hT
    have new : ObjOk X.prog X.w (upd H s.heap.objs.size (.tup [.int (i : Nat), x])) h'' s.heap.objs.size (.tup [.int (i : Nat), x]) :=
      ⟨by show 2 ≤ sizeLine; decide, [.int i tk, u'], .cons ⟨_, rfl⟩ (.cons ru .nil), ⟨_, hT2, rfl, _, rfl⟩⟩
    have I1 : L2.Inv X pins σ (upd H s.heap.objs.size (.tup [.int (i : Nat), x])) { s with heap := h'', toks := tk + 1 } :=
      I.turnedNew (ch := [e, it]) (fun b ob hb q => (sb.2 b (fun z => hb (by simp [z]))).trans (hk b ob (fun z => hb (by simp [z])) (fun z => hb (by simp [z])) q)) hf (Nat.le_refl _) new
    refine ⟨.ref s.heap.objs.size, _, I1, rfl, ⟨_, x, rfl, I.hok.fresh (Nat.le_refl _), rfl, fun ys hy => by rw [I.tuple_inj hy hq]; exact hx⟩, ⟨⟨u', ?_⟩, hst'.1.at fun o q => (sb.2 it (Ne.symm hne)).trans q, hne, hea, hia⟩, fun b hb => ?_⟩
    · have e1 : ((i + 1 : Nat) : Int) = (i : Int) + 1 := by omega
      rw [e1]; exact he'
    · have hb' : b < s.heap.objs.size := by
        have e' : b = e ∨ b = it := by simpa using hb
        rcases e' with z | z
        · rw [z]; exact hel
        · rw [z]; exact hil
      rw [upd_ne (Nat.ne_of_lt hb')]
      exact (hf b hb).1
  done := by
    intro X hP hw hK hc i pins s σ H E I hf st hg
    subst hP hw hK
    obtain ⟨⟨old, he⟩, hit, hne, hea, hia⟩ := st
    obtain ⟨xs, hq, hx⟩ := hg
    obtain ⟨its, rv, p, hz⟩ := I.tuple hq
    obtain ⟨f0, f1, f2, f3, f4, f5⟩ := hf it (by simp)
    have hl := rv.length
    have hi : i = its.toArray.size := by simp; omega
    subst hi
    exact wpAny_pyNext_enum_endD (Draws.tuple (prog := X.prog) (w := X.w) (A := X.A.in1) (I.ok.hd hc) it a (Ne.symm hia) its.toArray) he ⟨hit, p⟩ fun h' eb => ⟨rfl, I.turned (t' := s.toks) (fun b o hb q => eb b o hb q) f0 f1 f3 f4 f5⟩
  self := fun A i s Q E st h => let ⟨⟨_, he⟩, _⟩ := st; wpAny_pyIter_enum he h
def iEnumX (K : PySem.W.Frag) (ta : TA) : TI := fun σ H R => ta σ H fun vs H1 => ∃ a xs, vs = [.ref a] ∧ ((SqT K H1 a xs ∧ R (IteT K a) H1) ∨ (SqL K H1 a xs ∧ R (Ite K a) H1))
theorem pi_enumX {X : Cx} {e : Expr} {ta : TA} {p pos tpos : Pos} {elts : List Expr} {kk : Nat} (hg : Gl X "enumerate") (hm : X.mg "enumerate" = none) (ha : PA X [e] ta) (hs : starEach [e] X.env = [(false, eval e X.env)] := by rfl) :
    PI X (.Tuple elts kk tpos) (.Call (.Name "enumerate" p) [e] [] pos) (iEnumX X.K ta) := by
  refine ⟨fun pins s σ H R I h => ?_⟩
  refine Call_ (ld_blt I hg hm boot_enumerate (PyProof.Rows.callWith_type1 (thn (ha.run pos pins s σ H _ I h) fun us s1 ⟨vs, H1, I1, r1, q1⟩ => ?_) hs rfl))
  obtain ⟨a, xs, ex, q⟩ := q1
  subst ex
  cases r1 with
  | cons r rr =>
    cases rr
    cases r
    have fp : ∀ b ∈ [s1.heap.objs.size + 1, s1.heap.objs.size], FpOk X pins H1 b := fun b hb => by
      have e' : b = s1.heap.objs.size + 1 ∨ b = s1.heap.objs.size := by simpa using hb
      have hle : s1.heap.objs.size ≤ b := by
        rcases e' with z | z
        · rw [z]; exact Nat.le_add_right _ _
        · rw [z]; exact Nat.le_refl _
      exact I1.fpOk hle (I1.hok.fresh hle)
    rcases q with ⟨hq, q⟩ | ⟨hq, q⟩
    · obtain ⟨its, rv, p', hz⟩ := I1.tuple hq
      have hal : a < s1.heap.objs.size := by obtain ⟨_, q, _⟩ := p'; exact Heap.lt_size q
      refine enum_begins1 (begins_tuple a its.toArray) p' fun h' he hit hsz hk => wpAny_pyIter_enum he ?_
      have I2 : L2.Inv X pins σ H1 { s1 with heap := h' } := I1.kept (t' := s1.toks) hk
      exact ⟨s1.heap.objs.size + 1, [s1.heap.objs.size + 1, s1.heap.objs.size], _, _, H1, rfl, I2, turn_enumT a (s1.heap.objs.size + 1) s1.heap.objs.size, ⟨⟨.none, he⟩, ⟨_, hit, rfl, rfl⟩, Nat.succ_ne_self _, Nat.ne_of_gt (Nat.lt_succ_of_lt hal), Nat.ne_of_gt hal⟩, fp, q⟩
    · obtain ⟨its, rv, p', hz⟩ := I1.list hq
      refine call_enumerate_list p'.isList fun h' he hit hsz hk => wpAny_pyIter_enum he ?_
      have I2 : L2.Inv X pins σ H1 { s1 with heap := h' } := I1.kept (t' := s1.toks) hk
      exact ⟨s1.heap.objs.size + 1, [s1.heap.objs.size + 1, s1.heap.objs.size], _, _, H1, rfl, I2, turn_enum a (s1.heap.objs.size + 1) s1.heap.objs.size, ⟨⟨.none, he⟩, hit, Nat.succ_ne_self _⟩, fp, q⟩
theorem gives_enumT {K : PySem.W.Frag} {H : Hp} {G : Gh} {S : Sto} {a : Addr} {vs : List V} {xs : List PyData} (rp : Rep K H G S) (fa : SqT K H a vs) (ta : DnAll K G.φ H xs vs) : Gives K (IteT K a) H G S (enumP 0 xs) where
  go := fun H1 G1 S1 x r i hi => by
    rw [enumP_len, ta.length] at hi
    exact ⟨vs, vs[i], x.tup rp fa, by simp⟩
  yld := fun H1 G1 S1 x r i d e v H' y => by
    obtain ⟨T, u, rfl, hT, rfl, y1⟩ := y
    have e1 := y1 vs (x.tup rp fa)
    obtain ⟨d1, ed1, dn1⟩ := (x.dnAll rp ta).getV e1
    obtain ⟨x', h1, rfl⟩ := enumP_get 0 xs i d e
    rw [ed1] at h1; cases h1
    have e0 : ((0 + i : Nat) : Int) = (i : Int) := by rw [Nat.zero_add]
    rw [e0]
    obtain ⟨p1, p2, p3⟩ := pair_new r hT (Dn.int (i : Int)) dn1
    exact ⟨p1, p2, p3, .inr ⟨T, _, hT, rfl⟩⟩
  stop := fun H1 G1 S1 x r => by
    rw [enumP_len, ta.length]
    exact ⟨vs, x.tup rp fa, rfl⟩
def enumXM : List D → M (List D) := fun ds S => match ds with
  | [.p (.list xs)] => .ok (enumP 0 xs) S
  | [.p (.tuple xs)] => .ok (enumP 0 xs) S
  | _ => .bad
theorem di_enumX {X : Cx} {W : WX} {a : Expr} {p pos : Pos} {fa : FA} {tpos : Pos} {elts : List Expr} {kk : Nat} (hg : Gl X "enumerate") (hm : X.mg "enumerate" = none) (ha : DA X W [a] fa) (hs : starEach [a] X.env = [(false, eval a X.env)] := by rfl) :
    DI X W (.Tuple elts kk tpos) (.Call (.Name "enumerate" p) [a] [] pos) (iA enumXM fa) := by
  refine ⟨PI.imp (pi_enumX hg hm ha.run hs) fun σ H R ⟨G, S, ρ, rs, rp, q⟩ => ⟨G, S, ρ, rs, rp, (Aft.bind q).mono fun ds H1 G1 S1 x1 r1 q1 vs dv => ?_⟩⟩
  unfold enumXM at q1
  split at q1
  · obtain ⟨v, rfl, d1⟩ := denL1 dv
    obtain ⟨a, vs, rfl, fa, ta⟩ := den_lst d1
    exact ⟨a, vs, rfl, .inr ⟨SqL.of (fa _ r1.phi), q1 H1 G1 Ext.refl r1 _ (gives_enum r1 fa ta)⟩⟩
  · obtain ⟨v, rfl, d1⟩ := denL1 dv
    obtain ⟨a, vs, rfl, hq, ta⟩ := den_tup d1
    exact ⟨a, vs, rfl, .inl ⟨hq, q1 H1 G1 Ext.refl r1 _ (gives_enumT r1 hq ta)⟩⟩
  · exact q1.elim
@[simp] theorem enumXM_t {xs : List PyData} {S : Sto} : enumXM [.p (.tuple xs)] S = .ok (enumP 0 xs) S := rfl
@[simp] theorem enumXM_l {xs : List PyData} {S : Sto} : enumXM [.p (.list xs)] S = .ok (enumP 0 xs) S := rfl
end DL

namespace DL
open PySem L2

def opAddX : D → D → M D := fun x y S => match lstOf S x, lstOf S y with
  | some xs, some ys => if xs.length + ys.length ≤ LIM then .ok (.p (.list (xs ++ ys))) S else .bad
  | _, _ => opAdd x y S
theorem sim_addX {K : PySem.W.Frag} : Sim2 K (rAddD K) opAddX := by
  intro W σ H G S x y v w Q rp dx dy q
  unfold opAddX at q
  split at q
  · rename_i xs ys e1 e2
    obtain ⟨a, vs, rfl, ha, ta⟩ := lstOf_den rp e1 dx
    obtain ⟨b, ws, rfl, hb, tb⟩ := lstOf_den rp e2 dy
    by_cases c : xs.length + ys.length ≤ LIM
    · rw [if_pos c] at q
      exact .inr (.inr (.inl ⟨a, b, vs, ws, rfl, rfl, ha, hb, by rw [← ta.length, ← tb.length]; exact Nat.le_trans c LIM_le, fun p hp => q.newLst rp (ta.append tb) hp⟩))
    · rw [if_neg c] at q; exact q.elim
  · exact sim_add W σ H G S x y v w Q rp dx dy q
theorem de_addX {X : Cx} {W : WX} {a b : Expr} {f h : FE} {pos : Pos} (ha : DE X W a f) (hb : DE X W b h) : DE X W (.BinOp a .Add b pos) (e2 opAddX f h) :=
  de_bin (op_add.or (op_add_str.or (op_cat.or op_catA))) sim_addX ha hb
@[simp] theorem opAddX_i {i j : Int} {S : Sto} : opAddX (.p (.int i)) (.p (.int j)) S = .ok (.p (.int (i + j))) S := rfl
theorem addX_s {i j : Str} {S : Sto} (h : i.length + j.length ≤ LIM) : opAddX (.p (.str i)) (.p (.str j)) S = .ok (.p (.str (i ++ j))) S := add_s h
theorem addX_t {i j : List PyData} {S : Sto} (h : i.length + j.length ≤ LIM) : opAddX (.p (.tuple i)) (.p (.tuple j)) S = .ok (.p (.tuple (i ++ j))) S := add_t h
theorem addX_l {i j : List PyData} {S : Sto} (h : i.length + j.length ≤ LIM) : opAddX (.p (.list i)) (.p (.list j)) S = .ok (.p (.list (i ++ j))) S := by simp [opAddX, lstOf, h]
theorem addX_po {i : Nat} {xs ys : List PyData} {S : Sto} (h : S[i]? = some (.lst ys)) (hl : xs.length + ys.length ≤ LIM) : opAddX (.p (.list xs)) (.ob i) S = .ok (.p (.list (xs ++ ys))) S := by simp [opAddX, lstOf, h, hl]
theorem addX_op {i : Nat} {xs ys : List PyData} {S : Sto} (h : S[i]? = some (.lst ys)) (hl : ys.length + xs.length ≤ LIM) : opAddX (.ob i) (.p (.list xs)) S = .ok (.p (.list (ys ++ xs))) S := by simp [opAddX, lstOf, h, hl]

/-- but for the object i the store is as before -/
def Oth (i : Nat) (S S' : Sto) : Prop := ∀ j, j ≠ i → S'[j]? = S[j]?
theorem Oth.refl {i : Nat} {S : Sto} : Oth i S S := fun _ _ => rfl
theorem Oth.trans {i : Nat} {S S1 S2 : Sto} (a : Oth i S S1) (b : Oth i S1 S2) : Oth i S S2 := fun j hj => (b j hj).trans (a j hj)
section
variable {c : DrC} {cs : List PyData} {i L : Nat} {n m : Int} {S : Sto} {Q : D → Sto → Prop} {X : Exn → Sto → Prop}
theorem drawK_ok (hc0 : c.ok) (hc : Cells cs) (h : Tape cs i L n S) (hn : n ≤ 1000000000000) (hm : 0 < m) (hm2 : m.natAbs.log2 < 9000) :
    ∃ g S', runF 6 (drawB2 c) [.ob i, .p (.int m)] S = .ok (.p (.int g)) S' ∧ 0 ≤ g ∧ g < m ∧ Tape cs i L (n + 1) S' ∧ Oth i S S' := by
  obtain ⟨hl, p, l, h0, h1, hS⟩ := h
  obtain ⟨g, p', l', a, b, c', d, e⟩ := drawB2_ok hc0 hc.1 hc.2 hS h0 (by omega) hm hm2
  refine ⟨g, _, e, a, b, ⟨by rw [List.length_set]; exact hl, p', l', c', by omega, tp_at hS⟩, fun j hj => ?_⟩
  rw [List.getElem?_set_ne (Ne.symm hj)]
theorem drawK_wp (hc0 : c.ok) (hc : Cells cs) (h : Tape cs i L n S) (hn : n ≤ 1000000000000) (hm : 0 < m) (hm2 : m.natAbs.log2 < 9000)
    (q : ∀ g S', 0 ≤ g → g < m → Tape cs i L (n + 1) S' → Oth i S S' → Q (.p (.int g)) S') : wp (cutX S.length (runF 6 (drawB2 c) [.ob i, .p (.int m)] S)) Q X := by
  obtain ⟨g, S', e, a, b, c, o⟩ := drawK_ok hc0 hc h hn hm hm2
  rw [e, cutX_same (c.1.trans h.1.symm)]
  exact q g S' a b c o
theorem pickK_wp (hc0 : c.ok) {xs : List PyData} (hc : Cells cs) (h : Tape cs i L n S) (hn : n ≤ 1000000000000) (hx : xs ≠ []) (hx2 : xs.length < 1000000)
    (q : ∀ d S', d ∈ xs → Tape cs i L (n + 1) S' → Oth i S S' → Q (.p d) S') : wp (cutX S.length (runF 2 (pickBX (runF 6 (drawB2 c))) [.ob i, .p (.list xs)] S)) Q X := by
  have hl : 0 < xs.length := List.length_pos_iff.mpr hx
  refine wp_cutXS ?_
  rw [wp_run]
  show wpS (pickBX (runF 6 (drawB2 c)) [some (.ob i), some (.p (.list xs))] S) _
  unfold pickBX
  simp
  refine drawK_wp hc0 hc h hn (by omega) (by
    have := lg (n := ((xs.length : Int)).natAbs) (k := 40) (by have : (2 : Nat) ^ 40 = 1099511627776 := by decide
                                                               omega) (by decide)
    omega) fun g S' g0 g1 t o => ?_
  obtain ⟨d, e2, hd⟩ := atI_ok g0 g1
  simp [subs_l e2]
  exact ⟨t.1.trans h.1.symm, q d S' hd t o⟩
end
section
variable {ρ : Ev} {S : Sto} {i : Nat} {xs ys : List PyData} {y : PyData} {m : D → List D → M D} {f : FE} {fa : FA}
@[simp] theorem eLm_ : eLm m f fa ρ S = (f ρ S).bind fun o S1 => match rlOf S1 o with
  | some _ => (fa ρ S1).bind fun ds S2 => m o ds S2
  | none => .bad := rfl
theorem rlOf_ob (h : S[i]? = some (.lst xs)) : rlOf S (.ob i) = some xs := by simp [rlOf, h]
theorem lstOf_ob (h : S[i]? = some (.lst xs)) : lstOf S (.ob i) = some xs := by simp [lstOf, h]
theorem append_ok (h : S[i]? = some (.lst xs)) (hl : xs.length < 1000000) : appendM (.ob i) [.p y] S = .ok (.p .none) (S.set i (.lst (xs ++ [y]))) := by simp [appendM, h, LIM, hl]
theorem extend_ok (h : S[i]? = some (.lst xs)) (hl : xs.length + ys.length ≤ 1000000) : extendM (.ob i) [.p (.list ys)] S = .ok (.p .none) (S.set i (.lst (xs ++ ys))) := by simp [extendM, h, lstOf, LIM, hl]
theorem pop_ok (h : S[i]? = some (.lst (xs ++ [y]))) : popM (.ob i) [] S = .ok (.p y) (S.set i (.lst xs)) := by simp [popM, h]
theorem popAt_ok {k : Nat} (h : S[i]? = some (.lst xs)) (hk : k ≤ 1000000) (hy : xs[k]? = some y) : popM (.ob i) [.p (.int k)] S = .ok (.p y) (S.set i (.lst (xs.eraseIdx k))) := by
  have : (k : Int) ≤ 1000000 := by omega
  simp [popM, h, this, hy]
theorem set_at {o : MO} (h : i < S.length) : (S.set i o)[i]? = some o := by rw [List.getElem?_set_self h]
theorem set_ne {o : MO} {j : Nat} (h : j ≠ i) : (S.set i o)[j]? = S[j]? := List.getElem?_set_ne (Ne.symm h)
theorem Tape.set {cs : List PyData} {t L : Nat} {n : Int} {o : MO} (h : Tape cs t L n S) (hi : i ≠ t) : Tape cs t L n (S.set i o) := by
  obtain ⟨a, p, l, b, c, d⟩ := h
  exact ⟨by rw [List.length_set]; exact a, p, l, b, c, by rw [List.getElem?_set_ne hi]; exact d⟩
theorem Tape.app {cs : List PyData} {t L : Nat} {n : Int} {o : MO} (h : Tape cs t L n S) (ht : t < L) : Tape cs t (L + 1) n (S ++ [o]) := by
  obtain ⟨a, p, l, b, c, d⟩ := h
  exact ⟨by rw [List.length_append, a]; rfl, p, l, b, c, by rw [List.getElem?_append_left (by omega)]; exact d⟩
theorem Tape.cut {cs : List PyData} {t L L' : Nat} {n : Int} (h : Tape cs t L' n S) (ht : t < L) (hl : L ≤ L') : Tape cs t L n (S.take L) := by
  obtain ⟨a, p, l, b, c, d⟩ := h
  exact ⟨by rw [List.length_take, a]; omega, p, l, b, c, by rw [List.getElem?_take, if_pos ht]; exact d⟩
end
end DL

namespace DL
open PySem L2 PySem.Spec PyProof.Rows

/-- the zip at z, as it stands at any turn -/
abbrev IsZ (h : Heap) (z TI TO : Addr) (f0 : Value) (f : Bool) : Prop :=
  h.get? z = some { cls := .type "zip", dict := none, data := .fields #[f0, .bool f, .bool false, .ref TI, .ref TO], slots := #[] }
def ZSt (h : Heap) (z TI TO : Addr) : Prop := ∃ f0 f, IsZ h z TI TO f0 f ∧ (f0 = .none ∨ ∃ T : Addr, f0 = rawInt T)
section
variable {prog : Program} {w : World} {A : Around} {E : Value → Shared → Prop} {s : Shared} {z TI TO i1 i2 : Addr} {fp1 fp2 : List Addr} {n1 n2 i : Nat} {P1 P2 : Nat → Value → Prop} {St1 St2 : Nat → Heap → Prop} {a1 a2 : Value} {f0 : Value} {f : Bool}

theorem isFree_zip {Q : Bool → Shared → Prop} (hz : IsZ s.heap z TI TO f0 f) (hf : f0 = .none ∨ ∃ T : Addr, f0 = rawInt T) (h1 : Q true s)
    (h2 : ∀ h', IsZ h' z TI TO f0 true → Heap.SameBut z s.heap h' → Q false { s with heap := h' }) : wpAny (model prog w) A (Builtin.SmallTypes.ownedTupleIsFree (.ref z)) Q E s := by
  unfold Builtin.SmallTypes.ownedTupleIsFree
  refine wpAny_bind (wpAny_field hz rfl (x := f0) rfl ?_)
  rcases hf with rfl | ⟨T, rfl⟩
  · exact wpAny_pure h1
  · show wpAny _ _ (loadIfAlive ((T : Int).toNat) >>= _) _ _ _
    rw [Int.toNat_natCast]
    refine wpAny_bind ?_
    intro a b c
    revert a b c
    change wpAny (model prog w) A (loadIfAlive T) _ E s
    cases hT : s.heap.get? T with
    | none =>
      have : wpAny (model prog w) A (loadIfAlive T) (fun o s' => o = none ∧ s' = s) E s := fun _ _ _ => ⟨hT, rfl⟩
      refine wpAny_mono this (fun o s' ⟨e1, e2⟩ => ?_) (fun _ _ h => h)
      subst e1 e2
      exact wpAny_pure h1
    | some oT =>
      refine PySem.W.kdx_alive hT ?_
      simp only [Option.isNone_some, Bool.false_eq_true, if_false]
      refine wpAny_bind (wpAny_field hz rfl (x := .bool f) rfl ?_)
      cases f with
      | true =>
        rw [if_neg (show ¬ ((Value.bool true != Value.bool true) = true) from Bool.false_ne_true)]
        exact wpAny_pure (h2 s.heap hz (Heap.SameBut.refl _ _))
      | false =>
        rw [if_pos (show (Value.bool false != Value.bool true) = true from rfl)]
        exact wpAny_bind (wpAny_setField_rec hz (by simp) fun h₁ hz₁ hs₁ => wpAny_pure (h2 h₁ hz₁ hs₁))
theorem zipX_next_item {Q : Value → Shared → Prop} (S : ZipSep2 z TI TO i1 i2 fp1 fp2) (D1 : Draws prog w A i1 fp1 n1 P1 St1) (D2 : Draws prog w A i2 fp2 n2 P2 St2)
    (hzs : ZSt s.heap z TI TO) (hTI : IsTupOf2 s.heap TI (.ref i1) (.ref i2)) (hTO : IsTupOf2 s.heap TO a1 a2) (st1 : St1 i s.heap) (st2 : St2 i s.heap) (hlt1 : i < n1) (hlt2 : i < n2)
    (hQ : ∀ x1 x2 h' tk, P1 i x1 → P2 i x2 → ZSt h' z TI TO → (∃ b1 b2, IsTupOf2 h' TO b1 b2) → St1 (i + 1) h' → St2 (i + 1) h' → IsTupOf2 h' s.heap.objs.size x1 x2 → h'.objs.size = s.heap.objs.size + 1 →
      (∀ c o, c ≠ z → c ≠ TO → c ≠ i1 → c ≠ i2 → s.heap.get? c = some o → h'.get? c = some o) → Q (.ref s.heap.objs.size) { s with heap := h', toks := tk }) :
    wpAny (model prog w) A (Builtin.«zip.__next__» ⟨[.ref z], []⟩) (fun fin s' => ∃ v, fin = .done (.ret v) ∧ Q v s') E s := by
  obtain ⟨hp, g, d, tk0, os⟩ := s
  obtain ⟨f0, f, hz, hf⟩ := hzs
  show wpAny _ _ (field (.ref z) 2 >>= _) _ _ _
  refine wpAny_bind (wpAny_field hz rfl (x := .bool false) rfl ?_)
  show wpAny _ _ (field (.ref z) 3 >>= _) _ _ _
  refine wpAny_bind (wpAny_field hz rfl (x := .ref TI) rfl ?_)
  refine wpAny_bind (wpAny_seqItems hTI rfl ?_)
  show wpAny _ _ (Builtin.SmallTypes.ownedTupleIsFree (.ref z) >>= _) _ _ _
  refine wpAny_bind (isFree_zip hz hf ?_ fun h₁ hz₁ hs₁ => ?_)
  · simp only [if_true]
    refine wpAny_bind (wpAny_rule ?_)
    refine wpAny_bind (wpAny_field hz rfl (x := .ref TO) rfl ?_)
    refine wpAny_bind (wpAny_setField_rec hz (by simp) fun g0 hz0 hs0 => ?_)
    replace hz0 : IsZ g0 z TI TO .ellipsis f := hz0
    replace hs0 : Heap.SameBut z hp g0 := hs0
    refine wpAny_bind ?_
    simp only [List.zipIdx_cons, List.zipIdx_nil, List.forIn_cons, List.forIn_nil]
    refine wpAny_bind (wpAny_bind (wpAny_onRaise ?_))
    show wpAny _ _ (Builtin.SmallTypes.nextOf (.ref i1) >>= _) _ _ ⟨g0, g, d, tk0, os⟩
    refine wpAny_bind (D1.item i _ _ _ hlt1 (D1.over st1 hs0 S.zf1) fun x1 p1 tk1 hx1 sn1 hp1 => wpAny_pure ?_)
    replace hp1 : Heap.SameBut i1 g0 p1 := hp1
    have hU1 : IsTupOf2 p1 TO a1 a2 := hp1.extBut _ _ S.Ti1 (hs0.extBut _ _ S.TOz hTO)
    refine wpAny_bind (wpAny_seqItems (s := ⟨p1, g, d, tk1, os⟩) hU1 rfl ?_)
    refine wpAny_bind (updateSeq_IsTupOf2 (s := ⟨p1, g, d, tk1, os⟩) hU1 fun g1 hT1 hs1 => ?_)
    replace hT1 : IsTupOf2 g1 TO x1 a2 := hT1
    replace hs1 : Heap.SameBut TO p1 g1 := hs1
    refine wpAny_bind (wpAny_letGo (wpAny_pure ?_))
    refine wpAny_bind (wpAny_bind (wpAny_onRaise ?_))
    show wpAny _ _ (Builtin.SmallTypes.nextOf (.ref i2) >>= _) _ _ ⟨g1, g, d, tk1, os⟩
    refine wpAny_bind (D2.item i _ _ _ hlt2 (D2.over (D2.over (D2.over st2 hs0 S.zf2) hp1 S.sep1_2) hs1 S.Tf2) fun x2 p2 tk2 hx2 sn2 hp2 => wpAny_pure ?_)
    replace hp2 : Heap.SameBut i2 g1 p2 := hp2
    have hU2 : IsTupOf2 p2 TO x1 a2 := hp2.extBut _ _ S.Ti2 hT1
    refine wpAny_bind (wpAny_seqItems (s := ⟨p2, g, d, tk2, os⟩) hU2 rfl ?_)
    refine wpAny_bind (updateSeq_IsTupOf2 (s := ⟨p2, g, d, tk2, os⟩) hU2 fun g2 hT2 hs2 => ?_)
    replace hT2 : IsTupOf2 g2 TO x1 x2 := hT2
    replace hs2 : Heap.SameBut TO p2 g2 := hs2
    refine wpAny_bind (wpAny_letGo (wpAny_pure (wpAny_pure ?_)))
    refine wpAny_bind (wpAny_seqItems (s := ⟨g2, g, d, tk2, os⟩) hT2 rfl ?_)
    refine wpAny_bind (wpAny_newTuple ?_)
    have hsz : g2.objs.size = hp.objs.size := by rw [hs2.1, hp2.1, hs1.1, hp1.1, hs0.1]
    have hzz : IsZ g2 z TI TO .ellipsis f := (hs2.extBut _ _ S.TOz.symm (hp2.extBut _ _ S.zi2 (hs1.extBut _ _ S.TOz.symm (hp1.extBut _ _ S.zi1 hz0))))
    have hkk : ∀ c o, c ≠ z → c ≠ TO → c ≠ i1 → c ≠ i2 → hp.get? c = some o → g2.get? c = some o := fun c o cz cT c1 c2 e =>
      (hs2.extBut _ _ cT (hp2.extBut _ _ c2 (hs1.extBut _ _ cT (hp1.extBut _ _ c1 (hs0.extBut _ _ cz e)))))
    have hj1 : St1 (i + 1) g2 := (D1.over (D1.over (D1.over sn1 hs1 S.Tf1) hp2 S.sep2_1) hs2 S.Tf1)
    have hj2 : St2 (i + 1) g2 := (D2.over sn2 hs2 S.Tf2)
    have hzlt : z < g2.objs.size := Heap.lt_size hzz
    show wpAny _ _ (Builtin.SmallTypes.ownedTupleHandOut (.ref z) (.ref g2.objs.size) >>= _) _ _ ⟨g2.push { cls := .type "tuple", data := .seq #[x1, x2] }, g, d, tk2, os⟩
    refine wpAny_bind ?_
    unfold Builtin.SmallTypes.ownedTupleHandOut
    have hz₆ : IsZ (g2.push { cls := .type "tuple", data := .seq #[x1, x2] }) z TI TO .ellipsis f := Heap.get?_push_of_some _ hzz
    refine wpAny_bind (wpAny_setField_rec hz₆ (by simp) fun h₇ hz₇ hs₇ => ?_)
    replace hz₇ : IsZ h₇ z TI TO (rawInt g2.objs.size) f := hz₇
    refine wpAny_setField_rec hz₇ (by simp) fun h₈ hz₈ hs₈ => ?_
    replace hz₈ : IsZ h₈ z TI TO (rawInt g2.objs.size) false := hz₈
    replace hs₇ : Heap.SameBut z (g2.push { cls := .type "tuple", data := .seq #[x1, x2] }) h₇ := hs₇
    replace hs₈ : Heap.SameBut z h₇ h₈ := hs₈
    have up : ∀ c o, c ≠ z → g2.get? c = some o → h₈.get? c = some o := fun c o c1 e => hs₈.extBut _ _ c1 (hs₇.extBut _ _ c1 (Heap.get?_push_of_some _ e))
    have hT₈ : IsTupOf2 h₈ g2.objs.size x1 x2 := hs₈.extBut _ _ (Nat.ne_of_gt hzlt) (hs₇.extBut _ _ (Nat.ne_of_gt hzlt) (Heap.get?_push_size _ rfl))
    have hz8 : h₈.objs.size = g2.objs.size + 1 := by rw [hs₈.1, hs₇.1, Heap.size_push]
    rw [hsz] at hz₈ hT₈ hz8
    refine wpAny_pure ⟨_, rfl, ?_⟩
    show Q (.ref g2.objs.size) ⟨h₈, g, d, tk2, os⟩
    rw [hsz]
    exact hQ x1 x2 h₈ tk2 hx1 hx2 ⟨_, _, hz₈, .inr ⟨_, rfl⟩⟩ ⟨_, _, up _ _ S.TOz hT2⟩ (D1.frame _ _ _ hj1 fun b hb o e => up b o (fun q => S.zf1 (q ▸ hb)) e) (D2.frame _ _ _ hj2 fun b hb o e => up b o (fun q => S.zf2 (q ▸ hb)) e) hT₈ hz8 fun c o cz cT c1 c2 e => up c o cz (hkk c o cz cT c1 c2 e)
  · replace hs₁ : Heap.SameBut z hp h₁ := hs₁
    simp only [Bool.false_eq_true, if_false]
    refine wpAny_bind ?_
    rw [← Array.forIn_toList]
    simp only [List.forIn_cons, List.forIn_nil]
    refine wpAny_bind (wpAny_bind (wpAny_holding ?_))
    show wpAny _ _ (Builtin.SmallTypes.nextOf (.ref i1) >>= _) _ _ ⟨h₁, g, d, tk0, os⟩
    refine wpAny_bind (D1.item i _ _ _ hlt1 (D1.over st1 hs₁ S.zf1) fun x1 p1 tk1 hx1 sn1 hp1 => wpAny_pure ?_)
    replace hp1 : Heap.SameBut i1 h₁ p1 := hp1
    refine wpAny_pure ?_
    refine wpAny_bind (wpAny_bind (wpAny_holding ?_))
    show wpAny _ _ (Builtin.SmallTypes.nextOf (.ref i2) >>= _) _ _ ⟨p1, g, d, tk1, os⟩
    refine wpAny_bind (D2.item i _ _ _ hlt2 (D2.over (D2.over st2 hs₁ S.zf2) hp1 S.sep1_2) fun x2 p2 tk2 hx2 sn2 hp2 => wpAny_pure ?_)
    replace hp2 : Heap.SameBut i2 p1 p2 := hp2
    refine wpAny_pure (wpAny_pure ?_)
    show wpAny _ _ (newTuple [x1, x2] >>= _) _ _ _
    refine wpAny_bind (wpAny_newTuple ?_)
    have hsz : p2.objs.size = hp.objs.size := by rw [hp2.1, hp1.1, hs₁.1]
    have hz3 : IsZ p2 z TI TO f0 true := hp2.extBut _ _ S.zi2 (hp1.extBut _ _ S.zi1 hz₁)
    have hk : ∀ c o, c ≠ z → c ≠ i1 → c ≠ i2 → hp.get? c = some o → p2.get? c = some o := fun c o c1 c2 c3 e => hp2.extBut _ _ c3 (hp1.extBut _ _ c2 (hs₁.extBut _ _ c1 e))
    have hj1 : St1 (i + 1) p2 := D1.over sn1 hp2 S.sep2_1
    refine wpAny_pure ⟨_, rfl, ?_⟩
    have hpp : IsTupOf2 (p2.push { cls := .type "tuple", data := .seq #[x1, x2] }) p2.objs.size x1 x2 := Heap.get?_push_size _ rfl
    have hz4 : (p2.push { cls := .type "tuple", data := .seq #[x1, x2] }).objs.size = p2.objs.size + 1 := Heap.size_push ..
    show Q (.ref p2.objs.size) ⟨p2.push _, g, d, tk2, os⟩
    rw [hsz] at hpp hz4 ⊢
    exact hQ x1 x2 _ tk2 hx1 hx2 ⟨_, _, Heap.get?_push_of_some _ hz3, hf⟩ ⟨a1, a2, Heap.get?_push_of_some _ (hk _ _ S.TOz S.Ti1 S.Ti2 hTO)⟩ (D1.frame _ _ _ hj1 fun b _ o e => Heap.get?_push_of_some _ e) (D2.frame _ _ _ sn2 fun b _ o e => Heap.get?_push_of_some _ e) hpp hz4 fun c o c1 _ c2 c3 e => Heap.get?_push_of_some _ (hk c o c1 c2 c3 e)

theorem zipX_next_end {Q : Fin → Shared → Prop} (S : ZipSep2 z TI TO i1 i2 fp1 fp2) (D1 : Draws prog w A i1 fp1 n1 P1 St1) (D2 : Draws prog w A i2 fp2 n2 P2 St2)
    (hzs : ZSt s.heap z TI TO) (hTI : IsTupOf2 s.heap TI (.ref i1) (.ref i2)) (hTO : IsTupOf2 s.heap TO a1 a2) (st1 : St1 i s.heap) (st2 : St2 i s.heap) (hle1 : i ≤ n1) (hle2 : i ≤ n2) (hend : i = n1 ∨ i = n2)
    (hE : ∀ h' tk e, (∀ c o, c ≠ z → c ≠ TO → c ≠ i1 → c ≠ i2 → s.heap.get? c = some o → h'.get? c = some o) → (∃ o, h'.get? e = some o ∧ o.cls = .type "StopIteration") → E (.ref e) { s with heap := h', toks := tk }) :
    wpAny (model prog w) A (Builtin.«zip.__next__» ⟨[.ref z], []⟩) Q E s := by
  obtain ⟨hp, g, d, tk0, os⟩ := s
  obtain ⟨f0, f, hz, hf⟩ := hzs
  show wpAny _ _ (field (.ref z) 2 >>= _) _ _ _
  refine wpAny_bind (wpAny_field hz rfl (x := .bool false) rfl ?_)
  show wpAny _ _ (field (.ref z) 3 >>= _) _ _ _
  refine wpAny_bind (wpAny_field hz rfl (x := .ref TI) rfl ?_)
  refine wpAny_bind (wpAny_seqItems hTI rfl ?_)
  show wpAny _ _ (Builtin.SmallTypes.ownedTupleIsFree (.ref z) >>= _) _ _ _
  refine wpAny_bind (isFree_zip hz hf ?_ fun h₁ hz₁ hs₁ => ?_)
  · simp only [if_true]
    refine wpAny_bind (wpAny_rule ?_)
    refine wpAny_bind (wpAny_field hz rfl (x := .ref TO) rfl ?_)
    refine wpAny_bind (wpAny_setField_rec hz (by simp) fun g0 hz0 hs0 => ?_)
    replace hz0 : IsZ g0 z TI TO .ellipsis f := hz0
    replace hs0 : Heap.SameBut z hp g0 := hs0
    refine wpAny_bind ?_
    simp only [List.zipIdx_cons, List.zipIdx_nil, List.forIn_cons, List.forIn_nil]
    refine wpAny_bind (wpAny_bind (wpAny_onRaise ?_))
    show wpAny _ _ (Builtin.SmallTypes.nextOf (.ref i1) >>= _) _ _ ⟨g0, g, d, tk0, os⟩
    by_cases hlt1 : i < n1
    · refine wpAny_bind (D1.item i _ _ _ hlt1 (D1.over st1 hs0 S.zf1) fun x1 p1 tk1 hx1 sn1 hp1 => wpAny_pure ?_)
      replace hp1 : Heap.SameBut i1 g0 p1 := hp1
      have hU1 : IsTupOf2 p1 TO a1 a2 := hp1.extBut _ _ S.Ti1 (hs0.extBut _ _ S.TOz hTO)
      refine wpAny_bind (wpAny_seqItems (s := ⟨p1, g, d, tk1, os⟩) hU1 rfl ?_)
      refine wpAny_bind (updateSeq_IsTupOf2 (s := ⟨p1, g, d, tk1, os⟩) hU1 fun g1 hT1 hs1 => ?_)
      replace hT1 : IsTupOf2 g1 TO x1 a2 := hT1
      replace hs1 : Heap.SameBut TO p1 g1 := hs1
      refine wpAny_bind (wpAny_letGo (wpAny_pure ?_))
      have hi2 : i = n2 := by omega
      refine wpAny_bind (wpAny_bind (wpAny_onRaise ?_))
      show wpAny _ _ (Builtin.SmallTypes.nextOf (.ref i2) >>= _) _ _ ⟨g1, g, d, tk1, os⟩
      refine wpAny_bind (D2.done ⟨g1, g, d, tk1, os⟩ _ _ (by rw [← hi2]; exact (D2.over (D2.over (D2.over st2 hs0 S.zf2) hp1 S.sep1_2) hs1 S.Tf2)) fun q e hq he => ?_)
      replace hq : Heap.ExtBut i2 g1 q := hq
      obtain ⟨oe, hoe, hce⟩ := he
      replace hoe : q.get? e = some oe := hoe
      have hzq : IsZ q z TI TO .ellipsis f := hq _ _ S.zi2 (hs1.extBut _ _ S.TOz.symm (hp1.extBut _ _ S.zi1 hz0))
      have hez : e ≠ z := fun x => by subst x; rw [hzq] at hoe; cases hoe; simp at hce
      refine wpAny_setField_rec (s := ⟨q, g, d, tk1, os⟩) hzq (by simp) fun q' _ hq' => ?_
      replace hq' : Heap.SameBut z q q' := hq'
      exact hE q' tk1 e (fun c o cz cT c1 c2 x => hq'.extBut _ _ cz (hq _ _ c2 (hs1.extBut _ _ cT (hp1.extBut _ _ c1 (hs0.extBut _ _ cz x))))) ⟨oe, hq'.extBut _ _ hez hoe, hce⟩
    · have hi1 : i = n1 := by omega
      refine wpAny_bind (D1.done ⟨g0, g, d, tk0, os⟩ _ _ (by rw [← hi1]; exact (D1.over st1 hs0 S.zf1)) fun q e hq he => ?_)
      replace hq : Heap.ExtBut i1 g0 q := hq
      obtain ⟨oe, hoe, hce⟩ := he
      replace hoe : q.get? e = some oe := hoe
      have hzq : IsZ q z TI TO .ellipsis f := hq _ _ S.zi1 hz0
      have hez : e ≠ z := fun x => by subst x; rw [hzq] at hoe; cases hoe; simp at hce
      refine wpAny_setField_rec (s := ⟨q, g, d, tk0, os⟩) hzq (by simp) fun q' _ hq' => ?_
      replace hq' : Heap.SameBut z q q' := hq'
      exact hE q' tk0 e (fun c o cz cT c1 c2 x => hq'.extBut _ _ cz (hq _ _ c1 (hs0.extBut _ _ cz x))) ⟨oe, hq'.extBut _ _ hez hoe, hce⟩
  · replace hs₁ : Heap.SameBut z hp h₁ := hs₁
    simp only [Bool.false_eq_true, if_false]
    refine wpAny_bind ?_
    rw [← Array.forIn_toList]
    simp only [List.forIn_cons, List.forIn_nil]
    refine wpAny_bind (wpAny_bind (wpAny_holding ?_))
    show wpAny _ _ (Builtin.SmallTypes.nextOf (.ref i1) >>= _) _ _ ⟨h₁, g, d, tk0, os⟩
    by_cases hlt1 : i < n1
    · refine wpAny_bind (D1.item i _ _ _ hlt1 (D1.over st1 hs₁ S.zf1) fun x1 p1 tk1 hx1 sn1 hp1 => wpAny_pure ?_)
      replace hp1 : Heap.SameBut i1 h₁ p1 := hp1
      refine wpAny_pure ?_
      have hi2 : i = n2 := by omega
      refine wpAny_bind (wpAny_bind (wpAny_holding ?_))
      show wpAny _ _ (Builtin.SmallTypes.nextOf (.ref i2) >>= _) _ _ ⟨p1, g, d, tk1, os⟩
      refine wpAny_bind (D2.done ⟨p1, g, d, tk1, os⟩ _ _ (by rw [← hi2]; exact (D2.over (D2.over st2 hs₁ S.zf2) hp1 S.sep1_2)) fun q e hq he => ?_)
      replace hq : Heap.ExtBut i2 p1 q := hq
      exact hE q tk1 e (fun c o cz cT c1 c2 x => hq _ _ c2 (hp1.extBut _ _ c1 (hs₁.extBut _ _ cz x))) he
    · have hi1 : i = n1 := by omega
      refine wpAny_bind (D1.done ⟨h₁, g, d, tk0, os⟩ _ _ (by rw [← hi1]; exact (D1.over st1 hs₁ S.zf1)) fun q e hq he => ?_)
      replace hq : Heap.ExtBut i1 h₁ q := hq
      exact hE q tk0 e (fun c o cz cT c1 c2 x => hq _ _ c1 (hs₁.extBut _ _ cz x)) he

theorem pyNext_zipX_item {Q : Option Value → Shared → Prop} (S : ZipSep2 z TI TO i1 i2 fp1 fp2) (D1 : Draws prog w A.in1 i1 fp1 n1 P1 St1) (D2 : Draws prog w A.in1 i2 fp2 n2 P2 St2)
    (hz : ZSt s.heap z TI TO) (hTI : IsTupOf2 s.heap TI (.ref i1) (.ref i2)) (hTO : IsTupOf2 s.heap TO a1 a2) (st1 : St1 i s.heap) (st2 : St2 i s.heap) (hlt1 : i < n1) (hlt2 : i < n2)
    (hQ : ∀ x1 x2 h' tk, P1 i x1 → P2 i x2 → ZSt h' z TI TO → (∃ b1 b2, IsTupOf2 h' TO b1 b2) → St1 (i + 1) h' → St2 (i + 1) h' → IsTupOf2 h' s.heap.objs.size x1 x2 → h'.objs.size = s.heap.objs.size + 1 →
      (∀ c o, c ≠ z → c ≠ TO → c ≠ i1 → c ≠ i2 → s.heap.get? c = some o → h'.get? c = some o) → Q (some (.ref s.heap.objs.size)) { s with heap := h', toks := tk }) :
    wpAny (model prog w) A (pyNext (.ref z)) Q E s := by
  have hT : s.TypeIs (.ref z) "zip" := by obtain ⟨f0, f, e, _⟩ := hz; exact ⟨_, e, rfl⟩
  unfold pyNext
  exact wpAny_bind (wpAny_attempt (wpAny_callSpecial?_slot (name := Str.ofString "__next__") hT F.slot_zip_next
    (wpAny_call_entry F.slot_zip_next hT F.entry_zip_next
      (zipX_next_item S D1 D2 hz hTI hTO st1 st2 hlt1 hlt2 fun x1 x2 h' tk y1 y2 b1 b2 d1 d2 b5 b6 b7 => wpAny_pure (hQ x1 x2 h' tk y1 y2 b1 b2 d1 d2 b5 b6 b7)) (F.args_zip_next_1 _))))
theorem pyNext_zipX_end {Q : Option Value → Shared → Prop} (S : ZipSep2 z TI TO i1 i2 fp1 fp2) (D1 : Draws prog w A.in1 i1 fp1 n1 P1 St1) (D2 : Draws prog w A.in1 i2 fp2 n2 P2 St2)
    (hz : ZSt s.heap z TI TO) (hTI : IsTupOf2 s.heap TI (.ref i1) (.ref i2)) (hTO : IsTupOf2 s.heap TO a1 a2) (st1 : St1 i s.heap) (st2 : St2 i s.heap) (hle1 : i ≤ n1) (hle2 : i ≤ n2) (hend : i = n1 ∨ i = n2)
    (hQ : ∀ h' tk, (∀ c o, c ≠ z → c ≠ TO → c ≠ i1 → c ≠ i2 → s.heap.get? c = some o → h'.get? c = some o) → Q none { s with heap := h', toks := tk }) : wpAny (model prog w) A (pyNext (.ref z)) Q E s := by
  have hT : s.TypeIs (.ref z) "zip" := by obtain ⟨f0, f, e, _⟩ := hz; exact ⟨_, e, rfl⟩
  unfold pyNext
  refine wpAny_bind (wpAny_attempt (wpAny_callSpecial?_slot (name := Str.ofString "__next__") hT F.slot_zip_next
    (wpAny_call_entry F.slot_zip_next hT F.entry_zip_next (zipX_next_end S D1 D2 hz hTI hTO st1 st2 hle1 hle2 hend fun h' tk e hk he => ?_) (F.args_zip_next_1 _))))
  obtain ⟨o, ho, hc⟩ := he
  refine wpAny_bind (wpAny_isInstance (T := "StopIteration") (b := true) ⟨o, ho, hc⟩ isSubtype_stop ?_)
  exact wpAny_pure (hQ _ _ hk)
theorem letGo_zipX {tg : Expr} {u : Value} {Q : Unit → Shared → Prop} (hz : ZSt s.heap z TI TO) (hQ : ∀ h', ZSt h' z TI TO → Heap.SameBut z s.heap h' → Q () { s with heap := h' }) :
    wpAny (model prog w) A (letOwnedTupleGo tg (.ref z) u) Q E s := by
  obtain ⟨f0, f, ho, hf⟩ := hz
  have h0 : Q () s := hQ s.heap ⟨f0, f, ho, hf⟩ (Heap.SameBut.refl _ _)
  unfold letOwnedTupleGo
  cases tg <;> first
    | exact wpAny_pure h0
    | (cases u <;> first
        | exact wpAny_pure h0
        | (rename_i T
           refine wpAny_bind (wpAny_load ho ?_)
           show wpAny _ _ (if (["enumerate", "zip", "dict_itemiterator", "dict_reverseitemiterator", "odict_iterator", "itertools.zip_longest", "itertools.pairwise"].contains "zip" && (#[f0, .bool f, .bool false, .ref TI, .ref TO] : Array Value)[0]? == some (rawInt T)) = true then _ else _) Q E s
           split
           · refine wpAny_bind (wpAny_rule ?_)
             show wpAny _ _ (setField (.ref z) 0 .none) Q E s
             exact wpAny_setField_rec ho (by simp) fun h' hz' hs' => hQ h' ⟨_, _, hz', .inl rfl⟩ hs'
           · exact wpAny_pure h0))
theorem pyIter_zipX {Q : Value → Shared → Prop} (hz : ZSt s.heap z TI TO) (h : Q (.ref z) s) : wpAny (model prog w) A (pyIter (.ref z)) Q E s := by
  have hT : s.TypeIs (.ref z) "zip" := by obtain ⟨f0, f, e, _⟩ := hz; exact ⟨_, e, rfl⟩
  refine wpAny_pyIter_slot hT F.slot_zip_iter (wpAny_call_entry F.slot_zip_iter hT F.entry_zip_iter ?_ (F.args_zip_iter_1 _))
  show wpAny _ _ (ret (.ref z)) _ _ s
  exact wpAny_pure ⟨_, rfl, "zip", _, hT, F.slot_zip_next.lookup, h⟩
end
/-- a list (true) or a tuple (false) -/
def SqX (K : PySem.W.Frag) : Bool → Hp → Addr → List V → Prop
  | true, H, a, xs => SqL K H a xs
  | false, H, a, xs => SqT K H a xs
def ItX : Bool → Heap → Addr → Addr → Nat → Prop
  | true, h, it, a, i => h.IsListIter it a i
  | false, h, it, a, i => h.IsTupleIter it a i
def IsX : Bool → Heap → Addr → Array Value → Prop
  | true, h, a, xs => h.IsList a xs
  | false, h, a, xs => h.IsTuple a xs
theorem ItX.at {b : Bool} {h h' : Heap} {it a : Addr} {i : Nat} (x : ItX b h it a i) (hk : ∀ o, h.get? it = some o → h'.get? it = some o) : ItX b h' it a i := by
  cases b
  · exact Heap.IsTupleIter.at (h := h) x hk
  · exact Heap.IsListIter.at (h := h) x hk
theorem ItX.obj {b : Bool} {h : Heap} {it a : Addr} {i : Nat} (x : ItX b h it a i) : ∃ o, h.get? it = some o ∧ ∀ v, o.data ≠ .cell v := by
  cases b
  · obtain ⟨o, e, _, d⟩ := x; exact ⟨o, e, fun v q => by rw [d] at q; cases q⟩
  · obtain ⟨o, e, _, d⟩ := x; exact ⟨o, e, fun v q => by rw [d] at q; cases q⟩
theorem draws_X {prog : Program} {w : World} {A : Around} (hh : A.handled = none) (b : Bool) (it l : Addr) (hne : l ≠ it) (items : Array Value) :
    Draws prog w A it [it, l] items.size (fun i v => items[i]? = some v) (fun i h => ItX b h it l i ∧ IsX b h l items) := by
  cases b
  · exact Draws.tuple hh it l hne items
  · exact Draws.list hh it l hne items
theorem inv_X {X : Cx} {pins : List (Addr × Obj)} {σ : L2.St} {H : Hp} {s : Shared} {b : Bool} {a : Addr} {xs : List V} (I : L2.Inv X pins σ H s) (hq : SqX X.K b H a xs) : ∃ its : List Value, Vals xs its ∧ IsX b s.heap a its.toArray ∧ a < s.heap.objs.size := by
  cases b
  · obtain ⟨its, rv, p, _⟩ := I.tuple hq
    exact ⟨its, rv, p, by obtain ⟨_, q, _⟩ := p; exact Heap.lt_size q⟩
  · obtain ⟨its, rv, p, _⟩ := I.list hq
    exact ⟨its, rv, p.isList, p.lt⟩
theorem inj_X {X : Cx} {pins : List (Addr × Obj)} {σ : L2.St} {H : Hp} {s : Shared} {b : Bool} {a : Addr} {xs ys : List V} (I : L2.Inv X pins σ H s) (h1 : SqX X.K b H a xs) (h2 : SqX X.K b H a ys) : xs = ys := by
  cases b
  · exact I.tuple_inj h1 h2
  · exact I.list_inj h1 h2
/-- the pairs of the two at a and b -/
def ItzX (K : PySem.W.Frag) (b1 b2 : Bool) (a b : Addr) : It :=
  ⟨fun i H => ∃ (xs ys : List V) (x y : V), SqX K b1 H a xs ∧ SqX K b2 H b ys ∧ xs[i]? = some x ∧ ys[i]? = some y,
    fun i H v H' => ∃ T x y, v = .ref T ∧ H T = none ∧ H' = upd H T (.tup [x, y]) ∧ (∀ xs, SqX K b1 H a xs → xs[i]? = some x) ∧ ∀ ys, SqX K b2 H b ys → ys[i]? = some y,
    fun i H => ∃ xs ys : List V, SqX K b1 H a xs ∧ SqX K b2 H b ys ∧ i = min xs.length ys.length⟩
theorem sep_of {z TI TO i1 i2 a b : Addr} (D : ZipApart z TI TO i1 i2 a b) : ZipSep2 z TI TO i1 i2 [i1, a] [i2, b] where
  TIz := D.TIz
  TOz := D.TOz
  TITO := D.TITO
  TIi1 := D.TIi1
  mem1 := by simp
  zf1 := by simp [D.i1z.symm, D.l1z.symm]
  Tf1 := by simp [D.TOi1, D.l1TO.symm]
  TIi2 := D.TIi2
  mem2 := by simp
  zf2 := by simp [D.i2z.symm, D.l2z.symm]
  Tf2 := by simp [D.TOi2, D.l2TO.symm]
  sep1_2 := by simp [D.i12, D.l2i1.symm]
  sep2_1 := by simp [D.i12.symm, D.l1i2.symm]
theorem turn_zipX {P : Program} {w : World} {K : PySem.W.Frag} {tg : Expr} {b1 b2 : Bool} {a b z TI TO i1 i2 : Addr} (D : ZipApart z TI TO i1 i2 a b) :
    Turn P w K tg (ItzX K b1 b2 a b) [z, TI, TO, i1, i2] z (fun i h => ZSt h z TI TO ∧ IsPair h TI (.ref i1) (.ref i2) ∧ (∃ x y, IsPair h TO x y) ∧ ItX b1 h i1 a i ∧ ItX b2 h i2 b i) where
  mem := by simp
  obj := fun i h st c hc => by
    obtain ⟨⟨f0, f, hz, _⟩, hTI, ⟨x, y, hTO⟩, h1, h2⟩ := st
    have e' : c = z ∨ c = TI ∨ c = TO ∨ c = i1 ∨ c = i2 := by simpa using hc
    rcases e' with q | q | q | q | q
    · rw [q]; exact ⟨_, hz, fun v q => nomatch q⟩
    · rw [q]; exact ⟨_, hTI, fun v q => nomatch q⟩
    · rw [q]; exact ⟨_, hTO, fun v q => nomatch q⟩
    · rw [q]; exact h1.obj
    · rw [q]; exact h2.obj
  keep := fun i h h' st k => by
    obtain ⟨⟨f0, f, hz, hf⟩, hTI, ⟨x, y, hTO⟩, h1, h2⟩ := st
    exact ⟨⟨f0, f, k z (by simp) _ hz, hf⟩, k TI (by simp) _ hTI, ⟨x, y, k TO (by simp) _ hTO⟩, h1.at fun o q => k i1 (by simp) o q, h2.at fun o q => k i2 (by simp) o q⟩
  item := by
    intro X hP hw hK hc i pins s σ H E I hf st hg
    subst hP hw hK
    obtain ⟨hz, hTI, ⟨x0, y0, hTO⟩, h1, h2⟩ := st
    obtain ⟨xs, ys, x, y, hqx, hqy, hx, hy⟩ := hg
    obtain ⟨its, rv, p, _⟩ := inv_X I hqx
    obtain ⟨its2, rv2, p2, _⟩ := inv_X I hqy
    obtain ⟨u, hu, ru⟩ := rv.get hx
    obtain ⟨u2, hu2, ru2⟩ := rv2.get hy
    have hzl : z < s.heap.objs.size := by obtain ⟨f0, f, e, _⟩ := hz; exact Heap.lt_size e
    have hl1 : i < its.toArray.size := by have := (List.getElem?_eq_some_iff.mp hu).1; simpa using this
    have hl2 : i < its2.toArray.size := by have := (List.getElem?_eq_some_iff.mp hu2).1; simpa using this
    refine pyNext_zipX_item (sep_of D) (draws_X (prog := X.prog) (w := X.w) (A := X.A.in1) (I.ok.hd hc) b1 i1 a D.l1i1 its.toArray) (draws_X (prog := X.prog) (w := X.w) (A := X.A.in1) (I.ok.hd hc) b2 i2 b D.l2i2 its2.toArray) hz hTI hTO ⟨h1, p⟩ ⟨h2, p2⟩ hl1 hl2 fun u' u2' h' tk e1 e2 z' TO' h1' h2' hT hsz hk => ?_
    have eu : u' = u := by
      have h2 : its.toArray[i]? = some u := by simpa using hu
      rw [h2] at e1; cases e1; rfl
    have eu2 : u2' = u2 := by
      have h2 : its2.toArray[i]? = some u2 := by simpa using hu2
      rw [h2] at e2; cases e2; rfl
    subst eu eu2
    refine ⟨_, rfl, letGo_zipX (s := { s with heap := h', toks := tk }) z' fun h'' z'' sb => ?_⟩
    have hT2 : h''.get? s.heap.objs.size = some { cls := .type "tuple", data := .seq #[u', u2'] } := (sb.2 _ (Nat.ne_of_gt hzl)).trans hT
    have new : ObjOk X.prog X.w (upd H s.heap.objs.size (.tup [x, y])) h'' s.heap.objs.size (.tup [x, y]) :=
      ⟨by show 2 ≤ sizeLine; decide, [u', u2'], .cons ru (.cons ru2 .nil), ⟨_, hT2, rfl, _, rfl⟩⟩
    have I1 : L2.Inv X pins σ (upd H s.heap.objs.size (.tup [x, y])) { s with heap := h'', toks := tk } :=
      I.turnedNew (t' := tk) (ch := [z, TI, TO, i1, i2]) (fun c o hb q => (sb.2 c (fun q' => hb (by simp [q']))).trans (hk c o (fun q' => hb (by simp [q'])) (fun q' => hb (by simp [q'])) (fun q' => hb (by simp [q'])) (fun q' => hb (by simp [q'])) q)) hf (Nat.le_refl _) new
    obtain ⟨b1', b2', TO'⟩ := TO'
    refine ⟨.ref s.heap.objs.size, _, I1, rfl, ⟨_, x, y, rfl, I.hok.fresh (Nat.le_refl _), rfl, fun l hl => by rw [inj_X I hl hqx]; exact hx, fun l hl => by rw [inj_X I hl hqy]; exact hy⟩, ⟨z'', ?_, ⟨b1', b2', ?_⟩, ?_, ?_⟩, fun c hcm => ?_⟩
    · exact (sb.2 _ D.TIz).trans (hk _ _ D.TIz D.TITO D.TIi1 D.TIi2 hTI)
    · exact (sb.2 _ D.TOz).trans TO'
    · exact h1'.1.at fun o q => (sb.2 _ D.i1z).trans q
    · exact h2'.1.at fun o q => (sb.2 _ D.i2z).trans q
    · have hlt : c < s.heap.objs.size := by
        have e' : c = z ∨ c = TI ∨ c = TO ∨ c = i1 ∨ c = i2 := by simpa using hcm
        rcases e' with q | q | q | q | q
        · rw [q]; exact hzl
        · rw [q]; exact Heap.lt_size hTI
        · rw [q]; exact Heap.lt_size hTO
        · rw [q]; obtain ⟨_, e1, _⟩ := h1.obj; exact Heap.lt_size e1
        · rw [q]; obtain ⟨_, e2, _⟩ := h2.obj; exact Heap.lt_size e2
      rw [upd_ne (Nat.ne_of_lt hlt)]
      exact (hf c hcm).1
  done := by
    intro X hP hw hK hc i pins s σ H E I hf st hg
    subst hP hw hK
    obtain ⟨hz, hTI, ⟨x0, y0, hTO⟩, h1, h2⟩ := st
    obtain ⟨xs, ys, hqx, hqy, hend⟩ := hg
    obtain ⟨its, rv, p, _⟩ := inv_X I hqx
    obtain ⟨its2, rv2, p2, _⟩ := inv_X I hqy
    have l1 := rv.length
    have l2 := rv2.length
    have g1 : i ≤ its.toArray.size := by simp; omega
    have g2 : i ≤ its2.toArray.size := by simp; omega
    have g3 : i = its.toArray.size ∨ i = its2.toArray.size := by simp; omega
    exact pyNext_zipX_end (sep_of D) (draws_X (prog := X.prog) (w := X.w) (A := X.A.in1) (I.ok.hd hc) b1 i1 a D.l1i1 its.toArray) (draws_X (prog := X.prog) (w := X.w) (A := X.A.in1) (I.ok.hd hc) b2 i2 b D.l2i2 its2.toArray) hz hTI hTO ⟨h1, p⟩ ⟨h2, p2⟩ g1 g2 g3 fun h' tk hk => ⟨rfl, I.turnedL (t' := tk) (ch := [z, TI, TO, i1, i2]) (fun c o hb q =>
      hk c o (fun q' => hb (by simp [q'])) (fun q' => hb (by simp [q'])) (fun q' => hb (by simp [q'])) (fun q' => hb (by simp [q'])) q) hf⟩
  self := fun A i s Q E st h => pyIter_zipX st.1 h
def objX : Bool → Addr → Obj
  | true, l => { cls := .type "list_iterator", data := .fields #[.ref l, .int 0 0] }
  | false, l => { cls := .type "tuple_iterator", data := .fields #[.ref l, .int 0 0] }
theorem begins_X (b : Bool) (l : Addr) (items : Array Value) : Begins (.ref l) (objX b l) fun h => IsX b h l items := by
  cases b
  · exact begins_tuple l items
  · exact begins_list l items
theorem itX_of {b : Bool} {h : Heap} {it l : Addr} (e : h.get? it = some (objX b l)) : ItX b h it l 0 := by
  cases b
  · exact ⟨_, e, rfl, rfl⟩
  · exact ⟨_, e, rfl, rfl⟩
def iZipX (K : PySem.W.Frag) (ta : TA) : TI := fun σ H R => ta σ H fun vs H1 => ∃ a b xs ys b1 b2, vs = [.ref a, .ref b] ∧ SqX K b1 H1 a xs ∧ SqX K b2 H1 b ys ∧ R (ItzX K b1 b2 a b) H1
theorem pi_zipX {X : Cx} {tg e e2 : Expr} {ta : TA} {p pos : Pos} (hg : Gl X "zip") (hm : X.mg "zip" = none) (ha : PA X [e, e2] ta)
    (hs : starEach [e, e2] X.env = (false, eval e X.env) :: starEach [e2] X.env := by rfl) (hpl : (backTo pos (starEach [e2] X.env)).any (·.1) = false := by rfl) :
    PI X tg (.Call (.Name "zip" p) [e, e2] [] pos) (iZipX X.K ta) := by
  refine ⟨fun pins s σ H R I h => ?_⟩
  refine Call_ (ld_blt I hg hm PyProof.Rows.boot_zip (PyProof.Rows.callWith_type1 (thn (ha.run pos pins s σ H _ I h) fun us s1 ⟨vs, H1, I1, r1, q1⟩ => ?_) hs hpl))
  obtain ⟨a, b, xs, ys, b1, b2, ex, hqx, hqy, q⟩ := q1
  subst ex
  cases r1 with
  | cons r rr =>
    cases rr with
    | cons r' rr =>
      cases rr
      cases r
      cases r'
      obtain ⟨its, rv, p1, la⟩ := inv_X I1 hqx
      obtain ⟨its2, rv2, p2, lb⟩ := inv_X I1 hqy
      refine zip_begins2 (begins_X b1 a its.toArray) (begins_X b2 b its2.toArray) p1 p2 fun h' hz hTI hTO h1 h2 hsz hk => pyIter_zipX ⟨_, _, hz, .inl rfl⟩ ?_
      have I2 : L2.Inv X pins σ H1 { s1 with heap := h' } := I1.kept (t' := s1.toks) hk
      refine ⟨s1.heap.objs.size + 4, [s1.heap.objs.size + 4, s1.heap.objs.size + 2, s1.heap.objs.size + 3, s1.heap.objs.size, s1.heap.objs.size + 1], _, _, H1, rfl, I2, turn_zipX (PySem.W.ktu_apart s1.heap.objs.size a b la lb), ⟨⟨_, _, hz, .inl rfl⟩, hTI, ⟨_, _, hTO⟩, itX_of h1, itX_of h2⟩, fun c hcm => ?_, q⟩
      have e' : c = s1.heap.objs.size + 4 ∨ c = s1.heap.objs.size + 2 ∨ c = s1.heap.objs.size + 3 ∨ c = s1.heap.objs.size ∨ c = s1.heap.objs.size + 1 := by simpa using hcm
      have hle : s1.heap.objs.size ≤ c := by
        rcases e' with z | z | z | z | z
        · rw [z]; exact Nat.le_add_right _ _
        · rw [z]; exact Nat.le_add_right _ _
        · rw [z]; exact Nat.le_add_right _ _
        · rw [z]; exact Nat.le_refl _
        · rw [z]; exact Nat.le_add_right _ _
      exact I1.fpOk hle (I1.hok.fresh hle)
/-- the items of a frozen list or of a tuple -/
def seqX : D → Option (Bool × List PyData)
  | .p (.list xs) => some (true, xs)
  | .p (.tuple xs) => some (false, xs)
  | _ => none
def SrcX (K : PySem.W.Frag) (H : Hp) (G : Gh) : Bool → Addr → List V → Prop
  | true, a, vs => FL G.φ a vs
  | false, a, vs => SqT K H a vs
theorem SrcX.sq {K : PySem.W.Frag} {H H1 : Hp} {G G1 : Gh} {S S1 : Sto} {b : Bool} {a : Addr} {vs : List V} (h : SrcX K H G b a vs) (rp : Rep K H G S) (x : Ext H G S H1 G1 S1) (r : Rep K H1 G1 S1) : SqX K b H1 a vs := by
  cases b
  · exact x.tup rp h
  · exact SqL.of ((FL.mono (h : FL G.φ a vs) x.phi) H1 r.phi)
theorem src_of {K : PySem.W.Frag} {H : Hp} {G : Gh} {d : D} {v : V} {b : Bool} {xs : List PyData} (e : seqX d = some (b, xs)) (dv : Den K H G d v) : ∃ a vs, v = .ref a ∧ SrcX K H G b a vs ∧ DnAll K G.φ H xs vs := by
  unfold seqX at e
  split at e
  · cases e
    obtain ⟨a, vs, rfl, fa, ta⟩ := den_lst dv
    exact ⟨a, vs, rfl, fa, ta⟩
  · cases e
    obtain ⟨a, vs, rfl, fa, ta⟩ := den_tup dv
    exact ⟨a, vs, rfl, fa, ta⟩
  · cases e
theorem gives_zipX {K : PySem.W.Frag} {H : Hp} {G : Gh} {S : Sto} {b1 b2 : Bool} {a b : Addr} {vs ws : List V} {xs ys : List PyData} (rp : Rep K H G S) (fa : SrcX K H G b1 a vs) (ta : DnAll K G.φ H xs vs) (fb : SrcX K H G b2 b ws) (tb : DnAll K G.φ H ys ws) : Gives K (ItzX K b1 b2 a b) H G S (zipP xs ys) where
  go := fun H1 G1 S1 x r i hi => by
    rw [zipP_len, ta.length, tb.length] at hi
    exact ⟨vs, ws, vs[i], ws[i], fa.sq rp x r, fb.sq rp x r, by simp, by simp⟩
  yld := fun H1 G1 S1 x r i d e v H' y => by
    obtain ⟨T, u, w, rfl, hT, rfl, y1, y2⟩ := y
    have e1 := y1 vs (fa.sq rp x r)
    have e2 := y2 ws (fb.sq rp x r)
    obtain ⟨d1, ed1, dn1⟩ := (x.dnAll rp ta).getV e1
    obtain ⟨d2, ed2, dn2⟩ := (x.dnAll rp tb).getV e2
    obtain ⟨x', y', h1, h2, rfl⟩ := zipP_get xs ys i d e
    rw [ed1] at h1; cases h1
    rw [ed2] at h2; cases h2
    obtain ⟨p1, p2, p3⟩ := pair_new r hT dn1 dn2
    exact ⟨p1, p2, p3, .inr ⟨T, _, hT, rfl⟩⟩
  stop := fun H1 G1 S1 x r => by
    rw [zipP_len, ta.length, tb.length]
    exact ⟨vs, ws, fa.sq rp x r, fb.sq rp x r, rfl⟩
def zipXM : List D → M (List D) := fun ds S => match ds with
  | [d, e] => match seqX d, seqX e with
    | some (_, xs), some (_, ys) => .ok (zipP xs ys) S
    | _, _ => .bad
  | _ => .bad
theorem di_zipX {X : Cx} {W : WX} {tg a b : Expr} {p pos : Pos} {fa : FA} (hg : Gl X "zip") (hm : X.mg "zip" = none) (ha : DA X W [a, b] fa) (hs : starEach [a, b] X.env = (false, eval a X.env) :: starEach [b] X.env := by rfl) (hpl : (backTo pos (starEach [b] X.env)).any (·.1) = false := by rfl) :
    DI X W tg (.Call (.Name "zip" p) [a, b] [] pos) (iA zipXM fa) := by
  refine ⟨PI.imp (pi_zipX hg hm ha.run hs hpl) fun σ H R ⟨G, S, ρ, rs, rp, q⟩ => ⟨G, S, ρ, rs, rp, (Aft.bind q).mono fun ds H1 G1 S1 x1 r1 q1 vs dv => ?_⟩⟩
  unfold zipXM at q1
  split at q1
  · split at q1
    · rename_i d e b1 xs b2 ys e1 e2
      cases dv with
      | cons d1 t =>
        cases t with
        | cons d2 t =>
          cases t
          obtain ⟨a, vs, rfl, fa, ta⟩ := src_of e1 d1
          obtain ⟨b, ws, rfl, fb, tb⟩ := src_of e2 d2
          exact ⟨a, b, vs, ws, b1, b2, rfl, fa.sq r1 Ext.refl r1, fb.sq r1 Ext.refl r1, q1 H1 G1 Ext.refl r1 _ (gives_zipX r1 fa ta fb tb)⟩
    · exact q1.elim
  · exact q1.elim
@[simp] theorem zipXM_ll {xs ys : List PyData} {S : Sto} : zipXM [.p (.list xs), .p (.list ys)] S = .ok (zipP xs ys) S := rfl
@[simp] theorem zipXM_tt {xs ys : List PyData} {S : Sto} : zipXM [.p (.tuple xs), .p (.tuple ys)] S = .ok (zipP xs ys) S := rfl
@[simp] theorem zipXM_tl {xs ys : List PyData} {S : Sto} : zipXM [.p (.tuple xs), .p (.list ys)] S = .ok (zipP xs ys) S := rfl
@[simp] theorem zipXM_lt {xs ys : List PyData} {S : Sto} : zipXM [.p (.list xs), .p (.tuple ys)] S = .ok (zipP xs ys) S := rfl
end DL

namespace DL
open PySem L2 PySem.Spec PyProof.Rows

theorem compTurn2D_out (kx vx t0 i0 t1 i1 : Expr) (ifs0 ifs1 : List Expr) (scope : Scope) (pos : Pos) (it acc : Value) (env : Env) :
    compTurn (.DictComp kx vx [⟨t0, i0, ifs0, 0⟩, ⟨t1, i1, ifs1, 0⟩] scope pos) 0 it acc env = (do
      standAt i0.pos
      match ← pyNext it with
      | none => pure (.done .next)
      | some v =>
        letOwnedTupleGo t0 it v
        assign t0 env v
        let mut ok := true
        for c in ifs0 do
          if ok then ok ← isTrue c env (eval c env)
        if ok then
          let x ← eval i1 env
          standAt i1.pos
          let x ← foldedSetIterable i1 env x
          let _ ← runOwn (.compStart (.DictComp kx vx [⟨t0, i0, ifs0, 0⟩, ⟨t1, i1, ifs1, 0⟩] scope pos) 1 (← holding [x] (pyIter x)) acc env) env
        again (.compLoop (.DictComp kx vx [⟨t0, i0, ifs0, 0⟩, ⟨t1, i1, ifs1, 0⟩] scope pos) 0 it acc env)) := by rfl
theorem compTurn2D_in (kx vx t0 i0 t1 i1 : Expr) (ifs0 ifs1 : List Expr) (scope : Scope) (pos : Pos) (it : Value) (D : Addr) (env : Env) :
    compTurn (.DictComp kx vx [⟨t0, i0, ifs0, 0⟩, ⟨t1, i1, ifs1, 0⟩] scope pos) 1 it (.ref D) env = (do
      standAt i1.pos
      match ← pyNext it with
      | none => pure (.done .next)
      | some v =>
        letOwnedTupleGo t1 it v
        assign t1 env v
        let mut ok := true
        for c in ifs1 do
          if ok then ok ← isTrue c env (eval c env)
        if ok then
          (do
            let kv ← eval kx env
            let vv ← holding [kv] (eval vx env)
            standAt { kx.pos with endLine := vx.pos.endLine, endCol := vx.pos.endCol }
            holding [kv, vv] (dictSet D kv vv))
        again (.compLoop (.DictComp kx vx [⟨t0, i0, ifs0, 0⟩, ⟨t1, i1, ifs1, 0⟩] scope pos) 1 it (.ref D) env)) := by rfl

section
variable {prog : Program} {w : World} {A : Around} {R : Result → Shared → Prop} {s : Shared} {kx vx t0 i0 t1 i1 : Expr} {ifs0 ifs1 : List Expr} {scope : Scope} {pos : Pos} {it acc : Value} {env : Env}
/-- the loop of the first clause -/
theorem compLoop2D_out (hs : ∀ x, foldedSetIterable i1 env x = pure x) (I : Nat → Shared → Prop)
    (turn : ∀ n s, I n s → wpAny (model prog w) A (pyNext it) (fun r s₁ => match r with
      | none => R (.ok .next) s₁
      | some v => wpAny (model prog w) A (letOwnedTupleGo t0 it v) (fun _ s₁' => wpAny (model prog w) A (assign t0 env v) (fun _ s₂ =>
          wpAny (model prog w) A (forIn ifs0 true fun c r => if r = true then do let ok ← isTrue c env (eval c env); pure (ForInStep.yield ok) else pure (ForInStep.yield r)) (fun ok s₃ =>
            if ok = true then wpAny (model prog w) A (eval i1 env) (fun x s₄ => wpAny (model prog w) A (pyIter x) (fun it1 s₅ =>
              codeAny (model prog w) A (.compStart (.DictComp kx vx [⟨t0, i0, ifs0, 0⟩, ⟨t1, i1, ifs1, 0⟩] scope pos) 1 it1 acc env) (fun r s' => match r with
                | .ok _ => ∃ m, m < n ∧ I m s'
                | .error _ => False) s₅) (notedBy (model prog w) A env fun e s' => R (.error e) s') s₄) (notedBy (model prog w) A env fun e s' => R (.error e) s') s₃
            else ∃ m, m < n ∧ I m s₃) (notedBy (model prog w) A env fun e s' => R (.error e) s') s₂) (notedBy (model prog w) A env fun e s' => R (.error e) s') s₁') (notedBy (model prog w) A env fun e s' => R (.error e) s') s₁) (notedBy (model prog w) A env fun e s' => R (.error e) s') s)
    (n : Nat) (h : I n s) :
    codeAny (model prog w) A (.compLoop (.DictComp kx vx [⟨t0, i0, ifs0, 0⟩, ⟨t1, i1, ifs1, 0⟩] scope pos) 0 it acc env) R s := by
  refine codeAny_loop rfl I (fun n s hI => ?_) n h
  show wpAny _ A ((compTurn (.DictComp kx vx [⟨t0, i0, ifs0, 0⟩, ⟨t1, i1, ifs1, 0⟩] scope pos) 0 it acc env).onRaise (fun x => do noteFrame x env; theTreesLotGoes x)) _ _ s
  refine wpAny_noted ?_
  rw [compTurn2D_out]
  refine wpAny_bind (wpAny_standAt (wpAny_bind (wpAny_mono (turn n s hI) (fun r s₁ h₁ => ?_) fun _ _ h' => h')))
  cases r with
  | none => exact wpAny_pure h₁
  | some v =>
    refine wpAny_bind (wpAny_mono h₁ (fun _ s₁' h₁' => ?_) fun _ _ h' => h')
    refine wpAny_bind (wpAny_mono h₁' (fun _ s₂ h₂ => wpAny_bind (wpAny_mono h₂ (fun ok s₃ h₃ => ?_) fun _ _ h' => h')) fun _ _ h' => h')
    cases ok with
    | false => exact wpAny_pure ⟨rfl, h₃⟩
    | true =>
      refine wpAny_bind (wpAny_mono h₃ (fun x s₄ h₄ => ?_) fun _ _ h' => h')
      refine wpAny_bind (wpAny_standAt (wpAny_bind (wpAny_of_eq (hs x) (wpAny_bind (wpAny_holding (wpAny_mono h₄ (fun it1 s₅ h₅ => ?_) fun _ _ h' => h'))))))
      refine wpAny_bind (wpAny_runOwn ?_)
      rw [Around.mark_none]
      refine codeAny_mono h₅ fun r s' hr => ?_
      cases r with
      | ok f =>
        first
          | exact wpAny_pure ⟨rfl, hr⟩
          | exact wpAny_bind (wpAny_pure (wpAny_pure ⟨rfl, hr⟩))
      | error e => exact hr.elim
/-- the loop of the second -/
theorem compLoop2D_in {D : Addr} (I : Nat → Shared → Prop)
    (turn : ∀ n s, I n s → wpAny (model prog w) A (pyNext it) (fun r s₁ => match r with
      | none => R (.ok .next) s₁
      | some v => wpAny (model prog w) A (letOwnedTupleGo t1 it v) (fun _ s₁' => wpAny (model prog w) A (assign t1 env v) (fun _ s₂ =>
          wpAny (model prog w) A (forIn ifs1 true fun c r => if r = true then do let ok ← isTrue c env (eval c env); pure (ForInStep.yield ok) else pure (ForInStep.yield r)) (fun ok s₃ =>
            if ok = true then wpAny (model prog w) A (eval kx env) (fun kv s₄ => wpAny (model prog w) A (eval vx env) (fun vv s₅ =>
              wpAny (model prog w) A (dictSet D kv vv) (fun _ s₆ => ∃ m, m < n ∧ I m s₆) (notedBy (model prog w) A env fun e s' => R (.error e) s') s₅) (notedBy (model prog w) A env fun e s' => R (.error e) s') s₄) (notedBy (model prog w) A env fun e s' => R (.error e) s') s₃
            else ∃ m, m < n ∧ I m s₃) (notedBy (model prog w) A env fun e s' => R (.error e) s') s₂) (notedBy (model prog w) A env fun e s' => R (.error e) s') s₁') (notedBy (model prog w) A env fun e s' => R (.error e) s') s₁) (notedBy (model prog w) A env fun e s' => R (.error e) s') s)
    (n : Nat) (h : I n s) :
    codeAny (model prog w) A (.compLoop (.DictComp kx vx [⟨t0, i0, ifs0, 0⟩, ⟨t1, i1, ifs1, 0⟩] scope pos) 1 it (.ref D) env) R s := by
  refine codeAny_loop rfl I (fun n s hI => ?_) n h
  show wpAny _ A ((compTurn (.DictComp kx vx [⟨t0, i0, ifs0, 0⟩, ⟨t1, i1, ifs1, 0⟩] scope pos) 1 it (.ref D) env).onRaise (fun x => do noteFrame x env; theTreesLotGoes x)) _ _ s
  refine wpAny_noted ?_
  rw [compTurn2D_in]
  refine wpAny_bind (wpAny_standAt (wpAny_bind (wpAny_mono (turn n s hI) (fun r s₁ h₁ => ?_) fun _ _ h' => h')))
  cases r with
  | none => exact wpAny_pure h₁
  | some v =>
    refine wpAny_bind (wpAny_mono h₁ (fun _ s₁' h₁' => ?_) fun _ _ h' => h')
    refine wpAny_bind (wpAny_mono h₁' (fun _ s₂ h₂ => wpAny_bind (wpAny_mono h₂ (fun ok s₃ h₃ => ?_) fun _ _ h' => h')) fun _ _ h' => h')
    cases ok with
    | false => exact wpAny_pure ⟨rfl, h₃⟩
    | true =>
      exact wpAny_bind (wpAny_bind (wpAny_mono h₃ (fun kv s₄ h₄ => wpAny_bind (wpAny_holding (wpAny_mono h₄ (fun vv s₅ h₅ => wpAny_bind (wpAny_standAt (wpAny_holding (wpAny_mono h₅ (fun _ s₆ h₆ => wpAny_pure ⟨rfl, h₆⟩) fun _ _ h' => h')))) fun _ _ h' => h'))) fun _ _ h' => h'))
/-- the second clause's start -/
theorem compStart1D_ok (h0 : codeAny (model prog w) A (.compLoop (.DictComp kx vx [⟨t0, i0, ifs0, 0⟩, ⟨t1, i1, ifs1, 0⟩] scope pos) 1 it acc env) R s)
    (h : wpAny (model prog w) A (pyIter it) (fun it' s' => codeAny (model prog w) A (.compLoop (.DictComp kx vx [⟨t0, i0, ifs0, 0⟩, ⟨t1, i1, ifs1, 0⟩] scope pos) 1 it' acc env) R s')
      (notedBy (model prog w) A env fun x s' => R (.error x) s') s) :
    codeAny (model prog w) A (.compStart (.DictComp kx vx [⟨t0, i0, ifs0, 0⟩, ⟨t1, i1, ifs1, 0⟩] scope pos) 1 it acc env) R s := by
  refine codeAny_of_tree ?_
  show wpAny _ _ ((compStart (.DictComp kx vx [⟨t0, i0, ifs0, 0⟩, ⟨t1, i1, ifs1, 0⟩] scope pos) 1 it acc env).onRaise (fun x => do noteFrame x env; standAt theWindowsPlace)) _ _ s
  refine wpAny_notedAt ?_
  unfold compStart
  show wpAny _ _ (ask >>= _) _ _ s
  refine wpAny_bind (wpAny_askSetting (wpAny_ite ?_))
  split
  · first
      | exact wpAny_bind (wpAny_pure (wpAny_pure (And.intro rfl h0)))
      | exact wpAny_pure (And.intro rfl h0)
  · first
      | exact wpAny_bind (wpAny_rule (wpAny_bind (wpAny_standAt (wpAny_bind (wpAny_mono h (fun it' s' h' => wpAny_pure (And.intro rfl h')) fun _ _ x => x)))))
      | (refine wpAny_bind (wpAny_rule ?_); show wpAny _ _ (standAt i1.pos >>= _) _ _ s; exact wpAny_bind (wpAny_standAt (wpAny_bind (wpAny_mono h (fun it' s' h' => wpAny_pure (And.intro rfl h')) fun _ _ x => x))))
end


section
variable {X : Cx}
/-- {k: v for tg in iter if .. for tg1 in iter1 if ..}: behind the first clause's store and tests the second source's own loop, from which Nx is reached. vs: the block's names; vs1: those of the second target -/
def tDc2 (wi : TI) (g : TG) (tt : TT) (wi1 : TI) (g1 : TG) (tt1 : TT) (tk tv : TE) (vs vs1 : List Nat) : TE := fun σ H Q => wi σ H fun J H1 => ∀ D, H1 D = none → ∃ W : Nat → Nat → Hp → Prop, (∃ m, W 0 m (upd H1 D (.dK []))) ∧ ∀ i m H, W i m H →
  (J.stop i H ∧ Q (.ref D) H) ∨ (J.go i H ∧ ∃ Nx : Hp → Prop, (∀ H', Nx H' → ∃ m', m' < m ∧ W (i + 1) m' H') ∧ ∀ x H', J.yld i H x H' → g x (wipe σ vs) H' fun σ2 H2 => wipe σ2 vs = wipe σ vs ∧ tt σ2 H2 fun b H3 =>
    if b = true then wi1 σ2 H3 fun J1 H4 => ∃ W1 : Nat → Nat → Hp → Prop, (∃ m, W1 0 m H4) ∧ ∀ j k H, W1 j k H →
      (J1.stop j H ∧ Nx H) ∨ (J1.go j H ∧ ∃ Nx1 : Hp → Prop, (∀ H', Nx1 H' → ∃ k', k' < k ∧ W1 (j + 1) k' H') ∧ ∀ x H', J1.yld j H x H' → g1 x (wipe σ2 vs1) H' fun σ3 H5 => wipe σ3 vs1 = wipe σ2 vs1 ∧ tt1 σ3 H5 fun b H6 =>
        if b = true then tk σ3 H6 fun y H7 => tv σ3 H7 fun z H8 => ∃ kvs k, y = kV k ∧ H8 D = some (.dK kvs) ∧ kvs.length < sizeLine ∧ Nx1 (upd H8 D (.dK (putK kvs k z))) else Nx1 H6)
    else Nx H3)
theorem dc2_core {pins : List (Addr × Obj)} {s : Shared} {σ : L2.St} {H : Hp} {Q : VK} {kx vx tg iter tg1 iter1 : Expr} {ifs ifs1 : List Expr} {scope : Scope} {own : List (Str × Nat)} {vs1 : List Nat} {pos pos' : Pos} {wi wi1 : TI} {g g1 : TG} {tt tt1 : TT} {tk tv : TE} {use : Option (Value → Sem Unit)} {Qf : Value → Shared → Prop}
    (hc : X.calm = true) (hN : X.N.Nodup) (I : L2.Inv X pins σ H s) (hi : PI X tg iter wi) (ok : BlkOk X.N X.env.scope scope own) (hv : ∀ i ∈ vs1, i ∈ own.map (·.2))
    (hg : ∀ (s : Shared) (H : Hp) (C : Addr) (cl : List (Str × Addr)) (fp : List Addr), PG (X.blk s H scope (compEnvC scope cl C X.env) fp) tg g) (ht : ∀ (s : Shared) (H : Hp) (C : Addr) (cl : List (Str × Addr)) (fp : List Addr), PTs (X.blk s H scope (compEnvC scope cl C X.env) fp) ifs tt)
    (hk : ∀ (s : Shared) (H : Hp) (C : Addr) (cl : List (Str × Addr)) (fp : List Addr), PE (X.blk s H scope (compEnvC scope cl C X.env) fp) kx tk) (he : ∀ (s : Shared) (H : Hp) (C : Addr) (cl : List (Str × Addr)) (fp : List Addr), PE (X.blk s H scope (compEnvC scope cl C X.env) fp) vx tv) (hs : ∀ x, foldedSetIterable iter X.env x = pure x)
    (hi1 : ∀ (s : Shared) (H : Hp) (C : Addr) (cl : List (Str × Addr)) (fp : List Addr), PI (X.blk s H scope (compEnvC scope cl C X.env) fp) tg1 iter1 wi1)
    (hg1 : ∀ (s : Shared) (H : Hp) (C : Addr) (cl : List (Str × Addr)) (fp : List Addr), PG (X.blk s H scope (compEnvC scope cl C X.env) fp) tg1 g1)
    (ht1 : ∀ (s : Shared) (H : Hp) (C : Addr) (cl : List (Str × Addr)) (fp : List Addr), PTs (X.blk s H scope (compEnvC scope cl C X.env) fp) ifs1 tt1)
    (hs1 : ∀ env x, foldedSetIterable iter1 env x = pure x)
    (h : tDc2 wi g tt wi1 g1 tt1 tk tv (own.map (·.2)) vs1 σ H Q)
    (hRR : ∀ D C s' m H', L2.Inv X pins σ H' s' → Q (.ref D) H' → s'.heap.Ns C m → FpOk X pins H' C → compPost (model X.prog X.w) X.A X.xe use Qf (.ref D) C (.ok .next) s') :
    wpAny (model X.prog X.w) X.A (comprehension (.DictComp kx vx [⟨tg, iter, ifs, 0⟩, ⟨tg1, iter1, ifs1, 0⟩] scope pos) scope X.env pos' newDict false (eval iter X.env) use) Qf X.xe s := by
  have hfree : ∀ y ∈ scope.names, y.2 = .free → ∃ c, X.env.cells.lookup y.1 = some c := fun y hy e => by
    rcases ok.free y hy e with k | k
    · exact I.ok.has _ (.inl k)
    · exact I.ok.has _ (.inr k)
  refine wpAny_comprehension_free (use := use) rfl hs (closure_ok hfree) ok.kind (fun y hy e => by rw [ok.uniq y hy, e])
    (thn (hi.run pins s σ H _ I h) fun xv s1 hx => thn hx fun itv s2 h2 => ?_)
  obtain ⟨it, fp, tn, J, H2, e, I2, T, st2, f2, q⟩ := h2
  subst e
  refine wpAny_newObj_type (newEnv_comp ?_)
  generalize hD : s2.heap.objs.size = D
  have hDn : H2 D = none := I2.hok.fresh (Nat.le_of_eq hD)
  obtain ⟨W, ⟨m0, w0⟩, turn⟩ := q D hDn
  -- the new dict
  generalize hs3 : ({ s2 with heap := s2.heap.push { cls := .type "dict", data := .dict #[] } } : Shared) = s3
  have I3 : L2.Inv X pins σ (upd H2 D (.dK [])) s3 := by
    rw [← hs3]
    refine I2.laid (t' := s2.toks) (fun b o e => Heap.get?_push_of_some _ e) (Nat.le_of_eq hD) ?_
    rw [← hD]
    exact dk_empty s2.heap I2.big
  have h3 : s3.heap = s2.heap.push { cls := .type "dict", data := .dict #[] } := by rw [← hs3]
  have sz : ∀ b ∈ fp, b < s2.heap.objs.size := fun b hb => by
    obtain ⟨o, e, _⟩ := T.obj _ _ st2 b hb
    exact Heap.lt_size e
  have f3 : ∀ b ∈ fp, FpOk X pins (upd H2 D (.dK [])) b ∧ b < s3.heap.objs.size := fun b hb => by
    have hlt := sz b hb
    refine ⟨⟨?_, (f2 b hb).2⟩, by rw [h3, Heap.size_push]; exact Nat.lt_succ_of_lt hlt⟩
    rw [upd_ne (by rw [← hD]; exact Nat.ne_of_lt hlt)]
    exact (f2 b hb).1
  have st3 : tn 0 s3.heap := T.keep _ _ _ st2 fun b _ o e => by rw [h3]; exact Heap.get?_push_of_some _ e
  have I4 := block_start I3 ok hN f3
  have pg := hg s3 (upd H2 D (.dK [])) s3.heap.objs.size (cellsFrom (s3.heap.objs.size + 1) scope.names (cloFrom X.env.cells scope.names [])) fp
  have pt := ht s3 (upd H2 D (.dK [])) s3.heap.objs.size (cellsFrom (s3.heap.objs.size + 1) scope.names (cloFrom X.env.cells scope.names [])) fp
  have pk := hk s3 (upd H2 D (.dK [])) s3.heap.objs.size (cellsFrom (s3.heap.objs.size + 1) scope.names (cloFrom X.env.cells scope.names [])) fp
  have pe := he s3 (upd H2 D (.dK [])) s3.heap.objs.size (cellsFrom (s3.heap.objs.size + 1) scope.names (cloFrom X.env.cells scope.names [])) fp
  have pi1 := hi1 s3 (upd H2 D (.dK [])) s3.heap.objs.size (cellsFrom (s3.heap.objs.size + 1) scope.names (cloFrom X.env.cells scope.names [])) fp
  have pg1 := hg1 s3 (upd H2 D (.dK [])) s3.heap.objs.size (cellsFrom (s3.heap.objs.size + 1) scope.names (cloFrom X.env.cells scope.names [])) fp
  have pt1 := ht1 s3 (upd H2 D (.dK [])) s3.heap.objs.size (cellsFrom (s3.heap.objs.size + 1) scope.names (cloFrom X.env.cells scope.names [])) fp
  show codeAny _ _ (.compStart (.DictComp kx vx [⟨tg, iter, ifs, 0⟩, ⟨tg1, iter1, ifs1, 0⟩] scope pos) 0 (.ref it) (.ref D) (compEnvC scope (cellsFrom (s3.heap.objs.size + 1) scope.names (cloFrom X.env.cells scope.names [])) s3.heap.objs.size X.env)) (compPost (model X.prog X.w) X.A X.xe use Qf (.ref D) s3.heap.objs.size) { s3 with heap := pushCells (s3.heap.push { cls := .type "dict", data := .dict #[] }) scope.names }
  have nfp : ∀ b ∈ fp, (upd H2 D (.dK [])) b = none := fun b hb => (f3 b hb).1.1
  generalize hce : compEnvC scope (cellsFrom (s3.heap.objs.size + 1) scope.names (cloFrom X.env.cells scope.names [])) s3.heap.objs.size X.env = ce at I4 pg pt pk pe pi1 pg1 pt1 ⊢
  have cL : ce.locals = s3.heap.objs.size := by subst hce; rfl
  generalize hH3 : upd H2 D (.dK []) = H3 at I3 I4 pg pt pk pe pi1 pg1 pt1 w0 nfp f3
  generalize hs4 : ({ s3 with heap := pushCells (s3.heap.push { cls := .type "dict", data := .dict #[] }) scope.names } : Shared) = s4 at I4 ⊢
  have st4 : tn 0 s4.heap := T.keep _ _ _ st3 fun b _ o e => by rw [← hs4]; exact pushCells_keeps _ _ _ _ (Heap.get?_push_of_some _ e)
  have stat : ∀ {σ' : L2.St} {H' : Hp} {s' : Shared}, L2.Inv (X.blk s3 H3 scope ce fp) [] σ' H' s' → (∀ b ∈ fp, H' b = none) → ∀ b ∈ fp, FpOk (X.blk s3 H3 scope ce fp) [] H' b := fun {σ' H' s'} I' hn b hb =>
    ⟨hn b hb, (I'.ok.exf b hb).1, I'.ok.exfs b hb, .inl hb, fun x c e => (I'.ok.exf b hb).2 x c e, fun p hp => absurd (show p ∈ ([] : List (Addr × Obj)) ++ [] from hp) (by simp)⟩
  have loop : codeAny (model X.prog X.w) X.A (.compLoop (.DictComp kx vx [⟨tg, iter, ifs, 0⟩, ⟨tg1, iter1, ifs1, 0⟩] scope pos) 0 (.ref it) (.ref D) ce) (compPost (model X.prog X.w) X.A X.xe use Qf (.ref D) s3.heap.objs.size) s4 := by
    refine compLoop2D_out (hs1 ce) (fun n s' => ∃ i H', L2.Inv (X.blk s3 H3 scope ce fp) [] (wipe σ (own.map (·.2))) H' s' ∧ tn i s'.heap ∧ (∀ b ∈ fp, H' b = none) ∧ W i n H') ?_ m0 ⟨0, H3, I4, st4, nfp, w0⟩
    rintro n s5 ⟨i, H5, I5, st5, n5, w5⟩
    rcases turn i n H5 w5 with ⟨stop, qq⟩ | ⟨go, Nx, hNx, step⟩
    · have td := T.done (X.blk s3 H3 scope ce fp) rfl rfl rfl hc i [] s5 _ H5 (fun _ _ => False) I5 (stat I5 n5) st5 stop
      refine thnF td fun r s6 ⟨hr, I6⟩ => ?_
      subst hr
      -- back in the def's context
      have I7 : L2.Inv X pins σ H5 s6 := I3.call' (ch := fp) I6.os I6.base I6.hok I6.bare fun b hb => ⟨(f3 b hb).1.2.2.2.1, (f3 b hb).1.2.1, (f3 b hb).1.2.2.2.2.1, (f3 b hb).1.2.2.2.2.2⟩
      have nC : H5 s3.heap.objs.size = none := by
        have z : H5 ce.locals = none := I6.free
        rw [cL] at z
        exact z
      obtain ⟨m, hn, _⟩ := I6.loc
      have hn : s6.heap.Ns ce.locals m := hn
      rw [cL] at hn
      exact hRR D s3.heap.objs.size s6 m H5 I7 qq hn (I3.fpOk (Nat.le_refl _) nC)
    · have ti := T.item (X.blk s3 H3 scope ce fp) rfl rfl rfl hc i [] s5 _ H5 (fun _ _ => False) I5 (stat I5 n5) st5 go
      refine thnF ti fun r s6 ⟨u, hr, h6⟩ => ?_
      subst hr
      refine thnF h6 fun _ s7 ⟨x, H7, I7, r7, y7, st7, n7⟩ => ?_
      have I7' := I7.pinned (stat I7 n7) (T.obj _ _ st7)
      refine thnF (pg.run _ s7 _ H7 x u _ I7' r7 (step x H7 y7)) fun _ s8 ⟨σ8, H8, I8, hw8, q8⟩ => ?_
      refine thnF (pt.run _ s8 σ8 H8 _ I8 q8) fun b s9 ⟨H9, I9, q9⟩ => ?_
      -- the turn's end, from any slots that know what the block knew at its start
      have fin : ∀ {σ9 : L2.St} {s' : Shared} {H' : Hp}, L2.Inv (X.blk s3 H3 scope ce fp) ([] ++ pinsAt fp s7.heap) σ9 H' s' → (wipe σ (own.map (·.2))).length = σ9.length → (∀ (j : Nat) v, (wipe σ (own.map (·.2)))[j]? = some (some v) → σ9[j]? = some (some v)) → Nx H' →
          ∃ m, m < n ∧ ∃ i H', L2.Inv (X.blk s3 H3 scope ce fp) [] (wipe σ (own.map (·.2))) H' s' ∧ tn i s'.heap ∧ (∀ b ∈ fp, H' b = none) ∧ W i m H' := fun {σ9 s' H'} I' hl hk nx => by
        obtain ⟨m', hm, w'⟩ := hNx H' nx
        have pin' : ∀ b ∈ fp, ∀ o, s7.heap.get? b = some o → s'.heap.get? b = some o ∧ H' b = none := fun b hb o e =>
          let z := I'.pin (b, o) (List.mem_append_right _ (List.mem_append_right _ (mem_pinsAt hb e)))
          ⟨z.1, z.2.1⟩
        refine ⟨m', hm, i + 1, H', (I'.unpinned (pins := [])).weak hl hk, T.keep _ _ _ st7 fun b hb o e => (pin' b hb o e).1, fun b hb => ?_, w'⟩
        obtain ⟨o, e, _⟩ := T.obj _ _ st7 b hb
        exact (pin' b hb o e).2
      have hl8 : (wipe σ (own.map (·.2))).length = σ8.length := by rw [← hw8, wipe_length]
      have hk8 : ∀ (j : Nat) v, (wipe σ (own.map (·.2)))[j]? = some (some v) → σ8[j]? = some (some v) := fun j v e => by
        rw [← hw8] at e
        exact (wipe_some e).1
      have hk9 : ∀ (j : Nat) v, (wipe σ (own.map (·.2)))[j]? = some (some v) → (wipe σ8 vs1)[j]? = some (some v) := fun j v e => by
        rw [← hw8] at e
        obtain ⟨e1, e2⟩ := wipe_some e
        rw [wipe_out fun z => e2 (hv j z)]
        exact e1
      cases b with
      | false =>
        simp only [Bool.false_eq_true, if_false] at q9 ⊢
        exact fin I9 hl8 hk8 q9
      | true =>
        simp only [if_true] at q9 ⊢
        refine thnF (pi1.run _ s9 σ8 H9 _ I9 q9) fun xv s10 hx => thnF hx fun itv s11 h11 => ?_
        obtain ⟨it1, fp1, tn1, J1, H11, e1, I11, T1, st11, f11, W1, ⟨m1, w1⟩, turn1⟩ := h11
        subst e1
        -- the inner loop
        have stat1 : ∀ {H' : Hp}, (∀ b ∈ fp1, H' b = none) → ∀ b ∈ fp1, FpOk (X.blk s3 H3 scope ce fp) ([] ++ pinsAt fp s7.heap) H' b := fun hn b hb => ⟨hn b hb, (f11 b hb).2⟩
        have loop1 : codeAny (model X.prog X.w) X.A (.compLoop (.DictComp kx vx [⟨tg, iter, ifs, 0⟩, ⟨tg1, iter1, ifs1, 0⟩] scope pos) 1 (.ref it1) (.ref D) ce)
            (fun r s' => match r with
              | .ok _ => ∃ m, m < n ∧ ∃ i H', L2.Inv (X.blk s3 H3 scope ce fp) [] (wipe σ (own.map (·.2))) H' s' ∧ tn i s'.heap ∧ (∀ b ∈ fp, H' b = none) ∧ W i m H'
              | .error _ => False) s11 := by
          refine compLoop2D_in (fun k s' => ∃ j H', L2.Inv (X.blk s3 H3 scope ce fp) ([] ++ pinsAt fp s7.heap) (wipe σ8 vs1) H' s' ∧ tn1 j s'.heap ∧ (∀ b ∈ fp1, H' b = none) ∧ W1 j k H') ?_ m1 ⟨0, H11, I11.weak (wipe_length _ _) (fun j v e => (wipe_some e).1), st11, fun b hb => (f11 b hb).1, w1⟩
          rintro k s12 ⟨j, H12, I12, st12, n12, w12⟩
          rcases turn1 j k H12 w12 with ⟨stop1, nx1⟩ | ⟨go1, Nx1, hNx1, step1⟩
          · refine thnF (T1.done (X.blk s3 H3 scope ce fp) rfl rfl rfl hc j _ s12 (wipe σ8 vs1) H12 (fun _ _ => False) I12 (stat1 n12) st12 stop1) fun r s13 ⟨hr, I13⟩ => ?_
            subst hr
            exact fin I13 (hl8.trans (wipe_length σ8 vs1).symm) hk9 nx1
          · refine thnF (T1.item (X.blk s3 H3 scope ce fp) rfl rfl rfl hc j _ s12 (wipe σ8 vs1) H12 (fun _ _ => False) I12 (stat1 n12) st12 go1) fun r s13 ⟨u1, hr, h13⟩ => ?_
            subst hr
            refine thnF h13 fun _ s14 ⟨x1, H14, I14, r14, y14, st14, n14⟩ => ?_
            have I14' := I14.pinned (stat1 n14) (T1.obj _ _ st14)
            refine thnF (pg1.run _ s14 (wipe σ8 vs1) H14 x1 u1 _ I14' r14 (step1 x1 H14 y14)) fun _ s15 ⟨σ15, H15, I15, hw15, q15⟩ => ?_
            refine thnF (pt1.run _ s15 σ15 H15 _ I15 q15) fun b1 s16 ⟨H16, I16, q16⟩ => ?_
            have fin1 : ∀ {s' : Shared} {H' : Hp}, L2.Inv (X.blk s3 H3 scope ce fp) (([] ++ pinsAt fp s7.heap) ++ pinsAt fp1 s14.heap) σ15 H' s' → Nx1 H' → ∃ m, m < k ∧ ∃ j H', L2.Inv (X.blk s3 H3 scope ce fp) ([] ++ pinsAt fp s7.heap) (wipe σ8 vs1) H' s' ∧ tn1 j s'.heap ∧ (∀ b ∈ fp1, H' b = none) ∧ W1 j m H' := fun {s' H'} I' nx => by
              obtain ⟨m', hm, w'⟩ := hNx1 H' nx
              have pin' : ∀ b ∈ fp1, ∀ o, s14.heap.get? b = some o → s'.heap.get? b = some o ∧ H' b = none := fun b hb o e =>
                let z := I'.pin (b, o) (List.mem_append_right _ (List.mem_append_right _ (mem_pinsAt hb e)))
                ⟨z.1, z.2.1⟩
              refine ⟨m', hm, j + 1, H', I'.unpinned.weak (by rw [← hw15, wipe_length]) (fun j v e => by rw [← hw15] at e; exact (wipe_some e).1), T1.keep _ _ _ st14 fun b hb o e => (pin' b hb o e).1, fun b hb => ?_, w'⟩
              obtain ⟨o, e, _⟩ := T1.obj _ _ st14 b hb
              exact (pin' b hb o e).2
            cases b1 with
            | false =>
              simp only [Bool.false_eq_true, if_false] at q16 ⊢
              exact fin1 I16 q16
            | true =>
              simp only [if_true] at q16 ⊢
              refine thnF (pk.run _ s16 σ15 H16 _ I16 q16) fun z s17 ⟨yk, H17, I17, r17, q17⟩ => ?_
              refine thnF (pe.run _ s17 σ15 H17 _ I17 q17) fun z2 s18 ⟨yv, H18, I18, r18, kvs, ky, ek, hD18, hz18, nx⟩ => ?_
              subst ek
              exact d_dictSet (X := X.blk s3 H3 scope ce fp) I18 hD18 hz18 r17 r18 fun s19 I19 => fin1 I19 nx
        exact compStart1D_ok loop1 (T1.self X.A 0 _ _ _ st11 loop1)
  exact codeAny_compStart_dict loop (T.self X.A 0 _ _ _ st4 loop)
/-- as a value -/
theorem pe_dc2 {kx vx tg iter tg1 iter1 : Expr} {ifs ifs1 : List Expr} {scope : Scope} {own : List (Str × Nat)} {vs1 : List Nat} {pos : Pos} {wi wi1 : TI} {g g1 : TG} {tt tt1 : TT} {tk tv : TE} (hc : X.calm = true) (hN : X.N.Nodup) (hi : PI X tg iter wi) (ok : BlkOk X.N X.env.scope scope own) (hv : ∀ i ∈ vs1, i ∈ own.map (·.2))
    (hg : ∀ (s : Shared) (H : Hp) (C : Addr) (cl : List (Str × Addr)) (fp : List Addr), PG (X.blk s H scope (compEnvC scope cl C X.env) fp) tg g) (ht : ∀ (s : Shared) (H : Hp) (C : Addr) (cl : List (Str × Addr)) (fp : List Addr), PTs (X.blk s H scope (compEnvC scope cl C X.env) fp) ifs tt)
    (hi1 : ∀ (s : Shared) (H : Hp) (C : Addr) (cl : List (Str × Addr)) (fp : List Addr), PI (X.blk s H scope (compEnvC scope cl C X.env) fp) tg1 iter1 wi1)
    (hg1 : ∀ (s : Shared) (H : Hp) (C : Addr) (cl : List (Str × Addr)) (fp : List Addr), PG (X.blk s H scope (compEnvC scope cl C X.env) fp) tg1 g1) (ht1 : ∀ (s : Shared) (H : Hp) (C : Addr) (cl : List (Str × Addr)) (fp : List Addr), PTs (X.blk s H scope (compEnvC scope cl C X.env) fp) ifs1 tt1)
    (hk : ∀ (s : Shared) (H : Hp) (C : Addr) (cl : List (Str × Addr)) (fp : List Addr), PE (X.blk s H scope (compEnvC scope cl C X.env) fp) kx tk) (he : ∀ (s : Shared) (H : Hp) (C : Addr) (cl : List (Str × Addr)) (fp : List Addr), PE (X.blk s H scope (compEnvC scope cl C X.env) fp) vx tv) (hs : ∀ x, foldedSetIterable iter X.env x = pure x := by intro _; rfl) (hs1 : ∀ env x, foldedSetIterable iter1 env x = pure x := by intro _ _; rfl) :
    PE X (.DictComp kx vx [⟨tg, iter, ifs, 0⟩, ⟨tg1, iter1, ifs1, 0⟩] scope pos) (tDc2 wi g tt wi1 g1 tt1 tk tv (own.map (·.2)) vs1) := by
  refine ⟨fun pins s σ H Q I h => ?_⟩
  rw [arm_eval_DictComp]
  refine dc2_core hc hN I hi ok hv hg ht hk he hs hi1 hg1 ht1 hs1 h fun D C s' m H' I' q hn f => ⟨m, hn, fun h'' sb => ?_⟩
  obtain ⟨f0, f1, f2, f3, f4, f5⟩ := f
  exact ⟨.ref D, H', I'.turned (t' := s'.toks) (fun b o hb e => (sb.2 b hb).trans e) f0 f1 f3 f4 f5, rfl, q⟩
end

def putS (j : Nat) (kd y : D) (S : Sto) : Option Sto := match S[j]?, kd, y with
  | some (.dic kvs), .p k, .p v => match pyKey k with
    | some k' => if kvs.length < LIM then some (S.set j (.dic (putD kvs k' v))) else none
    | none => none
  | _, _, _ => none
def dcD (j : Nat) (g : FG) (t : FT) (k e : FE) (ρ : Ev) : List D → M Unit
  | [] => fun S => .ok () S
  | d :: r => fun S => match g d ρ S with
    | none => .bad
    | some (ρ1, S1) => (t ρ1 S1).bind fun b S2 => if b = true then (k ρ1 S2).bind (fun kd S3 => (e ρ1 S3).bind fun y S4 => match putS j kd y S4 with
        | some S5 => dcD j g t k e ρ r S5
        | none => .bad) else dcD j g t k e ρ r S2
def dc2D (j : Nat) (g : FG) (t : FT) (f1 : FI) (g1 : FG) (t1 : FT) (k e : FE) (vs1 : List Nat) (ρ : Ev) : List D → M Unit
  | [] => fun S => .ok () S
  | d :: r => fun S => match g d ρ S with
    | none => .bad
    | some (ρ1, S1) => (t ρ1 S1).bind fun b S2 => if b = true then (f1 ρ1 S2).bind (fun ds1 S3 => (dcD j g1 t1 k e (wipeD ρ1 vs1) ds1 S3).bind fun _ S4 => dc2D j g t f1 g1 t1 k e vs1 ρ r S4) else dc2D j g t f1 g1 t1 k e vs1 ρ r S2
def finDI (j : Nat) : M D := fun S => .ok (iceD (.ob j) S).1 (iceD (.ob j) S).2
def finDO (j : Nat) : M D := fun S => .ok (.ob j) S
def eDc (f : FI) (g : FG) (t : FT) (k e : FE) (vs : List Nat) (fin : Nat → M D) : FE := fun ρ S => (f ρ S).bind fun ds S1 => (noErr (dcD S1.length g t k e (wipeD ρ vs) ds (S1 ++ [.dic []]))).bind fun _ S2 => fin S1.length S2
def eDc2 (f : FI) (g : FG) (t : FT) (f1 : FI) (g1 : FG) (t1 : FT) (k e : FE) (vs vs1 : List Nat) (fin : Nat → M D) : FE := fun ρ S => (f ρ S).bind fun ds S1 => (noErr (dc2D S1.length g t f1 g1 t1 k e vs1 (wipeD ρ vs) ds (S1 ++ [.dic []]))).bind fun _ S2 => fin S1.length S2
def FinDOk (fin : Nat → M D) : Prop := ∀ (K : PySem.W.Frag) (W : WX) (σ : L2.St) (H0 H : Hp) (G0 G : Gh) (S0 S : Sto) (j : Nat) (a : Addr) (Q : VK),
  Ext H0 G0 S0 H G S → Rep K H G S → G.ι[j]? = some a → Aft K W σ H0 G0 S0 (fin j S) (QD K Q) → Lk Q (.ref a) H
theorem finDI_ok : FinDOk finDI := fun K W σ H0 H G0 G S0 S j a Q x r ha q => by
  rcases ice_den r (d := .ob j) (v := .ref a) ⟨a, rfl, ha⟩ with ⟨G', x1, r1, d1⟩ | ⟨b, ws, hb, h⟩
  · exact .inl (q H G' (x.trans x1) r1 _ d1)
  · refine .inr ⟨b, .dK ws, hb, trivial, fun od => ?_⟩
    obtain ⟨G', x1, r1, d1⟩ := h od
    exact q _ G' (x.trans x1) r1 _ d1
theorem finDO_ok : FinDOk finDO := fun K W σ H0 H G0 G S0 S j a Q x r ha q => .inl (q H G x r _ ⟨a, rfl, ha⟩)
theorem putS_den {K : PySem.W.Frag} {H : Hp} {G : Gh} {S S' : Sto} {j : Nat} {a : Addr} {kd y : D} {yv zv : V} (rp : Rep K H G S) (ha : G.ι[j]? = some a) (e : putS j kd y S = some S') (hk : Den K H G kd yv) (hy : Den K H G y zv) :
    ∃ kvs k, yv = kV k ∧ H a = some (.dK kvs) ∧ kvs.length < sizeLine ∧ Ext H G S (upd H a (.dK (putK kvs k zv))) G S' ∧ Rep K (upd H a (.dK (putK kvs k zv))) G S' := by
  unfold putS at e
  split at e
  · rename_i kvs k v em
    obtain ⟨ws, e1, e2, t⟩ := rp.ok j a _ ha em
    have r : KvR K G.φ H kvs ws := ⟨e2, t⟩
    split at e
    · rename_i k' ek
      by_cases hl : kvs.length < LIM
      · rw [if_pos hl] at e
        cases e
        have ea := keyPy_of ek
        subst ea
        have ev : yv = kV k' := by
          cases k' with
          | inl i => exact den_int hk
          | inr z => exact den_str hk
        subst ev
        have rr := r.put (k := k') hy
        have x := Ext.chg (o := .dK (putK ws k' zv)) (m' := .dic (putD kvs k' v)) rp ha em (fun z => nomatch z)
        exact ⟨ws, k', rfl, e1, by rw [← r.length]; exact Nat.lt_trans hl LIM_lt, x, rp.chg ha em (fun z => nomatch z) ⟨_, upd_same, rr.ks, x.dnAll rp rr.vs⟩⟩
      · rw [if_neg hl] at e; cases e
    · cases e
  · cases e
theorem Gives.ext {K : PySem.W.Frag} {J : It} {H0 H1 : Hp} {G0 G1 : Gh} {S0 S1 : Sto} {ds : List D} (g : Gives K J H0 G0 S0 ds) (x : Ext H0 G0 S0 H1 G1 S1) : Gives K J H1 G1 S1 ds :=
  ⟨fun H G S x' => g.go H G S (x.trans x'), fun H G S x' => g.yld H G S (x.trans x'), fun H G S x' => g.stop H G S (x.trans x')⟩
theorem dc_loop {K : PySem.W.Frag} {J : It} {ds : List D} {H1 : Hp} {G1 : Gh} {S1 Sn : Sto} {j : Nat} {Da : Addr} {g : FG} {t : FT} {k e : FE} {ρ : Ev} {σ : L2.St} {vs : List Nat} {P : Hp → Prop}
    (gv : Gives K J H1 G1 S1 ds) (rs1 : RelS K H1 G1 ρ (wipe σ vs)) (r1 : Rep K H1 G1 S1) (ha : G1.ι[j]? = some Da) (eo : dcD j g t k e ρ ds S1 = .ok () Sn) (fin : ∀ H G, Ext H1 G1 S1 H G Sn → Rep K H G Sn → P H) :
    ∃ W : Nat → Nat → Hp → Prop, (∃ m, W 0 m H1) ∧ ∀ i m H, W i m H →
      (J.stop i H ∧ P H) ∨ (J.go i H ∧ ∃ Nx : Hp → Prop, (∀ H', Nx H' → ∃ m', m' < m ∧ W (i + 1) m' H') ∧ ∀ x H', J.yld i H x H' → rdG K vs g x (wipe σ vs) H' fun σ2 H2 => wipe σ2 vs = wipe σ vs ∧ rdT K W0 t σ2 H2 fun b H3 =>
        if b = true then rd K W0 k σ2 H3 fun y H4 => rd K W0 e σ2 H4 fun z H5 => ∃ kvs k, y = kV k ∧ H5 Da = some (.dK kvs) ∧ kvs.length < sizeLine ∧ Nx (upd H5 Da (.dK (putK kvs k z))) else Nx H3) := by
  refine ⟨fun i m H => ∃ G S, m = ds.length - i ∧ i ≤ ds.length ∧ Ext H1 G1 S1 H G S ∧ Rep K H G S ∧ dcD j g t k e ρ (ds.drop i) S = .ok () Sn, ⟨ds.length, G1, S1, by simp, Nat.zero_le _, Ext.refl, r1, by simpa using eo⟩, ?_⟩
  rintro i m H ⟨G, S, rfl, hi, x, r, el⟩
  by_cases hlt : i < ds.length
  · refine .inr ⟨gv.go H G S x r i hlt, fun H' => ∃ G' S', Ext H1 G1 S1 H' G' S' ∧ Rep K H' G' S' ∧ dcD j g t k e ρ (ds.drop (i + 1)) S' = .ok () Sn, fun H' ⟨G', S', h1, h2, h3⟩ => ⟨ds.length - (i + 1), by omega, G', S', rfl, hlt, h1, h2, h3⟩, fun v H' y => ?_⟩
    obtain ⟨ex, rp', dv, _⟩ := gv.yld H G S x r i ds[i] (by simp [hlt]) v H' y
    rw [List.drop_eq_getElem_cons hlt] at el
    unfold dcD at el
    split at el
    · cases el
    · rename_i ρ1 S2 eg
      refine ⟨G, S, ρ, ds[i], (x.trans ex).relS r1 rs1, rp', dv, ?_⟩
      rw [eg]
      refine fun H2 G2 x2 r2 σ2 rs2 w2 => ⟨by rw [w2, wipe_wipe], ?_⟩
      have xa := x.trans (ex.trans x2)
      cases et : t ρ1 S2 with
      | bad => rw [et] at el; cases el
      | err _ _ => rw [et] at el; cases el
      | ok bb S3 =>
        rw [et] at el
        refine ⟨G2, S2, ρ1, rs2, r2, Aft.of_ok et fun H3 G3 x3 r3 => ?_⟩
        have xb := xa.trans x3
        cases bb with
        | false =>
          refine L2.iteF ?_
          simp only [Out.bind_ok, if_neg Bool.false_ne_true] at el
          exact ⟨G3, S3, xb, r3, el⟩
        | true =>
          refine L2.iteT ?_
          simp only [Out.bind_ok, if_pos] at el
          cases ek : k ρ1 S3 with
          | bad => rw [ek] at el; cases el
          | err _ _ => rw [ek] at el; cases el
          | ok kd S4 =>
            rw [ek] at el
            have rs3 := x3.relS r2 rs2
            refine ⟨G3, S3, ρ1, rs3, r3, Aft.of_ok ek fun H4 G4 x4 r4 yv dyv => ?_⟩
            simp only [Out.bind_ok] at el
            cases ee : e ρ1 S4 with
            | bad => rw [ee] at el; cases el
            | err _ _ => rw [ee] at el; cases el
            | ok yd S5 =>
              rw [ee] at el
              refine ⟨G4, S4, ρ1, x4.relS r3 rs3, r4, Aft.of_ok ee fun H5 G5 x5 r5 zv dzv => ?_⟩
              simp only [Out.bind_ok] at el
              split at el
              · rename_i S6 ep
                have xc := (xb.trans x4).trans x5
                obtain ⟨kvs, ky, q1, q2, q3, q4, q5⟩ := putS_den r5 (xc.pre _ _ ha) ep (x5.den r4 dyv) dzv
                exact ⟨kvs, ky, q1, q2, q3, G5, S6, xc.trans q4, q5, el⟩
              · cases el
  · have e : i = ds.length := by omega
    subst e
    rw [List.drop_length] at el
    unfold dcD at el
    cases el
    exact .inl ⟨gv.stop H G _ x r, fin H G x r⟩
section
variable {X : Cx} {W : WX}
theorem dc_read {f : FI} {g : FG} {t : FT} {k e : FE} {vs : List Nat} {fin : Nat → M D} (fo : FinDOk fin) {σ : L2.St} {H : Hp} {Q : VK} (q : rd X.K W (eDc f g t k e vs fin) σ H Q) :
    tDc (rdI X.K W f) (rdG X.K vs g) (rdT X.K W0 t) (rd X.K W0 k) (rd X.K W0 e) vs σ H (Lk Q) := by
  obtain ⟨G, S, ρ, rs, rp, q⟩ := q
  refine ⟨G, S, ρ, rs, rp, (Aft.bind q).mono fun ds H1 G1 S1 x1 r1 q1 J gv Da hDa => ?_⟩
  cases eo : dcD S1.length g t k e (wipeD ρ vs) ds (S1 ++ [.dic []]) with
  | bad => rw [eo] at q1; exact q1.elim
  | err x s => rw [eo] at q1; exact q1.elim
  | ok u Sn =>
    rw [eo] at q1
    have q2 : Aft X.K W σ H1 G1 S1 (fin S1.length Sn) (QD X.K Q) := q1
    have xn : Ext H1 G1 S1 (upd H1 Da (.dK [])) (G1.add Da) (S1 ++ [.dic []]) := Ext.new r1 _ hDa
    have rn : Rep X.K (upd H1 Da (.dK [])) (G1.add Da) (S1 ++ [.dic []]) := Rep.new r1 hDa ⟨[], upd_same, rfl, .nil⟩
    have rs1 : RelS X.K (upd H1 Da (.dK [])) (G1.add Da) (wipeD ρ vs) (wipe σ vs) := ((x1.trans xn).relS rp rs).wipe vs
    exact dc_loop (gv.ext xn) rs1 rn (Gh.add_last r1 Da) eo fun H' G' x' r' => fo X.K W σ H1 H' G1 G' S1 Sn S1.length Da Q (xn.trans x') r' (x'.pre _ _ (Gh.add_last r1 Da)) q2
theorem dc2_read {f f1 : FI} {g g1 : FG} {t t1 : FT} {k e : FE} {vs vs1 : List Nat} {fin : Nat → M D} (fo : FinDOk fin) {σ : L2.St} {H : Hp} {Q : VK} (q : rd X.K W (eDc2 f g t f1 g1 t1 k e vs vs1 fin) σ H Q) :
    tDc2 (rdI X.K W f) (rdG X.K vs g) (rdT X.K W0 t) (rdI X.K W0 f1) (rdG X.K vs1 g1) (rdT X.K W0 t1) (rd X.K W0 k) (rd X.K W0 e) vs vs1 σ H (Lk Q) := by
  obtain ⟨G, S, ρ, rs, rp, q⟩ := q
  refine ⟨G, S, ρ, rs, rp, (Aft.bind q).mono fun ds H1 G1 S1 x1 r1 q1 J gv Da hDa => ?_⟩
  cases eo : dc2D S1.length g t f1 g1 t1 k e vs1 (wipeD ρ vs) ds (S1 ++ [.dic []]) with
  | bad => rw [eo] at q1; exact q1.elim
  | err x s => rw [eo] at q1; exact q1.elim
  | ok u Sn =>
    rw [eo] at q1
    have q2 : Aft X.K W σ H1 G1 S1 (fin S1.length Sn) (QD X.K Q) := q1
    have xn : Ext H1 G1 S1 (upd H1 Da (.dK [])) (G1.add Da) (S1 ++ [.dic []]) := Ext.new r1 _ hDa
    have rn : Rep X.K (upd H1 Da (.dK [])) (G1.add Da) (S1 ++ [.dic []]) := Rep.new r1 hDa ⟨[], upd_same, rfl, .nil⟩
    have rs1 : RelS X.K (upd H1 Da (.dK [])) (G1.add Da) (wipeD ρ vs) (wipe σ vs) := ((x1.trans xn).relS rp rs).wipe vs
    have ha := Gh.add_last r1 Da
    have gv := gv.ext xn
    have fin' : ∀ H' G', Ext (upd H1 Da (.dK [])) (G1.add Da) (S1 ++ [.dic []]) H' G' Sn → Rep X.K H' G' Sn → Lk Q (.ref Da) H' := fun H' G' x' r' => fo X.K W σ H1 H' G1 G' S1 Sn S1.length Da Q (xn.trans x') r' (x'.pre _ _ ha) q2
    clear q1 q2
    generalize hj : S1.length = j at eo ha
    generalize hH : upd H1 Da (.dK []) = H2 at rs1 rn gv fin' ⊢
    generalize hG : G1.add Da = G2 at rs1 rn ha gv fin'
    generalize hS : S1 ++ [.dic []] = S2 at rn gv fin' eo
    refine ⟨fun i m H => ∃ G S, m = ds.length - i ∧ i ≤ ds.length ∧ Ext H2 G2 S2 H G S ∧ Rep X.K H G S ∧ dc2D j g t f1 g1 t1 k e vs1 (wipeD ρ vs) (ds.drop i) S = .ok () Sn, ⟨ds.length, G2, S2, by simp, Nat.zero_le _, Ext.refl, rn, by simpa using eo⟩, ?_⟩
    rintro i m H ⟨G, S, rfl, hi, x, r, el⟩
    by_cases hlt : i < ds.length
    · refine .inr ⟨gv.go H G S x r i hlt, fun H' => ∃ G' S', Ext H2 G2 S2 H' G' S' ∧ Rep X.K H' G' S' ∧ dc2D j g t f1 g1 t1 k e vs1 (wipeD ρ vs) (ds.drop (i + 1)) S' = .ok () Sn, fun H' ⟨G', S', h1, h2, h3⟩ => ⟨ds.length - (i + 1), by omega, G', S', rfl, hlt, h1, h2, h3⟩, fun v H' y => ?_⟩
      obtain ⟨ex, rp', dv, _⟩ := gv.yld H G S x r i ds[i] (by simp [hlt]) v H' y
      rw [List.drop_eq_getElem_cons hlt] at el
      unfold dc2D at el
      split at el
      · cases el
      · rename_i ρ1 S3 eg
        refine ⟨G, S, wipeD ρ vs, ds[i], (x.trans ex).relS rn rs1, rp', dv, ?_⟩
        rw [eg]
        refine fun H3 G3 x3 r3 σ2 rs2 w2 => ⟨by rw [w2, wipe_wipe], ?_⟩
        have xa := x.trans (ex.trans x3)
        cases et : t ρ1 S3 with
        | bad => rw [et] at el; cases el
        | err _ _ => rw [et] at el; cases el
        | ok bb S4 =>
          rw [et] at el
          refine ⟨G3, S3, ρ1, rs2, r3, Aft.of_ok et fun H4 G4 x4 r4 => ?_⟩
          have xb := xa.trans x4
          cases bb with
          | false =>
            refine L2.iteF ?_
            simp only [Out.bind_ok, if_neg Bool.false_ne_true] at el
            exact ⟨G4, S4, xb, r4, el⟩
          | true =>
            refine L2.iteT ?_
            simp only [Out.bind_ok, if_pos] at el
            cases ef : f1 ρ1 S4 with
            | bad => rw [ef] at el; cases el
            | err _ _ => rw [ef] at el; cases el
            | ok ds1 S5 =>
              rw [ef] at el
              have rs4 := x4.relS r3 rs2
              refine ⟨G4, S4, ρ1, rs4, r4, Aft.of_ok ef fun H5 G5 x5 r5 J1 gv1 => ?_⟩
              simp only [Out.bind_ok] at el
              cases ed : dcD j g1 t1 k e (wipeD ρ1 vs1) ds1 S5 with
              | bad => rw [ed] at el; cases el
              | err _ _ => rw [ed] at el; cases el
              | ok u1 S6 =>
                rw [ed] at el
                simp only [Out.bind_ok] at el
                have xc := xb.trans x5
                exact dc_loop gv1 ((x5.relS r4 rs4).wipe vs1) r5 (xc.pre _ _ ha) ed fun H' G' x' r' => ⟨G', S6, xc.trans x', r', el⟩
    · have e : i = ds.length := by omega
      subst e
      rw [List.drop_length] at el
      unfold dc2D at el
      cases el
      exact .inl ⟨gv.stop H G _ x r, fin' H G x r⟩
variable {kx vx tg iter tg1 iter1 : Expr} {ifs ifs1 : List Expr} {scope : Scope} {own : List (Str × Nat)} {vs1 : List Nat} {pos : Pos} {f f1 : FI} {g g1 : FG} {t t1 : FT} {k e : FE} {fin : Nat → M D}
theorem de_dc (fo : FinDOk fin) (hc : X.calm = true) (hN : X.N.Nodup) (hi : DI X W tg iter f) (ok : BlkOk X.N X.env.scope scope own)
    (hg : ∀ (s : Shared) (H : Hp) (C : Addr) (cl : List (Str × Addr)) (fp : List Addr), DG (X.blk s H scope (compEnvC scope cl C X.env) fp) (own.map (·.2)) tg g)
    (ht : ∀ (s : Shared) (H : Hp) (C : Addr) (cl : List (Str × Addr)) (fp : List Addr), PTs (X.blk s H scope (compEnvC scope cl C X.env) fp) ifs (rdT X.K W0 t))
    (hk : ∀ (s : Shared) (H : Hp) (C : Addr) (cl : List (Str × Addr)) (fp : List Addr), DE (X.blk s H scope (compEnvC scope cl C X.env) fp) W0 kx k)
    (he : ∀ (s : Shared) (H : Hp) (C : Addr) (cl : List (Str × Addr)) (fp : List Addr), DE (X.blk s H scope (compEnvC scope cl C X.env) fp) W0 vx e) (hs : ∀ x, foldedSetIterable iter X.env x = pure x := by intro _; rfl) :
    DE X W (.DictComp kx vx [⟨tg, iter, ifs, 0⟩] scope pos) (eDc f g t k e (own.map (·.2)) fin) :=
  ⟨PE.imp (PE.lk (pe_dc (g := rdG X.K (own.map (·.2)) g) (tk := rd X.K W0 k) (tv := rd X.K W0 e) hc hN hi.run ok (fun s H C cl fp => (hg s H C cl fp).run) ht (fun s H C cl fp => (hk s H C cl fp).run) (fun s H C cl fp => (he s H C cl fp).run) hs)) fun _ _ _ q => dc_read fo q⟩
theorem de_dc2 (fo : FinDOk fin) (hc : X.calm = true) (hN : X.N.Nodup) (hi : DI X W tg iter f) (ok : BlkOk X.N X.env.scope scope own) (hv : ∀ i ∈ vs1, i ∈ own.map (·.2))
    (hg : ∀ (s : Shared) (H : Hp) (C : Addr) (cl : List (Str × Addr)) (fp : List Addr), DG (X.blk s H scope (compEnvC scope cl C X.env) fp) (own.map (·.2)) tg g)
    (ht : ∀ (s : Shared) (H : Hp) (C : Addr) (cl : List (Str × Addr)) (fp : List Addr), PTs (X.blk s H scope (compEnvC scope cl C X.env) fp) ifs (rdT X.K W0 t))
    (hi1 : ∀ (s : Shared) (H : Hp) (C : Addr) (cl : List (Str × Addr)) (fp : List Addr), DI (X.blk s H scope (compEnvC scope cl C X.env) fp) W0 tg1 iter1 f1)
    (hg1 : ∀ (s : Shared) (H : Hp) (C : Addr) (cl : List (Str × Addr)) (fp : List Addr), DG (X.blk s H scope (compEnvC scope cl C X.env) fp) vs1 tg1 g1)
    (ht1 : ∀ (s : Shared) (H : Hp) (C : Addr) (cl : List (Str × Addr)) (fp : List Addr), PTs (X.blk s H scope (compEnvC scope cl C X.env) fp) ifs1 (rdT X.K W0 t1))
    (hk : ∀ (s : Shared) (H : Hp) (C : Addr) (cl : List (Str × Addr)) (fp : List Addr), DE (X.blk s H scope (compEnvC scope cl C X.env) fp) W0 kx k)
    (he : ∀ (s : Shared) (H : Hp) (C : Addr) (cl : List (Str × Addr)) (fp : List Addr), DE (X.blk s H scope (compEnvC scope cl C X.env) fp) W0 vx e) (hs : ∀ x, foldedSetIterable iter X.env x = pure x := by intro _; rfl) (hs1 : ∀ env x, foldedSetIterable iter1 env x = pure x := by intro _ _; rfl) :
    DE X W (.DictComp kx vx [⟨tg, iter, ifs, 0⟩, ⟨tg1, iter1, ifs1, 0⟩] scope pos) (eDc2 f g t f1 g1 t1 k e (own.map (·.2)) vs1 fin) :=
  ⟨PE.imp (PE.lk (pe_dc2 (g := rdG X.K (own.map (·.2)) g) (g1 := rdG X.K vs1 g1) (wi1 := rdI X.K W0 f1) (tk := rd X.K W0 k) (tv := rd X.K W0 e) hc hN hi.run ok hv (fun s H C cl fp => (hg s H C cl fp).run) ht (fun s H C cl fp => (hi1 s H C cl fp).run) (fun s H C cl fp => (hg1 s H C cl fp).run) ht1 (fun s H C cl fp => (hk s H C cl fp).run) (fun s H C cl fp => (he s H C cl fp).run) hs hs1)) fun _ _ _ q => dc2_read fo q⟩
end
end DL

namespace DL
open PySem L2 PySem.Spec PyProof.Rows PySem.W

section
variable {prog : Program} {w : World} {A : Around} {E : Value → Shared → Prop} {s : Shared} {T : String} {r d : Addr} {n : Nat} {P : Nat → Value → Prop} {OK : Heap → Prop}
theorem code_tuple_src {Q₁ : Value → Shared → Prop} (K : KdlSrc prog w T r d n P OK) (hh : A.handled = none) (hok : OK s.heap) (hn : n ≤ sizeLine)
    (h : ∀ (h' : Heap) (tk : Nat) (acc : Array Value), (∀ b o, s.heap.get? b = some o → h'.get? b = some o) → ItemsOf P acc n →
      Q₁ (.ref h'.objs.size) { s with heap := h'.push { cls := .type "tuple", data := .seq acc }, toks := tk }) :
    codeAny (model prog w) A (.call (.builtin "tuple.__new__") ⟨[.type "tuple", .ref r], []⟩) (wants Q₁ E) s := by
  refine codeAny_of_tree ?_
  show wpAny _ A.in1 (do checkBuiltinCall "tuple.__new__" ⟨[.type "tuple", .ref r], []⟩; again (.builtin "tuple.__new__" ⟨[.type "tuple", .ref r], []⟩)) _ _ s
  refine wpAny_bind (wpAny_of_eq (PySem.F.newCall_tuple_1 _) (wpAny_pure ⟨plainId_quiet PySem.F.plain_tuple_new _, codeAny_builtin PySem.F.entry_tuple_new ?_⟩))
  rw [Around.under_plainId PySem.F.plain_tuple_new _]
  have hsub := sub_tuple_self
  have hinit := init_tuple_lookup
  have hmh := madeHere_tuple
  have hTI : s.TypeIs (.ref r) T := K.type s hok
  have hh1 : A.in1.handled = none := hh
  have hnt := K.notTuple
  have hc : ∀ {R : List Value → Shared → Prop} {E' : Value → Shared → Prop}, (∀ (h' : Heap) (tk : Nat) (acc : Array Value), (∀ b o, s.heap.get? b = some o → h'.get? b = some o) → ItemsOf P acc n → R acc.toList { s with heap := h', toks := tk }) → wpAny (model prog w) A.in1 (collect (.ref r)) R E' s := fun q => kdu_collect (A := A.in1) K hh1 hok hn q
  wp_walk using wpAny_typeOf hTI, hc
  intro h' tk acc hk hacc
  show wpAny _ _ (Builtin.Tuple.tupleExact acc.toList.toArray >>= fun v => ret v) _ _ _
  unfold Builtin.Tuple.tupleExact
  refine wpAny_bind (wpAny_newObj_type ?_ (by show acc.toList.toArray.size ≤ sizeLine; simp only [Array.toArray_toList]; rw [hacc.1]; exact hn))
  refine wpAny_pure ?_
  have e : acc.toList.toArray = acc := by simp
  rw [e]
  exact h h' tk acc hk hacc
theorem call_tuple_src {Q : Value → Shared → Prop} (K : KdlSrc prog w T r d n P OK) (hh : A.handled = none) (hok : OK s.heap) (hn : n ≤ sizeLine)
    (hQ : ∀ (h' : Heap) (tk : Nat) (acc : Array Value), (∀ b o, s.heap.get? b = some o → h'.get? b = some o) → ItemsOf P acc n →
      Q (.ref h'.objs.size) { s with heap := h'.push { cls := .type "tuple", data := .seq acc }, toks := tk }) :
    wpAny (model prog w) A (call (.type "tuple") [.ref r]) Q E s := by
  refine callType_codes (Q₁ := fun obj s₁ => s₁.TypeIs obj "tuple" ∧ Q obj s₁) PySem.F.called_tuple (PySem.F.typeCall_tuple_1 _) PySem.F.entry_object_init
    (code_tuple_src (A := A.in1) K hh hok hn fun h' tk acc hk hacc => ⟨⟨_, Heap.get?_push_size _ rfl, rfl⟩, hQ h' tk acc hk hacc⟩) fun obj s₁ h₁ => ?_
  exact ⟨h₁.1, PySem.F.args_object_init_2 obj _, object_init_meets PySem.F.called_tuple.init.lookup PySem.F.called_tuple.made (by decide) prog w A.in1 _ s₁ ⟨h₁.1, rfl, h₁.2⟩⟩
end
def rTupleD : List V → Hp → VK → Prop := fun xs H Q => ∃ p kvs, xs = [.ref p] ∧ Rd H p (.dK kvs) ∧ ∀ q, H q = none → Q (.ref q) (upd H q (.tup (kvs.map fun kv => kV kv.1)))
theorem call_tuple_dK {X : Cx} (hc : X.calm = true) : CallR X (.type "tuple") rTupleD := by
  intro pins s σ H xs us Q I r h
  obtain ⟨p, kvs, e, hk, q⟩ := h
  subst e
  obtain ⟨u, eu, rx⟩ := vals1 r
  subst eu
  obtain rfl : u = Value.ref p := rx
  obtain ⟨z, lo, vs, rk, hd⟩ := (show ObjOk X.prog X.w H s.heap p (.dK kvs) from hk.ok I.hok)
  obtain ⟨ep, hat⟩ := hd.dictAt
  have hl : kvs.length = vs.length := Paired.length rk
  refine call_tuple_src (PySem.W.kdl_dict (knd := mixKind X.prog X.w) (kvs := vs) (ep := ep) lo) (I.ok.hd hc) hat (by rw [← hl]; exact z) fun h' tk acc' hkeep hacc => ?_
  have I2 : L2.Inv X pins σ H { s with heap := h', toks := tk } := I.kept hkeep
  refine ⟨.ref h'.objs.size, upd H h'.objs.size (.tup (kvs.map fun kv => kV kv.1)), I2.laid (t' := tk) (fun c o e => Heap.get?_push_of_some _ e) (Nat.le_refl _) (show ObjOk X.prog X.w _ _ _ (.tup (kvs.map fun kv => kV kv.1)) from ⟨?_, acc'.toList, ?_, ?_⟩), rfl, q _ (I2.hok.fresh (Nat.le_refl _))⟩
  · rw [List.length_map]; exact z
  · have el : acc'.toList.length = acc'.size := by simp
    refine vals_of_at (by rw [List.length_map, el, hacc.1, hl]) fun j x w h1 h2 => ?_
    obtain ⟨k, y, hky, hi⟩ := hacc.2 j w (by rw [← Array.getElem?_toList]; exact h2)
    have e1 : (kvs.map (·.1))[j]? = some k := by
      rw [KV.keys rk, List.getElem?_map, hky] <;> rfl
    have e2 : (kvs.map fun kv => kV kv.1)[j]? = some (kV k) := by
      have e3 : (kvs.map fun kv => kV kv.1) = (kvs.map (·.1)).map kV := by rw [List.map_map] <;> rfl
      rw [e3, List.getElem?_map, e1] <;> rfl
    rw [e2] at h1
    cases h1
    exact keyIs_rel hi
  · rw [Array.toArray_toList]; exact IsTup.new _ _
/-- the keys as items -/
theorem keys_dn {K : PySem.W.Frag} {φ : List (Addr × HO)} {H : Hp} : ∀ {kvs : List (Key × PyData)} {ws : List (Key × V)}, KvR K φ H kvs ws → DnAll K φ H (kvs.map fun kv => keyPy kv.1) (ws.map fun kv => kV kv.1) := by
  intro kvs ws r
  have e : (kvs.map fun kv => keyPy kv.1) = (kvs.map (·.1)).map keyPy := by rw [List.map_map]; rfl
  have e2 : (ws.map fun kv => kV kv.1) = (ws.map (·.1)).map kV := by rw [List.map_map]; rfl
  rw [e, e2, r.ks]
  generalize ws.map (·.1) = ks
  induction ks with
  | nil => exact .nil
  | cons k ks ih =>
    refine .cons ?_ ih
    cases k with
    | inl i => exact Dn.int i
    | inr z => exact Dn.str z
def tupleXM : List D → M D := fun ds S => match ds with
  | [.p (.tuple xs)] => .ok (.p (.tuple xs)) S
  | [d] => match lstOf S d with
    | some xs => .ok (.p (.tuple xs)) S
    | none => match dicOf S d with
      | some kvs => .ok (.p (.tuple (kvs.map fun kv => keyPy kv.1))) S
      | none => .bad
  | _ => .bad
def listXM (fin : List PyData → M D) : List D → M D := fun ds S => match ds with
  | [d] => match seqOf S d with
    | some xs => fin xs S
    | none => match dicOf S d with
      | some kvs => fin (kvs.map fun kv => keyPy kv.1) S
      | none => .bad
  | _ => .bad
section
variable {X : Cx} {W : WX} {p pos : Pos} {e : Expr} {fa : FA}
theorem de_tupleX (hc : X.calm = true) (hg : Gl X "tuple") (hm : X.mg "tuple" = none) (ha : DA X W [e] fa) (he : starEach [e] X.env = (false, eval e X.env) :: starEach [] X.env := by rfl) : DE X W (.Call (.Name "tuple" p) [e] [] pos) (eA tupleXM fa) :=
  de_callTy (call_tuple_of.or (call_tuple_dK hc)) (by
    intro W σ H G S xs vs Q rp dv q
    unfold tupleXM at q
    split at q
    · obtain ⟨v, rfl, dv1⟩ := denL1 dv
      replace dv := dv1
      obtain ⟨a, us, rfl, hq, t⟩ := den_tup dv
      exact .inl ⟨a, us, rfl, .inr ⟨hq, q.ret rp dv⟩⟩
    · obtain ⟨v, rfl, dv1⟩ := denL1 dv
      replace dv := dv1
      split at q
      · rename_i xs es
        obtain ⟨a, us, rfl, hq, t⟩ := lstOf_den rp es dv
        exact .inl ⟨a, us, rfl, .inl ⟨SqL.of hq, fun l hl => Aft.newTup q rp t hl⟩⟩
      · split at q
        · rename_i kvs es
          obtain ⟨a, ws, rfl, hH, r⟩ := dicOf_den rp es dv
          exact .inr ⟨a, ws, rfl, hH, fun l hl => Aft.newTup q rp (keys_dn r) hl⟩
        · exact q.elim
    · exact q.elim) hg hm (by decide +kernel) ha (by decide) (by decide) he
def rListRd : List V → Hp → VK → Prop := fun xs H Q => ∃ (a : Addr) (kvs : List (Key × V)), xs = [.ref a] ∧ Rd H a (.dK kvs) ∧ ∀ p, H p = none → Q (.ref p) (upd H p (.lst (kvs.map fun kv => kV kv.1)))
theorem sim_listXL {K : PySem.W.Frag} : SimA K (fun xs H Q => rList K xs H Q ∨ rListRd xs H Q) (listXM finL) := by
  intro W σ H G S xs vs Q rp dv q
  unfold listXM at q
  split at q
  · obtain ⟨v, rfl, dv1⟩ := denL1 dv
    replace dv := dv1
    split at q
    · rename_i xs es
      obtain ⟨a, us, rfl, hq, t⟩ := seqOf_den rp es dv
      exact .inl ⟨a, us, rfl, hq, fun l hl => Aft.newLst q rp t hl⟩
    · split at q
      · rename_i kvs es
        obtain ⟨a, ws, rfl, hH, r⟩ := dicOf_den rp es dv
        exact .inr ⟨a, ws, rfl, hH, fun l hl => Aft.newLst q rp (keys_dn r) hl⟩
      · exact q.elim
  · exact q.elim
theorem sim_listXM {K : PySem.W.Frag} : SimA K (fun xs H Q => rList K xs H Q ∨ rListRd xs H Q) (listXM finM) := by
  intro W σ H G S xs vs Q rp dv q
  unfold listXM at q
  split at q
  · obtain ⟨v, rfl, dv1⟩ := denL1 dv
    replace dv := dv1
    split at q
    · rename_i xs es
      obtain ⟨a, us, rfl, hq, t⟩ := seqOf_den rp es dv
      exact .inl ⟨a, us, rfl, hq, fun l hl => Aft.newLstM q rp t hl⟩
    · split at q
      · rename_i kvs es
        obtain ⟨a, ws, rfl, hH, r⟩ := dicOf_den rp es dv
        exact .inr ⟨a, ws, rfl, hH, fun l hl => Aft.newLstM q rp (keys_dn r) hl⟩
      · exact q.elim
  · exact q.elim
theorem de_listX (hc : X.calm = true) (hg : Gl X "list") (hm : X.mg "list" = none) (ha : DA X W [e] fa) (he : starEach [e] X.env = (false, eval e X.env) :: starEach [] X.env := by rfl) : DE X W (.Call (.Name "list" p) [e] [] pos) (eA (listXM finL) fa) :=
  de_callTy (call_list_of.or (call_listD hc)) sim_listXL hg hm (by decide +kernel) ha (by decide) (by decide) he
theorem de_listXM (hc : X.calm = true) (hg : Gl X "list") (hm : X.mg "list" = none) (ha : DA X W [e] fa) (he : starEach [e] X.env = (false, eval e X.env) :: starEach [] X.env := by rfl) : DE X W (.Call (.Name "list" p) [e] [] pos) (eA (listXM finM) fa) :=
  de_callTy (call_list_of.or (call_listD hc)) sim_listXM hg hm (by decide +kernel) ha (by decide) (by decide) he

def unPairs : List PyData → Option (List (Key × PyData))
  | [] => some []
  | .tuple [k, v] :: r => match pyKey k, unPairs r with
    | some key, some kvs => some ((key, v) :: kvs)
    | _, _ => none
  | _ :: _ => none
theorem unPairs_dn {K : PySem.W.Frag} {φ : List (Addr × HO)} {H : Hp} : ∀ {xs : List PyData} {kvs : List (Key × PyData)} {vs : List V}, unPairs xs = some kvs → DnAll K φ H xs vs →
    ∃ (ps : List Addr) (ws : List (Key × V)), vs = ps.map V.ref ∧ Paired (fun p (kv : Key × V) => SqT K H p [kV kv.1, kv.2]) ps ws ∧ KvR K φ H kvs ws := by
  intro xs
  induction xs with
  | nil =>
    intro kvs vs e t
    cases e
    cases t
    exact ⟨[], [], rfl, .nil, .nil⟩
  | cons x r ih =>
    intro kvs vs e t
    cases t with
    | cons h t =>
      unfold unPairs at e
      split at e
      · rename_i hx
        cases hx
      · rename_i k v r' ex
        cases ex
        split at e
        · rename_i key kvs' ek er
          cases e
          obtain ⟨ps, ws, rfl, hp, hr⟩ := ih er t
          obtain ⟨a, us, rfl, hq, tt⟩ := den_tup (G := ⟨[], φ⟩) (show Den K H ⟨[], φ⟩ (.p (.tuple [k, v])) _ from h)
          cases tt with
          | cons h1 t2 =>
            cases t2 with
            | cons h2 t3 =>
              cases t3
              have ekd := keyPy_of ek
              subst ekd
              rename_i v1 v2
              have ev : v1 = kV key := by
                cases key with
                | inl i => exact den_int (G := ⟨[], φ⟩) h1
                | inr z => exact den_str (G := ⟨[], φ⟩) h1
              subst ev
              exact ⟨a :: ps, (key, v2) :: ws, rfl, .cons hq hp, hr.cons h2⟩
        · cases e
      · cases e
def dictPM (fin : List (Key × PyData) → M D) : List D → M D := fun ds S => match ds with
  | [d] => match lstOf S d with
    | some xs => match unPairs xs with
      | some kvs => fin (mergeD kvs) S
      | none => .bad
    | none => .bad
  | _ => .bad
theorem de_dictP (hc : X.calm = true) (hg : Gl X "dict") (hm : X.mg "dict" = none) (ha : DA X W [e] fa) (he : starEach [e] X.env = (false, eval e X.env) :: starEach [] X.env := by rfl) : DE X W (.Call (.Name "dict" p) [e] [] pos) (eA (dictPM finDL) fa) :=
  de_callTy (CallR.lk (call_dictP hc)) (by
    intro W σ H G S xs vs Q rp dv q
    unfold dictPM at q
    split at q
    · obtain ⟨v, rfl, dv1⟩ := denL1 dv
      replace dv := dv1
      split at q
      · rename_i xs es
        obtain ⟨a, us, rfl, hq, t⟩ := lstOf_den rp es dv
        split at q
        · rename_i kvs ek
          obtain ⟨ps, ws, rfl, hp, hr⟩ := unPairs_dn ek t
          have kr := hr.merge .nil
          exact ⟨a, ps, ws, rfl, SqL.of hq, hp, fun l hl => Aft.newDicL q rp kr.ks kr.vs hl⟩
        · exact q.elim
      · exact q.elim
    · exact q.elim) hg hm (by decide +kernel) ha (by decide) (by decide) he
theorem de_dictPM (hc : X.calm = true) (hg : Gl X "dict") (hm : X.mg "dict" = none) (ha : DA X W [e] fa) (he : starEach [e] X.env = (false, eval e X.env) :: starEach [] X.env := by rfl) : DE X W (.Call (.Name "dict" p) [e] [] pos) (eA (dictPM finDM) fa) :=
  de_callTy (call_dictP hc) (by
    intro W σ H G S xs vs Q rp dv q
    unfold dictPM at q
    split at q
    · obtain ⟨v, rfl, dv1⟩ := denL1 dv
      replace dv := dv1
      split at q
      · rename_i xs es
        obtain ⟨a, us, rfl, hq, t⟩ := lstOf_den rp es dv
        split at q
        · rename_i kvs ek
          obtain ⟨ps, ws, rfl, hp, hr⟩ := unPairs_dn ek t
          have kr := hr.merge .nil
          exact ⟨a, ps, ws, rfl, SqL.of hq, hp, fun l hl => Aft.newDicM q rp kr.ks kr.vs hl⟩
        · exact q.elim
      · exact q.elim
    · exact q.elim) hg hm (by decide +kernel) ha (by decide) (by decide) he

theorem rev_get {α : Type} {xs : List α} {i : Nat} {d : α} (e : xs.reverse[i]? = some d) : i < xs.length ∧ xs[xs.length - 1 - i]? = some d := by
  have h : i < xs.reverse.length := (List.getElem?_eq_some_iff.mp e).1
  rw [List.length_reverse] at h
  rw [List.getElem?_reverse h] at e
  exact ⟨h, e⟩
def revIM : D → M (List D) := fun d S => match d with
  | .p (.list xs) => .ok (xs.reverse.map .p) S
  | .p (.tuple xs) => .ok (xs.reverse.map .p) S
  | _ => .bad
def iRevM (f : FE) : FI := fun ρ S => (f ρ S).bind revIM
theorem gives_revL {K : PySem.W.Frag} {H : Hp} {G : Gh} {S : Sto} {a : Addr} {vs : List V} {xs : List PyData} (rp : Rep K H G S) (fa : FL G.φ a vs) (ta : DnAll K G.φ H xs vs) : Gives K (Itv K a vs.length) H G S (xs.reverse.map .p) where
  go := fun H1 G1 S1 x r i hi => by
    rw [List.length_map, List.length_reverse, ta.length] at hi
    exact ⟨hi, vs, vs[vs.length - 1 - i], SqL.of ((fa.mono x.phi) H1 r.phi), by simp⟩
  yld := fun H1 G1 S1 x r i d e v H' y => by
    obtain ⟨rfl, y1⟩ := y
    have e1 := y1 vs (SqL.of ((fa.mono x.phi) H' r.phi))
    obtain ⟨d1, ed1, dn1⟩ := (x.dnAll rp ta).getV e1
    rw [List.getElem?_map, Option.map_eq_some_iff] at e
    obtain ⟨d', e', rfl⟩ := e
    obtain ⟨h1, h2⟩ := rev_get e'
    rw [ta.length] at h2
    rw [ed1] at h2; cases h2
    exact ⟨Ext.refl, r, dn1, .inl rfl⟩
  stop := fun H1 G1 S1 x r => by
    rw [List.length_map, List.length_reverse, ta.length]
    exact Nat.le_refl _
theorem gives_revT {K : PySem.W.Frag} {H : Hp} {G : Gh} {S : Sto} {a : Addr} {vs : List V} {xs : List PyData} (rp : Rep K H G S) (fa : SqT K H a vs) (ta : DnAll K G.φ H xs vs) : Gives K (RT.ItvT K a vs.length) H G S (xs.reverse.map .p) where
  go := fun H1 G1 S1 x r i hi => by
    rw [List.length_map, List.length_reverse, ta.length] at hi
    exact ⟨hi, vs, vs[vs.length - 1 - i], x.tup rp fa, by simp⟩
  yld := fun H1 G1 S1 x r i d e v H' y => by
    obtain ⟨rfl, y1⟩ := y
    have e1 := y1 vs (x.tup rp fa)
    obtain ⟨d1, ed1, dn1⟩ := (x.dnAll rp ta).getV e1
    rw [List.getElem?_map, Option.map_eq_some_iff] at e
    obtain ⟨d', e', rfl⟩ := e
    obtain ⟨h1, h2⟩ := rev_get e'
    rw [ta.length] at h2
    rw [ed1] at h2; cases h2
    exact ⟨Ext.refl, r, dn1, .inl rfl⟩
  stop := fun H1 G1 S1 x r => by
    rw [List.length_map, List.length_reverse, ta.length]
    exact Nat.le_refl _
theorem di_rev {tg : Expr} {f : FE} (hg : Gl X "reversed") (hm : X.mg "reversed" = none) (he : DE X W e f) (hs : starEach [e] X.env = (false, eval e X.env) :: starEach [] X.env := by rfl) : DI X W tg (.Call (.Name "reversed" p) [e] [] pos) (iRevM f) := by
  refine ⟨PI.imp (RT.pi_revA hg hm he.run hs) fun σ H R ⟨G, S, ρ, rs, rp, q⟩ => ⟨G, S, ρ, rs, rp, (Aft.bind q).mono fun d H1 G1 S1 x1 r1 q1 v dv => ?_⟩⟩
  unfold revIM at q1
  split at q1
  · obtain ⟨a, vs, rfl, fa, ta⟩ := den_lst dv
    exact ⟨a, vs, rfl, .inl ⟨SqL.of (fa _ r1.phi), q1 H1 G1 Ext.refl r1 _ (gives_revL r1 fa ta)⟩⟩
  · obtain ⟨a, vs, rfl, hq, ta⟩ := den_tup dv
    exact ⟨a, vs, rfl, .inr ⟨hq, q1 H1 G1 Ext.refl r1 _ (gives_revT r1 hq ta)⟩⟩
  · exact q1.elim
end
end DL

namespace DL
open PySem L2 PySem.Spec PyProof.Rows
section
variable {X : Cx}
theorem ps_setDc {i : Nat} {y : Str} {py : Pos} {kx vx tg iter : Expr} {ifs : List Expr} {scope : Scope} {own : List (Str × Nat)} {pos spos : Pos} {wi : TI} {g : TG} {tt : TT} {tk tv : TE} (hc : X.calm = true) (hN : X.N.Nodup) (hy : X.N[i]? = some y) (hyl : X.env.scope.names.lookup y = some .local)
    (hsw : swapsWith (.DictComp kx vx [⟨tg, iter, ifs, 0⟩] scope pos) (some (.Name y py)) spos.line X.env = pure true) (hi : PI X tg iter wi) (ok : BlkOk X.N X.env.scope scope own)
    (hg : ∀ (s : Shared) (H : Hp) (C : Addr) (cl : List (Str × Addr)) (fp : List Addr), PG (X.blk s H scope (compEnvC scope cl C X.env) fp) tg g) (ht : ∀ (s : Shared) (H : Hp) (C : Addr) (cl : List (Str × Addr)) (fp : List Addr), PTs (X.blk s H scope (compEnvC scope cl C X.env) fp) ifs tt)
    (hk : ∀ (s : Shared) (H : Hp) (C : Addr) (cl : List (Str × Addr)) (fp : List Addr), PE (X.blk s H scope (compEnvC scope cl C X.env) fp) kx tk) (he : ∀ (s : Shared) (H : Hp) (C : Addr) (cl : List (Str × Addr)) (fp : List Addr), PE (X.blk s H scope (compEnvC scope cl C X.env) fp) vx tv) (hs : ∀ x, foldedSetIterable iter X.env x = pure x := by intro _; rfl) :
    PS X (.Assign [.Name y py] (.DictComp kx vx [⟨tg, iter, ifs, 0⟩] scope pos) spos) (tAsg (tDc wi g tt tk tv (own.map (·.2))) (gName i)) := by
  refine ⟨fun pins s σ H D I h => ?_⟩
  rw [exec_Assign_Name_used _ _ _ _ hsw]
  refine wpAny_bind (wpAny_standAt (wpAny_bind ?_))
  show wpAny _ X.A (do let _ ← comprehension (.DictComp kx vx [⟨tg, iter, ifs, 0⟩] scope pos) scope X.env (firstIterPos [⟨tg, iter, ifs, 0⟩] pos) newDict false (eval iter X.env) (some (assign (.Name y py) X.env))) _ _ s
  have h : tDc wi g tt tk tv (own.map (·.2)) σ H (fun x H1 => gName i x σ H1 D.nx) := h
  refine wpAny_bind (thn (dc_core (Qf := fun _ s' => SP X pins D .next s') hc hN I hi ok hg ht hk he hs h fun L C s' m H' I' q hn f => ?_) fun _ s' hq => wpAny_pure (wpAny_pure hq))
  show wpAny _ _ (assign (.Name y py) X.env (.ref L)) _ _ _
  refine wpAny_assign_Name (store_ok2 (v := V.ref L) I' hN hy (.inl hyl) rfl (fun s2 I2 ⟨a, sb, ha⟩ => ?_) (.inr hyl))
  obtain ⟨f0, f1, f2, f3, f4, f5⟩ := f
  have haC : C ≠ a := by
    rcases ha with z | z
    · rw [z]; exact f1
    · exact fun e => f4 y a z e.symm
  refine ⟨m, hn.sameBut sb haC, fun h3 sb3 => ?_⟩
  exact ⟨_, H', I2.turned (t' := s2.toks) (fun b o hb e => (sb3.2 b hb).trans e) f0 f1 f3 f4 f5, q⟩
theorem ps_setDc2 {i : Nat} {y : Str} {py : Pos} {kx vx tg iter tg1 iter1 : Expr} {ifs ifs1 : List Expr} {scope : Scope} {own : List (Str × Nat)} {vs1 : List Nat} {pos spos : Pos} {wi wi1 : TI} {g g1 : TG} {tt tt1 : TT} {tk tv : TE} (hc : X.calm = true) (hN : X.N.Nodup) (hy : X.N[i]? = some y) (hyl : X.env.scope.names.lookup y = some .local)
    (hsw : swapsWith (.DictComp kx vx [⟨tg, iter, ifs, 0⟩, ⟨tg1, iter1, ifs1, 0⟩] scope pos) (some (.Name y py)) spos.line X.env = pure true) (hi : PI X tg iter wi) (ok : BlkOk X.N X.env.scope scope own) (hv : ∀ i ∈ vs1, i ∈ own.map (·.2))
    (hg : ∀ (s : Shared) (H : Hp) (C : Addr) (cl : List (Str × Addr)) (fp : List Addr), PG (X.blk s H scope (compEnvC scope cl C X.env) fp) tg g) (ht : ∀ (s : Shared) (H : Hp) (C : Addr) (cl : List (Str × Addr)) (fp : List Addr), PTs (X.blk s H scope (compEnvC scope cl C X.env) fp) ifs tt)
    (hi1 : ∀ (s : Shared) (H : Hp) (C : Addr) (cl : List (Str × Addr)) (fp : List Addr), PI (X.blk s H scope (compEnvC scope cl C X.env) fp) tg1 iter1 wi1)
    (hg1 : ∀ (s : Shared) (H : Hp) (C : Addr) (cl : List (Str × Addr)) (fp : List Addr), PG (X.blk s H scope (compEnvC scope cl C X.env) fp) tg1 g1) (ht1 : ∀ (s : Shared) (H : Hp) (C : Addr) (cl : List (Str × Addr)) (fp : List Addr), PTs (X.blk s H scope (compEnvC scope cl C X.env) fp) ifs1 tt1)
    (hk : ∀ (s : Shared) (H : Hp) (C : Addr) (cl : List (Str × Addr)) (fp : List Addr), PE (X.blk s H scope (compEnvC scope cl C X.env) fp) kx tk) (he : ∀ (s : Shared) (H : Hp) (C : Addr) (cl : List (Str × Addr)) (fp : List Addr), PE (X.blk s H scope (compEnvC scope cl C X.env) fp) vx tv) (hs : ∀ x, foldedSetIterable iter X.env x = pure x := by intro _; rfl) (hs1 : ∀ env x, foldedSetIterable iter1 env x = pure x := by intro _ _; rfl) :
    PS X (.Assign [.Name y py] (.DictComp kx vx [⟨tg, iter, ifs, 0⟩, ⟨tg1, iter1, ifs1, 0⟩] scope pos) spos) (tAsg (tDc2 wi g tt wi1 g1 tt1 tk tv (own.map (·.2)) vs1) (gName i)) := by
  refine ⟨fun pins s σ H D I h => ?_⟩
  rw [exec_Assign_Name_used _ _ _ _ hsw]
  refine wpAny_bind (wpAny_standAt (wpAny_bind ?_))
  show wpAny _ X.A (do let _ ← comprehension (.DictComp kx vx [⟨tg, iter, ifs, 0⟩, ⟨tg1, iter1, ifs1, 0⟩] scope pos) scope X.env (firstIterPos [⟨tg, iter, ifs, 0⟩, ⟨tg1, iter1, ifs1, 0⟩] pos) newDict false (eval iter X.env) (some (assign (.Name y py) X.env))) _ _ s
  have h : tDc2 wi g tt wi1 g1 tt1 tk tv (own.map (·.2)) vs1 σ H (fun x H1 => gName i x σ H1 D.nx) := h
  refine wpAny_bind (thn (dc2_core (Qf := fun _ s' => SP X pins D .next s') hc hN I hi ok hv hg ht hk he hs hi1 hg1 ht1 hs1 h fun L C s' m H' I' q hn f => ?_) fun _ s' hq => wpAny_pure (wpAny_pure hq))
  show wpAny _ _ (assign (.Name y py) X.env (.ref L)) _ _ _
  refine wpAny_assign_Name (store_ok2 (v := V.ref L) I' hN hy (.inl hyl) rfl (fun s2 I2 ⟨a, sb, ha⟩ => ?_) (.inr hyl))
  obtain ⟨f0, f1, f2, f3, f4, f5⟩ := f
  have haC : C ≠ a := by
    rcases ha with z | z
    · rw [z]; exact f1
    · exact fun e => f4 y a z e.symm
  refine ⟨m, hn.sameBut sb haC, fun h3 sb3 => ?_⟩
  exact ⟨_, H', I2.turned (t' := s2.toks) (fun b o hb e => (sb3.2 b hb).trans e) f0 f1 f3 f4 f5, q⟩
theorem sw_trueD {kx vx : Expr} {gs : List Comprehension} {scope : Scope} {pos py : Pos} {y : Str} {l : Nat} {env : Env} (hk : env.scope.kind = .function) (hy : env.scope.names.lookup y = some .local) (hl : (py.line == pos.line) = true)
    (ha : (scope.names.any fun (n, k) => n == y && (k == .local || k == .cell)) = false) : swapsWith (.DictComp kx vx gs scope pos) (some (.Name y py)) l env = pure true := by
  have ky : env.kindOf y = some .local := hy
  have hb : env.blockKind = .function := by unfold Env.blockKind; rw [hk]; rfl
  unfold swapsWith
  simp only [hb, ky, ha, Expr.pos, hl]
  rfl
end
section
variable {X : Cx} {W : WX} {kx vx tg iter tg1 iter1 : Expr} {ifs ifs1 : List Expr} {scope : Scope} {own : List (Str × Nat)} {vs1 : List Nat} {pos spos : Pos} {f f1 : FI} {g g1 : FG} {t t1 : FT} {k e : FE} {fin : Nat → M D}
theorem ds_setDc {i : Nat} {y : Str} {py : Pos} (fo : FinDOk fin) (hc : X.calm = true) (hN : X.N.Nodup) (hy : X.N[i]? = some y) (hyl : X.env.scope.names.lookup y = some .local)
    (hsw : swapsWith (.DictComp kx vx [⟨tg, iter, ifs, 0⟩] scope pos) (some (.Name y py)) spos.line X.env = pure true) (hi : DI X W tg iter f) (ok : BlkOk X.N X.env.scope scope own)
    (hg : ∀ (s : Shared) (H : Hp) (C : Addr) (cl : List (Str × Addr)) (fp : List Addr), DG (X.blk s H scope (compEnvC scope cl C X.env) fp) (own.map (·.2)) tg g) (ht : ∀ (s : Shared) (H : Hp) (C : Addr) (cl : List (Str × Addr)) (fp : List Addr), PTs (X.blk s H scope (compEnvC scope cl C X.env) fp) ifs (rdT X.K W0 t))
    (hk : ∀ (s : Shared) (H : Hp) (C : Addr) (cl : List (Str × Addr)) (fp : List Addr), DE (X.blk s H scope (compEnvC scope cl C X.env) fp) W0 kx k) (he : ∀ (s : Shared) (H : Hp) (C : Addr) (cl : List (Str × Addr)) (fp : List Addr), DE (X.blk s H scope (compEnvC scope cl C X.env) fp) W0 vx e) (hs : ∀ x, foldedSetIterable iter X.env x = pure x := by intro _; rfl) :
    DS X W (.Assign [.Name y py] (.DictComp kx vx [⟨tg, iter, ifs, 0⟩] scope pos) spos) (sSet i (eDc f g t k e (own.map (·.2)) fin)) := by
  refine ⟨PS.imp (PS.lkN (ps_setDc (g := rdG X.K (own.map (·.2)) g) (tk := rd X.K W0 k) (tv := rd X.K W0 e) hc hN hy hyl hsw hi.run ok (fun s H C cl fp => (hg s H C cl fp).run) ht (fun s H C cl fp => (hk s H C cl fp).run) (fun s H C cl fp => (he s H C cl fp).run) hs)) fun E σ H ⟨G, S, ρ, rs, rp, q⟩ => ?_⟩
  exact dc_read fo ⟨G, S, ρ, rs, rp, (AftS.st q rs rp).mono fun d H1 G1 S1 x1 r1 q1 v dv => AftS.next q1 Ext.refl r1 ((x1.relS rp rs).set dv i)⟩
theorem ds_setDc2 {i : Nat} {y : Str} {py : Pos} (fo : FinDOk fin) (hc : X.calm = true) (hN : X.N.Nodup) (hy : X.N[i]? = some y) (hyl : X.env.scope.names.lookup y = some .local)
    (hsw : swapsWith (.DictComp kx vx [⟨tg, iter, ifs, 0⟩, ⟨tg1, iter1, ifs1, 0⟩] scope pos) (some (.Name y py)) spos.line X.env = pure true) (hi : DI X W tg iter f) (ok : BlkOk X.N X.env.scope scope own) (hv : ∀ i ∈ vs1, i ∈ own.map (·.2))
    (hg : ∀ (s : Shared) (H : Hp) (C : Addr) (cl : List (Str × Addr)) (fp : List Addr), DG (X.blk s H scope (compEnvC scope cl C X.env) fp) (own.map (·.2)) tg g) (ht : ∀ (s : Shared) (H : Hp) (C : Addr) (cl : List (Str × Addr)) (fp : List Addr), PTs (X.blk s H scope (compEnvC scope cl C X.env) fp) ifs (rdT X.K W0 t))
    (hi1 : ∀ (s : Shared) (H : Hp) (C : Addr) (cl : List (Str × Addr)) (fp : List Addr), DI (X.blk s H scope (compEnvC scope cl C X.env) fp) W0 tg1 iter1 f1) (hg1 : ∀ (s : Shared) (H : Hp) (C : Addr) (cl : List (Str × Addr)) (fp : List Addr), DG (X.blk s H scope (compEnvC scope cl C X.env) fp) vs1 tg1 g1) (ht1 : ∀ (s : Shared) (H : Hp) (C : Addr) (cl : List (Str × Addr)) (fp : List Addr), PTs (X.blk s H scope (compEnvC scope cl C X.env) fp) ifs1 (rdT X.K W0 t1))
    (hk : ∀ (s : Shared) (H : Hp) (C : Addr) (cl : List (Str × Addr)) (fp : List Addr), DE (X.blk s H scope (compEnvC scope cl C X.env) fp) W0 kx k) (he : ∀ (s : Shared) (H : Hp) (C : Addr) (cl : List (Str × Addr)) (fp : List Addr), DE (X.blk s H scope (compEnvC scope cl C X.env) fp) W0 vx e) (hs : ∀ x, foldedSetIterable iter X.env x = pure x := by intro _; rfl) (hs1 : ∀ env x, foldedSetIterable iter1 env x = pure x := by intro _ _; rfl) :
    DS X W (.Assign [.Name y py] (.DictComp kx vx [⟨tg, iter, ifs, 0⟩, ⟨tg1, iter1, ifs1, 0⟩] scope pos) spos) (sSet i (eDc2 f g t f1 g1 t1 k e (own.map (·.2)) vs1 fin)) := by
  refine ⟨PS.imp (PS.lkN (ps_setDc2 (g := rdG X.K (own.map (·.2)) g) (g1 := rdG X.K vs1 g1) (wi1 := rdI X.K W0 f1) (tk := rd X.K W0 k) (tv := rd X.K W0 e) hc hN hy hyl hsw hi.run ok hv (fun s H C cl fp => (hg s H C cl fp).run) ht (fun s H C cl fp => (hi1 s H C cl fp).run) (fun s H C cl fp => (hg1 s H C cl fp).run) ht1 (fun s H C cl fp => (hk s H C cl fp).run) (fun s H C cl fp => (he s H C cl fp).run) hs hs1)) fun E σ H ⟨G, S, ρ, rs, rp, q⟩ => ?_⟩
  exact dc2_read fo ⟨G, S, ρ, rs, rp, (AftS.st q rs rp).mono fun d H1 G1 S1 x1 r1 q1 v dv => AftS.next q1 Ext.refl r1 ((x1.relS rp rs).set dv i)⟩
end
end DL

namespace DL
open PySem L2 PySem.Spec PyProof.Rows

def revMM : D → M D := fun d S => match rlOf S d with
  | some xs => .ok (.ob S.length) (S ++ [.lst xs.reverse])
  | none => .bad
theorem de_revM {X : Cx} {W : WX} {e : Expr} {f : FE} {pos p2 : Pos} {k : Nat} {p1 p3 : Pos} (he : DE X W e f) : DE X W (.Subscript e (.Slice none none (some (.UnaryOp .USub (.Constant (.int 1) k p1) p2)) p3) pos) (e1 revMM f) := by
  refine ⟨PE.imp (pe_revL he.run) fun σ H Q ⟨G, S, ρ, rs, rp, q⟩ => ⟨G, S, ρ, rs, rp, (Aft.bind q).mono fun d H1 G1 S1 x1 r1 q1 v dv => ?_⟩⟩
  unfold revMM at q1
  split at q1
  · rename_i xs es
    obtain ⟨a, vs, rfl, hq, t⟩ := rlOf_den r1 es dv
    exact ⟨a, vs, rfl, hq, fun p hp => q1.newLstM r1 t.reverse hp⟩
  · exact q1.elim
def wq (Inv : Ev → Sto → Prop) (R : Fl → Sto → Prop) : Fl → Sto → Prop := fun fl s => match fl with
  | .next ρ => Inv ρ s
  | .cont ρ => Inv ρ s
  | .brk ρ => R (.next ρ) s
  | .ret d => R (.ret d) s
  | .exc x ρ => R (.exc x ρ) s
section
variable {Inv : Ev → Sto → Prop} {R : Fl → Sto → Prop} {ρ : Ev} {s : Sto}
@[simp] theorem wq_next : wq Inv R (.next ρ) s = Inv ρ s := rfl
@[simp] theorem wq_cont : wq Inv R (.cont ρ) s = Inv ρ s := rfl
@[simp] theorem wq_brk : wq Inv R (.brk ρ) s = R (.next ρ) s := rfl
@[simp] theorem wq_ret {d : D} : wq Inv R (.ret d) s = R (.ret d) s := rfl
@[simp] theorem wq_exc {x : Exn} : wq Inv R (.exc x ρ) s = R (.exc x ρ) s := rfl
end
theorem whileD_wp {t : FT} {b : FS} {R : Fl → Sto → Prop} (Inv : Nat → Ev → Sto → Prop)
    (step : ∀ m ρ S, Inv m ρ S → wp (t ρ S) (fun c S1 => if c = true then ∃ m', m = m' + 1 ∧ wpS (b ρ S1) (wq (Inv m') R) else R (.next ρ) S1) (fun x s => R (.exc x ρ) s)) :
    ∀ {f m : Nat} {ρ : Ev} {S : Sto}, m < f → Inv m ρ S → wpS (whileD f t b ρ S) R
  | 0, m, ρ, S, hm, h => absurd hm (Nat.not_lt_zero _)
  | f + 1, m, ρ, S, hm, h => by
    unfold whileD
    rw [wpS_st]
    refine wp_mono (step m ρ S h) (fun c S1 hc => ?_) (fun _ _ h => h)
    cases c with
    | false =>
      rw [if_neg Bool.false_ne_true]
      rw [if_neg Bool.false_ne_true] at hc
      exact hc
    | true =>
      rw [if_pos rfl]
      rw [if_pos rfl] at hc
      obtain ⟨m', rfl, hb⟩ := hc
      cases e : b ρ S1 with
      | none => rw [e] at hb; exact hb.elim
      | some p =>
        obtain ⟨fl, S2⟩ := p
        rw [e] at hb
        cases fl with
        | next ρ' => exact whileD_wp Inv step (by omega) hb
        | cont ρ' => exact whileD_wp Inv step (by omega) hb
        | brk ρ' => exact hb
        | ret d => exact hb
        | exc x ρ' => exact hb
theorem dcD_wp {j : Nat} {g : FG} {t : FT} {k e : FE} {ρ : Ev} {Q : Unit → Sto → Prop} {X : Exn → Sto → Prop} (Inv : Nat → Sto → Prop) : ∀ {ds : List D} {i : Nat} {S : Sto}, Inv i S →
    (∀ l d S, ds[l]? = some d → Inv (i + l) S → wpG (g d ρ S) fun ρ1 S1 => wp (t ρ1 S1) (fun b S2 => if b = true then wp (k ρ1 S2) (fun kd S3 => wp (e ρ1 S3) (fun y S4 => ∃ S5, putS j kd y S4 = some S5 ∧ Inv (i + l + 1) S5) X) X else Inv (i + l + 1) S2) X) →
    (∀ S, Inv (i + ds.length) S → Q () S) → wp (dcD j g t k e ρ ds S) Q X
  | [], i, S, h0, hs, hq => hq S h0
  | d :: r, i, S, h0, hs, hq => by
    have h1 := hs 0 d S rfl h0
    unfold dcD
    cases eg : g d ρ S with
    | none => rw [eg] at h1; exact h1.elim
    | some p =>
      obtain ⟨ρ1, S1⟩ := p
      rw [eg] at h1
      have h1 : wp (t ρ1 S1) _ _ := h1
      show wp ((t ρ1 S1).bind _) Q X
      rw [wp_bind]
      refine wp_mono h1 (fun b S2 hb => ?_) (fun _ _ h => h)
      have rec_ : ∀ S, Inv (i + 0 + 1) S → wp (dcD j g t k e ρ r S) Q X := fun S hI => dcD_wp Inv (i := i + 0 + 1) hI (fun l d' S' he hi => by
        have := hs (l + 1) d' S' (by simpa using he) (by rwa [show i + (l + 1) = i + 0 + 1 + l by omega])
        rwa [show i + (l + 1) + 1 = i + 0 + 1 + l + 1 by omega] at this) (fun S hI => hq S (by rwa [List.length_cons, show i + (r.length + 1) = i + 0 + 1 + r.length by omega]))
      cases b with
      | false =>
        rw [if_neg Bool.false_ne_true] at hb ⊢
        exact rec_ _ hb
      | true =>
        rw [if_pos rfl] at hb ⊢
        rw [wp_bind]
        refine wp_mono hb (fun kd S3 hk => ?_) (fun _ _ h => h)
        rw [wp_bind]
        refine wp_mono hk (fun y S4 hy => ?_) (fun _ _ h => h)
        obtain ⟨S5, e5, hI⟩ := hy
        rw [e5]
        exact rec_ _ hI
theorem dc2D_wp {j : Nat} {g : FG} {t : FT} {f1 : FI} {g1 : FG} {t1 : FT} {k e : FE} {vs1 : List Nat} {ρ : Ev} {Q : Unit → Sto → Prop} {X : Exn → Sto → Prop} (Inv : Nat → Sto → Prop) : ∀ {ds : List D} {i : Nat} {S : Sto}, Inv i S →
    (∀ l d S, ds[l]? = some d → Inv (i + l) S → wpG (g d ρ S) fun ρ1 S1 => wp (t ρ1 S1) (fun b S2 => if b = true then wp (f1 ρ1 S2) (fun ds1 S3 => wp (dcD j g1 t1 k e (wipeD ρ1 vs1) ds1 S3) (fun _ S4 => Inv (i + l + 1) S4) X) X else Inv (i + l + 1) S2) X) →
    (∀ S, Inv (i + ds.length) S → Q () S) → wp (dc2D j g t f1 g1 t1 k e vs1 ρ ds S) Q X
  | [], i, S, h0, hs, hq => hq S h0
  | d :: r, i, S, h0, hs, hq => by
    have h1 := hs 0 d S rfl h0
    unfold dc2D
    cases eg : g d ρ S with
    | none => rw [eg] at h1; exact h1.elim
    | some p =>
      obtain ⟨ρ1, S1⟩ := p
      rw [eg] at h1
      have h1 : wp (t ρ1 S1) _ _ := h1
      show wp ((t ρ1 S1).bind _) Q X
      rw [wp_bind]
      refine wp_mono h1 (fun b S2 hb => ?_) (fun _ _ h => h)
      have rec_ : ∀ S, Inv (i + 0 + 1) S → wp (dc2D j g t f1 g1 t1 k e vs1 ρ r S) Q X := fun S hI => dc2D_wp Inv (i := i + 0 + 1) hI (fun l d' S' he hi => by
        have := hs (l + 1) d' S' (by simpa using he) (by rwa [show i + (l + 1) = i + 0 + 1 + l by omega])
        rwa [show i + (l + 1) + 1 = i + 0 + 1 + l + 1 by omega] at this) (fun S hI => hq S (by rwa [List.length_cons, show i + (r.length + 1) = i + 0 + 1 + r.length by omega]))
      cases b with
      | false =>
        rw [if_neg Bool.false_ne_true] at hb ⊢
        exact rec_ _ hb
      | true =>
        rw [if_pos rfl] at hb ⊢
        rw [wp_bind]
        refine wp_mono hb (fun ds1 S3 hk => ?_) (fun _ _ h => h)
        rw [wp_bind]
        exact wp_mono hk (fun _ S4 hI => rec_ _ hI) (fun _ _ h => h)
section
variable {f : FI} {g : FG} {t : FT} {f1 : FI} {g1 : FG} {t1 : FT} {k e : FE} {vs vs1 : List Nat} {fin : Nat → M D} {ρ : Ev} {S : Sto} {Q : D → Sto → Prop} {X : Exn → Sto → Prop}
@[simp] theorem eDc_ : eDc f g t k e vs fin ρ S = (f ρ S).bind fun ds S1 => (noErr (dcD S1.length g t k e (wipeD ρ vs) ds (S1 ++ [.dic []]))).bind fun _ S2 => fin S1.length S2 := rfl
@[simp] theorem eDc2_ : eDc2 f g t f1 g1 t1 k e vs vs1 fin ρ S = (f ρ S).bind fun ds S1 => (noErr (dc2D S1.length g t f1 g1 t1 k e vs1 (wipeD ρ vs) ds (S1 ++ [.dic []]))).bind fun _ S2 => fin S1.length S2 := rfl
theorem finDI_ok' {j : Nat} {kvs : List (Key × PyData)} (h : S[j]? = some (.dic kvs)) : finDI j S = .ok (.p (.dict (pyKv kvs))) (S.set j .dead) := by simp [finDI, iceD, h]
@[simp] theorem finDO_ {j : Nat} : finDO j S = .ok (.ob j) S := rfl
@[simp] theorem iRevM_ {h : FE} : iRevM h ρ S = (h ρ S).bind revIM := rfl
@[simp] theorem revIM_t {xs : List PyData} : revIM (.p (.tuple xs)) S = .ok (xs.reverse.map .p) S := rfl
@[simp] theorem revIM_l {xs : List PyData} : revIM (.p (.list xs)) S = .ok (xs.reverse.map .p) S := rfl
@[simp] theorem tupleXM_t {xs : List PyData} : tupleXM [.p (.tuple xs)] S = .ok (.p (.tuple xs)) S := rfl
@[simp] theorem tupleXM_l {xs : List PyData} : tupleXM [.p (.list xs)] S = .ok (.p (.tuple xs)) S := rfl
theorem tupleXM_d {d : D} {kvs : List (Key × PyData)} (h0 : lstOf S d = none) (h1 : ∀ xs, d ≠ .p (.tuple xs)) (h : dicOf S d = some kvs) : tupleXM [d] S = .ok (.p (.tuple (kvs.map fun kv => keyPy kv.1))) S := by
  cases d with
  | p x => cases x <;> simp_all [tupleXM]
  | ob i => simp [tupleXM, h0, h]
  | ro x => simp [tupleXM, h0, h]
  | ext x => simp [tupleXM, h0, h]
@[simp] theorem listXM_l {fin : List PyData → M D} {xs : List PyData} : listXM fin [.p (.list xs)] S = fin xs S := rfl
@[simp] theorem listXM_t {fin : List PyData → M D} {xs : List PyData} : listXM fin [.p (.tuple xs)] S = fin xs S := rfl
theorem revMM_ok {d : D} {xs : List PyData} (h : rlOf S d = some xs) : revMM d S = .ok (.ob S.length) (S ++ [.lst xs.reverse]) := by simp [revMM, h]
end
end DL

namespace DL
open PySem L2 PySem.Spec PyProof.Rows

theorem zip_no_len : typeLookup (.type "zip") "__len__" = pure none := am_miss_of_fast (by decide +kernel)
theorem zip_no_hint : typeLookup (.type "zip") "__length_hint__" = pure none := am_miss_of_fast (by decide +kernel)
theorem hint_zip {prog : Program} {w : World} {A : Around} {E : Value → Shared → Prop} {s : Shared} {r : Addr} {Q : Bool → Shared → Prop} (hT : s.TypeIs (.ref r) "zip") (h : Q true s) : wpAny (model prog w) A (Builtin.List.listLengthHint (.ref r)) Q E s := by
  unfold Builtin.List.listLengthHint
  refine wpAny_bind (wpAny_specialOf hT zip_no_len ?_)
  show wpAny _ A (specialOf (Value.ref r) (Str.ofString "__length_hint__") >>= _) _ _ _
  refine wpAny_bind (wpAny_specialOf hT zip_no_hint ?_)
  exact wpAny_pure h
section
variable {X : Cx} {pins : List (Addr × Obj)} {σ : L2.St} {A : Around} {R : Result → Shared → Prop} {b1 b2 : Bool} {a b z TI TO i1 i2 L : Addr} {xs ys : List V} {res : Value}
theorem ext_loop (hh : A.handled = none) (D : ZipApart z TI TO i1 i2 a b) (Pv : Nat → Hp → Prop) (hL : L ∉ [z, TI, TO, i1, i2])
    (sq : ∀ i H, Pv i H → SqX X.K b1 H a xs ∧ SqX X.K b2 H b ys)
    (step : ∀ i H T x y, Pv i H → xs[i]? = some x → ys[i]? = some y → H T = none → ∃ ws, H L = some (.lst ws) ∧ ws.length < sizeLine ∧ Pv (i + 1) (upd (upd H T (.tup [x, y])) L (.lst (ws ++ [.ref T]))))
    (fin : ∀ H s, L2.Inv X pins σ H s → Pv (min xs.length ys.length) H → R (.ok (.ret res)) s) :
    ∀ (k i : Nat) (s : Shared) (H : Hp), min xs.length ys.length - i = k → i ≤ min xs.length ys.length → L2.Inv X pins σ H s → (∀ c ∈ [z, TI, TO, i1, i2], FpOk X pins H c) → ZSt s.heap z TI TO → IsPair s.heap TI (.ref i1) (.ref i2) → (∃ x y, IsPair s.heap TO x y) → ItX b1 s.heap i1 a i → ItX b2 s.heap i2 b i → Pv i H →
      codeAny (model X.prog X.w) A (.builtin "list.extend.loop" ⟨[.ref L, .ref z, res], []⟩) R s := by
  intro k
  induction k with
  | zero =>
    intro i s H hk hi I hf hz hTI hTO h1 h2 hp
    have hin : i = min xs.length ys.length := by omega
    subst hin
    obtain ⟨hqx, hqy⟩ := sq _ _ hp
    obtain ⟨its, rv, p, _⟩ := inv_X I hqx
    obtain ⟨its2, rv2, p2, _⟩ := inv_X I hqy
    obtain ⟨x0, y0, hTO⟩ := hTO
    have l1 := rv.length
    have l2 := rv2.length
    have g1 : min xs.length ys.length ≤ its.toArray.size := by simp; omega
    have g2 : min xs.length ys.length ≤ its2.toArray.size := by simp; omega
    have g3 : min xs.length ys.length = its.toArray.size ∨ min xs.length ys.length = its2.toArray.size := by simp; omega
    refine codeAny_builtin PySem.F.entry_extend_loop ?_
    rw [Around.under_plainId PySem.F.plain_extend_loop _]
    show wpAny _ A.in1 (pyNext (.ref z) >>= _) _ _ s
    refine wpAny_bind (pyNext_zipX_end (sep_of D) (draws_X (prog := X.prog) (w := X.w) (A := A.in1.in1) hh b1 i1 a D.l1i1 its.toArray) (draws_X (prog := X.prog) (w := X.w) (A := A.in1.in1) hh b2 i2 b D.l2i2 its2.toArray) hz hTI hTO ⟨h1, p⟩ ⟨h2, p2⟩ g1 g2 g3 fun h' tk hk => ?_)
    exact wpAny_pure (fin H _ (I.turnedL (t' := tk) (ch := [z, TI, TO, i1, i2]) (fun c o hb q =>
      hk c o (fun q' => hb (by simp [q'])) (fun q' => hb (by simp [q'])) (fun q' => hb (by simp [q'])) (fun q' => hb (by simp [q'])) q) hf) hp)
  | succ k ih =>
    intro i s H hk hi I hf hz hTI hTO h1 h2 hp
    obtain ⟨hqx, hqy⟩ := sq _ _ hp
    obtain ⟨its, rv, p, _⟩ := inv_X I hqx
    obtain ⟨its2, rv2, p2, _⟩ := inv_X I hqy
    obtain ⟨x0, y0, hTO⟩ := hTO
    have hi1 : i < xs.length := by omega
    have hi2 : i < ys.length := by omega
    have hx : xs[i]? = some xs[i] := List.getElem?_eq_getElem hi1
    have hy : ys[i]? = some ys[i] := List.getElem?_eq_getElem hi2
    generalize xs[i] = x at hx
    generalize ys[i] = y at hy
    obtain ⟨u, hu, ru⟩ := rv.get hx
    obtain ⟨u2, hu2, ru2⟩ := rv2.get hy
    have hl1 : i < its.toArray.size := by have := (List.getElem?_eq_some_iff.mp hu).1; simpa using this
    have hl2 : i < its2.toArray.size := by have := (List.getElem?_eq_some_iff.mp hu2).1; simpa using this
    refine codeAny_builtin PySem.F.entry_extend_loop ?_
    rw [Around.under_plainId PySem.F.plain_extend_loop _]
    show wpAny _ A.in1 (pyNext (.ref z) >>= _) _ _ s
    refine wpAny_bind (pyNext_zipX_item (sep_of D) (draws_X (prog := X.prog) (w := X.w) (A := A.in1.in1) hh b1 i1 a D.l1i1 its.toArray) (draws_X (prog := X.prog) (w := X.w) (A := A.in1.in1) hh b2 i2 b D.l2i2 its2.toArray) hz hTI hTO ⟨h1, p⟩ ⟨h2, p2⟩ hl1 hl2 fun u' u2' h' tk e1 e2 z' TO' h1' h2' hT hsz hk => ?_)
    have eu : u' = u := by
      have h2 : its.toArray[i]? = some u := by simpa using hu
      rw [h2] at e1; cases e1; rfl
    have eu2 : u2' = u2 := by
      have h2 : its2.toArray[i]? = some u2 := by simpa using hu2
      rw [h2] at e2; cases e2; rfl
    subst eu eu2
    have new : ObjOk X.prog X.w (upd H s.heap.objs.size (.tup [x, y])) h' s.heap.objs.size (.tup [x, y]) :=
      ⟨by show 2 ≤ sizeLine; decide, [u', u2'], .cons ru (.cons ru2 .nil), ⟨_, hT, rfl, _, rfl⟩⟩
    have I1 : L2.Inv X pins σ (upd H s.heap.objs.size (.tup [x, y])) { s with heap := h', toks := tk } :=
      I.turnedNew (t' := tk) (ch := [z, TI, TO, i1, i2]) (fun c o hb q => hk c o (fun q' => hb (by simp [q'])) (fun q' => hb (by simp [q'])) (fun q' => hb (by simp [q'])) (fun q' => hb (by simp [q'])) q) hf (Nat.le_refl _) new
    have hTn : H s.heap.objs.size = none := I.hok.fresh (Nat.le_refl _)
    obtain ⟨ws, hLw, hwl, hp'⟩ := step i H s.heap.objs.size x y hp hx hy hTn
    have hLne : L ≠ s.heap.objs.size := fun e => by rw [e, hTn] at hLw; cases hLw
    have hL1 : (upd H s.heap.objs.size (.tup [x, y])) L = some (.lst ws) := by rw [upd_ne hLne]; exact hLw
    obtain ⟨hz', its3, n3, ri, e3⟩ := I1.hok L _ hL1
    have e3 : h'.get? L = some { cls := .type "list", dict := none, data := .seq its3.toArray n3, slots := #[] } := e3
    show wpAny _ A.in1 (updateSeq L (·.push (.ref s.heap.objs.size)) >>= _) _ _ _
    have hlen := ri.length
    refine wpAny_bind (wpAny_updateSeq (s := { s with heap := h', toks := tk }) e3 rfl (wpAny_pure ⟨plainId_quiet PySem.F.plain_extend_loop _, ?_⟩) (by simp; omega) (by simp; omega))
    have hself := Heap.get?_update_self (Obj.mapSeq (·.push (Value.ref s.heap.objs.size))) e3 rfl
    have oth : ∀ c o, c ≠ L → h'.get? c = some o → (h'.update L (Obj.mapSeq (·.push (Value.ref s.heap.objs.size)))).get? c = some o := fun c o hc e => (Heap.get?_update_other _ _ (Ne.symm hc)).trans e
    have zl : z ≠ L := fun e => hL (by simp [e])
    have TIl : TI ≠ L := fun e => hL (by simp [e])
    have TOl : TO ≠ L := fun e => hL (by simp [e])
    have i1l : i1 ≠ L := fun e => hL (by simp [e])
    have i2l : i2 ≠ L := fun e => hL (by simp [e])
    have I2 : L2.Inv X pins σ (upd (upd H s.heap.objs.size (.tup [x, y])) L (.lst (ws ++ [.ref s.heap.objs.size]))) { s with heap := h'.update L (Obj.mapSeq (·.push (Value.ref s.heap.objs.size))), toks := tk } := by
      refine I1.write (t' := tk) (by rw [hL1]; trivial) (.inl rfl) (fun c o hc q => oth c o hc q) ⟨_, hself⟩ ⟨by rw [List.length_append]; exact hwl, its3 ++ [.ref s.heap.objs.size], n3 + 1, ri.append (.cons (show RelV (V.ref s.heap.objs.size) (Value.ref s.heap.objs.size) from rfl) .nil), ?_⟩
      rw [hself]
      simp [Obj.mapSeq]
    refine ih (i + 1) _ _ (by omega) (by omega) I2 (fun c hcm => ?_) ?_ ?_ ?_ ?_ ?_ hp'
    · have hclt : c < s.heap.objs.size := by
        have e' : c = z ∨ c = TI ∨ c = TO ∨ c = i1 ∨ c = i2 := by simpa using hcm
        rcases e' with q | q | q | q | q
        · rw [q]; obtain ⟨f0, f, e, _⟩ := hz; exact Heap.lt_size e
        · rw [q]; exact Heap.lt_size hTI
        · rw [q]; exact Heap.lt_size hTO
        · rw [q]; obtain ⟨_, e1, _⟩ := h1.obj; exact Heap.lt_size e1
        · rw [q]; obtain ⟨_, e2, _⟩ := h2.obj; exact Heap.lt_size e2
      refine ⟨?_, (hf c hcm).2⟩
      rw [upd_ne (fun e : c = L => hL (e ▸ hcm)), upd_ne (Nat.ne_of_lt hclt)]
      exact (hf c hcm).1
    · obtain ⟨f0, f, e, q⟩ := z'
      exact ⟨f0, f, oth z _ zl e, q⟩
    · exact oth TI _ TIl (hk _ _ D.TIz D.TITO D.TIi1 D.TIi2 hTI)
    · obtain ⟨c1, c2, e⟩ := TO'
      exact ⟨c1, c2, oth TO _ TOl e⟩
    · exact h1'.1.at fun o q => oth i1 o i1l q
    · exact h2'.1.at fun o q => oth i2 o i2l q
end
/-- list(zip(e, e2)), L the new list -/
def tListZip (K : PySem.W.Frag) (ta : TA) : TE := fun σ H Q => ta σ H fun vs H1 => ∃ a b xs ys b1 b2, vs = [.ref a, .ref b] ∧ SqX K b1 H1 a xs ∧ SqX K b2 H1 b ys ∧ ∀ L, H1 L = none → ∃ Pv : Nat → Hp → Prop, Pv 0 (upd H1 L (.lst [])) ∧
  (∀ i H, Pv i H → SqX K b1 H a xs ∧ SqX K b2 H b ys) ∧
  (∀ i H T x y, Pv i H → xs[i]? = some x → ys[i]? = some y → H T = none → ∃ ws, H L = some (.lst ws) ∧ ws.length < sizeLine ∧ Pv (i + 1) (upd (upd H T (.tup [x, y])) L (.lst (ws ++ [.ref T])))) ∧
  ∀ H, Pv (min xs.length ys.length) H → Q (.ref L) H
theorem pe_listZip {X : Cx} {e e2 : Expr} {ta : TA} {p pos p2 pos2 : Pos} (hc : X.calm = true) (hgl : Gl X "list") (hml : X.mg "list" = none) (hg : Gl X "zip") (hm : X.mg "zip" = none) (ha : PA X [e, e2] ta)
    (hs : starEach [e, e2] X.env = (false, eval e X.env) :: starEach [e2] X.env := by rfl) (hpl : (backTo pos2 (starEach [e2] X.env)).any (·.1) = false := by rfl)
    (hs0 : starEach [.Call (.Name "zip" p2) [e, e2] [] pos2] X.env = (false, eval (.Call (.Name "zip" p2) [e, e2] [] pos2) X.env) :: starEach [] X.env := by rfl) :
    PE X (.Call (.Name "list" p) [.Call (.Name "zip" p2) [e, e2] [] pos2] [] pos) (tListZip X.K ta) := by
  refine ⟨fun pins s σ H Q I h => ?_⟩
  refine Call_ (ld_blt I hgl hml boot_list (PyProof.Rows.callWith_type1 (args_cons (Call_ (ld_blt I hg hm PyProof.Rows.boot_zip (PyProof.Rows.callWith_type1 (thn (ha.run pos2 pins s σ H _ I h) fun us s1 ⟨vs, H1, I1, r1, q1⟩ => ?_) hs hpl))) hs0) hs0))
  obtain ⟨a, b, xs, ys, b1, b2, ex, hqx, hqy, q⟩ := q1
  subst ex
  cases r1 with
  | cons r rr =>
    cases rr with
    | cons r' rr =>
      cases rr
      cases r
      cases r'
      obtain ⟨its, rv, p1, la⟩ := inv_X I1 hqx
      obtain ⟨its2, rv2, p2', lb⟩ := inv_X I1 hqy
      refine zip_begins2 (begins_X b1 a its.toArray) (begins_X b2 b its2.toArray) p1 p2' fun h' hz hTI hTO h1 h2 hsz hk => args_nil ?_
      have I2 : L2.Inv X pins σ H1 { s1 with heap := h' } := I1.kept (t' := s1.toks) hk
      have hh : X.A.handled = none := I2.ok.hd hc
      generalize hN : h'.objs.size = N at hsz
      generalize hz0 : s1.heap.objs.size + 4 = z at hz ⊢
      generalize hTI0 : s1.heap.objs.size + 2 = TI at hz hTI
      generalize hTO0 : s1.heap.objs.size + 3 = TO at hz hTO
      generalize hi10 : s1.heap.objs.size = i1 at hTI h1
      have D : ZipApart z TI TO i1 (s1.heap.objs.size + 1) a b := by
        rw [← hz0, ← hTI0, ← hTO0, ← hi10]
        exact PySem.W.ktu_apart s1.heap.objs.size a b la lb
      generalize hi20 : s1.heap.objs.size + 1 = i2 at hTI h2 D
      have e12 : i1 + 1 = i2 := by omega
      rw [e12] at hTI
      have hLf : N ∉ [z, TI, TO, i1, i2] := by simp; omega
      have hLn : H1 N = none := I1.hok.fresh (by omega)
      obtain ⟨Pv, hp0, hsq, hst, hfin⟩ := q N hLn
      have hzl : z < N := by omega
      refine callType_codes (Q₁ := fun obj s₁ => obj = .ref N ∧ s₁ = { s1 with heap := h'.push { cls := .type "list", data := .seq #[] } }) PySem.F.called_list (PySem.F.typeCall_list_1 _) PySem.F.entry_list_init
        (code_list_new _ (by rw [← hN]; exact ⟨rfl, rfl⟩)) fun obj s₁ h₁ => ?_
      obtain ⟨rfl, rfl⟩ := h₁
      have hS : (h'.push { cls := .type "list", data := .seq #[] }).get? N = some { cls := .type "list", data := .seq #[] } := by rw [← hN]; exact Heap.get?_push_size _ rfl
      refine ⟨⟨_, hS, rfl⟩, PySem.F.args_list_init_2 _ _, ?_⟩
      show wpAny _ _ (do let old ← Builtin.List.listItems (.ref N); Builtin.List.listUpdate (.ref N) (fun _ => #[]); letGo old.toList.reverse; Builtin.List.listExtendWith (.ref N) (.ref z) .none) _ _ _
      refine wpAny_bind ?_
      unfold Builtin.List.listItems
      refine wpAny_bind (wpAny_seqItems hS rfl (wpAny_pure ?_))
      show wpAny _ _ (updateSeq N (fun _ => #[]) >>= fun _ => letGo (#[] : Array Value).toList.reverse >>= fun _ => Builtin.List.listExtendWith (.ref N) (.ref z) .none) _ _ _
      refine wpAny_bind (wpAny_updateSeq hS rfl ?_)
      have hS₂ := Heap.get?_update_self (Obj.mapSeq (fun _ => (#[] : Array Value))) hS rfl
      have oth : ∀ c o, c ≠ N → h'.get? c = some o → ((h'.push { cls := .type "list", data := .seq #[] }).update N (Obj.mapSeq (fun _ => (#[] : Array Value)))).get? c = some o :=
        fun c o hc e => (Heap.get?_update_other _ _ (Ne.symm hc)).trans (Heap.get?_push_of_some _ e)
      refine wpAny_bind (wpAny_letGo ?_)
      unfold Builtin.List.listExtendWith
      refine wpAny_bind (wpAny_typeOf (T := "zip") ⟨_, oth z _ (Nat.ne_of_lt hzl) hz, rfl⟩ ?_)
      have e1 : Builtin.List.listSameRef (.ref N) (.ref z) = false := by
        have hne : N ≠ z := Nat.ne_of_gt hzl
        simp [Builtin.List.listSameRef, hne]
      have e2 : (Value.type "zip" == Value.type "list") = false := by decide
      have e3 : (Value.type "zip" == Value.type "tuple") = false := by decide
      simp only [e1, e2, e3, Bool.or_false, Bool.false_eq_true, if_false]
      refine wpAny_bind (pyIter_zipX (TI := TI) (TO := TO) ⟨_, _, oth z _ (Nat.ne_of_lt hzl) hz, .inl rfl⟩ ?_)
      refine wpAny_bind (wpAny_holding (hint_zip ⟨_, oth z _ (Nat.ne_of_lt hzl) hz, rfl⟩ ?_))
      refine wpAny_ite_split (fun _ => ?_) (fun hab => absurd rfl hab)
      refine wpAny_bind (wpAny_rule ?_)
      refine wpAny_bind ?_
      show wpAny _ _ (updateSeq N (·.push .none) >>= fun _ => updateSeq N (·.pop)) _ _ _
      refine wpAny_bind (wpAny_updateSeq hS₂ rfl ?_)
      have hS₃ := Heap.get?_update_self (Obj.mapSeq (·.push Value.none)) hS₂ rfl
      refine wpAny_updateSeq (hz := by seq_fits) hS₃ rfl ?_
      have hS₄ := Heap.get?_update_self (Obj.mapSeq (·.pop)) hS₃ rfl
      have oth2 : ∀ c o, c ≠ N → h'.get? c = some o → ((((h'.push { cls := .type "list", data := .seq #[] }).update N (Obj.mapSeq (fun _ => (#[] : Array Value)))).update N (Obj.mapSeq (·.push Value.none))).update N (Obj.mapSeq (·.pop))).get? c = some o :=
        fun c o hc e => (Heap.get?_update_other _ _ (Ne.symm hc)).trans ((Heap.get?_update_other _ _ (Ne.symm hc)).trans (oth c o hc e))
      have I3 : L2.Inv X pins σ (upd H1 N (.lst [])) { s1 with heap := ((((h'.push { cls := .type "list", data := .seq #[] }).update N (Obj.mapSeq (fun _ => (#[] : Array Value)))).update N (Obj.mapSeq (·.push Value.none))).update N (Obj.mapSeq (·.pop))) } := by
        refine I2.laid (t' := s1.toks) (fun c o e => oth2 c o (by have := Heap.lt_size e; rw [hN] at this; exact Nat.ne_of_lt this) e) (by show h'.objs.size ≤ N; omega) ⟨Nat.zero_le _, [], _, .nil, hS₄⟩
      have zs : ZSt ((((h'.push { cls := .type "list", data := .seq #[] }).update N (Obj.mapSeq (fun _ => (#[] : Array Value)))).update N (Obj.mapSeq (·.push Value.none))).update N (Obj.mapSeq (·.pop))) z TI TO := ⟨_, _, oth2 z _ (Nat.ne_of_lt hzl) hz, .inl rfl⟩
      have x1 := itX_of (b := b1) (oth2 i1 _ (by omega) h1)
      have x2 := itX_of (b := b2) (oth2 i2 _ (by omega) h2)
      refine wpAny_pure ⟨plainId_quiet PySem.F.plain_extend_loop _, ext_loop (X := X) (pins := pins) (σ := σ) (A := X.A.in1) (L := N) hh D Pv hLf hsq hst (fun H s I hp => ⟨rfl, .ref N, H, I, rfl, hfin H hp⟩) _ 0 _ _ rfl (Nat.zero_le _) I3 (fun c hcm => ?_) zs (oth2 TI _ (by omega) hTI) ⟨_, _, oth2 TO _ (by omega) hTO⟩ x1 x2 hp0⟩
      have hle : s1.heap.objs.size ≤ c := by
        have e' : c = z ∨ c = TI ∨ c = TO ∨ c = i1 ∨ c = i2 := by simpa using hcm
        rcases e' with z | z | z | z | z <;> rw [z] <;> omega
      obtain ⟨f0, f1⟩ := I1.fpOk (pins := pins) (H' := H1) hle (I1.hok.fresh hle)
      exact ⟨by rw [upd_ne (fun e : c = N => hLf (e ▸ hcm))]; exact f0, f1⟩
def zipQ : List PyData → List PyData → List PyData
  | x :: xs, y :: ys => .tuple [x, y] :: zipQ xs ys
  | _, _ => []
theorem zipQ_len : ∀ (xs ys : List PyData), (zipQ xs ys).length = min xs.length ys.length
  | [], _ => by simp [zipQ]
  | _ :: _, [] => by simp [zipQ]
  | x :: xs, y :: ys => by simp only [zipQ, List.length_cons, zipQ_len xs ys]; omega
theorem zipQ_get : ∀ (xs ys : List PyData) (i : Nat) (x y : PyData), xs[i]? = some x → ys[i]? = some y → (zipQ xs ys)[i]? = some (.tuple [x, y])
  | [], _, i, x, y, h, _ => by simp at h
  | _ :: _, [], i, x, y, _, h => by simp at h
  | a :: xs, b :: ys, 0, x, y, h1, h2 => by simp at h1 h2; simp [zipQ, h1, h2]
  | a :: xs, b :: ys, i + 1, x, y, h1, h2 => by
    simp only [zipQ, List.getElem?_cons_succ]
    exact zipQ_get xs ys i x y (by simpa using h1) (by simpa using h2)
def listZipM (fin : List PyData → M D) : List D → M D := fun ds S1 => match ds with
  | [d, e] => match seqX d, seqX e with
    | some (_, xs), some (_, ys) => if (zipQ xs ys).length ≤ LIM then fin (zipQ xs ys) S1 else .bad
    | _, _ => .bad
  | _ => .bad
theorem de_listZip {X : Cx} {W : WX} {e e2 : Expr} {fa : FA} {fin : List PyData → M D} {p pos p2 pos2 : Pos} (fo : FinOk fin) (hc : X.calm = true) (hgl : Gl X "list") (hml : X.mg "list" = none) (hg : Gl X "zip") (hm : X.mg "zip" = none) (ha : DA X W [e, e2] fa)
    (hs : starEach [e, e2] X.env = (false, eval e X.env) :: starEach [e2] X.env := by rfl) (hpl : (backTo pos2 (starEach [e2] X.env)).any (·.1) = false := by rfl)
    (hs0 : starEach [.Call (.Name "zip" p2) [e, e2] [] pos2] X.env = (false, eval (.Call (.Name "zip" p2) [e, e2] [] pos2) X.env) :: starEach [] X.env := by rfl) :
    DE X W (.Call (.Name "list" p) [.Call (.Name "zip" p2) [e, e2] [] pos2] [] pos) (eA (listZipM fin) fa) := by
  refine ⟨PE.imp (pe_listZip hc hgl hml hg hm ha.run hs hpl hs0) fun σ H Q ⟨G, S, ρ, rs, rp, q⟩ => ⟨G, S, ρ, rs, rp, (Aft.bind q).mono fun ds H1 G1 S1 x1 r1 q1 vs dv => ?_⟩⟩
  unfold listZipM at q1
  split at q1
  · split at q1
    · rename_i d e' b1 xs b2 ys e1 e3
      obtain ⟨v1, v2, rfl, d1, d2⟩ := denL2 dv
      obtain ⟨a, vs, rfl, fa, ta⟩ := src_of e1 d1
      obtain ⟨b, ws, rfl, fb, tb⟩ := src_of e3 d2
      by_cases hl : (zipQ xs ys).length ≤ LIM
      · rw [if_pos hl] at q1
        refine ⟨a, b, vs, ws, b1, b2, rfl, fa.sq r1 Ext.refl r1, fb.sq r1 Ext.refl r1, fun L hLn => ?_⟩
        have hmin : min vs.length ws.length = (zipQ xs ys).length := by rw [zipQ_len, ta.length, tb.length]
        refine ⟨fun i H => ∃ us, Ext H1 G1 S1 H G1 S1 ∧ Rep X.K H G1 S1 ∧ Beside H G1 L (.lst us) ∧ DnAll X.K G1.φ H ((zipQ xs ys).take i) us ∧ us.length = i ∧ i ≤ (zipQ xs ys).length, ?_, ?_, ?_, ?_⟩
        · exact ⟨[], Ext.other r1 hLn, Rep.other r1 hLn, ⟨upd_same, r1.notIn hLn, r1.notPhi hLn⟩, .nil, rfl, Nat.zero_le _⟩
        · rintro i H ⟨us, x, r, bs, t, hu, hi⟩
          exact ⟨fa.sq r1 x r, fb.sq r1 x r⟩
        · rintro i H T x y ⟨us, xe, r, bs, t, hu, hi⟩ hx hy hT
          obtain ⟨dx, ex, dnx⟩ := (xe.dnAll r1 ta).getV hx
          obtain ⟨dy, ey, dny⟩ := (xe.dnAll r1 tb).getV hy
          obtain ⟨p1, p2, p3⟩ := pair_new r hT dnx dny
          have hz := zipQ_get xs ys i dx dy ex ey
          have hlt : i < (zipQ xs ys).length := (List.getElem?_eq_some_iff.mp hz).1
          have b2' := bs.ext p1
          refine ⟨us, bs.at_, by rw [hu]; exact Nat.lt_of_lt_of_le hlt (Nat.le_trans hl LIM_le), us ++ [.ref T], (xe.trans p1).aside hLn, p2.aside b2', ⟨upd_same, b2'.ι, b2'.φ⟩, ?_, by simp [hu], hlt⟩
          rw [List.take_succ, hz]
          exact (dn_aside b2'.at_ (p1.dnAll r t)).append (dn_aside b2'.at_ (.cons p3 .nil))
        · rintro H ⟨us, xe, r, bs, t, hu, hi⟩
          rw [hmin, List.take_length] at t
          refine fo X.K W σ H1 H G1 G1 S1 S1 (zipQ xs ys) us L Q xe hLn r bs t fun S' d ef H' G' x' r' v dv => ?_
          rw [ef] at q1
          exact q1 H' G' x' r' v dv
      · rw [if_neg hl] at q1; exact q1.elim
    · exact q1.elim
  · exact q1.elim
end DL

namespace DL
open PySem L2 PySem.Spec PyProof.Rows

def leS (x y : Str) : Prop := ¬ y.cps.toList < x.cps.toList
theorem leS_trans {x y z : Str} (h1 : leS x y) (h2 : leS y z) : leS x z := fun h => by
  have a := List.not_lt.mp h1
  have b := List.not_lt.mp h2
  exact absurd h (List.not_lt.mpr (List.le_trans a b))
theorem leS_total (x y : Str) : leS x y ∨ leS y x := by
  by_cases h : y.cps.toList < x.cps.toList
  · exact .inr fun h2 => absurd (List.lt_trans h h2) (List.lt_irrefl _)
  · exact .inl h
theorem leS_anti {x y : Str} (h1 : leS x y) (h2 : leS y x) : x = y := by
  have e : x.cps.toList = y.cps.toList := List.le_antisymm (List.not_lt.mp h1) (List.not_lt.mp h2)
  obtain ⟨a⟩ := x
  obtain ⟨b⟩ := y
  have : a = b := by
    have := congrArg List.toArray e
    simpa using this
  rw [this]
def ltB (x y : Str) : Bool := decide (x.cps.toList < y.cps.toList)
/-- insertion -/
def insS (x : Str) : List Str → List Str
  | [] => [x]
  | y :: r => if ltB y x = true then y :: insS x r else x :: y :: r
def sortS : List Str → List Str
  | [] => []
  | x :: r => insS x (sortS r)
theorem insS_perm (x : Str) : ∀ l : List Str, (insS x l).Perm (x :: l)
  | [] => .refl _
  | y :: r => by
    unfold insS
    split
    · exact ((insS_perm x r).cons y).trans (.swap x y r)
    · exact .refl _
theorem sortS_perm : ∀ l : List Str, (sortS l).Perm l
  | [] => .refl _
  | x :: r => (insS_perm x (sortS r)).trans ((sortS_perm r).cons x)
theorem insS_pw {x : Str} : ∀ {l : List Str}, l.Pairwise leS → (insS x l).Pairwise leS
  | [], _ => by simp [insS]
  | y :: r, h => by
    obtain ⟨h1, h2⟩ := List.pairwise_cons.mp h
    unfold insS
    split
    · rename_i hlt
      have hyx : leS y x := by
        have : y.cps.toList < x.cps.toList := by simpa [ltB] using hlt
        exact fun h => absurd (List.lt_trans this h) (List.lt_irrefl _)
      refine List.pairwise_cons.mpr ⟨fun z hz => ?_, insS_pw h2⟩
      rcases List.mem_cons.mp ((insS_perm x r).mem_iff.mp hz) with rfl | hz
      · exact hyx
      · exact h1 z hz
    · rename_i hlt
      have hxy : leS x y := by
        have : ¬ y.cps.toList < x.cps.toList := by simpa [ltB] using hlt
        exact this
      refine List.pairwise_cons.mpr ⟨fun z hz => ?_, h⟩
      rcases List.mem_cons.mp hz with rfl | hz
      · exact hxy
      · exact leS_trans hxy (h1 z hz)
theorem sortS_pw : ∀ l : List Str, (sortS l).Pairwise leS
  | [] => .nil
  | x :: r => insS_pw (sortS_pw r)
theorem pw_of_rising : ∀ {l : List Str} {p : Str}, risingS p l = true → (p :: l).Pairwise leS
  | [], p, _ => by simp
  | x :: r, p, h => by
    have h : (!ltCps x.cps.toList p.cps.toList && risingS x r) = true := h
    simp only [Bool.and_eq_true, Bool.not_eq_true', ltCps_eq, decide_eq_false_iff_not] at h
    have ih := pw_of_rising h.2
    refine List.pairwise_cons.mpr ⟨fun z hz => ?_, ih⟩
    rcases List.mem_cons.mp hz with rfl | hz
    · exact h.1
    · exact leS_trans (show leS p x from h.1) ((List.pairwise_cons.mp ih).1 z hz)
theorem pw_of_sorted {l : List Str} (h : sortedS l = true) : l.Pairwise leS := by
  cases l with
  | nil => exact .nil
  | cons x r => exact pw_of_rising h
theorem perm_uniq : ∀ {l m : List Str}, l.Pairwise leS → m.Pairwise leS → l.Perm m → l = m
  | [], m, _, _, h => (List.nil_perm.mp h).symm
  | x :: l, [], _, _, h => absurd h (by simp)
  | x :: l, y :: m, h1, h2, h => by
    have e : x = y := by
      have hx : x ∈ y :: m := h.mem_iff.mp (by simp)
      have hy : y ∈ x :: l := h.mem_iff.mpr (by simp)
      rcases List.mem_cons.mp hx with hx | hx
      · exact hx
      · rcases List.mem_cons.mp hy with hy | hy
        · exact hy.symm
        · exact leS_anti ((List.pairwise_cons.mp h1).1 y hy) ((List.pairwise_cons.mp h2).1 x hx)
    subst e
    rw [perm_uniq (List.pairwise_cons.mp h1).2 (List.pairwise_cons.mp h2).2 (List.Perm.cons_inv h)]
theorem sortS_uniq {l ys : List Str} (hp : ys.Perm l) (hs : sortedS ys = true) : ys = sortS l :=
  perm_uniq (pw_of_sorted hs) (sortS_pw l) (hp.trans (sortS_perm l).symm)
def txtsP : List PyData → Option (List Str)
  | [] => some []
  | .str x :: r => match txtsP r with
    | some xs => some (x :: xs)
    | none => none
  | _ :: _ => none
theorem txtsP_map (xs : List Str) : txtsP (xs.map .str) = some xs := by
  induction xs with
  | nil => rfl
  | cons x r ih => simp [txtsP, ih]
theorem txtsP_eq : ∀ {ds : List PyData} {xs : List Str}, txtsP ds = some xs → ds = xs.map .str
  | [], xs, h => by cases h; rfl
  | d :: r, xs, h => by
    unfold txtsP at h
    split at h
    · rename_i e; cases e
    · rename_i x r' e
      cases e
      split at h
      · rename_i ys e2
        cases h
        rw [txtsP_eq e2]; rfl
      · cases h
    · cases h
theorem txts_dn {K : PySem.W.Frag} {φ : List (Addr × HO)} {H : Hp} : ∀ {xs : List Str} {vs : List V}, DnAll K φ H (xs.map .str) vs → vs = xs.map V.str
  | [], _, .nil => rfl
  | x :: r, _, .cons h t => by cases h; rw [txts_dn t]; rfl
theorem dn_strs {K : PySem.W.Frag} {φ : List (Addr × HO)} {H : Hp} : ∀ xs : List Str, DnAll K φ H (xs.map .str) (xs.map V.str)
  | [] => .nil
  | x :: r => .cons (.str x) (dn_strs r)
def sortedM : List D → M D := fun ds S => match ds with
  | [d] => match lstOf S d with
    | some xs => match txtsP xs with
      | some ks => if ks.length < 64 then .ok (.p (.list ((sortS ks).map .str))) S else .bad
      | none => .bad
    | none => match dicOf S d with
      | some kvs => match txtsP (kvs.map fun kv => keyPy kv.1) with
        | some ks => if ks.length < 64 then .ok (.p (.list ((sortS ks).map .str))) S else .bad
        | none => .bad
      | none => .bad
  | _ => .bad
theorem keys_inr {kvs : List (Key × PyData)} {ks : List Str} (h : (kvs.map fun kv => keyPy kv.1) = ks.map .str) : kvs.map (·.1) = ks.map Sum.inr := by
  induction kvs generalizing ks with
  | nil => cases ks with | nil => rfl | cons _ _ => simp at h
  | cons p r ih =>
    cases ks with
    | nil => simp at h
    | cons k ks =>
      simp only [List.map_cons, List.cons.injEq] at h ⊢
      refine ⟨?_, ih h.2⟩
      obtain ⟨a, b⟩ := p
      cases a with
      | inl i => exact absurd h.1 (by simp [keyPy])
      | inr z => have := h.1; simp [keyPy] at this; rw [this]
theorem de_sorted {X : Cx} {W : WX} {e : Expr} {fa : FA} {p pos : Pos} (hc : X.calm = true) (hg : Gl X "sorted") (hm : X.mg "sorted" = none) (ha : DA X W [e] fa) (he : starEach [e] X.env = (false, eval e X.env) :: starEach [] X.env := by rfl) : DE X W (.Call (.Name "sorted" p) [e] [] pos) (eA sortedM fa) :=
  de_callB (cr_sortedS.or (call_sortedD hc)) (by
    intro W σ H G S xs vs Q rp dv q
    unfold sortedM at q
    split at q
    · obtain ⟨v, rfl, dv1⟩ := denL1 dv
      replace dv := dv1
      split at q
      · rename_i xs es
        obtain ⟨a, us, rfl, hq, t⟩ := lstOf_den rp es dv
        split at q
        · rename_i ks ek
          have e2 := txtsP_eq ek
          subst e2
          have e3 := txts_dn t
          subst e3
          by_cases hl : ks.length < 64
          · rw [if_pos hl] at q
            refine .inl ⟨a, ks, rfl, SqL.of hq, hl, fun ys p hp hs hn => ?_⟩
            rw [sortS_uniq hp hs]
            exact Aft.newLst q rp (dn_strs _) hn
          · rw [if_neg hl] at q; exact q.elim
        · exact q.elim
      · split at q
        · rename_i kvs es
          obtain ⟨a, ws, rfl, hH, r⟩ := dicOf_den rp es dv
          split at q
          · rename_i ks ek
            have e2 := keys_inr (txtsP_eq ek)
            by_cases hl : ks.length < 64
            · rw [if_pos hl] at q
              refine .inr ⟨a, ws, ks, rfl, hH, by rw [← r.ks]; exact e2, hl, fun ys p hp hs hn => ?_⟩
              rw [sortS_uniq hp hs]
              exact Aft.newLst q rp (dn_strs _) hn
            · rw [if_neg hl] at q; exact q.elim
          · exact q.elim
        · exact q.elim
    · exact q.elim) hg hm (by decide +kernel) ha (by decide) (by decide) he
end DL

namespace DL
open PySem L2

theorem lcO_wp {cs : List PyData} {i l : Nat} {n c : Int} {g : FG} {e : FE} {ρ : Ev} {ds : List D} {S : Sto} {Q : List PyData → Sto → Prop} {X : Exn → Sto → Prop} (L : Nat) (P : PyData → Prop) (hc : 0 ≤ c) (hl : ds.length ≤ L) (h : Tape cs i l n S)
    (st : ∀ d ∈ ds, ∀ n' S, n ≤ n' → n' + c ≤ n + L * c → Tape cs i l n' S → wpG (g d ρ S) fun ρ1 S1 => wp (e ρ1 S1) (fun y S2 => ∃ z, y = .p z ∧ P z ∧ Tape cs i l (n' + c) S2 ∧ Oth i S S2) X)
    (f : ∀ zs S', zs.length = ds.length → (∀ z ∈ zs, P z) → Tape cs i l (n + L * c) S' → Oth i S S' → Q zs S') : wp (lcD g tYesD e ρ ds S) Q X := by
  refine lcD_wp (fun j ys S' => ys.length = j ∧ (∀ y ∈ ys, P y) ∧ Tape cs i l (n + j * c) S' ∧ Oth i S S') (j := 0) (ys := []) ⟨rfl, (fun y hy => nomatch hy), by simpa using h, Oth.refl⟩ ?_ ?_
  · rintro j d ys S' he ⟨h1, h2, h3, h4⟩
    have hj : j < ds.length := (List.getElem?_eq_some_iff.mp he).1
    rw [Nat.zero_add] at h1 h3 ⊢
    have hs : ((j + 1 : Nat) : Int) * c = j * c + c := by rw [show ((j + 1 : Nat) : Int) = (j : Int) + 1 by omega, Int.add_mul, Int.one_mul]
    have hb : ((j + 1 : Nat) : Int) * c ≤ L * c := Int.mul_le_mul_of_nonneg_right (by omega) hc
    have hz : 0 ≤ (j : Int) * c := Int.mul_nonneg (by omega) hc
    have q := st d (List.mem_of_getElem? he) (n + j * c) S' (by omega) (by omega) h3
    cases eg : g d ρ S' with
    | none => rw [eg] at q; exact q
    | some p =>
      obtain ⟨ρ1, S1⟩ := p
      rw [eg] at q
      have q : wp (e ρ1 S1) _ X := q
      simp only [wpG_some, tYes_, wp_ok, if_true]
      refine wp_mono q (fun y s ⟨z, e1, e2, e3, e4⟩ => ⟨z, e1, by simp [h1], fun y hy => ?_, by rw [hs, ← Int.add_assoc]; exact e3, h4.trans e4⟩) fun _ _ h => h
      rcases List.mem_append.mp hy with hy | hy
      · exact h2 y hy
      · simp at hy; rw [hy]; exact e2
  · rintro zs S' ⟨h1, h2, h3, h4⟩
    have hb : ((0 + ds.length : Nat) : Int) * c ≤ L * c := Int.mul_le_mul_of_nonneg_right (by omega) hc
    exact f zs S' (by simpa using h1) (by simpa using h2) (h3.mono (by omega)) h4
theorem lcDT {cs : List PyData} {i l : Nat} {n : Int} {S S' : Sto} (h : Tape cs i l n S) (h' : Tape cs i l n S') : S'.length = S.length := h'.1.trans h.1.symm
end DL

namespace DL
open PySem L2 PySem.Spec PyProof.Rows

abbrev lob (ts : List Value) (c : Nat) : Obj := { cls := .type "list", data := .seq ts.toArray c }
section
variable {prog : Program} {w : World} {A : Around} {R : Result → Shared → Prop} {I ax : Addr} {items : Array Value}
theorem sum_lists_loop (hh : A.in1.handled = none) (hxI : ax ≠ I) (S : Addr) (hSI : S ≠ I) (hSx : S ≠ ax) :
    ∀ (rest : List (Addr × List Value)) (i : Nat) (s : Shared) (T : Addr) (ts : List Value) (c cT : Nat), i + rest.length = items.size → (∀ j p, rest[j]? = some p → items[i + j]? = some (.ref p.1)) → s.heap.IsListIter I ax i → s.heap.IsList ax items →
    s.heap.get? S = some (lob [.ref T] c) → s.heap.get? T = some (lob ts cT) → T ≠ S → T ≠ I →
    (∀ p ∈ rest, p.1 ≠ I ∧ p.1 ≠ S ∧ ∃ cap, s.heap.get? p.1 = some (lob p.2 cap)) → ts.length + (rest.flatMap (·.2)).length ≤ sizeLine →
    (∀ h' T' c', (∀ b o, b ≠ I → b ≠ S → s.heap.get? b = some o → h'.get? b = some o) → (rest = [] → T' = T) → (rest ≠ [] → s.heap.objs.size ≤ T') → h'.get? T' = some (lob (ts ++ rest.flatMap (·.2)) c') → R (.ok (.ret (.ref T'))) { s with heap := h' }) →
    codeAny (model prog w) A (.builtin "sum.loop" ⟨[.ref I, .ref S, rawInt 2, rawInt 0], []⟩) R s := by
  intro rest
  induction rest with
  | nil =>
    intro i s T ts c cT hi hit hIt hAx hS hT hTS hTI hj hsz hR
    refine codeAny_builtin F.entry_sum_loop ?_
    rw [Around.under_plainId F.plain_sum_loop _]
    show wpAny _ A.in1 (seqItems? (.ref S) >>= _) _ _ s
    refine wpAny_bind (wpAny_seqItems hS rfl ?_)
    show wpAny _ A.in1 (tryCatch (pyNext (.ref I)) _ >>= _) _ _ s
    refine wpAny_bind (wpAny_tryCatch (wpAny_pyNext_list_end hh hIt hAx (by simp at hi; simp [hi]) fun h' hk' => ?_))
    exact wpAny_pure (hR h' T cT (fun b o hb _ e => hk' b o hb e) (fun _ => rfl) (fun z => absurd rfl z) (by simpa using hk' T _ hTI hT))
  | cons p rest ih =>
    intro i s T ts c cT hi hit hIt hAx hS hT hTS hTI hj hsz hR
    refine codeAny_builtin F.entry_sum_loop ?_
    rw [Around.under_plainId F.plain_sum_loop _]
    show wpAny _ A.in1 (seqItems? (.ref S) >>= _) _ _ s
    refine wpAny_bind (wpAny_seqItems hS rfl ?_)
    show wpAny _ A.in1 (tryCatch (pyNext (.ref I)) _ >>= _) _ _ s
    refine wpAny_bind (wpAny_tryCatch (wpAny_pyNext_list_item hIt hAx (by simpa using hit 0 p rfl) fun h' hIt' hsb => ?_))
    have hk' : ∀ b o, b ≠ I → s.heap.get? b = some o → h'.get? b = some o := fun b o hb e => (hsb.2 b hb).trans e
    have hAx' : h'.IsList ax items := hAx.extBut hsb.extBut hxI
    have hS' := hk' S _ hSI hS
    have hT' := hk' T _ hTI hT
    obtain ⟨hpI, hpS, cap, hP⟩ := hj p (by simp)
    have hP' := hk' _ _ hpI hP
    have hsz' : ts.length + p.2.length + (rest.flatMap (·.2)).length ≤ sizeLine := by
      simp only [List.flatMap_cons, List.length_append] at hsz
      omega
    show wpAny _ A.in1 ((holding [Value.ref p.1] (binaryOp .Add (.ref T) (.ref p.1))).attempt >>= _) _ _ _
    refine wpAny_bind (wpAny_attempt (wpAny_holding (PySem.P.add_list (items := ts.toArray) (items2 := p.2.toArray) hT' hP' ?_ (by simp; omega))))
    have ea : ts.toArray ++ p.2.toArray = (ts ++ p.2).toArray := by simp
    rw [ea]
    have hIlt : I < h'.objs.size := by
      obtain ⟨_, e, _⟩ := hIt'
      exact Heap.lt_size e
    have hSn : S ≠ h'.objs.size := Nat.ne_of_lt (Heap.lt_size hS')
    have hS2 : (h'.push (lob (ts ++ p.2) 0)).get? S = some (lob [.ref T] c) := Heap.get?_push_of_some _ hS'
    have hT2 : (h'.push (lob (ts ++ p.2) 0)).get? h'.objs.size = some (lob (ts ++ p.2) 0) := Heap.get?_push_size _ rfl
    show wpAny _ A.in1 (updateSeq S (fun _ => #[.ref h'.objs.size]) >>= _) _ _ _
    refine wpAny_bind ?_
    refine wpAny_updateSeq hS2 rfl ?_
    have hS3 := Heap.get?_update_self (Obj.mapSeq fun _ => #[Value.ref h'.objs.size]) hS2 rfl
    refine wpAny_bind (wpAny_letGo ?_)
    refine wpAny_bind ?_
    have other : ∀ b o, b ≠ S → (h'.push (lob (ts ++ p.2) 0)).get? b = some o → (((h'.push (lob (ts ++ p.2) 0)).update S (Obj.mapSeq fun _ => #[Value.ref h'.objs.size])).update S (Obj.mapSeq fun _ => #[Value.ref h'.objs.size])).get? b = some o := fun b o hb e =>
      (Heap.get?_update_other _ _ (Ne.symm hb)).trans ((Heap.get?_update_other _ _ (Ne.symm hb)).trans e)
    refine wpAny_updateSeq hS3 rfl (wpAny_pure ⟨plainId_quiet F.plain_sum_loop _, ih (i + 1) _ h'.objs.size (ts ++ p.2) _ 0 (by simp at hi ⊢; omega) (fun j q hq => ?_) ?_ ?_ (Heap.get?_update_self _ hS3 rfl) (other _ _ (Ne.symm hSn) hT2) (Ne.symm hSn) (Ne.symm (Nat.ne_of_lt hIlt)) ?_ (by rw [List.length_append]; omega) fun h'' T'' c'' hk'' h0 h1 hT'' => ?_⟩)
    · have := hit (j + 1) q (by simpa using hq)
      rw [← this]
      congr 1
      omega
    · exact hIt'.at fun o e => other _ _ (Ne.symm hSI) (Heap.get?_push_of_some _ e)
    · exact hAx'.at fun o e => other _ _ (Ne.symm hSx) (Heap.get?_push_of_some _ e)
    · intro q hq
      obtain ⟨a1, a2, cap, a3⟩ := hj q (by simp [hq])
      exact ⟨a1, a2, cap, other _ _ a2 (Heap.get?_push_of_some _ (hk' _ _ a1 a3))⟩
    · refine hR h'' T'' c'' (fun b o hbI hbS e => hk'' b o hbI hbS (other b o hbS (Heap.get?_push_of_some _ (hk' b o hbI e)))) (fun z => by cases z) (fun _ => ?_) (by simpa using hT'')
      by_cases hr : rest = []
      · rw [h0 hr]
        exact Nat.le_of_eq hsb.1.symm
      · have h1 := h1 hr
        have e2 : (((h'.push (lob (ts ++ p.2) 0)).update S (Obj.mapSeq fun _ => #[Value.ref h'.objs.size])).update S (Obj.mapSeq fun _ => #[Value.ref h'.objs.size])).objs.size = h'.objs.size + 1 := by
          rw [(Heap.SameBut.update _ _ _).1, (Heap.SameBut.update _ _ _).1, Heap.size_push]
        have h1 : h'.objs.size + 1 ≤ T'' := by rw [← e2]; exact h1
        rw [hsb.1] at h1
        omega
end
theorem args_sum2 (a b : Value) : argsOk "sum" ⟨[a, b], []⟩ := by unfold argsOk; kernel_rfl
section
variable {X : Cx}
def rSumL : List V → Hp → VK → Prop := fun vs H Q => ∃ (a b : Addr) (ps : List (Addr × List V)) (ys : List V), vs = [.ref a, .ref b] ∧ H a = some (.lst (ps.map fun p => .ref p.1)) ∧ H b = some (.lst ys) ∧ (∀ p ∈ ps, H p.1 = some (.lst p.2)) ∧ ys.length + (ps.flatMap (·.2)).length ≤ sizeLine ∧
  (ps = [] → Q (.ref b) H) ∧ (ps ≠ [] → ∀ p, H p = none → Q (.ref p) (upd H p (.lst (ys ++ ps.flatMap (·.2)))))
theorem lists_at {pins : List (Addr × Obj)} {σ : L2.St} {H : Hp} {s : Shared} (I : L2.Inv X pins σ H s) : ∀ {ps : List (Addr × List V)}, (∀ p ∈ ps, H p.1 = some (.lst p.2)) → ∃ qs : List (Addr × List Value), qs.map (·.1) = ps.map (·.1) ∧ (∀ q ∈ qs, (∃ cap, s.heap.get? q.1 = some (lob q.2 cap)) ∧ ∃ xs, H q.1 = some (.lst xs)) ∧ Vals (ps.flatMap (·.2)) (qs.flatMap (·.2))
  | [], _ => ⟨[], rfl, (fun q hq => nomatch hq), .nil⟩
  | p :: ps, h => by
    obtain ⟨z, its, n, r, hl, e⟩ := I.lstM (h p (by simp))
    obtain ⟨qs, e1, e2, e3⟩ := lists_at I (ps := ps) fun q hq => h q (by simp [hq])
    refine ⟨(p.1, its) :: qs, by simp [e1], fun q hq => ?_, ?_⟩
    · rcases List.mem_cons.mp hq with rfl | hq
      · exact ⟨⟨n, e⟩, _, h p (by simp)⟩
      · exact e2 q hq
    · simp only [List.flatMap_cons]
      exact r.append e3
theorem cr_sumL (hc : X.calm = true) : CallR X (.builtin "sum") rSumL := by
  intro pins s σ H vs us Q I r h
  obtain ⟨a, b, ps, ys, rfl, ha, hb, hps, hsz, q0, q1⟩ := h
  obtain ⟨u1, u2, rfl, e1, e2⟩ : ∃ u1 u2, us = [u1, u2] ∧ u1 = .ref a ∧ u2 = .ref b := by
    cases r with
    | cons r1 r => cases r with
      | cons r2 r => cases r; exact ⟨_, _, rfl, r1, r2⟩
  subst e1 e2
  obtain ⟨za, itsA, nA, rA, hlA, eA⟩ := I.lstM ha
  obtain ⟨zb, itsB, nB, rB, hlB, eB⟩ := I.lstM hb
  obtain ⟨qs, g1, g2, g3⟩ := lists_at I hps
  have hA : itsA = qs.map fun q => .ref q.1 := by
    have : ∀ {ps : List (Addr × List V)} {qs : List (Addr × List Value)} {its : List Value}, Vals (ps.map fun p => V.ref p.1) its → qs.map (·.1) = ps.map (·.1) → its = qs.map fun q => .ref q.1 := by
      intro ps
      induction ps with
      | nil =>
        intro qs its r e
        cases r
        cases qs with
        | nil => rfl
        | cons _ _ => cases e
      | cons p ps ih =>
        intro qs its r e
        cases r with
        | cons r1 r =>
          cases qs with
          | nil => cases e
          | cons q qs =>
            simp only [List.map_cons, List.cons.injEq] at e
            rw [ih r e.2, List.map_cons, e.1, show _ = Value.ref p.1 from r1]
    exact this rA g1
  have hlen : ys.length + (ps.flatMap (·.2)).length = itsB.length + (qs.flatMap (·.2)).length := by rw [hlB, g3.length]
  refine call_function_tree F.kind_sum F.plain_sum F.entry_sum (args_sum2 _ _) ?_
  unfold Builtin.«sum»
  simp only [List.length_cons, List.length_nil]
  rw [if_neg (by decide)]
  refine wpAny_bind (wpAny_of_eq (show Builtin.Builtins.bindParams "sum" ["start"] 0 { pos := [Value.ref b] } = pure [some (.ref b)] from rfl) ?_)
  have hlist : s.heap.IsList a itsA.toArray := ⟨_, eA, rfl, _, rfl⟩
  have hlt : a < s.heap.objs.size := Heap.lt_size eA
  refine wpAny_bind (wpAny_pyIter_list hlist ?_)
  refine wpAny_bind (wpAny_pure ?_)
  simp only [List.forIn_cons, List.forIn_nil]
  have tyB : Shared.TypeIs { s with heap := s.heap.push { cls := .type "list_iterator", data := .fields #[.ref a, .int 0 0] } } (.ref b) "list" := ⟨_, Heap.get?_push_of_some _ eB, rfl⟩
  refine wpAny_bind (wpAny_bind (wpAny_bind (wpAny_isInstance (T := "list") (b := false) tyB F.sub_list_str ?_)))
  simp only [Bool.false_eq_true, if_false]
  refine wpAny_pure (wpAny_bind (wpAny_bind (wpAny_isInstance (T := "list") (b := false) tyB F.sub_list_bytes ?_)))
  simp only [Bool.false_eq_true, if_false]
  refine wpAny_pure (wpAny_bind (wpAny_bind (wpAny_isInstance (T := "list") (b := false) tyB F.sub_list_bytearray ?_)))
  simp only [Bool.false_eq_true, if_false]
  refine wpAny_pure (wpAny_pure ?_)
  refine wpAny_bind (wpAny_newObj_type ?_)
  have old : ∀ c o, s.heap.get? c = some o → ((s.heap.push { cls := .type "list_iterator", data := .fields #[.ref a, .int 0 0] }).push (lob [.ref b] 0)).get? c = some o := fun c o e => Heap.get?_push_of_some _ (Heap.get?_push_of_some _ e)
  have hs1 : (s.heap.push { cls := .type "list_iterator", data := .fields #[.ref a, .int 0 0] }).objs.size = s.heap.objs.size + 1 := Heap.size_push ..
  have hs2 : ((s.heap.push { cls := .type "list_iterator", data := .fields #[.ref a, .int 0 0] }).push (lob [.ref b] 0)).objs.size = s.heap.objs.size + 1 + 1 := by rw [Heap.size_push, hs1]
  have neI : ∀ c o, s.heap.get? c = some o → c ≠ s.heap.objs.size := fun c o e => Nat.ne_of_lt (Heap.lt_size e)
  have neS : ∀ c o, s.heap.get? c = some o → c ≠ (s.heap.push { cls := .type "list_iterator", data := .fields #[.ref a, .int 0 0] }).objs.size := fun c o e => by
    rw [hs1]
    exact Nat.ne_of_lt (Nat.lt_succ_of_lt (Heap.lt_size e))
  have hIt : (s.heap.push { cls := .type "list_iterator", data := .fields #[.ref a, .int 0 0] }).IsListIter s.heap.objs.size a 0 := ⟨_, Heap.get?_push_size _ rfl, rfl, rfl⟩
  refine wpAny_pure ⟨plainId_quiet F.plain_sum_loop _, sum_lists_loop (items := itsA.toArray) (I.ok.hd hc) (Nat.ne_of_lt hlt) _ (by rw [hs1]; exact Nat.succ_ne_self _) (by rw [hs1]; exact Ne.symm (Nat.ne_of_lt (Nat.lt_succ_of_lt hlt))) qs 0 _ b itsB 0 nB (by rw [hA]; simp) (fun j p hp => ?_) (hIt.at fun o e => Heap.get?_push_of_some _ e) (hlist.at fun o e => old _ _ e)
    (Heap.get?_push_size _ rfl) (old _ _ eB) (neS _ _ eB) (neI _ _ eB) (fun p hp => ?_) (by omega) fun h' T' c' hk h0 h1 hT' => ?_⟩
  · rw [hA]
    simp [hp]
  · obtain ⟨⟨cap, e⟩, _⟩ := g2 p hp
    exact ⟨neI _ _ e, neS _ _ e, cap, old _ _ e⟩
  · have hk0 : ∀ c o, s.heap.get? c = some o → h'.get? c = some o := fun c o e => hk c o (neI _ _ e) (neS _ _ e) (old _ _ e)
    by_cases hq : ps = []
    · have hq' : qs = [] := by
        rw [hq] at g1
        simpa using g1
      rw [h0 hq']
      exact ⟨.ref b, H, I.kept (t' := s.toks) hk0, rfl, q0 hq⟩
    · have hq' : qs ≠ [] := fun z => hq (by rw [z] at g1; simpa using g1.symm)
      have hT : s.heap.objs.size ≤ T' := by
        have h1 := h1 hq'
        have h1 : ((s.heap.push { cls := .type "list_iterator", data := .fields #[.ref a, .int 0 0] }).push (lob [.ref b] 0)).objs.size ≤ T' := h1
        rw [hs2] at h1
        omega
      exact ⟨.ref T', _, I.laid (t' := s.toks) (o := .lst (ys ++ ps.flatMap (·.2))) hk0 hT ⟨by rw [List.length_append]; exact hsz, _, c', rB.append g3, hT'⟩, rfl, q1 hq T' (I.hok.fresh hT)⟩
end
end DL

namespace DL
open PySem L2 PySem.Spec PyProof.Rows

def lsts : List PyData → Option (List (List PyData))
  | [] => some []
  | .list l :: r => match lsts r with
    | some ls => some (l :: ls)
    | none => none
  | _ :: _ => none
theorem lsts_den {K : PySem.W.Frag} {φ : List (Addr × HO)} {H : Hp} (hh : Holds φ H) : ∀ {xs : List PyData} {xss : List (List PyData)} {vs : List V}, lsts xs = some xss → DnAll K φ H xs vs → ∃ ps : List (Addr × List V), vs = ps.map (fun p => .ref p.1) ∧ (∀ p ∈ ps, H p.1 = some (.lst p.2)) ∧ DnAll K φ H xss.flatten (ps.flatMap (·.2))
  | [], xss, _, e, .nil => by
    cases e
    exact ⟨[], rfl, (fun p hp => nomatch hp), .nil⟩
  | x :: r, xss, _, e, .cons h t => by
    unfold lsts at e
    split at e
    · rename_i q; cases q
    · rename_i l r' q
      cases q
      split at e
      · rename_i ls el
        cases e
        obtain ⟨ps, rfl, h2, h3⟩ := lsts_den hh el t
        cases h with
        | lst f t2 =>
          rename_i a vs
          refine ⟨(a, vs) :: ps, rfl, fun p hp => ?_, ?_⟩
          · rcases List.mem_cons.mp hp with rfl | hp
            · exact f H hh
            · exact h2 p hp
          · exact t2.append h3
      · cases e
    · cases e
def sumLM : List D → M D := fun ds S => match ds with
  | [x, .p (.list ys)] => match lstOf S x with
    | some xs => match lsts xs with
      | some xss => if ys.length + xss.flatten.length ≤ LIM then .ok (.p (.list (ys ++ xss.flatten))) S else .bad
      | none => .bad
    | none => .bad
  | _ => .bad
theorem sim_sumL {K : PySem.W.Frag} : SimA K rSumL sumLM := by
  intro W σ H G S ds vs Q rp dv q
  unfold sumLM at q
  split at q
  · rename_i x ys
    obtain ⟨v, w, rfl, d1, d2⟩ := denL2 dv
    split at q
    · rename_i xs ex
      obtain ⟨a, us, rfl, ha, ta⟩ := lstOf_den rp ex d1
      obtain ⟨b, ws, rfl, hb, tb⟩ := lstOf_den (S := S) (xs := ys) rp rfl d2
      split at q
      · rename_i xss el
        obtain ⟨ps, rfl, h2, h3⟩ := lsts_den rp.phi el ta
        by_cases c : ys.length + xss.flatten.length ≤ LIM
        · rw [if_pos c] at q
          refine ⟨a, b, ps, ws, rfl, ha, hb, h2, by rw [← tb.length, ← h3.length]; exact Nat.le_trans c LIM_le, fun hp => ?_, fun hp p hn => q.newLst rp (tb.append h3) hn⟩
          subst hp
          have hz : xss.flatten = [] := by
            have : xss.flatten.length = 0 := h3.length
            exact List.length_eq_zero_iff.mp this
          rw [hz, List.append_nil] at q
          exact q.ret rp d2
        · rw [if_neg c] at q; exact q.elim
      · exact q.elim
    · exact q.elim
  · exact q.elim
theorem de_sumL {X : Cx} {W : WX} {e : Expr} {es : List Expr} {fa : FA} {p pos : Pos} (hc : X.calm = true) (hg : Gl X "sum") (hm : X.mg "sum" = none) (ha : DA X W (e :: es) fa) (he : starEach (e :: es) X.env = (false, eval e X.env) :: starEach es X.env := by rfl) (hpl : (backTo pos (starEach es X.env)).any (·.1) = false := by rfl) : DE X W (.Call (.Name "sum" p) (e :: es) [] pos) (eA sumLM fa) :=
  de_callB (cr_sumL hc) sim_sumL hg hm (by decide +kernel) ha (by decide) (by decide) he hpl
def opAddM : D → D → M D := fun x y S => match lstOf S x, lstOf S y with
  | some xs, some ys => if xs.length + ys.length ≤ LIM then .ok (.ob S.length) (S ++ [.lst (xs ++ ys)]) else .bad
  | _, _ => .bad
theorem sim_addM {K : PySem.W.Frag} : Sim2 K rCat opAddM := by
  intro W σ H G S x y v w Q rp dx dy q
  unfold opAddM at q
  split at q
  · rename_i xs ys e1 e2
    obtain ⟨a, vs, rfl, ha, ta⟩ := lstOf_den rp e1 dx
    obtain ⟨b, ws, rfl, hb, tb⟩ := lstOf_den rp e2 dy
    by_cases c : xs.length + ys.length ≤ LIM
    · rw [if_pos c] at q
      exact ⟨a, b, vs, ws, rfl, rfl, ha, hb, by rw [← ta.length, ← tb.length]; exact Nat.le_trans c LIM_le, fun p hp => q.newLstM rp (ta.append tb) hp⟩
    · rw [if_neg c] at q; exact q.elim
  · exact q.elim
theorem de_addM {X : Cx} {W : WX} {a b : Expr} {f h : FE} {pos : Pos} (ha : DE X W a f) (hb : DE X W b h) : DE X W (.BinOp a .Add b pos) (e2 opAddM f h) := de_bin op_cat sim_addM ha hb
/-- a def, whatever its defaults -/
structure FunE (K : PySem.W.Frag) (x qual : Str) (st : Stmt) (f : Addr) (fd : FuncData) : Prop where
  ex : ∃ (oc : Value) (od : Option Addr) (dV kV doc pm : Value) (an : Option Addr) (cdv ct : Value) (osl : Array (Option Value)),
    fd = PySem.W.fnOf x qual (defArgs st) (defBody st) (defScope st) dV kV doc pm an cdv ct ∧ K.lookup f = some ⟨oc, od, .func fd, osl⟩ ∧ PySem.W.codeIn K cdv qual = true
  kp : PySem.W.keepIn K (.ref f) = true
theorem fnX_ofE {P : Program} {w : World} {K : PySem.W.Frag} {mg : Str → Option Value} {base : Heap} {x qual : Str} {st : Stmt} {f : Addr} {fd : FuncData} {N ps : List Str} {k : Nat} {sp : Sp} (F : FunE K x qual st f fd) (Sc : FnScope N ps (defScope st)) (len : ∀ vs H Q E, sp vs H Q E → vs.length = ps.length)
    (hbody : ∀ (cdv : Value) (A : Around) (outer : List Env) (s : Shared) (H : Hp) (vs : List V) (Q : VK) (E : XK), Room k (A.deeper (envOfC qual (defScope st) s.heap.objs.size f cdv)) → A.guards = some [] → sp vs H Q E →
      ∃ t, PSs (cxOf (L2.CX P w) P w K mg base N qual (defScope st) f cdv A outer s H E) (defBody st) t ∧ t { nx := fun _ H' => Q .non H', rt := Q } (start N vs) H) : FnX P w K mg base (k + 1) f fd ps sp := by
  obtain ⟨oc, od, dV, kV, doc, pm, an, cdv, ct, osl, rfl, lk, hcd⟩ := F.ex
  refine ⟨len, fun A outer s H args us vs Q E hr hgd e0 hb r hsp => ?_⟩
  have hl := len _ _ _ _ hsp
  have keepB : ∀ b o, base.get? b = some o → s.heap.get? b = some o := fun b o e => (e0.bs b o e).1
  have KX : K.In s.heap := e0.mod.kin.keeps keepB
  have lim : s.heap.NoLimit := e0.mod.nolimit.keeps keepB
  obtain ⟨t, ht, hq⟩ := hbody cdv A outer s H vs Q E (hr.deeper _) hgd hsp
  refine codeAny_call_function hr.depth (KX _ _ lk) rfl Sc.co Sc.gen rfl (PySem.W.codeRec_of KX hcd) (hb _ _ _ _ ?_)
  refine wpAny_newFunctionEnv_cells Sc.kind (fun y hy => ?_) fun env he s1 xx => ?_
  · obtain ⟨n, v⟩ := y
    rcases Sc.par n (List.of_mem_zip hy).1 with q | q
    · exact .inl q
    · exact .inr ⟨q, PySem.W.cellsFrom_some _ _ _ (.inl q)⟩
  subst he
  refine ⟨lim.keeps xx.toInCall.keep, codeAny_func ?_⟩
  have I := inv_start (CX := L2.CX P w) (E := E) Sc hr.hd e0 hl r xx
  refine wpAny_mono (ht.run [] s1 (start N vs) H _ I hq) (fun fl s' hs => ?_) fun e s' hs => hs
  cases fl with
  | ret u =>
    obtain ⟨v, σ', H', J, rv, q⟩ := hs
    exact ⟨v, H', J.os, J.bare, J.base, J.hok, rv, q⟩
  | next =>
    obtain ⟨σ', H', J, q⟩ := hs
    exact ⟨.non, H', J.os, J.bare, J.base, J.hok, rfl, q⟩
  | brk =>
    obtain ⟨_, _, _, q⟩ := hs
    exact False.elim q
  | cont =>
    obtain ⟨_, _, _, q⟩ := hs
    exact False.elim q
theorem fnX_dataE {P : Program} {w : World} {K : PySem.W.Frag} {mg : Str → Option Value} {base : Heap} {x qual : Str} {st : Stmt} {f : Addr} {fd : FuncData} {N ps : List Str} {k m n : Nat} (F : FunE K x qual st f fd) (Sc : FnScope N ps (defScope st)) (hm : N.length = m) (hn : ps.length = n) (body : FS)
    (hb : ∀ (cdv : Value) (A : Around) (outer : List Env) (s : Shared) (H : Hp) (E : XK), Ctx (cxOf (L2.CX P w) P w K mg base N qual (defScope st) f cdv A outer s H E) (WE E) k → Po (cxOf (L2.CX P w) P w K mg base N qual (defScope st) f cdv A outer s H E) → DSs (cxOf (L2.CX P w) P w K mg base N qual (defScope st) f cdv A outer s H E) (WE E) (defBody st) body) :
    FnX P w K mg base (k + 1) f fd ps (spX K n (runF m body)) := by
  subst hm hn
  refine fnX_ofE F Sc (fun vs H Q E ⟨G, S, ds, hl, dl, _⟩ => by rw [← dl.length]; exact hl) fun cdv A outer s H vs Q E hr hgd ⟨G, S, ds, hl, dl, rp, q⟩ => ?_
  refine ⟨_, (hb cdv A outer s H E ⟨hr, hgd, takes_of rfl rfl rfl rfl⟩ (passes_of rfl)).run, G, S, ds.map some ++ List.replicate (N.length - ds.length) none, ?_, rp, body_read rp q⟩
  rw [dl.length]
  exact RelS.ofArgs (N.length - vs.length) dl
/-- a value of the top that is plain data -/
def ValIs (K : PySem.W.Frag) (u : Value) (d : PyData) : Prop := ∃ v : V, RelV v u ∧ ∀ H G, Den K H G (.p d) v
theorem val_flat {K : PySem.W.Frag} {u : Value} {p : PyData × V} {d : PyData} (f : flatOf u = some p) (hd : p.1 = d := by rfl) : ValIs K u d := by
  subst hd
  exact ⟨p.2, (flat_ok (K := K) (φ := []) (H := fun _ => none) f).1, fun H G => (flat_ok f).2⟩
theorem val_tup {K : PySem.W.Frag} {a : Addr} {o : Obj} {its : Array Value} {n : Nat} {ps : List (PyData × V)} {d : PyData} (l : K.lookup a = some o) (hc : o.cls = .type "tuple") (hs : o.data = .seq its n) (f : flats its.toList = some ps) (hz : its.size ≤ 1000) (hd : PyData.tuple (ps.map (·.1)) = d) : ValIs K (.ref a) d := by
  subst hd
  refine ⟨.ref a, rfl, fun H G => .tup (.inr ⟨o, its, n, l, hc, hs, Nat.le_of_lt (small1000 hz), ?_⟩) (flats_ok f).2⟩
  exact (flats_ok (K := K) (φ := []) (H := fun _ => none) f).1
/-- the last parameters are filled by ds -/
structure BindsD (K : PySem.W.Frag) (fd : FuncData) (ps : List Str) (ds : List PyData) : Prop where
  ex : ∃ (us : List Value) (vs : List V), Binds K fd ps us ∧ Vals vs us ∧ ∀ H G, DenL K H G (ds.map .p) vs
theorem binds_one {K : PySem.W.Frag} {x qual : Str} {params : Arguments} {body : List Stmt} {scope : Scope} {T : Addr} {o : Obj} {u : Value} {c : Nat} {kV doc pm : Value} {an : Option Addr} {cdv ct : Value} {ps : List Str} {d : PyData} (lT : K.lookup T = some o) (oT : o.data = .seq #[u] c) (hu : ValIs K u d)
    (h : ∀ us : List Value, us.length + 1 = ps.length → ∃ k, bindArgs (PySem.W.fnOf x qual params body scope (.ref T) kV doc pm an cdv ct) ⟨us, []⟩ = seqItems? (.ref T) >>= k ∧ k (some #[u]) = pure (ps.zip (us ++ [u]))) : BindsD K (PySem.W.fnOf x qual params body scope (.ref T) kV doc pm an cdv ct) ps [d] := by
  obtain ⟨v, r, hd⟩ := hu
  refine ⟨[u], [v], fun s us X hl => ?_, .cons r .nil, fun H G => .cons (hd H G) .nil⟩
  obtain ⟨k, e1, e2⟩ := h us (by simpa using hl)
  intro M A Q E hq
  rw [e1]
  refine wpAny_bind (wpAny_seqItems (X _ _ lT) oT ?_)
  rw [e2]
  exact wpAny_pure hq
section
variable {X : Cx} {W : WX} {x : Str} {f : Addr} {fd : FuncData} {ps : List Str} {k n : Nat} {g : List D → M D} {e : Expr} {es : List Expr} {fa : FA} {p pos : Pos}
theorem FnX.toPD {P : Program} {w : World} {K : PySem.W.Frag} {mg : Str → Option Value} {base : Heap} {ds : List PyData} (F : FnX P w K mg base k f fd ps (spX K n g)) (hb : BindsD K fd ps ds) (hn : ds.length ≤ n) : FnP P w K mg base k f (spX K (n - ds.length) fun xs => g (xs ++ ds.map .p)) := by
  obtain ⟨dus, dvs, hB, hV, hD⟩ := hb.ex
  refine ⟨fun A outer s H us vs Q E hr hgd e0 r h => ?_⟩
  obtain ⟨G, S, xs, hl, dl, rp, q⟩ := h
  have hsp : spX K n g (vs ++ dvs) H Q E := ⟨G, S, xs ++ ds.map .p, by simp [hl]; omega, denL_app dl (hD H G), rp, q⟩
  have hl2 : (us ++ dus).length = ps.length := by
    have := F.len _ _ _ _ hsp
    rw [← this, (r.append hV).length]
  have KX : K.In s.heap := e0.mod.kin.keeps fun b o e => (e0.bs b o e).1
  exact F.run A outer s H ⟨us, []⟩ (us ++ dus) (vs ++ dvs) Q E hr hgd e0 (hB s us KX hl2) (r.append hV) hsp
theorem de_callXD {ds : List PyData} (F : FnX X.prog X.w X.K X.mg X.base k f fd ps (spX X.K n g)) (C : Ctx X W k) (hg : Gl X x) (hm : X.mg x = some (.ref f)) (hk : PySem.W.keepIn X.K (.ref f) = true) (hb : BindsD X.K fd ps ds) (hn : ds.length ≤ n)
    (ha : DA X W (e :: es) fa) (hdb : (x == ("__debug__" : Str)) = false := by decide) (he : starEach (e :: es) X.env = (false, eval e X.env) :: starEach es X.env := by rfl) (hpl : (backTo pos (starEach es X.env)).any (·.1) = false := by rfl) :
    DE X W (.Call (.Name x p) (e :: es) [] pos) (eCallX (n - ds.length) (fun xs => g (xs ++ ds.map .p)) fa) := de_callP (F.toPD hb hn) (fun _ _ _ _ h => h) C hg hm hk ha hdb he hpl
end
end DL

namespace DL
open PySem L2 PySem.Spec PyProof.Rows

theorem gives_keys {K : PySem.W.Frag} {H : Hp} {G : Gh} {S : Sto} {a : Addr} {o : Obj} {ws : List (Key × V)} {kvs : List (Key × PyData)} (f : ∀ H : Hp, Holds G.φ H → H a = some (.frz o (.dK ws))) (e : kvs.map (·.1) = ws.map (·.1)) : Gives K (Itk a o ws) H G S (kvs.map fun kv => D.p (keyPy kv.1)) where
  go := fun H1 G1 S1 x r i hi => by
    have hl : kvs.length = ws.length := by simpa using congrArg List.length e
    rw [List.length_map, hl] at hi
    exact ⟨f H1 fun p hp => r.phi p (x.phi p hp), hi⟩
  yld := fun H1 G1 S1 x r i d ed v H' y => by
    obtain ⟨e1, k, w, hk, rfl⟩ := y
    subst e1
    rw [List.getElem?_map] at ed
    obtain ⟨p, hp, rfl⟩ := Option.map_eq_some_iff.mp ed
    have h1 : (kvs.map (·.1))[i]? = some p.1 := by rw [List.getElem?_map, hp]; rfl
    have h2 : (ws.map (·.1))[i]? = some k := by rw [List.getElem?_map, hk]; rfl
    rw [e, h2] at h1
    cases h1
    refine ⟨Ext.refl, r, ?_, .inl rfl⟩
    cases hq : p.1 with
    | inl z => exact .int z
    | inr z => exact .str z
  stop := fun H1 G1 S1 x r => by
    have hl : kvs.length = ws.length := by simpa using congrArg List.length e
    rw [List.length_map, hl]
    exact ⟨f H1 fun p hp => r.phi p (x.phi p hp), Nat.le_refl _⟩
def itKM : D → M (List D) := fun d S => match d with
  | .p (.dict l) => match unKv l with
    | some kvs => .ok (kvs.map fun kv => D.p (keyPy kv.1)) S
    | none => .bad
  | _ => .bad
def iKey (f : FE) : FI := fun ρ S => (f ρ S).bind itKM
theorem di_key {X : Cx} {W : WX} {l tg : Expr} {f : FE} (he : DE X W l f) : DI X W tg l (iKey f) := by
  refine ⟨PI.imp (pi_keys he.run) fun σ H R ⟨G, S, ρ, rs, rp, q⟩ => ⟨G, S, ρ, rs, rp, (Aft.bind q).mono fun d H1 G1 S1 x1 r1 q1 v dv => ?_⟩⟩
  unfold itKM at q1
  split at q1
  · rename_i l
    split at q1
    · rename_i kvs ek
      obtain ⟨a, ws, rfl, ⟨o, fd⟩, e, t⟩ := den_dic dv
      have el := unKv_eq ek
      subst el
      have e2 : kvs.map (·.1) = ws.map (·.1) := by
        rw [pyKv_keys] at e
        have q := congrArg (List.map pyKey) e
        simp only [List.map_map, Function.comp_def, pyKey_keyPy] at q
        have q2 := congrArg (List.filterMap id) q
        simpa [List.filterMap_map, Function.comp_def] using q2
      exact ⟨a, o, rfl, .inl ⟨ws, fd H1 r1.phi, q1 H1 G1 Ext.refl r1 _ (gives_keys fd e2)⟩⟩
    · exact q1.elim
  · exact q1.elim
@[simp] theorem iKey_ {f : FE} {ρ : Ev} {S : Sto} : iKey f ρ S = (f ρ S).bind itKM := rfl
@[simp] theorem itKM_d {kvs : List (Key × PyData)} {S : Sto} : itKM (.p (.dict (pyKv kvs))) S = .ok (kvs.map fun kv => D.p (keyPy kv.1)) S := by simp [itKM]
end DL

namespace PySem
namespace DLX
open PySem.W PySem.Calls PyProof.Rows PySem.HandSPX
section
open Builtin Builtin.ObjectAttr
variable {prog : Program} {w : World} {A : Around} {E : Value → Shared → Prop} {R : Result → Shared → Prop} {hp : Heap} {g : Array GenState} {d : Drawn} {t : Nat} {os : OsState}
theorem osaG {K : W.Frag} {B : String} {bmB : List Value} (SB : StoreFacts B bmB "object.__setattr__" "object") {name : Str} {tk : Tok} {v : Value} {x C : Addr} {fv : Array Value} {cd : ClassData}
    (X : K.In hp) (hx : hp.get? x = some { cls := .ref C, data := .fields fv }) (hcd : W.clsIn K C = some cd) (hm : cd.mro = .ref C :: bmB) (hh : cd.hasDict = true) (ha : W.findIn K (.ref C) name = some none)
    (hq : ∀ h' tk' dx, (∀ b o, b ≠ x → hp.get? b = some o → h'.get? b = some o) → hp.objs.size ≤ dx → dx ≠ x → h'.get? x = some { cls := .ref C, dict := some dx, data := .fields fv } →
      h'.Ns1 dx (fun y => if y = name then some v else none) → R (.ok (.ret .none)) ⟨h', g, d, tk', os⟩) :
    codeAny (model prog w) A (.call (.builtin "object.__setattr__") ⟨[.ref x, .str name tk, v], []⟩) R ⟨hp, g, d, t, os⟩ := by
  have I : W.InstAt hp x { cls := .ref C, data := .fields fv } C none := ⟨hx, rfl, rfl, trivial⟩
  have SF := F.store_object
  have ne : cd.mro.isEmpty = false := by rw [hm]; rfl
  have hob : cd.mro.contains (.type "object") = true := by rw [hm, List.contains_cons, SB.hasOwner, Bool.or_true]
  have hxs : x ≠ hp.objs.size := Nat.ne_of_lt (Heap.lt_size hx)
  have sub : W.Looks (model prog w) hp (isInstance (.ref x) (.type "object")) true := I.type.andThen (W.looks_mroIn X (by unfold W.mroIn; rw [hcd, Option.bind_some, if_neg (by rw [ne]; decide), hob]))
  refine codeAny_call_builtin SF.slot.plain SF.entry (@W.check_slot (model prog w) _ _ ⟨hp, g, d, t, os⟩ "object.__setattr__" "object" "__setattr__" (.ref x) [.str name tk, v] [] _ SF.kind SF.split sub (SF.args (.ref x) (.str name tk) v) ?_)
  have hmr : W.Looks (model prog w) hp (mroOf (.ref C)) cd.mro := (W.looks_clsIn X hcd).andThen .now
  have L3 : W.Looks (model prog w) hp (storeTaker? none) none := .now
  have hcls : W.Looks (model prog w) hp (classData C) cd := W.looks_clsIn X hcd
  rw [W.osa_eq, refuse_eq]
  refine wpAny_bind (wpAny_bind (I.type.at (wpAny_bind (hmr.at ?_))))
  rw [hm, refuseLoop_ref, SB.passes]
  refine wpAny_pure (wpAny_bind (I.type.at (wpAny_bind ((W.looks_findIn X ha).at (wpAny_bind (L3.at ?_))))))
  show wpAny _ _ (storeInOwnDict (.ref x) (.ref C) (.str name tk) name v false) _ _ _
  obtain ⟨nm, bs, mro, ns, qn, hd, sn, sb, ab, col, del⟩ := cd
  dsimp only at hh
  subst hh
  unfold storeInOwnDict ownDictForStores
  repeat (first | with_reducible refine store_in_new ?_ ?_ | with_reducible refine wpAny_loadPart_at hx ?_ | with_reducible refine hcls.at ?_ | wp_step)
  · exact ⟨_, #[], _, (Heap.get?_update_ne _ _ _ _ hxs.symm).trans (Heap.get?_push_at rfl rfl), rfl, fun e he => absurd he (by simp), fun _ => rfl⟩
  · intro h' tk' hn' hs
    have hx₁ : (hp.push { cls := .type "dict", data := .dict #[] }).get? x = some { cls := .ref C, data := .fields fv } := Heap.get?_push_of_some _ hx
    refine hq h' tk' hp.objs.size (fun b o hb ho => ?_) (Nat.le_refl _) hxs.symm ?_ hn'
    · exact (hs.2 b (Nat.ne_of_lt (Heap.lt_size ho))).trans ((Heap.get?_update_ne _ _ _ _ hb).trans (Heap.get?_push_of_some _ ho))
    · exact (hs.2 x hxs).trans (Heap.get?_update_self _ hx₁ rfl)
end
theorem typ_LookupError : typeOf (.type "LookupError") = pure (.type "type") := by kernel_rfl
theorem typ_ValueError : typeOf (.type "ValueError") = pure (.type "type") := by kernel_rfl
end DLX
end PySem

namespace DL
open PySem L2 PySem.Spec PyProof.Rows
/-- a built-in exception class, as a base -/
structure XBase (B newId initId : String) (bmB : List Value) : Prop where
  F : ExcBaseFacts B newId initId bmB
  st : StoreFacts B bmB "object.__setattr__" "object"
  typ : typeOf (.type B) = pure (.type "type")
  stub : Manifest.isStub B = false
  boot : bootBuiltins (B : Str) = some (.type B)
  hn : (B : Str) ≠ "__name__"
  hdb : ((B : Str) == ("__debug__" : Str)) = false
  hnd : PySem.W.handedIn (.builtin initId) = true
abbrev bmOf (B : String) : List Value := [.type B, .type "Exception", .type "BaseException", .type "object"]
theorem xb_LookupError : XBase "LookupError" "LookupError.__new__" "LookupError.__init__" (bmOf "LookupError") :=
  ⟨F.excBase_LookupError, F.store_LookupError, DLX.typ_LookupError, by decide +kernel, PyProof.Rows.Boot.«LookupError», by decide, by decide, by decide +kernel⟩
theorem xb_ValueError : XBase "ValueError" "ValueError.__new__" "ValueError.__init__" (bmOf "ValueError") :=
  ⟨F.excBase_ValueError, F.store_ValueError, DLX.typ_ValueError, by decide +kernel, PyProof.Rows.Boot.«ValueError», by decide, by decide, by decide +kernel⟩
/-- an own class over it, of one field f -/
structure XCls (K : PySem.W.Frag) (C : Addr) (newId : String) (bmB : List Value) (f : Str) : Prop where
  cls : ∃ nm q N bs sn sub ab col dd k0 k1 k2 k3 k5, K.lookup C = some (excClassObj nm q C N bs bmB true sn sub ab col dd k0 k1 k2 k3 k5 newId)
  sa : PySem.W.findIn K (.ref C) "__setattr__" = some (some (.builtin "object.__setattr__"))
  exC : PySem.W.subIn K (.ref C) (.type "BaseException") = some true
  tyC : PySem.W.typeIn K (.ref C) = some (.type "type")
  kC : PySem.W.keepIn K (.ref C) = true
  fld : PySem.W.findIn K (.ref C) f = some none
section
variable {X : Cx} {pins : List (Addr × Obj)} {σ : L2.St} {H : Hp} {s : Shared} {a C dx : Addr} {f : Str} {y : V} {u : Value} {Q : Unit → Shared → Prop} {E : Value → Shared → Prop} {A : Around} {B newId initId : String} {bmB : List Value}
theorem ost_newG (XB : XBase B newId initId bmB) (T : XCls X.K C newId bmB f) (I : Inv X pins σ H s) (e : H a = some (exo a C none)) (ry : RelV y u)
    (h : ∀ dx s', H dx = none → dx ≠ a → Inv X pins σ (upd (upd H dx (exd dx [(f, y)])) a (exo a C (some dx))) s' → Q () s') : wpAny (model X.prog X.w) A (setAttr (.ref a) f u) Q E s := by
  obtain ⟨nm, q, N, bs, sn, sub, ab, col, dd, k0, k1, k2, k3, k5, hC⟩ := T.cls
  have hcl : PySem.W.clsIn X.K C = some { name := nm, bases := bs, mro := .ref C :: bmB, ns := N, qualname := q, hasDict := true, slotNames := sn, subclasses := sub, abstract := ab, collection := col, hasDel := false } := by unfold PySem.W.clsIn; rw [hC] <;> rfl
  obtain ⟨t1, ho⟩ := exo_at I.hok e
  obtain ⟨hp, g, d, t, os⟩ := s
  refine PySem.W.set_plain I.kIn (ox := { cls := .ref C, dict := none, data := .fields #[.ref t1, .none, .none, .none, .bool false, .none] }) (od := none) ⟨ho, rfl, rfl, trivial⟩ T.sa ?_
  refine PySem.DLX.osaG XB.st I.kIn ho hcl rfl rfl T.fld (fun h' tk' dx k dn dne hx hn => ?_)
  have hnd : H dx = none := I.hok.fresh dn
  have nd : ∀ {b : Addr} {o : Obj}, hp.get? b = some o → b ≠ dx := fun {b o} q => Nat.ne_of_lt (Nat.lt_of_lt_of_le (Heap.lt_size q) dn)
  have na : ∀ {b : Addr}, H b = none → b ≠ a := fun {b} n z => by
    rw [z, e] at n
    cases n
  have Un1 : Un X.fs [] H (upd (upd H dx (exd dx [(f, y)])) a (exo a C (some dx))) hp h' := {
    keep := fun b o q n _ _ => k b o (na n) q
    slot := fun b o q n _ _ => ⟨o.slots, k b o (na n) q⟩
    free := fun b o q n _ => by rw [upd_ne (na n), upd_ne (nd q)]; exact n
    there := fun b o q _ => by
      by_cases hb : b = a
      · exact ⟨_, by rw [hb]; exact hx⟩
      · exact ⟨o, k b o hb q⟩
    tups := fun b xs q => by rw [upd_ne (at_ne e q exo_tup), upd_ne (ne_of_none q hnd)]; exact q
    frzs := fun b o v q => by rw [upd_ne (at_ne e q exo_frz), upd_ne (ne_of_none q hnd)]; exact q
    tbls := fun b ps q => ⟨#[], by rw [upd_ne (at_ne e q exo_tbl), upd_ne (ne_of_none q hnd), q]; simp⟩ }
  refine h dx _ hnd dne (I.un (t' := tk') Un1 fun b o q => ?_)
  by_cases hb : b = a
  · subst hb
    rw [upd_same] at q
    cases q
    exact exo_ok hx
  · rw [upd_ne hb] at q
    by_cases hd : b = dx
    · subst hd
      rw [upd_same] at q
      cases q
      exact exd_ok hn (relO_put (fs := []) ry fun g => True.intro)
    · rw [upd_ne hd] at q
      exact (I.hok b o q).stay (fun c v hc z => k c v (by
          rcases hc with hc | hc
          · rw [hc]
            exact hb
          · exact at_ne e hc exo_own) z)
        (fun c hc => by rw [upd_ne (at_ne e hc exo_own), upd_ne (ne_of_none hc hnd)]; exact hc) (fun c xs hc => by rw [upd_ne (at_ne e hc exo_tup), upd_ne (ne_of_none hc hnd)]; exact hc)
theorem initG {us : List Value} {Q : Value → Shared → Prop} (XB : XBase B newId initId bmB) (T : XCls X.K C newId bmB f) (I : Inv X pins σ H s) (e : H a = some (exo a C none)) (hl : us.length ≤ sizeLine) (h : ∀ s', Inv X pins σ H s' → Q .none s') :
    wpAny (model X.prog X.w) A (call (.builtin initId) (.ref a :: us)) Q E s := by
  obtain ⟨nm, q, N, bs, sn, sub, ab, col, dd, k0, k1, k2, k3, k5, hC⟩ := T.cls
  obtain ⟨t1, ho⟩ := exo_at I.hok e
  obtain ⟨hp, g, d, t, os⟩ := s
  refine wpAny_call (PySem.HandSPX.init_base XB.F (fun Y => rfl) (I.kIn _ _ hC) ho hl fun h' t2 k hx => ?_)
  have J := I.write (t' := t) (x := a) (e := a) (o := exo a C none) (by rw [e]; exact True.intro) (.inl rfl) k ⟨_, hx⟩ (exo_ok hx)
  have eu : upd H a (exo a C none) = H := by
    funext b
    by_cases hb : b = a
    · rw [hb, upd_same, e]
    · rw [upd_ne hb]
  rw [eu] at J
  exact h _ J
end
/-- what __init__ of such a class keeps -/
def spInit (C : Addr) (f : Str) : Sp := fun vs H Q _ => ∃ (a : Addr) (v : V), vs = [.ref a, v] ∧ H a = some (exo a C none) ∧ ∀ dx, H dx = none → dx ≠ a → Q .non (upd (upd H dx (exd dx [(f, v)])) a (exo a C (some dx)))
section
variable {X : Cx} {e : Expr} {es : List Expr} {C : Addr} {f : Str} {B newId initId : String} {bmB : List Value} {p p' p1 p2 p3 p4 p5 p6 p7 p8 p9 pos : Pos}
def tInitG (C : Addr) (ta : TA) : TE := fun σ H Q => ta σ H fun vs H1 => ∃ (a : Addr) (ws : List V), vs = .ref a :: ws ∧ ws.length ≤ 1000 ∧ H1 a = some (exo a C none) ∧ Q .non H1
theorem pe_initG {pl : Sem Bool} {ta : TA} (XB : XBase B newId initId bmB) (T : XCls X.K C newId bmB f) (hg : Gl X (B : Str)) (hm : X.mg (B : Str) = none) (vV : PySem.W.findCls X.K (.type B) (.type "type") "__init__" = some (.val (.builtin initId))) (ha : PA X (e :: es) ta)
    (hc : eval (.Call (.Attribute (.Name (B : Str) p1) "__init__" p2) (e :: es) [] pos) X.env = (do
      let ov ← eval (.Name (B : Str) p1) X.env
      standAt p2.atName
      let (f, first) ← holding [ov] (getMethod ov "__init__" pl)
      callWith pos f first (backTo pos (starEach (e :: es) X.env)) (backToKw pos (keywordEach [] X.env))) := by rfl)
    (he : starEach (e :: es) X.env = (false, eval e X.env) :: starEach es X.env := by rfl) (hpl : (backTo pos (starEach es X.env)).any (·.1) = false := by rfl) :
    PE X (.Call (.Attribute (.Name (B : Str) p1) "__init__" p2) (e :: es) [] pos) (tInitG C ta) := by
  refine ⟨fun pins s σ H Q I h => ?_⟩
  refine PySem.W.methodCall_KW (ld_blt I hg hm XB.boot ?_ XB.hn XB.hdb) hc
  obtain ⟨m, fr⟩ := I.fr
  refine PySem.W.method_type fr I.ok.mod.kin XB.typ XB.stub vV XB.hnd ?_
  show wpAny _ _ (callWith pos (Value.builtin initId) [] (backTo pos (starEach (e :: es) X.env)) []) _ _ _
  refine PyProof.Rows.callWith_method1 (thn (ha.run pos pins _ σ H _ (I.tok _) h) fun us s1 ⟨vs, H1, I1, r1, a, ws, ev, hl, ea, q⟩ => ?_) he hpl
  subst ev
  cases r1 with
  | @cons _ u0 _ ur ra rw' =>
    obtain rfl : u0 = Value.ref a := ra
    have hlen : ur.length ≤ sizeLine := by
      rw [← Paired.length rw', sizeLine_eq]
      omega
    exact initG XB T I1 ea hlen fun s' J => ⟨.non, H1, J, rfl, q⟩
theorem ps_ostG {o : Expr} {to te : TE} (XB : XBase B newId initId bmB) (T : XCls X.K C newId bmB f) (ho : PE X o to) (he : PE X e te) (hs : swapsWith e (some (.Attribute o f p')) pos.line X.env = pure false := by rfl) :
    PS X (.Assign [.Attribute o f p'] e pos) (fun D σ H => te σ H fun y H1 => to σ H1 fun x H2 => ∃ a : Addr, x = .ref a ∧ H2 a = some (exo a C none) ∧ ∀ dx, H2 dx = none → dx ≠ a → D.nx σ (upd (upd H2 dx (exd dx [(f, y)])) a (exo a C (some dx)))) := by
  refine ⟨fun pins s σ H D I h => ?_⟩
  refine plainObj_wpAny_Assign_Attribute (thn (he.run pins s σ H _ I h) fun v s1 ⟨y, H1, I1, r1, q1⟩ => thn (ho.run pins s1 σ H1 _ I1 q1) fun u s2 ⟨x, H2, I2, r2, a, ex, ea, q⟩ => ?_) hs
  subst ex
  obtain rfl : u = Value.ref a := r2
  exact ost_newG XB T I2 ea r1 fun dx s' n ne J => ⟨σ, _, J, q dx n ne⟩
end
/-- __init__(self, y): B.__init__(self, 'm'); self.f = y -/
theorem init_fn {P : Program} {w : World} {K : PySem.W.Frag} {mg : Str → Option Value} {base : Heap} {x qual : Str} {st : Stmt} {fI C : Addr} {fd : FuncData} {k j : Nat} {y f m : Str} {B newId initId : String} {bmB : List Value} {p1 p2 p3 p4 p5 p6 p7 p8 p9 p10 : Pos} {pl : Env → Sem Bool}
    (hc : ∀ env : Env, eval (.Call (.Attribute (.Name (B : Str) p1) "__init__" p2) [.Name "self" p3, .Constant (.str m) j p4] [] p5) env = (do
      let ov ← eval (.Name (B : Str) p1) env
      standAt p2.atName
      let (f, first) ← holding [ov] (getMethod ov "__init__" (pl env))
      callWith p5 f first (backTo p5 (starEach [.Name "self" p3, .Constant (.str m) j p4] env)) (backToKw p5 (keywordEach [] env))))
    (XB : XBase B newId initId bmB) (T : XCls K C newId bmB f) (F : L2.Fun K x qual st fI fd) (Sc : FnScope ["self", y] ["self", y] (defScope st))
    (hb : defBody st = [.Expr (.Call (.Attribute (.Name (B : Str) p1) "__init__" p2) [.Name "self" p3, .Constant (.str m) j p4] [] p5) p6, .Assign [.Attribute (.Name "self" p7) f p8] (.Name y p9) p10])
    (hgl : (defScope st).names.lookup (B : Str) = some .globalImplicit) (hm : mg (B : Str) = none) (vV : PySem.W.findCls K (.type B) (.type "type") "__init__" = some (.val (.builtin initId)))
    (hv0 : Vis (defScope st) "self") (hv1 : Vis (defScope st) y) (hyd : (y == ("__debug__" : Str)) = false) (hyc : (y == ("__classdict__" : Str)) = false) :
    FnOk P w K mg base L2.CX0 (k + 1) fI fd ["self", y] (spInit C f) := by
  refine F.ok Sc (fun vs H Q E ⟨a, v, e, _⟩ => by rw [e]; rfl) fun cdv A outer s H vs Q E hr ⟨a, v, ev, ea, hq⟩ => ?_
  rw [hb]
  refine ⟨_, pss_cons (ps_expr (pe_initG (es := [.Constant (.str m) j p4]) XB T hgl hm vV (pa_cons (pe_var (i := 0) rfl hv0) (pa_cons pe_str pa_nil)) (hc _))) (pss_one (ps_ostG XB T (pe_var (i := 0) rfl hv0) (pe_var (i := 1) rfl hv1 hyd hyc))), ?_⟩
  subst ev
  exact ⟨_, rfl, a, _, rfl, (by simp), ea, v, rfl, .ref a, rfl, a, rfl, ea, fun dx n ne => hq dx n ne⟩
section
variable {X : Cx} {e : Expr} {es : List Expr} {C : Addr} {f : Str} {B newId initId : String} {bmB : List Value} {p pos : Pos}
theorem pmkG {x : Str} {fI : Addr} {k : Nat} {fd : FuncData} {ps : List Str} {sp : Sp} {ta : TA} (XB : XBase B newId initId bmB) (T : XCls X.K C newId bmB f) (iC : PySem.W.findIn X.K (.ref C) "__init__" = some (some (.ref fI))) (tI : PySem.W.typeIn X.K (.ref fI) = some (.type "function"))
    (F1 : FnOk X.prog X.w X.K X.mg X.base L2.CX0 k fI fd ps sp) (hr : Room (k + 1) X.A) (hb : Binds X.K fd ps []) (hg : Gl X x) (hm : X.mg x = some (.ref C)) (ha : PA X (e :: es) ta)
    (hdb : (x == ("__debug__" : Str)) = false := by decide) (he : starEach (e :: es) X.env = (false, eval e X.env) :: starEach es X.env := by rfl) (hpl : (backTo pos (starEach es X.env)).any (·.1) = false := by rfl) :
    PMk X (.Call (.Name x p) (e :: es) [] pos) (tMkO C sp [] ta) := by
  intro pins s σ H Q I h
  obtain ⟨nm, q, N, bs, sn, sub, ab, col, dd, k0, k1, k2, k3, k5, hC⟩ := T.cls
  refine wpAny_Call_Name_kw (ld_glob I hg hm ?_ hdb)
  refine PySem.W.callWith_K (h₀ := X.base) I.ok.mod.kin T.kC (thn (ha.run pos pins s σ H _ I h) fun us s1 ⟨vs, H1, I1, r1, hz, q1⟩ => ⟨I1.kIn, ?_⟩) he hpl
  show wpAny _ _ (call (.ref C) us) _ _ _
  obtain ⟨hp, g, dr, tk, os⟩ := s1
  have hsz : hp.objs.size ≤ hp.objs.size + 1 := Nat.le_succ _
  have hn : H1 (hp.objs.size + 1) = none := I1.hok.fresh hsz
  have hq := q1 (hp.objs.size + 1) hn
  have kk : ∀ b o, hp.get? b = some o → ((hp.push (PySem.W.kdv_tup us)).push (PySem.HandSPX.excO C hp.objs.size)).get? b = some o := fun b o e => Heap.get?_push_of_some _ (Heap.get?_push_of_some _ e)
  have hget : ((hp.push (PySem.W.kdv_tup us)).push (PySem.HandSPX.excO C hp.objs.size)).get? (hp.objs.size + 1) = some (PySem.HandSPX.excO C hp.objs.size) := by heap_get
  have I2 : Inv X pins σ (upd H1 (hp.objs.size + 1) (exo (hp.objs.size + 1) C none)) ⟨(hp.push (PySem.W.kdv_tup us)).push (PySem.HandSPX.excO C hp.objs.size), g, dr, tk, os⟩ :=
    I1.laid (t' := tk) (a := hp.objs.size + 1) (o := exo (hp.objs.size + 1) C none) (h' := (hp.push (PySem.W.kdv_tup us)).push (PySem.HandSPX.excO C hp.objs.size)) kk hsz (exo_ok hget)
  have r2 : Vals (V.ref (hp.objs.size + 1) :: (vs ++ [])) (Value.ref (hp.objs.size + 1) :: (us ++ [])) := .cons rfl (r1.append .nil)
  have hl : (Value.ref (hp.objs.size + 1) :: us ++ []).length = ps.length := by
    have e := r2.length
    rw [F1.len _ _ _ _ hq] at e
    exact e.symm
  have hus : us.length ≤ sizeLine := by
    rw [← Paired.length r1, sizeLine_eq]
    omega
  have hbb := hb _ (Value.ref (hp.objs.size + 1) :: us) I2.kIn hl
  rw [List.cons_append] at hbb
  refine wpAny_call (PySem.HandSPX.call_own XB.F (fun Y => rfl) (I1.kIn _ _ hC) (PySem.W.looks_findIn I1.kIn iC) (fun self => PySem.W.bind_fn I1.kIn self tI) hus
    (codeAny_mono (F1.run _ X.stack _ _ ⟨Value.ref (hp.objs.size + 1) :: us, []⟩ (Value.ref (hp.objs.size + 1) :: (us ++ [])) _ _ (fun _ _ _ => False) (hr.make C us []) (I2.env0.make C us []) hbb r2 hq) fun r s' hq' => ?_))
  cases r with
  | error er => exact (show False from hq').elim
  | ok fl =>
    cases fl with
    | ret u =>
      obtain ⟨v, H2, os2, bare2, un2, hok2, rv, ev, d, fs, ea, ed, hd1, q2⟩ := hq'
      subst ev
      obtain ⟨h2, g2, d2, t2, os'⟩ := s'
      exact ⟨rv, mk_end (raises_own T.exC T.tyC) I1 hsz kk un2 hok2 os2 bare2 ea ed hd1 q2⟩
    | next => exact False.elim hq'
    | brk => exact False.elim hq'
    | cont => exact False.elim hq'
end

def sRaise (nm f : Str) (g : FE) : FS := fun ρ S => (g ρ S).st ρ fun d S1 => match d with
  | .p v => some (.exc ⟨nm, some [(f, v)]⟩ ρ, S1)
  | _ => none
theorem upd_back {H : Hp} {a dx : Addr} {o1 o2 o3 o4 : HO} (hn : H a = none) (hne : dx ≠ a) : upd (del (upd (upd (upd H a o1) dx o2) a o3) a) dx o4 = upd H dx o4 := by
  funext b
  by_cases h1 : b = dx
  · subst h1; rw [upd_same, upd_same]
  · rw [upd_ne h1, upd_ne h1]
    by_cases h2 : b = a
    · subst h2; rw [del_same, hn]
    · rw [del_ne h2, upd_ne h2, upd_ne h1, upd_ne h2]
section
variable {X : Cx} {W : WX} {e : Expr} {C : Addr} {f : Str} {B newId initId : String} {bmB : List Value} {p pos pos' : Pos}
theorem ds_raise {x : Str} {fI : Addr} {k : Nat} {fd : FuncData} {ps : List Str} {g : FE} (XB : XBase B newId initId bmB) (T : XCls X.K C newId bmB f) (hcl : clsOf X.K x = .ref C) (iC : PySem.W.findIn X.K (.ref C) "__init__" = some (some (.ref fI))) (tI : PySem.W.typeIn X.K (.ref fI) = some (.type "function"))
    (F1 : FnOk X.prog X.w X.K X.mg X.base L2.CX0 k fI fd ps (spInit C f)) (hb : Binds X.K fd ps []) (Cc : Ctx X W (k + 1)) (hg : Gl X x) (hm : X.mg x = some (.ref C)) (hcalm : X.calm = true) (he : DE X W e g)
    (hdb : (x == ("__debug__" : Str)) = false := by decide) (hs : starEach [e] X.env = (false, eval e X.env) :: starEach [] X.env := by rfl) :
    DS X W (.Raise (some (.Call (.Name x p) [e] [] pos)) none pos') (sRaise x f g) := by
  refine ⟨PS.imp (ps_raise hcalm Cc.tk (pmkG XB T iC tI F1 Cc.hr hb hg hm (da_cons he da_nil hs).run hdb hs)) fun E σ H ⟨G, S, ρ, rs, rp, q⟩ => ?_⟩
  refine ⟨G, S, ρ, rs, rp, ?_⟩
  have q := AftS.st q rs rp
  unfold aCons aNil
  cases eo : g ρ S with
  | bad => rw [eo] at q; exact q
  | err y S1 => rw [eo] at q; exact q
  | ok d S1 =>
    rw [eo] at q
    intro H1 G1 x1 r1 vs dvs
    have q1 := q H1 G1 x1 r1
    cases dvs with
    | cons dv t =>
      cases t
      rename_i v
      cases d with
      | ob _ => exact q1.elim
      | ro _ => exact q1.elim
      | ext _ => exact q1.elim
      | p y =>
        refine ⟨by simp, fun a ha => ⟨a, v, rfl, upd_same, fun dx hdx hne => ⟨rfl, dx, [(f, v)], upd_same, ?_, ?_, ?_⟩⟩⟩
        · rw [upd_ne hne, upd_same]
        · rw [upd_ne hne] at hdx; exact hdx
        · rw [upd_ne hne] at hdx
          rw [upd_back ha hne]
          have x2 := Ext.froz (o := .xd [(f, v)]) r1 hdx
          have r2 := Rep.froz (o := .xd [(f, v)]) r1 hdx
          have q2 : AftS X.K W E H1 G1 S1 (some (.exc ⟨x, some [(f, y)]⟩ ρ, S1)) := q1
          rw [← hcl]
          exact q2 _ _ σ (some dx) x2 r2 (x2.relS r1 (x1.relS rp rs)) ⟨dx, [(f, v)], rfl, List.mem_cons_self, rfl, .cons (x2.dn r1 dv) .nil⟩
end
end DL

namespace PySem.W
open PySem PySem.Spec PySem.Calls PyProof.Rows
section
variable {prog : Program} {w : World} {A : Around} {E : Value → Shared → Prop} {s : Shared} {K : Frag} {x D : Addr} {ox : Obj}
theorem kin_classD {od : Obj} {Q : Option Value → Shared → Prop} (hga : findIn K (.ref D) "__getattribute__" = some (some (.builtin "BaseException.__getattribute__"))) (hgt : findIn K (.ref D) "__getattr__" = some none) (hsub : subIn K (.ref D) (.type "BaseException") = some true)
    (hdct : hasDictIn K D = true) (ha : findIn K (.ref D) "__class__" = some (some (.builtin "object.__class__")))
    (hn : specialIn K (.builtin "object.__class__") "__get__" = some (some (.builtin "getset_descriptor.__get__"))) (htk : takesIn K (.builtin "object.__class__") = some true) (hm : mroIn K D (.type "object") = some true)
    (X : K.In s.heap) (I : InstAt s.heap x ox D (some od)) (h : Q (some (.ref D)) { s with toks := s.toks + 1 }) : wpAny (model prog w) A (getAttr? (.ref x) "__class__") Q E s := by
  have hf : findObj K D (some od) "__class__" = some (.bind (.builtin "getset_descriptor.__get__") (.builtin "object.__class__")) := findObj_data (by obtain ⟨cd, hc, _⟩ := any_some hdct; rw [hc]; rfl) ha hn htk
  obtain ⟨hp, g, d, t, os⟩ := s
  have L0 := I.type (M := model prog w)
  have L1 := looks_findIn (M := model prog w) X hga
  have L2 := looks_findIn (M := model prog w) X hgt
  have L3 := looks_find (M := model prog w) X I hf
  have sub : Looks (model prog w) hp (isInstance (.ref x) (.type "BaseException")) true := L0.andThen (looks_subIn X hsub)
  have hx0 : (false && onTheHeap (Value.builtin "BaseException.__getattribute__")) = false := rfl
  have hx2 : (Value.builtin "BaseException.__getattribute__" == Value.builtin "object.__getattribute__") = false := by decide +kernel
  have hx1 : (onTheHeap (Value.ref D) && Value.builtin "BaseException.__getattribute__" == Value.builtin "object.__getattribute__") = false := by rw [hx2]; rfl
  unfold getAttr? getAttrBy? getAttrBy
  refine wpAny_bind (wpAny_mkText (wpAny_bind (wpAny_attempt (wpAny_holding (wpAny_bind (L0.at (wpAny_bind (L1.at ?_))))))))
  show wpAny _ _ (if (onTheHeap (Value.ref D) && Value.builtin "BaseException.__getattribute__" == Value.builtin "object.__getattribute__") = true then _ else _) _ _ _
  rw [hx1, if_neg Bool.false_ne_true]
  unfold getAttrByItsOwn hookBefore
  refine wpAny_bind ?_
  rw [if_pos (show onTheHeap (Value.ref D) = true from rfl)]
  refine L2.at ?_
  refine wpAny_bind (wpAny_attempt (wpAny_holding ?_))
  unfold callGetattribute
  rw [hx0, if_neg Bool.false_ne_true]
  unfold boundAndCalled
  rw [PySem.F.excAttr_ValueError.ga.bind (.ref x)]
  refine wpAny_bind (wpAny_pure ?_)
  show wpAny _ _ (call (.builtin "BaseException.__getattribute__") [.ref x, .str "__class__" t]) _ _ _
  refine wpAny_call (codeAny_call_builtin PySem.F.excAttr_ValueError.ga.plain PySem.F.entry_bexc_ga ?_)
  refine @check_slot (model prog w) _ _ ⟨hp, g, d, t + 1, os⟩ "BaseException.__getattribute__" "BaseException" "__getattribute__" (.ref x) [.str "__class__" t] [] _ (by decide +kernel) (by decide +kernel) sub (PySem.F.args_bexc_ga (.ref x) (.str "__class__" t)) ?_
  unfold Builtin.«object.__getattribute__»
  refine wpAny_bind (wpAny_of_eq (a := ((Value.ref x : Value), [Value.str "__class__" t])) (by first | rfl | (simp only [slotArgs]; rfl)) ?_)
  refine wpAny_bind (wpAny_pure (wpAny_bind (L0.at (wpAny_bind (L3.at ?_)))))
  show wpAny _ _ (holding [Value.builtin "object.__class__"] (call (.builtin "getset_descriptor.__get__") [.builtin "object.__class__", .ref x, .ref D]) >>= ret) _ _ _
  refine wpAny_bind (wpAny_holding (wpAny_call (class_get (s := ⟨hp, g, d, t + 1, os⟩) (ox := ox) (od := some od) X I hm ?_)))
  refine wpAny_pure ?_
  show wpAny _ _ (handedOut (.ref D)) _ _ _
  rw [handedOut_of (v := .ref D) rfl]
  first
    | exact wpAny_pure (wpAny_pure h)
    | exact wpAny_pure h
    | exact wpAny_pure (wpAny_bind (wpAny_pure (wpAny_pure h)))
theorem kitx_excD (hga : findIn K (.ref D) "__getattribute__" = some (some (.builtin "BaseException.__getattribute__"))) (hgt : findIn K (.ref D) "__getattr__" = some none) (hsub : subIn K (.ref D) (.type "BaseException") = some true) (hdct : hasDictIn K D = true) (ha : findIn K (.ref D) "__class__" = some (some (.builtin "object.__class__")))
    (hn : specialIn K (.builtin "object.__class__") "__get__" = some (some (.builtin "getset_descriptor.__get__"))) (htk : takesIn K (.builtin "object.__class__") = some true) (hm : mroIn K D (.type "object") = some true) :
    KitX K (.ref x) (.ref D) (fun h => ∃ od, InstAt h x ox D (some od)) where
  ty := fun _ _ _ I => I.choose_spec.type
  it := fun _ _ X _ => by
    obtain ⟨cdD, hcD, _⟩ := any_some hdct
    unfold clsIn at hcD
    split at hcD
    · rename_i c' d' cd' sl' ho
      intro A' Q' E' s' k q
      unfold isType loadHead
      exact wpAny_bind (wpAny_loadPart (k _ _ (X _ _ ho)) (wpAny_pure q))
    · cases hcD
  ne := fun h tp dd its n sl X htp => by
    obtain ⟨cdD, hcD, _⟩ := any_some hdct
    refine Bool.eq_false_iff.mpr fun q => ?_
    have e : D = tp := Value.ref.inj (beq_iff_eq.mp q)
    subst e
    unfold clsIn at hcD
    split at hcD
    · rename_i c' d' cd' sl' ho
      have z := (X _ _ ho).symm.trans htp
      cases z
    · cases hcD
  ca := fun X I k => kin_classD hga hgt hsub hdct ha hn htk hm X I.choose_spec k
end
end PySem.W

namespace DL
open PySem L2 PySem.Spec PyProof.Rows
/-- a caught exception, by the mirror -/
abbrev xn (a dd : Addr) (x : Exn) : D := .ext ⟨.ref a, some (dd, x)⟩
/-- e.f -/
def eXf (a dd : Addr) (i : Nat) (f : Str) : FE := fun ρ S => match ρ[i]? with
  | some (some (.ext ⟨.ref a', some (dd', ⟨_, some [(f', v)]⟩)⟩)) => if a' = a ∧ dd' = dd ∧ f' = f then .ok (.p v) S else .bad
  | _ => .bad
/-- isinstance(e, B), known to be b -/
def eXi (a dd : Addr) (i : Nat) (b : Bool) : FE := fun ρ S => match ρ[i]? with
  | some (some (.ext ⟨.ref a', some (dd', ⟨_, some [_]⟩)⟩)) => if a' = a ∧ dd' = dd then .ok (.p (.bool b)) S else .bad
  | _ => .bad
section
variable {X : Cx} {W : WX} {a dd C : Addr} {oe : Obj} {pn : List (Addr × Obj)} {i : Nat} {n f : Str} {p pos pT : Pos}
theorem ext_den {K : PySem.W.Frag} {H : Hp} {G : Gh} {S : Sto} {a dd : Addr} {nm f : Str} {y : PyData} {v : V} (rp : Rep K H G S) (h : Den K H G (.ext ⟨.ref a, some (dd, ⟨nm, some [(f, y)]⟩)⟩) v) : v = .ref a ∧ ∃ w, H dd = some (.xd [(f, w)]) ∧ Dn K G.φ H y w := by
  obtain ⟨h1, h2⟩ := h
  obtain ⟨fs, ws, e1, e2, e3, e4⟩ := h2 _ rfl
  cases e1
  refine ⟨h1, ?_⟩
  cases ws with
  | nil => cases e3
  | cons q ws =>
    cases ws with
    | cons _ _ => cases e3
    | nil =>
      obtain ⟨f', w⟩ := q
      simp only [List.map_cons, List.map_nil, List.cons.injEq, and_true] at e3
      subst e3
      cases e4 with
      | cons d _ => exact ⟨w, rp.phi _ e2, d⟩
theorem de_xf (T : XfC X.K C) (hno : PySem.W.findIn X.K (.ref C) f = some none) (hz : Zc (.ref C) (some dd) oe) (hf : ∃ vs, oe.data = .fields vs) (hN : X.N[i]? = some n) (hv : Vis X.env.scope n) (hd : (n == ("__debug__" : Str)) = false := by decide) (hcd : (n == ("__classdict__" : Str)) = false := by decide)
    (hb : attributeBase (.Name n p) f X.env (eval (.Name n p) X.env) = eval (.Name n p) X.env := by rfl) : DE (X.suite a ((a, oe) :: pn)) W (.Attribute (.Name n p) f pos) (eXf a dd i f) := by
  refine ⟨PE.imp (pe_xf T hno hz hf (pe_var (X := X.suite a ((a, oe) :: pn)) (pos := p) hN hv hd hcd) hb) fun σ H Q ⟨G, S, ρ, rs, rp, q⟩ => ?_⟩
  unfold eXf at q
  split at q
  · rename_i a' dd' nm f' v' e
    by_cases hc : a' = a ∧ dd' = dd ∧ f' = f
    · rw [if_pos hc] at q
      obtain ⟨rfl, rfl, rfl⟩ := hc
      obtain ⟨v, h1, h2⟩ := rs.get e
      obtain ⟨rfl, w, h3, h4⟩ := ext_den rp h2
      exact ⟨_, h1, rfl, rfl, dd', [(f', w)], w, rfl, h3, by simp [List.lookup], q.ret rp h4⟩
    · rw [if_neg hc] at q; exact q.elim
  · exact q.elim
theorem call_isD {X : Cx} {a D dd : Addr} {oe : Obj} {pn : List (Addr × Obj)} (C : ExcC X.K D) (hz : Zc (.ref D) (some dd) oe) (hf : ∃ vs, oe.data = .fields vs) :
    CallR (X.suite a ((a, oe) :: pn)) (.builtin "isinstance") (fun xs H Q => ∃ fs, H dd = some (.xd fs) ∧ rIsE X.K D a xs H Q) := by
  intro pins s σ H xs us Q I r h
  obtain ⟨fs, ed, c, cv, b, rfl, hcv, e, q⟩ := h
  cases r with
  | cons rx rr =>
    cases rr with
    | cons rt rr =>
      cases rr
      cases rx
      have ec := hcv _ rt
      subst ec
      obtain ⟨hget, _⟩ := I.pin (a, oe) (List.mem_append.mpr (.inl List.mem_cons_self))
      obtain ⟨vs, hv⟩ := hf
      have hx : ObjOk X.prog X.w H s.heap dd (.xd fs) := I.hok dd _ ed
      obtain ⟨mA, hns, _⟩ := hx
      obtain ⟨od, ho, _⟩ := lookIn_ns hns
      have J : PySem.W.InstAt s.heap a oe D (some od) := ⟨hget, hz.1, by unfold PySem.W.notCls; rw [hv] <;> rfl, by rw [hz.2]; exact ho⟩
      exact PySem.W.kia_one (PySem.W.kitx_excD (ox := oe) C.hg C.hk C.hs C.hd C.ha C.hn C.ht C.hm) I.kIn ⟨od, J⟩ e (fun z => nomatch z) fun tk => ⟨.bl b, H, I.kept (t' := tk) fun _ _ z => z, rfl, q⟩
theorem de_xi {B : String} {b : Bool} {pB : Pos} (T : ExcC X.K C) (hk : PySem.W.kitOne X.K (.ref C) (.type B) = some b) (hz : Zc (.ref C) (some dd) oe) (hf : ∃ vs, oe.data = .fields vs) (hN : X.N[i]? = some n) (hv : Vis X.env.scope n) (hg : Gl X "isinstance") (hm : X.mg "isinstance" = none)
    (hgT : Gl X (B : Str)) (hmT : X.mg (B : Str) = none) (hvT : bootBuiltins (B : Str) = some (.type B)) (hd : (n == ("__debug__" : Str)) = false := by decide) (hcd : (n == ("__classdict__" : Str)) = false := by decide) (hnT : (B : Str) ≠ "__name__" := by decide) (hdT : ((B : Str) == ("__debug__" : Str)) = false := by decide) :
    DE (X.suite a ((a, oe) :: pn)) W (.Call (.Name "isinstance" p) [.Name n pT, .Name (B : Str) pB] [] pos) (eXi a dd i b) := by
  refine ⟨PE.imp (pe_callB (X := X.suite a ((a, oe) :: pn)) (call_isD T hz hf) hg hm (by decide +kernel) (pa_cons (pe_var (X := X.suite a ((a, oe) :: pn)) (pos := pT) hN hv hd hcd) (pa_cons (pe_bltn (X := X.suite a ((a, oe) :: pn)) (v := .ty B) hgT hmT hvT rfl hnT hdT) pa_nil)) (by decide) (by decide)) fun σ H Q ⟨G, S, ρ, rs, rp, q⟩ => ?_⟩
  unfold eXi at q
  split at q
  · rename_i a' dd' nm q0 e
    obtain ⟨f', v'⟩ := q0
    by_cases hc : a' = a ∧ dd' = dd
    · rw [if_pos hc] at q
      obtain ⟨rfl, rfl⟩ := hc
      obtain ⟨v, h1, h2⟩ := rs.get e
      obtain ⟨rfl, w, h3, h4⟩ := ext_den rp h2
      exact ⟨_, h1, [(f', w)], h3, .ty B, .type B, b, rfl, fun u hu => hu, hk, q.ret rp (.bl _)⟩
    · rw [if_neg hc] at q; exact q.elim
  · exact q.elim
end

def exRet (i : Nat) (fe : Addr → Addr → FE) (x : Exn) (ρ : Ev) (S : Sto) : Option (Fl × Sto) := match x.fs with
  | none => none
  | some _ => match fe 0 0 (ρ.set i (some (xn 0 0 x))) S with
    | .ok d S2 => some (.ret d, S2)
    | _ => none
def sTry (nm : Str) (i : Nat) (fb : FS) (fe : Addr → Addr → FE) : FS := fun ρ S => match fb ρ S with
  | some (.exc x ρ', S') => if x.nm = nm then exRet i fe x ρ' S' else none
  | o => o
def Par (i : Nat) (fe : Addr → Addr → FE) : Prop := ∀ (a dd : Addr) (x : Exn) (ρ : Ev) (S : Sto), fe a dd (ρ.set i (some (xn a dd x))) S = fe 0 0 (ρ.set i (some (xn 0 0 x))) S
/-- what the suite is read as -/
def tsX (K : PySem.W.Frag) (C : Addr) (fe : Addr → Addr → FE) : Addr → Value → Option Addr → TS := fun a cls d D σ H => cls = .ref C ∧ ∃ dd, d = some dd ∧ rdS K W0 (sRet (fe a dd)) D σ H
section
variable {X : Cx} {W : WX} {C : Addr} {i : Nat} {n x : Str} {np pos pos' p3 : Pos} {body : List Stmt} {fb : FS} {e0 : Expr} {fe : Addr → Addr → FE}
theorem suite_run (hsu : ∀ (a : Addr) (oe : Obj) (dd : Addr) (pn : List (Addr × Obj)), Zc (.ref C) (some dd) oe → (∃ vs, oe.data = .fields vs) → DE (X.suite a ((a, oe) :: pn)) W0 e0 (fe a dd)) (a : Addr) (oe : Obj) (cls : Value) (d : Option Addr) (pn : List (Addr × Obj)) (hz : Zc cls d oe) (hf : ∃ vs, oe.data = .fields vs) :
    PSs (X.suite a ((a, oe) :: pn)) [.Return (some e0) p3] (tsX X.K C fe a cls d) := by
  refine ⟨fun pins s σ H D I ⟨h1, dd, h2, q⟩ => ?_⟩
  subst h1 h2
  exact (dss_one (ds_ret (hsu a oe dd pn hz hf))).run.run pins s σ H D I q
theorem wAs_of {K : PySem.W.Frag} {E : Ends} {H : Hp} {G : Gh} {S : Sto} {ρ : Ev} {σ : L2.St} {y : Exn} {d : Option Addr} (hcl : clsOf K x = .ref C) (hex : PySem.W.exmOne K (.ref C) (.ref C) = some true) (par : Par i fe) (hy : y.nm = x) (q : AftS K W E H G S (exRet i fe y ρ S)) (rs : RelS K H G ρ σ) (rp : Rep K H G S) (ex : ExnAt K H G y d) :
    wAs K (.ref C) i (tsX K C fe) W E (clsOf K y.nm) d σ H := by
  rw [hy, hcl]
  unfold exRet at q
  cases efs : y.fs with
  | none => rw [efs] at q; exact q.elim
  | some fs =>
    rw [efs] at q
    unfold ExnAt at ex
    rw [efs] at ex
    obtain ⟨dd, ws, rfl, e2, e3, e4⟩ := ex
    refine ⟨true, hex, fun _ a ha => ⟨rfl, dd, rfl, G, S, ρ.set i (some (xn a dd y)), RelS.set ?_ i rs, rp, ?_⟩, fun h => by cases h⟩
    · exact ⟨rfl, fun p hp => by cases hp; exact ⟨fs, ws, efs, e2, e3, e4⟩⟩
    · unfold sRet
      rw [par a dd y ρ S]
      have q : AftS K W E H G S (match fe 0 0 (ρ.set i (some (xn 0 0 y))) S with
        | .ok d S2 => some (.ret d, S2)
        | _ => none) := q
      cases eo : fe 0 0 (ρ.set i (some (xn 0 0 y))) S with
      | ok d2 S2 => rw [eo] at q; exact q
      | err _ _ => rw [eo] at q; exact q.elim
      | bad => rw [eo] at q; exact q.elim
theorem ds_try (hN : X.N.Nodup) (hi : X.N[i]? = some n) (hln : X.env.kindOf n = some .local) (hc : Names X x (.ref C)) (hcl : clsOf X.K x = .ref C) (hex : PySem.W.exmOne X.K (.ref C) (.ref C) = some true) (tk : Takes X W) (par : Par i fe)
    (hb : ∀ (W' : WX) (pn : List (Addr × Obj)) (xe : Value → Shared → Prop), Takes (X.tr pn xe) W' → PassesOwn (model X.prog X.w) X.A X.env xe → DSs (X.tr pn xe) W' body fb)
    (hsu : ∀ (a : Addr) (oe : Obj) (dd : Addr) (pn : List (Addr × Obj)), Zc (.ref C) (some dd) oe → (∃ vs, oe.data = .fields vs) → DE (X.suite a ((a, oe) :: pn)) W0 e0 (fe a dd))
    (hs : X.stack = X.env :: X.outer := by rfl) (hf : X.env.frame = some X.env.locals := by rfl) :
    DS X W (.Try body [.ExceptHandler (some (.Name x np)) (some n) [.Return (some e0) p3] pos'] [] [] pos) (sTry x i fb fe) := by
  refine ⟨PS.imp (ps_try_as hs hf hN hi hln hc tk (tb := fun W' => rdS X.K W' fb) (ts := tsX X.K C fe) (fun W' pn xe t p => (hb W' pn xe t p).run) (suite_run hsu)) fun E σ H ⟨G, S, ρ, rs, rp, q⟩ => ⟨G, S, ρ, rs, rp, ?_⟩⟩
  unfold sTry at q
  cases eo : fb ρ S with
  | none => rw [eo] at q; exact q
  | some pr =>
    obtain ⟨fl, S1⟩ := pr
    rw [eo] at q
    cases fl with
    | next ρ1 => exact q
    | ret d => exact q
    | brk ρ1 => exact q
    | cont ρ1 => exact q
    | exc y ρ1 =>
      have q : AftS X.K W E H G S (if y.nm = x then exRet i fe y ρ1 S1 else none) := q
      by_cases hy : y.nm = x
      · rw [if_pos hy] at q
        intro H1 G1 σ1 d x1 r1 s1 ex
        exact wAs_of hcl hex par hy (q.ext x1) s1 r1 ex
      · rw [if_neg hy] at q; exact q.elim
end
end DL

namespace DL
open PySem L2 PySem.Spec PyProof.Rows LamX
section
variable {X : Cx} {pins : List (Addr × Obj)} {σ : L2.St} {H : Hp} {s : Shared}
/-- the lambda is made: its code object is found in the table, or new -/
theorem lam_made {c P : Addr} {ps : Array Value} {params : Arguments} {body : Expr} {scope : Scope} {pos : Pos} {E : Value → Shared → Prop} {Q : Value → Shared → Prop} (I : Inv X pins σ H s) (TB : TabB X.base X.mg c P) (hcode : X.env.code = .ref c)
    (hP : H P = some (.tbl ps)) (ht : TriplesOk ps.toList) (ha : ∀ (pos : Pos) (cv : Value), codeAmong pos ps.toList = some cv → ∃ c, cv = .ref c ∧ H c = some (CodeO c (X.env.qual ++ "<lambda>")))
    (hdef : defaultsOf params X.env = ([], [])) (hfree : ∀ y ∈ scope.names, y.2 = .free → ∃ c, X.env.cells.lookup y.1 = some c)
    (h : ∀ (f c' : Addr) (pm ctv : Value) (H1 : Hp) (s' : Shared), Inv X pins σ H1 s' → (H1 = H ∨ (H c' = none ∧ H1 = upd (upd H P (.tbl (ps ++ #[rawInt pos.line, rawInt pos.col, .ref c']))) c' (CodeO c' (X.env.qual ++ "<lambda>")))) →
      s'.heap.get? f = some (PySem.W.kla_obj "<lambda>" (X.env.qual ++ "<lambda>") params body scope (cloFrom X.env.cells scope.names []) pm c' ctv) → H1 f = none → f ∉ frs X.stack → H1 c' = some (CodeO c' (X.env.qual ++ "<lambda>")) → Q (.ref f) s') :
    wpAny (model X.prog X.w) X.A (eval (.Lambda params body scope pos) X.env) Q E s := by
  refine PySem.W.kla_eval hdef ?_
  have bP : s.heap.BuiltinsAt X.mg P := TB.bm.keeps I.bk
  have hP' : s.heap.get? P = some { cls := .none, data := .fields ps } := I.hok P _ hP
  have nofr : ∀ f, s.heap.objs.size ≤ f → f ∉ frs X.stack := fun f hf z => by
    rcases List.mem_cons.mp (I.stkSub _ z) with e | e
    · have h1 := I.lt
      rw [← e] at h1
      exact Nat.lt_irrefl _ (Nat.lt_of_lt_of_le h1 hf)
    · exact I.nofs hf e
  cases hc : codeAmong pos ps.toList with
  | none =>
    refine PySem.W.kla_makeFunction (mg := X.mg) (c := c) (P := P) (ps := ps) (closure_ok hfree) I.ok.glob (I.mod.glob.keeps I.bk) hcode (TB.code.keeps I.bk) hP' ht hc TB.gP bP fun c' ctv h' tk hx hge hlt hrec htb => ?_
    obtain ⟨c2, oc, vs, t, e2, hoc, hd, hv⟩ := hrec
    cases e2
    have hsz : s.heap.objs.size ≤ h'.objs.size := Nat.le_trans hge (Nat.le_of_lt hlt)
    have nC : H c' = none := I.hok.fresh hge
    have I1 := inv_table (t' := tk) (more := #[rawInt pos.line, rawInt pos.col, .ref c']) (h' := h'.push (PySem.W.kla_obj "<lambda>" (X.env.qual ++ "<lambda>") params body scope (cloFrom X.env.cells scope.names []) ((X.mg "__name__").getD .none) c' ctv)) I hP
      (fun b o hb e => Heap.get?_push_of_some _ (hx b o hb e)) (Heap.get?_push_of_some _ htb) hge ⟨oc, vs, t, Heap.get?_push_of_some _ hoc, hd, hv⟩
    refine h h'.objs.size c' ((X.mg "__name__").getD .none) ctv _ _ I1 (.inr ⟨nC, rfl⟩) (Heap.get?_push_size _ rfl) ?_ (nofr _ hsz) upd_same
    have n1 : h'.objs.size ≠ c' := Nat.ne_of_gt hlt
    have n2 : h'.objs.size ≠ P := Nat.ne_of_gt (Nat.lt_of_lt_of_le (Heap.lt_size hP') hsz)
    rw [upd_ne n1, upd_ne n2]
    exact I.hok.fresh hsz
  | some cv =>
    obtain ⟨c', e, hco⟩ := ha pos cv hc
    subst e
    refine PySem.W.kla_makeFunctionHit (mg := X.mg) (c := c) (P := P) (ps := ps) (closure_ok hfree) I.ok.glob (I.mod.glob.keeps I.bk) hcode (TB.code.keeps I.bk) hP' ht hc bP fun ctv h' tk hx hsz => ?_
    have I1 : Inv X pins σ H { s with heap := h'.push (PySem.W.kla_obj "<lambda>" (X.env.qual ++ "<lambda>") params body scope (cloFrom X.env.cells scope.names []) ((X.mg "__name__").getD .none) c' ctv), toks := tk } := I.kept fun b o e => Heap.get?_push_of_some _ (hx b o e)
    exact h h'.objs.size c' ((X.mg "__name__").getD .none) ctv H _ I1 (.inl rfl) (Heap.get?_push_size _ rfl) (I.hok.fresh hsz) (nofr _ hsz) hco
end

section
variable {K : PySem.W.Frag} {H : Hp} {G : Gh} {S : Sto} {j : Nat} {P : Addr} {q : Str}
theorem tab_at (rp : Rep K H G S) (hS : S[j]? = some (.tab P q)) : G.ι[j]? = some P ∧ ∃ ps : Array Value, H P = some (.tbl ps) ∧ TriplesOk ps.toList ∧ ∀ (pos : Pos) (cv : Value), codeAmong pos ps.toList = some cv → ∃ c, cv = .ref c ∧ (c, CodeO c q) ∈ G.φ := by
  have hlt : j < G.ι.length := by rw [rp.len]; exact (List.getElem?_eq_some_iff.mp hS).1
  have e := List.getElem?_eq_getElem hlt
  obtain ⟨ea, ps, h1, h2, h3⟩ := rp.ok j _ _ e hS
  rw [ea] at h1 e
  exact ⟨e, ps, h1, h2, h3⟩
theorem tab_grow (rp : Rep K H G S) (hS : S[j]? = some (.tab P q)) {ps : Array Value} {pos : Pos} {c : Addr} (hP : H P = some (.tbl ps)) (ht : TriplesOk ps.toList) (ha : ∀ (pos : Pos) (cv : Value), codeAmong pos ps.toList = some cv → ∃ c, cv = .ref c ∧ (c, CodeO c q) ∈ G.φ) (hc : H c = none) :
    Ext H G S (upd (upd H P (.tbl (ps ++ #[rawInt pos.line, rawInt pos.col, .ref c]))) c (CodeO c q)) ⟨G.ι, (c, CodeO c q) :: G.φ⟩ S ∧ Rep K (upd (upd H P (.tbl (ps ++ #[rawInt pos.line, rawInt pos.col, .ref c]))) c (CodeO c q)) ⟨G.ι, (c, CodeO c q) :: G.φ⟩ S := by
  obtain ⟨hι, _⟩ := tab_at rp hS
  have live : Live G S P := ⟨j, _, hι, hS, fun z => nomatch z⟩
  have nPc : P ≠ c := ne_of_none hP hc
  have stay : ∀ b o, H b = some o → b ≠ P → upd (upd H P (.tbl (ps ++ #[rawInt pos.line, rawInt pos.col, .ref c]))) c (CodeO c q) b = some o := fun b o e hb => by
    rw [upd_ne (ne_of_none e hc), upd_ne hb]; exact e
  have x : Ext H G S (upd (upd H P (.tbl (ps ++ #[rawInt pos.line, rawInt pos.col, .ref c]))) c (CodeO c q)) ⟨G.ι, (c, CodeO c q) :: G.φ⟩ S :=
    ⟨fun _ _ h => h, fun _ h => List.mem_cons_of_mem _ h, fun b o e n => stay b o e (fun z => n (by rw [z]; exact live)), fun b l => .inl l, fun _ h => .inl h, fun p h => by
      rcases List.mem_cons.mp h with e | h
      · rw [e]; exact .inr (.inl hc)
      · exact .inl h⟩
  refine ⟨x, rp.len, rp.nd, fun i a m h1 h2 => ?_, fun p hp => ?_, fun p hp => ?_⟩
  · by_cases hi : i = j
    · subst hi
      rw [hS] at h2; cases h2
      have h1 : G.ι[i]? = some a := h1
      rw [hι] at h1; cases h1
      refine ⟨rfl, _, by rw [upd_ne nPc, upd_same], ?_, fun p' cv hcv => ?_⟩
      · rw [show (ps ++ #[rawInt pos.line, rawInt pos.col, Value.ref c]).toList = ps.toList ++ [rawInt pos.line, rawInt pos.col, .ref c] from by simp]
        exact PySem.TriplesOk_snoc _ _ _ _ ht
      · rw [show (ps ++ #[rawInt pos.line, rawInt pos.col, Value.ref c]).toList = ps.toList ++ [rawInt pos.line, rawInt pos.col, .ref c] from by simp] at hcv
        rcases among_app _ ht hcv with z | z
        · obtain ⟨c0, e1, e2⟩ := ha p' cv z
          exact ⟨c0, e1, List.mem_cons_of_mem _ e2⟩
        · exact ⟨c, z, List.mem_cons_self⟩
    · have hne : a ≠ P := fun z => hi (Rep.chg.nodup_ix' rp.nd (by rw [← z]; exact h1) hι)
      exact OkO.ext (G := G) (fun _ h => List.mem_cons_of_mem _ h) (fun _ _ => x.tup rp) (fun u hu => stay a u hu hne) (rp.ok i a m h1 h2)
  · rcases List.mem_cons.mp hp with e | hp
    · subst e; exact upd_same
    · exact stay _ _ (rp.phi p hp) (fun z => rp.pnl p hp (by rw [z]; exact live))
  · rcases List.mem_cons.mp hp with e | hp
    · subst e
      rintro ⟨i, m, h1, _, _⟩
      exact rp.notIn hc (List.mem_of_getElem? h1)
    · exact rp.pnl p hp
end

section
variable {X : Cx} {pins : List (Addr × Obj)} {σ : L2.St} {H HZ : Hp} {s s1 : Shared}
theorem pe_actG {CXg : CXT} {Eg : XK} {Ng : List Str} {qg : Str} {sg : Scope} {g f c' : Addr} {cdg pm ctv : Value} {params : Arguments} {body : Expr} {scope : Scope} {k i : Nat} {a : Str} {pn : List (Addr × Obj)} {xe : Value → Shared → Prop} {W : WX} {E : XK} {tb : TE} {p1 p2 : Pos}
    (I : Inv X pins σ H s) (L : LamS X.env.scope scope) (hf : s.heap.get? f = some (PySem.W.kla_obj "<lambda>" (X.env.qual ++ "<lambda>") params body scope (cloFrom X.env.cells scope.names []) pm c' ctv)) (hfn : H f = none) (hfr : f ∉ frs X.stack)
    (hbind : bindArgs (PySem.W.kla_fn "<lambda>" (X.env.qual ++ "<lambda>") params body scope (cloFrom X.env.cells scope.names []) pm (.ref c') ctv) ⟨[], []⟩ = pure [])
    (tk : Takes ((cxOf CXg X.prog X.w X.K X.mg X.base Ng qg sg g cdg X.A X.stack s H Eg).tr pn xe) W) (hW : ∀ cls d σ' H', E cls d H' → W cls d σ' H') (hr : Room (k + 1) (X.A.deeper (envOfC qg sg s.heap.objs.size g cdg)))
    (hbody : ∀ (A : Around) (outer : List Env) (s : Shared) (H : Hp), A.guards = X.A.guards → Room k (A.deeper (lamEnv X scope s.heap.objs.size f c')) → PE (lamCx X A outer s H E scope f c') body tb)
    (hN : Ng[i]? = some a) (hv : Vis sg a) (hd : (a == ("__debug__" : Str)) = false := by decide) (hcd : (a == ("__classdict__" : Str)) = false := by decide) :
    PE ((cxOf CXg X.prog X.w X.K X.mg X.base Ng qg sg g cdg X.A X.stack s H Eg).tr pn xe) (.Call (.Name a p1) [] [] p2)
      (fun σZ HZ Q => σZ[i]? = some (some (.ref f)) ∧ HZ c' = some (CodeO c' (X.env.qual ++ "<lambda>")) ∧ tb σ HZ Q) := by
  refine ⟨fun pinsZ sZ σZ HZ Q IZ h => ?_⟩
  obtain ⟨hs, hc, ht⟩ := h
  refine wpAny_Call_Name_kw (thn ((pe_var (pos := p1) (i := i) hN hv hd hcd).run pinsZ sZ σZ HZ (fun v H1 => v = .ref f ∧ H1 = HZ) IZ ⟨.ref f, hs, rfl, rfl⟩) fun u s1 ⟨v, H1, I1, r1, q1⟩ => ?_)
  obtain ⟨ev, eH⟩ := q1
  subst ev
  rw [eH] at I1
  obtain rfl : u = Value.ref f := r1
  have of1 : s1.heap.get? f = some (PySem.W.kla_obj "<lambda>" (X.env.qual ++ "<lambda>") params body scope (cloFrom X.env.cells scope.names []) pm c' ctv) := I1.base.keep f _ hf hfn hfr (fun z => nomatch (show f ∈ ([] : List Addr) from z))
  refine PySem.W.callWith_F0 ⟨_, _, _, _, of1⟩ ?_
  have un : Un (frs X.stack) [] H HZ s.heap s1.heap := I1.base
  obtain ⟨⟨oc, vs, t, hoc, hdc, hvc⟩, _, _⟩ := I1.hok c' _ hc
  have rc : codeAny (model X.prog X.w) (X.A.deeper (envOfC qg sg s.heap.objs.size g cdg)) (.call (.ref f) ⟨[], []⟩) (CR (L2.CX X.prog X.w) (envOfC qg sg s.heap.objs.size g cdg :: X.stack) X.prog X.w HZ s1 Q E) s1 := by
    refine PySem.W.kla_callFunE hr.depth of1 rfl L.co L.gen rfl ⟨c', oc, vs, t, rfl, hoc, hdc, hvc⟩ ?_
    rw [hbind]
    refine wpAny_pure (wpAny_newFunctionEnv (fun y hy => (L.own y hy).2) (fun y hy => absurd hy (by simp)) (fun h₁ hns hsb => ⟨I1.nolimit.fresh _ hsb, ?_⟩) L.kind)
    show codeAny _ _ (.expr body (lamEnv X scope s1.heap.objs.size f c')) _ _
    have kp : ∀ b o, s1.heap.get? b = some o → h₁.get? b = some o := fun b o e => hsb.extBut b o (Nat.ne_of_lt (Heap.lt_size e)) (Heap.get?_push_of_some _ e)
    have J : Inv (lamCx X (X.A.deeper (envOfC qg sg s.heap.objs.size g cdg)) (envOfC qg sg s.heap.objs.size g cdg :: X.stack) s1 HZ E scope f c') [] σ HZ { s1 with heap := h₁, toks := s1.toks + ([] : List (Str × Value)).length } :=
      lam_start2 I L I1.env0 hr.hd un hns kp
    refine PySem.W.kla_codeExpr (wpAny_mono ((hbody (X.A.deeper (envOfC qg sg s.heap.objs.size g cdg)) _ s1 HZ rfl (hr.deeper _)).run [] _ _ HZ Q J ht) (fun v s' hq => ?_) fun e s' hq => hq)
    obtain ⟨w', H', J', rv, q⟩ := hq
    exact ⟨w', H', J'.os, J'.bare, J'.base, J'.hok, rv, q⟩
  have hx : Passes (L2.CX X.prog X.w) ((cxOf CXg X.prog X.w X.K X.mg X.base Ng qg sg g cdg X.A X.stack s H Eg).tr pn xe) E := passes_call tk hW
  refine wpAny_call (codeAny_mono rc fun r s' hq => ?_)
  cases r with
  | error e => exact hx pinsZ σZ HZ s1 e s' I1 hq
  | ok fl =>
    cases fl with
    | ret u => exact I1.after hq
    | next => exact False.elim hq
    | brk => exact False.elim hq
    | cont => exact False.elim hq
end
theorem Takes.len {X : Cx} {W : WX} (t : Takes X W) : Takes X (fun c d σ H => σ.length = X.N.length → W c d σ H) := fun u s' ⟨a, B, sI, pins, σ, H, cls, d, e, I, nb, up, sky, na, os, ag, w⟩ =>
  t u s' ⟨a, B, sI, pins, σ, H, cls, d, e, I, nb, up, sky, na, os, ag, w I.len⟩
theorem relS_none {K : PySem.W.Frag} {H : Hp} {G : Gh} : ∀ σ : L2.St, RelS K H G (List.replicate σ.length none) σ
  | [] => .nil
  | _ :: σ => .cons trivial (relS_none σ)

theorem Aft.anyS {K : PySem.W.Frag} {W : WX} {σ σ' : L2.St} {H : Hp} {G : Gh} {S S2 : Sto} {d : D} {n : Nat} {P : D → Hp → Gh → Sto → Prop} (h : Aft K W σ H G S (cutX n (.ok d S2)) P) : Aft K W σ' H G S (cutX n (.ok d S2)) P := by
  cases d with
  | p _ => exact h
  | ro _ => exact h
  | ext _ => exact h
  | ob i =>
    by_cases hi : i < n
    · rw [show cutX n (.ok (.ob i) S2) = .ok (.ob i) (S2.take n) from if_pos hi] at h ⊢
      exact h
    · rw [show cutX n (.ok (.ob i) S2) = .ok (.ob i) S2 from if_neg hi] at h ⊢
      exact h
/-- by data: the table P of the maker's code stands at j of the store; m slots of the def, e's slot is i -/
def metM (nm s0 : Str) (m i : Nat) (fe : Addr → Addr → FE) : Out D → Out D
  | .ok d S1 => mkTup [.p (.str s0), d] S1
  | .err x S1 => if x.nm = nm then (match exRet i fe x (List.replicate m none) S1 with
    | some (.ret d, S2) => .ok d S2
    | _ => .bad) else .bad
  | .bad => .bad
def eMet (P : Addr) (q : Str) (j : Nat) (nm s0 : Str) (m i : Nat) (fb : FE) (fe : Addr → Addr → FE) : FE := fun ρ S => match S[j]? with
  | some (.tab P' q') => if P' = P ∧ q' = q then cutX S.length (metM nm s0 m i fe (fb ρ S)) else .bad
  | _ => .bad
section
variable {X : Cx} {W : WX}
theorem de_met {x a n ex : Str} {g c P C : Addr} {k j i m : Nat} {pg : Arguments} {bg : List Stmt} {sg : Scope} {dV kV doc pm cdv ct oc : Value} {an od : Option Addr} {osl : Array (Option Value)} {Ng : List Str} {s0 q : Str} {fb : FE} {fe : Addr → Addr → FE} {e0 : Expr}
    {params : Arguments} {body : Expr} {scope : Scope} {p lpos pos p1 p2 p3 p4 p5 p6 p7 p8 np : Pos} {jj : Nat} {kk : Nat} (hg : Gl X x) (hm : X.mg x = some (.ref g)) (hk : PySem.W.keepIn X.K (.ref g) = true)
    (lk : X.K.lookup g = some ⟨oc, od, .func (PySem.W.fnOf x x pg bg sg dV kV doc pm an cdv ct), osl⟩) (hcg : PySem.W.codeIn X.K cdv x = true) (hb : L2.Binds X.K (PySem.W.fnOf x x pg bg sg dV kV doc pm an cdv ct) [a] []) (Sg : FnScope Ng [a] sg) (hm' : Ng.length = m) (hNg : Ng[0]? = some a) (hva : Vis sg a)
    (hbg : bg = [.Try [.Return (some (.Tuple [.Constant (.str s0) jj p1, .Call (.Name a p2) [] [] p3] kk p4)) p5] [.ExceptHandler (some (.Name ex np)) (some n) [.Return (some e0) p6] p7] [] [] p8])
    (hi : Ng[i]? = some n) (hln : sg.names.lookup n = some .local) (hgx : sg.names.lookup ex = some .globalImplicit) (hmx : X.mg ex = some (.ref C)) (hdx : (ex == ("__debug__" : Str)) = false) (hcl : clsOf X.K ex = .ref C) (hex : PySem.W.exmOne X.K (.ref C) (.ref C) = some true) (par : Par i fe)
    (hsu : ∀ (s : Shared) (H : Hp) (a : Addr) (oe : Obj) (dd : Addr) (pn : List (Addr × Obj)), Zc (.ref C) (some dd) oe → (∃ vs, oe.data = .fields vs) → DE ((cxOf L2.CX0 X.prog X.w X.K X.mg X.base Ng x sg g cdv X.A X.stack s H L2.E0).nox.suite a ((a, oe) :: pn)) W0 e0 (fe a dd))
    (TB : TabB X.base X.mg c P) (hcode : X.env.code = .ref c) (hq : q = X.env.qual ++ "<lambda>") (Cc : Ctx X W (k + 2)) (L : LamS X.env.scope scope) (hdef : defaultsOf params X.env = ([], []))
    (hbind : ∀ (q : Str) (cl : List (Str × Addr)) (pm cv ctv : Value), bindArgs (PySem.W.kla_fn "<lambda>" q params body scope cl pm cv ctv) ⟨[], []⟩ = pure [])
    (hbody : ∀ (A : Around) (outer : List Env) (s : Shared) (H : Hp) (E : XK) (f c' : Addr), Ctx (lamCx X A outer s H E scope f c') (WE E) k → DE (lamCx X A outer s H E scope f c') (WE E) body fb)
    (hdb : (x == ("__debug__" : Str)) = false := by decide) (hd : (a == ("__debug__" : Str)) = false := by decide) (hcd : (a == ("__classdict__" : Str)) = false := by decide) :
    DE X W (.Call (.Name x p) [.Lambda params body scope lpos] [] pos) (eMet P q j ex s0 m i fb fe) := by
  subst hm' hq
  refine ⟨⟨fun pins s σ H Q I h => ?_⟩⟩
  obtain ⟨G, S, ρ, rs, rp, h⟩ := h
  unfold eMet at h
  split at h
  case h_2 => exact h.elim
  rename_i P' q' hS
  by_cases hPq : P' = P ∧ q' = X.env.qual ++ "<lambda>"
  · rw [if_pos hPq] at h
    rw [hPq.1, hPq.2] at hS
    refine wpAny_Call_Name_kw (ld_glob I hg hm ?_ hdb)
    refine PySem.W.callWith_K (h₀ := X.base) I.ok.mod.kin hk ?_ (by rfl) (by rfl)
    show wpAny _ _ (spliced ((false, eval (.Lambda params body scope lpos) X.env) :: backTo pos (starEach [] X.env))) _ _ s
    obtain ⟨hι, ps, hP, ht, ha⟩ := tab_at rp hS
    refine Calls.spliced_cons (lam_made I TB hcode hP ht (fun pos cv hc => let ⟨c0, e1, e2⟩ := ha pos cv hc; ⟨c0, e1, rp.phi _ e2⟩) hdef (L.has I.ok) fun f c' pm' ctv H1 s' I1 hH hf hfn hfr hco => ?_)
    refine Calls.spliced_nil ⟨I1.kIn, ?_⟩
    obtain ⟨G1, x1, r1⟩ : ∃ G1, Ext H G S H1 G1 S ∧ Rep X.K H1 G1 S := by
      rcases hH with e | ⟨hn, e⟩
      · rw [e]; exact ⟨G, Ext.refl, rp⟩
      · rw [e]; exact ⟨_, tab_grow rp hS hP ht ha hn⟩
    have rs1 := x1.relS rp rs
    have rc : codeAny (model X.prog X.w) X.A (.call (.ref g) ⟨[.ref f], []⟩) (CR L2.CX0 X.stack X.prog X.w H1 s' Q L2.E0) s' := by
      refine run_ofS (N := Ng) (ps := [a]) (us := [.ref f]) (vs := [.ref f]) lk hcg Sg Cc.hr I1.env0 (by simpa using hb s' [.ref f] I1.kIn rfl) (.cons rfl .nil) rfl fun hr' => ?_
      have hgl : Gl (cxOf L2.CX0 X.prog X.w X.K X.mg X.base Ng x sg g cdv X.A X.stack s' H1 L2.E0).nox ex := hgx
      have key : ∃ t, PSs (cxOf L2.CX0 X.prog X.w X.K X.mg X.base Ng x sg g cdv X.A X.stack s' H1 L2.E0).nox bg t ∧ t { nx := fun _ H' => Q .non H', rt := Q } (L2.start Ng [.ref f]) H1 := by
        rw [hbg]
        refine ⟨_, pss_one (ps_try_as (X := (cxOf L2.CX0 X.prog X.w X.K X.mg X.base Ng x sg g cdv X.A X.stack s' H1 L2.E0).nox) (c := .ref C) (i := i) (ts := tsX X.K C fe) (Wout := fun _ _ _ _ => False)
          (tb := fun W' D σZ HZ => ∃ Ech : XK, (∀ cls d σ' H', Ech cls d H' → σ'.length = Ng.length → W' cls d σ' H') ∧ σZ[0]? = some (some (.ref f)) ∧ HZ c' = some (CodeO c' (X.env.qual ++ "<lambda>")) ∧ rd X.K (WE Ech) fb σ HZ fun v H' => ∀ p, H' p = none → D.rt (.ref p) (upd H' p (.tup [.str s0, v])))
          rfl rfl Sg.nd hi hln ⟨hgl, hdx, .inl hmx⟩ LamX.takes0 (fun W' pn xe tk _ => ?_) (suite_run (hsu s' H1))), ?_⟩
        · refine ⟨fun pinsZ sZ σZ HZ D IZ hZ => ?_⟩
          obtain ⟨Ech, hW, h1, h2, h3⟩ := hZ
          have hp := pe_actG (CXg := L2.CX0) (Eg := L2.E0) (p1 := p2) (p2 := p3) (i := 0) (tb := rd X.K (WE Ech) fb) I1 L hf hfn hfr (hbind _ _ _ _ _) (W := fun cls d σ H => σ.length = Ng.length → W' cls d σ H) (E := Ech) (Takes.len tk) hW hr'
            (fun A outer s H hgA hr2 => (hbody A outer s H Ech f c' ⟨hr2, hgA.trans Cc.hgd, takes_of rfl rfl rfl rfl⟩).run) hNg hva hd hcd
          have hq := pss_one (ps_ret (pos := p5) (pe_tup (x1 := kk) (pos := p4) (pa_cons (pe_str (x := s0) (j := jj) (pos := p1)) (pa_cons hp pa_nil))))
          exact hq.run pinsZ sZ σZ HZ D IZ ⟨h1, h2, by
            obtain ⟨Gz, Sz, ρz, a1, a2, a3⟩ := h3
            exact ⟨Gz, Sz, ρz, a1, a2, a3.mono fun d H' G' S' _ _ z v dv => ⟨by show 2 ≤ sizeLine; rw [sizeLine_eq]; omega, z v dv⟩⟩⟩
        · refine ⟨fun cls d H' => ∀ σ', σ'.length = Ng.length → wAs X.K (.ref C) i (tsX X.K C fe) (fun _ _ _ _ => False) { nx := fun _ H' => Q .non H', rt := Q } cls d σ' H', fun cls d σ' H' z hl => z σ' hl, ?_, hco, G1, S, ρ, rs1, r1, ?_⟩
          · have : (L2.start Ng [V.ref f])[0]? = some (some (V.ref f)) := rfl
            exact this
          · cases eo : fb ρ S with
            | bad => rw [eo] at h; exact h.elim
            | ok d S1 =>
              rw [eo] at h
              intro H2 G2 x2 r2 v dv p hp
              have h : Aft X.K W σ H G S (cutX S.length (mkTup [.p (.str s0), d] S1)) (QD X.K Q) := h
              cases d with
              | ob _ => exact h.elim
              | ro _ => exact h.elim
              | ext _ => exact h.elim
              | p y =>
                have e : mkTup [.p (.str s0), .p y] S1 = .ok (.p (.tuple [.str s0, y])) S1 := by unfold mkTup; simp [pys, LIM]
                rw [e] at h
                have h' : Aft X.K W [] H G S (cutX S.length (.ok (.p (.tuple [.str s0, y])) S1)) (QD X.K Q) := h
                have x3 := (x1.trans x2).trans (Ext.other (o := .tup [.str s0, v]) r2 hp)
                exact Aft.uncutX rp h' x3 (Rep.other r2 hp) (Dn.tup (SqT.of upd_same) (.cons (.str s0) (.cons ((Ext.other r2 hp).dn r2 dv) .nil)))
            | err y S1 =>
              rw [eo] at h
              intro H2 G2 d x2 r2 ey σ' hl
              have h : Aft X.K W σ H G S (cutX S.length (if y.nm = ex then (match exRet i fe y (List.replicate Ng.length none) S1 with
                | some (.ret d, S2) => .ok d S2
                | _ => .bad) else .bad)) (QD X.K Q) := h
              by_cases hy : y.nm = ex
              · rw [if_pos hy] at h
                refine wAs_of (ρ := List.replicate Ng.length none) hcl hex par hy ?_ (by rw [← hl]; exact relS_none σ') r2 ey
                cases er : exRet i fe y (List.replicate Ng.length none) S1 with
                | none => rw [er] at h; exact h.elim
                | some pr =>
                  obtain ⟨fl, S2⟩ := pr
                  rw [er] at h
                  cases fl with
                  | ret d2 =>
                    have h' : Aft X.K W [] H G S (cutX S.length (.ok d2 S2)) (QD X.K Q) := Aft.anyS h
                    exact fun H3 G3 v x3 r3 dv => Aft.uncutX rp h' ((x1.trans x2).trans x3) r3 dv
                  | next _ => exact h.elim
                  | brk _ => exact h.elim
                  | cont _ => exact h.elim
                  | exc _ _ => exact h.elim
              · rw [if_neg hy] at h; exact h.elim
      obtain ⟨t, h1, h2⟩ := key
      exact ⟨t, h1.nox, h2⟩
    refine wpAny_call (codeAny_mono rc fun r s2 hq => ?_)
    cases r with
    | error e => exact (show False from hq).elim
    | ok fl =>
      cases fl with
      | ret u => exact I1.after hq
      | next => exact False.elim hq
      | brk => exact False.elim hq
      | cont => exact False.elim hq
  · rw [if_neg hPq] at h; exact h.elim
end
end DL

namespace DL
open PySem L2 PySem.Spec PyProof.Rows LamX
theorem fnX_dataC {P : Program} {w : World} {K : PySem.W.Frag} {mg : Str → Option Value} {base : Heap} {x qual : Str} {st : Stmt} {f : Addr} {fd : FuncData} {N ps : List Str} {k m n : Nat} (F : Fun K x qual st f fd) (Sc : FnScope N ps (defScope st)) (hm : N.length = m) (hn : ps.length = n) (body : FS)
    (hb : ∀ (A : Around) (outer : List Env) (s : Shared) (H : Hp) (E : XK), Ctx (cxOf (L2.CX P w) P w K mg base N qual (defScope st) f fd.code A outer s H E) (WE E) k → Po (cxOf (L2.CX P w) P w K mg base N qual (defScope st) f fd.code A outer s H E) → DSs (cxOf (L2.CX P w) P w K mg base N qual (defScope st) f fd.code A outer s H E) (WE E) (defBody st) body) :
    FnX P w K mg base (k + 1) f fd ps (spX K n (runF m body)) := by
  subst hm hn
  obtain ⟨oc, od, kV, doc, pm, an, cdv, ct, osl, rfl, lk, hcd⟩ := F.ex
  refine ⟨fun vs H Q E ⟨G, S, ds, hl, dl, _⟩ => by rw [← dl.length]; exact hl, fun A outer s H args us vs Q E hr hgd e0 hbd r hsp => ?_⟩
  obtain ⟨G, S, ds, hl, dl, rp, q⟩ := hsp
  refine run_ofS lk hcd Sc hr e0 hbd r (by rw [← dl.length]; exact hl) fun hr' => ?_
  refine ⟨_, (hb A outer s H E ⟨hr', hgd, takes_of rfl rfl rfl rfl⟩ (passes_of rfl)).run, G, S, ds.map some ++ List.replicate (N.length - ds.length) none, ?_, rp, body_read rp q⟩
  rw [dl.length]
  exact RelS.ofArgs (N.length - vs.length) dl

theorem law_goXT {P : Program} {w : World} {K : PySem.W.Frag} {mg mb : Str → Option Value} {k : Nat} {fa a : Addr} {cs : List (Addr × Addr)} {fd : FuncData} {x : Str} {sp : Sp} {s₁ : Shared} {vs : List Value} {ns : List Int}
    (KX : K.In s₁.heap) (hns : s₁.heap.Ns mainGlobals mg) (hb : s₁.heap.Ns builtinsNs mb) (hbb : ∀ x : Str, x ≠ "__name__" → mb x = bootBuiltins x) (hlim : s₁.heap.NoLimit) (hg : s₁.gens = #[])
    (hT : ∀ p ∈ cs, s₁.heap.get? p.2 = some { cls := .none, data := .fields #[] }) (nT : ∀ p ∈ cs, K.lookup p.2 = none) (C : ∀ p ∈ cs, PySem.W.CodeHd s₁.heap p.1 p.2)
    (hbm : ∃ (bm : Addr) (ob : Obj), mg "__builtins__" = some (.ref bm) ∧ bm ≠ builtinsNs ∧ s₁.heap.get? bm = some ob ∧ ob.cls = .type "module" ∧ ob.dict = some builtinsNs ∧ ob.data = .plain)
    (ha : s₁.heap.get? a = some { cls := .type "list", data := .seq vs.toArray }) (hi : IntsAre vs ns) (hl : ns.length ≤ sizeLine) (hr : Room k callerA)
    (F : ∀ base : Heap, K.In base → base.Ns mainGlobals mg → (∀ p ∈ cs, TabB base mg p.1 p.2) → FnX P w K mg base k fa fd [x] sp) (hbind : ∀ (s : Shared) (u : Value), BindsTo s fd ⟨[u], []⟩ [(x, u)])
    (hsp : ∀ H : Hp, (∀ p ∈ cs, H p.2 = some (.tbl #[])) → SqL K H a (ns.map V.int) → (∀ p ∈ cs, p.2 ≠ a) → sp [.ref a] H (fun v _ => v = .bl true) fun _ _ _ => False) :
    codeAny (model P w) callerA (.call (.ref fa) ⟨[.ref a], []⟩) (fun r s' => r = .ok (.ret (.bool true)) ∧ OldK s₁.heap s'.heap ∧ s'.os = s₁.os ∧ AllBare s'.gens) s₁ := by
  have rv := vals_ints hi
  have lenV := hi.length
  have isT : ∀ b : Addr, b ∈ cs.map (·.2) → s₁.heap.get? b = some { cls := .none, data := .fields #[] } := fun b hb => by
    obtain ⟨p, hp, e⟩ := List.mem_map.mp hb
    rw [← e]
    exact hT p hp
  have aT : a ∉ cs.map (·.2) := fun z => by
    have q := isT a z
    rw [ha] at q
    have z' : Data.seq vs.toArray _ = Data.fields #[] := congrArg Obj.data (Option.some.inj q)
    cases z'
  have memT : ∀ p ∈ cs, p.2 ∈ cs.map (·.2) := fun p hp => List.mem_map.mpr ⟨p, hp, rfl⟩
  have neA : ∀ p ∈ cs, p.2 ≠ a := fun p hp z => aT (by rw [← z]; exact memT p hp)
  have core : ∀ H : Hp, (∀ p ∈ cs, H p.2 = some (.tbl #[])) → (∀ b, H b = none ∨ b ∈ cs.map (·.2) ∨ ∃ o xs, H b = some (.frz o (.lst xs))) → SqL K H a (ns.map V.int) → HOk P w H s₁.heap → (∀ b, H b ≠ none → b = a ∨ b ∈ cs.map (·.2)) → (H a ≠ none → K.lookup a = none) →
      codeAny (model P w) callerA (.call (.ref fa) ⟨[.ref a], []⟩) (fun r s' => r = .ok (.ret (.bool true)) ∧ OldK s₁.heap s'.heap ∧ s'.os = s₁.os ∧ AllBare s'.gens) s₁ := by
    intro H hH hO hS hok hA hK
    have base_of : ∀ {b : Addr} {o : Obj}, s₁.heap.get? b = some o → H b = none → (hidT s₁.heap H).get? b = some o := fun e n => hidT_get e n
    have noD : ∀ {b : Addr} {o : Obj}, s₁.heap.get? b = some o → (∀ vs n, o.data ≠ .seq vs n) → o.data ≠ .fields #[] → H b = none := fun {b o} e h1 h2 => by
      cases q : H b with
      | none => rfl
      | some u =>
        rcases hA b (by rw [q]; simp) with e' | e'
        · rw [e', ha] at e
          cases e
          exact (h1 _ _ rfl).elim
        · rw [isT b e'] at e
          cases e
          exact (h2 rfl).elim
    have noA : ∀ {b : Addr} {o : Obj} {es : Array DictEntry} {ep : Nat}, s₁.heap.get? b = some o → o.data = .dict es ep → H b = none := fun {b o es ep} e d =>
      noD e (fun vs n z => by rw [d] at z; cases z) fun z => by rw [d] at z; cases z
    have nsK : ∀ {b : Addr} {m : Str → Option Value}, s₁.heap.Ns b m → (hidT s₁.heap H).Ns b m := fun {b m} ⟨o, es, ep, e, d, r⟩ => ⟨o, es, ep, base_of e (noA e d), d, r⟩
    have hKb : K.In (hidT s₁.heap H) := fun b o e => base_of (KX b o e) (by
      cases q : H b with
      | none => rfl
      | some u =>
        rcases hA b (by rw [q]; simp) with e' | e'
        · rw [e'] at e q
          rw [hK (by rw [q]; simp)] at e
          cases e
        · obtain ⟨p, hp, ep⟩ := List.mem_map.mp e'
          rw [← ep, nT p hp] at e
          cases e)
    have hM : L2.Mod K mg (hidT s₁.heap H) := ⟨hKb, nsK hns, ⟨mb, nsK hb, hbb⟩, let ⟨mc, h1, h2⟩ := hlim; ⟨mc, nsK h1, h2⟩⟩
    have TB : ∀ p ∈ cs, TabB (hidT s₁.heap H) mg p.1 p.2 := fun p hp => by
      have hTp := hT p hp
      refine ⟨?_, ?_, fun z => ?_⟩
      · obtain ⟨o, us, file, tf, flags, tg, inF, text, tt, e1, r1, r2, r3, r4, r5, r6, r7, r8, hne⟩ := C p hp
        refine ⟨o, us, file, tf, flags, tg, inF, text, tt, base_of e1 (noD e1 (fun vs n z => ?_) fun z => ?_), r1, r2, r3, r4, r5, r6, r7, r8, hne⟩
        · rw [r2] at z
          cases z
        · rw [r2] at z
          cases z
          simp at r3
      · obtain ⟨bm, ob, b1, b2, b3, b4, b5, b6⟩ := hbm
        have nG : bm ≠ mainGlobals := fun q => by
          obtain ⟨o, es, ep, e, hd, _⟩ := hns
          rw [q, e] at b3
          cases b3
          rw [hd] at b6
          cases b6
        have nP : bm ≠ p.2 := fun q => by
          rw [q, hTp] at b3
          cases b3
          cases b6
        exact ⟨bm, ob, b1, b2, nG, nP, base_of b3 (noD b3 (fun vs n z => by rw [b6] at z; cases z) fun z => by rw [b6] at z; cases z), b4, b5, b6⟩
      · obtain ⟨o, es, ep, e, hd, _⟩ := hns
        rw [z, hTp] at e
        cases e
        cases hd
    have e0 : Env0 P w K mg (hidT s₁.heap H) callerA [] s₁ H := ⟨rfl, hM, fun b o e => of_hidT e, Nat.le_of_eq (hidT_size _ _), trivial, fun b hb => absurd (show b ∈ ([] : List Addr) from hb) (by simp), hok, .of_eq hg⟩
    refine codeAny_mono ((F _ hKb (nsK hns) TB).run callerA [] s₁ H ⟨[.ref a], []⟩ [.ref a] [.ref a] _ _ hr rfl e0 (hbind s₁ (.ref a)) (.cons rfl .nil) (hsp H hH hS neA)) fun r s' h => ?_
    match r, h with
    | .error e, h =>
      obtain ⟨_, _, _, _, _, _, _, _, _, _, _, _, z⟩ := (show L2.CX P w [] H s₁ (fun _ _ _ => False) e s' from h)
      exact z.elim
    | .ok .next, h => exact False.elim h
    | .ok .brk, h => exact False.elim h
    | .ok .cont, h => exact False.elim h
    | .ok (.ret u), h =>
      obtain ⟨v, H', os, bare, un, hok', r', q⟩ := h
      have q' : v = .bl true := q
      subst q'
      obtain rfl : u = Value.bool true := r'
      have key : ∀ b o, b ∉ cs.map (·.2) → s₁.heap.get? b = some o → s'.heap.get? b = some o := fun b o nb e => by
        rcases hO b with z | z | ⟨ob, xs, z⟩
        · exact un.keep b o e z (fun y => absurd (show b ∈ ([] : List Addr) from y) (by simp)) (by simp)
        · exact absurd z nb
        · obtain ⟨e1, _⟩ := hok b _ z
          obtain ⟨e2, _⟩ := hok' b _ (un.frzs b ob _ z)
          rw [e] at e1; cases e1
          exact e2
      have grown : ∀ p ∈ cs, ∃ more : Array Value, s'.heap.get? p.2 = some { cls := .none, data := .fields more } := fun p hp => by
        obtain ⟨more, z⟩ := un.tbls p.2 #[] (hH p hp)
        exact ⟨_, hok' p.2 _ z⟩
      refine ⟨rfl, ⟨fun b o e => ?_, fun b o e => ?_⟩, os, bare⟩
      · by_cases hb : b ∈ cs.map (·.2)
        · obtain ⟨p, hp, ep⟩ := List.mem_map.mp hb
          obtain ⟨more, hm⟩ := grown p hp
          rw [← ep] at e ⊢
          rw [hT p hp] at e
          cases e
          exact .inr (.inl ⟨((C p hp).tab (hT p hp)).isCodeTable, rfl, #[], more, rfl, by rw [Array.empty_append]; exact hm⟩)
        · exact .inl (key b o hb e)
      · by_cases hb : b ∈ cs.map (·.2)
        · obtain ⟨p, hp, ep⟩ := List.mem_map.mp hb
          obtain ⟨more, hm⟩ := grown p hp
          rw [← ep]
          exact ⟨_, hm⟩
        · exact ⟨o, key b o hb e⟩
  cases hk : K.lookup a with
  | some o =>
    have e := KX a o hk
    rw [ha] at e
    cases e
    refine core (fun b => if b ∈ cs.map (·.2) then some (.tbl #[]) else none) (fun p hp => if_pos (memT p hp)) (fun b => ?_) (.inr ⟨_, vs.toArray, _, hk, rfl, rfl, rfl, by rw [List.size_toArray, lenV]; exact hl, by simpa using rv⟩) (fun b u z => ?_) (fun b z => ?_) fun z => absurd (show (if a ∈ cs.map (·.2) then some (HO.tbl #[]) else none) = none from if_neg aT) z
    · by_cases hb : b ∈ cs.map (·.2)
      · exact .inr (.inl hb)
      · exact .inl (if_neg hb)
    · by_cases hb : b ∈ cs.map (·.2)
      · have z' := (if_pos hb).symm.trans z
        cases z'
        exact isT b hb
      · have z' := (if_neg hb).symm.trans z
        cases z'
    · by_cases hb : b ∈ cs.map (·.2)
      · exact .inr hb
      · exact absurd (if_neg hb) z
  | none =>
    refine core (fun b => if b = a then some (.frz { cls := .type "list", data := .seq vs.toArray } (.lst (ns.map V.int))) else if b ∈ cs.map (·.2) then some (.tbl #[]) else none) (fun p hp => (if_neg (neA p hp)).trans (if_pos (memT p hp))) (fun b => ?_)
      (.inl (.inr ⟨{ cls := .type "list", data := .seq vs.toArray }, if_pos rfl⟩)) (fun b u z => ?_) (fun b z => ?_) fun _ => hk
    · by_cases hb : b = a
      · exact .inr (.inr ⟨_, _, if_pos hb⟩)
      · by_cases hb2 : b ∈ cs.map (·.2)
        · exact .inr (.inl hb2)
        · exact .inl ((if_neg hb).trans (if_neg hb2))
    · by_cases hb : b = a
      · have z' := (if_pos hb).symm.trans z
        cases z'
        rw [hb]
        exact ⟨ha, by rw [List.length_map]; exact hl, vs, _, rv, ha⟩
      · have z1 := (if_neg hb).symm.trans z
        by_cases hb2 : b ∈ cs.map (·.2)
        · have z' := (if_pos hb2).symm.trans z1
          cases z'
          exact isT b hb2
        · have z' := (if_neg hb2).symm.trans z1
          cases z'
    · by_cases hb : b = a
      · exact .inl hb
      · by_cases hb2 : b ∈ cs.map (·.2)
        · exact .inr hb2
        · exact absurd ((if_neg hb).trans (if_neg hb2)) z
/-- the store at the law's beginning: its tables -/
def tabSto (ts : List (Addr × Str)) : Sto := ts.map fun p => .tab p.1 p.2
theorem law_spXT {K : PySem.W.Frag} {g : List D → M D} {ns : List Int} {a : Addr} {H : Hp} {ts : List (Addr × Str)} (h : ∃ S', g [.ro (nums ns)] (tabSto ts) = .ok (.p (.bool true)) S') (hnd : (ts.map (·.1)).Nodup) (hH : ∀ p ∈ ts, H p.1 = some (.tbl #[])) (hne : ∀ p ∈ ts, p.1 ≠ a) (hS : SqL K H a (ns.map V.int)) :
    spX K 1 g [.ref a] H (fun v _ => v = .bl true) fun _ _ _ => False := by
  obtain ⟨S', e⟩ := h
  have fin : ∀ (φ : List (Addr × HO)), Holds φ H → (∀ p ∈ φ, p.1 = a) → RL K φ a (ns.map V.int) → spX K 1 g [.ref a] H (fun v _ => v = .bl true) fun _ _ _ => False := fun φ hφ hpa hr => by
    refine ⟨⟨ts.map (·.1), φ⟩, tabSto ts, [.ro (nums ns)], rfl, .cons ⟨a, _, rfl, hr, nums_dn ns⟩ .nil, ⟨by simp [tabSto], hnd, fun i b o h1 h2 => ?_, hφ, fun p hp l => ?_⟩, ?_⟩
    · have h1 : (ts.map (·.1))[i]? = some b := h1
      rw [List.getElem?_map] at h1
      have h2 : (ts.map fun p => MO.tab p.1 p.2)[i]? = some o := h2
      rw [List.getElem?_map] at h2
      cases ei : ts[i]? with
      | none => rw [ei] at h1; cases h1
      | some q =>
        rw [ei] at h1 h2
        cases h1; cases h2
        exact ⟨rfl, #[], hH q (List.mem_of_getElem? ei), True.intro, fun pos cv hc => by simp [codeAmong] at hc⟩
    · obtain ⟨i, o, h1, _⟩ := l
      have h1 : (ts.map (·.1))[i]? = some p.1 := h1
      obtain ⟨q, hq, e⟩ := List.mem_map.mp (List.mem_of_getElem? h1)
      exact hne q hq (e.trans (hpa p hp))
    · rw [e]
      exact fun H' G' x r v dv => den_bool dv
  rcases hS with (h | ⟨o, h⟩) | h
  · exact fin [(a, .lst (ns.map V.int))] (fun p hp => by obtain rfl := List.mem_singleton.mp hp; exact h) (fun p hp => by obtain rfl := List.mem_singleton.mp hp; rfl) fun H' q => SqL.of (q _ (List.mem_singleton.mpr rfl))
  · exact fin [(a, .frz o (.lst (ns.map V.int)))] (fun p hp => by obtain rfl := List.mem_singleton.mp hp; exact h) (fun p hp => by obtain rfl := List.mem_singleton.mp hp; rfl) fun H' q => .inl (.inr ⟨o, q _ (List.mem_singleton.mpr rfl)⟩)
  · exact fin [] (fun p hp => by cases hp) (fun p hp => by cases hp) fun H' _ => .inr h
/-- one table: the law's own -/
theorem walkX_dataT {l : PySem.W.OpenLaw} {k : Nat} {q : Program} {loose : List Str} {XP : (Str → Option Value) → Heap → Prop} {YP : World → Heap → Prop} {d : DefRec} {K : Params → PySem.W.Frag} {x qn : Str} {g : Addr → List D → M D}
    (hn : l.most = some 63) (hdf : d.params.defaults = []) (hr : Room k callerA) (hrec : ((recsOf q).any fun e => e.name == d.name) = true) (hY : ∀ (w : World) (h : Heap), YP w h → (K w.params).In h)
    (F : ∀ (w : World) (mg : Str → Option Value) (fa : Addr) (h : Heap), (K w.params).In h → h.Ns mainGlobals mg → mg d.name = some (.ref fa) →
      ∃ (fd : FuncData) (c P : Addr) (o : Obj) (e : Value) (dd : Option Addr) (vs : Array Value) (sl : Array (Option Value)), (K w.params).lookup fa = some o ∧ o.data = .func fd ∧ fd.code = .ref c ∧ (K w.params).lookup c = some ⟨e, dd, .fields vs, sl⟩ ∧ vs[11]? = some (.ref P) ∧
        (K w.params).lookup P = none ∧ PySem.W.codeHdIn (K w.params) c P = true ∧ (∀ (s : Shared) (u : Value), BindsTo s fd ⟨[u], []⟩ [(x, u)]) ∧ ∀ base : Heap, (K w.params).In base → base.Ns mainGlobals mg → TabB base mg c P → FnX l.prog w (K w.params) mg base k fa fd [x] (spX (K w.params) 1 (g P)))
    (hg : ∀ (P : Addr) (ns : List Int), ns.length ≤ 63 → ∃ S', g P [.ro (nums ns)] [.tab P qn] = .ok (.p (.bool true)) S') : PySem.W.WalkO q loose XP YP l.row.toRowW d [] (fun f vs => PySem.call f vs) := by
  refine Att.attach_callB hn hdf fun w s₀ s₁ mg mb fa o pm cd doc a vs ns G Y ho hd hcd hmg hobj hints hlen hbits hgn => ?_
  have KX := hY w _ Y
  obtain ⟨fd, c, P, o1, e, dd, vs1, sl, k1, k2, k3, k4, k5, k6, k7, hb, hF⟩ := F w mg fa _ KX G.T.g hmg
  have hP : s₁.heap.get? P = some { cls := .none, data := .fields #[] } := by
    obtain ⟨dL, hm, hn1⟩ := List.any_eq_true.mp hrec
    have hn2 : dL.name = d.name := beq_iff_eq.mp hn1
    obtain ⟨a', o', fd', c', P', h1, h2, h3, h4, h5, h6⟩ := G.T.tab dL hm
    rw [hn2, hmg] at h1
    cases h1
    have g1 := KX _ _ k1
    rw [g1] at h2
    cases h2
    rw [k2] at h3
    cases h3
    rw [k3] at h4
    cases h4
    obtain ⟨⟨oc, vc, e1, _, e3, e4⟩, hP⟩ := h6
    have g2 := KX _ _ k4
    rw [g2] at e1
    cases e1
    cases e3
    rw [k5] at e4
    cases e4
    exact hP
  refine law_goXT (cs := [(c, P)]) KX G.T.g G.T.b G.T.builtins G.T.nolimit hgn (fun p hp => by obtain rfl := List.mem_singleton.mp hp; exact hP) (fun p hp => by obtain rfl := List.mem_singleton.mp hp; exact k6) (fun p hp => by obtain rfl := List.mem_singleton.mp hp; exact PySem.W.codeHd_of_K KX k7) G.T.bmain hobj hints (Nat.le_trans hlen (by decide)) hr
    (fun base h1 h2 h3 => hF base h1 h2 (h3 _ (List.mem_singleton.mpr rfl))) hb fun H hH hS hne => law_spXT (ts := [(P, qn)]) (hg P ns hlen) (by simp) (fun p hp => by obtain rfl := List.mem_singleton.mp hp; exact hH (c, P) (List.mem_singleton.mpr rfl)) (fun p hp => by obtain rfl := List.mem_singleton.mp hp; exact hne (c, P) (List.mem_singleton.mpr rfl)) hS
end DL

namespace DL
open PySem L2 PySem.Spec PyProof.Rows
theorem gives_down {K : PySem.W.Frag} {H : Hp} {G : Gh} {S : Sto} {lo c : Int} {n : Nat} : Gives K (Itc lo c n) H G S ((List.range n).map fun i : Nat => D.p (.int (lo + (i : Int) * c))) where
  go := fun H1 G1 S1 x r i hi => by simpa [Itc] using hi
  yld := fun H1 G1 S1 x r i d e v H' y => by
    obtain ⟨e1, e2⟩ := y
    subst e1 e2
    rw [List.getElem?_map] at e
    by_cases hi : i < n
    · rw [List.getElem?_range hi] at e
      cases e
      exact ⟨Ext.refl, r, .int _, .inl rfl⟩
    · rw [List.getElem?_eq_none (by simpa using hi)] at e; cases e
  stop := fun H1 G1 S1 x r => by simp [Itc]
def rangeDM : List D → M (List D) := fun ds S => match ds with
  | [.p (.int i), .p (.int j), .p (.int c)] => if c = -1 ∧ -1000000 ≤ i ∧ i ≤ 1000000 ∧ -1000000 ≤ j ∧ j ≤ 1000000 then .ok ((List.range (i - j).toNat).map fun k : Nat => D.p (.int (i + (k : Int) * -1))) S else .bad
  | _ => .bad
section
variable {X : Cx} {W : WX} {a b c tg : Expr} {p pos : Pos}
theorem di_rangeD {fa : FA} (hg : Gl X "range") (hm : X.mg "range" = none) (ha : DA X W [a, b, c] fa)
    (hs : starEach [a, b, c] X.env = (false, eval a X.env) :: starEach [b, c] X.env := by rfl) (hpl : (backTo pos (starEach [b, c] X.env)).any (·.1) = false := by rfl) : DI X W tg (.Call (.Name "range" p) [a, b, c] [] pos) (fun ρ S => (fa ρ S).bind rangeDM) := by
  refine ⟨PI.imp (pi_range3 hg hm ha.run hs hpl) fun σ H R ⟨G, S, ρ, rs, rp, q⟩ => ⟨G, S, ρ, rs, rp, (Aft.bind q).mono fun ds H1 G1 S1 x1 r1 q1 vs dv => ?_⟩⟩
  unfold rangeDM at q1
  split at q1
  · rename_i i j k
    cases dv with
    | cons d1 t =>
      cases t with
      | cons d2 t =>
        cases t with
        | cons d3 t =>
          cases t
          obtain rfl := den_int d1
          obtain rfl := den_int d2
          obtain rfl := den_int d3
          by_cases hj : k = -1 ∧ -1000000 ≤ i ∧ i ≤ 1000000 ∧ -1000000 ≤ j ∧ j ≤ 1000000
          · rw [if_pos hj] at q1
            obtain ⟨rfl, h1, h2, h3, h4⟩ := hj
            exact ⟨i, j, -1, _, rfl, RgC.neg (by omega) (by omega) (by omega) (by omega), q1 H1 G1 Ext.refl r1 _ gives_down⟩
          · rw [if_neg hj] at q1; exact q1.elim
  · exact q1.elim
end
end DL

namespace DL
open PySem L2 PySem.Spec PyProof.Rows LamX
structure XAll (K : PySem.W.Frag) (mg : Str → Option Value) (x : Str) (B newId initId : String) (f y : Str) (st : Stmt) (C fI : Addr) (fd : FuncData) : Prop where
  cls : XCls K C newId (bmOf B) f
  hcl : clsOf K x = .ref C
  m : mg x = some (.ref C)
  iC : PySem.W.findIn K (.ref C) "__init__" = some (some (.ref fI))
  tI : PySem.W.typeIn K (.ref fI) = some (.type "function")
  fn : Fun K "__init__" (x ++ ".__init__") st fI fd
  b : Binds K fd ["self", y] []
  mB : mg (B : Str) = none
  vV : PySem.W.findCls K (.type B) (.type "type") "__init__" = some (.val (.builtin initId))
  xf : XfC K C
  ex : ExcC K C
  em : PySem.W.exmOne K (.ref C) (.ref C) = some true
theorem clsOf_of {K : PySem.W.Frag} {x : Str} {v : Value} (h : PySem.W.nsIn K mainGlobals x = some (some v)) : clsOf K x = v := by unfold clsOf; rw [h]; rfl
section
variable {X : Cx} {W : WX}
theorem de_metF {x a n ex : Str} {g c P C : Addr} {k j i m : Nat} {st : Stmt} {fd : FuncData} {Ng : List Str} {s0 q : Str} {fb : FE} {fe : Addr → Addr → FE} {e0 : Expr}
    {params : Arguments} {body : Expr} {scope : Scope} {p lpos pos p1 p2 p3 p4 p5 p6 p7 p8 np : Pos} {jj : Nat} {kk : Nat} (F : Fun X.K x x st g fd) (hg : Gl X x) (hm : X.mg x = some (.ref g)) (hb : L2.Binds X.K fd [a] []) (Sg : FnScope Ng [a] (defScope st)) (hm' : Ng.length = m) (hNg : Ng[0]? = some a) (hva : Vis (defScope st) a)
    (hbg : defBody st = [.Try [.Return (some (.Tuple [.Constant (.str s0) jj p1, .Call (.Name a p2) [] [] p3] kk p4)) p5] [.ExceptHandler (some (.Name ex np)) (some n) [.Return (some e0) p6] p7] [] [] p8])
    (hi : Ng[i]? = some n) (hln : (defScope st).names.lookup n = some .local) (hgx : (defScope st).names.lookup ex = some .globalImplicit) (hmx : X.mg ex = some (.ref C)) (hdx : (ex == ("__debug__" : Str)) = false) (hcl : clsOf X.K ex = .ref C) (hex : PySem.W.exmOne X.K (.ref C) (.ref C) = some true) (par : Par i fe)
    (hsu : ∀ (cdv : Value) (s : Shared) (H : Hp) (a : Addr) (oe : Obj) (dd : Addr) (pn : List (Addr × Obj)), Zc (.ref C) (some dd) oe → (∃ vs, oe.data = .fields vs) → DE ((cxOf L2.CX0 X.prog X.w X.K X.mg X.base Ng x (defScope st) g cdv X.A X.stack s H L2.E0).nox.suite a ((a, oe) :: pn)) W0 e0 (fe a dd))
    (TB : TabB X.base X.mg c P) (hcode : X.env.code = .ref c) (hq : q = X.env.qual ++ "<lambda>") (Cc : Ctx X W (k + 2)) (L : LamS X.env.scope scope) (hdef : defaultsOf params X.env = ([], []))
    (hbind : ∀ (q : Str) (cl : List (Str × Addr)) (pm cv ctv : Value), bindArgs (PySem.W.kla_fn "<lambda>" q params body scope cl pm cv ctv) ⟨[], []⟩ = pure [])
    (hbody : ∀ (A : Around) (outer : List Env) (s : Shared) (H : Hp) (E : XK) (f c' : Addr), Ctx (lamCx X A outer s H E scope f c') (WE E) k → DE (lamCx X A outer s H E scope f c') (WE E) body fb)
    (hdb : (x == ("__debug__" : Str)) = false := by decide) (hd : (a == ("__debug__" : Str)) = false := by decide) (hcd : (a == ("__classdict__" : Str)) = false := by decide) :
    DE X W (.Call (.Name x p) [.Lambda params body scope lpos] [] pos) (eMet P q j ex s0 m i fb fe) := by
  have kp := F.kp
  obtain ⟨oc, od, kV, doc, pm, an, cdv, ct, osl, rfl, lk, hcd'⟩ := F.ex
  exact de_met hg hm kp lk hcd' hb Sg hm' hNg hva hbg hi hln hgx hmx hdx hcl hex par (hsu cdv) TB hcode hq Cc L hdef hbind hbody hdb hd hcd
end
end DL

namespace DL
open PySem L2
theorem eXf_par {a dd : Addr} {i : Nat} {f : Str} {x : Exn} {ρ : Ev} {S : Sto} : eXf a dd i f (ρ.set i (some (xn a dd x))) S = eXf 0 0 i f (ρ.set i (some (xn 0 0 x))) S := by
  unfold eXf
  by_cases h : i < ρ.length
  · simp only [List.getElem?_set_self h]
    rcases x with ⟨nm, _ | _ | ⟨p, _ | _⟩⟩ <;> simp
  · have e1 : (ρ.set i (some (xn a dd x)))[i]? = none := List.getElem?_eq_none (by simpa using h)
    have e2 : (ρ.set i (some (xn 0 0 x)))[i]? = none := List.getElem?_eq_none (by simpa using h)
    rw [e1, e2]
theorem eXi_par {a dd : Addr} {i : Nat} {b : Bool} {x : Exn} {ρ : Ev} {S : Sto} : eXi a dd i b (ρ.set i (some (xn a dd x))) S = eXi 0 0 i b (ρ.set i (some (xn 0 0 x))) S := by
  unfold eXi
  by_cases h : i < ρ.length
  · simp only [List.getElem?_set_self h]
    rcases x with ⟨nm, _ | _ | ⟨p, _ | _⟩⟩ <;> simp
  · have e1 : (ρ.set i (some (xn a dd x)))[i]? = none := List.getElem?_eq_none (by simpa using h)
    have e2 : (ρ.set i (some (xn 0 0 x)))[i]? = none := List.getElem?_eq_none (by simpa using h)
    rw [e1, e2]
theorem kit_of {K : PySem.W.Frag} {C : Addr} {B : String} (hT : PySem.W.kitMeta B = true) (hs : PySem.W.subIn K (.ref C) (.type B) = some true) : PySem.W.kitOne K (.ref C) (.type B) = some true := by
  unfold PySem.W.kitOne PySem.W.kitCls
  rw [if_neg (by simp)]
  dsimp only
  rw [if_pos hT]
  exact hs
def chkCode (vs : Array Value) (c P : Addr) : Bool := (match (vs[11]? : Option Value) with | some (.ref P') => P' == P | _ => false) &&
      (match vs.getD 18 .none with | .str _ _ => true | _ => false) && (match vs.getD 7 .none with | .int _ _ => true | _ => false) &&
      (match vs.getD 9 .none with | .bool _ => true | _ => false) && (match vs.getD 10 .none with | .int _ _ => true | _ => false) && c != P
theorem codeHd_mk {K : PySem.W.Frag} {c P : Addr} {dd : Option Addr} {vs : Array Value} {sl : Array (Option Value)} (hl : K.lookup c = some ⟨.type "code", dd, .fields vs, sl⟩) (h : chkCode vs c P = true) : PySem.W.codeHdIn K c P = true := by
  unfold PySem.W.codeHdIn
  rw [hl]
  exact h
end DL

namespace DL
open PySem L2

def drawA3 (c : DrC) : FS := (sSeq (sAsgs (aCons (e2 opSubs (eVar 0) (eC (.p (.str "place")))) (aCons (e2 opSubs (eVar 0) (eC (.p (.str "cells")))) aNil)) (gConss (gN 3) (gConss (gN 4) gNils)))
    (sSeq (sAsgs (aCons (e2 opSubs (eVar 4) (e2 opMod (eA intM (aCons (eVar 3) aNil)) (eA lenM (aCons (eVar 4) aNil)))) (aCons (e2 opAdd (eVar 3) (eC (.p (.int 1)))) aNil)) (gConss (gN 5) (gConss (gSubD (eVar 0) (eC (.p (.str "place")))) gNils)))
    (sSeq (sAsg (e2 opMod (eA intM (aCons (e2 opPow (e2 opAdd (e2 opAdd (e2 opMod (eA intM (aCons (eVar 5) aNil)) (eC (.p (.int c.q)))) (e2 opMulX (eC (.p (.int c.a))) (eVar 3))) (eC (.p (.int c.b)))) (eC (.p (.int c.e)))) aNil)) (e2 opAdd (e2 opPow (eC (.p (.int 10))) (eC (.p (.int c.t)))) (eC (.p (.int c.z))))) (gSubD (eVar 0) (eC (.p (.str "left")))))
    (sIf (tAndD (tC2 (opGe) (eVar 5) (e2 opPow (eC (.p (.int 10))) (eC (.p (.int 18))))) (tC2 (opLt) (eVar 3) (eA lenM (aCons (eVar 4) aNil)))) (sAsg (e2 opSub (eVar 5) (e2 opPow (eC (.p (.int 10))) (eC (.p (.int 18))))) (gSubD (eVar 0) (eC (.p (.str "left"))))) sNext))))
def drawB3 (c : DrC) : FS := (sSeq (sIf (tC2 (opLt) (e2 opSubs (eVar 0) (eC (.p (.str "left")))) (eVar 1)) (drawA3 c) sNext)
    (sSeq (sAsgs (aCons (e2 opMod (eA intM (aCons (e2 opSubs (eVar 0) (eC (.p (.str "left")))) aNil)) (eVar 1)) (aCons (e2 opDivX (e2 opSubs (eVar 0) (eC (.p (.str "left")))) (eVar 1)) aNil)) (gConss (gN 2) (gConss (gSubD (eVar 0) (eC (.p (.str "left")))) gNils)))
    (sRet (eVar 2))))
theorem drawA3_ok {c : DrC} (hc0 : c.ok) {cs : List PyData} {p l m : Int} {S : Sto} {i : Nat} (hc : ∀ d ∈ cs, ∃ z, d = .int z) (hne : cs ≠ []) (h : S[i]? = some (.dic (tpd cs p l))) (hp : 0 ≤ p) (hp2 : p ≤ 1000000000000) :
    ∃ x y z l', drawA3 c [some (.ob i), some (.p (.int m)), none, none, none, none] S = some (.next [some (.ob i), some (.p (.int m)), none, x, y, z], S.set i (.dic (tpd cs (p + 1) l'))) := by
  obtain ⟨h1, h2, h3, h4, h5, h6, h7, h8, h9, h10, h11⟩ := hc0
  have hl : 0 < cs.length := List.length_pos_iff.mpr hne
  obtain ⟨d, e1, hd⟩ := atI_ok (xs := cs) (i := p % (cs.length : Int)) (Int.emod_nonneg _ (by omega)) (Int.emod_lt_of_pos _ (by omega))
  obtain ⟨z, rfl⟩ := hc d hd
  have hS1 := tp_at (o := .dic (tpd cs (p + 1) l)) h
  have hap : c.a * p ≤ 100000 * 1000000000000 := Int.mul_le_mul h4 hp2 hp (by decide)
  have hap0 : 0 ≤ c.a * p := Int.mul_nonneg h3 hp
  have hb : (z % c.q + c.a * p + c.b).natAbs < 2 ^ 64 := by
    have a1 := Int.emod_nonneg z (show c.q ≠ 0 by omega)
    have a2 := Int.emod_lt_of_pos z h1
    have : (2 : Nat) ^ 64 = 18446744073709551616 := by decide
    omega
  have hz : (0 : Int) < 10 ^ c.t.toNat + c.z := by
    have : (0 : Int) < 10 ^ c.t.toNat := Int.pow_pos (by decide)
    omega
  have hlg : c.a.natAbs.log2 + p.natAbs.log2 < 1000000 := by
    have a1 := lg (n := c.a.natAbs) (k := 40) (by have : (2 : Nat) ^ 40 = 1099511627776 := by decide
                                                  omega) (by decide)
    have a2 := lg (n := p.natAbs) (k := 41) (by have : (2 : Nat) ^ 41 = 2199023255552 := by decide
                                                omega) (by decide)
    omega
  have k1 := fun S => opMod_i (i := z) (S := S) h1
  have k2 := fun S => opMulX_i (S := S) hlg
  have k3 := fun S => opPow_i (S := S) h7 (show c.e ≤ 1000000 by omega) hb
  have k4 := fun S => opPow_i (S := S) h9 (show c.t ≤ 1000000 by omega) (show (10 : Int).natAbs < 2 ^ 64 by decide)
  have k5 := fun x S => opMod_i (i := x) (S := S) hz
  have k6 := fun S => opPow_i (i := 10) (S := S) (show (0 : Int) ≤ 18 by decide) (by decide) (show (10 : Int).natAbs < 2 ^ 64 by decide)
  have hS2 : ∀ l2, (List.set S i (.dic (tpd cs (p + 1) l2)))[i]? = some (.dic (tpd cs (p + 1) l2)) := fun l2 => tp_at h
  unfold drawA3
  simp only [sSeq_, sAsgs_, aCons_, aNil_, e2_, eVarS, eVar0, eC_, Out.bind_ok, tp_place h, eA_, tp_cells h, lenM_l, st_ok, gConss_, gN_, gNils_, List.set_cons_succ, List.set_cons_zero, intM_i, opMod_i (show (0 : Int) < (cs.length : Int) by omega), subs_l e1, opAdd_i, gSubD_, tp_setP h, sAsg_, k1, k2, k3, k4, k5, tp_setL hS1, List.set_set]
  by_cases c1 : (10 : Int) ^ (18 : Int).toNat ≤ z
  · by_cases c2 : p < (cs.length : Int)
    · simp only [sIf_, tAnd_, tC2_, e2_, eA_, aCons_, aNil_, lenM_l, eVarS, eVar0, eC_, Out.bind_ok, k6, opGe_i, c1, decide_true, if_true, opLt_i, c2, st_ok, sAsg_, opSub_i, gSubD_, tp_setL (hS2 _), List.set_set]
      exact ⟨_, _, _, _, rfl⟩
    · simp only [sIf_, tAnd_, tC2_, e2_, eA_, aCons_, aNil_, lenM_l, eVarS, eVar0, eC_, Out.bind_ok, k6, opGe_i, c1, decide_true, if_true, opLt_i, c2, decide_false, Bool.false_eq_true, if_false, st_ok, sNext_]
      exact ⟨_, _, _, _, rfl⟩
  · simp only [sIf_, tAnd_, tC2_, e2_, eA_, aCons_, aNil_, lenM_l, eVarS, eVar0, eC_, Out.bind_ok, k6, opGe_i, c1, decide_false, Bool.false_eq_true, if_false, st_ok, sNext_]
    exact ⟨_, _, _, _, rfl⟩
theorem drawB3_ok {c : DrC} (hc0 : c.ok) {cs : List PyData} {p l m : Int} {S : Sto} {i : Nat} (hc : ∀ d ∈ cs, ∃ z, d = .int z) (hne : cs ≠ []) (h : S[i]? = some (.dic (tpd cs p l))) (hp : 0 ≤ p) (hp2 : p ≤ 1000000000000) (hm : 0 < m) (hm2 : m.natAbs.log2 < 9000) :
    ∃ g p' l', 0 ≤ g ∧ g < m ∧ 0 ≤ p' ∧ p' ≤ p + 1 ∧ runF 6 (drawB3 c) [.ob i, .p (.int m)] S = .ok (.p (.int g)) (S.set i (.dic (tpd cs p' l'))) := by
  have second : ∀ {x y z : Option D} {S : Sto} {p l : Int}, S[i]? = some (.dic (tpd cs p l)) → (sSeq (sAsgs (aCons (e2 opMod (eA intM (aCons (e2 opSubs (eVar 0) (eC (.p (.str "left")))) aNil)) (eVar 1)) (aCons (e2 opDivX (e2 opSubs (eVar 0) (eC (.p (.str "left")))) (eVar 1)) aNil)) (gConss (gN 2) (gConss (gSubD (eVar 0) (eC (.p (.str "left")))) gNils)))
      (sRet (eVar 2))) [some (.ob i), some (.p (.int m)), none, x, y, z] S = some (.ret (.p (.int (l % m))), S.set i (.dic (tpd cs p (l / m)))) := by
    intro x y z S p l h
    simp [sSeq_, tp_left h, opMod_i hm, opDivX_i hm hm2, tp_setL h]
  have g0 : ∀ l, 0 ≤ l % m := fun l => Int.emod_nonneg _ (by omega)
  have g1 : ∀ l, l % m < m := fun l => Int.emod_lt_of_pos _ hm
  by_cases cc : l < m
  · obtain ⟨x, y, z, l', e⟩ := drawA3_ok (m := m) hc0 hc hne h hp hp2
    have s2 := second (x := x) (y := y) (z := z) (tp_at (o := .dic (tpd cs (p + 1) l')) h)
    refine ⟨l' % m, p + 1, l' / m, g0 _, g1 _, by omega, by omega, run_ret ?_⟩
    show drawB3 c [some (.ob i), some (.p (.int m)), none, none, none, none] S = _
    unfold drawB3
    rw [sSeq_next (a := sIf _ _ _) (ρ' := [some (.ob i), some (.p (.int m)), none, x, y, z]) (S' := S.set i (.dic (tpd cs (p + 1) l'))) (by simp [sSeq_, tp_left h, cc, e]), s2, List.set_set]
  · refine ⟨l % m, p, l / m, g0 _, g1 _, by omega, by omega, run_ret ?_⟩
    show drawB3 c [some (.ob i), some (.p (.int m)), none, none, none, none] S = _
    unfold drawB3
    rw [sSeq_next (a := sIf _ _ _) (ρ' := [some (.ob i), some (.p (.int m)), none, none, none, none]) (S' := S) (by simp [sSeq_, tp_left h, cc]), second h]
section
variable {c : DrC} {cs : List PyData} {i L : Nat} {n m : Int} {S : Sto} {Q : D → Sto → Prop} {X : Exn → Sto → Prop}
theorem drawK3_ok (hc0 : c.ok) (hc : Cells cs) (h : Tape cs i L n S) (hn : n ≤ 1000000000000) (hm : 0 < m) (hm2 : m.natAbs.log2 < 9000) :
    ∃ g S', runF 6 (drawB3 c) [.ob i, .p (.int m)] S = .ok (.p (.int g)) S' ∧ 0 ≤ g ∧ g < m ∧ Tape cs i L (n + 1) S' ∧ Oth i S S' := by
  obtain ⟨hl, p, l, h0, h1, hS⟩ := h
  obtain ⟨g, p', l', a, b, c', d, e⟩ := drawB3_ok hc0 hc.1 hc.2 hS h0 (by omega) hm hm2
  refine ⟨g, _, e, a, b, ⟨by rw [List.length_set]; exact hl, p', l', c', by omega, tp_at hS⟩, fun j hj => ?_⟩
  rw [List.getElem?_set_ne (Ne.symm hj)]
theorem drawK3_wp (hc0 : c.ok) (hc : Cells cs) (h : Tape cs i L n S) (hn : n ≤ 1000000000000) (hm : 0 < m) (hm2 : m.natAbs.log2 < 9000)
    (q : ∀ g S', 0 ≤ g → g < m → Tape cs i L (n + 1) S' → Oth i S S' → Q (.p (.int g)) S') : wp (cutX S.length (runF 6 (drawB3 c) [.ob i, .p (.int m)] S)) Q X := by
  obtain ⟨g, S', e, a, b, c, o⟩ := drawK3_ok hc0 hc h hn hm hm2
  rw [e, cutX_same (c.1.trans h.1.symm)]
  exact q g S' a b c o
theorem pickK3_wp (hc0 : c.ok) {xs : List PyData} (hc : Cells cs) (h : Tape cs i L n S) (hn : n ≤ 1000000000000) (hx : xs ≠ []) (hx2 : xs.length < 1000000)
    (q : ∀ d S', d ∈ xs → Tape cs i L (n + 1) S' → Oth i S S' → Q (.p d) S') : wp (cutX S.length (runF 2 (pickBX (runF 6 (drawB3 c))) [.ob i, .p (.list xs)] S)) Q X := by
  have hl : 0 < xs.length := List.length_pos_iff.mpr hx
  refine wp_cutXS ?_
  rw [wp_run]
  show wpS (pickBX (runF 6 (drawB3 c)) [some (.ob i), some (.p (.list xs))] S) _
  unfold pickBX
  simp
  refine drawK3_wp hc0 hc h hn (by omega) (by
    have := lg (n := ((xs.length : Int)).natAbs) (k := 40) (by have : (2 : Nat) ^ 40 = 1099511627776 := by decide
                                                               omega) (by decide)
    omega) fun g S' g0 g1 t o => ?_
  obtain ⟨d, e2, hd⟩ := atI_ok g0 g1
  simp [subs_l e2]
  exact ⟨t.1.trans h.1.symm, q d S' hd t o⟩
end
theorem begin_at (ns : List Int) (S : Sto) : ∃ cs, Cells cs ∧ runF 1 beginB [.ro (nums ns)] S = .ok (.ob S.length) (S ++ [.dic (tpd cs 0 0)]) := by
  have go : ∀ {v : PyData}, (eOr (eSli (eVar 0) oNone (oSome (eC (.p (.int 63))))) (eA mkLst (aCons (eC (.p (.int 0))) aNil))) [some (.ro (nums ns))] S = .ok (.p v) S → runF 1 beginB [.ro (nums ns)] S = .ok (.ob S.length) (S ++ [.dic [(.inr "cells", v), (.inr "place", .int 0), (.inr "left", .int 0)]]) := by
    intro v e
    refine run_ret ?_
    show beginB [some (.ro (nums ns))] S = _
    unfold beginB
    have m : mergeD [(.inr "cells", v), (.inr "place", .int 0), (.inr "left", .int 0)] = [(.inr "cells", v), (.inr "place", .int 0), (.inr "left", .int 0)] := rfl
    simp only [sSeq_, sRet_, eDisp, pairsD, eC_, Out.bind_ok, e, pyKey, List.length_cons, List.length_nil]
    rw [if_pos (by decide), m]
    rfl
  have es : sliM (.ro (nums ns)) none (some 63) S = .ok (.p (.list (cutP (nums ns) none (some 63)))) S := rfl
  cases hx : cutP (nums ns) none (some 63) with
  | nil =>
    rw [hx] at es
    refine ⟨[.int 0], ⟨fun d hd => ⟨0, by simpa using hd⟩, by simp⟩, go ?_⟩
    simp [es]
  | cons a r =>
    rw [hx] at es
    refine ⟨a :: r, ⟨fun d hd => ?_, by simp⟩, go ?_⟩
    · have : d ∈ nums ns := cutP_mem (lo := none) (hi := some 63) (by rw [hx]; exact hd)
      obtain ⟨z, _, rfl⟩ := List.mem_map.mp this
      exact ⟨z, rfl⟩
    · simp [es]
end DL

namespace K79
open PySem L2 DL

inductive Fn where
  | f_parts_of_term
  | f_with_parts
  | f_part_at
  | f_with_part
  | f_is_within_place
  | f_need_apart_places
  | f_cut
  | f_begin_l
  | f_draw_l
  | f_pick_l
  | f_parts_of_l
  | f_rebuilt_l
  | f_spots_l
  | f_holed_l
  | f_ends_l
  | f_loose_l
  | f_chosen_l
  | f_cut_l
  | f_refusal_l
  | f_law

def g_HOLE : PyData := (.tuple [(.str "hole")])
def f_parts_of_term_1 (r : Fn → List D → M D) : FS :=
    (sRet (eIf (tC2 (opEqZ false) (eVar 1) (eC (.p (.str "match")))) (e2 opAddM (eA mkLst (aCons (e2 opSubs (eVar 0) (eC (.p (.int 1)))) aNil)) (eLc (iSeq (e2 opSubs (eVar 0) (eC (.p (.int 2))))) (gTupD 3 (gConss (gN 4) (gConss (gN 5) (gConss (gN 6) gNils)))) tYesD (eVar 6) [4, 5, 6] finL)) (eA mkLstM aNil)))
def f_parts_of_term_2 (r : Fn → List D → M D) : FS :=
    (sSeq (sIf (tC2 (opEqZ false) (eVar 1) (eC (.p (.str "let")))) (sRet (e2 opAddM (eLc (iSeq (e2 opSubs (eVar 0) (eC (.p (.int 1))))) (gTupD 2 (gConss (gN 2) (gConss (gN 3) gNils))) tYesD (eVar 3) [2, 3] finL) (eA mkLst (aCons (e2 opSubs (eVar 0) (eC (.p (.int 2)))) aNil)))) sNext)
    (f_parts_of_term_1 r))
def f_parts_of_term_3 (r : Fn → List D → M D) : FS :=
    (sSeq (sIf (tC2 (opEqZ false) (eVar 1) (eC (.p (.str "given")))) (sRet (eA mkLstM (aCons (e2 opSubs (eVar 0) (eC (.p (.int 2)))) aNil))) sNext)
    (f_parts_of_term_2 r))
def b_f_parts_of_term (r : Fn → List D → M D) : FS :=
    (sSeq (sSet 1 (e2 opSubs (eVar 0) (eC (.p (.int 0)))))
    (sSeq (sIf (tC2 (opEqZ false) (eVar 1) (eC (.p (.str "use")))) (sRet (eA mkLstM (aCons (e2 opSubs (eVar 0) (eC (.p (.int 1)))) (aCons (e2 opSubs (eVar 0) (eC (.p (.int 2)))) aNil)))) sNext)
    (f_parts_of_term_3 r)))
def f_with_parts_1 (r : Fn → List D → M D) : FS :=
    (sRet (eVar 0))
def f_with_parts_2 (r : Fn → List D → M D) : FS :=
    (sSeq (sIf (tC2 (opEqZ false) (eVar 2) (eC (.p (.str "match")))) (sRet (eA mkTup (aCons (eC (.p (.str "match"))) (aCons (e2 opSubs (eVar 1) (eC (.p (.int 0)))) (aCons (eA tupleXM (aCons (eLc (iA zipXM (aCons (e2 opSubs (eVar 0) (eC (.p (.int 2)))) (aCons (eSli (eVar 1) (oSome (eC (.p (.int 1)))) oNone) aNil))) (gTupD 2 (gConss (gN 4) (gConss (gN 3) gNils))) tYesD (eA mkTup (aCons (e2 opSubs (eVar 4) (eC (.p (.int 0)))) (aCons (e2 opSubs (eVar 4) (eC (.p (.int 1)))) (aCons (eVar 3) aNil)))) [4, 3] finL) aNil)) aNil))))) sNext)
    (f_with_parts_1 r))
def f_with_parts_3 (r : Fn → List D → M D) : FS :=
    (sSeq (sIf (tC2 (opEqZ false) (eVar 2) (eC (.p (.str "let")))) (sRet (eA mkTup (aCons (eC (.p (.str "let"))) (aCons (eA tupleXM (aCons (eLc (iA zipXM (aCons (e2 opSubs (eVar 0) (eC (.p (.int 1)))) (aCons (eVar 1) aNil))) (gTupD 2 (gConss (gTupD 2 (gConss (gN 5) (gConss (gN 6) gNils))) (gConss (gN 3) gNils))) tYesD (eA mkTup (aCons (eVar 5) (aCons (eVar 3) aNil))) [5, 6, 3] finL) aNil)) (aCons (e2 opSubs (eVar 1) (e1 opNeg (eC (.p (.int 1))))) aNil))))) sNext)
    (f_with_parts_2 r))
def f_with_parts_4 (r : Fn → List D → M D) : FS :=
    (sSeq (sIf (tC2 (opEqZ false) (eVar 2) (eC (.p (.str "given")))) (sRet (eA mkTup (aCons (eC (.p (.str "given"))) (aCons (e2 opSubs (eVar 0) (eC (.p (.int 1)))) (aCons (e2 opSubs (eVar 1) (eC (.p (.int 0)))) aNil))))) sNext)
    (f_with_parts_3 r))
def b_f_with_parts (r : Fn → List D → M D) : FS :=
    (sSeq (sSet 2 (e2 opSubs (eVar 0) (eC (.p (.int 0)))))
    (sSeq (sIf (tC2 (opEqZ false) (eVar 2) (eC (.p (.str "use")))) (sRet (eA mkTup (aCons (eC (.p (.str "use"))) (aCons (e2 opSubs (eVar 1) (eC (.p (.int 0)))) (aCons (e2 opSubs (eVar 1) (eC (.p (.int 1)))) aNil))))) sNext)
    (f_with_parts_4 r)))
def f_part_at_1 (r : Fn → List D → M D) : FS :=
    (sSet 2 (e2 opSubs (eVar 4) (eVar 3)))
def f_part_at_2 (r : Fn → List D → M D) : FS :=
    (sSeq (sSet 4 (eCallX 1 (r .f_parts_of_term) (aCons (eVar 2) aNil)))
    (sSeq (sIf (tOrD (tNotD (tVal (e1 (isiM .int) (eVar 3)))) (tOrD (tVal (e1 (isiM .bool) (eVar 3))) (tNotD (tChain opLeX opLt (eC (.p (.int 0))) (eVar 3) (eA lenM (aCons (eVar 4) aNil)))))) (sRaise "OutOfTerm" "place" (eVar 1)) sNext)
    (f_part_at_1 r)))
def f_part_at_3 (r : Fn → List D → M D) : FS :=
    (sRet (eVar 2))
def f_part_at_4 (r : Fn → List D → M D) : FS :=
    (sSeq (sSet 2 (eVar 0))
    (sSeq (sFor (iSeq (eVar 1)) (gN 3) (f_part_at_2 r))
    (f_part_at_3 r)))
def b_f_part_at (r : Fn → List D → M D) : FS :=
    (sSeq (sIf (tNotD (tVal (e1 (isiM .tuple) (eVar 1)))) (sRaise "OutOfTerm" "place" (eVar 1)) sNext)
    (f_part_at_4 r))
def f_with_part_1 (r : Fn → List D → M D) : FS :=
    (sSeq (sSet 3 (eCallX 1 (r .f_parts_of_term) (aCons (eVar 0) aNil)))
    (sSeq (sAsg (eCallX 3 (r .f_with_part) (aCons (e2 opSubs (eVar 3) (e2 opSubs (eVar 1) (eC (.p (.int 0))))) (aCons (eSli (eVar 1) (oSome (eC (.p (.int 1)))) oNone) (aCons (eVar 2) aNil)))) (gSubD (eVar 3) (e2 opSubs (eVar 1) (eC (.p (.int 0))))))
    (sIce 3 (sRet (eCallX 2 (r .f_with_parts) (aCons (eVar 0) (aCons (eVar 3) aNil)))))))
def b_f_with_part (r : Fn → List D → M D) : FS :=
    (sSeq (sIf (tC2 (opEqZ false) (eVar 1) (eA mkTup aNil)) (sRet (eVar 2)) sNext)
    (f_with_part_1 r))
def b_f_is_within_place (r : Fn → List D → M D) : FS :=
    (sRet (e2 (opEqZ false) (eSli (eVar 0) oNone (oSome (eA lenM (aCons (eVar 1) aNil)))) (eVar 1)))
def f_need_apart_places_1 (r : Fn → List D → M D) : FS :=
    (sIf (tOrD (tVal (eCallX 2 (r .f_is_within_place) (aCons (eVar 3) (aCons (eVar 4) aNil)))) (tVal (eCallX 2 (r .f_is_within_place) (aCons (eVar 4) (aCons (eVar 3) aNil))))) (sRaise "OutOfTerm" "place" (eVar 3)) sNext)
def f_need_apart_places_2 (r : Fn → List D → M D) : FS :=
    (sSeq (sExpr (eCallX 2 (r .f_part_at) (aCons (eVar 0) (aCons (eVar 3) aNil))))
    (sFor (iSeq (eSli (eVar 1) oNone (oSome (eVar 2)))) (gN 4) (f_need_apart_places_1 r)))
def b_f_need_apart_places (r : Fn → List D → M D) : FS :=
    (sFor (iA enumXM (aCons (eVar 1) aNil)) (gTupD 2 (gConss (gN 2) (gConss (gN 3) gNils))) (f_need_apart_places_2 r))
def f_cut_1 (r : Fn → List D → M D) : FS :=
    (sSet 0 (eCallX 3 (r .f_with_part) (aCons (eVar 0) (aCons (eVar 2) (aCons (eC (.p g_HOLE)) aNil)))))
def f_cut_2 (r : Fn → List D → M D) : FS :=
    (sRet (eVar 0))
def b_f_cut (r : Fn → List D → M D) : FS :=
    (sSeq (sExpr (eCallX 2 (r .f_need_apart_places) (aCons (eVar 0) (aCons (eVar 1) aNil))))
    (sSeq (sFor (iSeq (eVar 1)) (gN 2) (f_cut_1 r))
    (f_cut_2 r)))
def b_f_begin_l (r : Fn → List D → M D) : FS :=
    (sRet (eDisp [((eC (.p (.str "cells"))), (eOr (eSli (eVar 0) oNone (oSome (eC (.p (.int 63))))) (eA mkLst (aCons (eC (.p (.int 0))) aNil)))), ((eC (.p (.str "place"))), (eC (.p (.int 0)))), ((eC (.p (.str "left"))), (eC (.p (.int 0))))] finDM))
def f_draw_l_1 (r : Fn → List D → M D) : FS :=
    (sSeq (sAsgs (aCons (e2 opMod (eA intM (aCons (e2 opSubs (eVar 0) (eC (.p (.str "left")))) aNil)) (eVar 1)) (aCons (e2 opDivX (e2 opSubs (eVar 0) (eC (.p (.str "left")))) (eVar 1)) aNil)) (gConss (gN 2) (gConss (gSubD (eVar 0) (eC (.p (.str "left")))) gNils)))
    (sRet (eVar 2)))
def b_f_draw_l (r : Fn → List D → M D) : FS :=
    (sSeq (sIf (tC2 (opLt) (e2 opSubs (eVar 0) (eC (.p (.str "left")))) (eVar 1)) (sSeq (sAsgs (aCons (e2 opSubs (eVar 0) (eC (.p (.str "place")))) (aCons (e2 opSubs (eVar 0) (eC (.p (.str "cells")))) aNil)) (gConss (gN 3) (gConss (gN 4) gNils)))
    (sSeq (sAsgs (aCons (e2 opSubs (eVar 4) (e2 opMod (eA intM (aCons (eVar 3) aNil)) (eA lenM (aCons (eVar 4) aNil)))) (aCons (e2 opAdd (eVar 3) (eC (.p (.int 1)))) aNil)) (gConss (gN 5) (gConss (gSubD (eVar 0) (eC (.p (.str "place")))) gNils)))
    (sSeq (sAsg (e2 opMod (eA intM (aCons (e2 opPow (e2 opAdd (e2 opAdd (e2 opMod (eA intM (aCons (eVar 5) aNil)) (eC (.p (.int 2147483587)))) (e2 opMulX (eC (.p (.int 40961))) (eVar 3))) (eC (.p (.int 50207)))) (eC (.p (.int 17)))) aNil)) (e2 opAdd (e2 opPow (eC (.p (.int 10))) (eC (.p (.int 50)))) (eC (.p (.int 151))))) (gSubD (eVar 0) (eC (.p (.str "left")))))
    (sIf (tAndD (tC2 (opGe) (eVar 5) (e2 opPow (eC (.p (.int 10))) (eC (.p (.int 18))))) (tC2 (opLt) (eVar 3) (eA lenM (aCons (eVar 4) aNil)))) (sAsg (e2 opSub (eVar 5) (e2 opPow (eC (.p (.int 10))) (eC (.p (.int 18))))) (gSubD (eVar 0) (eC (.p (.str "left"))))) sNext)))) sNext)
    (f_draw_l_1 r))
def b_f_pick_l (r : Fn → List D → M D) : FS :=
    (sRet (e2 opSubs (eVar 1) (eCallX 2 (r .f_draw_l) (aCons (eVar 0) (aCons (eA lenM (aCons (eVar 1) aNil)) aNil)))))
def f_parts_of_l_1 (r : Fn → List D → M D) : FS :=
    (sRet (eIf (tC2 (opEqZ false) (eVar 1) (eC (.p (.str "match")))) (e2 opAddX (eA mkLst (aCons (e2 opSubs (eVar 0) (eC (.p (.int 1)))) aNil)) (eLc (iSeq (e2 opSubs (eVar 0) (eC (.p (.int 2))))) (gN 3) tYesD (e2 opSubs (eVar 3) (eC (.p (.int 2)))) [3] finL)) (eA mkLst aNil)))
def f_parts_of_l_2 (r : Fn → List D → M D) : FS :=
    (sSeq (sIf (tC2 (opEqZ false) (eVar 1) (eC (.p (.str "let")))) (sRet (e2 opAddX (eLc (iSeq (e2 opSubs (eVar 0) (eC (.p (.int 1))))) (gN 2) tYesD (e2 opSubs (eVar 2) (eC (.p (.int 1)))) [2] finL) (eA mkLst (aCons (e2 opSubs (eVar 0) (eC (.p (.int 2)))) aNil)))) sNext)
    (f_parts_of_l_1 r))
def f_parts_of_l_3 (r : Fn → List D → M D) : FS :=
    (sSeq (sIf (tC2 (opEqZ false) (eVar 1) (eC (.p (.str "given")))) (sRet (eA mkLst (aCons (e2 opSubs (eVar 0) (eC (.p (.int 2)))) aNil))) sNext)
    (f_parts_of_l_2 r))
def b_f_parts_of_l (r : Fn → List D → M D) : FS :=
    (sSeq (sSet 1 (e2 opSubs (eVar 0) (eC (.p (.int 0)))))
    (sSeq (sIf (tC2 (opEqZ false) (eVar 1) (eC (.p (.str "use")))) (sRet (eA mkLst (aCons (e2 opSubs (eVar 0) (eC (.p (.int 1)))) (aCons (e2 opSubs (eVar 0) (eC (.p (.int 2)))) aNil)))) sNext)
    (f_parts_of_l_3 r)))
def f_rebuilt_l_1 (r : Fn → List D → M D) : FS :=
    (sRet (eVar 0))
def f_rebuilt_l_2 (r : Fn → List D → M D) : FS :=
    (sSeq (sIf (tC2 (opEqZ false) (eVar 2) (eC (.p (.str "match")))) (sRet (eA mkTup (aCons (eC (.p (.str "match"))) (aCons (e2 opSubs (eVar 1) (eC (.p (.int 0)))) (aCons (eA tupleXM (aCons (eLc (iA zipXM (aCons (e2 opSubs (eVar 0) (eC (.p (.int 2)))) (aCons (eSli (eVar 1) (oSome (eC (.p (.int 1)))) oNone) aNil))) (gTupD 2 (gConss (gN 5) (gConss (gN 4) gNils))) tYesD (e2 opAddX (eSli (eVar 5) oNone (oSome (eC (.p (.int 2))))) (eA mkTup (aCons (eVar 4) aNil))) [5, 4] finL) aNil)) aNil))))) sNext)
    (f_rebuilt_l_1 r))
def f_rebuilt_l_3 (r : Fn → List D → M D) : FS :=
    (sSeq (sIf (tC2 (opEqZ false) (eVar 2) (eC (.p (.str "let")))) (sRet (eA mkTup (aCons (eC (.p (.str "let"))) (aCons (eA tupleXM (aCons (eLc (iA zipXM (aCons (e2 opSubs (eVar 0) (eC (.p (.int 1)))) (aCons (eVar 1) aNil))) (gTupD 2 (gConss (gN 3) (gConss (gN 4) gNils))) tYesD (eA mkTup (aCons (e2 opSubs (eVar 3) (eC (.p (.int 0)))) (aCons (eVar 4) aNil))) [3, 4] finL) aNil)) (aCons (e2 opSubs (eVar 1) (e1 opNeg (eC (.p (.int 1))))) aNil))))) sNext)
    (f_rebuilt_l_2 r))
def f_rebuilt_l_4 (r : Fn → List D → M D) : FS :=
    (sSeq (sIf (tC2 (opEqZ false) (eVar 2) (eC (.p (.str "given")))) (sRet (eA mkTup (aCons (eC (.p (.str "given"))) (aCons (e2 opSubs (eVar 0) (eC (.p (.int 1)))) (aCons (e2 opSubs (eVar 1) (eC (.p (.int 0)))) aNil))))) sNext)
    (f_rebuilt_l_3 r))
def b_f_rebuilt_l (r : Fn → List D → M D) : FS :=
    (sSeq (sSet 2 (e2 opSubs (eVar 0) (eC (.p (.int 0)))))
    (sSeq (sIf (tC2 (opEqZ false) (eVar 2) (eC (.p (.str "use")))) (sRet (eA mkTup (aCons (eC (.p (.str "use"))) (aCons (e2 opSubs (eVar 1) (eC (.p (.int 0)))) (aCons (e2 opSubs (eVar 1) (eC (.p (.int 1)))) aNil))))) sNext)
    (f_rebuilt_l_4 r)))
def f_spots_l_1 (r : Fn → List D → M D) : FS :=
    (sSeq (sAsg (eLm popM (eVar 2) aNil) (gTupD 2 (gConss (gN 4) (gConss (gN 5) gNils))))
    (sSeq (sExpr (eLm appendM (eVar 1) (aCons (eA mkTup (aCons (eVar 4) (aCons (eVar 5) aNil))) aNil)))
    (sSeq (sSet 3 (eCallX 1 (r .f_parts_of_l) (aCons (eVar 5) aNil)))
    (sExpr (eLm extendM (eVar 2) (aCons (eLc (fun ρ S => ((aCons (e2 opSub (eA lenM (aCons (eVar 3) aNil)) (eC (.p (.int 1)))) (aCons (e1 opNeg (eC (.p (.int 1)))) (aCons (e1 opNeg (eC (.p (.int 1)))) aNil))) ρ S).bind rangeDM) (gN 6) tYesD (eA mkTup (aCons (e2 opAddX (eVar 4) (eA mkTup (aCons (eVar 6) aNil))) (aCons (e2 opSubs (eVar 3) (eVar 6)) aNil))) [6] finL) aNil))))))
def f_spots_l_2 (r : Fn → List D → M D) : FS :=
    (sRet (eIce (eVar 1)))
def b_f_spots_l (r : Fn → List D → M D) : FS :=
    (sSeq (sAsgs (aCons (eA mkLstM aNil) (aCons (eA mkLstM (aCons (eA mkTup (aCons (eA mkTup aNil) (aCons (eVar 0) aNil))) aNil)) aNil)) (gConss (gN 1) (gConss (gN 2) gNils)))
    (sSeq (whileD 1000 (tC2 (opEqZ true) (eVar 2) (eA mkLst aNil)) (f_spots_l_1 r))
    (f_spots_l_2 r)))
def f_holed_l_1 (r : Fn → List D → M D) : FS :=
    (sExpr (eLm appendM (eVar 3) (aCons (eCallX 2 (r .f_holed_l) (aCons (e2 opSubs (eVar 2) (eVar 4)) (aCons (eLc (iSeq (eVar 1)) (gN 5) (tC2 (opEqZ false) (e2 opSubs (eVar 5) (eC (.p (.int 0)))) (eVar 4)) (eSli (eVar 5) (oSome (eC (.p (.int 1)))) oNone) [5] finL) aNil))) aNil)))
def f_holed_l_2 (r : Fn → List D → M D) : FS :=
    (sIce 3 (sRet (eCallX 2 (r .f_rebuilt_l) (aCons (eVar 0) (aCons (eVar 3) aNil)))))
def f_holed_l_3 (r : Fn → List D → M D) : FS :=
    (sSeq (sSet 2 (eCallX 1 (r .f_parts_of_l) (aCons (eVar 0) aNil)))
    (sSeq (sSet 3 (eA mkLstM aNil))
    (sSeq (sFor (iRange (aCons (eA lenM (aCons (eVar 2) aNil)) aNil)) (gN 4) (f_holed_l_1 r))
    (f_holed_l_2 r))))
def b_f_holed_l (r : Fn → List D → M D) : FS :=
    (sSeq (sIf (tC2 (opInX false) (eA mkTup aNil) (eVar 1)) (sRet (eA mkTup (aCons (eC (.p (.str "hole"))) aNil))) sNext)
    (f_holed_l_3 r))
def b_f_ends_l (r : Fn → List D → M D) : FS :=
    (sRet (eLc (iSeq (eVar 1)) (gN 2) (tC2 (opEqZ false) (eSli (eVar 0) oNone (oSome (eA lenM (aCons (eVar 2) aNil)))) (eVar 2)) (eVar 2) [2] finL))
def f_loose_l_1 (r : Fn → List D → M D) : FS :=
    (sSeq (sSet 5 (eLc (iRange (aCons (eC (.p (.int 2))) aNil)) (gN 8) tYesD (eCallX 3 (r .f_loose_l) (aCons (eVar 0) (aCons (eVar 1) (aCons (e2 opSub (eVar 2) (eC (.p (.int 1)))) aNil)))) [8] finL))
    (sRet (eA mkTup (aCons (eC (.p (.str "match"))) (aCons (eCallX 3 (r .f_loose_l) (aCons (eVar 0) (aCons (eVar 1) (aCons (e2 opSub (eVar 2) (eC (.p (.int 1)))) aNil)))) (aCons (eA mkTup (aCons (eA mkTup (aCons (eC (.p (.str "no"))) (aCons (eA mkTup aNil) (aCons (e2 opSubs (eVar 5) (eC (.p (.int 0)))) aNil)))) (aCons (eA mkTup (aCons (eC (.p (.str "yes"))) (aCons (eA mkTup aNil) (aCons (e2 opSubs (eVar 5) (eC (.p (.int 1)))) aNil)))) aNil))) aNil))))))
def f_loose_l_2 (r : Fn → List D → M D) : FS :=
    (sSeq (sIf (tC2 (opEqZ false) (eVar 3) (eC (.p (.int 8)))) (sSeq (sSet 7 (e2 opAddX (eC (.p (.str "l"))) (e2 opSubs (eC (.p (.str "abcdefgh"))) (eVar 2))))
    (sSeq (sSet 6 (eCallX 3 (r .f_loose_l) (aCons (eVar 0) (aCons (e2 opAddX (eVar 1) (eA mkLst (aCons (eVar 7) aNil))) (aCons (e2 opSub (eVar 2) (eC (.p (.int 1)))) aNil)))))
    (sRet (eA mkTup (aCons (eC (.p (.str "let"))) (aCons (eA mkTup (aCons (eA mkTup (aCons (eVar 7) (aCons (eVar 6) aNil))) aNil)) (aCons (eCallX 3 (r .f_loose_l) (aCons (eVar 0) (aCons (e2 opAddX (eVar 1) (eA mkLst (aCons (eVar 7) aNil))) (aCons (e2 opSub (eVar 2) (eC (.p (.int 1)))) aNil)))) aNil))))))) sNext)
    (f_loose_l_1 r))
def f_loose_l_3 (r : Fn → List D → M D) : FS :=
    (sSeq (sIf (tC2 (opEqZ false) (eVar 3) (eC (.p (.int 7)))) (sSeq (sSet 7 (e2 opAddX (eC (.p (.str "p"))) (e2 opSubs (eC (.p (.str "abcdefgh"))) (eVar 2))))
    (sRet (eA mkTup (aCons (eC (.p (.str "given"))) (aCons (eVar 7) (aCons (eCallX 3 (r .f_loose_l) (aCons (eVar 0) (aCons (e2 opAddX (eVar 1) (eA mkLst (aCons (eVar 7) aNil))) (aCons (e2 opSub (eVar 2) (eC (.p (.int 1)))) aNil)))) aNil)))))) sNext)
    (f_loose_l_2 r))
def f_loose_l_4 (r : Fn → List D → M D) : FS :=
    (sSeq (sIf (tC2 (opLt) (eVar 3) (eC (.p (.int 7)))) (sSeq (sSet 6 (eCallX 3 (r .f_loose_l) (aCons (eVar 0) (aCons (eVar 1) (aCons (e2 opSub (eVar 2) (eC (.p (.int 1)))) aNil)))))
    (sRet (eA mkTup (aCons (eC (.p (.str "use"))) (aCons (eVar 6) (aCons (eCallX 3 (r .f_loose_l) (aCons (eVar 0) (aCons (eVar 1) (aCons (e2 opSub (eVar 2) (eC (.p (.int 1)))) aNil)))) aNil)))))) sNext)
    (f_loose_l_3 r))
def f_loose_l_5 (r : Fn → List D → M D) : FS :=
    (sSeq (sIf (tC2 (opLt) (eVar 3) (eC (.p (.int 4)))) (sRet (eCallX 2 (r .f_pick_l) (aCons (eVar 0) (aCons (e2 opAddX (eA mkLst (aCons (eA mkTup (aCons (eC (.p (.str "whole"))) (aCons (eC (.p (.int 3))) aNil))) (aCons (eA mkTup (aCons (eC (.p (.str "text"))) (aCons (eC (.p (.str "t"))) aNil))) aNil))) (eLc (iSeq (eVar 4)) (gN 7) tYesD (eA mkTup (aCons (eC (.p (.str "name"))) (aCons (eVar 7) aNil))) [7] finL)) aNil)))) sNext)
    (f_loose_l_4 r))
def b_f_loose_l (r : Fn → List D → M D) : FS :=
    (sSeq (sSet 3 (eIf (tC2 (opGt) (eVar 2) (eC (.p (.int 0)))) (eCallX 2 (r .f_draw_l) (aCons (eVar 0) (aCons (eC (.p (.int 10))) aNil))) (eCallX 2 (r .f_draw_l) (aCons (eVar 0) (aCons (eC (.p (.int 4))) aNil)))))
    (sSeq (sSet 4 (eA mkLst (aCons (eC (.p (.str "plus"))) (aCons (eC (.p (.str "size"))) (aCons (eC (.p (.str "join"))) (aCons (eC (.p (.str "upto"))) (aCons (eC (.p (.str "yes"))) (aCons (eC (.p (.str "alike"))) (aCons (eC (.p (.str "shown"))) aNil)))))))))
    (sSeq (sIf (tAndD (tC2 (opLt) (eVar 3) (eC (.p (.int 2)))) (tC2 (opEqZ true) (eVar 1) (eA mkLst aNil))) (sRet (eA mkTup (aCons (eC (.p (.str "name"))) (aCons (eCallX 2 (r .f_pick_l) (aCons (eVar 0) (aCons (eVar 1) aNil))) aNil)))) sNext)
    (f_loose_l_5 r))))
def f_chosen_l_1 (r : Fn → List D → M D) : FS :=
    (sSeq (sSet 5 (eCallX 2 (r .f_pick_l) (aCons (eVar 0) (aCons (eVar 3) aNil))))
    (sSeq (sSet 6 (eA mkLst (aCons (e2 opAddX (eVar 5) (eA mkTup (aCons (eCallX 2 (r .f_draw_l) (aCons (eVar 0) (aCons (eC (.p (.int 4))) aNil))) aNil))) (aCons (eA (listXM finL) (aCons (eVar 5) aNil)) (aCons (eSli (eVar 5) oNone (oSome (e1 opNeg (eC (.p (.int 1)))))) (aCons (e2 opAddX (eVar 5) (eA mkTup (aCons (eC (.p (.bool true))) aNil))) (aCons (eC (.p .none)) (aCons (eA mkTup (aCons (e1 opNeg (eC (.p (.int 1)))) aNil)) (aCons (eC (.p (.str "0"))) (aCons (e2 opAddX (eVar 5) (eA mkTup (aCons (eC (.p (.str "a"))) aNil))) aNil))))))))))
    (sExpr (eLm appendM (eVar 4) (aCons (eIf (tC2 (opEqZ false) (eCallX 2 (r .f_draw_l) (aCons (eVar 0) (aCons (eC (.p (.int 5))) aNil))) (eC (.p (.int 0)))) (eCallX 2 (r .f_pick_l) (aCons (eVar 0) (aCons (eVar 6) aNil))) (eVar 5)) aNil)))))
def f_chosen_l_2 (r : Fn → List D → M D) : FS :=
    (sRet (eIce (eVar 4)))
def b_f_chosen_l (r : Fn → List D → M D) : FS :=
    (sSeq (sAsgs (aCons (eLc (iSeq (eCallX 1 (r .f_spots_l) (aCons (eVar 1) aNil))) (gN 7) tYesD (e2 opSubs (eVar 7) (eC (.p (.int 0)))) [7] finL) (aCons (eA mkLstM aNil) aNil)) (gConss (gN 3) (gConss (gN 4) gNils)))
    (sSeq (sFor (iRange (aCons (eCallX 2 (r .f_draw_l) (aCons (eVar 0) (aCons (eC (.p (.int 5))) aNil))) aNil)) (gN 2) (f_chosen_l_1 r))
    (f_chosen_l_2 r)))
def f_cut_l_1 (r : Fn → List D → M D) : FS :=
    (sRet (eCallX 5 (r .f_cut) (aCons (eVar 0) (aCons (e2 opSubs (eVar 1) (eC (.p (.int 0)))) (aCons (e2 opSubs (eVar 1) (eC (.p (.int 1)))) (aCons (e2 opSubs (eVar 1) (eC (.p (.int 2)))) (aCons (e2 opSubs (eVar 1) (eC (.p (.int 3)))) aNil)))))))
def f_cut_l_2 (r : Fn → List D → M D) : FS :=
    (sSeq (sIf (tC2 (opEqZ false) (eA lenM (aCons (eVar 1) aNil)) (eC (.p (.int 3)))) (sRet (eCallX 4 (r .f_cut) (aCons (eVar 0) (aCons (e2 opSubs (eVar 1) (eC (.p (.int 0)))) (aCons (e2 opSubs (eVar 1) (eC (.p (.int 1)))) (aCons (e2 opSubs (eVar 1) (eC (.p (.int 2)))) aNil)))))) sNext)
    (f_cut_l_1 r))
def f_cut_l_3 (r : Fn → List D → M D) : FS :=
    (sSeq (sIf (tC2 (opEqZ false) (eA lenM (aCons (eVar 1) aNil)) (eC (.p (.int 2)))) (sRet (eCallX 3 (r .f_cut) (aCons (eVar 0) (aCons (e2 opSubs (eVar 1) (eC (.p (.int 0)))) (aCons (e2 opSubs (eVar 1) (eC (.p (.int 1)))) aNil))))) sNext)
    (f_cut_l_2 r))
def b_f_cut_l (r : Fn → List D → M D) : FS :=
    (sSeq (sIf (tC2 (opLt) (eA lenM (aCons (eVar 1) aNil)) (eC (.p (.int 2)))) (sRet (eIf (tC2 (opEqZ false) (eVar 1) (eA mkLst aNil)) (eCallX 1 (r .f_cut) (aCons (eVar 0) aNil)) (eCallX 2 (r .f_cut) (aCons (eVar 0) (aCons (e2 opSubs (eVar 1) (eC (.p (.int 0)))) aNil))))) sNext)
    (f_cut_l_3 r))
def f_refusal_l_1 (r : Fn → List D → M D) : FS :=
    (sSeq (sSet 4 (eLc (iSeq (eSli (eVar 1) oNone (oSome (eVar 3)))) (gN 6) (tC2 (opEqZ true) (e2 opAddX (eCallX 2 (r .f_ends_l) (aCons (e2 opSubs (eVar 1) (eVar 3)) (aCons (eA mkLst (aCons (eVar 6) aNil)) aNil))) (eCallX 2 (r .f_ends_l) (aCons (eVar 6) (aCons (eA mkLst (aCons (e2 opSubs (eVar 1) (eVar 3)) aNil)) aNil)))) (eA mkLst aNil)) (eVar 6) [6] finL))
    (sIf (tC2 (opEqZ true) (eVar 4) (eA mkLst aNil)) (sRet (eA mkLst (aCons (eA reprM (aCons (e2 opSubs (eVar 1) (eVar 3)) aNil)) (aCons (eC (.p (.bool true))) aNil)))) sNext))
def f_refusal_l_2 (r : Fn → List D → M D) : FS :=
    (sSeq (sIf (tC2 (opInX true) (eA reprM (aCons (e2 opSubs (eVar 1) (eVar 3)) aNil)) (eVar 2)) (sRet (eA mkLst (aCons (eA reprM (aCons (e2 opSubs (eVar 1) (eVar 3)) aNil)) (aCons (eC (.p (.bool true))) aNil)))) sNext)
    (f_refusal_l_1 r))
def f_refusal_l_3 (r : Fn → List D → M D) : FS :=
    (sRet (eA mkLst aNil))
def b_f_refusal_l (r : Fn → List D → M D) : FS :=
    (sSeq (sSet 2 (eLc (iSeq (eCallX 1 (r .f_spots_l) (aCons (eVar 0) aNil))) (gN 5) tYesD (eA reprM (aCons (e2 opSubs (eVar 5) (eC (.p (.int 0)))) aNil)) [5] finL))
    (sSeq (sFor (iRange (aCons (eA lenM (aCons (eVar 1) aNil)) aNil)) (gN 3) (f_refusal_l_2 r))
    (f_refusal_l_3 r)))
def f_law_1 (P : Addr) (r r2 : Fn → List D → M D) : FS :=
    (sSeq (sSet 3 (eCallX 3 (r .f_loose_l) (aCons (eVar 1) (aCons (eA mkLst aNil) (aCons (e2 opAddX (eCallX 2 (r .f_draw_l) (aCons (eVar 1) (aCons (eC (.p (.int 4))) aNil))) (eC (.p (.int 1)))) aNil)))))
    (sSeq (sAsgs (aCons (eCallX 2 (r .f_chosen_l) (aCons (eVar 1) (aCons (eVar 3) aNil))) (aCons (eA reprM (aCons (eVar 3) aNil)) aNil)) (gConss (gN 6) (gConss (gN 7) gNils)))
    (sSeq (sSet 4 (eCallX 2 (r .f_refusal_l) (aCons (eVar 3) (aCons (eVar 6) aNil))))
    (sSeq (sSet 5 (eIf (tC2 (opEqZ true) (eVar 4) (eA mkLst aNil)) (eA mkTup (aCons (eC (.p (.str "out"))) (aCons (eVar 4) aNil))) (eA mkTup (aCons (eC (.p (.str "cut"))) (aCons (eCallX 2 (r .f_holed_l) (aCons (eVar 3) (aCons (eVar 6) aNil))) aNil)))))
    (sIf (tOrD (tC2 (opEqZ true) (eA reprM (aCons (eMet P "law.<locals>.<lambda>" 0 "OutOfTerm" "cut" 2 1 (eCallX 2 (r2 .f_cut_l) (aCons (eVar 3) (aCons (eVar 6) aNil))) (fun a dd => (eA mkTup (aCons (eC (.p (.str "out"))) (aCons (eA mkLst (aCons (eA reprM (aCons (eXf a dd 1 "place") aNil)) (aCons (eXi a dd 1 true) aNil))) aNil))))) aNil)) (eA reprM (aCons (eVar 5) aNil))) (tC2 (opEqZ true) (eA reprM (aCons (eVar 3) aNil)) (eVar 7))) (sRet (eC (.p (.bool false)))) sNext)))))
def f_law_2 (P : Addr) (r r2 : Fn → List D → M D) : FS :=
    (sRet (eC (.p (.bool true))))
def b_f_law (P : Addr) (r r2 : Fn → List D → M D) : FS :=
    (sSeq (sSet 1 (eCallX 1 (r .f_begin_l) (aCons (eVar 0) aNil)))
    (sSeq (sFor (iRange (aCons (eC (.p (.int 12))) aNil)) (gN 2) (f_law_1 P r r2))
    (f_law_2 P r r2)))
def go (P : Addr) (r r2 : Fn → List D → M D) : Fn → List D → M D
  | .f_parts_of_term => runF 7 (b_f_parts_of_term r)
  | .f_with_parts => runF 7 (b_f_with_parts r)
  | .f_part_at => runF 5 (b_f_part_at r)
  | .f_with_part => runF 4 (b_f_with_part r)
  | .f_is_within_place => runF 2 (b_f_is_within_place r)
  | .f_need_apart_places => runF 5 (b_f_need_apart_places r)
  | .f_cut => runV 1 3 (b_f_cut r)
  | .f_begin_l => runF 1 (b_f_begin_l r)
  | .f_draw_l => runF 6 (b_f_draw_l r)
  | .f_pick_l => runF 2 (b_f_pick_l r)
  | .f_parts_of_l => runF 4 (b_f_parts_of_l r)
  | .f_rebuilt_l => runF 6 (b_f_rebuilt_l r)
  | .f_spots_l => runF 7 (b_f_spots_l r)
  | .f_holed_l => runF 6 (b_f_holed_l r)
  | .f_ends_l => runF 3 (b_f_ends_l r)
  | .f_loose_l => runF 9 (b_f_loose_l r)
  | .f_chosen_l => runF 8 (b_f_chosen_l r)
  | .f_cut_l => runF 2 (b_f_cut_l r)
  | .f_refusal_l => runF 7 (b_f_refusal_l r)
  | .f_law => runF 8 (b_f_law P r r2)

def F (P : Addr) : Nat → Fn → List D → M D
  | 0, _ => fun _ _ => .bad
  | 1, _ => fun _ _ => .bad
  | 2, _ => fun _ _ => .bad
  | k + 3, f => go P (F P (k + 2)) (F P k) f

end K79

namespace K79
open PySem L2 DL

inductive Tm where
  | lf (w : Str) (d : PyData)
  | ho
  | us (f x : Tm)
  | gv (n : Str) (b : Tm)
  | lt (n : Str) (b e : Tm)
  | mt (s a b : Tm)
namespace Tm
def py : Tm → PyData
  | lf w d => .tuple [.str w, d]
  | ho => .tuple [.str "hole"]
  | us f x => .tuple [.str "use", f.py, x.py]
  | gv n b => .tuple [.str "given", .str n, b.py]
  | lt n b e => .tuple [.str "let", .tuple [.tuple [.str n, b.py]], e.py]
  | mt s a b => .tuple [.str "match", s.py, .tuple [.tuple [.str "no", .tuple [], a.py], .tuple [.str "yes", .tuple [], b.py]]]
def ps : Tm → List Tm
  | lf _ _ => []
  | ho => []
  | us f x => [f, x]
  | gv _ b => [b]
  | lt _ b e => [b, e]
  | mt s a b => [s, a, b]
def reb : Tm → List Tm → Tm
  | us _ _, [f, x] => us f x
  | gv n _, [b] => gv n b
  | lt n _ _, [b, e] => lt n b e
  | mt _ _ _, [s, a, b] => mt s a b
  | t, _ => t
/-- a leaf's word is none of the others -/
def wk : Tm → Prop
  | lf w _ => w ≠ "use" ∧ w ≠ "given" ∧ w ≠ "let" ∧ w ≠ "match"
  | ho => True
  | us f x => f.wk ∧ x.wk
  | gv _ b => b.wk
  | lt _ b e => b.wk ∧ e.wk
  | mt s a b => s.wk ∧ a.wk ∧ b.wk
end Tm
open Tm
@[simp] theorem w1 : (Str.ofString "hole" = Str.ofString "use") = False := eq_false (by decide)
@[simp] theorem w2 : (Str.ofString "hole" = Str.ofString "given") = False := eq_false (by decide)
@[simp] theorem w3 : (Str.ofString "hole" = Str.ofString "let") = False := eq_false (by decide)
@[simp] theorem w4 : (Str.ofString "hole" = Str.ofString "match") = False := eq_false (by decide)
@[simp] theorem w5 : (Str.ofString "given" = Str.ofString "use") = False := eq_false (by decide)
@[simp] theorem w6 : (Str.ofString "let" = Str.ofString "use") = False := eq_false (by decide)
@[simp] theorem w7 : (Str.ofString "let" = Str.ofString "given") = False := eq_false (by decide)
@[simp] theorem w8 : (Str.ofString "match" = Str.ofString "use") = False := eq_false (by decide)
@[simp] theorem w9 : (Str.ofString "match" = Str.ofString "given") = False := eq_false (by decide)
@[simp] theorem w0 : (Str.ofString "match" = Str.ofString "let") = False := eq_false (by decide)
variable {P : Addr} {S : Sto}
theorem F_pt (k : Nat) : F P (k + 3) .f_parts_of_term = runF 7 (b_f_parts_of_term (F P (k + 2))) := rfl
theorem F_pl (k : Nat) : F P (k + 3) .f_parts_of_l = runF 4 (b_f_parts_of_l (F P (k + 2))) := rfl
theorem F_wp (k : Nat) : F P (k + 3) .f_with_parts = runF 7 (b_f_with_parts (F P (k + 2))) := rfl
theorem F_rl (k : Nat) : F P (k + 3) .f_rebuilt_l = runF 6 (b_f_rebuilt_l (F P (k + 2))) := rfl
theorem k3 {k : Nat} (h : 3 ≤ k) : ∃ j, k = j + 3 := ⟨k - 3, by omega⟩
theorem mkM (ds : List D) (xs : List PyData) (h : pys ds = some xs) (hl : xs.length ≤ LIM) : mkLstM ds S = .ok (.ob S.length) (S ++ [.lst xs]) := by simp [mkLstM, h, hl]
set_option maxHeartbeats 1000000 in
theorem pt_ok {k : Nat} (hk : 3 ≤ k) {t : Tm} (h : t.wk) : F P k .f_parts_of_term [.p t.py] S = .ok (.ob S.length) (S ++ [.lst (t.ps.map py)]) := by
  obtain ⟨k, rfl⟩ := k3 hk
  rw [F_pt]
  refine run_ret ?_
  unfold b_f_parts_of_term f_parts_of_term_3 f_parts_of_term_2 f_parts_of_term_1
  cases t with
  | lf w d =>
    obtain ⟨h1, h2, h3, h4⟩ := h
    simp [sSeq_, py, ps, h1, h2, h3, h4, mkLstM, LIM]
  | ho => simp [sSeq_, py, ps, mkLstM, LIM]
  | us f x => simp [sSeq_, py, ps, mkLstM, LIM]
  | gv n b => simp [sSeq_, py, ps, mkLstM, LIM]
  | lt n b e => simp [sSeq_, py, ps, mkLstM, mkLst, LIM, opAddM, lcD, finL, gTupD, gConss, gNils, wipeD, noErr, lstOf]
  | mt s a b => simp [sSeq_, py, ps, mkLstM, mkLst, LIM, opAddM, lcD, finL, gTupD, gConss, gNils, wipeD, noErr, lstOf]
set_option maxHeartbeats 1000000 in
theorem pl_ok {k : Nat} (hk : 3 ≤ k) {t : Tm} (h : t.wk) : F P k .f_parts_of_l [.p t.py] S = .ok (.p (.list (t.ps.map py))) S := by
  obtain ⟨k, rfl⟩ := k3 hk
  rw [F_pl]
  refine run_ret ?_
  unfold b_f_parts_of_l f_parts_of_l_3 f_parts_of_l_2 f_parts_of_l_1
  cases t with
  | lf w d =>
    obtain ⟨h1, h2, h3, h4⟩ := h
    simp [sSeq_, py, ps, h1, h2, h3, h4, mkLst, LIM]
  | ho => simp [sSeq_, py, ps, mkLst, LIM]
  | us f x => simp [sSeq_, py, ps, mkLst, LIM]
  | gv n b => simp [sSeq_, py, ps, mkLst, LIM]
  | lt n b e => simp [sSeq_, py, ps, mkLst, LIM, opAddX, lcD, finL, gTupD, gConss, gNils, wipeD, noErr, lstOf]
  | mt s a b => simp [sSeq_, py, ps, mkLst, LIM, opAddX, lcD, finL, gTupD, gConss, gNils, wipeD, noErr, lstOf]
theorem len1 {α : Type} {l : List α} (h : l.length = 1) : ∃ a, l = [a] := by
  match l, h with
  | [a], _ => exact ⟨a, rfl⟩
theorem len2 {α : Type} {l : List α} (h : l.length = 2) : ∃ a b, l = [a, b] := by
  match l, h with
  | [a, b], _ => exact ⟨a, b, rfl⟩
theorem len3 {α : Type} {l : List α} (h : l.length = 3) : ∃ a b c, l = [a, b, c] := by
  match l, h with
  | [a, b, c], _ => exact ⟨a, b, c, rfl⟩
theorem len0 {α : Type} {l : List α} (h : l.length = 0) : l = [] := List.length_eq_zero_iff.mp h
theorem cut1 {a b c : PyData} : cutP [a, b, c] (some 1) none = [b, c] := cutP_drop (k := 1)
theorem cutT2 {a b c : PyData} : cutP [a, b, c] none (some 2) = [a, b] := cutP_take (k := 2)
theorem subN {a b : PyData} : opSubs (.p (.list [a, b])) (.p (.int (-1))) S = .ok (.p b) S := subs_l rfl
theorem addT {a b c : PyData} : opAddX (.p (.tuple [a, b])) (.p (.tuple [c])) S = .ok (.p (.tuple [a, b, c])) S := addX_t (by simp [LIM])
set_option maxHeartbeats 2000000 in
theorem wp_ok {k : Nat} (hk : 3 ≤ k) {t : Tm} {us : List Tm} (h : t.wk) (hl : us.length = t.ps.length) : F P k .f_with_parts [.p t.py, .p (.list (us.map py))] S = .ok (.p (t.reb us).py) S := by
  obtain ⟨k, rfl⟩ := k3 hk
  rw [F_wp]
  refine run_ret ?_
  unfold b_f_with_parts f_with_parts_4 f_with_parts_3 f_with_parts_2 f_with_parts_1
  cases t with
  | lf w d =>
    obtain ⟨h1, h2, h3, h4⟩ := h
    obtain rfl := len0 hl
    simp [sSeq_, py, reb, h1, h2, h3, h4]
  | ho =>
    obtain rfl := len0 hl
    simp [sSeq_, py, reb]
  | us f x =>
    obtain ⟨a, b, rfl⟩ := len2 hl
    simp [sSeq_, py, reb, mkTup, LIM]
  | gv n b =>
    obtain ⟨a, rfl⟩ := len1 hl
    simp [sSeq_, py, reb, mkTup, LIM]
  | lt n b e =>
    obtain ⟨a, b, rfl⟩ := len2 hl
    simp [sSeq_, py, reb, mkTup, LIM, zipXM, seqX, zipP, lcD, finL, gTupD, gConss, gNils, wipeD, noErr, lstOf, tupleXM, subN]
  | mt s a b =>
    obtain ⟨a, b, c, rfl⟩ := len3 hl
    simp [sSeq_, py, reb, mkTup, LIM, zipXM, seqX, zipP, lcD, finL, gTupD, gConss, gNils, wipeD, noErr, lstOf, tupleXM, sliM, rlOf, cut1]
set_option maxHeartbeats 2000000 in
theorem rl_ok {k : Nat} (hk : 3 ≤ k) {t : Tm} {us : List Tm} (h : t.wk) (hl : us.length = t.ps.length) : F P k .f_rebuilt_l [.p t.py, .p (.list (us.map py))] S = .ok (.p (t.reb us).py) S := by
  obtain ⟨k, rfl⟩ := k3 hk
  rw [F_rl]
  refine run_ret ?_
  unfold b_f_rebuilt_l f_rebuilt_l_4 f_rebuilt_l_3 f_rebuilt_l_2 f_rebuilt_l_1
  cases t with
  | lf w d =>
    obtain ⟨h1, h2, h3, h4⟩ := h
    obtain rfl := len0 hl
    simp [sSeq_, py, reb, h1, h2, h3, h4]
  | ho =>
    obtain rfl := len0 hl
    simp [sSeq_, py, reb]
  | us f x =>
    obtain ⟨a, b, rfl⟩ := len2 hl
    simp [sSeq_, py, reb, mkTup, LIM]
  | gv n b =>
    obtain ⟨a, rfl⟩ := len1 hl
    simp [sSeq_, py, reb, mkTup, LIM]
  | lt n b e =>
    obtain ⟨a, b, rfl⟩ := len2 hl
    simp [sSeq_, py, reb, mkTup, LIM, zipXM, seqX, zipP, lcD, finL, gTupD, gConss, gNils, wipeD, noErr, lstOf, tupleXM, subN]
  | mt s a b =>
    obtain ⟨a, b, c, rfl⟩ := len3 hl
    simp [sSeq_, py, reb, mkTup, LIM, zipXM, seqX, zipP, lcD, finL, gTupD, gConss, gNils, wipeD, noErr, lstOf, tupleXM, sliM, rlOf, cut1, cutT2, addT]
end K79

namespace K79
open PySem L2 DL
open Tm
variable {P : Addr} {S : Sto}
theorem ps_wk {t u : Tm} (h : t.wk) (hu : u ∈ t.ps) : u.wk := by
  cases t <;> simp [ps] at hu
  · rcases hu with rfl | rfl
    · exact h.1
    · exact h.2
  · subst hu; exact h
  · rcases hu with rfl | rfl
    · exact h.1
    · exact h.2
  · rcases hu with rfl | rfl | rfl
    · exact h.1
    · exact h.2.1
    · exact h.2.2
def at1 (t : Tm) : PyData → Option Tm
  | .int i => if 0 ≤ i then t.ps[i.toNat]? else none
  | _ => none
def walk (t : Tm) : List PyData → Option Tm
  | [] => some t
  | x :: r => match at1 t x with
    | some u => walk u r
    | none => none
def placed (t : Tm) : PyData → Option Tm
  | .tuple xs => walk t xs
  | _ => none
theorem at1_mem {t u : Tm} {x : PyData} (h : at1 t x = some u) : u ∈ t.ps := by
  cases x <;> simp [at1] at h
  exact List.mem_of_getElem? h.2
theorem walk_wk {t u : Tm} {xs : List PyData} (h : t.wk) (e : walk t xs = some u) : u.wk := by
  induction xs generalizing t with
  | nil => simp [walk] at e; exact e ▸ h
  | cons x r ih =>
    simp only [walk] at e
    cases ea : at1 t x with
    | none => rw [ea] at e; cases e
    | some v => rw [ea] at e; exact ih (ps_wk h (at1_mem ea)) e
abbrev Oot (c : PyData) : Exn := ⟨"OutOfTerm", some [("place", c)]⟩
theorem lenOb {g : Sto} {xs : List PyData} : lenM [.ob g.length] (g ++ [.lst xs]) = .ok (.p (.int xs.length)) (g ++ [.lst xs]) := by simp [lenM, seqOf]
theorem subOb {g : Sto} {xs : List PyData} {i : Int} {d : PyData} (h : atI xs i = some d) : opSubs (.ob g.length) (.p (.int i)) (g ++ [.lst xs]) = .ok (.p d) (g ++ [.lst xs]) := by simp [opSubs, seqOf, h]
theorem atI_nn {xs : List PyData} {i : Int} {d : PyData} (h0 : 0 ≤ i) (h : xs[i.toNat]? = some d) : atI xs i = some d := by
  obtain ⟨n, rfl⟩ := Int.eq_ofNat_of_zero_le h0
  have hn : n < xs.length := (List.getElem?_eq_some_iff.mp h).1
  simp at h
  unfold atI ixN
  simp [hn]
  rw [List.getElem?_eq_getElem hn] at h
  exact Option.some.inj h
theorem step_pa {k : Nat} (hk : 3 ≤ k) {t : Tm} {c x : PyData} {g : Sto} {a y4 : Option D} {R : Fl → Sto → Prop} (h : t.wk)
    (q : ∀ u g' y4, at1 t x = some u → R (.next [a, some (.p c), some (.p u.py), some (.p x), y4]) (S ++ g'))
    (e : ∀ ρ g', at1 t x = none → R (.exc (Oot c) ρ) (S ++ g')) : wpS (f_part_at_2 (F P k) [a, some (.p c), some (.p t.py), some (.p x), y4] (S ++ g)) R := by
  unfold f_part_at_2 f_part_at_1
  have hp : F P k .f_parts_of_term [.p t.py] (S ++ g) = .ok (.ob (S ++ g).length) ((S ++ g) ++ [.lst (t.ps.map py)]) := pt_ok hk h
  generalize hg : S ++ g = G at hp
  have hG : ∀ z, G ++ [z] = S ++ (g ++ [z]) := fun z => by rw [← hg, List.append_assoc]
  simp only [wpS_seq]
  have rs : ∀ z : MO, at1 t x = none → wpS (sRaise "OutOfTerm" "place" (eVar 1) [a, some (.p c), some (.p t.py), some (.p x), some (.ob G.length)] (G ++ [z])) (sq (sSet 2 (e2 opSubs (eVar 4) (eVar 3))) R) := fun z hz => by
    simp [sRaise]
    rw [hG]
    exact e _ _ hz
  cases x with
  | int i =>
    simp [hp, cutX, isT, opLeX]
    by_cases h0 : 0 ≤ i
    · simp only [h0, decide_true]
      simp only [wp_bind, lenOb, wp_ok]
      simp [opLt, opC, boolM]
      by_cases h1 : i < (t.ps.length : Int)
      · have hlt : i.toNat < t.ps.length := by omega
        have hg1 : (t.ps.map py)[i.toNat]? = some (t.ps[i.toNat]).py := by simp [hlt]
        have ea : at1 t (.int i) = some t.ps[i.toNat] := by simp [at1, h0, hlt]
        rw [if_pos h1, subOb (atI_nn h0 hg1)]
        show R _ _
        rw [hG]
        exact q _ _ _ ea
      · rw [if_neg h1]
        refine rs _ ?_
        simp [at1]
        intro _
        omega
    · have hd : decide (0 ≤ i) = false := decide_eq_false h0
      simp only [hd]
      simp [boolM]
      exact rs _ (by simp [at1, h0])
  | bool b => simp [hp, cutX, isT]; exact rs _ rfl
  | none => simp [hp, cutX, isT]; exact rs _ rfl
  | str b => simp [hp, cutX, isT]; exact rs _ rfl
  | list b => simp [hp, cutX, isT]; exact rs _ rfl
  | tuple b => simp [hp, cutX, isT]; exact rs _ rfl
  | dict b => simp [hp, cutX, isT]; exact rs _ rfl
theorem loop_pa {k : Nat} (hk : 3 ≤ k) {c : PyData} {a : Option D} {R : Fl → Sto → Prop} : ∀ {xs : List PyData} {t : Tm} {g : Sto} {y3 y4 : Option D}, t.wk →
    (∀ u g' y3 y4, walk t xs = some u → R (.next [a, some (.p c), some (.p u.py), y3, y4]) (S ++ g')) → (∀ ρ g', walk t xs = none → R (.exc (Oot c) ρ) (S ++ g')) →
    wpS (forD (gN 3) (f_part_at_2 (F P k)) (xs.map .p) [a, some (.p c), some (.p t.py), y3, y4] (S ++ g)) R
  | [], t, g, y3, y4, h, q, e => by simpa using q t g y3 y4 rfl
  | x :: r, t, g, y3, y4, h, q, e => by
    simp
    refine step_pa hk h (fun u g' y4 ea => ?_) fun ρ g' ea => ?_
    · simp
      refine loop_pa hk (ps_wk h (at1_mem ea)) (fun v g' y3 y4 hv => q v g' y3 y4 (by simp [walk, ea, hv])) fun ρ g' hv => e ρ g' (by simp [walk, ea, hv])
    · simp
      exact e ρ g' (by simp [walk, ea])
theorem F_pa (k : Nat) : F P (k + 3) .f_part_at = runF 5 (b_f_part_at (F P (k + 2))) := rfl
theorem pa_wp {k : Nat} (hk : 5 ≤ k) {t : Tm} {c : PyData} {Q : D → Sto → Prop} {X : Exn → Sto → Prop} (h : t.wk) (q : ∀ u, placed t c = some u → Q (.p u.py) S) (e : placed t c = none → X (Oot c) S) : wp (cutX S.length (F P k .f_part_at [.p t.py, .p c] S)) Q X := by
  obtain ⟨k, rfl⟩ := k3 (k := k) (by omega)
  rw [F_pa]
  refine wp_cutX ?_
  rw [wp_run]
  show wpS (b_f_part_at (F P (k + 2)) [some (.p t.py), some (.p c), none, none, none] S) _
  unfold b_f_part_at f_part_at_4 f_part_at_3
  have go : ∀ xs, c = .tuple xs → wpS (forD (gN 3) (f_part_at_2 (F P (k + 2))) (xs.map .p) [some (.p t.py), some (.p (.tuple xs)), some (.p t.py), none, none] S) (sq (sRet (eVar 2)) (rn (fun d s => ∃ x, d = .p x ∧ Q (.p x) (s.take S.length)) fun x s => X x (s.take S.length))) := fun xs hc => by
    have := loop_pa (P := P) (S := S) (k := k + 2) (by omega) (c := .tuple xs) (a := some (.p t.py)) (xs := xs) (t := t) (g := []) (y3 := none) (y4 := none) (R := sq (sRet (eVar 2)) (rn (fun d s => ∃ x, d = .p x ∧ Q (.p x) (s.take S.length)) fun x s => X x (s.take S.length))) h
      (fun u g' y3 y4 hu => by simp; exact q u (by rw [hc]; exact hu)) fun ρ g' hu => by simp; subst hc; exact e hu
    simpa using this
  cases c with
  | tuple xs =>
    simp [isT]
    exact go xs rfl
  | int i => simp [isT, sRaise]; exact e rfl
  | bool b => simp [isT, sRaise]; exact e rfl
  | none => simp [isT, sRaise]; exact e rfl
  | str b => simp [isT, sRaise]; exact e rfl
  | list b => simp [isT, sRaise]; exact e rfl
  | dict b => simp [isT, sRaise]; exact e rfl
end K79

namespace K79
open PySem L2 DL
open Tm
variable {P : Addr} {S : Sto}
def pth (p : List Nat) : List PyData := p.map fun i : Nat => .int (i : Int)
def val (t : Tm) : List Nat → Option Tm
  | [] => some t
  | i :: r => match t.ps[i]? with
    | some u => val u r
    | none => none
theorem walk_pth {t : Tm} {p : List Nat} : walk t (pth p) = val t p := by
  induction p generalizing t with
  | nil => rfl
  | cons i r ih =>
    show (match at1 t (.int i) with | some u => walk u (pth r) | none => none) = _
    have : at1 t (.int (i : Int)) = t.ps[i]? := by simp [at1]
    rw [this]
    unfold val
    cases t.ps[i]? with
    | none => rfl
    | some u => exact ih
theorem walk_is {t u : Tm} {xs : List PyData} (h : walk t xs = some u) : ∃ p, xs = pth p := by
  induction xs generalizing t with
  | nil => exact ⟨[], rfl⟩
  | cons x r ih =>
    simp only [walk] at h
    cases ea : at1 t x with
    | none => rw [ea] at h; cases h
    | some v =>
      rw [ea] at h
      obtain ⟨p, rfl⟩ := ih h
      cases x <;> simp [at1] at ea
      rename_i i
      obtain ⟨n, rfl⟩ := Int.eq_ofNat_of_zero_le ea.1
      exact ⟨n :: p, rfl⟩
def put (t : Tm) : List Nat → Tm → Tm
  | [], v => v
  | i :: r, v => match t.ps[i]? with
    | some u => t.reb (t.ps.set i (put u r v))
    | none => t
theorem reb_ps {t : Tm} {us : List Tm} (h : us.length = t.ps.length) : (t.reb us).ps = us := by
  cases t with
  | lf w d => obtain rfl := len0 h; rfl
  | ho => obtain rfl := len0 h; rfl
  | us f x => obtain ⟨a, b, rfl⟩ := len2 h; rfl
  | gv n b => obtain ⟨a, rfl⟩ := len1 h; rfl
  | lt n b e => obtain ⟨a, b, rfl⟩ := len2 h; rfl
  | mt s a b => obtain ⟨a, b, c, rfl⟩ := len3 h; rfl
theorem reb_reb {t : Tm} {us vs : List Tm} (h : us.length = t.ps.length) (h2 : vs.length = t.ps.length) : (t.reb us).reb vs = t.reb vs := by
  cases t with
  | lf w d => obtain rfl := len0 h; obtain rfl := len0 h2; rfl
  | ho => obtain rfl := len0 h; obtain rfl := len0 h2; rfl
  | us f x => obtain ⟨a, b, rfl⟩ := len2 h; obtain ⟨a, b, rfl⟩ := len2 h2; rfl
  | gv n b => obtain ⟨a, rfl⟩ := len1 h; obtain ⟨a, rfl⟩ := len1 h2; rfl
  | lt n b e => obtain ⟨a, b, rfl⟩ := len2 h; obtain ⟨a, b, rfl⟩ := len2 h2; rfl
  | mt s a b => obtain ⟨a, b, c, rfl⟩ := len3 h; obtain ⟨a, b, c, rfl⟩ := len3 h2; rfl
theorem reb_self (t : Tm) : t.reb t.ps = t := by cases t <;> rfl
theorem reb_wk {t : Tm} {us : List Tm} (ht : t.wk) (h : us.length = t.ps.length) (hu : ∀ u ∈ us, u.wk) : (t.reb us).wk := by
  cases t with
  | lf w d => obtain rfl := len0 h; exact ht
  | ho => obtain rfl := len0 h; exact ht
  | us f x => obtain ⟨a, b, rfl⟩ := len2 h; exact ⟨hu a (by simp), hu b (by simp)⟩
  | gv n b => obtain ⟨a, rfl⟩ := len1 h; exact hu a (by simp)
  | lt n b e => obtain ⟨a, b, rfl⟩ := len2 h; exact ⟨hu a (by simp), hu b (by simp)⟩
  | mt s a b => obtain ⟨a, b, c, rfl⟩ := len3 h; exact ⟨hu a (by simp), hu b (by simp), hu c (by simp)⟩
theorem put_wk {t v : Tm} {p : List Nat} (ht : t.wk) (hv : v.wk) : (put t p v).wk := by
  induction p generalizing t with
  | nil => exact hv
  | cons i r ih =>
    unfold put
    cases e : t.ps[i]? with
    | none => exact ht
    | some u =>
      refine reb_wk ht (by simp) fun w hw => ?_
      rcases List.mem_or_eq_of_mem_set hw with h | rfl
      · exact ps_wk ht h
      · exact ih (ps_wk ht (List.mem_of_getElem? e))
def apart (p q : List Nat) : Prop := p.take q.length ≠ q ∧ q.take p.length ≠ p
theorem apart_nil {q : List Nat} : ¬ apart [] q := fun h => h.2 (by simp)
theorem apart_nil' {q : List Nat} : ¬ apart q [] := fun h => h.1 (by simp)
theorem apart_cons {i j : Nat} {p q : List Nat} : apart (i :: p) (j :: q) ↔ i ≠ j ∨ apart p q := by
  unfold apart
  simp only [List.length_cons, List.take_succ_cons, ne_eq, List.cons.injEq, not_and]
  by_cases h : i = j
  · subst h; simp
  · simp [h, Ne.symm h]
theorem apart_symm {p q : List Nat} (h : apart p q) : apart q p := ⟨h.2, h.1⟩
theorem val_put {v : Tm} : ∀ {t : Tm} {p q : List Nat}, apart p q → val t p ≠ none → val (put t q v) p = val t p
  | t, [], q, h, _ => absurd h apart_nil
  | t, p, [], h, _ => absurd h apart_nil'
  | t, i :: p, j :: q, h, hv => by
    unfold put
    cases ej : t.ps[j]? with
    | none => rfl
    | some u =>
      have hj : j < t.ps.length := (List.getElem?_eq_some_iff.mp ej).1
      unfold val
      rw [reb_ps (by simp)]
      by_cases hij : i = j
      · subst hij
        rw [List.getElem?_set_self hj, ej]
        have h' := (apart_cons.mp h).resolve_left (fun z => z rfl)
        refine val_put h' ?_
        intro z
        apply hv
        unfold val
        rw [ej]
        exact z
      · rw [List.getElem?_set_ne (Ne.symm hij)]
def sel (k : Nat) (qs : List (List Nat)) : List (List Nat) := qs.filterMap fun q => match q with
  | i :: r => if i = k then some r else none
  | [] => none
def hol : Tm → List (List Nat) → Tm
  | .lf w d, qs => if [] ∈ qs then .ho else .lf w d
  | .ho, qs => .ho
  | .us f x, qs => if [] ∈ qs then .ho else .us (hol f (sel 0 qs)) (hol x (sel 1 qs))
  | .gv n b, qs => if [] ∈ qs then .ho else .gv n (hol b (sel 0 qs))
  | .lt n b e, qs => if [] ∈ qs then .ho else .lt n (hol b (sel 0 qs)) (hol e (sel 1 qs))
  | .mt s a b, qs => if [] ∈ qs then .ho else .mt (hol s (sel 0 qs)) (hol a (sel 1 qs)) (hol b (sel 2 qs))
def puts (t : Tm) (qs : List (List Nat)) : Tm := qs.foldl (fun t q => put t q ho) t
theorem puts_in {t : Tm} : ∀ {qs : List (List Nat)} {ws : List Tm}, ws.length = t.ps.length → (∀ q ∈ qs, q ≠ []) → puts (t.reb ws) qs = t.reb (ws.mapIdx fun k u => puts u (sel k qs))
  | [], ws, h, _ => by
    have : (ws.mapIdx fun k u => puts u (sel k [])) = ws := by
      apply List.ext_getElem? 
      intro i
      simp [puts, sel]
    rw [this]
    rfl
  | q :: r, ws, h, hn => by
    cases q with
    | nil => exact absurd rfl (hn [] (by simp))
    | cons i q =>
      show puts (put (t.reb ws) (i :: q) ho) r = _
      unfold put
      rw [reb_ps h]
      cases e : ws[i]? with
      | none =>
        have hi : ws.length ≤ i := List.getElem?_eq_none_iff.mp e
        show puts (t.reb ws) r = _
        rw [puts_in h fun q hq => hn q (by simp [hq])]
        congr 1
        apply List.ext_getElem?
        intro j
        simp only [List.getElem?_mapIdx]
        cases ej : ws[j]? with
        | none => rfl
        | some u =>
          have hj : j < ws.length := (List.getElem?_eq_some_iff.mp ej).1
          have : i ≠ j := by omega
          simp [sel, this]
      | some u =>
        have hi : i < ws.length := (List.getElem?_eq_some_iff.mp e).1
        show puts ((t.reb ws).reb (ws.set i (put u q ho))) r = _
        rw [reb_reb h (by simp [h]), puts_in (by simp [h]) fun q hq => hn q (by simp [hq])]
        congr 1
        apply List.ext_getElem?
        intro j
        simp only [List.getElem?_mapIdx]
        by_cases hij : i = j
        · subst hij
          rw [List.getElem?_set_self hi, e]
          simp [sel, puts]
        · rw [List.getElem?_set_ne hij]
          cases ws[j]? with
          | none => rfl
          | some w => simp [sel, hij]
theorem sel_mem {k : Nat} {qs : List (List Nat)} {r : List Nat} : r ∈ sel k qs ↔ (k :: r) ∈ qs := by
  unfold sel
  rw [List.mem_filterMap]
  constructor
  · rintro ⟨q, hq, e⟩
    cases q with
    | nil => cases e
    | cons i q =>
      by_cases h : i = k
      · simp [h] at e
        rw [← h, ← e] ; rw [h]; exact h ▸ hq
      · simp [h] at e
  · exact fun h => ⟨_, h, by simp⟩
def Ap (qs : List (List Nat)) : Prop := qs.Pairwise apart
theorem sel_ap {k : Nat} {qs : List (List Nat)} (h : Ap qs) : Ap (sel k qs) := by
  unfold Ap sel
  rw [List.pairwise_filterMap]
  refine List.Pairwise.imp ?_ h
  intro a b hab x hx y hy
  cases a with
  | nil => exact absurd hab apart_nil
  | cons i a =>
    cases b with
    | nil => exact absurd hab apart_nil'
    | cons j b =>
      by_cases h1 : i = k
      · by_cases h2 : j = k
        · simp [h1] at hx
          simp [h2] at hy
          subst hx hy h1 h2
          exact (apart_cons.mp hab).resolve_left (fun z => z rfl)
        · simp [h2] at hy
      · simp [h1] at hx
theorem ap_nil {qs : List (List Nat)} (h : Ap qs) (hn : [] ∈ qs) : qs = [[]] := by
  match qs, h, hn with
  | [q], h, hn => simp at hn; rw [← hn]
  | q :: r :: s, h, hn =>
    exfalso
    rcases List.mem_cons.mp hn with e | e
    · subst e
      exact apart_nil ((List.pairwise_cons.mp h).1 r (by simp))
    · exact apart_nil' ((List.pairwise_cons.mp h).1 [] e)
theorem hol_ok : ∀ {t : Tm} {qs : List (List Nat)}, Ap qs → puts t qs = hol t qs := by
  intro t
  have top : ∀ {t : Tm} {qs : List (List Nat)}, Ap qs → [] ∈ qs → puts t qs = ho := fun {t qs} h hn => by rw [ap_nil h hn]; rfl
  have low : ∀ {t : Tm} {qs : List (List Nat)}, [] ∉ qs → puts t qs = t.reb (t.ps.mapIdx fun k u => puts u (sel k qs)) := fun {t qs} hn => by
    have := puts_in (t := t) (qs := qs) (ws := t.ps) rfl fun q hq e => hn (e ▸ hq)
    rw [reb_self] at this
    exact this
  induction t with
  | lf w d =>
    intro qs h
    by_cases hn : [] ∈ qs
    · rw [top h hn]; simp [hol, hn]
    · rw [low hn]; simp [hol, hn, ps, reb]
  | ho =>
    intro qs h
    by_cases hn : [] ∈ qs
    · rw [top h hn]; rfl
    · rw [low hn]; rfl
  | us f x i1 i2 =>
    intro qs h
    by_cases hn : [] ∈ qs
    · rw [top h hn]; simp [hol, hn]
    · rw [low hn]; simp [hol, hn, ps, reb, List.mapIdx_cons, i1 (sel_ap h), i2 (sel_ap h)]
  | gv n b i1 =>
    intro qs h
    by_cases hn : [] ∈ qs
    · rw [top h hn]; simp [hol, hn]
    · rw [low hn]; simp [hol, hn, ps, reb, List.mapIdx_cons, i1 (sel_ap h)]
  | lt n b e i1 i2 =>
    intro qs h
    by_cases hn : [] ∈ qs
    · rw [top h hn]; simp [hol, hn]
    · rw [low hn]; simp [hol, hn, ps, reb, List.mapIdx_cons, i1 (sel_ap h), i2 (sel_ap h)]
  | mt s a b i1 i2 i3 =>
    intro qs h
    by_cases hn : [] ∈ qs
    · rw [top h hn]; simp [hol, hn]
    · rw [low hn]; simp [hol, hn, ps, reb, List.mapIdx_cons, i1 (sel_ap h), i2 (sel_ap h), i3 (sel_ap h)]
end K79

namespace K79
open PySem L2 DL
open Tm
variable {P : Addr} {S : Sto}
theorem F_wpt (k : Nat) : F P (k + 3) .f_with_part = runF 4 (b_f_with_part (F P (k + 2))) := rfl
theorem ixN_nat {n i : Nat} (h : i < n) : ixN n (i : Int) = some i := by unfold ixN; simp [h]
theorem cut_ok {d : PyData} {g : Sto} : cutX S.length (.ok (.p d) (S ++ g)) = .ok (.p d) S := by simp [cutX]
theorem pth_drop {i : Nat} {p : List Nat} : cutP (.int (i : Int) :: pth p) (some 1) none = pth p := by
  have := cutP_drop (xs := .int (i : Int) :: pth p) (k := 1)
  simpa using this
theorem wpt_step {r : Fn → List D → M D} {tp vp up w res : PyData} {i : Int} {xs l1 l2 : List PyData} (hpt : r .f_parts_of_term [.p tp] S = .ok (.ob S.length) (S ++ [.lst l1]))
    (h0 : ∀ z : Sto, opSubs (.p (.tuple (.int i :: xs))) (.p (.int 0)) z = .ok (.p (.int i)) z) (hsub : opSubs (.ob S.length) (.p (.int i)) (S ++ [.lst l1]) = .ok (.p up) (S ++ [.lst l1]))
    (hs : ∀ z : Sto, sliM (.p (.tuple (.int i :: xs))) (some 1) none z = .ok (.p (.tuple xs)) z) (ih : cutX (S ++ [MO.lst l1]).length (r .f_with_part [.p up, .p (.tuple xs), .p vp] (S ++ [.lst l1])) = .ok (.p w) (S ++ [.lst l1]))
    (hset : setD (.ob S.length) (.p (.int i)) (.p w) (S ++ [.lst l1]) = some (S ++ [.lst l2])) (hice : iceD (.ob S.length) (S ++ [.lst l2]) = (.p (.list l2), S ++ [.dead])) (hw : r .f_with_parts [.p tp, .p (.list l2)] (S ++ [.dead]) = .ok (.p res) (S ++ [.dead])) :
    runF 4 (b_f_with_part r) [.p tp, .p (.tuple (.int i :: xs)), .p vp] S = .ok (.p res) (S ++ [.dead]) := by
  have hc1 : cutX S.length (.ok (.ob S.length) (S ++ [.lst l1])) = .ok (.ob S.length) (S ++ [.lst l1]) := by simp [cutX]
  have hc2 : ∀ d : PyData, cutX (S ++ [MO.dead]).length (.ok (.p d) (S ++ [.dead])) = .ok (.p d) (S ++ [.dead]) := fun d => by
    show Out.ok _ (List.take _ _) = _
    rw [List.take_of_length_le (Nat.le_refl _)]
  refine wp_eq ?_
  rw [wp_run]
  show wpS (b_f_with_part r [some (.p tp), some (.p (.tuple (.int i :: xs))), some (.p vp), none] S) _
  unfold b_f_with_part f_with_part_1
  simp [mkTup, LIM, hpt, hc1, h0, hsub, hs, -List.length_append]
  rw [ih]
  simp [gSubD, h0, hset, sIce, hice, hw, hc2, -List.length_append]
set_option maxHeartbeats 1000000 in
theorem wpt_ok {v : Tm} (hv : v.wk) : ∀ {p : List Nat} {k : Nat} {t : Tm} {S : Sto}, p.length + 5 ≤ k → t.wk → val t p ≠ none → cutX S.length (F P k .f_with_part [.p t.py, .p (.tuple (pth p)), .p v.py] S) = .ok (.p (put t p v).py) S
  | [], k, t, S, hk, ht, hp => by
    obtain ⟨k, rfl⟩ := k3 (k := k) (by simp at hk; omega)
    rw [F_wpt]
    have : runF 4 (b_f_with_part (F P (k + 2))) [.p t.py, .p (.tuple (pth [])), .p v.py] S = .ok (.p v.py) S := by
      refine run_ret ?_
      unfold b_f_with_part
      simp [sSeq_, pth, mkTup, LIM]
    rw [this]
    simp [cutX, put]
  | i :: p, k, t, S, hk, ht, hp => by
    obtain ⟨k, rfl⟩ := k3 (k := k) (by simp at hk; omega)
    rw [F_wpt]
    have hpt : F P (k + 2) .f_parts_of_term [.p t.py] S = .ok (.ob S.length) (S ++ [.lst (t.ps.map py)]) := pt_ok (by simp at hk; omega) ht
    cases ei : t.ps[i]? with
    | none => exact absurd (by simp [val, ei]) hp
    | some u =>
      have hi : i < t.ps.length := (List.getElem?_eq_some_iff.mp ei).1
      have hu : u.wk := ps_wk ht (List.mem_of_getElem? ei)
      have ih := wpt_ok hv (p := p) (k := k + 2) (t := u) (S := S ++ [.lst (t.ps.map py)]) (by simp at hk; omega) hu (by simpa [val, ei] using hp)
      have hsub : opSubs (.ob S.length) (.p (.int (i : Int))) (S ++ [.lst (t.ps.map py)]) = .ok (.p u.py) (S ++ [.lst (t.ps.map py)]) := subOb (atI_nn (by omega) (by simp [ei]))
      have h0 : ∀ z : Sto, opSubs (.p (.tuple (.int (i : Int) :: pth p))) (.p (.int 0)) z = .ok (.p (.int (i : Int))) z := fun z => subs_t (atI_nn (by decide) (by simp))
      have hset : setD (.ob S.length) (.p (.int (i : Int))) (.p (put u p v).py) (S ++ [.lst (t.ps.map py)]) = some (S ++ [.lst ((t.ps.map py).set i (put u p v).py)]) := by
        simp [setD, ixN_nat (n := t.ps.length) hi]
      have hmap : (t.ps.map py).set i (put u p v).py = (t.ps.set i (put u p v)).map py := by rw [List.map_set]
      have hw := wp_ok (P := P) (S := S ++ [.dead]) (k := k + 2) (by simp at hk; omega) (us := t.ps.set i (put u p v)) ht (by simp)
      have hice : iceD (.ob S.length) (S ++ [.lst ((t.ps.set i (put u p v)).map py)]) = (.p (.list ((t.ps.set i (put u p v)).map py)), S ++ [.dead]) := by simp [iceD]
      have hput : put t (i :: p) v = t.reb (t.ps.set i (put u p v)) := by simp [put, ei]
      rw [hput]
      have hs : ∀ z : Sto, sliM (.p (.tuple (.int (i : Int) :: pth p))) (some 1) none z = .ok (.p (.tuple (pth p))) z := fun z => by
        show Out.ok (D.p (.tuple (cutP (.int (i : Int) :: pth p) (some 1) none))) z = _
        rw [pth_drop]
      rw [hmap] at hset
      have : runF 4 (b_f_with_part (F P (k + 2))) [.p t.py, .p (.tuple (pth (i :: p))), .p v.py] S = .ok (.p (t.reb (t.ps.set i (put u p v))).py) (S ++ [.dead]) :=
        wpt_step hpt h0 hsub hs ih hset hice hw
      rw [this, cut_ok]
end K79

namespace K79
open PySem L2 DL
open Tm
variable {P : Addr} {S : Sto}
theorem canAll {xs : List PyData} (h : ∀ d ∈ xs, d.canLay0 = true) : PyData.canLayAll0 xs = true := by
  induction xs with
  | nil => rfl
  | cons x r ih => simp only [PyData.canLayAll0, Bool.and_eq_true]; exact ⟨h x (by simp), ih fun d hd => h d (by simp [hd])⟩
theorem depAll {xs : List PyData} {m : Nat} (h : ∀ d ∈ xs, d.depth ≤ m) : PyData.depthAll xs ≤ m := by
  induction xs with
  | nil => simp [PyData.depthAll]
  | cons x r ih =>
    have h1 := h x (by simp)
    have h2 := ih fun d hd => h d (by simp [hd])
    simp only [PyData.depthAll]
    omega
theorem shL {xs : List PyData} (h : ∀ d ∈ xs, d.canLay0 = true ∧ d.depth ≤ 62) : SeqAt.shaped (.list xs) = true := by
  have h1 := canAll fun d hd => (h d hd).1
  have h2 := depAll fun d hd => (h d hd).2
  simp [SeqAt.shaped, PyData.canLay0, h1, PyData.depth]
  omega
theorem shT {xs : List PyData} (h : ∀ d ∈ xs, d.canLay0 = true ∧ d.depth ≤ 62) : SeqAt.shaped (.tuple xs) = true := by
  have h1 := canAll fun d hd => (h d hd).1
  have h2 := depAll fun d hd => (h d hd).2
  simp [SeqAt.shaped, PyData.canLay0, h1, PyData.depth]
  omega
theorem pth_sh (p : List Nat) : SeqAt.shaped (.tuple (pth p)) = true := shT fun d hd => by
  obtain ⟨i, _, rfl⟩ := List.mem_map.mp hd
  simp [PyData.canLay0, PyData.depth]
theorem pth_eqv : ∀ {a b : List Nat}, PyData.eqvAll (pth a) (pth b) = decide (a = b)
  | [], [] => rfl
  | [], _ :: _ => rfl
  | _ :: _, [] => rfl
  | x :: a, y :: b => by
    have ih := pth_eqv (a := a) (b := b)
    show (PyData.eqv (.int (x : Int)) (.int (y : Int)) && PyData.eqvAll (pth a) (pth b)) = _
    rw [ih]
    by_cases h : x = y
    · subst h; simp [PyData.eqv]
    · have h2 : ¬ (x : Int) = (y : Int) := by omega
      simp [PyData.eqv, h, h2]
theorem eq_pth {neg : Bool} {a b : List Nat} : opEqZ neg (.p (.tuple (pth a))) (.p (.tuple (pth b))) S = .ok (.p (.bool (if neg then !decide (a = b) else decide (a = b)))) S := by
  cases b with
  | nil =>
    show opEqZ neg (.p (.tuple (pth a))) (.p (.tuple [])) S = _
    rw [eqZ_t0]
    cases a <;> rfl
  | cons y b =>
    have e := pth_eqv (a := a) (b := y :: b)
    have hs : SeqAt.shaped (.tuple (.int (y : Int) :: pth b)) = true := pth_sh (y :: b)
    show opEqZ neg (.p (.tuple (pth a))) (.p (.tuple (.int (y : Int) :: pth b))) S = _
    rw [eqZ_t, eqX_t (pth_sh a) hs]
    have e : PyData.eqvAll (pth a) (.int (y : Int) :: pth b) = _ := e
    rw [e]
theorem pth_len (p : List Nat) : (pth p).length = p.length := by simp [pth]
theorem pth_take {p : List Nat} {n : Nat} : cutP (pth p) none (some (n : Int)) = pth (p.take n) := by rw [cutP_take]; simp [pth, List.map_take]
theorem F_iw (k : Nat) : F P (k + 3) .f_is_within_place = runF 2 (b_f_is_within_place (F P (k + 2))) := rfl
theorem sli_pth {p : List Nat} {n : Nat} : sliM (.p (.tuple (pth p))) none (some (n : Int)) S = .ok (.p (.tuple (pth (p.take n)))) S := by
  show Out.ok (D.p (.tuple (cutP (pth p) none (some (n : Int))))) S = _
  rw [pth_take]
theorem len_pth {p : List Nat} : lenM [.p (.tuple (pth p))] S = .ok (.p (.int (p.length : Int))) S := by simp [lenM, seqOf, pth_len]
theorem iw_ok {k : Nat} (hk : 3 ≤ k) {p q : List Nat} : F P k .f_is_within_place [.p (.tuple (pth p)), .p (.tuple (pth q))] S = .ok (.p (.bool (decide (p.take q.length = q)))) S := by
  obtain ⟨k, rfl⟩ := k3 hk
  rw [F_iw]
  refine run_ret ?_
  unfold b_f_is_within_place
  simp [len_pth, sli_pth, eq_pth, pth_len]
def unp : PyData → List Nat
  | .tuple xs => xs.map fun x => match x with
    | .int i => i.toNat
    | _ => 0
  | _ => []
theorem unp_pth {p : List Nat} : unp (.tuple (pth p)) = p := by
  simp [unp, pth, Function.comp_def]
theorem placed_is {t u : Tm} {c : PyData} (h : placed t c = some u) : c = .tuple (pth (unp c)) ∧ val t (unp c) = some u := by
  cases c <;> simp [placed] at h
  obtain ⟨p, rfl⟩ := walk_is h
  rw [walk_pth] at h
  rw [unp_pth]
  exact ⟨rfl, h⟩
theorem placed_pth {t : Tm} {p : List Nat} : placed t (.tuple (pth p)) = val t p := walk_pth
def wi (p q : List Nat) : Bool := decide (p.take q.length = q) || decide (q.take p.length = p)
theorem wi_apart {p q : List Nat} (h : wi p q = false) : apart p q := by
  simp [wi] at h
  exact h
def chk (t : Tm) : List (List Nat) → List PyData → Option PyData
  | _, [] => none
  | dn, c :: r => match placed t c with
    | none => some c
    | some _ => if (dn.any fun q => wi (unp c) q) = true then some c else chk t (dn ++ [unp c]) r
/-- the inner loop -/
theorem inner_na {k : Nat} (hk : 3 ≤ k) {a b n : Option D} {p : List Nat} {R : Fl → Sto → Prop} : ∀ {qs : List (List Nat)} {y : Option D}, ((qs.any fun q => wi p q) = false → ∀ y, R (.next [a, b, n, some (.p (.tuple (pth p))), y]) S) → ((qs.any fun q => wi p q) = true → ∀ ρ, R (.exc (Oot (.tuple (pth p))) ρ) S) →
    wpS (forD (gN 4) (f_need_apart_places_1 (F P k)) (qs.map fun q => D.p (.tuple (pth q))) [a, b, n, some (.p (.tuple (pth p))), y] S) R
  | [], y, q, e => by simpa using q rfl y
  | r :: qs, y, q, e => by
    simp
    unfold f_need_apart_places_1
    have h1 := iw_ok (P := P) (S := S) hk (p := p) (q := r)
    have h2 := iw_ok (P := P) (S := S) hk (p := r) (q := p)
    simp [h1, h2, cutX]
    have nx : wi p r = false → wpS (forD (gN 4) (f_need_apart_places_1 (F P k)) (qs.map fun q => D.p (.tuple (pth q))) [a, b, n, some (.p (.tuple (pth p))), some (.p (.tuple (pth r)))] S) R := fun hw =>
      inner_na hk (fun hq y => q (by simp only [List.any_cons, hw, Bool.false_or]; exact hq) y) fun hq ρ => e (by simp only [List.any_cons, hw, Bool.false_or]; exact hq) ρ
    have ex : wi p r = true → wpS (sRaise "OutOfTerm" "place" (eVar 3) [a, b, n, some (.p (.tuple (pth p))), some (.p (.tuple (pth r)))] S) (fq (gN 4) (f_need_apart_places_1 (F P k)) (qs.map fun q => D.p (.tuple (pth q))) R) := fun hw => by
      simp [sRaise]
      exact e (by simp only [List.any_cons, hw, Bool.true_or]) _
    by_cases c1 : p.take r.length = r
    · rw [if_pos c1]
      exact ex (by simp [wi, c1])
    · rw [if_neg c1]
      by_cases c2 : r.take p.length = p
      · rw [if_pos c2]
        exact ex (by simp [wi, c2])
      · rw [if_neg c2]
        exact nx (by simp [wi, c1, c2])
end K79

namespace K79
open PySem L2 DL
open Tm
variable {P : Addr} {S : Sto}
def tp (p : List Nat) : PyData := .tuple (pth p)
theorem enum_c {n : Nat} {c : PyData} {r : List PyData} : enumP n (c :: r) = .p (.tuple [.int (n : Nat), c]) :: enumP (n + 1) r := rfl
theorem outer_na {k : Nat} (hk : 5 ≤ k) {t : Tm} (ht : t.wk) {cs : List PyData} {R : Fl → Sto → Prop} : ∀ {rest : List PyData} {dn : List (List Nat)} {y2 y3 y4 : Option D}, cs = dn.map tp ++ rest →
    (chk t dn rest = none → ∀ y2 y3 y4, R (.next [some (.p t.py), some (.p (.tuple cs)), y2, y3, y4]) S) → (∀ c, chk t dn rest = some c → ∀ ρ, R (.exc (Oot c) ρ) S) →
    wpS (forD (gTupD 2 (gConss (gN 2) (gConss (gN 3) gNils))) (f_need_apart_places_2 (F P k)) (enumP dn.length rest) [some (.p t.py), some (.p (.tuple cs)), y2, y3, y4] S) R
  | [], dn, y2, y3, y4, hc, q, e => by
    show wpS (forD _ _ [] _ _) _
    simpa using q rfl y2 y3 y4
  | c :: r, dn, y2, y3, y4, hc, q, e => by
    rw [enum_c, wpS_forD]
    simp only [gTupD, List.length_cons, List.length_nil, if_true, List.map_cons, List.map_nil, gConss, gN, gNils, wpG_some, List.set]
    unfold f_need_apart_places_2
    simp [-sFor_]
    refine pa_wp hk ht (fun u hu => ?_) fun hu => ?_
    · obtain ⟨ec, ev⟩ := placed_is hu
      have hs : sliM (.p (.tuple cs)) none (some (dn.length : Int)) S = .ok (.p (.tuple (dn.map tp))) S := by
        show Out.ok (D.p (.tuple (cutP cs none (some (dn.length : Int))))) S = _
        rw [cutP_take, hc]
        simp
      simp [hs]
      have hmap : List.map (D.p ∘ tp) dn = dn.map fun q => D.p (.tuple (pth q)) := rfl
      have ein : some (D.p c) = some (D.p (.tuple (pth (unp c)))) := by rw [← ec]
      rw [hmap, ein]
      refine inner_na (by omega) (fun hn y => ?_) fun hn ρ => ?_
      · simp
        have hch : chk t dn (c :: r) = chk t (dn ++ [unp c]) r := by simp only [chk, hu, hn]; rfl
        have := outer_na hk ht (cs := cs) (R := R) (rest := r) (dn := dn ++ [unp c]) (y2 := some (.p (.int (dn.length : Int)))) (y3 := some (.p (.tuple (pth (unp c))))) (y4 := y) (by
          rw [hc, List.map_append, List.append_assoc]
          simp [tp, ← ec]) (fun h => q (by rw [hch]; exact h)) fun c' h => e c' (by rw [hch]; exact h)
        rw [show (dn ++ [unp c]).length = dn.length + 1 by simp] at this
        exact this
      · simp
        rw [← ec]
        exact e c (by simp only [chk, hu, hn]; rfl) ρ
    · exact e c (by simp only [chk, hu]) _
theorem F_na (k : Nat) : F P (k + 3) .f_need_apart_places = runF 5 (b_f_need_apart_places (F P (k + 2))) := rfl
theorem na_wp {k : Nat} (hk : 8 ≤ k) {t : Tm} (ht : t.wk) {cs : List PyData} {Q : D → Sto → Prop} {X : Exn → Sto → Prop} (q : chk t [] cs = none → Q (.p .none) S) (e : ∀ c, chk t [] cs = some c → X (Oot c) S) : wp (cutX S.length (F P k .f_need_apart_places [.p t.py, .p (.tuple cs)] S)) Q X := by
  obtain ⟨k, rfl⟩ := k3 (k := k) (by omega)
  rw [F_na]
  refine wp_cutXS ?_
  rw [wp_run]
  show wpS (b_f_need_apart_places (F P (k + 2)) [some (.p t.py), some (.p (.tuple cs)), none, none, none] S) _
  unfold b_f_need_apart_places
  simp [enumXM]
  have := outer_na (P := P) (S := S) (k := k + 2) (by omega) ht (cs := cs) (rest := cs) (dn := []) (y2 := none) (y3 := none) (y4 := none) (R := rn (fun d s => s.length = S.length ∧ Q d s) fun x s => s.length = S.length ∧ X x s) (by simp)
    (fun h y2 y3 y4 => by simp; exact q h) fun c h ρ => by simp; exact e c h
  simpa using this
theorem chk_none {t : Tm} : ∀ {cs : List PyData} {dn : List (List Nat)}, chk t dn cs = none → (∀ c ∈ cs, c = tp (unp c) ∧ val t (unp c) ≠ none) ∧ (∀ q ∈ dn, ∀ c ∈ cs, apart q (unp c)) ∧ Ap (cs.map unp)
  | [], dn, _ => ⟨by simp, by simp, List.Pairwise.nil⟩
  | c :: r, dn, h => by
    simp only [chk] at h
    cases hu : placed t c with
    | none => rw [hu] at h; cases h
    | some u =>
      rw [hu] at h
      by_cases hw : (dn.any fun q => wi (unp c) q) = true
      · simp only [hw, if_true] at h; cases h
      · simp only [hw] at h
        obtain ⟨h1, h2, h3⟩ := chk_none h
        obtain ⟨ec, ev⟩ := placed_is hu
        refine ⟨fun d hd => ?_, fun q hq d hd => ?_, ?_⟩
        · rcases List.mem_cons.mp hd with rfl | hd
          · exact ⟨ec, by rw [ev]; simp⟩
          · exact h1 d hd
        · rcases List.mem_cons.mp hd with rfl | hd
          · refine apart_symm (wi_apart ?_)
            cases hb : wi (unp d) q with
            | false => rfl
            | true => exact absurd (List.any_eq_true.mpr ⟨q, hq, hb⟩) hw
          · exact h2 q (by simp [hq]) d hd
        · rw [List.map_cons]
          refine List.Pairwise.cons (fun b hb => ?_) h3
          obtain ⟨d, hd, rfl⟩ := List.mem_map.mp hb
          exact h2 _ (by simp) d hd
theorem ho_wk : ho.wk := trivial
theorem hole_py : g_HOLE = ho.py := rfl
theorem loop_cut {k : Nat} {b : Option D} {R : Fl → Sto → Prop} : ∀ {qs : List (List Nat)} {t : Tm} {y : Option D}, t.wk → (∀ q ∈ qs, q.length + 5 ≤ k ∧ val t q ≠ none) → Ap qs → (∀ y, R (.next [some (.p (puts t qs).py), b, y]) S) →
    wpS (forD (gN 2) (f_cut_1 (F P k)) (qs.map fun q => D.p (tp q)) [some (.p t.py), b, y] S) R
  | [], t, y, _, _, _, q => by simp; exact q y
  | p :: qs, t, y, ht, hv, ha, q => by
    simp
    unfold f_cut_1
    obtain ⟨h1, h2⟩ := hv p (by simp)
    have hw := wpt_ok (P := P) ho_wk (p := p) (k := k) (t := t) (S := S) h1 ht h2
    simp [hole_py, tp, hw]
    refine loop_cut (put_wk ht ho_wk) (fun q hq => ⟨(hv q (by simp [hq])).1, ?_⟩) (List.pairwise_cons.mp ha).2 fun y => ?_
    · rw [val_put (apart_symm ((List.pairwise_cons.mp ha).1 q hq)) (hv q (by simp [hq])).2]
      exact (hv q (by simp [hq])).2
    · exact q y
theorem F_cut (k : Nat) : F P (k + 3) .f_cut = runV 1 3 (b_f_cut (F P (k + 2))) := rfl
theorem pys_p : ∀ cs : List PyData, pys (cs.map D.p) = some cs
  | [] => rfl
  | c :: r => by simp [pys, pys_p r]
theorem cut_wp {k : Nat} (hk : 20 ≤ k) {t : Tm} (ht : t.wk) {cs : List PyData} (hl : cs.length ≤ 100) (hp : ∀ p, val t p ≠ none → p.length ≤ 10) {Q : D → Sto → Prop} {X : Exn → Sto → Prop} (q : chk t [] cs = none → Q (.p (hol t (cs.map unp)).py) S) (e : ∀ c, chk t [] cs = some c → X (Oot c) S) :
    wp (cutX S.length (F P k .f_cut (.p t.py :: cs.map .p) S)) Q X := by
  obtain ⟨k, rfl⟩ := k3 (k := k) (by omega)
  rw [F_cut]
  have hr : runV 1 3 (b_f_cut (F P (k + 2))) (.p t.py :: cs.map .p) S = runF 3 (b_f_cut (F P (k + 2))) [.p t.py, .p (.tuple cs)] S := by
    unfold runV
    rw [if_pos (by simp [LIM]; omega)]
    simp [pys_p]
  rw [hr]
  refine wp_cutXS ?_
  rw [wp_run]
  show wpS (b_f_cut (F P (k + 2)) [some (.p t.py), some (.p (.tuple cs)), none] S) _
  unfold b_f_cut f_cut_2
  simp [-sFor_]
  refine na_wp (by omega) ht (fun hn => ?_) fun c hn => ?_
  · obtain ⟨h1, _, h3⟩ := chk_none hn
    simp
    have hm : (cs.map D.p) = (cs.map unp).map fun q => D.p (tp q) := by
      rw [List.map_map]
      exact List.map_congr_left fun c hc => by show D.p c = D.p (tp (unp c)); rw [← (h1 c hc).1]
    rw [hm]
    refine loop_cut ht (fun p hp' => ?_) h3 fun y => ?_
    · obtain ⟨c, hc, rfl⟩ := List.mem_map.mp hp'
      have := hp _ (h1 c hc).2
      exact ⟨by omega, (h1 c hc).2⟩
    · simp
      rw [hol_ok h3]
      exact q hn
  · simp
    exact e c hn
end K79

namespace K79
open PySem L2 DL
open Tm
variable {P : Addr} {S : Sto}
def Tm.dep : Tm → Nat
  | .lf _ _ => 1
  | .ho => 1
  | .us f x => 1 + max f.dep x.dep
  | .gv _ b => 1 + b.dep
  | .lt _ b e => 1 + max b.dep e.dep
  | .mt s a b => 1 + max s.dep (max a.dep b.dep)
theorem ps_dep {t u : Tm} (hu : u ∈ t.ps) : u.dep < t.dep := by
  cases t <;> simp [ps] at hu
  · rcases hu with rfl | rfl <;> simp [dep] <;> omega
  · subst hu; simp [dep]
  · rcases hu with rfl | rfl <;> simp [dep] <;> omega
  · rcases hu with rfl | rfl | rfl <;> simp [dep] <;> omega
theorem val_dep {t : Tm} {p : List Nat} (h : val t p ≠ none) : p.length < t.dep := by
  induction p generalizing t with
  | nil => cases t <;> simp [dep] <;> omega
  | cons i r ih =>
    unfold val at h
    cases e : t.ps[i]? with
    | none => rw [e] at h; exact absurd rfl h
    | some u =>
      rw [e] at h
      have h1 := ih h
      have h2 := ps_dep (List.mem_of_getElem? e)
      simp only [List.length_cons]
      omega
theorem hol_eq (t : Tm) (qs : List (List Nat)) : hol t qs = if [] ∈ qs then ho else t.reb (t.ps.mapIdx fun k u => hol u (sel k qs)) := by
  cases t with
  | lf w d => rfl
  | ho => simp [hol, ps, reb]
  | us f x => rfl
  | gv n b => rfl
  | lt n b e => rfl
  | mt s a b => rfl
theorem tp_d (q : List Nat) : (tp q).canLay0 = true ∧ (tp q).depth ≤ 2 := by
  have h1 : PyData.canLayAll0 (pth q) = true := canAll fun d hd => by obtain ⟨i, _, rfl⟩ := List.mem_map.mp hd; rfl
  have h2 : PyData.depthAll (pth q) ≤ 1 := depAll fun d hd => by obtain ⟨i, _, rfl⟩ := List.mem_map.mp hd; simp [PyData.depth]
  refine ⟨by simpa [tp, PyData.canLay0] using h1, ?_⟩
  simp only [tp, PyData.depth]
  omega
theorem in_tp {qs : List (List Nat)} : opInX false (.p (.tuple [])) (.p (.list (qs.map tp))) S = .ok (.p (.bool (decide ([] ∈ qs)))) S := by
  have h1 : SeqAt.shaped (.list (qs.map tp)) = true := shL fun d hd => by
    obtain ⟨q, _, rfl⟩ := List.mem_map.mp hd
    exact ⟨(tp_d q).1, by have := (tp_d q).2; omega⟩
  have h2 : ((qs.map tp).any fun z => PyData.eqv z (.tuple [])) = decide ([] ∈ qs) := by
    rw [List.any_map]
    by_cases h : [] ∈ qs
    · rw [decide_eq_true h, List.any_eq_true]
      exact ⟨[], h, rfl⟩
    · rw [decide_eq_false h, List.any_eq_false]
      intro q hq
      cases q with
      | nil => exact absurd hq h
      | cons i q => simp [tp, pth, PyData.eqv, PyData.eqvAll]
  have h3 : SeqAt.shaped (.tuple []) = true := rfl
  simp [opInX, opIn, seqOf, flatP, deepIn, val, h1, h3, DL.val]
  simpa using h2
theorem lcD_f {α : Type} {g : FG} {t : FT} {e : FE} {ρ : Ev} {S : Sto} (p h : α → PyData) (c : α → Bool) : ∀ {xs : List α}, (∀ x ∈ xs, ∃ ρ1, g (.p (p x)) ρ S = some (ρ1, S) ∧ t ρ1 S = .ok (c x) S ∧ (c x = true → e ρ1 S = .ok (.p (h x)) S)) → lcD g t e ρ (xs.map fun x => D.p (p x)) S = .ok ((xs.filter c).map h) S
  | [], _ => rfl
  | x :: r, H => by
    obtain ⟨ρ1, h1, h2, h3⟩ := H x (by simp)
    have ih := lcD_f p h c (xs := r) (g := g) (t := t) (e := e) (ρ := ρ) (S := S) fun y hy => H y (by simp [hy])
    rw [List.map_cons]
    unfold lcD
    cases hc : c x with
    | false => rw [hc] at h2; simp [h1, h2, ih, List.filter_cons, hc]
    | true => rw [hc] at h2; simp [h1, h2, h3 hc, ih, List.filter_cons, hc]
def hd0 (k : Nat) : List Nat → Bool
  | i :: _ => i == k
  | [] => false
theorem sel_flt {k : Nat} {qs : List (List Nat)} : (qs.filter (hd0 k)).map (fun q => tp q.tail) = (sel k qs).map tp := by
  induction qs with
  | nil => rfl
  | cons q r ih =>
    cases q with
    | nil => simpa [hd0, sel] using ih
    | cons i q =>
      by_cases h : i = k
      · simp [hd0, sel, h, List.filter_cons] at ih ⊢
        exact ih
      · simp [hd0, sel, h, List.filter_cons] at ih ⊢
        exact ih
theorem sel_len {k : Nat} {qs : List (List Nat)} : (sel k qs).length ≤ qs.length := List.length_filterMap_le _ _
theorem F_hl (k : Nat) : F P (k + 3) .f_holed_l = runF 6 (b_f_holed_l (F P (k + 2))) := rfl
theorem mapIdx_take {α β : Type} {f : Nat → α → β} {l : List α} {j : Nat} {u : α} (h : l[j]? = some u) : (l.mapIdx f).take (j + 1) = (l.mapIdx f).take j ++ [f j u] := by
  rw [List.take_add_one]
  simp [h]
set_option maxHeartbeats 1000000 in
theorem hl_ok : ∀ {k : Nat} {t : Tm} {qs : List (List Nat)} {S : Sto}, t.dep + 5 ≤ k → t.wk → qs.length ≤ 1000 → cutX S.length (F P k .f_holed_l [.p t.py, .p (.list (qs.map tp))] S) = .ok (.p (hol t qs).py) S
  | k, t, qs, S, hk, ht, hq => by
    obtain ⟨k, rfl⟩ := k3 (k := k) (by omega)
    rw [F_hl]
    refine wp_eq (wp_cutX ?_)
    rw [wp_run]
    show wpS (b_f_holed_l (F P (k + 2)) [some (.p t.py), some (.p (.list (qs.map tp))), none, none, none, none] S) _
    unfold b_f_holed_l f_holed_l_3 f_holed_l_2
    rw [hol_eq]
    by_cases hn : [] ∈ qs
    · simp [mkTup, LIM, in_tp, hn, py]
    · have hpl : F P (k + 2) .f_parts_of_l [.p t.py] S = .ok (.p (.list (t.ps.map py))) S := pl_ok (by omega) ht
      have hlen : t.ps.length ≤ 3 := by cases t <;> simp [ps]
      have hc0 : cutX S.length (.ok (.p (.list (t.ps.map py))) S) = .ok (.p (.list (t.ps.map py))) S := by simp [cutX]
      simp [mkTup, mkLstM, LIM, in_tp, hn, hpl, hc0]
      have hr : rangeM [.p (.int (t.ps.length : Int))] (S ++ [.lst []]) = .ok ((List.range t.ps.length).map fun i : Nat => D.p (.int (0 + (i : Int)))) (S ++ [.lst []]) := by
        have := range_ok (j := (t.ps.length : Int)) (S := S ++ [.lst []]) (by omega) (by omega)
        simpa using this
      rw [hr]
      show wpS _ _
      refine forD_wp (fun j ρ S' => ∃ y4 y5, ρ = [some (.p t.py), some (.p (.list (qs.map tp))), some (.p (.list (t.ps.map py))), some (.ob S.length), y4, y5] ∧ S' = S ++ [.lst (((t.ps.mapIdx fun k u => hol u (sel k qs)).take j).map py)]) (j := 0) ⟨_, _, rfl, by simp⟩ ?_ ?_
      · rintro i d ρ S' hd ⟨y4, y5, rfl, rfl⟩
        rw [List.getElem?_map] at hd
        cases ei : (List.range t.ps.length)[i]? with
        | none => rw [ei] at hd; cases hd
        | some i' =>
          rw [ei] at hd
          have hi : i < t.ps.length := by have := (List.getElem?_eq_some_iff.mp ei).1; simpa using this
          have : i' = i := by rw [List.getElem?_range hi] at ei; exact (Option.some.inj ei).symm
          subst this
          cases hd
          have eu : t.ps[i']? = some t.ps[i'] := List.getElem?_eq_getElem hi
          have hu : t.ps[i'] ∈ t.ps := List.getElem_mem hi
          have hsub : ∀ z : Sto, opSubs (.p (.list (t.ps.map py))) (.p (.int (i' : Int))) z = .ok (.p (t.ps[i']).py) z := fun z => subs_l (atI_nn (by omega) (by simp [hi]))
          generalize hlb : ((t.ps.mapIdx fun k u => hol u (sel k qs)).take (0 + i')).map py = lb
          have ih := hl_ok (k := k + 2) (t := t.ps[i']) (qs := sel i' qs) (S := S ++ [.lst lb]) (by have := ps_dep hu; omega) (ps_wk ht hu) (Nat.le_trans sel_len hq)
          have hlc : lcD (gN 5) (tC2 (opEqZ false) (e2 opSubs (eVar 5) (eC (.p (.int 0)))) (eVar 4)) (eSli (eVar 5) (oSome (eC (.p (.int 1)))) oNone)
              [some (.p t.py), some (.p (.list (qs.map tp))), some (.p (.list (t.ps.map py))), some (.ob S.length), some (.p (.int (i' : Int))), none] (qs.map fun q => D.p (tp q)) (S ++ [.lst lb]) = .ok ((qs.filter (hd0 i')).map fun q => tp q.tail) (S ++ [.lst lb]) :=
            lcD_f tp (fun q => tp q.tail) (hd0 i') fun q hq' => by
              cases q with
              | nil => exact absurd hq' hn
              | cons a q =>
                refine ⟨_, rfl, ?_, fun _ => ?_⟩
                · have h0 : ∀ z : Sto, opSubs (.p (tp (a :: q))) (.p (.int 0)) z = .ok (.p (.int (a : Int))) z := fun z => subs_t (atI_nn (by decide) (by simp [pth]))
                  have e1 : ((a : Int) == (i' : Int)) = (a == i') := by rw [Bool.eq_iff_iff]; simp; omega
                  simp [h0, hd0, e1]
                · have hs : ∀ z : Sto, sliM (.p (tp (a :: q))) (some 1) none z = .ok (.p (tp q)) z := fun z => by
                    show Out.ok (D.p (.tuple (cutP (.int (a : Int) :: pth q) (some 1) none))) z = _
                    rw [pth_drop]
                    rfl
                  simp [hs]
          rw [sel_flt] at hlc
          have hgt : (S ++ [MO.lst lb])[S.length]? = some (.lst lb) := by simp
          have hql : qs.length ≤ 1000000 := by omega
          have hmm : List.map (D.p ∘ tp) qs = qs.map fun q => D.p (tp q) := rfl
          simp [-List.length_append]
          unfold f_holed_l_1
          simp [-List.length_append, rlOf_ob hgt, hsub, hmm, LIM, hql]
          refine wp_of hlc ?_
          rw [ih]
          have hap := append_ok (S := S ++ [.lst lb]) (i := S.length) (xs := lb) (y := (hol t.ps[i'] (sel i' qs)).py) (by simp) (by rw [← hlb]; simp; omega)
          simp [-List.length_append, hap]
          rw [← List.map_take, mapIdx_take eu, List.map_append, ← hlb]
          simp
      · rintro ρ S' ⟨y4, y5, rfl, rfl⟩
        simp only [List.length_map, List.length_range, Nat.zero_add]
        rw [List.take_of_length_le (by simp)]
        have hice : iceD (.ob S.length) (S ++ [.lst ((t.ps.mapIdx fun k u => hol u (sel k qs)).map py)]) = (.p (.list ((t.ps.mapIdx fun k u => hol u (sel k qs)).map py)), S ++ [.dead]) := by simp [iceD]
        have hw := rl_ok (P := P) (S := S ++ [.dead]) (k := k + 2) (by omega) (us := t.ps.mapIdx fun k u => hol u (sel k qs)) ht (by simp)
        simp [sIce, hice, hw, -List.length_append]
  termination_by k => k
end K79

namespace K79
open PySem L2 DL
open Tm
variable {P : Addr} {S : Sto}
def okS (n : Str) : Prop := (PyData.str n).canLay0 = true ∧ wt (.str n) ≤ 20
def Tm.gd : Tm → Prop
  | .lf w d => (PyData.tuple [.str w, d]).canLay0 = true ∧ (PyData.tuple [.str w, d]).depth ≤ 2 ∧ (PyData.tuple [.str w, d]).showable = true ∧ wt (.tuple [.str w, d]) ≤ 50
  | .ho => True
  | .us f x => f.gd ∧ x.gd
  | .gv n b => okS n ∧ b.gd
  | .lt n b e => okS n ∧ b.gd ∧ e.gd
  | .mt s a b => s.gd ∧ a.gd ∧ b.gd
theorem ps_gd {t u : Tm} (h : t.gd) (hu : u ∈ t.ps) : u.gd := by
  cases t <;> simp [ps] at hu
  · rcases hu with rfl | rfl
    · exact h.1
    · exact h.2
  · subst hu; exact h.2
  · rcases hu with rfl | rfl
    · exact h.2.1
    · exact h.2.2
  · rcases hu with rfl | rfl | rfl
    · exact h.1
    · exact h.2.1
    · exact h.2.2
theorem s_can : (PyData.str "hole").canLay0 = true ∧ (PyData.str "use").canLay0 = true ∧ (PyData.str "given").canLay0 = true ∧ (PyData.str "let").canLay0 = true ∧ (PyData.str "match").canLay0 = true ∧ (PyData.str "no").canLay0 = true ∧ (PyData.str "yes").canLay0 = true := by decide +kernel
theorem s_wt : wt (.str "hole") ≤ 20 ∧ wt (.str "use") ≤ 20 ∧ wt (.str "given") ≤ 20 ∧ wt (.str "let") ≤ 20 ∧ wt (.str "match") ≤ 20 ∧ wt (.str "no") ≤ 20 ∧ wt (.str "yes") ≤ 20 := by
  refine ⟨?_, ?_, ?_, ?_, ?_, ?_, ?_⟩ <;> (simp only [wt]; decide +kernel)
theorem py_can : ∀ {t : Tm}, t.gd → t.py.canLay0 = true
  | .lf w d, h => h.1
  | .ho, _ => by simp [py, PyData.canLay0, PyData.canLayAll0, strOk_of]
  | .us f x, h => by simp [py, PyData.canLay0, PyData.canLayAll0, py_can h.1, py_can h.2, strOk_of]
  | .gv n b, h => by
    have h0 : PyData.strOk n = true := by simpa [PyData.canLay0] using h.1.1
    simp [py, PyData.canLay0, PyData.canLayAll0, py_can h.2, strOk_of, h0]
  | .lt n b e, h => by
    have h0 : PyData.strOk n = true := by simpa [PyData.canLay0] using h.1.1
    simp [py, PyData.canLay0, PyData.canLayAll0, py_can h.2.1, py_can h.2.2, strOk_of, h0]
  | .mt s a b, h => by simp [py, PyData.canLay0, PyData.canLayAll0, py_can h.1, py_can h.2.1, py_can h.2.2, strOk_of]
theorem dep_pos (t : Tm) : 1 ≤ t.dep := by cases t <;> simp [dep] <;> omega
theorem py_dep : ∀ {t : Tm}, t.gd → t.py.depth ≤ 3 * t.dep
  | .lf w d, h => by have := h.2.1; simp only [py, dep]; omega
  | .ho, _ => by simp [py, dep, PyData.depth, PyData.depthAll]
  | .us f x, h => by
    have h1 := py_dep h.1
    have h2 := py_dep h.2
    simp [py, dep, PyData.depth, PyData.depthAll]
    omega
  | .gv n b, h => by
    have h1 := py_dep h.2
    simp [py, dep, PyData.depth, PyData.depthAll]
    omega
  | .lt n b e, h => by
    have h1 := py_dep h.2.1
    have h2 := py_dep h.2.2
    simp [py, dep, PyData.depth, PyData.depthAll]
    omega
  | .mt s a b, h => by
    have h1 := py_dep h.1
    have h2 := py_dep h.2.1
    have h3 := py_dep h.2.2
    have := dep_pos s
    have := dep_pos a
    have := dep_pos b
    simp [py, dep, PyData.depth, PyData.depthAll]
    omega
theorem py_show : ∀ {t : Tm}, t.gd → t.py.showable = true
  | .lf w d, h => h.2.2.1
  | .ho, _ => rfl
  | .us f x, h => by simp [py, PyData.showable, PyData.showableAll, py_show h.1, py_show h.2]
  | .gv n b, h => by simp [py, PyData.showable, PyData.showableAll, py_show h.2]
  | .lt n b e, h => by simp [py, PyData.showable, PyData.showableAll, py_show h.2.1, py_show h.2.2]
  | .mt s a b, h => by simp [py, PyData.showable, PyData.showableAll, py_show h.1, py_show h.2.1, py_show h.2.2]
theorem hol_gd : ∀ {t : Tm} {qs : List (List Nat)}, t.gd → (hol t qs).gd
  | .lf w d, qs, h => by unfold hol; split; trivial; exact h
  | .ho, qs, h => trivial
  | .us f x, qs, h => by unfold hol; split; trivial; exact ⟨hol_gd h.1, hol_gd h.2⟩
  | .gv n b, qs, h => by unfold hol; split; trivial; exact ⟨h.1, hol_gd h.2⟩
  | .lt n b e, qs, h => by unfold hol; split; trivial; exact ⟨h.1, hol_gd h.2.1, hol_gd h.2.2⟩
  | .mt s a b, qs, h => by unfold hol; split; trivial; exact ⟨hol_gd h.1, hol_gd h.2.1, hol_gd h.2.2⟩
theorem hol_dep : ∀ {t : Tm} {qs : List (List Nat)}, (hol t qs).dep ≤ t.dep
  | .lf w d, qs => by unfold hol; split <;> simp [dep]
  | .ho, qs => by simp [hol]
  | .us f x, qs => by
    have h1 := hol_dep (t := f) (qs := sel 0 qs)
    have h2 := hol_dep (t := x) (qs := sel 1 qs)
    unfold hol; split <;> simp only [dep] <;> omega
  | .gv n b, qs => by
    have h1 := hol_dep (t := b) (qs := sel 0 qs)
    unfold hol; split <;> simp only [dep] <;> omega
  | .lt n b e, qs => by
    have h1 := hol_dep (t := b) (qs := sel 0 qs)
    have h2 := hol_dep (t := e) (qs := sel 1 qs)
    unfold hol; split <;> simp only [dep] <;> omega
  | .mt s a b, qs => by
    have h1 := hol_dep (t := s) (qs := sel 0 qs)
    have h2 := hol_dep (t := a) (qs := sel 1 qs)
    have h3 := hol_dep (t := b) (qs := sel 2 qs)
    unfold hol; split <;> simp only [dep] <;> omega
theorem eq_lnil {neg : Bool} {xs : List PyData} (h : SeqAt.shaped (.list xs) = true) : opEqZ neg (.p (.list xs)) (.p (.list [])) S = .ok (.p (.bool (if neg then !xs.isEmpty else xs.isEmpty))) S := by
  have e : PyData.eqvAll xs [] = xs.isEmpty := by cases xs <;> rfl
  rw [eqZ_l, eqX_l h rfl, e]
theorem F_cl (k : Nat) : F P (k + 3) .f_cut_l = runF 2 (b_f_cut_l (F P (k + 2))) := rfl
set_option maxHeartbeats 1000000 in
theorem cl_wp {k : Nat} (hk : 24 ≤ k) {t : Tm} (ht : t.wk) (hd : t.dep ≤ 10) {cs : List PyData} (hl : cs.length ≤ 4) (hs : ∀ c ∈ cs, c.canLay0 = true ∧ c.depth ≤ 62) {Q : D → Sto → Prop} {X : Exn → Sto → Prop} (q : chk t [] cs = none → Q (.p (hol t (cs.map unp)).py) S) (e : ∀ c, chk t [] cs = some c → X (Oot c) S) :
    wp (cutX S.length (F P k .f_cut_l [.p t.py, .p (.list cs)] S)) Q X := by
  obtain ⟨k, rfl⟩ := k3 (k := k) (by omega)
  rw [F_cl]
  refine wp_cutXS ?_
  rw [wp_run]
  show wpS (b_f_cut_l (F P (k + 2)) [some (.p t.py), some (.p (.list cs))] S) _
  have hp : ∀ p, val t p ≠ none → p.length ≤ 10 := fun p h => by have := val_dep h; omega
  have go : ∀ ds, ds = D.p t.py :: cs.map D.p → wp (cutX S.length (F P (k + 2) .f_cut ds S)) (fun d s => s.length = S.length ∧ Q d s) (fun x s => s.length = S.length ∧ X x s) := fun ds hds => by
    rw [hds]
    exact cut_wp (by omega) ht (by omega) hp (fun h => ⟨rfl, q h⟩) fun c h => ⟨rfl, e c h⟩
  unfold b_f_cut_l f_cut_l_3 f_cut_l_2 f_cut_l_1
  have e0 : ∀ {a : PyData} {r : List PyData}, opSubs (.p (.list (a :: r))) (.p (.int 0)) S = .ok (.p a) S := fun {a r} => subs_l (atI_nn (by decide) rfl)
  have e1 : ∀ {a b : PyData} {r : List PyData}, opSubs (.p (.list (a :: b :: r))) (.p (.int 1)) S = .ok (.p b) S := fun {a b r} => subs_l (atI_nn (by decide) rfl)
  have e2 : ∀ {a b c : PyData} {r : List PyData}, opSubs (.p (.list (a :: b :: c :: r))) (.p (.int 2)) S = .ok (.p c) S := fun {a b c r} => subs_l (atI_nn (by decide) rfl)
  have e3 : ∀ {a b c d : PyData} {r : List PyData}, opSubs (.p (.list (a :: b :: c :: d :: r))) (.p (.int 3)) S = .ok (.p d) S := fun {a b c d r} => subs_l (atI_nn (by decide) rfl)
  have fin : ∀ {o : Out D}, wp o (fun d s => s.length = S.length ∧ Q d s) (fun x s => s.length = S.length ∧ X x s) → wp o (fun a s => s.length = S.length ∧ Q a s) fun x s => s.length = S.length ∧ X x s := fun h => h
  have hq := eq_lnil (S := S) (neg := false) (shL hs)
  match cs, hl, go, hq with
  | [], _, go, hq => simp; exact go _ rfl
  | [a], _, go, hq => simp [e0, hq]; exact go _ rfl
  | [a, b], _, go, hq => simp [e0, e1]; exact go _ rfl
  | [a, b, c], _, go, hq => simp [e0, e1, e2]; exact go _ rfl
  | [a, b, c, d], _, go, hq => simp [e0, e1, e2, e3]; exact go _ rfl
  | _ :: _ :: _ :: _ :: _ :: _, hl, _, _ => simp at hl
end K79

namespace K79
open PySem L2 DL
open Tm
variable {P : Addr} {S : Sto}
abbrev Spt := List Nat × Tm
def spy (q : Spt) : PyData := .tuple [tp q.1, q.2.py]
def sp : List Nat → Tm → List Spt
  | p, .lf w d => [(p, .lf w d)]
  | p, .ho => [(p, .ho)]
  | p, .us f x => (p, .us f x) :: (sp (p ++ [0]) f ++ sp (p ++ [1]) x)
  | p, .gv n b => (p, .gv n b) :: sp (p ++ [0]) b
  | p, .lt n b e => (p, .lt n b e) :: (sp (p ++ [0]) b ++ sp (p ++ [1]) e)
  | p, .mt s a b => (p, .mt s a b) :: (sp (p ++ [0]) s ++ (sp (p ++ [1]) a ++ sp (p ++ [2]) b))
def spL (st : List Spt) : List Spt := st.flatMap fun q => sp q.1 q.2
def kids (p : List Nat) (t : Tm) : List Spt := t.ps.mapIdx fun k u => (p ++ [k], u)
theorem sp_eq (p : List Nat) (t : Tm) : sp p t = (p, t) :: spL (kids p t) := by
  cases t <;> simp [sp, spL, kids, ps, List.mapIdx_cons]
theorem spL_cons {q : Spt} {st : List Spt} : spL (q :: st) = sp q.1 q.2 ++ spL st := by simp [spL]
theorem spL_app {a b : List Spt} : spL (a ++ b) = spL a ++ spL b := by simp [spL]
theorem kids_mem {p : List Nat} {t : Tm} {q : Spt} : q ∈ kids p t ↔ ∃ i u, t.ps[i]? = some u ∧ q = (p ++ [i], u) := by
  unfold kids
  rw [List.mem_mapIdx]
  constructor
  · rintro ⟨i, h, rfl⟩
    exact ⟨i, _, List.getElem?_eq_getElem h, rfl⟩
  · rintro ⟨i, u, h, rfl⟩
    obtain ⟨h1, h2⟩ := List.getElem?_eq_some_iff.mp h
    exact ⟨i, h1, by rw [h2]⟩
theorem sp_of {u : Tm} : ∀ {r p : List Nat} {t : Tm}, val t r = some u → (p ++ r, u) ∈ sp p t
  | [], p, t, h => by
    simp [val] at h
    subst h
    rw [sp_eq]
    simp
  | i :: r, p, t, h => by
    unfold val at h
    cases e : t.ps[i]? with
    | none => rw [e] at h; cases h
    | some v =>
      rw [e] at h
      have ih := sp_of (p := p ++ [i]) h
      rw [sp_eq]
      refine List.mem_cons_of_mem _ ?_
      unfold spL
      rw [List.mem_flatMap]
      refine ⟨(p ++ [i], v), kids_mem.mpr ⟨i, v, e, rfl⟩, ?_⟩
      have e2 : p ++ i :: r = (p ++ [i]) ++ r := by simp
      rw [e2]
      exact ih
theorem sp_to : ∀ {m : Nat} {t : Tm} {p : List Nat} {q : Spt}, t.dep ≤ m → q ∈ sp p t → ∃ r, q.1 = p ++ r ∧ val t r = some q.2
  | 0, t, p, q, hm, _ => by have := dep_pos t; omega
  | m + 1, t, p, q, hm, h => by
    rw [sp_eq] at h
    rcases List.mem_cons.mp h with rfl | h
    · exact ⟨[], by simp, rfl⟩
    · unfold spL at h
      rw [List.mem_flatMap] at h
      obtain ⟨c, hc, h⟩ := h
      obtain ⟨i, u, hu, rfl⟩ := kids_mem.mp hc
      obtain ⟨r, h1, h2⟩ := sp_to (m := m) (by have := ps_dep (List.mem_of_getElem? hu); show u.dep ≤ m; omega) h
      refine ⟨i :: r, by rw [h1]; simp, ?_⟩
      unfold val
      rw [hu]
      exact h2
theorem sp_len : ∀ {m : Nat} {t : Tm} {p : List Nat}, t.dep ≤ m → 2 * (sp p t).length + 1 ≤ 3 ^ m
  | 0, t, p, hm => by have := dep_pos t; omega
  | m + 1, t, p, hm => by
    have h3 : 1 ≤ 3 ^ m := Nat.one_le_pow _ _ (by decide)
    have e3 : 3 ^ (m + 1) = 3 * 3 ^ m := by rw [Nat.pow_succ]; omega
    have lm : ∀ (u : Tm) (p : List Nat), u.dep + 1 ≤ t.dep → 2 * (sp p u).length + 1 ≤ 3 ^ m := fun u p h => sp_len (m := m) (by omega)
    rw [e3]
    cases t with
    | lf w d => simp [sp]; omega
    | ho => simp [sp]; omega
    | us f x =>
      have h1 := lm f (p ++ [0]) (by simp [dep]; omega)
      have h2 := lm x (p ++ [1]) (by simp [dep]; omega)
      simp [sp]
      omega
    | gv n b =>
      have h1 := lm b (p ++ [0]) (by simp [dep]; omega)
      simp [sp]
      omega
    | lt n b e =>
      have h1 := lm b (p ++ [0]) (by simp [dep]; omega)
      have h2 := lm e (p ++ [1]) (by simp [dep]; omega)
      simp [sp]
      omega
    | mt s a b =>
      have h1 := lm s (p ++ [0]) (by simp [dep]; omega)
      have h2 := lm a (p ++ [1]) (by simp [dep]; omega)
      have h3 := lm b (p ++ [2]) (by simp [dep]; omega)
      simp [sp]
      omega
theorem F_sp (k : Nat) : F P (k + 3) .f_spots_l = runF 7 (b_f_spots_l (F P (k + 2))) := rfl
def okT (t : Tm) : Prop := t.wk ∧ t.gd ∧ t.dep ≤ 5
theorem okT_ps {t u : Tm} (h : okT t) (hu : u ∈ t.ps) : okT u := ⟨ps_wk h.1 hu, ps_gd h.2.1 hu, by have := ps_dep hu; have := h.2.2; omega⟩
theorem spy_d {q : Spt} (h : okT q.2) : (spy q).canLay0 = true ∧ (spy q).depth ≤ 62 := by
  have h1 := tp_d q.1
  have h2 := py_can h.2.1
  have h3 := py_dep h.2.1
  have h4 := h.2.2
  refine ⟨by simp [spy, PyData.canLay0, PyData.canLayAll0, h1.1, h2], ?_⟩
  simp only [spy, PyData.depth, PyData.depthAll]
  have := h1.2
  omega
theorem ps_len (t : Tm) : t.ps.length ≤ 3 := by cases t <;> simp [ps]
/-- what is put on the pile: the last part first -/
theorem kids_rev {p : List Nat} {t : Tm} : ((List.range t.ps.length).map fun k : Nat => spy (p ++ [t.ps.length - 1 - k], (t.ps[t.ps.length - 1 - k]?).getD .ho)) = ((kids p t).map spy).reverse := by
  cases t <;> simp [kids, ps, List.mapIdx_cons, List.range_succ, spy]
theorem lcD_on {α : Type} {g : FG} {e : FE} {ρ : Ev} {S : Sto} (p h : α → PyData) : ∀ {xs : List α}, (∀ x ∈ xs, ∃ ρ1, g (.p (p x)) ρ S = some (ρ1, S) ∧ e ρ1 S = .ok (.p (h x)) S) → lcD g tYesD e ρ (xs.map fun x => D.p (p x)) S = .ok (xs.map h) S
  | [], _ => rfl
  | x :: r, H => by
    obtain ⟨ρ1, h1, h2⟩ := H x (by simp)
    have ih := lcD_on p h (xs := r) (g := g) (e := e) (ρ := ρ) (S := S) fun y hy => H y (by simp [hy])
    rw [List.map_cons]
    unfold lcD
    simp [h1, h2, ih]
theorem step_sp {k : Nat} (hk : 3 ≤ k) {t : Tm} {p : List Nat} {wl fd : List PyData} {a y3 y4 y5 y6 : Option D} {R : Fl → Sto → Prop} (ht : okT t) (hf : fd.length ≤ 1000) (hs : wl.length ≤ 1000) (hpl : p.length ≤ 1000)
    (q : ∀ y3 y4 y5 y6, R (.next [a, some (.ob S.length), some (.ob (S.length + 1)), y3, y4, y5, y6]) (S ++ [.lst (fd ++ [spy (p, t)]), .lst (wl ++ ((kids p t).map spy).reverse)])) :
    wpS (f_spots_l_1 (F P k) [a, some (.ob S.length), some (.ob (S.length + 1)), y3, y4, y5, y6] (S ++ [.lst fd, .lst (wl ++ [spy (p, t)])])) R := by
  unfold f_spots_l_1
  have g1 : ∀ x y : MO, (S ++ [x, y])[S.length]? = some x := fun x y => by simp
  have g2 : ∀ x y : MO, (S ++ [x, y])[S.length + 1]? = some y := fun x y => by simp
  have s1 : ∀ x y z : MO, (S ++ [x, y]).set S.length z = S ++ [z, y] := fun x y z => by simp
  have s2 : ∀ x y z : MO, (S ++ [x, y]).set (S.length + 1) z = S ++ [x, z] := fun x y z => by simp
  have hp : popM (.ob (S.length + 1)) [] (S ++ [.lst fd, .lst (wl ++ [spy (p, t)])]) = .ok (.p (spy (p, t))) (S ++ [.lst fd, .lst wl]) := by
    rw [pop_ok (xs := wl) (y := spy (p, t)) (g2 _ _), s2]
  have ha : appendM (.ob S.length) [.p (.tuple [tp p, t.py])] (S ++ [.lst fd, .lst wl]) = .ok (.p .none) (S ++ [.lst (fd ++ [spy (p, t)]), .lst wl]) := by
    rw [append_ok (xs := fd) (g1 _ _) (by omega), s1]
    rfl
  have hq : ∀ z : Sto, F P k .f_parts_of_l [.p t.py] z = .ok (.p (.list (t.ps.map py))) z := fun z => pl_ok hk ht.1
  have hc : ∀ (z : Sto) (d : PyData), cutX z.length (.ok (.p d) z) = .ok (.p d) z := fun z d => by simp [cutX]
  have hx : extendM (.ob (S.length + 1)) [.p (.list (((kids p t).map spy).reverse))] (S ++ [.lst (fd ++ [spy (p, t)]), .lst wl]) = .ok (.p .none) (S ++ [.lst (fd ++ [spy (p, t)]), .lst (wl ++ ((kids p t).map spy).reverse)]) := by
    rw [extend_ok (xs := wl) (g2 _ _) (by have := ps_len t; simp [kids]; omega), s2]
  have hn := ps_len t
  have hr : rangeDM [.p (.int ((t.ps.length : Int) - 1)), .p (.int (-1)), .p (.int (-1))] (S ++ [.lst (fd ++ [spy (p, t)]), .lst wl]) = .ok ((List.range t.ps.length).map fun i : Nat => D.p (.int ((t.ps.length : Int) - 1 + (i : Int) * -1))) (S ++ [.lst (fd ++ [spy (p, t)]), .lst wl]) := by
    unfold rangeDM
    simp only
    rw [if_pos (by refine ⟨?_, ?_, ?_, ?_, ?_⟩ <;> first | trivial | rfl | omega), show ((t.ps.length : Int) - 1 - -1).toNat = t.ps.length by omega]
  have hlc : ∀ y6, lcD (gN 6) tYesD (eA mkTup (aCons (e2 opAddX (eVar 4) (eA mkTup (aCons (eVar 6) aNil))) (aCons (e2 opSubs (eVar 3) (eVar 6)) aNil))) [a, some (.ob S.length), some (.ob (S.length + 1)), some (.p (.list (t.ps.map py))), some (.p (tp p)), some (.p t.py), y6]
      ((List.range t.ps.length).map fun i : Nat => D.p (.int ((t.ps.length : Int) - 1 + (i : Int) * -1))) (S ++ [.lst (fd ++ [spy (p, t)]), .lst wl]) = .ok (((kids p t).map spy).reverse) (S ++ [.lst (fd ++ [spy (p, t)]), .lst wl]) := fun y6 => by
    rw [← kids_rev]
    refine lcD_on (fun i : Nat => .int ((t.ps.length : Int) - 1 + (i : Int) * -1)) _ fun i hi => ⟨_, rfl, ?_⟩
    have hi : i < t.ps.length := by simpa using hi
    have e : (t.ps.length : Int) - 1 + (i : Int) * -1 = ((t.ps.length - 1 - i : Nat) : Int) := by omega
    have hlt : t.ps.length - 1 - i < t.ps.length := by omega
    have h1 : ∀ z : Sto, opAddX (.p (tp p)) (.p (.tuple [.int ((t.ps.length - 1 - i : Nat) : Int)])) z = .ok (.p (tp (p ++ [t.ps.length - 1 - i]))) z := fun z => by
      have := addX_t (i := pth p) (j := [.int ((t.ps.length - 1 - i : Nat) : Int)]) (S := z) (by simp [pth, LIM]; omega)
      rw [show tp p = .tuple (pth p) from rfl, this]
      simp [tp, pth]
    have h2 : ∀ z : Sto, opSubs (.p (.list (t.ps.map py))) (.p (.int ((t.ps.length - 1 - i : Nat) : Int))) z = .ok (.p (t.ps[t.ps.length - 1 - i]).py) z := fun z => subs_l (atI_nn (by omega) (by simp [hlt]))
    rw [e]
    simp [h1, h2, mkTup, LIM, hlt, spy]
  have hg : ∀ z : Sto, gTupD 2 (gConss (gN 4) (gConss (gN 5) gNils)) (.p (spy (p, t))) [a, some (.ob S.length), some (.ob (S.length + 1)), y3, y4, y5, y6] z = some ([a, some (.ob S.length), some (.ob (S.length + 1)), y3, some (.p (tp p)), some (.p t.py), y6], z) := fun z => by simp [spy, gTupD, gConss, gNils]
  have hmk : ∀ z : Sto, mkTup [.p (tp p), .p t.py] z = .ok (.p (.tuple [tp p, t.py])) z := fun z => by simp [mkTup, LIM]
  have hll : t.ps.length ≤ 1000000 := by omega
  simp [-List.length_append, rlOf_ob (g2 _ _), rlOf_ob (g1 _ _), hp, hg, hmk, ha, hq, hc]
  have hsub : ∀ z : Sto, opSub (.p (.int (t.ps.length : Int))) (.p (.int 1)) z = .ok (.p (.int ((t.ps.length : Int) - 1))) z := fun z => rfl
  simp [-List.length_append, hr, hll, LIM]
  have hl' := hlc none
  simp only [Int.mul_neg, Int.mul_one] at hl'
  refine wp_of hl' ?_
  simp [-List.length_append, hx]
  exact q _ _ _ _
set_option maxHeartbeats 1000000 in
theorem loop_sp {k : Nat} (hk : 3 ≤ k) {a : Option D} {L : List PyData} (hL : L.length ≤ 500) {R : Fl → Sto → Prop} {m f : Nat} {st : List Spt} {fd : List PyData} {y3 y4 y5 y6 : Option D} (hmf : m < f) (hm : (spL st).length = m) (hO : ∀ q ∈ st, okT q.2 ∧ q.1.length + q.2.dep ≤ 10) (hf : fd ++ (spL st).map spy = L) (hl : st.length ≤ 500)
    (q : ∀ y3 y4 y5 y6, R (.next [a, some (.ob S.length), some (.ob (S.length + 1)), y3, y4, y5, y6]) (S ++ [.lst L, .lst []])) :
    wpS (whileD f (tC2 (opEqZ true) (eVar 2) (eA mkLst aNil)) (f_spots_l_1 (F P k)) [a, some (.ob S.length), some (.ob (S.length + 1)), y3, y4, y5, y6] (S ++ [.lst fd, .lst ((st.map spy).reverse)])) R := by
  refine whileD_wp (fun m ρ S' => ∃ st fd y3 y4 y5 y6, (spL st).length = m ∧ (∀ q ∈ st, okT q.2 ∧ q.1.length + q.2.dep ≤ 10) ∧ fd ++ (spL st).map spy = L ∧ st.length ≤ (spL st).length ∧ ρ = [a, some (.ob S.length), some (.ob (S.length + 1)), y3, y4, y5, y6] ∧ S' = S ++ [.lst fd, .lst ((st.map spy).reverse)]) ?_ hmf ⟨st, fd, y3, y4, y5, y6, hm, hO, hf, ?_, rfl, rfl⟩
  · rintro m ρ S' ⟨st, fd, y3, y4, y5, y6, hm, hO, hf, hl, rfl, rfl⟩
    have hlen : fd.length + (spL st).length = L.length := by rw [← hf]; simp
    have g2 : ∀ x y : MO, (S ++ [x, y])[S.length + 1]? = some y := fun x y => by simp
    have hsh : SeqAt.shaped (.list ((st.map spy).reverse)) = true := shL fun d hd => by
      obtain ⟨c, hc, rfl⟩ := List.mem_map.mp (List.mem_reverse.mp hd)
      exact spy_d (hO c hc).1
    have hne : opEqZ true (.ob (S.length + 1)) (.p (.list [])) (S ++ [.lst fd, .lst ((st.map spy).reverse)]) = .ok (.p (.bool (!((st.map spy).reverse).isEmpty))) (S ++ [.lst fd, .lst ((st.map spy).reverse)]) := by
      have e : PyData.eqv (.list ((st.map spy).reverse)) (.list []) = ((st.map spy).reverse).isEmpty := by
        cases (st.map spy).reverse <;> simp [PyData.eqv, PyData.eqvAll]
      have e0 : SeqAt.shaped (.list []) = true := rfl
      simp only [opEqZ, dicOf, g2, opEqX, opEq, DL.val, hsh, e0, e]
      rfl
    have hmk : ∀ z : Sto, mkLst [] z = .ok (.p (.list [])) z := fun z => by simp [mkLst, LIM, pys]
    cases st with
    | nil =>
      have hne' : opEqZ true (.ob (S.length + 1)) (.p (.list [])) (S ++ [.lst fd, .lst []]) = .ok (.p (.bool false)) (S ++ [.lst fd, .lst []]) := by simpa using hne
      have hfd : fd = L := by simpa [spL] using hf
      subst hfd
      simp [-List.length_append, hmk, hne']
      exact q y3 y4 y5 y6
    | cons c st =>
      obtain ⟨p, t⟩ := c
      have he : ((((p, t) :: st).map spy).reverse).isEmpty = false := by simp
      rw [he] at hne
      have hrev : (((p, t) :: st).map spy).reverse = (st.map spy).reverse ++ [spy (p, t)] := by simp
      rw [hrev] at hne ⊢
      generalize hw : (st.map spy).reverse = wl at hne ⊢
      have htest : tC2 (opEqZ true) (eVar 2) (eA mkLst aNil) [a, some (.ob S.length), some (.ob (S.length + 1)), y3, y4, y5, y6] (S ++ [.lst fd, .lst (wl ++ [spy (p, t)])]) = .ok true (S ++ [.lst fd, .lst (wl ++ [spy (p, t)])]) := by simp [-List.length_append, hmk, hne]
      refine wp_of htest ?_
      rw [if_pos rfl]
      obtain ⟨ht, hp⟩ := hO (p, t) (by simp)
      have hsp : spL ((p, t) :: st) = (p, t) :: spL (kids p t ++ st) := by rw [spL_cons, sp_eq, spL_app]; rfl
      have hst : ∀ st' : List Spt, st'.length ≤ (spL st').length := fun st' => by
        induction st' with
        | nil => simp
        | cons c r ih => rw [spL_cons, sp_eq]; simp; omega
      have hlw : wl.length = st.length := by rw [← hw]; simp
      have h5 := hst st
      have h6 := hst (kids p t ++ st)
      rw [hsp] at hm hlen hf
      simp at hm hlen
      refine ⟨(spL (kids p t ++ st)).length, by omega, ?_⟩
      refine step_sp hk ht (by omega) (by simp at h6; omega) (by simp at hp; omega) fun y3 y4 y5 y6 => ?_
      rw [wq_next]
      refine ⟨kids p t ++ st, fd ++ [spy (p, t)], y3, y4, y5, y6, rfl, fun c hc => ?_, ?_, h6, rfl, ?_⟩
      · rcases List.mem_append.mp hc with hc | hc
        · obtain ⟨i, u, hu, rfl⟩ := kids_mem.mp hc
          have hu' := List.mem_of_getElem? hu
          have := ps_dep hu'
          refine ⟨okT_ps ht hu', ?_⟩
          simp at hp ⊢
          omega
        · exact hO c (by simp [hc])
      · rw [← hf]
        simp
      · rw [List.map_append, List.reverse_append, hw]
  · have hst : ∀ st' : List Spt, st'.length ≤ (spL st').length := fun st' => by
      induction st' with
      | nil => simp
      | cons c r ih => rw [spL_cons, sp_eq]; simp; omega
    exact hst st
end K79

namespace K79
open PySem L2 DL
open Tm
variable {P : Addr} {S : Sto}
theorem spots_ok {k : Nat} (hk : 6 ≤ k) {t : Tm} (ht : okT t) : cutX S.length (F P k .f_spots_l [.p t.py] S) = .ok (.p (.list ((sp [] t).map spy))) S := by
  obtain ⟨k, rfl⟩ := k3 (k := k) (by omega)
  rw [F_sp]
  refine wp_eq (wp_cutX ?_)
  rw [wp_run]
  show wpS (b_f_spots_l (F P (k + 2)) [some (.p t.py), none, none, none, none, none, none] S) _
  unfold b_f_spots_l f_spots_l_2
  have hlen := sp_len (t := t) (p := []) ht.2.2
  have h35 : (3 : Nat) ^ 5 = 243 := by decide
  have hL : (spL [([], t)]).length ≤ 121 := by
    have : spL [([], t)] = sp [] t := by simp [spL]
    rw [this]
    omega
  have hspl : spL [([], t)] = sp [] t := by simp [spL]
  have h0 : (S ++ [MO.lst []]) ++ [.lst [spy ([], t)]] = S ++ [.lst [], .lst (([([], t)].map spy).reverse)] := by simp
  have hm1 : mkLstM [] S = .ok (.ob S.length) (S ++ [.lst []]) := by simp [mkLstM, LIM, pys]
  have hm2 : mkLstM [.p (.tuple [.tuple [], t.py])] (S ++ [.lst []]) = .ok (.ob (S.length + 1)) (S ++ [.lst [], .lst (([([], t)].map spy).reverse)]) := by
    rw [← h0]
    simp [mkLstM, LIM, pys, spy, tp, pth]
  have hm3 : ∀ z : Sto, mkTup [.p (.tuple []), .p t.py] z = .ok (.p (.tuple [.tuple [], t.py])) z := fun z => by simp [mkTup, LIM, pys]
  have hm4 : ∀ z : Sto, mkTup [] z = .ok (.p (.tuple [])) z := fun z => by simp [mkTup, LIM, pys]
  simp [-List.length_append, hm1, hm2, hm3, hm4]
  refine loop_sp (P := P) (S := S) (st := [([], t)]) (fd := []) (L := (sp [] t).map spy) (by omega) (by rw [List.length_map]; omega) (m := (spL [([], t)]).length) (by omega) rfl (fun q hq => ?_) (by rw [hspl]; rfl) (by simp) fun y3 y4 y5 y6 => ?_
  · simp at hq
    subst hq
    exact ⟨ht, by have := ht.2.2; simp; omega⟩
  · have hice : iceD (.ob S.length) (S ++ [.lst ((sp [] t).map spy), .lst []]) = (.p (.list ((sp [] t).map spy)), S ++ [.dead, .lst []]) := by simp [iceD]
    simp [-List.length_append, hice]
theorem F_en (k : Nat) : F P (k + 3) .f_ends_l = runF 3 (b_f_ends_l (F P (k + 2))) := rfl
theorem en_ok {k : Nat} (hk : 3 ≤ k) {p q : List Nat} : F P k .f_ends_l [.p (tp p), .p (.list [tp q])] S = .ok (.p (.list (if p.take q.length = q then [tp q] else []))) S := by
  obtain ⟨k, rfl⟩ := k3 hk
  rw [F_en]
  refine run_ret ?_
  unfold b_f_ends_l
  have h1 : ∀ z : Sto, lenM [.p (tp q)] z = .ok (.p (.int (q.length : Int))) z := fun z => len_pth
  have h2 : ∀ z : Sto, sliM (.p (tp p)) none (some (q.length : Int)) z = .ok (.p (tp (p.take q.length))) z := fun z => sli_pth
  have h3 : ∀ z : Sto, opEqZ false (.p (tp (p.take q.length))) (.p (tp q)) z = .ok (.p (.bool (decide (p.take q.length = q)))) z := fun z => by have := eq_pth (S := z) (neg := false) (a := p.take q.length) (b := q); simpa [tp] using this
  by_cases hc : p.take q.length = q
  · rw [if_pos hc]
    rw [decide_eq_true hc] at h3
    simp [LIM, lcD, wipeD, h1, h2, h3, finL]
  · rw [if_neg hc]
    rw [decide_eq_false hc] at h3
    simp [LIM, lcD, wipeD, h1, h2, h3, finL]
end K79

namespace K79
open PySem L2 DL
open Tm
def toL (s : Str) : List Nat := s.cps.toList
theorem toL_app (a b : Str) : toL (a ++ b) = toL a ++ toL b := by
  show (a.cps ++ b.cps).toList = _
  simp [toL]
theorem toL_inj {a b : Str} (h : toL a = toL b) : a = b := by
  cases a; cases b
  simp [toL] at h
  rw [h]
def okE (x : PyData) : Prop := x = .int 0 ∨ x = .int 1 ∨ x = .int 2 ∨ x = .int 3 ∨ x = .bool true ∨ x = .int (-1) ∨ x = .str "a"
def tk (x : PyData) : List Nat := toL x.shown
theorem tk0 : tk (.int 0) = [48] := by decide +kernel
theorem tk1 : tk (.int 1) = [49] := by decide +kernel
theorem tk2 : tk (.int 2) = [50] := by decide +kernel
theorem tk3 : tk (.int 3) = [51] := by decide +kernel
theorem tk4 : tk (.bool true) = [84, 114, 117, 101] := by decide +kernel
theorem tk5 : tk (.int (-1)) = [45, 49] := by decide +kernel
theorem tk6 : tk (.str "a") = [39, 97, 39] := by decide +kernel
theorem tk_pre {x y : PyData} {A B : List Nat} (hx : okE x) (hy : okE y) (h : tk x ++ A = tk y ++ B) : x = y ∧ A = B := by
  rcases hx with rfl | rfl | rfl | rfl | rfl | rfl | rfl <;> rcases hy with rfl | rfl | rfl | rfl | rfl | rfl | rfl <;> simp [tk0, tk1, tk2, tk3, tk4, tk5, tk6] at h ⊢ <;> exact h
theorem tk_hd {y : PyData} {B : List Nat} (hy : okE y) : tk y ++ B ≠ [41] := by
  rcases hy with rfl | rfl | rfl | rfl | rfl | rfl | rfl <;> simp [tk0, tk1, tk2, tk3, tk4, tk5, tk6]
def J : List PyData → List Nat
  | [] => []
  | y :: r => 44 :: 32 :: (tk y ++ J r)
theorem comma : toL (", " : Str) = [44, 32] := by decide +kernel
theorem J_ok : ∀ (x : PyData) (r : List PyData), toL (Str.join ", " (PyData.shownAll (x :: r))) = tk x ++ J r
  | x, [] => by
    show toL x.shown = _
    simp [J, tk]
  | x, y :: r => by
    have ih := J_ok y r
    show toL (x.shown ++ ", " ++ Str.join ", " (PyData.shownAll (y :: r))) = _
    rw [toL_app, toL_app, ih, comma]
    simp [J, tk]
theorem J_inj : ∀ {r s : List PyData}, (∀ x ∈ r, okE x) → (∀ x ∈ s, okE x) → J r ++ [41] = J s ++ [41] → r = s
  | [], [], _, _, _ => rfl
  | [], y :: s, _, _, h => by simp [J] at h
  | x :: r, [], _, _, h => by simp [J] at h
  | x :: r, y :: s, hr, hs, h => by
    simp only [J, List.cons_append, List.cons.injEq, true_and, List.append_assoc] at h
    obtain ⟨h1, h2⟩ := tk_pre (hr x (by simp)) (hs y (by simp)) h
    rw [h1, J_inj (fun z hz => hr z (by simp [hz])) (fun z hz => hs z (by simp [hz])) h2]
theorem sh_len : ∀ xs : List PyData, (PyData.shownAll xs).length = xs.length
  | [] => rfl
  | x :: r => by simp [PyData.shownAll, sh_len r]
theorem c1 : toL ("(" : Str) = [40] := by decide +kernel
theorem c2 : toL (((",)" : String) : Str)) = [44, 41] := by decide +kernel
theorem c3 : toL (((")" : String) : Str)) = [41] := by decide +kernel
theorem t_nil : toL (PyData.tuple []).shown = [40, 41] := by decide +kernel
theorem t_one (x : PyData) : toL (PyData.tuple [x]).shown = 40 :: (tk x ++ [44, 41]) := by
  show toL (("(" : Str) ++ Str.join ", " (PyData.shownAll [x]) ++ ((",)" : String) : Str)) = _
  rw [toL_app, toL_app, J_ok, c1, c2]
  simp [J]
theorem t_two (x y : PyData) (r : List PyData) : toL (PyData.tuple (x :: y :: r)).shown = 40 :: (tk x ++ (J (y :: r) ++ [41])) := by
  show toL (("(" : Str) ++ Str.join ", " (PyData.shownAll (x :: y :: r)) ++ (if (PyData.shownAll (x :: y :: r)).length == 1 then ",)" else ")" : String)) = _
  have : ((PyData.shownAll (x :: y :: r)).length == 1) = false := by simp [sh_len]
  rw [this, toL_app, toL_app, J_ok, c1]
  show [40] ++ _ ++ toL ((")" : String) : Str) = _
  rw [c3]
  simp
theorem tup_inj {xs ys : List PyData} (hx : ∀ x ∈ xs, okE x) (hy : ∀ x ∈ ys, okE x) (h : (PyData.tuple xs).shown = (PyData.tuple ys).shown) : xs = ys := by
  have h := congrArg toL h
  match xs, ys, hx, hy, h with
  | [], [], _, _, _ => rfl
  | [], [y], _, hy, h =>
    rw [t_nil, t_one] at h
    exact absurd (List.cons.inj h).2.symm (tk_hd (hy y (by simp)))
  | [], y :: z :: r, _, hy, h =>
    rw [t_nil, t_two] at h
    exact absurd (List.cons.inj h).2.symm (tk_hd (hy y (by simp)))
  | [y], [], hx, _, h =>
    rw [t_nil, t_one] at h
    exact absurd (List.cons.inj h).2 (tk_hd (hx y (by simp)))
  | y :: z :: r, [], hx, _, h =>
    rw [t_nil, t_two] at h
    exact absurd (List.cons.inj h).2 (tk_hd (hx y (by simp)))
  | [x], [y], hx, hy, h =>
    rw [t_one, t_one] at h
    rw [(tk_pre (hx x (by simp)) (hy y (by simp)) (List.cons.inj h).2).1]
  | [x], y :: z :: r, hx, hy, h =>
    rw [t_one, t_two] at h
    have := (tk_pre (hx x (by simp)) (hy y (by simp)) (List.cons.inj h).2).2
    simp [J] at this
  | y :: z :: r, [x], hx, hy, h =>
    rw [t_one, t_two] at h
    have := (tk_pre (hx y (by simp)) (hy x (by simp)) (List.cons.inj h).2).2
    simp [J] at this
  | x :: z :: r, y :: w :: s, hx, hy, h =>
    rw [t_two, t_two] at h
    obtain ⟨h1, h2⟩ := tk_pre (hx x (by simp)) (hy y (by simp)) (List.cons.inj h).2
    rw [h1, J_inj (fun a ha => hx a (by simp at ha ⊢; exact .inr ha)) (fun a ha => hy a (by simp at ha ⊢; exact .inr ha)) h2]
theorem t_hd (xs : List PyData) : ∃ r, toL (PyData.tuple xs).shown = 40 :: r := by
  match xs with
  | [] => exact ⟨_, t_nil⟩
  | [x] => exact ⟨_, t_one x⟩
  | x :: y :: r => exact ⟨_, t_two x y r⟩
theorem n_hd : toL PyData.none.shown = [78, 111, 110, 101] := by decide +kernel
theorem z_hd : toL (PyData.str "0").shown = [39, 48, 39] := by decide +kernel
theorem l_hd (xs : List PyData) : ∃ r, toL (PyData.list xs).shown = 91 :: r := by
  have key : ∀ (ts : List Str) (k : Nat) (acc : Str) (r : List Nat), toL acc = 91 :: r → ∃ r', toL (textFrom k acc ts) = 91 :: r' := by
    intro ts
    induction ts with
    | nil => exact fun k acc r h => ⟨r, h⟩
    | cons t ts ih =>
      intro k acc r h
      exact ih (k + 1) _ (r ++ _) (by rw [toL_app, toL_app, h]; simp; rfl)
  obtain ⟨r, h⟩ := key (PyData.shownAll xs) 0 "[" [] (by decide +kernel)
  refine ⟨r ++ toL ("]" : Str), ?_⟩
  show toL (textFrom 0 "[" (PyData.shownAll xs) ++ "]") = _
  rw [toL_app, h]
  rfl
end K79

namespace K79
open PySem L2 DL
open Tm
variable {P : Addr} {S : Sto}
def okC (c : PyData) : Prop := (∃ xs, (c = .tuple xs ∨ c = .list xs) ∧ (∀ x ∈ xs, okE x) ∧ xs.length ≤ 10) ∨ c = .none ∨ c = .str "0"
theorem okE_b {x : PyData} (h : okE x) : x.canLay0 = true ∧ x.depth ≤ 1 ∧ x.showable = true ∧ wt x ≤ 5 := by
  rcases h with rfl | rfl | rfl | rfl | rfl | rfl | rfl
  all_goals refine ⟨?_, ?_, ?_, ?_⟩
  all_goals first | decide +kernel | (simp only [wt]; decide +kernel) | simp [PyData.depth]
theorem E_all {xs : List PyData} (h : ∀ x ∈ xs, okE x) : PyData.canLayAll0 xs = true ∧ PyData.depthAll xs ≤ 1 ∧ PyData.showableAll xs = true ∧ wtAll xs ≤ 7 * xs.length := by
  refine ⟨canAll fun d hd => (okE_b (h d hd)).1, depAll fun d hd => (okE_b (h d hd)).2.1, ?_, ?_⟩
  · induction xs with
    | nil => rfl
    | cons x r ih => simp [PyData.showableAll, (okE_b (h x (by simp))).2.2.1, ih fun d hd => h d (by simp [hd])]
  · induction xs with
    | nil => simp [wtAll]
    | cons x r ih =>
      have h1 := (okE_b (h x (by simp))).2.2.2
      have h2 := ih fun d hd => h d (by simp [hd])
      simp only [wtAll, List.length_cons]
      omega
theorem okC_b {c : PyData} (h : okC c) : c.canLay0 = true ∧ c.depth ≤ 2 ∧ c.showable = true ∧ wt c ≤ 100 := by
  rcases h with ⟨xs, rfl | rfl, h1, h2⟩ | rfl | rfl
  · obtain ⟨a, b, c, d⟩ := E_all h1
    refine ⟨by simpa [PyData.canLay0] using a, by simp only [PyData.depth]; omega, by simpa [PyData.showable] using c, by simp only [wt]; omega⟩
  · obtain ⟨a, b, c, d⟩ := E_all h1
    refine ⟨by simpa [PyData.canLay0] using a, by simp only [PyData.depth]; omega, by simpa [PyData.showable] using c, by simp only [wt]; omega⟩
  · exact ⟨rfl, by simp [PyData.depth], rfl, by simp [wt]⟩
  · exact ⟨by simp [PyData.canLay0, strOk_of], by simp [PyData.depth], rfl, by simp only [wt]; decide +kernel⟩
theorem reprC {c : PyData} (h : okC c) : reprM [.p c] S = .ok (.p (.str c.shown)) S := by
  obtain ⟨_, b, c, d⟩ := okC_b h
  exact repr_ok c (by omega) (by omega)
theorem val_E {t : Tm} {p : List Nat} (h : val t p ≠ none) : ∀ x ∈ pth p, okE x := by
  induction p generalizing t with
  | nil => intro x hx; simp [pth] at hx
  | cons i r ih =>
    unfold val at h
    cases e : t.ps[i]? with
    | none => rw [e] at h; exact absurd rfl h
    | some u =>
      rw [e] at h
      have hi : i < t.ps.length := (List.getElem?_eq_some_iff.mp e).1
      have hl := ps_len t
      intro x hx
      rcases List.mem_cons.mp (show x ∈ .int (i : Int) :: pth r from hx) with rfl | hx
      · have : i = 0 ∨ i = 1 ∨ i = 2 := by omega
        rcases this with rfl | rfl | rfl
        · exact .inl rfl
        · exact .inr (.inl rfl)
        · exact .inr (.inr (.inl rfl))
      · exact ih h x hx
theorem val_C {t : Tm} (hd : t.dep ≤ 10) {p : List Nat} (h : val t p ≠ none) : okC (tp p) := .inl ⟨pth p, .inl rfl, val_E h, by have := val_dep h; rw [pth_len]; omega⟩
theorem in_iff {t : Tm} {c : PyData} (hc : okC c) : c.shown ∈ (sp [] t).map (fun q => (tp q.1).shown) ↔ placed t c ≠ none := by
  constructor
  · intro h
    obtain ⟨q, hq, e⟩ := List.mem_map.mp h
    obtain ⟨r, h1, h2⟩ := sp_to (Nat.le_refl _) hq
    simp at h1
    have hv : val t q.1 ≠ none := by rw [h1, h2]; simp
    obtain ⟨rr, hh⟩ := t_hd (pth q.1)
    have hh : toL (tp q.1).shown = 40 :: rr := hh
    rcases hc with ⟨xs, rfl | rfl, hx, _⟩ | rfl | rfl
    · have := tup_inj (val_E hv) hx e
      rw [← this]
      show placed t (.tuple (pth q.1)) ≠ none
      rw [placed_pth]
      exact hv
    · obtain ⟨r2, h3⟩ := l_hd xs
      rw [← e, hh] at h3
      simp at h3
    · have h3 := n_hd
      rw [← e, hh] at h3
      simp at h3
    · have h3 := z_hd
      rw [← e, hh] at h3
      simp at h3
  · intro h
    cases e : placed t c with
    | none => exact absurd e h
    | some u =>
      obtain ⟨h1, h2⟩ := placed_is e
      refine List.mem_map.mpr ⟨(unp c, u), ?_, ?_⟩
      · have := sp_of (p := []) h2
        simpa using this
      · show (tp (unp c)).shown = _
        rw [show tp (unp c) = c from h1.symm]
theorem in_lstrN {ns : List Str} {n : Str} : opInX true (.p (.str n)) (.p (.list (ns.map .str))) S = .ok (.p (.bool (!decide (n ∈ ns)))) S := by
  have e1 : (ns.map PyData.str).all flatP = true := by simp [flatP]
  have e2 : inP (.str n) (ns.map .str) = decide (n ∈ ns) := by
    unfold inP
    rw [List.any_map]
    by_cases hn : n ∈ ns
    · rw [decide_eq_true hn, List.any_eq_true]
      exact ⟨n, hn, by simp [eqP]⟩
    · rw [decide_eq_false hn, List.any_eq_false]
      intro m hm
      have : m ≠ n := fun e => hn (e ▸ hm)
      simp [eqP, this]
  have e3 : opIn true (.p (.str n)) (.p (.list (ns.map .str))) S = .ok (.p (.bool (!decide (n ∈ ns)))) S := by
    unfold opIn
    have es : seqOf S (.p (.list (ns.map .str))) = some (ns.map .str) := rfl
    simp only [es]
    rw [if_pos (by rw [e1]; rfl), e2]
    rfl
  simp [opInX, e3]
def rf (t : Tm) (cs : List PyData) : PyData := match chk t [] cs with
  | none => .list []
  | some c => .list [.str c.shown, .bool true]
theorem F_rf (k : Nat) : F P (k + 3) .f_refusal_l = runF 7 (b_f_refusal_l (F P (k + 2))) := rfl
set_option maxHeartbeats 1000000 in
theorem met_ok {k : Nat} (hk : 3 ≤ k) {p : List Nat} {qs : List (List Nat)} {a b c d y4 y5 : Option D} {cs : List PyData} {j : Int} (hj : opSubs (.p (.list cs)) (.p (.int j)) S = .ok (.p (tp p)) S) :
    lcD (gN 6) (tC2 (opEqZ true) (e2 opAddX (eCallX 2 (F P k .f_ends_l) (aCons (e2 opSubs (eVar 1) (eVar 3)) (aCons (eA mkLst (aCons (eVar 6) aNil)) aNil))) (eCallX 2 (F P k .f_ends_l) (aCons (eVar 6) (aCons (eA mkLst (aCons (e2 opSubs (eVar 1) (eVar 3)) aNil)) aNil)))) (eA mkLst aNil)) (eVar 6)
      [a, some (.p (.list cs)), c, some (.p (.int j)), y4, y5, none] (qs.map fun q => D.p (tp q)) S = .ok ((qs.filter fun q => wi p q).map tp) S := by
  refine lcD_f tp tp (fun q => wi p q) fun q _ => ⟨_, rfl, ?_, fun _ => by simp⟩
  have h1 := en_ok (P := P) (S := S) hk (p := p) (q := q)
  have h2 := en_ok (P := P) (S := S) hk (p := q) (q := p)
  have hc : ∀ d : PyData, cutX S.length (.ok (.p d) S) = .ok (.p d) S := fun d => by simp [cutX]
  have hmk : ∀ x : PyData, mkLst [.p x] S = .ok (.p (.list [x])) S := fun x => by simp [mkLst, LIM, pys]
  have hmk0 : mkLst [] S = .ok (.p (.list [])) S := by simp [mkLst, LIM, pys]
  have ha : ∀ {x y : List PyData}, x.length + y.length ≤ 1000 → opAddX (.p (.list x)) (.p (.list y)) S = .ok (.p (.list (x ++ y))) S := fun {x y} h => addX_l (by simp [LIM]; omega)
  have sh : ∀ x y : List Nat, SeqAt.shaped (.list [tp x, tp y]) = true := fun x y => shL fun d hd => by
    simp at hd
    rcases hd with rfl | rfl
    · exact ⟨(tp_d _).1, by have := (tp_d x).2; omega⟩
    · exact ⟨(tp_d _).1, by have := (tp_d y).2; omega⟩
  have sh1 : ∀ x : List Nat, SeqAt.shaped (.list [tp x]) = true := fun x => shL fun d hd => by
    simp at hd
    subst hd
    exact ⟨(tp_d _).1, by have := (tp_d x).2; omega⟩
  simp [hj, hmk, hmk0, h1, h2, hc]
  by_cases c1 : p.take q.length = q
  · by_cases c2 : q.take p.length = p
    · rw [if_pos c1, if_pos c2, ha (by simp)]
      have := eq_lnil (S := S) (neg := true) (sh q p)
      simp [this, wi, c1]
    · rw [if_pos c1, if_neg c2, ha (by simp)]
      have := eq_lnil (S := S) (neg := true) (sh1 q)
      simp [this, wi, c1]
  · by_cases c2 : q.take p.length = p
    · rw [if_neg c1, if_pos c2, ha (by simp)]
      have := eq_lnil (S := S) (neg := true) (sh1 p)
      simp [this, wi, c1, c2]
    · rw [if_neg c1, if_neg c2, ha (by simp)]
      have := eq_lnil (S := S) (neg := true) (xs := []) rfl
      simp [this, wi, c1, c2]
end K79

namespace K79
open PySem L2 DL
open Tm
variable {P : Addr} {S : Sto}
set_option maxHeartbeats 2000000 in
theorem rf_ok {k : Nat} (hk : 10 ≤ k) {t : Tm} (ht : okT t) {cs : List PyData} (hl : cs.length ≤ 4) (hc : ∀ c ∈ cs, okC c) : cutX S.length (F P k .f_refusal_l [.p t.py, .p (.list cs)] S) = .ok (.p (rf t cs)) S := by
  obtain ⟨k, rfl⟩ := k3 (k := k) (by omega)
  rw [F_rf]
  refine wp_eq (wp_cutXS ?_)
  rw [wp_run]
  show wpS (b_f_refusal_l (F P (k + 2)) [some (.p t.py), some (.p (.list cs)), none, none, none, none, none] S) _
  unfold b_f_refusal_l f_refusal_l_3
  have hsp := spots_ok (P := P) (S := S) (k := k + 2) (by omega) ht
  have hlen := sp_len (t := t) (p := []) ht.2.2
  have h35 : (3 : Nat) ^ 5 = 243 := by decide
  have hlc : lcD (gN 5) tYesD (eA reprM (aCons (e2 opSubs (eVar 5) (eC (.p (.int 0)))) aNil)) [some (.p t.py), some (.p (.list cs)), none, none, none, none, none] ((sp [] t).map fun q => D.p (spy q)) S = .ok (((sp [] t).map fun q => (tp q.1).shown).map .str) S := by
    have := lcD_on (g := gN 5) (e := eA reprM (aCons (e2 opSubs (eVar 5) (eC (.p (.int 0)))) aNil)) (ρ := [some (.p t.py), some (.p (.list cs)), none, none, none, none, none]) (S := S) spy (fun q => .str (tp q.1).shown) (xs := sp [] t) fun q hq => ⟨_, rfl, by
      obtain ⟨r, h1, h2⟩ := sp_to (Nat.le_refl _) hq
      simp at h1
      have hv : val t q.1 ≠ none := by rw [h1, h2]; simp
      have h0 : opSubs (.p (spy q)) (.p (.int 0)) S = .ok (.p (tp q.1)) S := subs_t rfl
      have hr := reprC (S := S) (val_C (by have := ht.2.2; omega) hv)
      simp [h0, hr]⟩
    rw [this]
    simp
  have hmm : ((sp [] t).map spy).map D.p = (sp [] t).map fun q => D.p (spy q) := by simp
  have hll : (sp [] t).length ≤ 1000000 := by omega
  simp [hsp, LIM, hll, -List.map_map]
  rw [hmm]
  refine wp_of hlc ?_
  generalize hns : ((sp [] t).map fun q => (tp q.1).shown) = ns
  have hnl : ns.length ≤ 1000000 := by rw [← hns]; simp; omega
  have hr : rangeM [.p (.int (cs.length : Int))] S = .ok ((List.range cs.length).map fun i : Nat => D.p (.int (0 + (i : Int)))) S := by
    have := range_ok (j := (cs.length : Int)) (S := S) (by omega) (by omega)
    simpa using this
  simp [hr, -List.map_map]
  refine forD_wp (fun j ρ S' => S' = S ∧ (∃ y3 y4 y5 y6, ρ = [some (.p t.py), some (.p (.list cs)), some (.p (.list (ns.map .str))), y3, y4, y5, y6]) ∧ (∀ c ∈ cs.take j, c = tp (unp c)) ∧ chk t [] cs = chk t ((cs.take j).map unp) (cs.drop j)) (j := 0) ⟨rfl, ⟨_, _, _, _, rfl⟩, by simp, by simp⟩ ?_ ?_
  · rintro i d ρ S' hd ⟨rfl, ⟨y3, y4, y5, y6, rfl⟩, hv, hch⟩
    rw [List.getElem?_map] at hd
    cases ei : (List.range cs.length)[i]? with
    | none => rw [ei] at hd; cases hd
    | some i' =>
      rw [ei] at hd
      have hi : i < cs.length := by have := (List.getElem?_eq_some_iff.mp ei).1; simpa using this
      have : i' = i := by rw [List.getElem?_range hi] at ei; exact (Option.some.inj ei).symm
      subst this
      cases hd
      simp only [Nat.zero_add] at hv hch ⊢
      have hsub : opSubs (.p (.list cs)) (.p (.int (i' : Int))) S' = .ok (.p cs[i']) S' := subs_l (atI_nn (by omega) (by simp [hi]))
      have hcm : cs[i'] ∈ cs := List.getElem_mem hi
      have hrc := reprC (S := S') (hc _ hcm)
      have hdrop : cs.drop i' = cs[i'] :: cs.drop (i' + 1) := List.drop_eq_getElem_cons hi
      rw [hdrop] at hch
      unfold f_refusal_l_2
      have hmk2 : mkLst [.p (.str cs[i'].shown), .p (.bool true)] S' = .ok (.p (.list [.str cs[i'].shown, .bool true])) S' := by simp [mkLst, LIM, pys]
      have hin := in_lstrN (S := S') (ns := ns) (n := cs[i'].shown)
      have hiff := in_iff (t := t) (hc _ hcm)
      rw [hns] at hiff
      cases hpl : placed t cs[i'] with
      | none =>
        have : cs[i'].shown ∉ ns := fun h => (hiff.mp h) hpl
        rw [decide_eq_false this] at hin
        simp only [chk, hpl] at hch
        simp [hsub, hrc, hin, hmk2]
        unfold rf
        rw [hch]
      | some u =>
        have hm : cs[i'].shown ∈ ns := hiff.mpr (by rw [hpl]; simp)
        rw [decide_eq_true hm] at hin
        obtain ⟨ec, ev⟩ := placed_is hpl
        have ec : cs[i'] = tp (unp cs[i']) := ec
        simp only [chk, hpl] at hch
        simp [hsub, hrc, hin, -List.map_take]
        unfold f_refusal_l_1
        have hsl : sliM (.p (.list cs)) none (some (i' : Int)) S' = .ok (.p (.list (cs.take i'))) S' := by
          show Out.ok (D.p (.list (cutP cs none (some (i' : Int))))) S' = _
          rw [cutP_take]
        have hmt : (cs.take i').map D.p = ((cs.take i').map unp).map fun q => D.p (tp q) := by
          rw [List.map_map]
          exact List.map_congr_left fun c hc => by show D.p c = D.p (tp (unp c)); rw [← hv c hc]
        have hmet := met_ok (P := P) (S := S') (k := k + 2) (by omega) (p := unp cs[i']) (qs := (cs.take i').map unp) (a := some (.p t.py)) (b := none) (c := some (.p (.list (ns.map .str)))) (d := none) (y4 := y4) (y5 := y5) (cs := cs) (j := (i' : Int)) (by rw [hsub, ← ec])
        have htl : (cs.take i').length ≤ 1000000 := by simp; omega
        simp [hsl, LIM, -List.length_take, htl, hsub, hrc, hmk2, -List.map_map, -List.map_take]
        rw [hmt]
        refine wp_of hmet ?_
        have hshx : SeqAt.shaped (.list ((((cs.take i').map unp).filter fun q => wi (unp cs[i']) q).map tp)) = true := shL fun d hd => by
          obtain ⟨q, _, rfl⟩ := List.mem_map.mp hd
          exact ⟨(tp_d q).1, by have := (tp_d q).2; omega⟩
        have heq := eq_lnil (S := S') (neg := true) hshx
        have hmk0 : mkLst [] S' = .ok (.p (.list [])) S' := by simp [mkLst, LIM, pys]
        by_cases hany : (((cs.take i').map unp).any fun q => wi (unp cs[i']) q) = true
        · have hne : ((((cs.take i').map unp).filter fun q => wi (unp cs[i']) q).map tp).isEmpty = false := by
            obtain ⟨q, hq, hw⟩ := List.any_eq_true.mp hany
            cases hf : (((cs.take i').map unp).filter fun q => wi (unp cs[i']) q) with
            | nil => exact absurd (List.mem_filter.mpr ⟨hq, hw⟩) (by rw [hf]; simp)
            | cons _ _ => rfl
          rw [hne] at heq
          rw [if_pos hany] at hch
          simp [hmk0, heq, hsub, hrc, hmk2, -List.map_map, -List.map_take]
          unfold rf
          rw [hch]
        · have hne : (((cs.take i').map unp).filter fun q => wi (unp cs[i']) q) = [] := by
            rw [List.filter_eq_nil_iff]
            intro q hq hw
            exact hany (List.any_eq_true.mpr ⟨q, hq, hw⟩)
          rw [hne] at heq
          rw [if_neg hany] at hch
          rw [hne]
          simp [hmk0] at heq
          simp [hmk0, heq, -List.map_map, -List.map_take]
          refine ⟨fun c hc => ?_, ?_⟩
          · rw [List.take_add_one] at hc
            rcases List.mem_append.mp hc with hc | hc
            · exact hv c hc
            · simp [hi] at hc
              subst hc
              exact ec
          · have e9 : (cs.take (i' + 1)).map unp = (cs.take i').map unp ++ [unp cs[i']] := by
              rw [List.take_add_one, List.map_append]
              simp [hi]
            rw [hch]
            simp only [List.map_take] at e9 ⊢
            rw [e9]
  · rintro ρ S' ⟨rfl, ⟨y3, y4, y5, y6, rfl⟩, hv, hch⟩
    have hmk0 : mkLst [] S' = .ok (.p (.list [])) S' := by simp [mkLst, LIM, pys]
    simp [hmk0]
    have : chk t [] cs = none := by
      rw [hch]
      simp [chk]
    unfold rf
    rw [this]
end K79

namespace K79
open PySem L2 DL
open Tm
variable {P : Addr} {S : Sto}
def C79 : DrC := ⟨2147483587, 40961, 50207, 17, 50, 151⟩
theorem C79_ok : C79.ok := by unfold DrC.ok C79; decide
theorem F_draw (k : Nat) : F P (k + 3) .f_draw_l = runF 6 (drawB3 C79) := rfl
theorem F_pick (k : Nat) : F P (k + 4) .f_pick_l = runF 2 (pickBX (runF 6 (drawB3 C79))) := rfl
section
variable {cs : List PyData} {L : Nat} {n m : Int} {k : Nat} {Q : D → Sto → Prop} {X : Exn → Sto → Prop}
theorem dr_wp (hc : Cells cs) (h : Tape cs 1 L n S) (hk : 3 ≤ k) (hn : n ≤ 1000000000000) (hm : 0 < m) (hm2 : m ≤ 1000000) (q : ∀ g S', 0 ≤ g → g < m → Tape cs 1 L (n + 1) S' → Oth 1 S S' → Q (.p (.int g)) S') : wp (cutX S.length (F P k .f_draw_l [.ob 1, .p (.int m)] S)) Q X := by
  obtain ⟨k, rfl⟩ := k3 hk
  rw [F_draw]
  exact drawK3_wp C79_ok hc h hn hm (by
    have := lg (n := m.natAbs) (k := 40) (by have : (2 : Nat) ^ 40 = 1099511627776 := by decide
                                             omega) (by decide)
    omega) q
theorem pk_wp {xs : List PyData} (hc : Cells cs) (h : Tape cs 1 L n S) (hk : 4 ≤ k) (hn : n ≤ 1000000000000) (hx : xs ≠ []) (hx2 : xs.length < 1000000) (q : ∀ d S', d ∈ xs → Tape cs 1 L (n + 1) S' → Oth 1 S S' → Q (.p d) S') : wp (cutX S.length (F P k .f_pick_l [.ob 1, .p (.list xs)] S)) Q X := by
  obtain ⟨k, rfl⟩ : ∃ j, k = j + 4 := ⟨k - 4, by omega⟩
  rw [F_pick]
  exact pickK3_wp C79_ok hc h hn hx hx2 q
end
def okSB (n : Str) : Bool := (PyData.str n).canLay0 && decide (wt (.str n) ≤ 20)
theorem okS_of {n : Str} (h : (PyData.str n).canLay0 = true) (h2 : (PyData.str n).shown.length ≤ 20) : okS n := ⟨h, by simpa [wt] using h2⟩
theorem okS_lit (s : String) (h2 : (PyData.str (Str.ofString s)).shown.length ≤ 20) : okS (Str.ofString s) := okS_of (by simp [PyData.canLay0, strOk_of]) h2
theorem lett {d : Nat} (h : d ≤ 4) (pre : String) (hp : pre = "p" ∨ pre = "l") : ∃ x n : Str, (∀ z : Sto, opSubs (.p (.str "abcdefgh")) (.p (.int (d : Int))) z = .ok (.p (.str x)) z) ∧ (∀ z : Sto, opAddX (.p (.str (Str.ofString pre))) (.p (.str x)) z = .ok (.p (.str n)) z) ∧ okS n := by
  have key : ∀ s : String, s.length ≤ 1 → True := fun _ _ => trivial
  rcases hp with rfl | rfl <;> (match d, h with
    | 0, _ => exact ⟨"a", _, fun z => rfl, fun z => rfl, by refine okS_of ?_ ?_ <;> decide +kernel⟩
    | 1, _ => exact ⟨"b", _, fun z => rfl, fun z => rfl, by refine okS_of ?_ ?_ <;> decide +kernel⟩
    | 2, _ => exact ⟨"c", _, fun z => rfl, fun z => rfl, by refine okS_of ?_ ?_ <;> decide +kernel⟩
    | 3, _ => exact ⟨"d", _, fun z => rfl, fun z => rfl, by refine okS_of ?_ ?_ <;> decide +kernel⟩
    | 4, _ => exact ⟨"e", _, fun z => rfl, fun z => rfl, by refine okS_of ?_ ?_ <;> decide +kernel⟩)
/-- a name as a leaf -/
theorem leaf_nm {n : Str} (h : okS n) : (Tm.lf "name" (.str n)).wk ∧ (Tm.lf "name" (.str n)).gd := by
  refine ⟨by simp only [wk]; decide, ?_, ?_, ?_, ?_⟩
  · have h0 : PyData.strOk n = true := by simpa [PyData.canLay0] using h.1
    simp [PyData.canLay0, PyData.canLayAll0, strOk_of, h0]
  · simp [PyData.depth, PyData.depthAll]
  · rfl
  · have h1 := h.2
    have h2 : wt (.str "name") ≤ 6 := by simp only [wt]; decide +kernel
    simp only [wt, wtAll] at h1 h2 ⊢
    omega
def somes : List Str := ["plus", "size", "join", "upto", "yes", "alike", "shown"]
theorem somes_ok : ∀ n ∈ somes, okS n := by
  intro n hn
  simp [somes] at hn
  rcases hn with rfl | rfl | rfl | rfl | rfl | rfl | rfl <;> (refine okS_of ?_ ?_ <;> decide +kernel)
theorem leaf_w : (Tm.lf "whole" (.int 3)).wk ∧ (Tm.lf "whole" (.int 3)).gd := by
  refine ⟨by simp only [wk]; decide, by decide +kernel, by simp [PyData.depth, PyData.depthAll], by decide +kernel, by simp only [wt, wtAll]; decide +kernel⟩
theorem leaf_t : (Tm.lf "text" (.str "t")).wk ∧ (Tm.lf "text" (.str "t")).gd := by
  refine ⟨by simp only [wk]; decide, by decide +kernel, by simp [PyData.depth, PyData.depthAll], by decide +kernel, by simp only [wt, wtAll]; decide +kernel⟩
theorem names_sh {ns : List Str} (h : ∀ n ∈ ns, okS n) : SeqAt.shaped (.list (ns.map .str)) = true := shL fun d hd => by
  obtain ⟨n, hn, rfl⟩ := List.mem_map.mp hd
  exact ⟨(h n hn).1, by simp [PyData.depth]⟩
end K79

namespace K79
open PySem L2 DL
open Tm
variable {P : Addr} {S : Sto}
def cost (d : Nat) : Int := 3 ^ (d + 1) - 1
theorem cost0 : cost 0 = 2 := rfl
theorem cost_s (d : Nat) : cost (d + 1) = 3 * cost d + 2 := by unfold cost; rw [Int.pow_succ]; omega
theorem cost_pos (d : Nat) : 2 ≤ cost d := by
  induction d with
  | zero => decide
  | succ d ih => rw [cost_s]; omega
theorem F_lo (k : Nat) : F P (k + 3) .f_loose_l = runF 9 (b_f_loose_l (F P (k + 2))) := rfl
def goodT (d : Nat) (t : Tm) : Prop := t.wk ∧ t.gd ∧ t.dep ≤ d + 1
set_option maxHeartbeats 4000000 in
theorem lo_wp {cs : List PyData} (hc : Cells cs) {L : Nat} : ∀ {d k : Nat} {ns : List Str} {n : Int} {S : Sto} {Q : D → Sto → Prop} {X : Exn → Sto → Prop}, d ≤ 4 → d + 8 ≤ k → n + cost d ≤ 100000000 → Tape cs 1 L n S → (∀ m ∈ ns, okS m) → ns.length + d ≤ 100 →
    (∀ t S', goodT d t → Tape cs 1 L (n + cost d) S' → Oth 1 S S' → Q (.p t.py) S') → wp (cutX S.length (F P k .f_loose_l [.ob 1, .p (.list (ns.map .str)), .p (.int (d : Int))] S)) Q X
  | d, k, ns, n, S, Q, X, hd, hk, hn, h, hns, hnl, q => by
    obtain ⟨k, rfl⟩ := k3 (k := k) (by omega)
    rw [F_lo]
    refine wp_cutXS ?_
    rw [wp_run]
    show wpS (b_f_loose_l (F P (k + 2)) [some (.ob 1), some (.p (.list (ns.map .str))), some (.p (.int (d : Int))), none, none, none, none, none, none] S) _
    have hcp := cost_pos d
    have hsome : ∀ z : Sto, mkLst [.p (.str "plus"), .p (.str "size"), .p (.str "join"), .p (.str "upto"), .p (.str "yes"), .p (.str "alike"), .p (.str "shown")] z = .ok (.p (.list (somes.map .str))) z := fun z => by simp [mkLst, LIM, pys, somes]
    have heq : ∀ z : Sto, opEqZ true (.p (.list (ns.map .str))) (.p (.list [])) z = .ok (.p (.bool (!(ns.map PyData.str).isEmpty))) z := fun z => eq_lnil (neg := true) (names_sh hns)
    have hmk0 : ∀ z : Sto, mkLst [] z = .ok (.p (.list [])) z := fun z => by simp [mkLst, LIM, pys]
    -- the end: a term
    have fin : ∀ {t : Tm} {S' : Sto} {m : Int}, goodT d t → Tape cs 1 L m S' → m ≤ n + cost d → Oth 1 S S' → (S'.length = S.length ∧ Q (.p t.py) S') := fun {t S' m} ht h' hm o => ⟨h'.1.trans h.1.symm, q t S' ht (h'.mono hm) o⟩
    -- behind the way
    have go : ∀ (g : Int) (S1 : Sto), 0 ≤ g → (d = 0 → g < 4) → g < 10 → Tape cs 1 L (n + 1) S1 → Oth 1 S S1 →
        wpS (sSeq (sSet 4 (eA mkLst (aCons (eC (.p (.str "plus"))) (aCons (eC (.p (.str "size"))) (aCons (eC (.p (.str "join"))) (aCons (eC (.p (.str "upto"))) (aCons (eC (.p (.str "yes"))) (aCons (eC (.p (.str "alike"))) (aCons (eC (.p (.str "shown"))) aNil)))))))))
          (sSeq (sIf (tAndD (tC2 (opLt) (eVar 3) (eC (.p (.int 2)))) (tC2 (opEqZ true) (eVar 1) (eA mkLst aNil))) (sRet (eA mkTup (aCons (eC (.p (.str "name"))) (aCons (eCallX 2 (F P (k + 2) .f_pick_l) (aCons (eVar 0) (aCons (eVar 1) aNil))) aNil)))) sNext)
          (f_loose_l_5 (F P (k + 2)))) [some (.ob 1), some (.p (.list (ns.map .str))), some (.p (.int (d : Int))), some (.p (.int g)), none, none, none, none, none] S1) (rn (fun d s => s.length = S.length ∧ Q d s) fun x s => s.length = S.length ∧ X x s) := fun g S1 g0 gd g10 t1 o1 => by
      simp [hsome, heq, hmk0]
      have picks : ∀ z : Sto, lcD (gN 7) tYesD (eA mkTup (aCons (eC (D.p (PyData.str (Str.ofString "name")))) (aCons (eVar 7) aNil))) [some (.ob 1), some (.p (.list (ns.map .str))), some (.p (.int (d : Int))), some (.p (.int g)), some (.p (.list (somes.map .str))), none, none, none, none] (somes.map fun m => D.p (.str m)) z = .ok (somes.map fun m => (Tm.lf "name" (.str m)).py) z := fun z =>
        lcD_on (fun m : Str => .str m) (fun m => (Tm.lf "name" (.str m)).py) fun m _ => ⟨_, rfl, by simp [mkTup, LIM, py]⟩
      have hsl : somes.length = 7 := rfl
      have hmm : List.map (D.p ∘ PyData.str) somes = somes.map fun m => D.p (.str m) := rfl
      have nodes : 1 ≤ d → ¬ g < 4 → wpS (f_loose_l_4 (F P (k + 2)) [some (.ob 1), some (.p (.list (ns.map .str))), some (.p (.int (d : Int))), some (.p (.int g)), some (.p (.list (somes.map .str))), none, none, none, none] S1) (rn (fun d s => s.length = S.length ∧ Q d s) fun x s => s.length = S.length ∧ X x s) := fun hd1 hg4 => by
        obtain ⟨e, rfl⟩ : ∃ e, d = e + 1 := ⟨d - 1, by omega⟩
        have hce := cost_s e
        have hpe := cost_pos e
        have hsub : ∀ z : Sto, opSub (.p (.int ((e + 1 : Nat) : Int))) (.p (.int 1)) z = .ok (.p (.int (e : Int))) z := fun z => by
          show Out.ok (D.p (.int (((e + 1 : Nat) : Int) - 1))) z = _
          rw [show ((e + 1 : Nat) : Int) - 1 = (e : Int) by omega]
        have mk : ∀ {t : Tm} {S' : Sto} {m : Int} {xs : List PyData}, .tuple xs = t.py → xs.length ≤ 10 → goodT (e + 1) t → Tape cs 1 L m S' → m ≤ n + cost (e + 1) → Oth 1 S S' → wp (mkTup (xs.map D.p) S') (fun d s => s.length = S.length ∧ Q d s) fun x s => s.length = S.length ∧ X x s := fun {t S' m xs} hx hl ht h' hm o => by
          have : mkTup (xs.map D.p) S' = .ok (.p (.tuple xs)) S' := by
            have hx6 : xs.length ≤ 1000000 := by omega
            simp [mkTup, pys_p, LIM, hx6]
          rw [this, hx]
          exact fin ht h' hm o
        unfold f_loose_l_4
        by_cases hg7 : g < 7
        · simp [hg7, hsub]
          refine lo_wp hc (k := k + 2) (d := e) (by omega) (by omega) (by omega) t1 hns (by omega) fun f S2 hf t2 o2 => ?_
          refine lo_wp hc (k := k + 2) (d := e) (by omega) (by omega) (by omega) t2 hns (by omega) fun x S3 hx t3 o3 => ?_
          exact mk (t := .us f x) (xs := [.str "use", f.py, x.py]) rfl (by simp) ⟨⟨hf.1, hx.1⟩, ⟨hf.2.1, hx.2.1⟩, by have := hf.2.2; have := hx.2.2; simp only [dep]; omega⟩ t3 (by omega) ((o1.trans o2).trans o3)
        · obtain ⟨xp, np, hp1, hp2, hp3⟩ := lett (d := e + 1) hd "p" (.inl rfl)
          obtain ⟨xl, nl, hl1, hl2, hl3⟩ := lett (d := e + 1) hd "l" (.inr rfl)
          simp only [show ((e + 1 : Nat) : Int) = (e : Int) + 1 from by omega] at hp1 hl1
          have happ : ∀ (m : Str) (z : Sto), opAddX (.p (.list (ns.map .str))) (.p (.list [.str m])) z = .ok (.p (.list ((ns ++ [m]).map .str))) z := fun m z => by
            rw [addX_l (by simp [LIM]; omega)]
            simp
          have hmk1 : ∀ (m : Str) (z : Sto), mkLst [.p (.str m)] z = .ok (.p (.list [.str m])) z := fun m z => by simp [mkLst, LIM, pys]
          have hapn : ∀ m : Str, okS m → ∀ m' ∈ ns ++ [m], okS m' := fun m hm m' hm' => by
            rcases List.mem_append.mp hm' with h | h
            · exact hns m' h
            · simp at h; subst h; exact hm
          simp [hg7]
          unfold f_loose_l_3
          by_cases g7 : g = 7
          · simp [g7, hp1, hp2, hmk1, happ, hsub, -List.map_append]
            refine lo_wp hc (k := k + 2) (d := e) (ns := ns ++ [np]) (by omega) (by omega) (by omega) t1 (hapn np hp3) (by simp; omega) fun b S2 hb t2 o2 => ?_
            exact mk (t := .gv np b) (xs := [.str "given", .str np, b.py]) rfl (by simp) ⟨hb.1, ⟨hp3, hb.2.1⟩, by have := hb.2.2; simp only [dep]; omega⟩ t2 (by omega) (o1.trans o2)
          · simp [g7]
            unfold f_loose_l_2
            by_cases g8 : g = 8
            · simp [g8, hl1, hl2, hmk1, happ, hsub, -List.map_append]
              refine lo_wp hc (k := k + 2) (d := e) (ns := ns ++ [nl]) (by omega) (by omega) (by omega) t1 (hapn nl hl3) (by simp; omega) fun b S2 hb t2 o2 => ?_
              have hm1 : ∀ z : Sto, mkTup [.p (.str nl), .p b.py] z = .ok (.p (.tuple [.str nl, b.py])) z := fun z => by simp [mkTup, LIM, pys]
              have hm2 : ∀ z : Sto, mkTup [.p (.tuple [.str nl, b.py])] z = .ok (.p (.tuple [.tuple [.str nl, b.py]])) z := fun z => by simp [mkTup, LIM, pys]
              simp [hmk1, happ, hsub, hm1, hm2, -List.map_append]
              refine lo_wp hc (k := k + 2) (d := e) (ns := ns ++ [nl]) (by omega) (by omega) (by omega) t2 (hapn nl hl3) (by simp; omega) fun x S3 hx t3 o3 => ?_
              exact mk (t := .lt nl b x) (xs := [.str "let", .tuple [.tuple [.str nl, b.py]], x.py]) rfl (by simp) ⟨⟨hb.1, hx.1⟩, ⟨hl3, hb.2.1, hx.2.1⟩, by have := hb.2.2; have := hx.2.2; simp only [dep]; omega⟩ t3 (by omega) ((o1.trans o2).trans o3)
            · simp [g8]
              unfold f_loose_l_1
              have hr2 : ∀ z : Sto, rangeM [.p (.int 2)] z = .ok [.p (.int 0), .p (.int 1)] z := fun z => by
                have := range_ok (j := 2) (S := z) (by decide) (by decide)
                simpa [List.range_succ] using this
              simp [hr2, lcD, hsub, LIM]
              refine lo_wp hc (k := k + 2) (d := e) (by omega) (by omega) (by omega) t1 hns (by omega) fun a S2 ha t2 o2 => ?_
              simp
              refine lo_wp hc (k := k + 2) (d := e) (by omega) (by omega) (by omega) t2 hns (by omega) fun b S3 hb t3 o3 => ?_
              simp
              refine lo_wp hc (k := k + 2) (d := e) (by omega) (by omega) (by omega) t3 hns (by omega) fun s S4 hs t4 o4 => ?_
              have b0 : opSubs (.p (.list [a.py, b.py])) (.p (.int 0)) S4 = .ok (.p a.py) S4 := subs_l rfl
              have b1 : opSubs (.p (.list [a.py, b.py])) (.p (.int 1)) S4 = .ok (.p b.py) S4 := subs_l rfl
              have m1 : ∀ x y z : PyData, mkTup [.p x, .p y, .p z] S4 = .ok (.p (.tuple [x, y, z])) S4 := fun x y z => by simp [mkTup, LIM, pys]
              have m2 : ∀ x y : PyData, mkTup [.p x, .p y] S4 = .ok (.p (.tuple [x, y])) S4 := fun x y => by simp [mkTup, LIM, pys]
              simp [b0, b1, m1, m2]
              exact fin (t := .mt s a b) ⟨⟨hs.1, ha.1, hb.1⟩, ⟨hs.2.1, ha.2.1, hb.2.1⟩, by have := hs.2.2; have := ha.2.2; have := hb.2.2; simp only [dep]; omega⟩ t4 (by omega) (((o1.trans o2).trans o3).trans o4)
      have leaf : wpS (f_loose_l_5 (F P (k + 2)) [some (.ob 1), some (.p (.list (ns.map .str))), some (.p (.int (d : Int))), some (.p (.int g)), some (.p (.list (somes.map .str))), none, none, none, none] S1) (rn (fun d s => s.length = S.length ∧ Q d s) fun x s => s.length = S.length ∧ X x s) := by
        by_cases hg4 : g < 4
        · unfold f_loose_l_5
          simp [LIM, hg4]
          rw [hmm]
          refine ⟨by rw [hsl]; decide, wp_of (picks _) ?_⟩
          rw [addX_l (by simp [LIM, hsl])]
          show wp _ _ _
          refine pk_wp hc t1 (by omega) (by omega) (by simp) (by simp [hsl]) fun y S2 hy t2 o2 => ?_
          have ht : ∃ u : Tm, u.wk ∧ u.gd ∧ u.dep = 1 ∧ y = u.py := by
            simp only [List.cons_append, List.nil_append, List.mem_cons] at hy
            rcases hy with rfl | rfl | hy
            · exact ⟨_, leaf_w.1, leaf_w.2, rfl, rfl⟩
            · exact ⟨_, leaf_t.1, leaf_t.2, rfl, rfl⟩
            · obtain ⟨m, hm, rfl⟩ := List.mem_map.mp hy
              exact ⟨_, (leaf_nm (somes_ok m hm)).1, (leaf_nm (somes_ok m hm)).2, rfl, rfl⟩
          obtain ⟨u, u1, u2, u3, rfl⟩ := ht
          exact fin ⟨u1, u2, by omega⟩ t2 (by omega) (o1.trans o2)
        · unfold f_loose_l_5
          simp [hg4]
          exact nodes (by by_cases h0 : d = 0; exact absurd (gd h0) hg4; omega) hg4
      by_cases hg2 : g < 2
      · rw [if_pos hg2]
        by_cases hn0 : ns = []
        · rw [if_pos hn0]; exact leaf
        · rw [if_neg hn0]
          refine pk_wp hc t1 (by omega) (by omega) (by simpa using hn0) (by simp; omega) fun y S2 hy t2 o2 => ?_
          obtain ⟨m, hm, rfl⟩ := List.mem_map.mp hy
          have : mkTup [.p (.str "name"), .p (.str m)] S2 = .ok (.p (Tm.lf "name" (.str m)).py) S2 := by simp [mkTup, LIM, py]
          rw [this]
          exact fin ⟨(leaf_nm (hns m hm)).1, (leaf_nm (hns m hm)).2, by simp [dep]⟩ t2 (by omega) (o1.trans o2)
      · rw [if_neg hg2]; exact leaf
    unfold b_f_loose_l
    rw [wpS_seq]
    rw [sSet_, wpS_st]
    by_cases h0 : d = 0
    · subst h0
      have hif : ∀ ρ : Ev, ρ = [some (.ob 1), some (.p (.list (ns.map .str))), some (.p (.int ((0 : Nat) : Int))), none, none, none, none, none, none] → (eIf (tC2 (opGt) (eVar 2) (eC (.p (.int 0)))) (eCallX 2 (F P (k + 2) .f_draw_l) (aCons (eVar 0) (aCons (eC (.p (.int 10))) aNil))) (eCallX 2 (F P (k + 2) .f_draw_l) (aCons (eVar 0) (aCons (eC (.p (.int 4))) aNil)))) ρ S = cutX S.length (F P (k + 2) .f_draw_l [.ob 1, .p (.int 4)] S) := fun ρ hρ => by
        subst hρ; simp
      rw [hif _ rfl]
      refine dr_wp hc h (by omega) (by omega) (by decide) (by decide) fun g S1 g0 g1 t1 o1 => ?_
      exact go g S1 g0 (fun _ => g1) (by omega) t1 o1
    · have hif : ∀ ρ : Ev, ρ = [some (.ob 1), some (.p (.list (ns.map .str))), some (.p (.int (d : Int))), none, none, none, none, none, none] → (eIf (tC2 (opGt) (eVar 2) (eC (.p (.int 0)))) (eCallX 2 (F P (k + 2) .f_draw_l) (aCons (eVar 0) (aCons (eC (.p (.int 10))) aNil))) (eCallX 2 (F P (k + 2) .f_draw_l) (aCons (eVar 0) (aCons (eC (.p (.int 4))) aNil)))) ρ S = cutX S.length (F P (k + 2) .f_draw_l [.ob 1, .p (.int 10)] S) := fun ρ hρ => by
        subst hρ
        have : 0 < d := by omega
        simp [this]
      rw [hif _ rfl]
      refine dr_wp hc h (by omega) (by omega) (by decide) (by decide) fun g S1 g0 g1 t1 o1 => ?_
      exact go g S1 g0 (fun z => absurd z h0) g1 t1 o1
  termination_by d => d
end K79

namespace K79
open PySem L2 DL
open Tm
variable {P : Addr} {S : Sto}
theorem F_ch (k : Nat) : F P (k + 3) .f_chosen_l = runF 8 (b_f_chosen_l (F P (k + 2))) := rfl
theorem okE_n {g : Int} (h0 : 0 ≤ g) (h1 : g < 4) : okE (.int g) := by
  have : g = 0 ∨ g = 1 ∨ g = 2 ∨ g = 3 := by omega
  rcases this with rfl | rfl | rfl | rfl
  · exact .inl rfl
  · exact .inr (.inl rfl)
  · exact .inr (.inr (.inl rfl))
  · exact .inr (.inr (.inr (.inl rfl)))
theorem okC_t {xs : List PyData} (h : ∀ x ∈ xs, okE x) (hl : xs.length ≤ 10) : okC (.tuple xs) := .inl ⟨xs, .inl rfl, h, hl⟩
theorem snoc_E {p : List PyData} {x : PyData} (h : ∀ y ∈ p, okE y) (hx : okE x) : ∀ y ∈ p ++ [x], okE y := fun y hy => by
  rcases List.mem_append.mp hy with hy | hy
  · exact h y hy
  · simp at hy; subst hy; exact hx
def odds (p : List Nat) (g : Int) : List PyData := [.tuple (pth p ++ [.int g]), .list (pth p), .tuple (cutP (pth p) none (some (-1))), .tuple (pth p ++ [.bool true]), .none, .tuple [.int (-1)], .str "0", .tuple (pth p ++ [.str "a"])]
theorem cutP_len {xs : List PyData} {lo hi : Option Int} : (cutP xs lo hi).length ≤ xs.length := by unfold cutP; simp; omega
theorem odds_ok {t : Tm} (hd : t.dep ≤ 8) {p : List Nat} (hv : val t p ≠ none) {g : Int} (h0 : 0 ≤ g) (h1 : g < 4) : ∀ c ∈ odds p g, okC c := by
  have hE := val_E hv
  have hl : (pth p).length ≤ 8 := by have := val_dep hv; rw [pth_len]; omega
  intro c hc
  simp [odds] at hc
  rcases hc with rfl | rfl | rfl | rfl | rfl | rfl | rfl | rfl
  · exact okC_t (snoc_E hE (okE_n h0 h1)) (by simp; omega)
  · exact .inl ⟨_, .inr rfl, hE, by omega⟩
  · exact okC_t (fun x hx => hE x (cutP_mem hx)) (by have := cutP_len (xs := pth p) (lo := none) (hi := some (-1)); omega)
  · exact okC_t (snoc_E hE (by simp [okE])) (by simp; omega)
  · exact .inr (.inl rfl)
  · exact okC_t (fun x hx => by simp at hx; subst hx; simp [okE]) (by simp)
  · exact .inr (.inr rfl)
  · exact okC_t (snoc_E hE (by simp [okE])) (by simp; omega)
section
variable {cs : List PyData} {k : Nat} {t : Tm} {n : Int} {a b y2 y5 y6 y7 : Option D} {sps : List PyData} {xs : List PyData} {R : Fl → Sto → Prop}
set_option maxHeartbeats 2000000 in
theorem turn_ch (hc : Cells cs) (hk : 5 ≤ k) (ht : t.dep ≤ 8) (hs : ∀ d ∈ sps, ∃ p, d = tp p ∧ val t p ≠ none) (hs0 : sps ≠ []) (hsl : sps.length ≤ 1000) (hn : n ≤ 1000000) (h : Tape cs 1 3 n S) (hx : S[2]? = some (.lst xs)) (hxl : xs.length ≤ 100)
    (q : ∀ c S' y5 y6, okC c → Tape cs 1 3 (n + 4) S' → S'[2]? = some (.lst (xs ++ [c])) → S'[0]? = S[0]? → R (.next [some (.ob 1), b, y2, some (.p (.list sps)), some (.ob 2), y5, y6, y7]) S') :
    wpS (f_chosen_l_1 (F P k) [some (.ob 1), b, y2, some (.p (.list sps)), some (.ob 2), y5, y6, y7] S) R := by
  unfold f_chosen_l_1
  simp
  refine pk_wp hc h (by omega) (by omega) hs0 (by omega) fun d S1 hd t1 o1 => ?_
  obtain ⟨p, rfl, hv⟩ := hs d hd
  have hlp : (pth p).length ≤ 8 := by have := val_dep hv; rw [pth_len]; omega
  refine dr_wp hc t1 (by omega) (by omega) (by decide) (by decide) fun g S2 g0 g1 t2 o2 => ?_
  have hm1 : ∀ (x : PyData) (z : Sto), mkTup [.p x] z = .ok (.p (.tuple [x])) z := fun x z => by simp [mkTup, LIM, pys]
  have ha : ∀ (x : PyData) (z : Sto), opAddX (.p (tp p)) (.p (.tuple [x])) z = .ok (.p (.tuple (pth p ++ [x]))) z := fun x z => addX_t (by simp [LIM]; omega)
  have hli : ∀ z : Sto, listXM finL [.p (tp p)] z = .ok (.p (.list (pth p))) z := fun z => by simp [listXM, tp, finL, seqOf]
  have hsl' : ∀ z : Sto, sliM (.p (tp p)) none (some (-1)) z = .ok (.p (.tuple (cutP (pth p) none (some (-1))))) z := fun z => rfl
  have hmk : ∀ z : Sto, mkLst [.p (.tuple (pth p ++ [.int g])), .p (.list (pth p)), .p (.tuple (cutP (pth p) none (some (-1)))), .p (.tuple (pth p ++ [.bool true])), .p .none, .p (.tuple [.int (-1)]), .p (.str "0"), .p (.tuple (pth p ++ [.str "a"]))] z = .ok (.p (.list (odds p g))) z := fun z => by simp [mkLst, LIM, pys, odds]
  have hx2 : S2[2]? = some (.lst xs) := by rw [o2 2 (by decide), o1 2 (by decide)]; exact hx
  have h02 : S2[0]? = S[0]? := by rw [o2 0 (by decide), o1 0 (by decide)]
  simp [hm1, ha, hli, hsl', hmk, rlOf_ob hx2]
  refine dr_wp hc t2 (by omega) (by omega) (by decide) (by decide) fun w S3 w0 w1 t3 o3 => ?_
  have hx3 : S3[2]? = some (.lst xs) := by rw [o3 2 (by decide)]; exact hx2
  have h03 : S3[0]? = S[0]? := by rw [o3 0 (by decide)]; exact h02
  have app : ∀ (c : PyData) (S' : Sto) (m : Int), okC c → Tape cs 1 3 m S' → m ≤ n + 4 → S'[2]? = some (.lst xs) → S'[0]? = S[0]? → wp (appendM (.ob 2) [.p c] S') (fun _ s => R (.next [some (.ob 1), b, y2, some (.p (.list sps)), some (.ob 2), some (.p (tp p)), some (.p (.list (odds p g))), y7]) s) fun x s => R (.exc x [some (.ob 1), b, y2, some (.p (.list sps)), some (.ob 2), some (.p (tp p)), some (.p (.list (odds p g))), y7]) s := fun c S' m hcc ht' hm hx' h0' => by
    rw [append_ok hx' (by omega)]
    have hl3 : S'.length = 3 := ht'.1
    exact q c _ _ _ hcc ((ht'.mono hm).set (by decide)) (set_at (by omega)) (by rw [set_ne (by decide)]; exact h0')
  by_cases hw : w = 0
  · subst hw
    simp
    refine pk_wp hc t3 (by omega) (by omega) (by simp [odds]) (by simp [odds]) fun c S4 hcm t4 o4 => ?_
    exact app c S4 _ (odds_ok ht hv g0 g1 c hcm) t4 (by omega) (by rw [o4 2 (by decide)]; exact hx3) (by rw [o4 0 (by decide)]; exact h03)
  · simp [hw]
    exact app _ S3 _ (val_C (by omega) hv) t3 (by omega) hx3 h03
end
set_option maxHeartbeats 2000000 in
theorem ch_wp {cs : List PyData} (hc : Cells cs) {k : Nat} (hk : 12 ≤ k) {t : Tm} (ht : okT t) {n : Int} (hn : n ≤ 900000) (h : Tape cs 1 2 n S) {Q : D → Sto → Prop} {X : Exn → Sto → Prop}
    (q : ∀ xs S', (∀ c ∈ xs, okC c) → xs.length ≤ 4 → Tape cs 1 2 (n + 21) S' → S'[0]? = S[0]? → Q (.p (.list xs)) S') : wp (cutX S.length (F P k .f_chosen_l [.ob 1, .p t.py] S)) Q X := by
  obtain ⟨k, rfl⟩ := k3 (k := k) (by omega)
  rw [F_ch]
  refine wp_cutX ?_
  rw [wp_run]
  show wpS (b_f_chosen_l (F P (k + 2)) [some (.ob 1), some (.p t.py), none, none, none, none, none, none] S) _
  unfold b_f_chosen_l f_chosen_l_2
  have hsp := spots_ok (P := P) (S := S) (k := k + 2) (by omega) ht
  have hlen := sp_len (t := t) (p := []) ht.2.2
  have h35 : (3 : Nat) ^ 5 = 243 := by decide
  have hll : (sp [] t).length ≤ 1000000 := by omega
  have hS : S.length = 2 := h.1
  have hlc : lcD (gN 7) tYesD (e2 opSubs (eVar 7) (eC (.p (.int 0)))) [some (.ob 1), some (.p t.py), none, none, none, none, none, none] ((sp [] t).map fun q => D.p (spy q)) S = .ok ((sp [] t).map fun q => tp q.1) S :=
    lcD_on spy (fun q => tp q.1) fun q _ => ⟨_, rfl, by
      have h0 : opSubs (.p (spy q)) (.p (.int 0)) S = .ok (.p (tp q.1)) S := subs_t rfl
      simp [h0]⟩
  have hmm : ((sp [] t).map spy).map D.p = (sp [] t).map fun q => D.p (spy q) := by simp
  have hm0 : mkLstM [] S = .ok (.ob 2) (S ++ [.lst []]) := by simp [mkLstM, LIM, pys, hS]
  simp [hsp, LIM, hll, -List.map_map]
  rw [hmm]
  refine wp_of hlc ?_
  rw [show S.length + 1 = (S ++ [MO.lst []]).length from by simp, show D.ob S.length = D.ob 2 from by rw [hS]]
  have t0 : Tape cs 1 3 n (S ++ [.lst []]) := h.app (by decide)
  refine dr_wp hc t0 (by omega) (by omega) (by decide) (by decide) fun m S1 m0 m1 t1 o1 => ?_
  have hr := range_ok (j := m) (S := S1) m0 (by omega)
  rw [hr]
  show wpS _ _
  have hsps : ∀ d ∈ (sp [] t).map (fun q => tp q.1), ∃ p, d = tp p ∧ val t p ≠ none := fun d hd => by
    obtain ⟨q, hq, rfl⟩ := List.mem_map.mp hd
    obtain ⟨r, h1, h2⟩ := sp_to (Nat.le_refl _) hq
    simp at h1
    exact ⟨q.1, rfl, by rw [h1, h2]; simp⟩
  have hne : (sp [] t).map (fun q => tp q.1) ≠ [] := by rw [sp_eq]; simp
  refine forD_wp (fun j ρ S' => ∃ xs y2 y5 y6 y7, ρ = [some (.ob 1), some (.p t.py), y2, some (.p (.list ((sp [] t).map fun q => tp q.1))), some (.ob 2), y5, y6, y7] ∧ S'[2]? = some (.lst xs) ∧ xs.length = j ∧ (∀ c ∈ xs, okC c) ∧ Tape cs 1 3 (n + 1 + 4 * j) S' ∧ S'[0]? = S[0]?) (j := 0)
    ⟨[], _, _, _, _, rfl, by rw [o1 2 (by decide)]; simp [hS], rfl, by simp, by simpa using t1, by rw [o1 0 (by decide)]; rw [List.getElem?_append_left (by omega)]⟩ ?_ ?_
  · rintro i d ρ S' hd ⟨xs, y2, y5, y6, y7, rfl, hx, hxl, hxc, t2, h0⟩
    have hi : i < 4 := by
      have := (List.getElem?_eq_some_iff.mp hd).1
      simp at this
      omega
    show wpS (f_chosen_l_1 (F P (k + 2)) [some (.ob 1), some (.p t.py), some d, some (.p (.list ((sp [] t).map fun q => tp q.1))), some (.ob 2), y5, y6, y7] S') _
    refine turn_ch hc (by omega) (by have := ht.2.2; omega) hsps hne (by simp; omega) (by omega) t2 hx (by omega) fun c S3 y5 y6 hcc t3 hx3 h03 => ?_
    refine ⟨xs ++ [c], _, _, _, _, rfl, hx3, by simp [hxl], fun e he => ?_, t3.mono (by omega), h03.trans h0⟩
    rcases List.mem_append.mp he with he | he
    · exact hxc e he
    · simp at he; subst he; exact hcc
  · rintro ρ S' ⟨xs, y2, y5, y6, y7, rfl, hx, hxl, hxc, t2, h0⟩
    have hxl : xs.length ≤ 4 := by simp at hxl; omega
    have hl3 : S'.length = 3 := t2.1
    have hice := iceD_l hx
    simp [hice]
    refine q xs _ hxc hxl ?_ ?_
    · rw [hS]
      refine Tape.cut (L' := 3) ((t2.set (by decide)).mono ?_) (by decide) (by decide)
      simp
      omega
    · rw [hS, List.getElem?_take, if_pos (by decide), set_ne (by decide)]
      exact h0
end K79

namespace K79
open PySem L2 DL
open Tm
variable {P : Addr} {S : Sto}

theorem wp_er {α : Type} {o : Out α} {x : Exn} {s : Sto} (h : wp o (fun _ _ => False) (fun y t => y = x ∧ t = s)) : o = .err x s := by
  cases o with
  | ok b t => exact h.elim
  | err y t => obtain ⟨rfl, rfl⟩ := h; rfl
  | bad => exact h.elim
theorem wt_s {n : Str} (h : okS n) : wt (.str n) ≤ 20 := h.2
def nd : Tm → Nat
  | .lf _ _ => 1
  | .ho => 1
  | .us f x => 1 + nd f + nd x
  | .gv _ b => 1 + nd b
  | .lt _ b e => 1 + nd b + nd e
  | .mt s a b => 1 + nd s + nd a + nd b
theorem wt_py : ∀ {t : Tm}, t.gd → wt t.py ≤ 200 * nd t
  | .lf w d, h => by have := h.2.2.2; simp only [py, nd]; omega
  | .ho, _ => by have := s_wt.1; simp only [py, nd, wt, wtAll] at this ⊢; omega
  | .us f x, h => by
    have h1 := wt_py h.1
    have h2 := wt_py h.2
    have := s_wt.2.1
    simp only [py, nd, wt, wtAll] at this h1 h2 ⊢
    omega
  | .gv n b, h => by
    have h1 := wt_py h.2
    have h2 := h.1.2
    have := s_wt.2.2.1
    simp only [py, nd, wt, wtAll] at this h1 h2 ⊢
    omega
  | .lt n b e, h => by
    have h1 := wt_py h.2.1
    have h3 := wt_py h.2.2
    have h2 := h.1.2
    have := s_wt.2.2.2.1
    simp only [py, nd, wt, wtAll] at this h1 h2 h3 ⊢
    omega
  | .mt s a b, h => by
    have h1 := wt_py h.1
    have h2 := wt_py h.2.1
    have h3 := wt_py h.2.2
    have h4 := s_wt.2.2.2.2.1
    have h5 := s_wt.2.2.2.2.2.1
    have h6 := s_wt.2.2.2.2.2.2
    simp only [py, nd, wt, wtAll] at h1 h2 h3 h4 h5 h6 ⊢
    omega
theorem nd_le : ∀ {m : Nat} {t : Tm}, t.dep ≤ m → nd t ≤ 4 ^ m
  | 0, t, h => by have := dep_pos t; omega
  | m + 1, t, h => by
    have h3 : 1 ≤ 4 ^ m := Nat.one_le_pow _ _ (by decide)
    have e3 : 4 ^ (m + 1) = 4 * 4 ^ m := by rw [Nat.pow_succ]; omega
    have lm : ∀ u : Tm, u.dep + 1 ≤ t.dep → nd u ≤ 4 ^ m := fun u h => nd_le (m := m) (by omega)
    rw [e3]
    cases t with
    | lf w d => simp [nd]; omega
    | ho => simp [nd]; omega
    | us f x =>
      have h1 := lm f (by simp [dep]; omega)
      have h2 := lm x (by simp [dep]; omega)
      simp only [nd]; omega
    | gv n b =>
      have h1 := lm b (by simp [dep]; omega)
      simp only [nd]; omega
    | lt n b e =>
      have h1 := lm b (by simp [dep]; omega)
      have h2 := lm e (by simp [dep]; omega)
      simp only [nd]; omega
    | mt s a b =>
      have h1 := lm s (by simp [dep]; omega)
      have h2 := lm a (by simp [dep]; omega)
      have h3 := lm b (by simp [dep]; omega)
      simp only [nd]; omega
theorem reprT {t : Tm} (h : t.gd) (hd : t.dep ≤ 5) : reprM [.p t.py] S = .ok (.p (.str t.py.shown)) S := by
  have h1 := py_dep h
  have h2 := wt_py h
  have h3 := nd_le hd
  have : (4 : Nat) ^ 5 = 1024 := by decide
  exact repr_ok (py_show h) (by omega) (by omega)
theorem reprK {t : Tm} (h : t.gd) (hd : t.dep ≤ 5) : reprM [.p (.tuple [.str "cut", t.py])] S = .ok (.p (.str (PyData.tuple [.str "cut", t.py]).shown)) S := by
  have h1 := py_dep h
  have h2 := wt_py h
  have h3 := nd_le hd
  have h4 : wt (.str "cut") ≤ 20 := by simp only [wt]; decide +kernel
  have : (4 : Nat) ^ 5 = 1024 := by decide
  refine repr_ok (by simp [PyData.showable, PyData.showableAll, py_show h]) (by simp only [PyData.depth, PyData.depthAll]; omega) ?_
  simp only [wt, wtAll] at h2 h4 ⊢
  omega
/-- the strings of the refusal -/
theorem reprO {s : Str} (h : (PyData.str s).shown.length ≤ 10000) : reprM [.p (.tuple [.str "out", .list [.str s, .bool true]])] S = .ok (.p (.str (PyData.tuple [.str "out", .list [.str s, .bool true]]).shown)) S := by
  have h4 : wt (.str "out") ≤ 20 := by simp only [wt]; decide +kernel
  refine repr_ok (by rfl) (by simp [PyData.depth, PyData.depthAll]) ?_
  simp only [wt, wtAll] at h4 ⊢
  omega
def sml (s : Str) : Prop := ∀ c ∈ toL s, c < 1114112
theorem sml_app {a b : Str} (ha : sml a) (hb : sml b) : sml (a ++ b) := fun c hc => by
  rw [toL_app] at hc
  rcases List.mem_append.mp hc with h | h
  · exact ha c h
  · exact hb c h
theorem sml_of {s : Str} (h : (toL s).all (fun c => decide (c < 1114112)) = true) : sml s := fun c hc => by
  have := List.all_eq_true.mp h c hc
  simpa using this
theorem sml_E {x : PyData} (h : okE x) : sml x.shown := by
  rcases h with rfl | rfl | rfl | rfl | rfl | rfl | rfl <;> (refine sml_of ?_; decide +kernel)
theorem sml_from : ∀ {ts : List Str} {k : Nat} {acc : Str}, (∀ t ∈ ts, sml t) → sml acc → sml (textFrom k acc ts)
  | [], k, acc, _, h => h
  | t :: ts, k, acc, ht, h => by
    refine sml_from (ts := ts) (k := k + 1) (fun t h => ht t (by simp [h])) (sml_app (sml_app h ?_) (ht t (by simp)))
    by_cases hk : k > 0
    · simp only [hk, if_true]; exact sml_of (by decide +kernel)
    · simp only [hk, if_false]; exact sml_of (by decide +kernel)
theorem sml_join : ∀ {ts : List Str}, (∀ t ∈ ts, sml t) → sml (Str.join ", " ts)
  | [], _ => sml_of (by decide +kernel)
  | [t], h => h t (by simp)
  | t :: u :: r, h => by
    show sml (t ++ ", " ++ Str.join ", " (u :: r))
    exact sml_app (sml_app (h t (by simp)) (sml_of (by decide +kernel))) (sml_join fun x hx => h x (by simp at hx ⊢; exact .inr hx))
theorem sml_all : ∀ {xs : List PyData}, (∀ x ∈ xs, okE x) → ∀ t ∈ PyData.shownAll xs, sml t
  | [], _, t, ht => by simp [PyData.shownAll] at ht
  | x :: r, h, t, ht => by
    simp only [PyData.shownAll, List.mem_cons] at ht
    rcases ht with rfl | ht
    · exact sml_E (h x (by simp))
    · exact sml_all (fun y hy => h y (by simp [hy])) t ht
theorem sml_C {c : PyData} (h : okC c) : sml c.shown := by
  rcases h with ⟨xs, rfl | rfl, hx, _⟩ | rfl | rfl
  · show sml (("(" : Str) ++ Str.join ", " (PyData.shownAll xs) ++ ((if (PyData.shownAll xs).length == 1 then ",)" else ")" : String) : Str))
    refine sml_app (sml_app (sml_of (by decide +kernel)) (sml_join (sml_all hx))) ?_
    by_cases h1 : ((PyData.shownAll xs).length == 1) = true
    · rw [if_pos h1]; exact sml_of (by decide +kernel)
    · rw [if_neg h1]; exact sml_of (by decide +kernel)
  · show sml (textFrom 0 "[" (PyData.shownAll xs) ++ "]")
    exact sml_app (sml_from (sml_all hx) (sml_of (by decide +kernel))) (sml_of (by decide +kernel))
  · exact sml_of (by decide +kernel)
  · exact sml_of (by decide +kernel)
theorem rep_len {c : PyData} (h : okC c) : (PyData.str c.shown).shown.length ≤ 10000 := by
  have h1 : (reprText c.shown).length ≤ 10 * c.shown.length + 2 := StrLaws.reprText_len _ (fun c hc => Nat.lt_trans (sml_C h c hc) (by decide))
  have h2 := shown_le c
  have h3 := (okC_b h).2.2.2
  show (reprText c.shown).length ≤ 10000
  omega
theorem strC {c : PyData} (h : okC c) : PyData.strOk c.shown = true := by
  unfold PyData.strOk
  rw [Array.all_eq_true']
  intro x hx
  exact decide_eq_true (sml_C h x (by simpa [toL] using hx))
end K79

namespace K79
open PySem L2 DL
open Tm
variable {P : Addr} {S : Sto}
def TOP : Nat := 63
abbrev LQ : Str := "law.<locals>.<lambda>"
abbrev FE0 : Addr → Addr → FE := fun a dd => (eA mkTup (aCons (eC (.p (.str "out"))) (aCons (eA mkLst (aCons (eA reprM (aCons (eXf a dd 1 "place") aNil)) (aCons (eXi a dd 1 true) aNil))) aNil)))
theorem ex_ret {c : PyData} (h : okC c) : exRet 1 FE0 (Oot c) (List.replicate 2 none) S = some (.ret (.p (.tuple [.str "out", .list [.str c.shown, .bool true]])), S) := by
  have hr := reprC (S := S) h
  simp [exRet, FE0, eXf, eXi, xn, hr, mkLst, mkTup, LIM, pys, List.replicate]
theorem met_none {k : Nat} (hk : 24 ≤ k) {t : Tm} (ht : okT t) {xs : List PyData} (hl : xs.length ≤ 4) (hc : ∀ c ∈ xs, okC c) (h : chk t [] xs = none) : metM "OutOfTerm" "cut" 2 1 FE0 (cutX S.length (F P k .f_cut_l [.p t.py, .p (.list xs)] S)) = .ok (.p (.tuple [.str "cut", (hol t (xs.map unp)).py])) S := by
  have e : cutX S.length (F P k .f_cut_l [.p t.py, .p (.list xs)] S) = .ok (.p (hol t (xs.map unp)).py) S := wp_eq (cl_wp hk ht.1 (by have := ht.2.2; omega) hl (fun c hcc => ⟨(okC_b (hc c hcc)).1, by have := (okC_b (hc c hcc)).2.1; omega⟩) (fun _ => ⟨rfl, rfl⟩) fun c hcc => by rw [h] at hcc; cases hcc)
  rw [e]
  simp [metM, mkTup, LIM, pys]
theorem met_some {k : Nat} (hk : 24 ≤ k) {t : Tm} (ht : okT t) {xs : List PyData} (hl : xs.length ≤ 4) (hc : ∀ c ∈ xs, okC c) {c : PyData} (hcm : okC c) (h : chk t [] xs = some c) : metM "OutOfTerm" "cut" 2 1 FE0 (cutX S.length (F P k .f_cut_l [.p t.py, .p (.list xs)] S)) = .ok (.p (.tuple [.str "out", .list [.str c.shown, .bool true]])) S := by
  have e : cutX S.length (F P k .f_cut_l [.p t.py, .p (.list xs)] S) = .err (Oot c) S := wp_er (cl_wp hk ht.1 (by have := ht.2.2; omega) hl (fun c hcc => ⟨(okC_b (hc c hcc)).1, by have := (okC_b (hc c hcc)).2.1; omega⟩) (fun hn => by rw [h] at hn; cases hn) fun c' hcc => by rw [h] at hcc; cases hcc; exact ⟨rfl, rfl⟩)
  rw [e]
  have this : exRet 1 FE0 (Oot c) [none, none] S = some (.ret (.p (.tuple [.str "out", .list [.str c.shown, .bool true]])), S) := ex_ret hcm
  simp [metM, this]
theorem chk_mem {t : Tm} {c : PyData} : ∀ {xs : List PyData} {dn : List (List Nat)}, chk t dn xs = some c → c ∈ xs
  | [], dn, h => by simp [chk] at h
  | x :: r, dn, h => by
    simp only [chk] at h
    cases hp : placed t x with
    | none => rw [hp] at h; simp at h; simp [h]
    | some u =>
      rw [hp] at h
      by_cases hw : (dn.any fun q => wi (unp x) q) = true
      · simp only [hw, if_true] at h; simp at h; simp [h]
      · simp only [hw] at h
        exact List.mem_cons_of_mem _ (chk_mem h)
theorem eq_s {s : Str} : opEqZ true (.p (.str s)) (.p (.str s)) S = .ok (.p (.bool false)) S := by simp
set_option maxHeartbeats 4000000 in
theorem turn_wp {cs : List PyData} (hc : Cells cs) {k : Nat} (hk : 40 ≤ k) {a x2 x3 x4 x5 x6 x7 : Option D} {n : Int} {R : Fl → Sto → Prop} (h0 : 0 ≤ n) (hn : n ≤ 800000) (t0 : Tape cs 1 2 n S) (hT : S[0]? = some (.tab P LQ))
    (q : ∀ S' z2 z3 z4 z5 z6 z7, Tape cs 1 2 (n + 1000) S' → S'[0]? = some (.tab P LQ) → R (.next [a, some (.ob 1), z2, z3, z4, z5, z6, z7]) S') :
    wpS (f_law_1 P (F P (k + 2)) (F P k) [a, some (.ob 1), x2, x3, x4, x5, x6, x7] S) R := by
  unfold f_law_1
  have hmk0 : ∀ z : Sto, mkLst [] z = .ok (.p (.list [])) z := fun z => by simp [mkLst, LIM, pys]
  simp [hmk0]
  refine dr_wp hc t0 (by omega) (by omega) (by decide) (by decide) fun g S1 g0 g1 t1 o1 => ?_
  obtain ⟨d, hd⟩ : ∃ d : Nat, g + 1 = (d : Int) := ⟨(g + 1).toNat, by omega⟩
  simp [hd]
  have hcd : cost d ≤ 242 := by
    have : d ≤ 4 := by omega
    match d, this with
    | 0, _ => decide
    | 1, _ => decide
    | 2, _ => decide
    | 3, _ => decide
    | 4, _ => decide
  have hcp := cost_pos d
  have hlo := fun (Q : D → Sto → Prop) (X : Exn → Sto → Prop) q => lo_wp (P := P) hc (d := d) (k := k + 2) (ns := []) (S := S1) (Q := Q) (X := X) (by omega) (by omega) (by omega) t1 (by simp) (by simp; omega) q
  refine hlo _ _ fun t S2 ht t2 o2 => ?_
  have hok : okT t := ⟨ht.1, ht.2.1, by have := ht.2.2; omega⟩
  have hT2 : S2[0]? = some (.tab P LQ) := by rw [o2 0 (by decide), o1 0 (by decide)]; exact hT
  refine ch_wp hc (by omega) hok (by omega) t2 fun xs S3 hxc hxl t3 h03 => ?_
  have hT3 : S3[0]? = some (.tab P LQ) := by rw [h03]; exact hT2
  have hrt := reprT (S := S3) hok.2.1 hok.2.2
  have hrf := rf_ok (P := P) (S := S3) (k := k + 2) (by omega) hok hxl hxc
  have hcut : ∀ (d : PyData), cutX S3.length (.ok (.p d) S3) = .ok (.p d) S3 := fun d => by simp [cutX]
  have hmet : ∀ (ρ : Ev) (v : PyData), eVar 3 ρ S3 = .ok (.p t.py) S3 → eVar 6 ρ S3 = .ok (.p (.list xs)) S3 → metM "OutOfTerm" "cut" 2 1 FE0 (cutX S3.length (F P k .f_cut_l [.p t.py, .p (.list xs)] S3)) = .ok (.p v) S3 →
      eMet P LQ 0 "OutOfTerm" "cut" 2 1 (eCallX 2 (F P k .f_cut_l) (aCons (eVar 3) (aCons (eVar 6) aNil))) FE0 ρ S3 = .ok (.p v) S3 := fun ρ v e1 e2 hm => by
    have e3 : eCallX 2 (F P k .f_cut_l) (aCons (eVar 3) (aCons (eVar 6) aNil)) ρ S3 = cutX S3.length (F P k .f_cut_l [.p t.py, .p (.list xs)] S3) := by
      simp [eCallX, aCons, aNil, e1, e2]
    unfold eMet
    rw [hT3]
    simp only [and_self, if_true]
    rw [e3, hm, hcut]
  have fin : ∀ z2 z3 z4 z5 z6 z7, R (.next [a, some (.ob 1), z2, z3, z4, z5, z6, z7]) S3 := fun z2 z3 z4 z5 z6 z7 => q S3 _ _ _ _ _ _ (t3.mono (by omega)) hT3
  cases hch : chk t [] xs with
  | none =>
    have hrfv : rf t xs = .list [] := by unfold rf; rw [hch]
    rw [hrfv] at hrf
    obtain ⟨hx1, _, _⟩ := chk_none hch
    have hxs : xs = (xs.map unp).map tp := by
      rw [List.map_map]
      exact (List.map_id xs).symm.trans (List.map_congr_left fun c hc => (hx1 c hc).1)
    have hhl := hl_ok (P := P) (k := k + 2) (t := t) (qs := xs.map unp) (S := S3) (by have := hok.2.2; omega) hok.1 (by simp; omega)
    rw [← hxs] at hhl
    have hm := met_none (P := P) (S := S3) (k := k) (by omega) hok hxl hxc hch
    have hrk := reprK (S := S3) (hol_gd (qs := xs.map unp) hok.2.1) (Nat.le_trans hol_dep hok.2.2)
    have hmk : mkTup [.p (.str "cut"), .p (hol t (xs.map unp)).py] S3 = .ok (.p (.tuple [.str "cut", (hol t (xs.map unp)).py])) S3 := by simp [mkTup, LIM, pys]
    have he0 : opEqZ true (.p (.list [])) (.p (.list [])) S3 = .ok (.p (.bool false)) S3 := rfl
    simp [hrt, hrf, he0, hhl, hmk]
    rw [hmet _ _ (by simp) (by simp) hm]
    simp [hrk, hrt]
    exact fin _ _ _ _ _ _
  | some c =>
    have hcm := hxc c (chk_mem hch)
    have hrfv : rf t xs = .list [.str c.shown, .bool true] := by unfold rf; rw [hch]
    rw [hrfv] at hrf
    have hm := met_some (P := P) (S := S3) (k := k) (by omega) hok hxl hxc hcm hch
    have hro := reprO (S := S3) (rep_len hcm)
    have hmk : mkTup [.p (.str "out"), .p (.list [.str c.shown, .bool true])] S3 = .ok (.p (.tuple [.str "out", .list [.str c.shown, .bool true]])) S3 := by simp [mkTup, LIM, pys]
    have hsh : SeqAt.shaped (.list [.str c.shown, .bool true]) = true := shL fun d hd => by
      simp at hd
      rcases hd with rfl | rfl
      · exact ⟨by simp only [PyData.canLay0]; exact strC hcm, by simp [PyData.depth]⟩
      · exact ⟨rfl, by simp [PyData.depth]⟩
    have he0 := eq_lnil (S := S3) (neg := true) hsh
    simp at he0
    simp [hrt, hrf, he0, hmk]
    rw [hmet _ _ (by simp) (by simp) hm]
    simp [hro, hrt]
    exact fin _ _ _ _ _ _
set_option maxHeartbeats 4000000 in
theorem law_wp {ns : List Int} {cs : List PyData} (hc : Cells cs) {k : Nat} (hk : 40 ≤ k) (eb : F P (k + 2) .f_begin_l [.ro (nums ns)] [.tab P LQ] = .ok (.ob 1) [.tab P LQ, .dic (tpd cs 0 0)]) : wp (runF 8 (b_f_law P (F P (k + 2)) (F P k)) [.ro (nums ns)] [.tab P LQ]) (fun d s => d = .p (.bool true)) noX := by
  rw [wp_run]
  show wpS (b_f_law P (F P (k + 2)) (F P k) [some (.ro (nums ns)), none, none, none, none, none, none, none] [.tab P LQ]) _
  unfold b_f_law
  simp [eb, cutX, range_ok (j := 12) (by decide) (by decide)]
  refine forD_wp (fun j ρ S' => (∃ x2 x3 x4 x5 x6 x7, ρ = [some (.ro (nums ns)), some (.ob 1), x2, x3, x4, x5, x6, x7]) ∧ Tape cs 1 2 (1000 * j) S' ∧ S'[0]? = some (.tab P LQ)) (j := 0) ⟨⟨_, _, _, _, _, _, rfl⟩, ⟨rfl, 0, 0, by simp, by simp, rfl⟩, rfl⟩ ?_ ?_
  · rintro i d ρ S' hd ⟨⟨x2, x3, x4, x5, x6, x7, rfl⟩, t0, hT⟩
    have hi : i < 12 := by
      have := (List.getElem?_eq_some_iff.mp hd).1
      simpa using this
    show wpS (f_law_1 P (F P (k + 2)) (F P k) [some (.ro (nums ns)), some (.ob 1), some d, x3, x4, x5, x6, x7] S') _
    refine turn_wp hc hk (by omega) (by omega) t0 hT fun S2 z2 z3 z4 z5 z6 z7 t2 hT2 => ?_
    exact ⟨⟨_, _, _, _, _, _, rfl⟩, t2.mono (by omega), hT2⟩
  · rintro ρ S' ⟨⟨x2, x3, x4, x5, x6, x7, rfl⟩, t0, hT⟩
    unfold f_law_2
    simp
theorem F_begin (k : Nat) : F P (k + 3) .f_begin_l = runF 1 beginB := rfl
theorem F_law (k : Nat) : F P (k + 3) .f_law = runF 8 (b_f_law P (F P (k + 2)) (F P k)) := rfl
theorem holds : ∀ (P : Addr) (ns : List Int), ns.length ≤ 63 → ∃ S', F P TOP .f_law [.ro (nums ns)] [.tab P "law.<locals>.<lambda>"] = .ok (.p (.bool true)) S' := by
  intro P ns hl
  obtain ⟨cs, hc, e0⟩ := begin_at ns [.tab P LQ]
  have h := law_wp (P := P) (ns := ns) hc (k := 60) (by decide) (by rw [show (60 + 2 : Nat) = 59 + 3 from rfl, F_begin]; exact e0)
  obtain ⟨a, s, e, rfl⟩ := wp_ex h
  refine ⟨s, ?_⟩
  show F P (60 + 3) .f_law [.ro (nums ns)] [.tab P "law.<locals>.<lambda>"] = _
  rw [F_law]
  exact e
end K79

namespace K79
open PySem L2 DL PySem.Spec PyProof.Rows LamX

def top (i : Nat) : Stmt := PySem.Challenge.pw_leastneeds_k79_cuts_of_terms.main.body.getD i (.Pass ⟨0, 0, 0, 0⟩)
def inCls (s : Stmt) (j : Nat) : Stmt := match s with
  | .ClassDef _ _ _ b _ _ _ _ _ _ _ => b.getD j (.Pass ⟨0, 0, 0, 0⟩)
  | s => s
abbrev s_f_parts_of_term : Stmt := top 3
abbrev s_f_with_parts : Stmt := top 4
abbrev s_f_part_at : Stmt := top 5
abbrev s_f_with_part : Stmt := top 6
abbrev s_f_is_within_place : Stmt := top 9
abbrev s_f_need_apart_places : Stmt := top 10
abbrev s_f_cut : Stmt := top 11
abbrev s_f_begin_l : Stmt := top 13
abbrev s_f_draw_l : Stmt := top 14
abbrev s_f_pick_l : Stmt := top 15
abbrev s_f_parts_of_l : Stmt := top 16
abbrev s_f_rebuilt_l : Stmt := top 17
abbrev s_f_spots_l : Stmt := top 18
abbrev s_f_holed_l : Stmt := top 19
abbrev s_f_ends_l : Stmt := top 20
abbrev s_f_loose_l : Stmt := top 21
abbrev s_f_chosen_l : Stmt := top 22
abbrev s_f_cut_l : Stmt := top 23
abbrev s_f_refusal_l : Stmt := top 24
abbrev s_f_law : Stmt := top 26
abbrev s_f_met_l : Stmt := top 25
abbrev si_OutOfTerm : Stmt := inCls (top 1) 0
structure Tops (K : PySem.W.Frag) (mg : Str → Option Value) (w : World) (ad : Fn → Addr) (fd : Fn → FuncData) (g_f_met_l : Addr) (h_f_met_l : FuncData) : Prop where
  fn_f_met_l : Fun K "_law_met" "_law_met" s_f_met_l g_f_met_l h_f_met_l
  m_f_met_l : mg "_law_met" = some (.ref g_f_met_l)
  b_f_met_l : Binds K h_f_met_l ["_law_call"] []
  x_OutOfTerm : ∃ C fI fd, XAll K mg "OutOfTerm" "LookupError" "LookupError.__new__" "LookupError.__init__" "place" "place" si_OutOfTerm C fI fd ∧ PySem.W.kitOne K (.ref C) (.type "LookupError") = some true
  kp_f_parts_of_term : PySem.W.keepIn K (.ref (ad .f_parts_of_term)) = true
  fn_f_parts_of_term : Fun K "parts_of_term" "parts_of_term" s_f_parts_of_term (ad .f_parts_of_term) (fd .f_parts_of_term)
  m_f_parts_of_term : mg "parts_of_term" = some (.ref (ad .f_parts_of_term))
  b_f_parts_of_term : Binds K (fd .f_parts_of_term) ["term"] []
  kp_f_with_parts : PySem.W.keepIn K (.ref (ad .f_with_parts)) = true
  fn_f_with_parts : Fun K "with_parts" "with_parts" s_f_with_parts (ad .f_with_parts) (fd .f_with_parts)
  m_f_with_parts : mg "with_parts" = some (.ref (ad .f_with_parts))
  b_f_with_parts : Binds K (fd .f_with_parts) ["term", "parts"] []
  kp_f_part_at : PySem.W.keepIn K (.ref (ad .f_part_at)) = true
  fn_f_part_at : Fun K "part_at" "part_at" s_f_part_at (ad .f_part_at) (fd .f_part_at)
  m_f_part_at : mg "part_at" = some (.ref (ad .f_part_at))
  b_f_part_at : Binds K (fd .f_part_at) ["term", "place"] []
  kp_f_with_part : PySem.W.keepIn K (.ref (ad .f_with_part)) = true
  fn_f_with_part : Fun K "with_part" "with_part" s_f_with_part (ad .f_with_part) (fd .f_with_part)
  m_f_with_part : mg "with_part" = some (.ref (ad .f_with_part))
  b_f_with_part : Binds K (fd .f_with_part) ["term", "place", "part"] []
  kp_f_is_within_place : PySem.W.keepIn K (.ref (ad .f_is_within_place)) = true
  fn_f_is_within_place : Fun K "is_within_place" "is_within_place" s_f_is_within_place (ad .f_is_within_place) (fd .f_is_within_place)
  m_f_is_within_place : mg "is_within_place" = some (.ref (ad .f_is_within_place))
  b_f_is_within_place : Binds K (fd .f_is_within_place) ["place", "other"] []
  kp_f_need_apart_places : PySem.W.keepIn K (.ref (ad .f_need_apart_places)) = true
  fn_f_need_apart_places : Fun K "need_apart_places" "need_apart_places" s_f_need_apart_places (ad .f_need_apart_places) (fd .f_need_apart_places)
  m_f_need_apart_places : mg "need_apart_places" = some (.ref (ad .f_need_apart_places))
  b_f_need_apart_places : Binds K (fd .f_need_apart_places) ["term", "chosen"] []
  kp_f_cut : PySem.W.keepIn K (.ref (ad .f_cut)) = true
  fn_f_cut : Fun K "cut" "cut" s_f_cut (ad .f_cut) (fd .f_cut)
  m_f_cut : mg "cut" = some (.ref (ad .f_cut))
  v_f_cut : ∀ us rest : List Value, us.length = (["term"] : List Str).length → bindArgs (fd .f_cut) ⟨us ++ rest, []⟩ = (newTuple rest >>= fun t => pure ((["term"] : List Str).zip us ++ [(("chosen" : Str), t)]))
  kp_f_begin_l : PySem.W.keepIn K (.ref (ad .f_begin_l)) = true
  fn_f_begin_l : Fun K "_law_begin" "_law_begin" s_f_begin_l (ad .f_begin_l) (fd .f_begin_l)
  m_f_begin_l : mg "_law_begin" = some (.ref (ad .f_begin_l))
  b_f_begin_l : Binds K (fd .f_begin_l) ["_law_script"] []
  kp_f_draw_l : PySem.W.keepIn K (.ref (ad .f_draw_l)) = true
  fn_f_draw_l : Fun K "_law_draw" "_law_draw" s_f_draw_l (ad .f_draw_l) (fd .f_draw_l)
  m_f_draw_l : mg "_law_draw" = some (.ref (ad .f_draw_l))
  b_f_draw_l : Binds K (fd .f_draw_l) ["_law_tape", "_law_many"] []
  kp_f_pick_l : PySem.W.keepIn K (.ref (ad .f_pick_l)) = true
  fn_f_pick_l : Fun K "_law_pick" "_law_pick" s_f_pick_l (ad .f_pick_l) (fd .f_pick_l)
  m_f_pick_l : mg "_law_pick" = some (.ref (ad .f_pick_l))
  b_f_pick_l : Binds K (fd .f_pick_l) ["_law_tape", "_law_items"] []
  kp_f_parts_of_l : PySem.W.keepIn K (.ref (ad .f_parts_of_l)) = true
  fn_f_parts_of_l : Fun K "_law_parts_of" "_law_parts_of" s_f_parts_of_l (ad .f_parts_of_l) (fd .f_parts_of_l)
  m_f_parts_of_l : mg "_law_parts_of" = some (.ref (ad .f_parts_of_l))
  b_f_parts_of_l : Binds K (fd .f_parts_of_l) ["_law_term"] []
  kp_f_rebuilt_l : PySem.W.keepIn K (.ref (ad .f_rebuilt_l)) = true
  fn_f_rebuilt_l : Fun K "_law_rebuilt" "_law_rebuilt" s_f_rebuilt_l (ad .f_rebuilt_l) (fd .f_rebuilt_l)
  m_f_rebuilt_l : mg "_law_rebuilt" = some (.ref (ad .f_rebuilt_l))
  b_f_rebuilt_l : Binds K (fd .f_rebuilt_l) ["_law_term", "_law_parts"] []
  kp_f_spots_l : PySem.W.keepIn K (.ref (ad .f_spots_l)) = true
  fn_f_spots_l : Fun K "_law_spots" "_law_spots" s_f_spots_l (ad .f_spots_l) (fd .f_spots_l)
  m_f_spots_l : mg "_law_spots" = some (.ref (ad .f_spots_l))
  b_f_spots_l : Binds K (fd .f_spots_l) ["_law_term"] []
  kp_f_holed_l : PySem.W.keepIn K (.ref (ad .f_holed_l)) = true
  fn_f_holed_l : Fun K "_law_holed" "_law_holed" s_f_holed_l (ad .f_holed_l) (fd .f_holed_l)
  m_f_holed_l : mg "_law_holed" = some (.ref (ad .f_holed_l))
  b_f_holed_l : Binds K (fd .f_holed_l) ["_law_term", "_law_spots_here"] []
  kp_f_ends_l : PySem.W.keepIn K (.ref (ad .f_ends_l)) = true
  fn_f_ends_l : Fun K "_law_ends" "_law_ends" s_f_ends_l (ad .f_ends_l) (fd .f_ends_l)
  m_f_ends_l : mg "_law_ends" = some (.ref (ad .f_ends_l))
  b_f_ends_l : Binds K (fd .f_ends_l) ["_law_spot", "_law_spots_here"] []
  kp_f_loose_l : PySem.W.keepIn K (.ref (ad .f_loose_l)) = true
  fn_f_loose_l : Fun K "_law_loose" "_law_loose" s_f_loose_l (ad .f_loose_l) (fd .f_loose_l)
  m_f_loose_l : mg "_law_loose" = some (.ref (ad .f_loose_l))
  b_f_loose_l : Binds K (fd .f_loose_l) ["_law_tape", "_law_names", "_law_deep"] []
  kp_f_chosen_l : PySem.W.keepIn K (.ref (ad .f_chosen_l)) = true
  fn_f_chosen_l : Fun K "_law_chosen" "_law_chosen" s_f_chosen_l (ad .f_chosen_l) (fd .f_chosen_l)
  m_f_chosen_l : mg "_law_chosen" = some (.ref (ad .f_chosen_l))
  b_f_chosen_l : Binds K (fd .f_chosen_l) ["_law_tape", "_law_term"] []
  kp_f_cut_l : PySem.W.keepIn K (.ref (ad .f_cut_l)) = true
  fn_f_cut_l : Fun K "_law_cut" "_law_cut" s_f_cut_l (ad .f_cut_l) (fd .f_cut_l)
  m_f_cut_l : mg "_law_cut" = some (.ref (ad .f_cut_l))
  b_f_cut_l : Binds K (fd .f_cut_l) ["_law_term", "_law_chosen_here"] []
  kp_f_refusal_l : PySem.W.keepIn K (.ref (ad .f_refusal_l)) = true
  fn_f_refusal_l : Fun K "_law_refusal" "_law_refusal" s_f_refusal_l (ad .f_refusal_l) (fd .f_refusal_l)
  m_f_refusal_l : mg "_law_refusal" = some (.ref (ad .f_refusal_l))
  b_f_refusal_l : Binds K (fd .f_refusal_l) ["_law_term", "_law_chosen_here"] []
  kp_f_law : PySem.W.keepIn K (.ref (ad .f_law)) = true
  fn_f_law : Fun K "law" "law" s_f_law (ad .f_law) (fd .f_law)
  m_f_law : mg "law" = some (.ref (ad .f_law))
  b_f_law : Binds K (fd .f_law) ["_law_script"] []
  b_LookupError : mg "LookupError" = none
  b_bool : mg "bool" = none
  b_enumerate : mg "enumerate" = none
  b_int : mg "int" = none
  b_isinstance : mg "isinstance" = none
  b_len : mg "len" = none
  b_list : mg "list" = none
  b_range : mg "range" = none
  b_repr : mg "repr" = none
  b_tuple : mg "tuple" = none
  b_zip : mg "zip" = none
  g_HOLE : GlobIs K mg "HOLE" g_HOLE
structure Rk (P : Program) (w : World) (K : PySem.W.Frag) (mg : Str → Option Value) (base : Heap) (ad : Fn → Addr) (fd : Fn → FuncData) (k : Nat) (r : Fn → List D → M D) : Prop where
  f_parts_of_term : FnX P w K mg base k (ad .f_parts_of_term) (fd .f_parts_of_term) ["term"] (spX K 1 (r .f_parts_of_term))
  f_with_parts : FnX P w K mg base k (ad .f_with_parts) (fd .f_with_parts) ["term", "parts"] (spX K 2 (r .f_with_parts))
  f_part_at : FnX P w K mg base k (ad .f_part_at) (fd .f_part_at) ["term", "place"] (spX K 2 (r .f_part_at))
  f_with_part : FnX P w K mg base k (ad .f_with_part) (fd .f_with_part) ["term", "place", "part"] (spX K 3 (r .f_with_part))
  f_is_within_place : FnX P w K mg base k (ad .f_is_within_place) (fd .f_is_within_place) ["place", "other"] (spX K 2 (r .f_is_within_place))
  f_need_apart_places : FnX P w K mg base k (ad .f_need_apart_places) (fd .f_need_apart_places) ["term", "chosen"] (spX K 2 (r .f_need_apart_places))
  f_cut : FnP P w K mg base k (ad .f_cut) (spV K (r .f_cut))
  f_begin_l : FnX P w K mg base k (ad .f_begin_l) (fd .f_begin_l) ["_law_script"] (spX K 1 (r .f_begin_l))
  f_draw_l : FnX P w K mg base k (ad .f_draw_l) (fd .f_draw_l) ["_law_tape", "_law_many"] (spX K 2 (r .f_draw_l))
  f_pick_l : FnX P w K mg base k (ad .f_pick_l) (fd .f_pick_l) ["_law_tape", "_law_items"] (spX K 2 (r .f_pick_l))
  f_parts_of_l : FnX P w K mg base k (ad .f_parts_of_l) (fd .f_parts_of_l) ["_law_term"] (spX K 1 (r .f_parts_of_l))
  f_rebuilt_l : FnX P w K mg base k (ad .f_rebuilt_l) (fd .f_rebuilt_l) ["_law_term", "_law_parts"] (spX K 2 (r .f_rebuilt_l))
  f_spots_l : FnX P w K mg base k (ad .f_spots_l) (fd .f_spots_l) ["_law_term"] (spX K 1 (r .f_spots_l))
  f_holed_l : FnX P w K mg base k (ad .f_holed_l) (fd .f_holed_l) ["_law_term", "_law_spots_here"] (spX K 2 (r .f_holed_l))
  f_ends_l : FnX P w K mg base k (ad .f_ends_l) (fd .f_ends_l) ["_law_spot", "_law_spots_here"] (spX K 2 (r .f_ends_l))
  f_loose_l : FnX P w K mg base k (ad .f_loose_l) (fd .f_loose_l) ["_law_tape", "_law_names", "_law_deep"] (spX K 3 (r .f_loose_l))
  f_chosen_l : FnX P w K mg base k (ad .f_chosen_l) (fd .f_chosen_l) ["_law_tape", "_law_term"] (spX K 2 (r .f_chosen_l))
  f_cut_l : FnX P w K mg base k (ad .f_cut_l) (fd .f_cut_l) ["_law_term", "_law_chosen_here"] (spX K 2 (r .f_cut_l))
  f_refusal_l : FnX P w K mg base k (ad .f_refusal_l) (fd .f_refusal_l) ["_law_term", "_law_chosen_here"] (spX K 2 (r .f_refusal_l))
  f_law : FnX P w K mg base k (ad .f_law) (fd .f_law) ["_law_script"] (spX K 1 (r .f_law))

section
variable {P : Program} {w : World} {K : PySem.W.Frag} {mg : Str → Option Value} {base : Heap} {ad : Fn → Addr} {fd : Fn → FuncData} {k : Nat} {r r2 : Fn → List D → M D} {g_f_met_l : Addr} {h_f_met_l : FuncData}
theorem sci_OutOfTerm : FnScope ["self", "place"] ["self", "place"] (defScope si_OutOfTerm) := ⟨rfl, rfl, rfl, by decide +kernel, rfl, by decide +kernel, by decide +kernel⟩
theorem fi_OutOfTerm {C fI : Addr} {fd : FuncData} (X : XAll K mg "OutOfTerm" "LookupError" "LookupError.__new__" "LookupError.__init__" "place" "place" si_OutOfTerm C fI fd) : FnOk P w K mg base L2.CX0 1 fI fd ["self", "place"] (spInit C "place") :=
  init_fn (fun env => rfl) xb_LookupError X.cls X.fn sci_OutOfTerm rfl rfl X.mB X.vV (Or.inl rfl) (Or.inl rfl) rfl rfl
theorem sc_f_parts_of_term : FnScope ["term", "word", "name", "bound", "constructor", "names", "body"] ["term"] (defScope s_f_parts_of_term) := ⟨rfl, rfl, rfl, by decide +kernel, rfl, by decide +kernel, by decide +kernel⟩
theorem sc_f_with_parts : FnScope ["term", "parts", "word", "part", "arm", "name", "bound"] ["term", "parts"] (defScope s_f_with_parts) := ⟨rfl, rfl, rfl, by decide +kernel, rfl, by decide +kernel, by decide +kernel⟩
theorem sc_f_part_at : FnScope ["term", "place", "here", "number", "parts"] ["term", "place"] (defScope s_f_part_at) := ⟨rfl, rfl, rfl, by decide +kernel, rfl, by decide +kernel, by decide +kernel⟩
theorem sc_f_with_part : FnScope ["term", "place", "part", "parts"] ["term", "place", "part"] (defScope s_f_with_part) := ⟨rfl, rfl, rfl, by decide +kernel, rfl, by decide +kernel, by decide +kernel⟩
theorem sc_f_is_within_place : FnScope ["place", "other"] ["place", "other"] (defScope s_f_is_within_place) := ⟨rfl, rfl, rfl, by decide +kernel, rfl, by decide +kernel, by decide +kernel⟩
theorem sc_f_need_apart_places : FnScope ["term", "chosen", "number", "place", "other"] ["term", "chosen"] (defScope s_f_need_apart_places) := ⟨rfl, rfl, rfl, by decide +kernel, rfl, by decide +kernel, by decide +kernel⟩
theorem sc_f_cut : FnScope ["term", "chosen", "place"] ["term", "chosen"] (defScope s_f_cut) := ⟨rfl, rfl, rfl, by decide +kernel, rfl, by decide +kernel, by decide +kernel⟩
theorem sc_f_begin_l : FnScope ["_law_script"] ["_law_script"] (defScope s_f_begin_l) := ⟨rfl, rfl, rfl, by decide +kernel, rfl, by decide +kernel, by decide +kernel⟩
theorem sc_f_draw_l : FnScope ["_law_tape", "_law_many", "_law_digit", "_law_place", "_law_cells", "_law_cell"] ["_law_tape", "_law_many"] (defScope s_f_draw_l) := ⟨rfl, rfl, rfl, by decide +kernel, rfl, by decide +kernel, by decide +kernel⟩
theorem sc_f_pick_l : FnScope ["_law_tape", "_law_items"] ["_law_tape", "_law_items"] (defScope s_f_pick_l) := ⟨rfl, rfl, rfl, by decide +kernel, rfl, by decide +kernel, by decide +kernel⟩
theorem sc_f_parts_of_l : FnScope ["_law_term", "_law_word", "_law_pair", "_law_arm"] ["_law_term"] (defScope s_f_parts_of_l) := ⟨rfl, rfl, rfl, by decide +kernel, rfl, by decide +kernel, by decide +kernel⟩
theorem sc_f_rebuilt_l : FnScope ["_law_term", "_law_parts", "_law_word", "_law_pair", "_law_part", "_law_arm"] ["_law_term", "_law_parts"] (defScope s_f_rebuilt_l) := ⟨rfl, rfl, rfl, by decide +kernel, rfl, by decide +kernel, by decide +kernel⟩
theorem sc_f_spots_l : FnScope ["_law_term", "_law_found", "_law_waiting", "_law_below", "_law_spot", "_law_here", "_law_k"] ["_law_term"] (defScope s_f_spots_l) := ⟨rfl, rfl, rfl, by decide +kernel, rfl, by decide +kernel, by decide +kernel⟩
theorem sc_f_holed_l : FnScope ["_law_term", "_law_spots_here", "_law_parts", "_law_below", "_law_k", "_law_spot"] ["_law_term", "_law_spots_here"] (defScope s_f_holed_l) := ⟨rfl, rfl, rfl, by decide +kernel, rfl, by decide +kernel, by decide +kernel⟩
theorem sc_f_ends_l : FnScope ["_law_spot", "_law_spots_here", "_law_other"] ["_law_spot", "_law_spots_here"] (defScope s_f_ends_l) := ⟨rfl, rfl, rfl, by decide +kernel, rfl, by decide +kernel, by decide +kernel⟩
theorem sc_f_loose_l : FnScope ["_law_tape", "_law_names", "_law_deep", "_law_way", "_law_some", "_law_arms", "_law_one", "_law_name", "_law_k"] ["_law_tape", "_law_names", "_law_deep"] (defScope s_f_loose_l) := ⟨rfl, rfl, rfl, by decide +kernel, rfl, by decide +kernel, by decide +kernel⟩
theorem sc_f_chosen_l : FnScope ["_law_tape", "_law_term", "_law_k", "_law_spots_here", "_law_found", "_law_spot", "_law_odd", "_law_pair"] ["_law_tape", "_law_term"] (defScope s_f_chosen_l) := ⟨rfl, rfl, rfl, by decide +kernel, rfl, by decide +kernel, by decide +kernel⟩
theorem sc_f_cut_l : FnScope ["_law_term", "_law_chosen_here"] ["_law_term", "_law_chosen_here"] (defScope s_f_cut_l) := ⟨rfl, rfl, rfl, by decide +kernel, rfl, by decide +kernel, by decide +kernel⟩
theorem sc_f_refusal_l : FnScope ["_law_term", "_law_chosen_here", "_law_spots_here", "_law_k", "_law_met_here", "_law_pair", "_law_other"] ["_law_term", "_law_chosen_here"] (defScope s_f_refusal_l) := ⟨rfl, rfl, rfl, by decide +kernel, rfl, by decide +kernel, by decide +kernel⟩
theorem sc_f_law : FnScope ["_law_script", "_law_tape", "_law_turn", "_law_term", "_law_refusal_here", "_law_expected", "_law_chosen_here", "_law_text"] ["_law_script"] (defScope s_f_law) := ⟨rfl, rfl, rfl, by decide +kernel, rfl, by decide +kernel, by decide +kernel⟩
theorem sc_f_met_l : FnScope ["_law_call", "e"] ["_law_call"] (defScope s_f_met_l) := ⟨rfl, rfl, rfl, by decide +kernel, rfl, by decide +kernel, by decide +kernel⟩
set_option maxHeartbeats 4000000 in
theorem ok_f_parts_of_term (T : Tops K mg w ad fd g_f_met_l h_f_met_l) (R : Rk P w K mg base ad fd (k + 2) r) : FnX P w K mg base (k + 3) (ad .f_parts_of_term) (fd .f_parts_of_term) ["term"] (spX K 1 (runF 7 (b_f_parts_of_term r))) := by
  refine fnX_data T.fn_f_parts_of_term sc_f_parts_of_term rfl rfl _ fun cdv A outer s H E C po => ?_
  unfold b_f_parts_of_term f_parts_of_term_3 f_parts_of_term_2 f_parts_of_term_1
  exact (dss_cons (ds_set (i := 1) sc_f_parts_of_term.nd rfl (by first | exact Or.inl rfl | exact Or.inr rfl) (de_subs C.u1 (de_var 0) de_int))
    (dss_cons (ds_if (dt_eqZ C.u65 (de_var 1) de_str) (dss_one (ds_ret (de_lstM (da_cons (de_subs C.u1 (de_var 0) de_int) (da_cons (de_subs C.u1 (de_var 0) de_int) da_nil))))) dss_nil)
    (dss_cons (ds_if (dt_eqZ C.u65 (de_var 1) de_str) (dss_one (ds_ret (de_lstM (da_cons (de_subs C.u1 (de_var 0) de_int) da_nil)))) dss_nil)
    (dss_cons (ds_if (dt_eqZ C.u65 (de_var 1) de_str) (dss_one (ds_ret (de_addM (de_lc (own := [("name", 2), ("bound", 3)]) finL_ok rfl sc_f_parts_of_term.nd (di_seq (de_subs C.u1 (de_var 0) de_int)) (blkOk_by (by show blkC ["term", "word", "name", "bound", "constructor", "names", "body"] (defScope s_f_parts_of_term) _ _ = true; decide +kernel)) (fun _ _ _ _ _ => (dg_tup rfl (dgs_cons (dg_name (i := 2) sc_f_parts_of_term.nd rfl (by first | exact Or.inl rfl | exact Or.inr rfl) (by decide)) (dgs_cons (dg_name (i := 3) sc_f_parts_of_term.nd rfl (by first | exact Or.inl rfl | exact Or.inr rfl) (by decide)) dgs_nil)))) (fun _ _ _ _ _ => dts_nil) (fun _ _ _ _ _ => (de_var 3))) (de_lst (da_cons (de_subs C.u1 (de_var 0) de_int) da_nil))))) dss_nil)
    (dss_one (ds_ret (de_if (dt_eqZ C.u65 (de_var 1) de_str) (de_addM (de_lst (da_cons (de_subs C.u1 (de_var 0) de_int) da_nil)) (de_lc (own := [("constructor", 4), ("names", 5), ("body", 6)]) finL_ok rfl sc_f_parts_of_term.nd (di_seq (de_subs C.u1 (de_var 0) de_int)) (blkOk_by (by show blkC ["term", "word", "name", "bound", "constructor", "names", "body"] (defScope s_f_parts_of_term) _ _ = true; decide +kernel)) (fun _ _ _ _ _ => (dg_tup rfl (dgs_cons (dg_name (i := 4) sc_f_parts_of_term.nd rfl (by first | exact Or.inl rfl | exact Or.inr rfl) (by decide)) (dgs_cons (dg_name (i := 5) sc_f_parts_of_term.nd rfl (by first | exact Or.inl rfl | exact Or.inr rfl) (by decide)) (dgs_cons (dg_name (i := 6) sc_f_parts_of_term.nd rfl (by first | exact Or.inl rfl | exact Or.inr rfl) (by decide)) dgs_nil))))) (fun _ _ _ _ _ => dts_nil) (fun _ _ _ _ _ => (de_var 6)))) (de_lstM da_nil))))))))
set_option maxHeartbeats 4000000 in
theorem ok_f_with_parts (T : Tops K mg w ad fd g_f_met_l h_f_met_l) (R : Rk P w K mg base ad fd (k + 2) r) : FnX P w K mg base (k + 3) (ad .f_with_parts) (fd .f_with_parts) ["term", "parts"] (spX K 2 (runF 7 (b_f_with_parts r))) := by
  refine fnX_data T.fn_f_with_parts sc_f_with_parts rfl rfl _ fun cdv A outer s H E C po => ?_
  unfold b_f_with_parts f_with_parts_4 f_with_parts_3 f_with_parts_2 f_with_parts_1
  exact (dss_cons (ds_set (i := 2) sc_f_with_parts.nd rfl (by first | exact Or.inl rfl | exact Or.inr rfl) (de_subs C.u1 (de_var 0) de_int))
    (dss_cons (ds_if (dt_eqZ C.u65 (de_var 2) de_str) (dss_one (ds_ret (de_tup (da_cons de_str (da_cons (de_subs C.u1 (de_var 1) de_int) (da_cons (de_subs C.u1 (de_var 1) de_int) da_nil)))))) dss_nil)
    (dss_cons (ds_if (dt_eqZ C.u65 (de_var 2) de_str) (dss_one (ds_ret (de_tup (da_cons de_str (da_cons (de_subs C.u1 (de_var 0) de_int) (da_cons (de_subs C.u1 (de_var 1) de_int) da_nil)))))) dss_nil)
    (dss_cons (ds_if (dt_eqZ C.u65 (de_var 2) de_str) (dss_one (ds_ret (de_tup (da_cons de_str (da_cons (de_tupleX rfl rfl T.b_tuple (da_cons (de_lc (own := [("name", 5), ("bound", 6), ("part", 3)]) finL_ok rfl sc_f_with_parts.nd (di_zipX rfl T.b_zip (da_cons (de_subs C.u1 (de_var 0) de_int) (da_cons (de_var 1) da_nil))) (blkOk_by (by show blkC ["term", "parts", "word", "part", "arm", "name", "bound"] (defScope s_f_with_parts) _ _ = true; decide +kernel)) (fun _ _ _ _ _ => (dg_tup rfl (dgs_cons (dg_tup rfl (dgs_cons (dg_name (i := 5) sc_f_with_parts.nd rfl (by first | exact Or.inl rfl | exact Or.inr rfl) (by decide)) (dgs_cons (dg_name (i := 6) sc_f_with_parts.nd rfl (by first | exact Or.inl rfl | exact Or.inr rfl) (by decide)) dgs_nil))) (dgs_cons (dg_name (i := 3) sc_f_with_parts.nd rfl (by first | exact Or.inl rfl | exact Or.inr rfl) (by decide)) dgs_nil)))) (fun _ _ _ _ _ => dts_nil) (fun _ _ _ _ _ => (de_tup (da_cons (de_var 5) (da_cons (de_var 3) da_nil))))) da_nil)) (da_cons (de_subs C.u1 (de_var 1) (de_neg de_int)) da_nil)))))) dss_nil)
    (dss_cons (ds_if (dt_eqZ C.u65 (de_var 2) de_str) (dss_one (ds_ret (de_tup (da_cons de_str (da_cons (de_subs C.u1 (de_var 1) de_int) (da_cons (de_tupleX rfl rfl T.b_tuple (da_cons (de_lc (own := [("arm", 4), ("part", 3)]) finL_ok rfl sc_f_with_parts.nd (di_zipX rfl T.b_zip (da_cons (de_subs C.u1 (de_var 0) de_int) (da_cons (de_slice (de_var 1) (do_some de_int) do_none) da_nil))) (blkOk_by (by show blkC ["term", "parts", "word", "part", "arm", "name", "bound"] (defScope s_f_with_parts) _ _ = true; decide +kernel)) (fun _ _ _ _ _ => (dg_tup rfl (dgs_cons (dg_name (i := 4) sc_f_with_parts.nd rfl (by first | exact Or.inl rfl | exact Or.inr rfl) (by decide)) (dgs_cons (dg_name (i := 3) sc_f_with_parts.nd rfl (by first | exact Or.inl rfl | exact Or.inr rfl) (by decide)) dgs_nil)))) (fun _ _ _ _ _ => dts_nil) (fun _ _ _ _ _ => (de_tup (da_cons (de_subs C.blk.u1 (de_var 4) de_int) (da_cons (de_subs C.blk.u1 (de_var 4) de_int) (da_cons (de_var 3) da_nil)))))) da_nil)) da_nil)))))) dss_nil)
    (dss_one (ds_ret (de_var 0))))))))
set_option maxHeartbeats 4000000 in
theorem ok_f_part_at (T : Tops K mg w ad fd g_f_met_l h_f_met_l) (R : Rk P w K mg base ad fd (k + 2) r) : FnX P w K mg base (k + 3) (ad .f_part_at) (fd .f_part_at) ["term", "place"] (spX K 2 (runF 5 (b_f_part_at r))) := by
  obtain ⟨C_OutOfTerm, fI_OutOfTerm, fd_OutOfTerm, X_OutOfTerm, kx_OutOfTerm⟩ := T.x_OutOfTerm
  refine fnX_data T.fn_f_part_at sc_f_part_at rfl rfl _ fun cdv A outer s H E C po => ?_
  unfold b_f_part_at f_part_at_4 f_part_at_3 f_part_at_2 f_part_at_1
  exact (dss_cons (ds_if (dt_not (dt_val (de_isi .tuple rfl T.b_isinstance rfl T.b_tuple rfl (de_var 1)))) (dss_one (ds_raise xb_LookupError X_OutOfTerm.cls X_OutOfTerm.hcl X_OutOfTerm.iC X_OutOfTerm.tI ((fi_OutOfTerm X_OutOfTerm).mono (Nat.succ_le_succ (Nat.zero_le _))) X_OutOfTerm.b C rfl X_OutOfTerm.m rfl (de_var 1))) dss_nil)
    (dss_cons (ds_set (i := 2) sc_f_part_at.nd rfl (by first | exact Or.inl rfl | exact Or.inr rfl) (de_var 0))
    (dss_cons (ds_for (vs := [3]) po rfl (di_seq (de_var 1)) (dg_name (i := 3) sc_f_part_at.nd rfl (by first | exact Or.inl rfl | exact Or.inr rfl) (by decide)) (dss_cons (ds_set (i := 4) sc_f_part_at.nd rfl (by first | exact Or.inl rfl | exact Or.inr rfl) (de_callX R.f_parts_of_term C rfl T.m_f_parts_of_term T.kp_f_parts_of_term T.b_f_parts_of_term (da_cons (de_var 2) da_nil)))
    (dss_cons (ds_if (dt_bool (dw_or (dt_not (dt_val (de_isi .int rfl T.b_isinstance rfl T.b_int rfl (de_var 3)))) (dw_or (dt_val (de_isi .bool rfl T.b_isinstance rfl T.b_bool rfl (de_var 3))) (dt_or1 (dt_not (dt_leXlt de_int (de_var 3) (de_len rfl T.b_len (da_cons (de_var 4) da_nil)))))))) (dss_one (ds_raise xb_LookupError X_OutOfTerm.cls X_OutOfTerm.hcl X_OutOfTerm.iC X_OutOfTerm.tI ((fi_OutOfTerm X_OutOfTerm).mono (Nat.succ_le_succ (Nat.zero_le _))) X_OutOfTerm.b C rfl X_OutOfTerm.m rfl (de_var 1))) dss_nil)
    (dss_one (ds_set (i := 2) sc_f_part_at.nd rfl (by first | exact Or.inl rfl | exact Or.inr rfl) (de_subs C.u1 (de_var 4) (de_var 3)))))))
    (dss_one (ds_ret (de_var 2))))))
set_option maxHeartbeats 4000000 in
theorem ok_f_with_part (T : Tops K mg w ad fd g_f_met_l h_f_met_l) (R : Rk P w K mg base ad fd (k + 2) r) : FnX P w K mg base (k + 3) (ad .f_with_part) (fd .f_with_part) ["term", "place", "part"] (spX K 3 (runF 4 (b_f_with_part r))) := by
  refine fnX_data T.fn_f_with_part sc_f_with_part rfl rfl _ fun cdv A outer s H E C po => ?_
  unfold b_f_with_part f_with_part_1
  exact (dss_cons (ds_if (dt_eqZ C.u65 (de_var 1) (de_tup da_nil)) (dss_one (ds_ret (de_var 2))) dss_nil)
    (dss_cons (ds_set (i := 3) sc_f_with_part.nd rfl (by first | exact Or.inl rfl | exact Or.inr rfl) (de_callX R.f_parts_of_term C rfl T.m_f_parts_of_term T.kp_f_parts_of_term T.b_f_parts_of_term (da_cons (de_var 0) da_nil)))
    (dss_cons (ds_asg (vs := []) (de_callX R.f_with_part C rfl T.m_f_with_part T.kp_f_with_part T.b_f_with_part (da_cons (de_subs C.u1 (de_var 3) (de_subs C.u1 (de_var 1) de_int)) (da_cons (de_slice (de_var 1) (do_some de_int) do_none) (da_cons (de_var 2) da_nil)))) (dg_sub (W := W0) C.u1 (de_var 3) (de_subs C.u1 (de_var 1) de_int)))
    (dss_ice 3 (dss_one (ds_ret (de_callX R.f_with_parts C rfl T.m_f_with_parts T.kp_f_with_parts T.b_f_with_parts (da_cons (de_var 0) (da_cons (de_var 3) da_nil)))))))))
set_option maxHeartbeats 4000000 in
theorem ok_f_is_within_place (T : Tops K mg w ad fd g_f_met_l h_f_met_l) (R : Rk P w K mg base ad fd (k + 2) r) : FnX P w K mg base (k + 3) (ad .f_is_within_place) (fd .f_is_within_place) ["place", "other"] (spX K 2 (runF 2 (b_f_is_within_place r))) := by
  refine fnX_data T.fn_f_is_within_place sc_f_is_within_place rfl rfl _ fun cdv A outer s H E C po => ?_
  unfold b_f_is_within_place
  exact (dss_one (ds_ret (de_eqZ C.u65 (de_slice (de_var 0) do_none (do_some (de_len rfl T.b_len (da_cons (de_var 1) da_nil)))) (de_var 1))))
set_option maxHeartbeats 4000000 in
theorem ok_f_need_apart_places (T : Tops K mg w ad fd g_f_met_l h_f_met_l) (R : Rk P w K mg base ad fd (k + 2) r) : FnX P w K mg base (k + 3) (ad .f_need_apart_places) (fd .f_need_apart_places) ["term", "chosen"] (spX K 2 (runF 5 (b_f_need_apart_places r))) := by
  obtain ⟨C_OutOfTerm, fI_OutOfTerm, fd_OutOfTerm, X_OutOfTerm, kx_OutOfTerm⟩ := T.x_OutOfTerm
  refine fnX_data T.fn_f_need_apart_places sc_f_need_apart_places rfl rfl _ fun cdv A outer s H E C po => ?_
  unfold b_f_need_apart_places f_need_apart_places_2 f_need_apart_places_1
  exact (dss_one (ds_for (vs := [2, 3]) po rfl (di_enumX rfl T.b_enumerate (da_cons (de_var 1) da_nil)) (dg_tup rfl (dgs_cons (dg_name (i := 2) sc_f_need_apart_places.nd rfl (by first | exact Or.inl rfl | exact Or.inr rfl) (by decide)) (dgs_cons (dg_name (i := 3) sc_f_need_apart_places.nd rfl (by first | exact Or.inl rfl | exact Or.inr rfl) (by decide)) dgs_nil))) (dss_cons (ds_expr (de_callX R.f_part_at C rfl T.m_f_part_at T.kp_f_part_at T.b_f_part_at (da_cons (de_var 0) (da_cons (de_var 3) da_nil))))
    (dss_one (ds_for (vs := [4]) po rfl (di_seq (de_slice (de_var 1) do_none (do_some (de_var 2)))) (dg_name (i := 4) sc_f_need_apart_places.nd rfl (by first | exact Or.inl rfl | exact Or.inr rfl) (by decide)) (dss_one (ds_if (dt_bool (dw_or (dt_val (de_callX R.f_is_within_place C rfl T.m_f_is_within_place T.kp_f_is_within_place T.b_f_is_within_place (da_cons (de_var 3) (da_cons (de_var 4) da_nil)))) (dt_or1 (dt_val (de_callX R.f_is_within_place C rfl T.m_f_is_within_place T.kp_f_is_within_place T.b_f_is_within_place (da_cons (de_var 4) (da_cons (de_var 3) da_nil))))))) (dss_one (ds_raise xb_LookupError X_OutOfTerm.cls X_OutOfTerm.hcl X_OutOfTerm.iC X_OutOfTerm.tI ((fi_OutOfTerm X_OutOfTerm).mono (Nat.succ_le_succ (Nat.zero_le _))) X_OutOfTerm.b C rfl X_OutOfTerm.m rfl (de_var 3))) dss_nil)))))))
set_option maxHeartbeats 4000000 in
theorem ok_f_cut (T : Tops K mg w ad fd g_f_met_l h_f_met_l) (R : Rk P w K mg base ad fd (k + 2) r) : FnP P w K mg base (k + 3) (ad .f_cut) (spV K (runV 1 3 (b_f_cut r))) := by
  refine fnP_star (ps := ["term"]) (pv := "chosen") T.fn_f_cut sc_f_cut rfl rfl _ T.v_f_cut fun cdv A outer s H E C po => ?_
  unfold b_f_cut f_cut_2 f_cut_1
  exact (dss_cons (ds_expr (de_callX R.f_need_apart_places C rfl T.m_f_need_apart_places T.kp_f_need_apart_places T.b_f_need_apart_places (da_cons (de_var 0) (da_cons (de_var 1) da_nil))))
    (dss_cons (ds_for (vs := [2]) po rfl (di_seq (de_var 1)) (dg_name (i := 2) sc_f_cut.nd rfl (by first | exact Or.inl rfl | exact Or.inr rfl) (by decide)) (dss_one (ds_set (i := 0) sc_f_cut.nd rfl (by first | exact Or.inl rfl | exact Or.inr rfl) (de_callX R.f_with_part C rfl T.m_f_with_part T.kp_f_with_part T.b_f_with_part (da_cons (de_var 0) (da_cons (de_var 2) (da_cons (de_globD rfl T.g_HOLE) da_nil)))))))
    (dss_one (ds_ret (de_var 0)))))
set_option maxHeartbeats 4000000 in
theorem ok_f_begin_l (T : Tops K mg w ad fd g_f_met_l h_f_met_l) (R : Rk P w K mg base ad fd (k + 2) r) : FnX P w K mg base (k + 3) (ad .f_begin_l) (fd .f_begin_l) ["_law_script"] (spX K 1 (runF 1 (b_f_begin_l r))) := by
  refine fnX_data T.fn_f_begin_l sc_f_begin_l rfl rfl _ fun cdv A outer s H E C po => ?_
  unfold b_f_begin_l
  exact (dss_one (ds_ret (de_dispM (.cons de_str (de_or (de_slice (de_var 0) do_none (do_some de_int)) (de_one (de_lst (da_cons de_int da_nil)))) (.cons de_str de_int (.cons de_str de_int .nil))))))
set_option maxHeartbeats 4000000 in
theorem ok_f_draw_l (T : Tops K mg w ad fd g_f_met_l h_f_met_l) (R : Rk P w K mg base ad fd (k + 2) r) : FnX P w K mg base (k + 3) (ad .f_draw_l) (fd .f_draw_l) ["_law_tape", "_law_many"] (spX K 2 (runF 6 (b_f_draw_l r))) := by
  refine fnX_data T.fn_f_draw_l sc_f_draw_l rfl rfl _ fun cdv A outer s H E C po => ?_
  unfold b_f_draw_l f_draw_l_1
  exact (dss_cons (ds_if (dt_lt  (de_subs C.u1 (de_var 0) de_str) (de_var 1)) (dss_cons (ds_par (i := 3) (j := 4) rfl sc_f_draw_l.nd rfl rfl (by decide) rfl rfl (da_cons (de_subs C.u1 (de_var 0) de_str) (da_cons (de_subs C.u1 (de_var 0) de_str) da_nil)))
    (dss_cons (ds_asgTT (vs := [5]) rfl (da_cons (de_subs C.u1 (de_var 4) (de_mod (de_int1 rfl T.b_int (da_cons (de_var 3) da_nil)) (de_len rfl T.b_len (da_cons (de_var 4) da_nil)))) (da_cons (de_add (de_var 3) de_int) da_nil)) (dgs_cons (dg_name (i := 5) sc_f_draw_l.nd rfl (by first | exact Or.inl rfl | exact Or.inr rfl) (by decide)) (dgs_cons (dg_sub (W := W0) C.u1 (de_var 0) de_str) dgs_nil)) (hd := (lenCons (lenCons lenNil))))
    (dss_cons (ds_asg (vs := []) (de_mod (de_int1 rfl T.b_int (da_cons (de_pow (de_add (de_add (de_mod (de_int1 rfl T.b_int (da_cons (de_var 5) da_nil)) de_int) (de_mulX de_int (de_var 3))) de_int) de_int) da_nil)) (de_add (de_pow de_int de_int) de_int)) (dg_sub (W := W0) C.u1 (de_var 0) de_str))
    (dss_one (ds_if (dt_bool (dw_and (dt_ge  (de_var 5) (de_pow de_int de_int)) (dt_and1 (dt_lt  (de_var 3) (de_len rfl T.b_len (da_cons (de_var 4) da_nil)))))) (dss_one (ds_asg (vs := []) (de_sub (de_var 5) (de_pow de_int de_int)) (dg_sub (W := W0) C.u1 (de_var 0) de_str))) dss_nil))))) dss_nil)
    (dss_cons (ds_asgTT (vs := [2]) rfl (da_cons (de_mod (de_int1 rfl T.b_int (da_cons (de_subs C.u1 (de_var 0) de_str) da_nil)) (de_var 1)) (da_cons (de_divX (de_subs C.u1 (de_var 0) de_str) (de_var 1)) da_nil)) (dgs_cons (dg_name (i := 2) sc_f_draw_l.nd rfl (by first | exact Or.inl rfl | exact Or.inr rfl) (by decide)) (dgs_cons (dg_sub (W := W0) C.u1 (de_var 0) de_str) dgs_nil)) (hd := (lenCons (lenCons lenNil))))
    (dss_one (ds_ret (de_var 2)))))
set_option maxHeartbeats 4000000 in
theorem ok_f_pick_l (T : Tops K mg w ad fd g_f_met_l h_f_met_l) (R : Rk P w K mg base ad fd (k + 2) r) : FnX P w K mg base (k + 3) (ad .f_pick_l) (fd .f_pick_l) ["_law_tape", "_law_items"] (spX K 2 (runF 2 (b_f_pick_l r))) := by
  refine fnX_data T.fn_f_pick_l sc_f_pick_l rfl rfl _ fun cdv A outer s H E C po => ?_
  unfold b_f_pick_l
  exact (dss_one (ds_ret (de_subs C.u1 (de_var 1) (de_callX R.f_draw_l C rfl T.m_f_draw_l T.kp_f_draw_l T.b_f_draw_l (da_cons (de_var 0) (da_cons (de_len rfl T.b_len (da_cons (de_var 1) da_nil)) da_nil))))))
set_option maxHeartbeats 4000000 in
theorem ok_f_parts_of_l (T : Tops K mg w ad fd g_f_met_l h_f_met_l) (R : Rk P w K mg base ad fd (k + 2) r) : FnX P w K mg base (k + 3) (ad .f_parts_of_l) (fd .f_parts_of_l) ["_law_term"] (spX K 1 (runF 4 (b_f_parts_of_l r))) := by
  refine fnX_data T.fn_f_parts_of_l sc_f_parts_of_l rfl rfl _ fun cdv A outer s H E C po => ?_
  unfold b_f_parts_of_l f_parts_of_l_3 f_parts_of_l_2 f_parts_of_l_1
  exact (dss_cons (ds_set (i := 1) sc_f_parts_of_l.nd rfl (by first | exact Or.inl rfl | exact Or.inr rfl) (de_subs C.u1 (de_var 0) de_int))
    (dss_cons (ds_if (dt_eqZ C.u65 (de_var 1) de_str) (dss_one (ds_ret (de_lst (da_cons (de_subs C.u1 (de_var 0) de_int) (da_cons (de_subs C.u1 (de_var 0) de_int) da_nil))))) dss_nil)
    (dss_cons (ds_if (dt_eqZ C.u65 (de_var 1) de_str) (dss_one (ds_ret (de_lst (da_cons (de_subs C.u1 (de_var 0) de_int) da_nil)))) dss_nil)
    (dss_cons (ds_if (dt_eqZ C.u65 (de_var 1) de_str) (dss_one (ds_ret (de_addX (de_lc (own := [("_law_pair", 2)]) finL_ok rfl sc_f_parts_of_l.nd (di_seq (de_subs C.u1 (de_var 0) de_int)) (blkOk_by (by show blkC ["_law_term", "_law_word", "_law_pair", "_law_arm"] (defScope s_f_parts_of_l) _ _ = true; decide +kernel)) (fun _ _ _ _ _ => (dg_name (i := 2) sc_f_parts_of_l.nd rfl (by first | exact Or.inl rfl | exact Or.inr rfl) (by decide))) (fun _ _ _ _ _ => dts_nil) (fun _ _ _ _ _ => (de_subs C.blk.u1 (de_var 2) de_int))) (de_lst (da_cons (de_subs C.u1 (de_var 0) de_int) da_nil))))) dss_nil)
    (dss_one (ds_ret (de_if (dt_eqZ C.u65 (de_var 1) de_str) (de_addX (de_lst (da_cons (de_subs C.u1 (de_var 0) de_int) da_nil)) (de_lc (own := [("_law_arm", 3)]) finL_ok rfl sc_f_parts_of_l.nd (di_seq (de_subs C.u1 (de_var 0) de_int)) (blkOk_by (by show blkC ["_law_term", "_law_word", "_law_pair", "_law_arm"] (defScope s_f_parts_of_l) _ _ = true; decide +kernel)) (fun _ _ _ _ _ => (dg_name (i := 3) sc_f_parts_of_l.nd rfl (by first | exact Or.inl rfl | exact Or.inr rfl) (by decide))) (fun _ _ _ _ _ => dts_nil) (fun _ _ _ _ _ => (de_subs C.blk.u1 (de_var 3) de_int)))) (de_lst da_nil))))))))
set_option maxHeartbeats 4000000 in
theorem ok_f_rebuilt_l (T : Tops K mg w ad fd g_f_met_l h_f_met_l) (R : Rk P w K mg base ad fd (k + 2) r) : FnX P w K mg base (k + 3) (ad .f_rebuilt_l) (fd .f_rebuilt_l) ["_law_term", "_law_parts"] (spX K 2 (runF 6 (b_f_rebuilt_l r))) := by
  refine fnX_data T.fn_f_rebuilt_l sc_f_rebuilt_l rfl rfl _ fun cdv A outer s H E C po => ?_
  unfold b_f_rebuilt_l f_rebuilt_l_4 f_rebuilt_l_3 f_rebuilt_l_2 f_rebuilt_l_1
  exact (dss_cons (ds_set (i := 2) sc_f_rebuilt_l.nd rfl (by first | exact Or.inl rfl | exact Or.inr rfl) (de_subs C.u1 (de_var 0) de_int))
    (dss_cons (ds_if (dt_eqZ C.u65 (de_var 2) de_str) (dss_one (ds_ret (de_tup (da_cons de_str (da_cons (de_subs C.u1 (de_var 1) de_int) (da_cons (de_subs C.u1 (de_var 1) de_int) da_nil)))))) dss_nil)
    (dss_cons (ds_if (dt_eqZ C.u65 (de_var 2) de_str) (dss_one (ds_ret (de_tup (da_cons de_str (da_cons (de_subs C.u1 (de_var 0) de_int) (da_cons (de_subs C.u1 (de_var 1) de_int) da_nil)))))) dss_nil)
    (dss_cons (ds_if (dt_eqZ C.u65 (de_var 2) de_str) (dss_one (ds_ret (de_tup (da_cons de_str (da_cons (de_tupleX rfl rfl T.b_tuple (da_cons (de_lc (own := [("_law_pair", 3), ("_law_part", 4)]) finL_ok rfl sc_f_rebuilt_l.nd (di_zipX rfl T.b_zip (da_cons (de_subs C.u1 (de_var 0) de_int) (da_cons (de_var 1) da_nil))) (blkOk_by (by show blkC ["_law_term", "_law_parts", "_law_word", "_law_pair", "_law_part", "_law_arm"] (defScope s_f_rebuilt_l) _ _ = true; decide +kernel)) (fun _ _ _ _ _ => (dg_tup rfl (dgs_cons (dg_name (i := 3) sc_f_rebuilt_l.nd rfl (by first | exact Or.inl rfl | exact Or.inr rfl) (by decide)) (dgs_cons (dg_name (i := 4) sc_f_rebuilt_l.nd rfl (by first | exact Or.inl rfl | exact Or.inr rfl) (by decide)) dgs_nil)))) (fun _ _ _ _ _ => dts_nil) (fun _ _ _ _ _ => (de_tup (da_cons (de_subs C.blk.u1 (de_var 3) de_int) (da_cons (de_var 4) da_nil))))) da_nil)) (da_cons (de_subs C.u1 (de_var 1) (de_neg de_int)) da_nil)))))) dss_nil)
    (dss_cons (ds_if (dt_eqZ C.u65 (de_var 2) de_str) (dss_one (ds_ret (de_tup (da_cons de_str (da_cons (de_subs C.u1 (de_var 1) de_int) (da_cons (de_tupleX rfl rfl T.b_tuple (da_cons (de_lc (own := [("_law_arm", 5), ("_law_part", 4)]) finL_ok rfl sc_f_rebuilt_l.nd (di_zipX rfl T.b_zip (da_cons (de_subs C.u1 (de_var 0) de_int) (da_cons (de_slice (de_var 1) (do_some de_int) do_none) da_nil))) (blkOk_by (by show blkC ["_law_term", "_law_parts", "_law_word", "_law_pair", "_law_part", "_law_arm"] (defScope s_f_rebuilt_l) _ _ = true; decide +kernel)) (fun _ _ _ _ _ => (dg_tup rfl (dgs_cons (dg_name (i := 5) sc_f_rebuilt_l.nd rfl (by first | exact Or.inl rfl | exact Or.inr rfl) (by decide)) (dgs_cons (dg_name (i := 4) sc_f_rebuilt_l.nd rfl (by first | exact Or.inl rfl | exact Or.inr rfl) (by decide)) dgs_nil)))) (fun _ _ _ _ _ => dts_nil) (fun _ _ _ _ _ => (de_addX (de_slice (de_var 5) do_none (do_some de_int)) (de_tup (da_cons (de_var 4) da_nil))))) da_nil)) da_nil)))))) dss_nil)
    (dss_one (ds_ret (de_var 0))))))))
set_option maxHeartbeats 4000000 in
theorem ok_f_spots_l (T : Tops K mg w ad fd g_f_met_l h_f_met_l) (R : Rk P w K mg base ad fd (k + 2) r) : FnX P w K mg base (k + 3) (ad .f_spots_l) (fd .f_spots_l) ["_law_term"] (spX K 1 (runF 7 (b_f_spots_l r))) := by
  refine fnX_data T.fn_f_spots_l sc_f_spots_l rfl rfl _ fun cdv A outer s H E C po => ?_
  unfold b_f_spots_l f_spots_l_2 f_spots_l_1
  exact (dss_cons (ds_par (i := 1) (j := 2) rfl sc_f_spots_l.nd rfl rfl (by decide) rfl rfl (da_cons (de_lstM da_nil) (da_cons (de_lstM (da_cons (de_tup (da_cons (de_tup da_nil) (da_cons (de_var 0) da_nil))) da_nil)) da_nil)))
    (dss_cons (ds_while 1000 po (dt_neZ C.u65 (de_var 2) (de_lst da_nil)) (dss_cons (ds_asg (vs := [4, 5]) (de_pop (de_var 2)) (dg_tup rfl (dgs_cons (dg_name (i := 4) sc_f_spots_l.nd rfl (by first | exact Or.inl rfl | exact Or.inr rfl) (by decide)) (dgs_cons (dg_name (i := 5) sc_f_spots_l.nd rfl (by first | exact Or.inl rfl | exact Or.inr rfl) (by decide)) dgs_nil))))
    (dss_cons (ds_expr (de_append (de_var 1) (da_cons (de_tup (da_cons (de_var 4) (da_cons (de_var 5) da_nil))) da_nil)))
    (dss_cons (ds_set (i := 3) sc_f_spots_l.nd rfl (by first | exact Or.inl rfl | exact Or.inr rfl) (de_callX R.f_parts_of_l C rfl T.m_f_parts_of_l T.kp_f_parts_of_l T.b_f_parts_of_l (da_cons (de_var 5) da_nil)))
    (dss_one (ds_expr (de_extend (de_var 2) (da_cons (de_lc (own := [("_law_k", 6)]) finL_ok rfl sc_f_spots_l.nd (di_rangeD rfl T.b_range (da_cons (de_sub (de_len rfl T.b_len (da_cons (de_var 3) da_nil)) de_int) (da_cons (de_neg de_int) (da_cons (de_neg de_int) da_nil)))) (blkOk_by (by show blkC ["_law_term", "_law_found", "_law_waiting", "_law_below", "_law_spot", "_law_here", "_law_k"] (defScope s_f_spots_l) _ _ = true; decide +kernel)) (fun _ _ _ _ _ => (dg_name (i := 6) sc_f_spots_l.nd rfl (by first | exact Or.inl rfl | exact Or.inr rfl) (by decide))) (fun _ _ _ _ _ => dts_nil) (fun _ _ _ _ _ => (de_tup (da_cons (de_addX (de_var 4) (de_tup (da_cons (de_var 6) da_nil))) (da_cons (de_subs C.blk.u1 (de_var 3) (de_var 6)) da_nil))))) da_nil))))))))
    (dss_one (ds_ret (de_ice (de_var 1))))))
set_option maxHeartbeats 4000000 in
theorem ok_f_holed_l (T : Tops K mg w ad fd g_f_met_l h_f_met_l) (R : Rk P w K mg base ad fd (k + 2) r) : FnX P w K mg base (k + 3) (ad .f_holed_l) (fd .f_holed_l) ["_law_term", "_law_spots_here"] (spX K 2 (runF 6 (b_f_holed_l r))) := by
  refine fnX_data T.fn_f_holed_l sc_f_holed_l rfl rfl _ fun cdv A outer s H E C po => ?_
  unfold b_f_holed_l f_holed_l_3 f_holed_l_2 f_holed_l_1
  exact (dss_cons (ds_if (dt_inX C.u65 (de_tup da_nil) (de_var 1)) (dss_one (ds_ret (de_tup (da_cons de_str da_nil)))) dss_nil)
    (dss_cons (ds_set (i := 2) sc_f_holed_l.nd rfl (by first | exact Or.inl rfl | exact Or.inr rfl) (de_callX R.f_parts_of_l C rfl T.m_f_parts_of_l T.kp_f_parts_of_l T.b_f_parts_of_l (da_cons (de_var 0) da_nil)))
    (dss_cons (ds_set (i := 3) sc_f_holed_l.nd rfl (by first | exact Or.inl rfl | exact Or.inr rfl) (de_lstM da_nil))
    (dss_cons (ds_for (vs := [4]) po rfl (di_range rfl T.b_range (da_cons (de_len rfl T.b_len (da_cons (de_var 2) da_nil)) da_nil)) (dg_name (i := 4) sc_f_holed_l.nd rfl (by first | exact Or.inl rfl | exact Or.inr rfl) (by decide)) (dss_one (ds_expr (de_append (de_var 3) (da_cons (de_callX R.f_holed_l C rfl T.m_f_holed_l T.kp_f_holed_l T.b_f_holed_l (da_cons (de_subs C.u1 (de_var 2) (de_var 4)) (da_cons (de_lc (own := [("_law_spot", 5)]) finL_ok rfl sc_f_holed_l.nd (di_seq (de_var 1)) (blkOk_by (by show blkC ["_law_term", "_law_spots_here", "_law_parts", "_law_below", "_law_k", "_law_spot"] (defScope s_f_holed_l) _ _ = true; decide +kernel)) (fun _ _ _ _ _ => (dg_name (i := 5) sc_f_holed_l.nd rfl (by first | exact Or.inl rfl | exact Or.inr rfl) (by decide))) (fun _ _ _ _ _ => (dts_one (dt_eqZ C.blk.u65 (de_subs C.blk.u1 (de_var 5) de_int) (de_var 4)))) (fun _ _ _ _ _ => (de_slice (de_var 5) (do_some de_int) do_none))) da_nil))) da_nil)))))
    (dss_ice 3 (dss_one (ds_ret (de_callX R.f_rebuilt_l C rfl T.m_f_rebuilt_l T.kp_f_rebuilt_l T.b_f_rebuilt_l (da_cons (de_var 0) (da_cons (de_var 3) da_nil))))))))))
set_option maxHeartbeats 4000000 in
theorem ok_f_ends_l (T : Tops K mg w ad fd g_f_met_l h_f_met_l) (R : Rk P w K mg base ad fd (k + 2) r) : FnX P w K mg base (k + 3) (ad .f_ends_l) (fd .f_ends_l) ["_law_spot", "_law_spots_here"] (spX K 2 (runF 3 (b_f_ends_l r))) := by
  refine fnX_data T.fn_f_ends_l sc_f_ends_l rfl rfl _ fun cdv A outer s H E C po => ?_
  unfold b_f_ends_l
  exact (dss_one (ds_ret (de_lc (own := [("_law_other", 2)]) finL_ok rfl sc_f_ends_l.nd (di_seq (de_var 1)) (blkOk_by (by show blkC ["_law_spot", "_law_spots_here", "_law_other"] (defScope s_f_ends_l) _ _ = true; decide +kernel)) (fun _ _ _ _ _ => (dg_name (i := 2) sc_f_ends_l.nd rfl (by first | exact Or.inl rfl | exact Or.inr rfl) (by decide))) (fun _ _ _ _ _ => (dts_one (dt_eqZ C.blk.u65 (de_slice (de_var 0) do_none (do_some (de_len rfl T.b_len (da_cons (de_var 2) da_nil)))) (de_var 2)))) (fun _ _ _ _ _ => (de_var 2)))))
set_option maxHeartbeats 4000000 in
theorem ok_f_loose_l (T : Tops K mg w ad fd g_f_met_l h_f_met_l) (R : Rk P w K mg base ad fd (k + 2) r) : FnX P w K mg base (k + 3) (ad .f_loose_l) (fd .f_loose_l) ["_law_tape", "_law_names", "_law_deep"] (spX K 3 (runF 9 (b_f_loose_l r))) := by
  refine fnX_data T.fn_f_loose_l sc_f_loose_l rfl rfl _ fun cdv A outer s H E C po => ?_
  unfold b_f_loose_l f_loose_l_5 f_loose_l_4 f_loose_l_3 f_loose_l_2 f_loose_l_1
  exact (dss_cons (ds_set (i := 3) sc_f_loose_l.nd rfl (by first | exact Or.inl rfl | exact Or.inr rfl) (de_if (dt_gt  (de_var 2) de_int) (de_callX R.f_draw_l C rfl T.m_f_draw_l T.kp_f_draw_l T.b_f_draw_l (da_cons (de_var 0) (da_cons de_int da_nil))) (de_callX R.f_draw_l C rfl T.m_f_draw_l T.kp_f_draw_l T.b_f_draw_l (da_cons (de_var 0) (da_cons de_int da_nil)))))
    (dss_cons (ds_set (i := 4) sc_f_loose_l.nd rfl (by first | exact Or.inl rfl | exact Or.inr rfl) (de_lst (da_cons de_str (da_cons de_str (da_cons de_str (da_cons de_str (da_cons de_str (da_cons de_str (da_cons de_str da_nil)))))))))
    (dss_cons (ds_if (dt_bool (dw_and (dt_lt  (de_var 3) de_int) (dt_and1 (dt_neZ C.u65 (de_var 1) (de_lst da_nil))))) (dss_one (ds_ret (de_tup (da_cons de_str (da_cons (de_callX R.f_pick_l C rfl T.m_f_pick_l T.kp_f_pick_l T.b_f_pick_l (da_cons (de_var 0) (da_cons (de_var 1) da_nil))) da_nil))))) dss_nil)
    (dss_cons (ds_if (dt_lt  (de_var 3) de_int) (dss_one (ds_ret (de_callX R.f_pick_l C rfl T.m_f_pick_l T.kp_f_pick_l T.b_f_pick_l (da_cons (de_var 0) (da_cons (de_addX (de_lst (da_cons (de_tup (da_cons de_str (da_cons de_int da_nil))) (da_cons (de_tup (da_cons de_str (da_cons de_str da_nil))) da_nil))) (de_lc (own := [("_law_name", 7)]) finL_ok rfl sc_f_loose_l.nd (di_seq (de_var 4)) (blkOk_by (by show blkC ["_law_tape", "_law_names", "_law_deep", "_law_way", "_law_some", "_law_arms", "_law_one", "_law_name", "_law_k"] (defScope s_f_loose_l) _ _ = true; decide +kernel)) (fun _ _ _ _ _ => (dg_name (i := 7) sc_f_loose_l.nd rfl (by first | exact Or.inl rfl | exact Or.inr rfl) (by decide))) (fun _ _ _ _ _ => dts_nil) (fun _ _ _ _ _ => (de_tup (da_cons de_str (da_cons (de_var 7) da_nil)))))) da_nil))))) dss_nil)
    (dss_cons (ds_if (dt_lt  (de_var 3) de_int) (dss_cons (ds_set (i := 6) sc_f_loose_l.nd rfl (by first | exact Or.inl rfl | exact Or.inr rfl) (de_callX R.f_loose_l C rfl T.m_f_loose_l T.kp_f_loose_l T.b_f_loose_l (da_cons (de_var 0) (da_cons (de_var 1) (da_cons (de_sub (de_var 2) de_int) da_nil)))))
    (dss_one (ds_ret (de_tup (da_cons de_str (da_cons (de_var 6) (da_cons (de_callX R.f_loose_l C rfl T.m_f_loose_l T.kp_f_loose_l T.b_f_loose_l (da_cons (de_var 0) (da_cons (de_var 1) (da_cons (de_sub (de_var 2) de_int) da_nil)))) da_nil))))))) dss_nil)
    (dss_cons (ds_if (dt_eqZ C.u65 (de_var 3) de_int) (dss_cons (ds_set (i := 7) sc_f_loose_l.nd rfl (by first | exact Or.inl rfl | exact Or.inr rfl) (de_addX de_str (de_subs C.u1 de_str (de_var 2))))
    (dss_one (ds_ret (de_tup (da_cons de_str (da_cons (de_var 7) (da_cons (de_callX R.f_loose_l C rfl T.m_f_loose_l T.kp_f_loose_l T.b_f_loose_l (da_cons (de_var 0) (da_cons (de_addX (de_var 1) (de_lst (da_cons (de_var 7) da_nil))) (da_cons (de_sub (de_var 2) de_int) da_nil)))) da_nil))))))) dss_nil)
    (dss_cons (ds_if (dt_eqZ C.u65 (de_var 3) de_int) (dss_cons (ds_set (i := 7) sc_f_loose_l.nd rfl (by first | exact Or.inl rfl | exact Or.inr rfl) (de_addX de_str (de_subs C.u1 de_str (de_var 2))))
    (dss_cons (ds_set (i := 6) sc_f_loose_l.nd rfl (by first | exact Or.inl rfl | exact Or.inr rfl) (de_callX R.f_loose_l C rfl T.m_f_loose_l T.kp_f_loose_l T.b_f_loose_l (da_cons (de_var 0) (da_cons (de_addX (de_var 1) (de_lst (da_cons (de_var 7) da_nil))) (da_cons (de_sub (de_var 2) de_int) da_nil)))))
    (dss_one (ds_ret (de_tup (da_cons de_str (da_cons (de_tup (da_cons (de_tup (da_cons (de_var 7) (da_cons (de_var 6) da_nil))) da_nil)) (da_cons (de_callX R.f_loose_l C rfl T.m_f_loose_l T.kp_f_loose_l T.b_f_loose_l (da_cons (de_var 0) (da_cons (de_addX (de_var 1) (de_lst (da_cons (de_var 7) da_nil))) (da_cons (de_sub (de_var 2) de_int) da_nil)))) da_nil)))))))) dss_nil)
    (dss_cons (ds_setLc (i := 5) (own := [("_law_k", 8)]) finL_ok rfl sc_f_loose_l.nd rfl rfl (sw_true rfl rfl rfl rfl) (di_range rfl T.b_range (da_cons de_int da_nil)) (blkOk_by (by show blkC ["_law_tape", "_law_names", "_law_deep", "_law_way", "_law_some", "_law_arms", "_law_one", "_law_name", "_law_k"] (defScope s_f_loose_l) _ _ = true; decide +kernel)) (fun _ _ _ _ _ => (dg_name (i := 8) sc_f_loose_l.nd rfl (by first | exact Or.inl rfl | exact Or.inr rfl) (by decide))) (fun _ _ _ _ _ => dts_nil) (fun _ _ _ _ _ => (de_callX R.f_loose_l C.blk rfl T.m_f_loose_l T.kp_f_loose_l T.b_f_loose_l (da_cons (de_var 0) (da_cons (de_var 1) (da_cons (de_sub (de_var 2) de_int) da_nil))))))
    (dss_one (ds_ret (de_tup (da_cons de_str (da_cons (de_callX R.f_loose_l C rfl T.m_f_loose_l T.kp_f_loose_l T.b_f_loose_l (da_cons (de_var 0) (da_cons (de_var 1) (da_cons (de_sub (de_var 2) de_int) da_nil)))) (da_cons (de_tup (da_cons (de_tup (da_cons de_str (da_cons (de_tup da_nil) (da_cons (de_subs C.u1 (de_var 5) de_int) da_nil)))) (da_cons (de_tup (da_cons de_str (da_cons (de_tup da_nil) (da_cons (de_subs C.u1 (de_var 5) de_int) da_nil)))) da_nil))) da_nil))))))))))))))
set_option maxHeartbeats 4000000 in
theorem ok_f_chosen_l (T : Tops K mg w ad fd g_f_met_l h_f_met_l) (R : Rk P w K mg base ad fd (k + 2) r) : FnX P w K mg base (k + 3) (ad .f_chosen_l) (fd .f_chosen_l) ["_law_tape", "_law_term"] (spX K 2 (runF 8 (b_f_chosen_l r))) := by
  refine fnX_data T.fn_f_chosen_l sc_f_chosen_l rfl rfl _ fun cdv A outer s H E C po => ?_
  unfold b_f_chosen_l f_chosen_l_2 f_chosen_l_1
  exact (dss_cons (ds_par (i := 3) (j := 4) rfl sc_f_chosen_l.nd rfl rfl (by decide) rfl rfl (da_cons (de_lc (own := [("_law_pair", 7)]) finL_ok rfl sc_f_chosen_l.nd (di_seq (de_callX R.f_spots_l C rfl T.m_f_spots_l T.kp_f_spots_l T.b_f_spots_l (da_cons (de_var 1) da_nil))) (blkOk_by (by show blkC ["_law_tape", "_law_term", "_law_k", "_law_spots_here", "_law_found", "_law_spot", "_law_odd", "_law_pair"] (defScope s_f_chosen_l) _ _ = true; decide +kernel)) (fun _ _ _ _ _ => (dg_name (i := 7) sc_f_chosen_l.nd rfl (by first | exact Or.inl rfl | exact Or.inr rfl) (by decide))) (fun _ _ _ _ _ => dts_nil) (fun _ _ _ _ _ => (de_subs C.blk.u1 (de_var 7) de_int))) (da_cons (de_lstM da_nil) da_nil)))
    (dss_cons (ds_for (vs := [2]) po rfl (di_range rfl T.b_range (da_cons (de_callX R.f_draw_l C rfl T.m_f_draw_l T.kp_f_draw_l T.b_f_draw_l (da_cons (de_var 0) (da_cons de_int da_nil))) da_nil)) (dg_name (i := 2) sc_f_chosen_l.nd rfl (by first | exact Or.inl rfl | exact Or.inr rfl) (by decide)) (dss_cons (ds_set (i := 5) sc_f_chosen_l.nd rfl (by first | exact Or.inl rfl | exact Or.inr rfl) (de_callX R.f_pick_l C rfl T.m_f_pick_l T.kp_f_pick_l T.b_f_pick_l (da_cons (de_var 0) (da_cons (de_var 3) da_nil))))
    (dss_cons (ds_set (i := 6) sc_f_chosen_l.nd rfl (by first | exact Or.inl rfl | exact Or.inr rfl) (de_lst (da_cons (de_addX (de_var 5) (de_tup (da_cons (de_callX R.f_draw_l C rfl T.m_f_draw_l T.kp_f_draw_l T.b_f_draw_l (da_cons (de_var 0) (da_cons de_int da_nil))) da_nil))) (da_cons (de_listX rfl rfl T.b_list (da_cons (de_var 5) da_nil)) (da_cons (de_slice (de_var 5) do_none (do_some (de_neg de_int))) (da_cons (de_addX (de_var 5) (de_tup (da_cons de_bl da_nil))) (da_cons de_non (da_cons (de_tup (da_cons (de_neg de_int) da_nil)) (da_cons de_str (da_cons (de_addX (de_var 5) (de_tup (da_cons de_str da_nil))) da_nil))))))))))
    (dss_one (ds_expr (de_append (de_var 4) (da_cons (de_if (dt_eqZ C.u65 (de_callX R.f_draw_l C rfl T.m_f_draw_l T.kp_f_draw_l T.b_f_draw_l (da_cons (de_var 0) (da_cons de_int da_nil))) de_int) (de_callX R.f_pick_l C rfl T.m_f_pick_l T.kp_f_pick_l T.b_f_pick_l (da_cons (de_var 0) (da_cons (de_var 6) da_nil))) (de_var 5)) da_nil)))))))
    (dss_one (ds_ret (de_ice (de_var 4))))))
set_option maxHeartbeats 4000000 in
theorem ok_f_cut_l (T : Tops K mg w ad fd g_f_met_l h_f_met_l) (R : Rk P w K mg base ad fd (k + 2) r) : FnX P w K mg base (k + 3) (ad .f_cut_l) (fd .f_cut_l) ["_law_term", "_law_chosen_here"] (spX K 2 (runF 2 (b_f_cut_l r))) := by
  refine fnX_data T.fn_f_cut_l sc_f_cut_l rfl rfl _ fun cdv A outer s H E C po => ?_
  unfold b_f_cut_l f_cut_l_3 f_cut_l_2 f_cut_l_1
  exact (dss_cons (ds_if (dt_lt  (de_len rfl T.b_len (da_cons (de_var 1) da_nil)) de_int) (dss_one (ds_ret (de_if (dt_eqZ C.u65 (de_var 1) (de_lst da_nil)) (de_callV R.f_cut C rfl T.m_f_cut T.kp_f_cut (da_cons (de_var 0) da_nil)) (de_callV R.f_cut C rfl T.m_f_cut T.kp_f_cut (da_cons (de_var 0) (da_cons (de_subs C.u1 (de_var 1) de_int) da_nil)))))) dss_nil)
    (dss_cons (ds_if (dt_eqZ C.u65 (de_len rfl T.b_len (da_cons (de_var 1) da_nil)) de_int) (dss_one (ds_ret (de_callV R.f_cut C rfl T.m_f_cut T.kp_f_cut (da_cons (de_var 0) (da_cons (de_subs C.u1 (de_var 1) de_int) (da_cons (de_subs C.u1 (de_var 1) de_int) da_nil)))))) dss_nil)
    (dss_cons (ds_if (dt_eqZ C.u65 (de_len rfl T.b_len (da_cons (de_var 1) da_nil)) de_int) (dss_one (ds_ret (de_callV R.f_cut C rfl T.m_f_cut T.kp_f_cut (da_cons (de_var 0) (da_cons (de_subs C.u1 (de_var 1) de_int) (da_cons (de_subs C.u1 (de_var 1) de_int) (da_cons (de_subs C.u1 (de_var 1) de_int) da_nil))))))) dss_nil)
    (dss_one (ds_ret (de_callV R.f_cut C rfl T.m_f_cut T.kp_f_cut (da_cons (de_var 0) (da_cons (de_subs C.u1 (de_var 1) de_int) (da_cons (de_subs C.u1 (de_var 1) de_int) (da_cons (de_subs C.u1 (de_var 1) de_int) (da_cons (de_subs C.u1 (de_var 1) de_int) da_nil)))))))))))
set_option maxHeartbeats 4000000 in
theorem ok_f_refusal_l (T : Tops K mg w ad fd g_f_met_l h_f_met_l) (R : Rk P w K mg base ad fd (k + 2) r) : FnX P w K mg base (k + 3) (ad .f_refusal_l) (fd .f_refusal_l) ["_law_term", "_law_chosen_here"] (spX K 2 (runF 7 (b_f_refusal_l r))) := by
  refine fnX_data T.fn_f_refusal_l sc_f_refusal_l rfl rfl _ fun cdv A outer s H E C po => ?_
  unfold b_f_refusal_l f_refusal_l_3 f_refusal_l_2 f_refusal_l_1
  exact (dss_cons (ds_setLc (i := 2) (own := [("_law_pair", 5)]) finL_ok rfl sc_f_refusal_l.nd rfl rfl (sw_true rfl rfl rfl rfl) (di_seq (de_callX R.f_spots_l C rfl T.m_f_spots_l T.kp_f_spots_l T.b_f_spots_l (da_cons (de_var 0) da_nil))) (blkOk_by (by show blkC ["_law_term", "_law_chosen_here", "_law_spots_here", "_law_k", "_law_met_here", "_law_pair", "_law_other"] (defScope s_f_refusal_l) _ _ = true; decide +kernel)) (fun _ _ _ _ _ => (dg_name (i := 5) sc_f_refusal_l.nd rfl (by first | exact Or.inl rfl | exact Or.inr rfl) (by decide))) (fun _ _ _ _ _ => dts_nil) (fun _ _ _ _ _ => (de_repr C.blk.hgd C.blk.u64 rfl T.b_repr (da_cons (de_subs C.blk.u1 (de_var 5) de_int) da_nil))))
    (dss_cons (ds_for (vs := [3]) po rfl (di_range rfl T.b_range (da_cons (de_len rfl T.b_len (da_cons (de_var 1) da_nil)) da_nil)) (dg_name (i := 3) sc_f_refusal_l.nd rfl (by first | exact Or.inl rfl | exact Or.inr rfl) (by decide)) (dss_cons (ds_if (dt_notInX C.u65 (de_repr C.hgd C.u64 rfl T.b_repr (da_cons (de_subs C.u1 (de_var 1) (de_var 3)) da_nil)) (de_var 2)) (dss_one (ds_ret (de_lst (da_cons (de_repr C.hgd C.u64 rfl T.b_repr (da_cons (de_subs C.u1 (de_var 1) (de_var 3)) da_nil)) (da_cons de_bl da_nil))))) dss_nil)
    (dss_cons (ds_setLc (i := 4) (own := [("_law_other", 6)]) finL_ok rfl sc_f_refusal_l.nd rfl rfl (sw_true rfl rfl rfl rfl) (di_seq (de_slice (de_var 1) do_none (do_some (de_var 3)))) (blkOk_by (by show blkC ["_law_term", "_law_chosen_here", "_law_spots_here", "_law_k", "_law_met_here", "_law_pair", "_law_other"] (defScope s_f_refusal_l) _ _ = true; decide +kernel)) (fun _ _ _ _ _ => (dg_name (i := 6) sc_f_refusal_l.nd rfl (by first | exact Or.inl rfl | exact Or.inr rfl) (by decide))) (fun _ _ _ _ _ => (dts_one (dt_neZ C.blk.u65 (de_addX (de_callX R.f_ends_l C.blk rfl T.m_f_ends_l T.kp_f_ends_l T.b_f_ends_l (da_cons (de_subs C.blk.u1 (de_var 1) (de_var 3)) (da_cons (de_lst (da_cons (de_var 6) da_nil)) da_nil))) (de_callX R.f_ends_l C.blk rfl T.m_f_ends_l T.kp_f_ends_l T.b_f_ends_l (da_cons (de_var 6) (da_cons (de_lst (da_cons (de_subs C.blk.u1 (de_var 1) (de_var 3)) da_nil)) da_nil)))) (de_lst da_nil)))) (fun _ _ _ _ _ => (de_var 6)))
    (dss_one (ds_if (dt_neZ C.u65 (de_var 4) (de_lst da_nil)) (dss_one (ds_ret (de_lst (da_cons (de_repr C.hgd C.u64 rfl T.b_repr (da_cons (de_subs C.u1 (de_var 1) (de_var 3)) da_nil)) (da_cons de_bl da_nil))))) dss_nil)))))
    (dss_one (ds_ret (de_lst da_nil)))))
set_option maxHeartbeats 4000000 in
theorem ok_f_law (T : Tops K mg w ad fd g_f_met_l h_f_met_l) (R : Rk P w K mg base ad fd (k + 2) r) {PT cT : Addr} (TB : TabB base mg cT PT) (hcode : (fd .f_law).code = .ref cT) (R2 : Rk P w K mg base ad fd k r2) : FnX P w K mg base (k + 3) (ad .f_law) (fd .f_law) ["_law_script"] (spX K 1 (runF 8 (b_f_law PT r r2))) := by
  obtain ⟨C_OutOfTerm, fI_OutOfTerm, fd_OutOfTerm, X_OutOfTerm, kx_OutOfTerm⟩ := T.x_OutOfTerm
  refine fnX_dataC T.fn_f_law sc_f_law rfl rfl _ fun A outer s H E C po => ?_
  unfold b_f_law f_law_2 f_law_1
  exact (dss_cons (ds_set (i := 1) sc_f_law.nd rfl (by first | exact Or.inl rfl | exact Or.inr rfl) (de_callX R.f_begin_l C rfl T.m_f_begin_l T.kp_f_begin_l T.b_f_begin_l (da_cons (de_var 0) da_nil)))
    (dss_cons (ds_for (vs := [2]) po rfl (di_range rfl T.b_range (da_cons de_int da_nil)) (dg_name (i := 2) sc_f_law.nd rfl (by first | exact Or.inl rfl | exact Or.inr rfl) (by decide)) (dss_cons (ds_set (i := 3) sc_f_law.nd rfl (by first | exact Or.inl rfl | exact Or.inr rfl) (de_callX R.f_loose_l C rfl T.m_f_loose_l T.kp_f_loose_l T.b_f_loose_l (da_cons (de_var 1) (da_cons (de_lst da_nil) (da_cons (de_addX (de_callX R.f_draw_l C rfl T.m_f_draw_l T.kp_f_draw_l T.b_f_draw_l (da_cons (de_var 1) (da_cons de_int da_nil))) de_int) da_nil)))))
    (dss_cons (ds_asgTT (vs := [6, 7]) rfl (da_cons (de_callX R.f_chosen_l C rfl T.m_f_chosen_l T.kp_f_chosen_l T.b_f_chosen_l (da_cons (de_var 1) (da_cons (de_var 3) da_nil))) (da_cons (de_repr C.hgd C.u64 rfl T.b_repr (da_cons (de_var 3) da_nil)) da_nil)) (dgs_cons (dg_name (i := 6) sc_f_law.nd rfl (by first | exact Or.inl rfl | exact Or.inr rfl) (by decide)) (dgs_cons (dg_name (i := 7) sc_f_law.nd rfl (by first | exact Or.inl rfl | exact Or.inr rfl) (by decide)) dgs_nil)) (hd := (lenCons (lenCons lenNil))))
    (dss_cons (ds_set (i := 4) sc_f_law.nd rfl (by first | exact Or.inl rfl | exact Or.inr rfl) (de_callX R.f_refusal_l C rfl T.m_f_refusal_l T.kp_f_refusal_l T.b_f_refusal_l (da_cons (de_var 3) (da_cons (de_var 6) da_nil))))
    (dss_cons (ds_set (i := 5) sc_f_law.nd rfl (by first | exact Or.inl rfl | exact Or.inr rfl) (de_if (dt_neZ C.u65 (de_var 4) (de_lst da_nil)) (de_tup (da_cons de_str (da_cons (de_var 4) da_nil))) (de_tup (da_cons de_str (da_cons (de_callX R.f_holed_l C rfl T.m_f_holed_l T.kp_f_holed_l T.b_f_holed_l (da_cons (de_var 3) (da_cons (de_var 6) da_nil))) da_nil)))))
    (dss_one (ds_if (dt_bool (dw_or (dt_neZ C.u65 (de_repr C.hgd C.u64 rfl T.b_repr (da_cons (de_metF (i := 1) T.fn_f_met_l rfl T.m_f_met_l T.b_f_met_l sc_f_met_l rfl rfl (Or.inl rfl) rfl rfl rfl rfl X_OutOfTerm.m rfl X_OutOfTerm.hcl X_OutOfTerm.em (by intro a dd x ρ S; simp only [eA, aCons, aNil, eC, e2, eXf_par (a := a) (dd := dd), eXi_par (a := a) (dd := dd)]) (fun cdv s H a oe dd pn hz hf => (de_tup (da_cons de_str (da_cons (de_lst (da_cons (de_repr C.hgd (C.hr.deeper (envOfC "_law_met" (defScope s_f_met_l) s.heap.objs.size g_f_met_l cdv)).units rfl T.b_repr (da_cons (de_xf (i := 1) X_OutOfTerm.xf X_OutOfTerm.cls.fld hz hf rfl (Or.inl rfl)) da_nil)) (da_cons (de_xi (i := 1) X_OutOfTerm.ex kx_OutOfTerm hz hf rfl (Or.inl rfl) rfl T.b_isinstance rfl T.b_LookupError PyProof.Rows.Boot.«LookupError») da_nil))) da_nil)))) TB hcode rfl C (lamS_by (by show lamSB (defScope s_f_law) _ = true; decide +kernel)) rfl (fun _ _ _ _ _ => rfl) (fun A outer s H E f c CL => (de_callX R2.f_cut_l CL rfl T.m_f_cut_l T.kp_f_cut_l T.b_f_cut_l (da_cons (de_var 3) (da_cons (de_var 6) da_nil))))) da_nil)) (de_repr C.hgd C.u64 rfl T.b_repr (da_cons (de_var 5) da_nil))) (dt_or1 (dt_neZ C.u65 (de_repr C.hgd C.u64 rfl T.b_repr (da_cons (de_var 3) da_nil)) (de_var 7))))) (dss_one (ds_ret de_bl)) dss_nil)))))))
    (dss_one (ds_ret de_bl))))
theorem all_ok (T : Tops K mg w ad fd g_f_met_l h_f_met_l) {PT cT : Addr} (TB : TabB base mg cT PT) (hcode : (fd .f_law).code = .ref cT) : ∀ k, Rk P w K mg base ad fd k (F PT k)
  | 0 => ⟨fnX_none, fnX_none, fnX_none, fnX_none, fnX_none, fnX_none, fnP_none, fnX_none, fnX_none, fnX_none, fnX_none, fnX_none, fnX_none, fnX_none, fnX_none, fnX_none, fnX_none, fnX_none, fnX_none, fnX_none⟩
  | 1 => ⟨fnX_none, fnX_none, fnX_none, fnX_none, fnX_none, fnX_none, fnP_none, fnX_none, fnX_none, fnX_none, fnX_none, fnX_none, fnX_none, fnX_none, fnX_none, fnX_none, fnX_none, fnX_none, fnX_none, fnX_none⟩
  | 2 => ⟨fnX_none, fnX_none, fnX_none, fnX_none, fnX_none, fnX_none, fnP_none, fnX_none, fnX_none, fnX_none, fnX_none, fnX_none, fnX_none, fnX_none, fnX_none, fnX_none, fnX_none, fnX_none, fnX_none, fnX_none⟩
  | k + 3 => by
    have R := all_ok T TB hcode (k + 2)
    have R2 := all_ok T TB hcode k
    exact ⟨ok_f_parts_of_term T R, ok_f_with_parts T R, ok_f_part_at T R, ok_f_with_part T R, ok_f_is_within_place T R, ok_f_need_apart_places T R, ok_f_cut T R, ok_f_begin_l T R, ok_f_draw_l T R, ok_f_pick_l T R, ok_f_parts_of_l T R, ok_f_rebuilt_l T R, ok_f_spots_l T R, ok_f_holed_l T R, ok_f_ends_l T R, ok_f_loose_l T R, ok_f_chosen_l T R, ok_f_cut_l T R, ok_f_refusal_l T R, ok_f_law T R TB hcode R2⟩
end
end K79

namespace K79
open PySem L2 DL PySem.Spec PyProof.Rows LamX
theorem all_mk {l : PySem.W.OpenLaw} {w : World} {k : Nat} {K : PySem.W.Frag} {h : Heap} {mg : Str → Option Value} {fa : Addr} (X : K.In h) (G : h.Ns mainGlobals mg) (hfa : mg "law" = some (.ref fa))
    {f0 : Addr} {od0 an0 : Option Addr} {sl0 : Array (Option Value)} {oc0 kV0 dc0 pm0 cd0 ct0 : Value}
    {f1 : Addr} {od1 an1 : Option Addr} {sl1 : Array (Option Value)} {oc1 kV1 dc1 pm1 cd1 ct1 : Value}
    {f2 : Addr} {od2 an2 : Option Addr} {sl2 : Array (Option Value)} {oc2 kV2 dc2 pm2 cd2 ct2 : Value}
    {f3 : Addr} {od3 an3 : Option Addr} {sl3 : Array (Option Value)} {oc3 kV3 dc3 pm3 cd3 ct3 : Value}
    {f4 : Addr} {od4 an4 : Option Addr} {sl4 : Array (Option Value)} {oc4 kV4 dc4 pm4 cd4 ct4 : Value}
    {f5 : Addr} {od5 an5 : Option Addr} {sl5 : Array (Option Value)} {oc5 kV5 dc5 pm5 cd5 ct5 : Value}
    {f6 : Addr} {od6 an6 : Option Addr} {sl6 : Array (Option Value)} {oc6 kV6 dc6 pm6 cd6 ct6 : Value}
    {f7 : Addr} {od7 an7 : Option Addr} {sl7 : Array (Option Value)} {oc7 kV7 dc7 pm7 cd7 ct7 : Value}
    {f8 : Addr} {od8 an8 : Option Addr} {sl8 : Array (Option Value)} {oc8 kV8 dc8 pm8 cd8 ct8 : Value}
    {f9 : Addr} {od9 an9 : Option Addr} {sl9 : Array (Option Value)} {oc9 kV9 dc9 pm9 cd9 ct9 : Value}
    {f10 : Addr} {od10 an10 : Option Addr} {sl10 : Array (Option Value)} {oc10 kV10 dc10 pm10 cd10 ct10 : Value}
    {f11 : Addr} {od11 an11 : Option Addr} {sl11 : Array (Option Value)} {oc11 kV11 dc11 pm11 cd11 ct11 : Value}
    {f12 : Addr} {od12 an12 : Option Addr} {sl12 : Array (Option Value)} {oc12 kV12 dc12 pm12 cd12 ct12 : Value}
    {f13 : Addr} {od13 an13 : Option Addr} {sl13 : Array (Option Value)} {oc13 kV13 dc13 pm13 cd13 ct13 : Value}
    {f14 : Addr} {od14 an14 : Option Addr} {sl14 : Array (Option Value)} {oc14 kV14 dc14 pm14 cd14 ct14 : Value}
    {f15 : Addr} {od15 an15 : Option Addr} {sl15 : Array (Option Value)} {oc15 kV15 dc15 pm15 cd15 ct15 : Value}
    {f16 : Addr} {od16 an16 : Option Addr} {sl16 : Array (Option Value)} {oc16 kV16 dc16 pm16 cd16 ct16 : Value}
    {f17 : Addr} {od17 an17 : Option Addr} {sl17 : Array (Option Value)} {oc17 kV17 dc17 pm17 cd17 ct17 : Value}
    {f18 : Addr} {od18 an18 : Option Addr} {sl18 : Array (Option Value)} {oc18 kV18 dc18 pm18 cd18 ct18 : Value}
    {f19 : Addr} {od19 an19 : Option Addr} {sl19 : Array (Option Value)} {oc19 kV19 dc19 pm19 cd19 ct19 : Value}
    {g_f_met_l : Addr} {odg_f_met_l ang_f_met_l : Option Addr} {slg_f_met_l : Array (Option Value)} {ocg_f_met_l kVg_f_met_l dcg_f_met_l pmg_f_met_l cdg_f_met_l ctg_f_met_l : Value}
    {C_OutOfTerm fI_OutOfTerm : Addr} {nm_OutOfTerm q_OutOfTerm : Str} {N_OutOfTerm : Addr} {bs_OutOfTerm : List Value} {sn_OutOfTerm : List Str} {su_OutOfTerm : List Value} {ab_OutOfTerm : Bool} {col_OutOfTerm : Option Bool} {dd_OutOfTerm odI_OutOfTerm anI_OutOfTerm : Option Addr} {k0_OutOfTerm k1_OutOfTerm k2_OutOfTerm k3_OutOfTerm k5_OutOfTerm : Option Value} {slI_OutOfTerm : Array (Option Value)} {ocI_OutOfTerm kVI_OutOfTerm dcI_OutOfTerm pmI_OutOfTerm cdI_OutOfTerm ctI_OutOfTerm : Value}
    {cT PT : Addr} {ddT : Option Addr} {vsT : Array Value} {slT : Array (Option Value)}
    {a_HOLE : Addr} {d_HOLE : Option Addr} {its_HOLE : Array Value} {n_HOLE : Nat} {sl_HOLE : Array (Option Value)} {ps_HOLE : List (PyData × V)}
    (a0 : PySem.W.nsIn K mainGlobals "parts_of_term" = some (some (.ref f0)))
    (l0 : K.lookup f0 = some ⟨oc0, od0, .func (PySem.W.fnOf "parts_of_term" "parts_of_term" (defArgs s_f_parts_of_term) (defBody s_f_parts_of_term) (defScope s_f_parts_of_term) .none kV0 dc0 pm0 an0 cd0 ct0), sl0⟩)
    (c0 : PySem.W.codeIn K cd0 "parts_of_term" = true)
    (k0 : PySem.W.keepIn K (.ref f0) = true)
    (a1 : PySem.W.nsIn K mainGlobals "with_parts" = some (some (.ref f1)))
    (l1 : K.lookup f1 = some ⟨oc1, od1, .func (PySem.W.fnOf "with_parts" "with_parts" (defArgs s_f_with_parts) (defBody s_f_with_parts) (defScope s_f_with_parts) .none kV1 dc1 pm1 an1 cd1 ct1), sl1⟩)
    (c1 : PySem.W.codeIn K cd1 "with_parts" = true)
    (k1 : PySem.W.keepIn K (.ref f1) = true)
    (a2 : PySem.W.nsIn K mainGlobals "part_at" = some (some (.ref f2)))
    (l2 : K.lookup f2 = some ⟨oc2, od2, .func (PySem.W.fnOf "part_at" "part_at" (defArgs s_f_part_at) (defBody s_f_part_at) (defScope s_f_part_at) .none kV2 dc2 pm2 an2 cd2 ct2), sl2⟩)
    (c2 : PySem.W.codeIn K cd2 "part_at" = true)
    (k2 : PySem.W.keepIn K (.ref f2) = true)
    (a3 : PySem.W.nsIn K mainGlobals "with_part" = some (some (.ref f3)))
    (l3 : K.lookup f3 = some ⟨oc3, od3, .func (PySem.W.fnOf "with_part" "with_part" (defArgs s_f_with_part) (defBody s_f_with_part) (defScope s_f_with_part) .none kV3 dc3 pm3 an3 cd3 ct3), sl3⟩)
    (c3 : PySem.W.codeIn K cd3 "with_part" = true)
    (k3 : PySem.W.keepIn K (.ref f3) = true)
    (a4 : PySem.W.nsIn K mainGlobals "is_within_place" = some (some (.ref f4)))
    (l4 : K.lookup f4 = some ⟨oc4, od4, .func (PySem.W.fnOf "is_within_place" "is_within_place" (defArgs s_f_is_within_place) (defBody s_f_is_within_place) (defScope s_f_is_within_place) .none kV4 dc4 pm4 an4 cd4 ct4), sl4⟩)
    (c4 : PySem.W.codeIn K cd4 "is_within_place" = true)
    (k4 : PySem.W.keepIn K (.ref f4) = true)
    (a5 : PySem.W.nsIn K mainGlobals "need_apart_places" = some (some (.ref f5)))
    (l5 : K.lookup f5 = some ⟨oc5, od5, .func (PySem.W.fnOf "need_apart_places" "need_apart_places" (defArgs s_f_need_apart_places) (defBody s_f_need_apart_places) (defScope s_f_need_apart_places) .none kV5 dc5 pm5 an5 cd5 ct5), sl5⟩)
    (c5 : PySem.W.codeIn K cd5 "need_apart_places" = true)
    (k5 : PySem.W.keepIn K (.ref f5) = true)
    (a6 : PySem.W.nsIn K mainGlobals "cut" = some (some (.ref f6)))
    (l6 : K.lookup f6 = some ⟨oc6, od6, .func (PySem.W.fnOf "cut" "cut" (defArgs s_f_cut) (defBody s_f_cut) (defScope s_f_cut) .none kV6 dc6 pm6 an6 cd6 ct6), sl6⟩)
    (c6 : PySem.W.codeIn K cd6 "cut" = true)
    (k6 : PySem.W.keepIn K (.ref f6) = true)
    (a7 : PySem.W.nsIn K mainGlobals "_law_begin" = some (some (.ref f7)))
    (l7 : K.lookup f7 = some ⟨oc7, od7, .func (PySem.W.fnOf "_law_begin" "_law_begin" (defArgs s_f_begin_l) (defBody s_f_begin_l) (defScope s_f_begin_l) .none kV7 dc7 pm7 an7 cd7 ct7), sl7⟩)
    (c7 : PySem.W.codeIn K cd7 "_law_begin" = true)
    (k7 : PySem.W.keepIn K (.ref f7) = true)
    (a8 : PySem.W.nsIn K mainGlobals "_law_draw" = some (some (.ref f8)))
    (l8 : K.lookup f8 = some ⟨oc8, od8, .func (PySem.W.fnOf "_law_draw" "_law_draw" (defArgs s_f_draw_l) (defBody s_f_draw_l) (defScope s_f_draw_l) .none kV8 dc8 pm8 an8 cd8 ct8), sl8⟩)
    (c8 : PySem.W.codeIn K cd8 "_law_draw" = true)
    (k8 : PySem.W.keepIn K (.ref f8) = true)
    (a9 : PySem.W.nsIn K mainGlobals "_law_pick" = some (some (.ref f9)))
    (l9 : K.lookup f9 = some ⟨oc9, od9, .func (PySem.W.fnOf "_law_pick" "_law_pick" (defArgs s_f_pick_l) (defBody s_f_pick_l) (defScope s_f_pick_l) .none kV9 dc9 pm9 an9 cd9 ct9), sl9⟩)
    (c9 : PySem.W.codeIn K cd9 "_law_pick" = true)
    (k9 : PySem.W.keepIn K (.ref f9) = true)
    (a10 : PySem.W.nsIn K mainGlobals "_law_parts_of" = some (some (.ref f10)))
    (l10 : K.lookup f10 = some ⟨oc10, od10, .func (PySem.W.fnOf "_law_parts_of" "_law_parts_of" (defArgs s_f_parts_of_l) (defBody s_f_parts_of_l) (defScope s_f_parts_of_l) .none kV10 dc10 pm10 an10 cd10 ct10), sl10⟩)
    (c10 : PySem.W.codeIn K cd10 "_law_parts_of" = true)
    (k10 : PySem.W.keepIn K (.ref f10) = true)
    (a11 : PySem.W.nsIn K mainGlobals "_law_rebuilt" = some (some (.ref f11)))
    (l11 : K.lookup f11 = some ⟨oc11, od11, .func (PySem.W.fnOf "_law_rebuilt" "_law_rebuilt" (defArgs s_f_rebuilt_l) (defBody s_f_rebuilt_l) (defScope s_f_rebuilt_l) .none kV11 dc11 pm11 an11 cd11 ct11), sl11⟩)
    (c11 : PySem.W.codeIn K cd11 "_law_rebuilt" = true)
    (k11 : PySem.W.keepIn K (.ref f11) = true)
    (a12 : PySem.W.nsIn K mainGlobals "_law_spots" = some (some (.ref f12)))
    (l12 : K.lookup f12 = some ⟨oc12, od12, .func (PySem.W.fnOf "_law_spots" "_law_spots" (defArgs s_f_spots_l) (defBody s_f_spots_l) (defScope s_f_spots_l) .none kV12 dc12 pm12 an12 cd12 ct12), sl12⟩)
    (c12 : PySem.W.codeIn K cd12 "_law_spots" = true)
    (k12 : PySem.W.keepIn K (.ref f12) = true)
    (a13 : PySem.W.nsIn K mainGlobals "_law_holed" = some (some (.ref f13)))
    (l13 : K.lookup f13 = some ⟨oc13, od13, .func (PySem.W.fnOf "_law_holed" "_law_holed" (defArgs s_f_holed_l) (defBody s_f_holed_l) (defScope s_f_holed_l) .none kV13 dc13 pm13 an13 cd13 ct13), sl13⟩)
    (c13 : PySem.W.codeIn K cd13 "_law_holed" = true)
    (k13 : PySem.W.keepIn K (.ref f13) = true)
    (a14 : PySem.W.nsIn K mainGlobals "_law_ends" = some (some (.ref f14)))
    (l14 : K.lookup f14 = some ⟨oc14, od14, .func (PySem.W.fnOf "_law_ends" "_law_ends" (defArgs s_f_ends_l) (defBody s_f_ends_l) (defScope s_f_ends_l) .none kV14 dc14 pm14 an14 cd14 ct14), sl14⟩)
    (c14 : PySem.W.codeIn K cd14 "_law_ends" = true)
    (k14 : PySem.W.keepIn K (.ref f14) = true)
    (a15 : PySem.W.nsIn K mainGlobals "_law_loose" = some (some (.ref f15)))
    (l15 : K.lookup f15 = some ⟨oc15, od15, .func (PySem.W.fnOf "_law_loose" "_law_loose" (defArgs s_f_loose_l) (defBody s_f_loose_l) (defScope s_f_loose_l) .none kV15 dc15 pm15 an15 cd15 ct15), sl15⟩)
    (c15 : PySem.W.codeIn K cd15 "_law_loose" = true)
    (k15 : PySem.W.keepIn K (.ref f15) = true)
    (a16 : PySem.W.nsIn K mainGlobals "_law_chosen" = some (some (.ref f16)))
    (l16 : K.lookup f16 = some ⟨oc16, od16, .func (PySem.W.fnOf "_law_chosen" "_law_chosen" (defArgs s_f_chosen_l) (defBody s_f_chosen_l) (defScope s_f_chosen_l) .none kV16 dc16 pm16 an16 cd16 ct16), sl16⟩)
    (c16 : PySem.W.codeIn K cd16 "_law_chosen" = true)
    (k16 : PySem.W.keepIn K (.ref f16) = true)
    (a17 : PySem.W.nsIn K mainGlobals "_law_cut" = some (some (.ref f17)))
    (l17 : K.lookup f17 = some ⟨oc17, od17, .func (PySem.W.fnOf "_law_cut" "_law_cut" (defArgs s_f_cut_l) (defBody s_f_cut_l) (defScope s_f_cut_l) .none kV17 dc17 pm17 an17 cd17 ct17), sl17⟩)
    (c17 : PySem.W.codeIn K cd17 "_law_cut" = true)
    (k17 : PySem.W.keepIn K (.ref f17) = true)
    (a18 : PySem.W.nsIn K mainGlobals "_law_refusal" = some (some (.ref f18)))
    (l18 : K.lookup f18 = some ⟨oc18, od18, .func (PySem.W.fnOf "_law_refusal" "_law_refusal" (defArgs s_f_refusal_l) (defBody s_f_refusal_l) (defScope s_f_refusal_l) .none kV18 dc18 pm18 an18 cd18 ct18), sl18⟩)
    (c18 : PySem.W.codeIn K cd18 "_law_refusal" = true)
    (k18 : PySem.W.keepIn K (.ref f18) = true)
    (a19 : PySem.W.nsIn K mainGlobals "law" = some (some (.ref f19)))
    (l19 : K.lookup f19 = some ⟨oc19, od19, .func (PySem.W.fnOf "law" "law" (defArgs s_f_law) (defBody s_f_law) (defScope s_f_law) .none kV19 dc19 pm19 an19 cd19 ct19), sl19⟩)
    (c19 : PySem.W.codeIn K cd19 "law" = true)
    (k19 : PySem.W.keepIn K (.ref f19) = true)
    (ag_f_met_l : PySem.W.nsIn K mainGlobals "_law_met" = some (some (.ref g_f_met_l)))
    (lg_f_met_l : K.lookup g_f_met_l = some ⟨ocg_f_met_l, odg_f_met_l, .func (PySem.W.fnOf "_law_met" "_law_met" (defArgs s_f_met_l) (defBody s_f_met_l) (defScope s_f_met_l) .none kVg_f_met_l dcg_f_met_l pmg_f_met_l ang_f_met_l cdg_f_met_l ctg_f_met_l), slg_f_met_l⟩)
    (cg_f_met_l : PySem.W.codeIn K cdg_f_met_l "_law_met" = true)
    (kg_f_met_l : PySem.W.keepIn K (.ref g_f_met_l) = true)
    (xa_OutOfTerm : PySem.W.nsIn K mainGlobals "OutOfTerm" = some (some (.ref C_OutOfTerm)))
    (xl_OutOfTerm : K.lookup C_OutOfTerm = some (excClassObj nm_OutOfTerm q_OutOfTerm C_OutOfTerm N_OutOfTerm bs_OutOfTerm (bmOf "LookupError") true sn_OutOfTerm su_OutOfTerm ab_OutOfTerm col_OutOfTerm dd_OutOfTerm k0_OutOfTerm k1_OutOfTerm k2_OutOfTerm k3_OutOfTerm k5_OutOfTerm "LookupError.__new__"))
    (xs_OutOfTerm : PySem.W.findIn K (.ref C_OutOfTerm) "__setattr__" = some (some (.builtin "object.__setattr__")))
    (xe_OutOfTerm : PySem.W.subIn K (.ref C_OutOfTerm) (.type "BaseException") = some true)
    (xt_OutOfTerm : PySem.W.typeIn K (.ref C_OutOfTerm) = some (.type "type"))
    (xk_OutOfTerm : PySem.W.keepIn K (.ref C_OutOfTerm) = true)
    (xf_OutOfTerm : PySem.W.findIn K (.ref C_OutOfTerm) "place" = some none)
    (xi_OutOfTerm : PySem.W.findIn K (.ref C_OutOfTerm) "__init__" = some (some (.ref fI_OutOfTerm)))
    (xj_OutOfTerm : PySem.W.typeIn K (.ref fI_OutOfTerm) = some (.type "function"))
    (xm_OutOfTerm : K.lookup fI_OutOfTerm = some ⟨ocI_OutOfTerm, odI_OutOfTerm, .func (PySem.W.fnOf "__init__" ("OutOfTerm" ++ ".__init__") (defArgs si_OutOfTerm) (defBody si_OutOfTerm) (defScope si_OutOfTerm) .none kVI_OutOfTerm dcI_OutOfTerm pmI_OutOfTerm anI_OutOfTerm cdI_OutOfTerm ctI_OutOfTerm), slI_OutOfTerm⟩)
    (xn_OutOfTerm : PySem.W.codeIn K cdI_OutOfTerm ("OutOfTerm" ++ ".__init__") = true)
    (xo_OutOfTerm : PySem.W.keepIn K (.ref fI_OutOfTerm) = true)
    (xp_OutOfTerm : PySem.W.nsIn K mainGlobals "LookupError" = some none)
    (xq_OutOfTerm : PySem.W.findCls K (.type "LookupError") (.type "type") "__init__" = some (.val (.builtin "LookupError.__init__")))
    (xr1_OutOfTerm : PySem.W.findIn K (.ref C_OutOfTerm) "__getattribute__" = some (some (.builtin "BaseException.__getattribute__")))
    (xr2_OutOfTerm : PySem.W.findIn K (.ref C_OutOfTerm) "__getattr__" = some none)
    (xr3_OutOfTerm : PySem.W.hasDictIn K C_OutOfTerm = true)
    (xu_OutOfTerm : PySem.W.findIn K (.ref C_OutOfTerm) "__class__" = some (some (.builtin "object.__class__")))
    (xv_OutOfTerm : PySem.W.specialIn K (.builtin "object.__class__") "__get__" = some (some (.builtin "getset_descriptor.__get__")))
    (xw_OutOfTerm : PySem.W.takesIn K (.builtin "object.__class__") = some true)
    (xx_OutOfTerm : PySem.W.mroIn K C_OutOfTerm (.type "object") = some true)
    (xy_OutOfTerm : PySem.W.subIn K (.ref C_OutOfTerm) (.ref C_OutOfTerm) = some true)
    (xz_OutOfTerm : PySem.W.subIn K (.ref C_OutOfTerm) (.type "LookupError") = some true)
    (hcd : cd19 = .ref cT)
    (hlT : K.lookup cT = some ⟨.type "code", ddT, .fields vsT, slT⟩)
    (hvT : vsT[11]? = some (.ref PT))
    (hnT : K.lookup PT = none)
    (hhT : chkCode vsT cT PT = true)
    (z_LookupError : PySem.W.nsIn K mainGlobals "LookupError" = some none)
    (z_bool : PySem.W.nsIn K mainGlobals "bool" = some none)
    (z_enumerate : PySem.W.nsIn K mainGlobals "enumerate" = some none)
    (z_int : PySem.W.nsIn K mainGlobals "int" = some none)
    (z_isinstance : PySem.W.nsIn K mainGlobals "isinstance" = some none)
    (z_len : PySem.W.nsIn K mainGlobals "len" = some none)
    (z_list : PySem.W.nsIn K mainGlobals "list" = some none)
    (z_range : PySem.W.nsIn K mainGlobals "range" = some none)
    (z_repr : PySem.W.nsIn K mainGlobals "repr" = some none)
    (z_tuple : PySem.W.nsIn K mainGlobals "tuple" = some none)
    (z_zip : PySem.W.nsIn K mainGlobals "zip" = some none)
    (e_HOLE : PySem.W.nsIn K mainGlobals "HOLE" = some (some (.ref a_HOLE)))
    (l_HOLE : K.lookup a_HOLE = some ⟨.type "tuple", d_HOLE, .seq its_HOLE n_HOLE, sl_HOLE⟩)
    (q_HOLE : flats its_HOLE.toList = some ps_HOLE)
    (h_HOLE : its_HOLE.size ≤ 1000)
    (x_HOLE : PyData.tuple (ps_HOLE.map (·.1)) = g_HOLE) :
    ∃ (fd : FuncData) (c P : Addr) (o : Obj) (e : Value) (dd : Option Addr) (vs : Array Value) (sl : Array (Option Value)), K.lookup fa = some o ∧ o.data = .func fd ∧ fd.code = .ref c ∧ K.lookup c = some ⟨e, dd, .fields vs, sl⟩ ∧ vs[11]? = some (.ref P) ∧ K.lookup P = none ∧ PySem.W.codeHdIn K c P = true ∧ (∀ (s : Shared) (u : Value), BindsTo s fd ⟨[u], []⟩ [("_law_script", u)]) ∧ ∀ base : Heap, K.In base → base.Ns mainGlobals mg → TabB base mg c P → FnX l.prog w K mg base k fa fd ["_law_script"] (spX K 1 (F P k .f_law)) := by
  have e := (PySem.W.mg_of X G a19).symm.trans hfa
  obtain rfl : f19 = fa := by injection e with e; injection e
  have Fg_f_met_l := fun_mk (st := s_f_met_l) lg_f_met_l cg_f_met_l kg_f_met_l
  have Bg_f_met_l := Fg_f_met_l.binds (ps := ["_law_call"]) fun _ _ _ _ _ _ us hl => match us, hl with | [_], _ => rfl
  have FI_OutOfTerm := fun_mk (st := si_OutOfTerm) xm_OutOfTerm xn_OutOfTerm xo_OutOfTerm
  have BI_OutOfTerm := FI_OutOfTerm.binds (ps := ["self", "place"]) fun _ _ _ _ _ _ us hl => match us, hl with | [_, _], _ => rfl
  have xfc_OutOfTerm : XfC K C_OutOfTerm := ⟨xr1_OutOfTerm, xr2_OutOfTerm, xe_OutOfTerm, xr3_OutOfTerm⟩
  have F0 := fun_mk (st := s_f_parts_of_term) l0 c0 k0
  have B0 := F0.binds (ps := ["term"]) fun _ _ _ _ _ _ us hl => match us, hl with | [_], _ => rfl
  have F1 := fun_mk (st := s_f_with_parts) l1 c1 k1
  have B1 := F1.binds (ps := ["term", "parts"]) fun _ _ _ _ _ _ us hl => match us, hl with | [_, _], _ => rfl
  have F2 := fun_mk (st := s_f_part_at) l2 c2 k2
  have B2 := F2.binds (ps := ["term", "place"]) fun _ _ _ _ _ _ us hl => match us, hl with | [_, _], _ => rfl
  have F3 := fun_mk (st := s_f_with_part) l3 c3 k3
  have B3 := F3.binds (ps := ["term", "place", "part"]) fun _ _ _ _ _ _ us hl => match us, hl with | [_, _, _], _ => rfl
  have F4 := fun_mk (st := s_f_is_within_place) l4 c4 k4
  have B4 := F4.binds (ps := ["place", "other"]) fun _ _ _ _ _ _ us hl => match us, hl with | [_, _], _ => rfl
  have F5 := fun_mk (st := s_f_need_apart_places) l5 c5 k5
  have B5 := F5.binds (ps := ["term", "chosen"]) fun _ _ _ _ _ _ us hl => match us, hl with | [_, _], _ => rfl
  have F6 := fun_mk (st := s_f_cut) l6 c6 k6
  have B6 : ∀ us rest : List Value, us.length = (["term"] : List Str).length → bindArgs (PySem.W.fnOf "cut" "cut" (defArgs s_f_cut) (defBody s_f_cut) (defScope s_f_cut) .none kV6 dc6 pm6 an6 cd6 ct6) ⟨us ++ rest, []⟩ = (newTuple rest >>= fun t => pure ((["term"] : List Str).zip us ++ [(("chosen" : Str), t)])) := fun us rest hl => match us, rest, hl with | [_], [], _ => rfl | [_], _ :: _, _ => rfl
  have F7 := fun_mk (st := s_f_begin_l) l7 c7 k7
  have B7 := F7.binds (ps := ["_law_script"]) fun _ _ _ _ _ _ us hl => match us, hl with | [_], _ => rfl
  have F8 := fun_mk (st := s_f_draw_l) l8 c8 k8
  have B8 := F8.binds (ps := ["_law_tape", "_law_many"]) fun _ _ _ _ _ _ us hl => match us, hl with | [_, _], _ => rfl
  have F9 := fun_mk (st := s_f_pick_l) l9 c9 k9
  have B9 := F9.binds (ps := ["_law_tape", "_law_items"]) fun _ _ _ _ _ _ us hl => match us, hl with | [_, _], _ => rfl
  have F10 := fun_mk (st := s_f_parts_of_l) l10 c10 k10
  have B10 := F10.binds (ps := ["_law_term"]) fun _ _ _ _ _ _ us hl => match us, hl with | [_], _ => rfl
  have F11 := fun_mk (st := s_f_rebuilt_l) l11 c11 k11
  have B11 := F11.binds (ps := ["_law_term", "_law_parts"]) fun _ _ _ _ _ _ us hl => match us, hl with | [_, _], _ => rfl
  have F12 := fun_mk (st := s_f_spots_l) l12 c12 k12
  have B12 := F12.binds (ps := ["_law_term"]) fun _ _ _ _ _ _ us hl => match us, hl with | [_], _ => rfl
  have F13 := fun_mk (st := s_f_holed_l) l13 c13 k13
  have B13 := F13.binds (ps := ["_law_term", "_law_spots_here"]) fun _ _ _ _ _ _ us hl => match us, hl with | [_, _], _ => rfl
  have F14 := fun_mk (st := s_f_ends_l) l14 c14 k14
  have B14 := F14.binds (ps := ["_law_spot", "_law_spots_here"]) fun _ _ _ _ _ _ us hl => match us, hl with | [_, _], _ => rfl
  have F15 := fun_mk (st := s_f_loose_l) l15 c15 k15
  have B15 := F15.binds (ps := ["_law_tape", "_law_names", "_law_deep"]) fun _ _ _ _ _ _ us hl => match us, hl with | [_, _, _], _ => rfl
  have F16 := fun_mk (st := s_f_chosen_l) l16 c16 k16
  have B16 := F16.binds (ps := ["_law_tape", "_law_term"]) fun _ _ _ _ _ _ us hl => match us, hl with | [_, _], _ => rfl
  have F17 := fun_mk (st := s_f_cut_l) l17 c17 k17
  have B17 := F17.binds (ps := ["_law_term", "_law_chosen_here"]) fun _ _ _ _ _ _ us hl => match us, hl with | [_, _], _ => rfl
  have F18 := fun_mk (st := s_f_refusal_l) l18 c18 k18
  have B18 := F18.binds (ps := ["_law_term", "_law_chosen_here"]) fun _ _ _ _ _ _ us hl => match us, hl with | [_, _], _ => rfl
  have F19 := fun_mk (st := s_f_law) l19 c19 k19
  have B19 := F19.binds (ps := ["_law_script"]) fun _ _ _ _ _ _ us hl => match us, hl with | [_], _ => rfl
  have T : Tops K mg w (fun i => match i with | .f_parts_of_term => f0 | .f_with_parts => f1 | .f_part_at => f2 | .f_with_part => f3 | .f_is_within_place => f4 | .f_need_apart_places => f5 | .f_cut => f6 | .f_begin_l => f7 | .f_draw_l => f8 | .f_pick_l => f9 | .f_parts_of_l => f10 | .f_rebuilt_l => f11 | .f_spots_l => f12 | .f_holed_l => f13 | .f_ends_l => f14 | .f_loose_l => f15 | .f_chosen_l => f16 | .f_cut_l => f17 | .f_refusal_l => f18 | .f_law => f19) (fun i => match i with | .f_parts_of_term => PySem.W.fnOf "parts_of_term" "parts_of_term" (defArgs s_f_parts_of_term) (defBody s_f_parts_of_term) (defScope s_f_parts_of_term) .none kV0 dc0 pm0 an0 cd0 ct0 | .f_with_parts => PySem.W.fnOf "with_parts" "with_parts" (defArgs s_f_with_parts) (defBody s_f_with_parts) (defScope s_f_with_parts) .none kV1 dc1 pm1 an1 cd1 ct1 | .f_part_at => PySem.W.fnOf "part_at" "part_at" (defArgs s_f_part_at) (defBody s_f_part_at) (defScope s_f_part_at) .none kV2 dc2 pm2 an2 cd2 ct2 | .f_with_part => PySem.W.fnOf "with_part" "with_part" (defArgs s_f_with_part) (defBody s_f_with_part) (defScope s_f_with_part) .none kV3 dc3 pm3 an3 cd3 ct3 | .f_is_within_place => PySem.W.fnOf "is_within_place" "is_within_place" (defArgs s_f_is_within_place) (defBody s_f_is_within_place) (defScope s_f_is_within_place) .none kV4 dc4 pm4 an4 cd4 ct4 | .f_need_apart_places => PySem.W.fnOf "need_apart_places" "need_apart_places" (defArgs s_f_need_apart_places) (defBody s_f_need_apart_places) (defScope s_f_need_apart_places) .none kV5 dc5 pm5 an5 cd5 ct5 | .f_cut => PySem.W.fnOf "cut" "cut" (defArgs s_f_cut) (defBody s_f_cut) (defScope s_f_cut) .none kV6 dc6 pm6 an6 cd6 ct6 | .f_begin_l => PySem.W.fnOf "_law_begin" "_law_begin" (defArgs s_f_begin_l) (defBody s_f_begin_l) (defScope s_f_begin_l) .none kV7 dc7 pm7 an7 cd7 ct7 | .f_draw_l => PySem.W.fnOf "_law_draw" "_law_draw" (defArgs s_f_draw_l) (defBody s_f_draw_l) (defScope s_f_draw_l) .none kV8 dc8 pm8 an8 cd8 ct8 | .f_pick_l => PySem.W.fnOf "_law_pick" "_law_pick" (defArgs s_f_pick_l) (defBody s_f_pick_l) (defScope s_f_pick_l) .none kV9 dc9 pm9 an9 cd9 ct9 | .f_parts_of_l => PySem.W.fnOf "_law_parts_of" "_law_parts_of" (defArgs s_f_parts_of_l) (defBody s_f_parts_of_l) (defScope s_f_parts_of_l) .none kV10 dc10 pm10 an10 cd10 ct10 | .f_rebuilt_l => PySem.W.fnOf "_law_rebuilt" "_law_rebuilt" (defArgs s_f_rebuilt_l) (defBody s_f_rebuilt_l) (defScope s_f_rebuilt_l) .none kV11 dc11 pm11 an11 cd11 ct11 | .f_spots_l => PySem.W.fnOf "_law_spots" "_law_spots" (defArgs s_f_spots_l) (defBody s_f_spots_l) (defScope s_f_spots_l) .none kV12 dc12 pm12 an12 cd12 ct12 | .f_holed_l => PySem.W.fnOf "_law_holed" "_law_holed" (defArgs s_f_holed_l) (defBody s_f_holed_l) (defScope s_f_holed_l) .none kV13 dc13 pm13 an13 cd13 ct13 | .f_ends_l => PySem.W.fnOf "_law_ends" "_law_ends" (defArgs s_f_ends_l) (defBody s_f_ends_l) (defScope s_f_ends_l) .none kV14 dc14 pm14 an14 cd14 ct14 | .f_loose_l => PySem.W.fnOf "_law_loose" "_law_loose" (defArgs s_f_loose_l) (defBody s_f_loose_l) (defScope s_f_loose_l) .none kV15 dc15 pm15 an15 cd15 ct15 | .f_chosen_l => PySem.W.fnOf "_law_chosen" "_law_chosen" (defArgs s_f_chosen_l) (defBody s_f_chosen_l) (defScope s_f_chosen_l) .none kV16 dc16 pm16 an16 cd16 ct16 | .f_cut_l => PySem.W.fnOf "_law_cut" "_law_cut" (defArgs s_f_cut_l) (defBody s_f_cut_l) (defScope s_f_cut_l) .none kV17 dc17 pm17 an17 cd17 ct17 | .f_refusal_l => PySem.W.fnOf "_law_refusal" "_law_refusal" (defArgs s_f_refusal_l) (defBody s_f_refusal_l) (defScope s_f_refusal_l) .none kV18 dc18 pm18 an18 cd18 ct18 | .f_law => PySem.W.fnOf "law" "law" (defArgs s_f_law) (defBody s_f_law) (defScope s_f_law) .none kV19 dc19 pm19 an19 cd19 ct19) _ _ := ⟨Fg_f_met_l, PySem.W.mg_of X G ag_f_met_l, Bg_f_met_l, ⟨C_OutOfTerm, fI_OutOfTerm, _, ⟨⟨⟨nm_OutOfTerm, q_OutOfTerm, N_OutOfTerm, bs_OutOfTerm, sn_OutOfTerm, su_OutOfTerm, ab_OutOfTerm, col_OutOfTerm, dd_OutOfTerm, k0_OutOfTerm, k1_OutOfTerm, k2_OutOfTerm, k3_OutOfTerm, k5_OutOfTerm, xl_OutOfTerm⟩, xs_OutOfTerm, xe_OutOfTerm, xt_OutOfTerm, xk_OutOfTerm, xf_OutOfTerm⟩, clsOf_of xa_OutOfTerm, PySem.W.mg_of X G xa_OutOfTerm, xi_OutOfTerm, xj_OutOfTerm, FI_OutOfTerm, BI_OutOfTerm, PySem.W.mg_none_of X G xp_OutOfTerm, xq_OutOfTerm, xfc_OutOfTerm, ⟨xfc_OutOfTerm.ga, xfc_OutOfTerm.gg, xe_OutOfTerm, xfc_OutOfTerm.hdC, xu_OutOfTerm, xv_OutOfTerm, xw_OutOfTerm, xx_OutOfTerm⟩, PySem.W.exm_ref xe_OutOfTerm xr3_OutOfTerm xt_OutOfTerm xy_OutOfTerm⟩, kit_of (by decide +kernel) xz_OutOfTerm⟩, k0, F0, PySem.W.mg_of X G a0, B0, k1, F1, PySem.W.mg_of X G a1, B1, k2, F2, PySem.W.mg_of X G a2, B2, k3, F3, PySem.W.mg_of X G a3, B3, k4, F4, PySem.W.mg_of X G a4, B4, k5, F5, PySem.W.mg_of X G a5, B5, k6, F6, PySem.W.mg_of X G a6, B6, k7, F7, PySem.W.mg_of X G a7, B7, k8, F8, PySem.W.mg_of X G a8, B8, k9, F9, PySem.W.mg_of X G a9, B9, k10, F10, PySem.W.mg_of X G a10, B10, k11, F11, PySem.W.mg_of X G a11, B11, k12, F12, PySem.W.mg_of X G a12, B12, k13, F13, PySem.W.mg_of X G a13, B13, k14, F14, PySem.W.mg_of X G a14, B14, k15, F15, PySem.W.mg_of X G a15, B15, k16, F16, PySem.W.mg_of X G a16, B16, k17, F17, PySem.W.mg_of X G a17, B17, k18, F18, PySem.W.mg_of X G a18, B18, k19, F19, PySem.W.mg_of X G a19, B19, PySem.W.mg_none_of X G z_LookupError, PySem.W.mg_none_of X G z_bool, PySem.W.mg_none_of X G z_enumerate, PySem.W.mg_none_of X G z_int, PySem.W.mg_none_of X G z_isinstance, PySem.W.mg_none_of X G z_len, PySem.W.mg_none_of X G z_list, PySem.W.mg_none_of X G z_range, PySem.W.mg_none_of X G z_repr, PySem.W.mg_none_of X G z_tuple, PySem.W.mg_none_of X G z_zip, (glob_tup X G e_HOLE l_HOLE rfl rfl q_HOLE h_HOLE x_HOLE)⟩
  exact ⟨_, cT, PT, _, _, ddT, vsT, slT, l19, rfl, hcd, hlT, hvT, hnT, codeHd_mk hlT hhT, fun s v => .of_eq rfl, fun base _ _ TB => (all_ok T TB hcd k).f_law⟩
end K79

open PySem PySem.W PyProof.Rows
set_option maxRecDepth 100000 in
set_option maxHeartbeats 0 in
theorem PySem.Challenge.cw_leastneeds_k79_cuts_of_terms_holds : PySem.Challenge.rw_leastneeds_k79_cuts_of_terms.Holds := by
  w_on; o_law; k_head; (case hw => w_witness2)
  k_fill
  refine DL.walkX_dataT (k := K79.TOP) (x := "_law_script") (qn := "law.<locals>.<lambda>") (g := fun P => K79.F P K79.TOP .f_law) (l := PySem.Challenge.rw_leastneeds_k79_cuts_of_terms) rfl rfl ⟨rfl, by decide, by decide⟩ (by decide +kernel) (fun w h Y => PySem.W.km_in_of Y) ?F K79.holds
  case F =>
    intro w mg fa h KX G hmg
    refine' K79.all_mk KX G hmg ?a0 ?l0 ?c0 ?k0 ?a1 ?l1 ?c1 ?k1 ?a2 ?l2 ?c2 ?k2 ?a3 ?l3 ?c3 ?k3 ?a4 ?l4 ?c4 ?k4 ?a5 ?l5 ?c5 ?k5 ?a6 ?l6 ?c6 ?k6 ?a7 ?l7 ?c7 ?k7 ?a8 ?l8 ?c8 ?k8 ?a9 ?l9 ?c9 ?k9 ?a10 ?l10 ?c10 ?k10 ?a11 ?l11 ?c11 ?k11 ?a12 ?l12 ?c12 ?k12 ?a13 ?l13 ?c13 ?k13 ?a14 ?l14 ?c14 ?k14 ?a15 ?l15 ?c15 ?k15 ?a16 ?l16 ?c16 ?k16 ?a17 ?l17 ?c17 ?k17 ?a18 ?l18 ?c18 ?k18 ?a19 ?l19 ?c19 ?k19 ?ag_f_met_l ?lg_f_met_l ?cg_f_met_l ?kg_f_met_l ?xa_OutOfTerm ?xl_OutOfTerm ?xs_OutOfTerm ?xe_OutOfTerm ?xt_OutOfTerm ?xk_OutOfTerm ?xf_OutOfTerm ?xi_OutOfTerm ?xj_OutOfTerm ?xm_OutOfTerm ?xn_OutOfTerm ?xo_OutOfTerm ?xp_OutOfTerm ?xq_OutOfTerm ?xr1_OutOfTerm ?xr2_OutOfTerm ?xr3_OutOfTerm ?xu_OutOfTerm ?xv_OutOfTerm ?xw_OutOfTerm ?xx_OutOfTerm ?xy_OutOfTerm ?xz_OutOfTerm ?hcd ?hlT ?hvT ?hnT ?hhT ?z_LookupError ?z_bool ?z_enumerate ?z_int ?z_isinstance ?z_len ?z_list ?z_range ?z_repr ?z_tuple ?z_zip ?e_HOLE ?l_HOLE ?q_HOLE ?h_HOLE ?x_HOLE
    (case a0 => k_is)
    (case l0 => k_is)
    (case c0 => k_is)
    (case k0 => k_is)
    (case a1 => k_is)
    (case l1 => k_is)
    (case c1 => k_is)
    (case k1 => k_is)
    (case a2 => k_is)
    (case l2 => k_is)
    (case c2 => k_is)
    (case k2 => k_is)
    (case a3 => k_is)
    (case l3 => k_is)
    (case c3 => k_is)
    (case k3 => k_is)
    (case a4 => k_is)
    (case l4 => k_is)
    (case c4 => k_is)
    (case k4 => k_is)
    (case a5 => k_is)
    (case l5 => k_is)
    (case c5 => k_is)
    (case k5 => k_is)
    (case a6 => k_is)
    (case l6 => k_is)
    (case c6 => k_is)
    (case k6 => k_is)
    (case a7 => k_is)
    (case l7 => k_is)
    (case c7 => k_is)
    (case k7 => k_is)
    (case a8 => k_is)
    (case l8 => k_is)
    (case c8 => k_is)
    (case k8 => k_is)
    (case a9 => k_is)
    (case l9 => k_is)
    (case c9 => k_is)
    (case k9 => k_is)
    (case a10 => k_is)
    (case l10 => k_is)
    (case c10 => k_is)
    (case k10 => k_is)
    (case a11 => k_is)
    (case l11 => k_is)
    (case c11 => k_is)
    (case k11 => k_is)
    (case a12 => k_is)
    (case l12 => k_is)
    (case c12 => k_is)
    (case k12 => k_is)
    (case a13 => k_is)
    (case l13 => k_is)
    (case c13 => k_is)
    (case k13 => k_is)
    (case a14 => k_is)
    (case l14 => k_is)
    (case c14 => k_is)
    (case k14 => k_is)
    (case a15 => k_is)
    (case l15 => k_is)
    (case c15 => k_is)
    (case k15 => k_is)
    (case a16 => k_is)
    (case l16 => k_is)
    (case c16 => k_is)
    (case k16 => k_is)
    (case a17 => k_is)
    (case l17 => k_is)
    (case c17 => k_is)
    (case k17 => k_is)
    (case a18 => k_is)
    (case l18 => k_is)
    (case c18 => k_is)
    (case k18 => k_is)
    (case a19 => k_is)
    (case l19 => k_is)
    (case c19 => k_is)
    (case k19 => k_is)
    (case ag_f_met_l => k_is)
    (case lg_f_met_l => k_is)
    (case cg_f_met_l => k_is)
    (case kg_f_met_l => k_is)
    (case xa_OutOfTerm => k_is)
    (case xl_OutOfTerm => k_is)
    (case xs_OutOfTerm => k_is)
    (case xe_OutOfTerm => k_is)
    (case xt_OutOfTerm => k_is)
    (case xk_OutOfTerm => k_is)
    (case xf_OutOfTerm => k_is)
    (case xi_OutOfTerm => k_is)
    (case xj_OutOfTerm => k_is)
    (case xm_OutOfTerm => k_is)
    (case xn_OutOfTerm => k_is)
    (case xo_OutOfTerm => k_is)
    (case xp_OutOfTerm => k_is)
    (case xq_OutOfTerm => k_is)
    (case xr1_OutOfTerm => k_is)
    (case xr2_OutOfTerm => k_is)
    (case xr3_OutOfTerm => k_is)
    (case xu_OutOfTerm => k_is)
    (case xv_OutOfTerm => k_is)
    (case xw_OutOfTerm => k_is)
    (case xx_OutOfTerm => k_is)
    (case xy_OutOfTerm => k_is)
    (case xz_OutOfTerm => k_is)
    (case hcd => rfl)
    (case hlT => k_is)
    (case hvT => rfl)
    (case hnT => rfl)
    (case hhT => rfl)
    (case z_LookupError => k_is)
    (case z_bool => k_is)
    (case z_enumerate => k_is)
    (case z_int => k_is)
    (case z_isinstance => k_is)
    (case z_len => k_is)
    (case z_list => k_is)
    (case z_range => k_is)
    (case z_repr => k_is)
    (case z_tuple => k_is)
    (case z_zip => k_is)
    (case e_HOLE => k_is)
    (case l_HOLE => k_is)
    (case q_HOLE => rfl)
    (case h_HOLE => decide)
    (case x_HOLE => rfl)
#print axioms PySem.Challenge.cw_leastneeds_k79_cuts_of_terms_holds
