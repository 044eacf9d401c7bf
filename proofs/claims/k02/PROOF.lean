import PyProof.Rows.All
import Wide.All
import OpenK.AllK
import Wide.FinOn
import HandS.ForMost
import HandS.Exc
import HandS.WordsExc
import HandS.Lambda
import HandS.ExcInit
import HandS.ExcIs
import HandS.TupAny
import HandS.Flow
import HandS.Style
import HandS.SetKeys
import HandS.More
import HandS.TryOnly
import HandS.Zip
import HandS.IsInst
import HandS.FStr
import HandS.ExcField
import HandS.Text
import HandS.Deep
import HandS.Wide
import HandS.DictComp
import HandS.Star
import HandS.ClsMeth
import PyProof.RulesMatch
import KE.GoesEnum
import KE.GoesZip
import KE.GoesMore
import KE.KDictZip
import HandS.Conv
import HandS.Rev
import KE.KDictSum
import KE.KDictList
import KE.KExcInit
import HandS.EndOwn
import HandS.Iter
import HandS.Defaults
import HandS.Property
import HandS.OwnEq
import PyProof.InstNe
import KE.DataMinMax
import PyProof.P3Eq
import HandS.MethStar
import HandS.TryMany
import HandS.Strs
import HandS.GenList
import HandS.SetTxt0
import HandS.Set
import HandS.TupMul
import KE.OsRunLaw
import PySem.Challenge.RW_leastneeds_k02_terms_and_places
set_option Elab.async false
set_option linter.all false
set_option maxRecDepth 100000
namespace DL
open PySem L2
/-- an exception: its class by its name in the module, its fields (where it has an own dict) -/
structure Exn where
  nm : Str
  fs : Option (List (Str × PyData))
/-- any other thing; a caught exception with the place of its dict -/
structure Xv where
  v : V
  o : Option (Addr × Exn)
/-- a value: plain data, a mutable object of the store, a list that is only read (the script), any other thing -/
inductive D where
  | p (x : PyData)
  | ob (i : Nat)
  | ro (xs : List PyData)
  | ext (v : Xv)
/-- a mutable object -/
inductive MO where
  | dead
  | lst (xs : List PyData)
  | dic (kvs : List (Key × PyData))
  | tab (P : Addr) (q : Str)
  | ins (nm : Str) (fs : List (Str × PyData))
abbrev Sto := List MO
/-- the ghost: where the objects of the store stand; what is frozen -/
structure Gh where
  ι : List Addr
  φ : List (Addr × HO)
def Holds (φ : List (Addr × HO)) (H : Hp) : Prop := ∀ p ∈ φ, H p.1 = some p.2
/-- a frozen list, a frozen dict -/
def FL (φ : List (Addr × HO)) (a : Addr) (vs : List V) : Prop := ∀ H : Hp, Holds φ H → H a = some (.lst vs)
def RL (K : PySem.W.Frag) (φ : List (Addr × HO)) (a : Addr) (vs : List V) : Prop := ∀ H : Hp, Holds φ H → SqL K H a vs
def FD (φ : List (Addr × HO)) (a : Addr) (ws : List (Key × V)) : Prop := ∃ o : Obj, ∀ H : Hp, Holds φ H → H a = some (.frz o (.dK ws))
theorem FL.mono {φ φ' : List (Addr × HO)} {a : Addr} {vs : List V} (h : FL φ a vs) (s : ∀ p ∈ φ, p ∈ φ') : FL φ' a vs := fun H q => h H fun p hp => q p (s p hp)
theorem RL.mono {K : PySem.W.Frag} {φ φ' : List (Addr × HO)} {a : Addr} {vs : List V} (h : RL K φ a vs) (s : ∀ p ∈ φ, p ∈ φ') : RL K φ' a vs := fun H q => h H fun p hp => q p (s p hp)
theorem FD.mono {φ φ' : List (Addr × HO)} {a : Addr} {vs : List (Key × V)} (h : FD φ a vs) (s : ∀ p ∈ φ, p ∈ φ') : FD φ' a vs := let ⟨o, h⟩ := h; ⟨o, fun H q => h H fun p hp => q p (s p hp)⟩
def clsOf (K : PySem.W.Frag) (n : Str) : Value := ((PySem.W.nsIn K mainGlobals n).getD none).getD .none
/-- no int of this size is ever shown -/
def hugeI : Int := 10 ^ 4400
def insF (fs : List (Str × PyData)) : List (PyData × PyData) := fs.map fun p => (.str p.1, p.2)
def insD (nm : Str) (fs : List (Str × PyData)) : PyData := .dict ((.tuple [.str nm, .int hugeI], .none) :: insF fs)
/-- no built-in type of data -/
def NotT (K : PySem.W.Frag) (C : Addr) : Prop := ∀ T ∈ ["str", "tuple", "int", "bool", "list", "dict"], PySem.W.kitOne K (.ref C) (.type T) = some false
/-- what is known of a plain class -/
structure PlC (K : PySem.W.Frag) (C : Addr) : Prop where
  cl : Cls K C
  ha : PySem.W.findIn K (.ref C) "__class__" = some (some (.builtin "object.__class__"))
  hn : PySem.W.specialIn K (.builtin "object.__class__") "__get__" = some (some (.builtin "getset_descriptor.__get__"))
  ht : PySem.W.takesIn K (.builtin "object.__class__") = some true
  hm : PySem.W.mroIn K C (.type "object") = some true
  no : NotT K C
/-- what is known of an exception's class -/
structure ExC (K : PySem.W.Frag) (C : Addr) : Prop where
  ex : ExcC K C
  no : NotT K C
/-- a frozen instance at a -/
inductive InsAt (K : PySem.W.Frag) (φ : List (Addr × HO)) (a C : Addr) : List (Str × V) → Prop
  | pl {dx : Addr} {ws : List (Str × V)} : (a, HO.ins C dx ws) ∈ φ → PlC K C → (∀ p ∈ ws, NoAttr K C p.1) → InsAt K φ a C ws
  | ex {dx : Addr} {ws : List (Str × V)} : (a, exo a C (some dx)) ∈ φ → (dx, exd dx ws) ∈ φ → ExC K C → (∀ p ∈ ws, NoAttr K C p.1) → InsAt K φ a C ws
  | ex0 : (a, exo a C none) ∈ φ → ExC K C → InsAt K φ a C []
theorem InsAt.mono {K : PySem.W.Frag} {φ φ' : List (Addr × HO)} {a C : Addr} {ws : List (Str × V)} (h : InsAt K φ a C ws) (s : ∀ p ∈ φ, p ∈ φ') : InsAt K φ' a C ws := by
  cases h with
  | pl h c n => exact .pl (s _ h) c n
  | ex h1 h2 c n => exact .ex (s _ h1) (s _ h2) c n
  | ex0 h c => exact .ex0 (s _ h) c
def keyPy : Key → PyData
  | .inl i => .int i
  | .inr x => .str x
mutual
/-- plain data at a value -/
inductive Dn (K : PySem.W.Frag) (φ : List (Addr × HO)) (H : Hp) : PyData → V → Prop
  | non : Dn K φ H .none .non
  | bl (b : Bool) : Dn K φ H (.bool b) (.bl b)
  | int (i : Int) : Dn K φ H (.int i) (.int i)
  | str (x : Str) : Dn K φ H (.str x) (.str x)
  | lst {a : Addr} {vs : List V} {ds : List PyData} : FL φ a vs → DnAll K φ H ds vs → Dn K φ H (.list ds) (.ref a)
  | tup {a : Addr} {vs : List V} {ds : List PyData} : SqT K H a vs → DnAll K φ H ds vs → Dn K φ H (.tuple ds) (.ref a)
  | dic {a : Addr} {ws : List (Key × V)} {kvs : List (PyData × PyData)} : FD φ a ws → kvs.map (·.1) = ws.map (fun p => keyPy p.1) → DnAll K φ H (kvs.map (·.2)) (ws.map (·.2)) → Dn K φ H (.dict kvs) (.ref a)
  | ins {a C : Addr} {nm : Str} {ws : List (Str × V)} {kvs : List (PyData × PyData)} : InsAt K φ a C ws → clsOf K nm = .ref C → kvs.map (·.1) = ws.map (fun p => PyData.str p.1) → DnAll K φ H (kvs.map (·.2)) (ws.map (·.2)) → Dn K φ H (.dict ((.tuple [.str nm, .int hugeI], .none) :: kvs)) (.ref a)
inductive DnAll (K : PySem.W.Frag) (φ : List (Addr × HO)) (H : Hp) : List PyData → List V → Prop
  | nil : DnAll K φ H [] []
  | cons {d : PyData} {ds : List PyData} {v : V} {vs : List V} : Dn K φ H d v → DnAll K φ H ds vs → DnAll K φ H (d :: ds) (v :: vs)
end
def ExO (K : PySem.W.Frag) (φ : List (Addr × HO)) (H : Hp) (dd : Addr) (x : Exn) : Prop := ∃ fs ws, x.fs = some fs ∧ (dd, HO.xd ws) ∈ φ ∧ fs.map (·.1) = ws.map (·.1) ∧ DnAll K φ H (fs.map (·.2)) (ws.map (·.2))
def Den (K : PySem.W.Frag) (H : Hp) (G : Gh) : D → V → Prop
  | .p x, v => Dn K G.φ H x v
  | .ob i, v => ∃ a, v = .ref a ∧ G.ι[i]? = some a
  | .ro xs, v => ∃ a vs, v = .ref a ∧ RL K G.φ a vs ∧ DnAll K G.φ H xs vs
  | .ext u, v => v = u.v ∧ ∀ p, u.o = some p → ExO K G.φ H p.1 p.2
inductive DenL (K : PySem.W.Frag) (H : Hp) (G : Gh) : List D → List V → Prop
  | nil : DenL K H G [] []
  | cons {d : D} {ds : List D} {v : V} {vs : List V} : Den K H G d v → DenL K H G ds vs → DenL K H G (d :: ds) (v :: vs)
theorem DnAll.length {K : PySem.W.Frag} {φ : List (Addr × HO)} {H : Hp} : ∀ {ds : List PyData} {vs : List V}, DnAll K φ H ds vs → ds.length = vs.length
  | _, _, .nil => rfl
  | _, _, .cons _ t => by rw [List.length_cons, List.length_cons, t.length]
theorem DenL.length {K : PySem.W.Frag} {G : Gh} {H : Hp} : ∀ {ds : List D} {vs : List V}, DenL K H G ds vs → ds.length = vs.length
  | _, _, .nil => rfl
  | _, _, .cons _ t => by rw [List.length_cons, List.length_cons, t.length]
theorem DnAll.get {K : PySem.W.Frag} {φ : List (Addr × HO)} {H : Hp} : ∀ {ds : List PyData} {vs : List V} {i : Nat} {d : PyData}, DnAll K φ H ds vs → ds[i]? = some d → ∃ v, vs[i]? = some v ∧ Dn K φ H d v
  | _, _, _, _, .nil, e => by simp at e
  | _, _, 0, _, .cons r _, e => by simp at e; subst e; exact ⟨_, rfl, r⟩
  | _, _, i + 1, d, .cons _ t, e => by
    obtain ⟨v, h1, h2⟩ := DnAll.get (i := i) (d := d) t (by simpa using e)
    exact ⟨v, by simpa using h1, h2⟩
theorem DnAll.getV {K : PySem.W.Frag} {φ : List (Addr × HO)} {H : Hp} : ∀ {ds : List PyData} {vs : List V} {i : Nat} {v : V}, DnAll K φ H ds vs → vs[i]? = some v → ∃ d, ds[i]? = some d ∧ Dn K φ H d v
  | _, _, _, _, .nil, e => by simp at e
  | _, _, 0, _, .cons r _, e => by simp at e; subst e; exact ⟨_, rfl, r⟩
  | _, _, i + 1, d, .cons _ t, e => by
    obtain ⟨v, h1, h2⟩ := DnAll.getV (i := i) (v := d) t (by simpa using e)
    exact ⟨v, by simpa using h1, h2⟩
theorem DnAll.append {K : PySem.W.Frag} {φ : List (Addr × HO)} {H : Hp} : ∀ {ds es : List PyData} {vs us : List V}, DnAll K φ H ds vs → DnAll K φ H es us → DnAll K φ H (ds ++ es) (vs ++ us)
  | _, _, _, _, .nil, s => s
  | _, _, _, _, .cons r t, s => .cons r (t.append s)
theorem DnAll.set {K : PySem.W.Frag} {φ : List (Addr × HO)} {H : Hp} {d : PyData} {v : V} (h : Dn K φ H d v) : ∀ {ds : List PyData} {vs : List V} (i : Nat), DnAll K φ H ds vs → DnAll K φ H (ds.set i d) (vs.set i v)
  | _, _, _, .nil => .nil
  | _, _, 0, .cons _ t => .cons h t
  | _, _, i + 1, .cons r t => .cons r (DnAll.set h i t)
theorem DnAll.take {K : PySem.W.Frag} {φ : List (Addr × HO)} {H : Hp} : ∀ {ds : List PyData} {vs : List V} (n : Nat), DnAll K φ H ds vs → DnAll K φ H (ds.take n) (vs.take n)
  | _, _, 0, _ => .nil
  | _, _, _ + 1, .nil => .nil
  | _, _, n + 1, .cons r t => .cons r (DnAll.take n t)
theorem DnAll.drop {K : PySem.W.Frag} {φ : List (Addr × HO)} {H : Hp} : ∀ {ds : List PyData} {vs : List V} (n : Nat), DnAll K φ H ds vs → DnAll K φ H (ds.drop n) (vs.drop n)
  | _, _, 0, r => r
  | _, _, _ + 1, .nil => .nil
  | _, _, n + 1, .cons _ t => DnAll.drop n t
theorem DnAll.reverse {K : PySem.W.Frag} {φ : List (Addr × HO)} {H : Hp} : ∀ {ds : List PyData} {vs : List V}, DnAll K φ H ds vs → DnAll K φ H ds.reverse vs.reverse
  | _, _, .nil => .nil
  | _, _, .cons r t => by
    rw [List.reverse_cons, List.reverse_cons]
    exact t.reverse.append (.cons r .nil)
def Live (G : Gh) (S : Sto) (b : Addr) : Prop := ∃ (i : Nat) (o : MO), G.ι[i]? = some b ∧ S[i]? = some o ∧ o ≠ .dead
def OkO (K : PySem.W.Frag) (H : Hp) (φ : List (Addr × HO)) (a : Addr) : MO → Prop
  | .dead => H a ≠ none
  | .lst xs => ∃ vs, H a = some (.lst vs) ∧ DnAll K φ H xs vs
  | .dic kvs => ∃ ws : List (Key × V), H a = some (.dK ws) ∧ kvs.map (·.1) = ws.map (·.1) ∧ DnAll K φ H (kvs.map (·.2)) (ws.map (·.2))
  | .tab P q => a = P ∧ ∃ ps : Array Value, H a = some (.tbl ps) ∧ TriplesOk ps.toList ∧ ∀ (pos : Pos) (cv : Value), codeAmong pos ps.toList = some cv → ∃ c, cv = .ref c ∧ (c, LamX.CodeO c q) ∈ φ
  | .ins nm fs => ∃ C dx ws, clsOf K nm = .ref C ∧ PlC K C ∧ (∀ p ∈ ws, NoAttr K C p.1) ∧ H a = some (.ins C dx ws) ∧ fs.map (·.1) = ws.map (·.1) ∧ DnAll K φ H (fs.map (·.2)) (ws.map (·.2))
structure Rep (K : PySem.W.Frag) (H : Hp) (G : Gh) (S : Sto) : Prop where
  len : G.ι.length = S.length
  nd : G.ι.Nodup
  ok : ∀ (i : Nat) (a : Addr) (o : MO), G.ι[i]? = some a → S[i]? = some o → OkO K H G.φ a o
  phi : Holds G.φ H
  pnl : ∀ p ∈ G.φ, ¬ Live G S p.1
structure Ext (H : Hp) (G : Gh) (S : Sto) (H' : Hp) (G' : Gh) (S' : Sto) : Prop where
  pre : ∀ (i : Nat) (a : Addr), G.ι[i]? = some a → G'.ι[i]? = some a
  phi : ∀ p ∈ G.φ, p ∈ G'.φ
  frame : ∀ b o, H b = some o → ¬ Live G S b → H' b = some o
  fresh : ∀ b, Live G' S' b → Live G S b ∨ H b = none
  iot : ∀ b, b ∈ G'.ι → b ∈ G.ι ∨ H b = none
  phf : ∀ p ∈ G'.φ, p ∈ G.φ ∨ H p.1 = none ∨ Live G S p.1
section
variable {K : PySem.W.Frag} {H H1 H2 : Hp} {G G1 G2 : Gh} {S S1 S2 : Sto}
theorem Ext.refl : Ext H G S H G S := ⟨fun _ _ h => h, fun _ h => h, fun _ _ h _ => h, fun _ h => .inl h, fun _ h => .inl h, fun _ h => .inl h⟩
theorem Ext.back (a : Ext H G S H1 G1 S1) {c : Addr} (q : H1 c = none) : Live G S c ∨ H c = none := by
  by_cases l : Live G S c
  · exact .inl l
  · cases e : H c with
    | none => exact .inr rfl
    | some o => rw [a.frame c o e l] at q; cases q
theorem Live.mem {c : Addr} (l : Live G S c) : c ∈ G.ι := by
  obtain ⟨i, o, h, _⟩ := l
  exact List.mem_of_getElem? h
theorem Ext.trans (a : Ext H G S H1 G1 S1) (b : Ext H1 G1 S1 H2 G2 S2) : Ext H G S H2 G2 S2 := by
  refine ⟨fun i x h => b.pre i x (a.pre i x h), fun p h => b.phi p (a.phi p h), fun c o h n => ?_, fun c h => ?_, fun c h => ?_, fun p h => ?_⟩
  · refine b.frame c o (a.frame c o h n) fun l => ?_
    rcases a.fresh c l with q | q
    · exact n q
    · rw [h] at q; cases q
  · rcases b.fresh c h with q | q
    · exact a.fresh c q
    · exact a.back q
  · rcases b.iot c h with q | q
    · exact a.iot c q
    · rcases a.back q with q | q
      · exact .inl q.mem
      · exact .inr q
  · rcases b.phf p h with q | q | q
    · exact a.phf p q
    · rcases a.back q with q | q
      · exact .inr (.inr q)
      · exact .inr (.inl q)
    · rcases a.fresh _ q with q | q
      · exact .inr (.inr q)
      · exact .inr (.inl q)
/-- what stands at a live place is a list or a dict -/
theorem Rep.live (r : Rep K H G S) {b : Addr} (l : Live G S b) : (∃ vs, H b = some (.lst vs)) ∨ (∃ ws, H b = some (.dK ws)) ∨ (∃ ps, H b = some (.tbl ps)) ∨ ∃ C dx ws, H b = some (.ins C dx ws) := by
  obtain ⟨i, o, h1, h2, h3⟩ := l
  have q := r.ok i b o h1 h2
  cases o with
  | dead => exact absurd rfl h3
  | lst xs => obtain ⟨vs, e, _⟩ := q; exact .inl ⟨vs, e⟩
  | dic kvs => obtain ⟨ws, e, _⟩ := q; exact .inr (.inl ⟨ws, e⟩)
  | tab P t => obtain ⟨_, ps, e, _⟩ := q; exact .inr (.inr (.inl ⟨ps, e⟩))
  | ins nm fs => obtain ⟨C, dx, ws, _, _, _, e, _⟩ := q; exact .inr (.inr (.inr ⟨C, dx, ws, e⟩))
theorem Rep.notLive {b : Addr} {o : HO} (r : Rep K H G S) (e : H b = some o) (h1 : ∀ vs, o ≠ .lst vs) (h2 : ∀ ws, o ≠ .dK ws) (h3 : ∀ ps, o ≠ .tbl ps) (h4 : ∀ C dx ws, o ≠ .ins C dx ws) : ¬ Live G S b := fun l => by
  rcases r.live l with ⟨vs, q⟩ | ⟨ws, q⟩ | ⟨ps, q⟩ | ⟨C, dx, ws, q⟩
  · rw [e] at q; cases q; exact h1 vs rfl
  · rw [e] at q; cases q; exact h2 ws rfl
  · rw [e] at q; cases q; exact h3 ps rfl
  · rw [e] at q; cases q; exact h4 C dx ws rfl
theorem Rep.tr (r : Rep K H G S) {b : Addr} (h : b ∈ G.ι) : H b ≠ none := by
  obtain ⟨i, hi, e⟩ := List.getElem_of_mem h
  have hS : i < S.length := by rw [← r.len]; exact hi
  have q := r.ok i b S[i] (by rw [List.getElem?_eq_getElem hi, e]) (by rw [List.getElem?_eq_getElem hS])
  intro z
  cases o : S[i] with
  | dead => rw [o] at q; exact q z
  | lst xs => rw [o] at q; obtain ⟨vs, e, _⟩ := q; rw [z] at e; cases e
  | dic kvs => rw [o] at q; obtain ⟨ws, e, _⟩ := q; rw [z] at e; cases e
  | tab P t => rw [o] at q; obtain ⟨_, ps, e, _⟩ := q; rw [z] at e; cases e
  | ins nm fs => rw [o] at q; obtain ⟨C, dx, ws, _, _, _, e, _⟩ := q; rw [z] at e; cases e
theorem Ext.tup (r : Rep K H G S) (x : Ext H G S H1 G1 S1) {a : Addr} {vs : List V} (h : SqT K H a vs) : SqT K H1 a vs := by
  rcases h with (h | ⟨o, h⟩) | h
  · exact .inl (.inl (x.frame _ _ h (r.notLive h (fun _ z => nomatch z) (fun _ z => nomatch z) (fun _ z => nomatch z) fun _ _ _ z => nomatch z)))
  · exact .inl (.inr ⟨o, x.frame _ _ h (r.notLive h (fun _ z => nomatch z) (fun _ z => nomatch z) (fun _ z => nomatch z) fun _ _ _ z => nomatch z)⟩)
  · exact .inr h
end
mutual
theorem Dn.mono {K : PySem.W.Frag} {φ φ' : List (Addr × HO)} {H H' : Hp} (hs : ∀ p ∈ φ, p ∈ φ') (ht : ∀ a vs, SqT K H a vs → SqT K H' a vs) : ∀ {d : PyData} {v : V}, Dn K φ H d v → Dn K φ' H' d v
  | _, _, .non => .non
  | _, _, .bl b => .bl b
  | _, _, .int i => .int i
  | _, _, .str x => .str x
  | _, _, .lst h t => .lst (h.mono hs) (DnAll.mono hs ht t)
  | _, _, .tup h t => .tup (ht _ _ h) (DnAll.mono hs ht t)
  | _, _, .dic h e t => .dic (h.mono hs) e (DnAll.mono hs ht t)
  | _, _, .ins h c e t => .ins (h.mono hs) c e (DnAll.mono hs ht t)
theorem DnAll.mono {K : PySem.W.Frag} {φ φ' : List (Addr × HO)} {H H' : Hp} (hs : ∀ p ∈ φ, p ∈ φ') (ht : ∀ a vs, SqT K H a vs → SqT K H' a vs) : ∀ {ds : List PyData} {vs : List V}, DnAll K φ H ds vs → DnAll K φ' H' ds vs
  | _, _, .nil => .nil
  | _, _, .cons h t => .cons (Dn.mono hs ht h) (DnAll.mono hs ht t)
end
section
variable {K : PySem.W.Frag} {H H1 H2 : Hp} {G G1 G2 : Gh} {S S1 S2 : Sto}
theorem Ext.dn (r : Rep K H G S) (x : Ext H G S H1 G1 S1) {d : PyData} {v : V} (h : Dn K G.φ H d v) : Dn K G1.φ H1 d v := h.mono x.phi fun _ _ => x.tup r
theorem Ext.dnAll (r : Rep K H G S) (x : Ext H G S H1 G1 S1) {ds : List PyData} {vs : List V} (h : DnAll K G.φ H ds vs) : DnAll K G1.φ H1 ds vs := h.mono x.phi fun _ _ => x.tup r
theorem Ext.den (r : Rep K H G S) (x : Ext H G S H1 G1 S1) : ∀ {d : D} {v : V}, Den K H G d v → Den K H1 G1 d v
  | .p _, _, h => x.dn r h
  | .ob _, _, ⟨a, e, h⟩ => ⟨a, e, x.pre _ _ h⟩
  | .ro _, _, ⟨a, vs, e, h, t⟩ => ⟨a, vs, e, h.mono x.phi, x.dnAll r t⟩
  | .ext _, _, h => ⟨h.1, fun p hp => let ⟨fs, ws, e1, e2, e3, e4⟩ := h.2 p hp; ⟨fs, ws, e1, x.phi _ e2, e3, x.dnAll r e4⟩⟩
theorem Ext.denL (r : Rep K H G S) (x : Ext H G S H1 G1 S1) : ∀ {ds : List D} {vs : List V}, DenL K H G ds vs → DenL K H1 G1 ds vs
  | _, _, .nil => .nil
  | _, _, .cons h t => .cons (x.den r h) (x.denL r t)
end
abbrev Ev := List (Option D)
def RelO (K : PySem.W.Frag) (H : Hp) (G : Gh) : Option D → Option V → Prop
  | none, _ => True
  | some d, some v => Den K H G d v
  | some _, none => False
inductive RelS (K : PySem.W.Frag) (H : Hp) (G : Gh) : Ev → St → Prop
  | nil : RelS K H G [] []
  | cons {d : Option D} {ds : Ev} {v : Option V} {vs : St} : RelO K H G d v → RelS K H G ds vs → RelS K H G (d :: ds) (v :: vs)
section
variable {K : PySem.W.Frag} {H H1 : Hp} {G G1 : Gh} {S S1 : Sto}
theorem RelS.length : ∀ {ρ : Ev} {σ : St}, RelS K H G ρ σ → ρ.length = σ.length
  | _, _, .nil => rfl
  | _, _, .cons _ t => by rw [List.length_cons, List.length_cons, t.length]
theorem Ext.relS (r : Rep K H G S) (x : Ext H G S H1 G1 S1) : ∀ {ρ : Ev} {σ : St}, RelS K H G ρ σ → RelS K H1 G1 ρ σ
  | _, _, .nil => .nil
  | _, _, .cons (d := d) (v := v) h t => .cons (by
      cases d with
      | none => trivial
      | some d => cases v with
        | none => exact h
        | some v => exact x.den r h) (x.relS r t)
theorem RelS.get : ∀ {ρ : Ev} {σ : St} {i : Nat} {d : D}, RelS K H G ρ σ → ρ[i]? = some (some d) → ∃ v, σ[i]? = some (some v) ∧ Den K H G d v
  | _, _, _, _, .nil, e => by simp at e
  | _, _, 0, d, .cons (v := v) h _, e => by
    simp at e; subst e
    cases v with
    | none => exact False.elim h
    | some v => exact ⟨v, rfl, h⟩
  | _, _, i + 1, d, .cons _ t, e => by
    obtain ⟨v, h1, h2⟩ := RelS.get (i := i) (d := d) t (by simpa using e)
    exact ⟨v, by simpa using h1, h2⟩
theorem RelS.set {d : D} {v : V} (h : Den K H G d v) : ∀ {ρ : Ev} {σ : St} (i : Nat), RelS K H G ρ σ → RelS K H G (ρ.set i (some d)) (σ.set i (some v))
  | _, _, _, .nil => .nil
  | _, _, 0, .cons _ t => .cons h t
  | _, _, i + 1, .cons r t => .cons r (RelS.set h i t)
theorem RelS.setNone {w : Option V} : ∀ {ρ : Ev} {σ : St} (i : Nat), RelS K H G ρ σ → RelS K H G (ρ.set i none) (σ.set i w)
  | _, _, _, .nil => .nil
  | _, _, 0, .cons _ t => .cons trivial t
  | _, _, i + 1, .cons r t => .cons r (RelS.setNone i t)
theorem RelS.ofArgs : ∀ {ds : List D} {vs : List V} (n : Nat), DenL K H G ds vs → RelS K H G (ds.map some ++ List.replicate n none) (vs.map some ++ List.replicate n none)
  | _, _, 0, .nil => .nil
  | _, _, n + 1, .nil => by
    rw [List.replicate_succ, List.replicate_succ]
    exact .cons trivial (RelS.ofArgs (ds := []) (vs := []) n .nil)
  | _, _, n, .cons h t => .cons h (RelS.ofArgs n t)
end
def ExnAt (K : PySem.W.Frag) (H : Hp) (G : Gh) (x : Exn) (d : Option Addr) : Prop :=
  match x.fs with
  | none => d = none
  | some fs => ∃ a ws, d = some a ∧ (a, HO.xd ws) ∈ G.φ ∧ fs.map (·.1) = ws.map (·.1) ∧ DnAll K G.φ H (fs.map (·.2)) (ws.map (·.2))
inductive Out (α : Type) where
  | ok (a : α) (s : Sto)
  | err (x : Exn) (s : Sto)
  | bad
abbrev M (α : Type) := Sto → Out α
def Out.bind {α β : Type} : Out α → (α → M β) → Out β
  | .ok a s, k => k a s
  | .err x s, _ => .err x s
  | .bad, _ => .bad
@[simp] theorem Out.bind_ok {α β : Type} (a : α) (s : Sto) (k : α → M β) : (Out.ok a s).bind k = k a s := rfl
@[simp] theorem Out.bind_err {α β : Type} (x : Exn) (s : Sto) (k : α → M β) : (Out.err x s : Out α).bind k = .err x s := rfl
@[simp] theorem Out.bind_bad {α β : Type} (k : α → M β) : (Out.bad : Out α).bind k = .bad := rfl
abbrev FE := Ev → M D
abbrev FT := Ev → M Bool
abbrev FA := Ev → M (List D)
inductive Fl where
  | next (ρ : Ev)
  | ret (d : D)
  | brk (ρ : Ev)
  | cont (ρ : Ev)
  | exc (x : Exn) (ρ : Ev)
abbrev FS := Ev → Sto → Option (Fl × Sto)
def Aft {α : Type} (K : PySem.W.Frag) (W : WX) (σ : St) (H : Hp) (G : Gh) (S : Sto) (o : Out α) (P : α → Hp → Gh → Sto → Prop) : Prop :=
  match o with
  | .ok a S' => ∀ H' G', Ext H G S H' G' S' → Rep K H' G' S' → P a H' G' S'
  | .err x S' => ∀ H' G' d, Ext H G S H' G' S' → Rep K H' G' S' → ExnAt K H' G' x d → W (clsOf K x.nm) d σ H'
  | .bad => False
theorem Aft.bind {α β : Type} {K : PySem.W.Frag} {W : WX} {σ : St} {H : Hp} {G : Gh} {S : Sto} {o : Out α} {k : α → M β} {P : β → Hp → Gh → Sto → Prop} (h : Aft K W σ H G S (o.bind k) P) :
    Aft K W σ H G S o fun a H1 G1 S1 => Aft K W σ H1 G1 S1 (k a S1) P := by
  cases o with
  | ok a S1 =>
    intro H1 G1 x1 r1
    have h' : Aft K W σ H G S (k a S1) P := h
    show Aft K W σ H1 G1 S1 (k a S1) P
    cases e : k a S1 with
    | ok b S2 =>
      rw [e] at h'
      exact fun H2 G2 x2 r2 => h' H2 G2 (x1.trans x2) r2
    | err x S2 =>
      rw [e] at h'
      exact fun H2 G2 d x2 r2 z => h' H2 G2 d (x1.trans x2) r2 z
    | bad => rw [e] at h'; exact h'
  | err x S1 => exact h
  | bad => exact h
theorem Aft.mono {α : Type} {K : PySem.W.Frag} {W : WX} {σ : St} {H : Hp} {G : Gh} {S : Sto} {o : Out α} {P P' : α → Hp → Gh → Sto → Prop} (h : Aft K W σ H G S o P) (f : ∀ a H' G' S', Ext H G S H' G' S' → Rep K H' G' S' → P a H' G' S' → P' a H' G' S') :
    Aft K W σ H G S o P' := by
  cases o with
  | ok a S1 => exact fun H1 G1 x1 r1 => f a H1 G1 S1 x1 r1 (h H1 G1 x1 r1)
  | err x S1 => exact h
  | bad => exact h
def AftS (K : PySem.W.Frag) (W : WX) (E : Ends) (H : Hp) (G : Gh) (S : Sto) (o : Option (Fl × Sto)) : Prop :=
  match o with
  | none => False
  | some (.next ρ', S') => ∀ H' G' σ', Ext H G S H' G' S' → Rep K H' G' S' → RelS K H' G' ρ' σ' → E.nx σ' H'
  | some (.ret d, S') => ∀ H' G' v, Ext H G S H' G' S' → Rep K H' G' S' → Den K H' G' d v → E.rt v H'
  | some (.brk ρ', S') => ∀ H' G' σ', Ext H G S H' G' S' → Rep K H' G' S' → RelS K H' G' ρ' σ' → E.bk σ' H'
  | some (.cont ρ', S') => ∀ H' G' σ', Ext H G S H' G' S' → Rep K H' G' S' → RelS K H' G' ρ' σ' → E.ct σ' H'
  | some (.exc x ρ', S') => ∀ H' G' σ' d, Ext H G S H' G' S' → Rep K H' G' S' → RelS K H' G' ρ' σ' → ExnAt K H' G' x d → W (clsOf K x.nm) d σ' H'
theorem AftS.ext {K : PySem.W.Frag} {W : WX} {E : Ends} {H H1 : Hp} {G G1 : Gh} {S S1 : Sto} {o : Option (Fl × Sto)} (h : AftS K W E H G S o) (x : Ext H G S H1 G1 S1) : AftS K W E H1 G1 S1 o := by
  match o with
  | none => exact h
  | some (.next ρ', S') => exact fun H' G' σ' x' => h H' G' σ' (x.trans x')
  | some (.ret d, S') => exact fun H' G' v x' => h H' G' v (x.trans x')
  | some (.brk ρ', S') => exact fun H' G' σ' x' => h H' G' σ' (x.trans x')
  | some (.cont ρ', S') => exact fun H' G' σ' x' => h H' G' σ' (x.trans x')
  | some (.exc y ρ', S') => exact fun H' G' σ' d x' => h H' G' σ' d (x.trans x')
def rd (K : PySem.W.Frag) (W : WX) (f : FE) : TE := fun σ H Q => ∃ G S ρ, RelS K H G ρ σ ∧ Rep K H G S ∧ Aft K W σ H G S (f ρ S) fun d H' G' _ => ∀ v, Den K H' G' d v → Q v H'
def rdT (K : PySem.W.Frag) (W : WX) (f : FT) : TT := fun σ H Q => ∃ G S ρ, RelS K H G ρ σ ∧ Rep K H G S ∧ Aft K W σ H G S (f ρ S) fun b H' _ _ => Q b H'
def rdA (K : PySem.W.Frag) (W : WX) (f : FA) : TA := fun σ H Q => ∃ G S ρ, RelS K H G ρ σ ∧ Rep K H G S ∧ Aft K W σ H G S (f ρ S) fun ds H' G' _ => ∀ vs, DenL K H' G' ds vs → Q vs H'
def rdS (K : PySem.W.Frag) (W : WX) (f : FS) : TS := fun E σ H => ∃ G S ρ, RelS K H G ρ σ ∧ Rep K H G S ∧ AftS K W E H G S (f ρ S)
structure DE (X : Cx) (W : WX) (e : Expr) (f : FE) : Prop where
  run : PE X e (rd X.K W f)
structure DT (X : Cx) (W : WX) (e : Expr) (f : FT) : Prop where
  run : PT X e (rdT X.K W f)
structure DA (X : Cx) (W : WX) (es : List Expr) (f : FA) : Prop where
  run : PA X es (rdA X.K W f)
structure DS (X : Cx) (W : WX) (st : Stmt) (f : FS) : Prop where
  run : PS X st (rdS X.K W f)
structure DSs (X : Cx) (W : WX) (sts : List Stmt) (f : FS) : Prop where
  run : PSs X sts (rdS X.K W f)
section
variable {X : Cx}
theorem PE.imp {e : Expr} {t t' : TE} (h : PE X e t) (i : ∀ σ H Q, t' σ H Q → t σ H Q) : PE X e t' := ⟨fun pins s σ H Q I q => h.run pins s σ H Q I (i σ H Q q)⟩
theorem PT.imp {e : Expr} {t t' : TT} (h : PT X e t) (i : ∀ σ H Q, t' σ H Q → t σ H Q) : PT X e t' := ⟨fun pins s σ H Q I q => h.run pins s σ H Q I (i σ H Q q)⟩
theorem PA.imp {es : List Expr} {t t' : TA} (h : PA X es t) (i : ∀ σ H Q, t' σ H Q → t σ H Q) : PA X es t' := ⟨fun pos pins s σ H Q I q => h.run pos pins s σ H Q I (i σ H Q q)⟩
theorem PS.imp {st : Stmt} {t t' : TS} (h : PS X st t) (i : ∀ D σ H, t' D σ H → t D σ H) : PS X st t' := ⟨fun pins s σ H D I q => h.run pins s σ H D I (i D σ H q)⟩
theorem PSs.imp {sts : List Stmt} {t t' : TS} (h : PSs X sts t) (i : ∀ D σ H, t' D σ H → t D σ H) : PSs X sts t' := ⟨fun pins s σ H D I q => h.run pins s σ H D I (i D σ H q)⟩
end
section
variable {K : PySem.W.Frag} {H : Hp} {G : Gh} {S : Sto}
theorem Rep.notIn (r : Rep K H G S) {p : Addr} (hp : H p = none) : p ∉ G.ι := fun h => r.tr h hp
theorem Rep.notPhi (r : Rep K H G S) {p : Addr} (hp : H p = none) : ∀ q ∈ G.φ, q.1 ≠ p := fun q hq e => by
  have := r.phi q hq
  rw [e, hp] at this; cases this
/-- a new object that is not tracked by the ghost -/
theorem Ext.other (r : Rep K H G S) {p : Addr} {o : HO} (hp : H p = none) : Ext H G S (upd H p o) G S :=
  ⟨fun _ _ h => h, fun _ h => h, fun b u h _ => by rw [upd_ne (ne_of_none h hp)]; exact h, fun b l => .inl l, fun _ h => .inl h, fun _ h => .inl h⟩
theorem OkO.ext {H' : Hp} {φ' : List (Addr × HO)} {a : Addr} {o : MO} (hs : ∀ p ∈ G.φ, p ∈ φ') (ht : ∀ a vs, SqT K H a vs → SqT K H' a vs) (e : ∀ u, H a = some u → H' a = some u) (h : OkO K H G.φ a o) : OkO K H' φ' a o := by
  cases o with
  | dead =>
    intro z
    cases q : H a with
    | none => exact h q
    | some u => rw [e u q] at z; cases z
  | lst xs => obtain ⟨vs, q, t⟩ := h; exact ⟨vs, e _ q, t.mono hs ht⟩
  | dic kvs => obtain ⟨ws, q, k, t⟩ := h; exact ⟨ws, e _ q, k, t.mono hs ht⟩
  | tab P u =>
    obtain ⟨ea, ps, q, k, t⟩ := h
    exact ⟨ea, ps, e _ q, k, fun pos cv hc => let ⟨c, e1, e2⟩ := t pos cv hc; ⟨c, e1, hs _ e2⟩⟩
  | ins nm fs => obtain ⟨C, dx, ws, c, pc, na, q, k, t⟩ := h; exact ⟨C, dx, ws, c, pc, na, e _ q, k, t.mono hs ht⟩
theorem Rep.other (r : Rep K H G S) {p : Addr} {o : HO} (hp : H p = none) : Rep K (upd H p o) G S := by
  have x := Ext.other (o := o) r hp
  have nn : ∀ {b : Addr} {u : HO}, H b = some u → upd H p o b = some u := fun h => by rw [upd_ne (ne_of_none h hp)]; exact h
  exact ⟨r.len, r.nd, fun i a m h1 h2 => OkO.ext (fun _ h => h) (fun _ _ => x.tup r) (fun u => nn) (r.ok i a m h1 h2), fun q hq => nn (r.phi q hq), r.pnl⟩
/-- a new frozen object -/
theorem Ext.froz (r : Rep K H G S) {p : Addr} {o : HO} (hp : H p = none) : Ext H G S (upd H p o) ⟨G.ι, (p, o) :: G.φ⟩ S :=
  ⟨fun _ _ h => h, fun _ h => List.mem_cons_of_mem _ h, fun b u h _ => by rw [upd_ne (ne_of_none h hp)]; exact h, fun b l => .inl l, fun _ h => .inl h, fun q h => by
    rcases List.mem_cons.mp h with e | h
    · rw [e]; exact .inr (.inl hp)
    · exact .inl h⟩
theorem Rep.froz (r : Rep K H G S) {p : Addr} {o : HO} (hp : H p = none) : Rep K (upd H p o) ⟨G.ι, (p, o) :: G.φ⟩ S := by
  have x := Ext.froz (o := o) r hp
  have nn : ∀ {b : Addr} {u : HO}, H b = some u → upd H p o b = some u := fun h => by rw [upd_ne (ne_of_none h hp)]; exact h
  refine ⟨r.len, r.nd, fun i a m h1 h2 => OkO.ext (G := G) (fun _ h => List.mem_cons_of_mem _ h) (fun _ _ => x.tup r) (fun u => nn) (r.ok i a m h1 h2), fun q hq => ?_, fun q hq => ?_⟩
  · rcases List.mem_cons.mp hq with e | hq
    · subst e; exact upd_same
    · exact nn (r.phi q hq)
  · rcases List.mem_cons.mp hq with e | hq
    · subst e
      rintro ⟨i, m, h1, _, _⟩
      exact r.notIn hp (List.mem_of_getElem? h1)
    · exact r.pnl q hq
/-- a new mutable object -/
def Gh.add (G : Gh) (p : Addr) : Gh := ⟨G.ι ++ [p], G.φ⟩
theorem Gh.add_last (r : Rep K H G S) (p : Addr) : (G.add p).ι[S.length]? = some p := by
  show (G.ι ++ [p])[S.length]? = _
  rw [← r.len]; simp
theorem Live.add {p b : Addr} {m : MO} (r : Rep K H G S) (l : Live (G.add p) (S ++ [m]) b) : Live G S b ∨ b = p := by
  obtain ⟨i, o, h1, h2, h3⟩ := l
  have h1 : (G.ι ++ [p])[i]? = some b := h1
  by_cases hi : i < S.length
  · rw [List.getElem?_append_left (by rw [r.len]; exact hi)] at h1
    rw [List.getElem?_append_left hi] at h2
    exact .inl ⟨i, o, h1, h2, h3⟩
  · rw [List.getElem?_append_right (by rw [r.len]; omega)] at h1
    have : b ∈ [p] := List.mem_of_getElem? h1
    exact .inr (by simpa using this)
theorem Ext.new (r : Rep K H G S) {p : Addr} {o : HO} (m : MO) (hp : H p = none) : Ext H G S (upd H p o) (G.add p) (S ++ [m]) := by
  refine ⟨fun i a h => ?_, fun _ h => h, fun b u h _ => by rw [upd_ne (ne_of_none h hp)]; exact h, fun b l => ?_, fun b h => ?_, fun _ h => .inl h⟩
  · show (G.ι ++ [p])[i]? = some a
    rw [List.getElem?_append_left (List.getElem?_eq_some_iff.mp h).1]; exact h
  · rcases Live.add r l with q | q
    · exact .inl q
    · rw [q]; exact .inr hp
  · rcases List.mem_append.mp (show b ∈ G.ι ++ [p] from h) with q | q
    · exact .inl q
    · have e : b = p := by simpa using q
      rw [e]; exact .inr hp
theorem Rep.new (r : Rep K H G S) {p : Addr} {o : HO} {m : MO} (hp : H p = none) (h : OkO K (upd H p o) G.φ p m) : Rep K (upd H p o) (G.add p) (S ++ [m]) := by
  have x := Ext.new (o := o) r m hp
  have nn : ∀ {b : Addr} {u : HO}, H b = some u → upd H p o b = some u := fun h => by rw [upd_ne (ne_of_none h hp)]; exact h
  refine ⟨?_, ?_, fun i a mo h1 h2 => ?_, fun q hq => nn (r.phi q hq), fun q hq l => ?_⟩
  · show (G.ι ++ [p]).length = (S ++ [m]).length
    rw [List.length_append, List.length_append, r.len]; rfl
  · show (G.ι ++ [p]).Nodup
    rw [List.nodup_append]
    refine ⟨r.nd, by simp, fun a ha b hb => ?_⟩
    have e : b = p := by simpa using hb
    subst e
    intro z; subst z; exact r.notIn hp ha
  · have h1 : (G.ι ++ [p])[i]? = some a := h1
    by_cases hi : i < S.length
    · rw [List.getElem?_append_left (by rw [r.len]; exact hi)] at h1
      rw [List.getElem?_append_left hi] at h2
      exact OkO.ext (G := G) (fun _ h => h) (fun _ _ => x.tup r) (fun u => nn) (r.ok i a mo h1 h2)
    · have hl : i < (S ++ [m]).length := (List.getElem?_eq_some_iff.mp h2).1
      rw [List.length_append] at hl
      have e : i = S.length := by have : i < S.length + 1 := hl; omega
      subst e
      rw [← r.len] at h1
      simp at h1 h2
      subst h1 h2
      exact h
  · rcases Live.add r l with z | z
    · exact r.pnl q hq z
    · exact r.notPhi hp q hq z
/-- a mutable object is changed -/
theorem Live.set {i : Nat} {m m' : MO} {b : Addr} (hm : S[i]? = some m) (hl : m ≠ .dead) (l : Live G (S.set i m') b) : Live G S b := by
  obtain ⟨j, o, h1, h2, h3⟩ := l
  by_cases e : i = j
  · subst e
    exact ⟨i, m, h1, hm, hl⟩
  · rw [List.getElem?_set_ne e] at h2
    exact ⟨j, o, h1, h2, h3⟩
theorem Ext.chg (r : Rep K H G S) {i : Nat} {a : Addr} {m m' : MO} {o : HO} (ha : G.ι[i]? = some a) (hm : S[i]? = some m) (hl : m ≠ .dead) : Ext H G S (upd H a o) G (S.set i m') := by
  refine ⟨fun _ _ h => h, fun _ h => h, fun b u h n => ?_, fun b l => .inl (Live.set hm hl l), fun _ h => .inl h, fun _ h => .inl h⟩
  rw [upd_ne (fun z => n ⟨i, m, by rw [z]; exact ha, hm, hl⟩)]; exact h
theorem Rep.chg (r : Rep K H G S) {i : Nat} {a : Addr} {m m' : MO} {o : HO} (ha : G.ι[i]? = some a) (hm : S[i]? = some m) (hl : m ≠ .dead) (h : OkO K (upd H a o) G.φ a m') : Rep K (upd H a o) G (S.set i m') := by
  have x := Ext.chg (o := o) (m' := m') r ha hm hl
  refine ⟨by rw [List.length_set]; exact r.len, r.nd, fun j b mo h1 h2 => ?_, fun q hq => x.frame _ _ (r.phi q hq) (r.pnl q hq), fun q hq l => r.pnl q hq (Live.set hm hl l)⟩
  by_cases e : i = j
  · subst e
    rw [ha] at h1; cases h1
    have hlt : i < S.length := (List.getElem?_eq_some_iff.mp hm).1
    rw [List.getElem?_set_self hlt] at h2
    cases h2
    exact h
  · rw [List.getElem?_set_ne e] at h2
    have hne : b ≠ a := fun z => e (nodup_ix' r.nd ha (by rw [← z]; exact h1))
    exact OkO.ext (G := G) (fun _ h => h) (fun _ _ => x.tup r) (fun u hu => by rw [upd_ne hne]; exact hu) (r.ok j b mo h1 h2)
  where
  nodup_ix' {l : List Addr} (hN : l.Nodup) {i j : Nat} {x : Addr} (a : l[i]? = some x) (b : l[j]? = some x) : i = j := by
    obtain ⟨h1, e1⟩ := List.getElem?_eq_some_iff.mp a
    obtain ⟨h2, e2⟩ := List.getElem?_eq_some_iff.mp b
    exact (List.getElem_inj hN).mp (e1.trans e2.symm)
/-- a mutable object is frozen -/
theorem Ext.ice {i : Nat} {a : Addr} {m : MO} {o : HO} (ha : G.ι[i]? = some a) (hm : S[i]? = some m) (hl : m ≠ .dead) : Ext H G S H ⟨G.ι, (a, o) :: G.φ⟩ (S.set i .dead) :=
  ⟨fun _ _ h => h, fun _ h => List.mem_cons_of_mem _ h, fun b u h _ => h, fun b l => .inl (by
    obtain ⟨j, u, h1, h2, h3⟩ := l
    exact Live.set hm hl ⟨j, u, h1, h2, h3⟩), fun _ h => .inl h, fun q h => by
      rcases List.mem_cons.mp h with e | h
      · rw [e]; exact .inr (.inr ⟨i, m, ha, hm, hl⟩)
      · exact .inl h⟩
theorem Rep.ice (r : Rep K H G S) {i : Nat} {a : Addr} {m : MO} {o : HO} (ha : G.ι[i]? = some a) (hm : S[i]? = some m) (hl : m ≠ .dead) (ho : H a = some o) : Rep K H ⟨G.ι, (a, o) :: G.φ⟩ (S.set i .dead) := by
  have hlt : i < S.length := (List.getElem?_eq_some_iff.mp hm).1
  refine ⟨by rw [List.length_set]; exact r.len, r.nd, fun j b mo h1 h2 => ?_, fun q hq => ?_, fun q hq l => ?_⟩
  · by_cases e : i = j
    · subst e
      rw [List.getElem?_set_self hlt] at h2
      cases h2
      have h1 : G.ι[i]? = some b := h1
      rw [ha] at h1; cases h1
      show H a ≠ none
      rw [ho]; exact fun z => nomatch z
    · rw [List.getElem?_set_ne e] at h2
      exact OkO.ext (G := G) (fun _ h => List.mem_cons_of_mem _ h) (fun _ _ h => h) (fun _ h => h) (r.ok j b mo h1 h2)
  · rcases List.mem_cons.mp hq with e | hq
    · subst e; exact ho
    · exact r.phi q hq
  · rcases List.mem_cons.mp hq with e | hq
    · subst e
      obtain ⟨j, u, h1, h2, h3⟩ := l
      have h1 : G.ι[j]? = some a := h1
      by_cases e : i = j
      · subst e
        rw [List.getElem?_set_self hlt] at h2
        cases h2
        exact h3 rfl
      · exact e (Rep.chg.nodup_ix' r.nd ha h1)
    · obtain ⟨j, u, h1, h2, h3⟩ := l
      exact r.pnl q hq (Live.set hm hl ⟨j, u, h1, h2, h3⟩)
/-- the later objects of the store are forgotten -/
theorem Live.cut {n : Nat} {b : Addr} (l : Live ⟨G.ι.take n, G.φ⟩ (S.take n) b) : Live G S b := by
  obtain ⟨i, o, h1, h2, h3⟩ := l
  have h1 : (G.ι.take n)[i]? = some b := h1
  rw [List.getElem?_take] at h1 h2
  by_cases hi : i < n
  · rw [if_pos hi] at h1 h2
    exact ⟨i, o, h1, h2, h3⟩
  · rw [if_neg hi] at h1; cases h1
theorem Rep.cut (r : Rep K H G S) (n : Nat) : Rep K H ⟨G.ι.take n, G.φ⟩ (S.take n) := by
  refine ⟨by rw [List.length_take, List.length_take, r.len], r.nd.sublist (List.take_sublist _ _), fun i a o h1 h2 => ?_, r.phi, fun q hq l => r.pnl q hq l.cut⟩
  have h1 : (G.ι.take n)[i]? = some a := h1
  rw [List.getElem?_take] at h1 h2
  by_cases hi : i < n
  · rw [if_pos hi] at h1 h2
    exact r.ok i a o h1 h2
  · rw [if_neg hi] at h1; cases h1
theorem Ext.cut {H1 : Hp} {G1 : Gh} {S1 : Sto} (r : Rep K H G S) (x : Ext H G S H1 G1 S1) : Ext H G S H1 ⟨G1.ι.take S.length, G1.φ⟩ (S1.take S.length) := by
  refine ⟨fun i a h => ?_, x.phi, x.frame, fun b l => x.fresh b l.cut, fun b h => x.iot b (List.mem_of_mem_take h), x.phf⟩
  have hi : i < S.length := by rw [← r.len]; exact (List.getElem?_eq_some_iff.mp h).1
  show (G1.ι.take S.length)[i]? = some a
  rw [List.getElem?_take, if_pos hi]
  exact x.pre i a h
end
end DL
namespace DL
open PySem L2
def LIM : Nat := 1000000
theorem LIM_le : LIM ≤ sizeLine := by unfold LIM; rw [sizeLine_eq]; decide
theorem LIM_lt : LIM < sizeLine := by unfold LIM; rw [sizeLine_eq]; decide
def pys : List D → Option (List PyData)
  | [] => some []
  | .p x :: r => match pys r with
    | some xs => some (x :: xs)
    | none => none
  | _ :: _ => none
section
variable {K : PySem.W.Frag} {H : Hp} {G : Gh} {S : Sto}
theorem pys_den : ∀ {ds : List D} {xs : List PyData} {vs : List V}, pys ds = some xs → DenL K H G ds vs → DnAll K G.φ H xs vs
  | [], xs, _, e, .nil => by cases e; exact .nil
  | .p x :: r, xs, _, e, .cons h t => by
    simp only [pys] at e
    cases q : pys r with
    | none => rw [q] at e; cases e
    | some ys =>
      rw [q] at e; cases e
      exact .cons h (pys_den q t)
  | .ob _ :: _, _, _, e, _ => by cases e
  | .ro _ :: _, _, _, e, _ => by cases e
  | .ext _ :: _, _, _, e, _ => by cases e
end
abbrev QD (K : PySem.W.Frag) (Q : VK) : D → Hp → Gh → Sto → Prop := fun d H' G' _ => ∀ v, Den K H' G' d v → Q v H'
section
variable {K : PySem.W.Frag} {W : WX} {σ : St} {H : Hp} {G : Gh} {S : Sto} {Q : VK} {p : Addr}
theorem Aft.ret {d : D} {v : V} (h : Aft K W σ H G S (.ok d S) (QD K Q)) (r : Rep K H G S) (dv : Den K H G d v) : Q v H := h H G Ext.refl r v dv
theorem Aft.newTup {xs : List PyData} {vs : List V} (h : Aft K W σ H G S (.ok (.p (.tuple xs)) S) (QD K Q)) (r : Rep K H G S) (t : DnAll K G.φ H xs vs) (hp : H p = none) : Q (.ref p) (upd H p (.tup vs)) :=
  h _ G (Ext.other r hp) (Rep.other r hp) _ (Dn.tup (SqT.of upd_same) ((Ext.other r hp).dnAll r t))
theorem Aft.newLst {xs : List PyData} {vs : List V} (h : Aft K W σ H G S (.ok (.p (.list xs)) S) (QD K Q)) (r : Rep K H G S) (t : DnAll K G.φ H xs vs) (hp : H p = none) : Q (.ref p) (upd H p (.lst vs)) :=
  h _ _ (Ext.froz r hp) (Rep.froz r hp) _ (Dn.lst (fun _ q => q _ List.mem_cons_self) ((Ext.froz r hp).dnAll r t))
theorem Aft.newLstM {xs : List PyData} {vs : List V} (h : Aft K W σ H G S (.ok (.ob S.length) (S ++ [.lst xs])) (QD K Q)) (r : Rep K H G S) (t : DnAll K G.φ H xs vs) (hp : H p = none) : Q (.ref p) (upd H p (.lst vs)) :=
  h _ _ (Ext.new r _ hp) (Rep.new r hp ⟨vs, upd_same, (Ext.new r (.lst xs) hp).dnAll r t⟩) _ ⟨p, rfl, Gh.add_last r p⟩
def pyKv (kvs : List (Key × PyData)) : List (PyData × PyData) := kvs.map fun p => (keyPy p.1, p.2)
theorem pyKv_keys (kvs : List (Key × PyData)) : (pyKv kvs).map (·.1) = kvs.map (fun p => keyPy p.1) := by simp [pyKv]
theorem pyKv_vals (kvs : List (Key × PyData)) : (pyKv kvs).map (·.2) = kvs.map (·.2) := by simp [pyKv]
theorem Dn.dicOf {φ : List (Addr × HO)} {a : Addr} {kvs : List (Key × PyData)} {ws : List (Key × V)} (f : FD φ a ws) (e : kvs.map (·.1) = ws.map (·.1)) (t : DnAll K φ H (kvs.map (·.2)) (ws.map (·.2))) : Dn K φ H (.dict (pyKv kvs)) (.ref a) := by
  refine .dic f ?_ (by rw [pyKv_vals]; exact t)
  rw [pyKv_keys]
  have := congrArg (List.map keyPy) e
  simpa [List.map_map, Function.comp_def] using this
theorem Aft.newDic {kvs : List (Key × PyData)} {ws : List (Key × V)} (h : Aft K W σ H G S (.ok (.p (.dict (pyKv kvs))) S) (QD K Q)) (r : Rep K H G S) (e : kvs.map (·.1) = ws.map (·.1)) (t : DnAll K G.φ H (kvs.map (·.2)) (ws.map (·.2))) (hp : H p = none) (od : Obj) : Q (.ref p) (upd H p (.frz od (.dK ws))) :=
  h _ _ (Ext.froz r hp) (Rep.froz r hp) _ (Dn.dicOf ⟨od, fun _ q => q _ List.mem_cons_self⟩ e ((Ext.froz r hp).dnAll r t))
theorem upd_twice {H : Hp} {p : Addr} {a b : HO} : upd (upd H p a) p b = upd H p b := by
  funext c
  by_cases h : c = p
  · rw [h, upd_same, upd_same]
  · rw [upd_ne h, upd_ne h, upd_ne h]
/-- what is told behind a step in which a thing may be locked -/
def Lk (Q : VK) : VK := fun v H => Q v H ∨ ∃ d u, H d = some u ∧ Mut (some u) ∧ ∀ od, Q v (upd H d (.frz od u))
theorem Lk.of {Q : VK} {v : V} {H : Hp} (h : Q v H) : Lk Q v H := .inl h
theorem Aft.newDicL {kvs : List (Key × PyData)} {ws : List (Key × V)} (h : Aft K W σ H G S (.ok (.p (.dict (pyKv kvs))) S) (QD K Q)) (r : Rep K H G S) (e : kvs.map (·.1) = ws.map (·.1)) (t : DnAll K G.φ H (kvs.map (·.2)) (ws.map (·.2))) (hp : H p = none) : Lk Q (.ref p) (upd H p (.dK ws)) :=
  .inr ⟨p, .dK ws, upd_same, trivial, fun od => by rw [upd_twice]; exact h.newDic r e t hp od⟩
theorem PE.lk {X : Cx} {e : Expr} {t : TE} (h : PE X e t) : PE X e (fun σ H Q => t σ H (Lk Q)) := by
  refine ⟨fun pins s σ H Q I hw => thn (h.run pins s σ H _ I hw) fun v s1 ⟨x, H1, I1, r, q⟩ => ?_⟩
  rcases q with q | ⟨d, u, hd, mu, q⟩
  · exact ⟨x, H1, I1, r, q⟩
  · obtain ⟨od, I2⟩ := I1.lock hd mu
    exact ⟨x, _, I2, r, q od⟩
end
def eVar (i : Nat) : FE := fun ρ S => match ρ[i]? with
  | some (some d) => .ok d S
  | _ => .bad
def eC (d : D) : FE := fun _ S => .ok d S
section
variable {X : Cx} {W : WX}
theorem de_var (i : Nat) {x : Str} {pos : Pos} (hN : X.N[i]? = some x := by rfl) (hv : Vis X.env.scope x := by first | exact Or.inl rfl | exact Or.inr (Or.inl rfl) | exact Or.inr (Or.inr rfl)) (hd : (x == ("__debug__" : Str)) = false := by decide)
    (hcd : (x == ("__classdict__" : Str)) = false := by decide) : DE X W (.Name x pos) (eVar i) := by
  refine ⟨PE.imp (pe_var hN hv hd hcd) fun σ H Q ⟨G, S, ρ, rs, rp, h⟩ => ?_⟩
  unfold eVar at h
  split at h
  · rename_i d e
    obtain ⟨v, h1, h2⟩ := rs.get e
    exact ⟨v, h1, h.ret rp h2⟩
  · exact h.elim
theorem de_int {i : Int} {j pos} : DE X W (.Constant (.int i) j pos) (eC (.p (.int i))) := ⟨PE.imp pe_int fun σ H Q ⟨G, S, ρ, rs, rp, h⟩ => Aft.ret h rp (.int i)⟩
theorem de_bl {b : Bool} {j pos} : DE X W (.Constant (.bool b) j pos) (eC (.p (.bool b))) := ⟨PE.imp pe_bl fun σ H Q ⟨G, S, ρ, rs, rp, h⟩ => Aft.ret h rp (.bl b)⟩
theorem de_non {j pos} : DE X W (.Constant .none j pos) (eC (.p .none)) := ⟨PE.imp pe_non fun σ H Q ⟨G, S, ρ, rs, rp, h⟩ => Aft.ret h rp .non⟩
theorem de_str {x : Str} {j pos} : DE X W (.Constant (.str x) j pos) (eC (.p (.str x))) := ⟨PE.imp pe_str fun σ H Q ⟨G, S, ρ, rs, rp, h⟩ => Aft.ret h rp (.str x)⟩
/-- a constant of the module, by its data -/
theorem de_glob {x : Str} {v : V} {u : Value} {d : D} {pos : Pos} (hg : Gl X x) (hm : X.mg x = some u) (r : RelV v u) (hd : ∀ H G, Den X.K H G d v) (hdb : (x == ("__debug__" : Str)) = false := by decide) : DE X W (.Name x pos) (eC d) :=
  ⟨PE.imp (pe_glob hg hm r hdb) fun σ H Q ⟨G, S, ρ, rs, rp, h⟩ => Aft.ret h rp (hd H G)⟩
end
def aNil : FA := fun _ S => .ok [] S
def aCons (f : FE) (g : FA) : FA := fun ρ S => (f ρ S).bind fun d S1 => (g ρ S1).bind fun ds S2 => .ok (d :: ds) S2
def mkTup : List D → M D := fun ds S => match pys ds with
  | some xs => if xs.length ≤ LIM then .ok (.p (.tuple xs)) S else .bad
  | none => .bad
def mkLst : List D → M D := fun ds S => match pys ds with
  | some xs => if xs.length ≤ LIM then .ok (.p (.list xs)) S else .bad
  | none => .bad
def mkLstM : List D → M D := fun ds S => match pys ds with
  | some xs => if xs.length ≤ LIM then .ok (.ob S.length) (S ++ [.lst xs]) else .bad
  | none => .bad
def eA (g : List D → M D) (f : FA) : FE := fun ρ S => (f ρ S).bind g
section
variable {X : Cx} {W : WX} {e : Expr} {es : List Expr} {f : FE} {g : FA} {pos : Pos}
theorem da_nil : DA X W [] aNil := ⟨PA.imp pa_nil fun σ H Q ⟨G, S, ρ, rs, rp, h⟩ => h H G Ext.refl rp _ .nil⟩
theorem da_cons (he : DE X W e f) (hr : DA X W es g) (hs : starEach (e :: es) X.env = (false, eval e X.env) :: starEach es X.env := by rfl) : DA X W (e :: es) (aCons f g) := by
  refine ⟨PA.imp (pa_cons he.run hr.run hs) fun σ H Q ⟨G, S, ρ, rs, rp, h⟩ => ?_⟩
  refine ⟨G, S, ρ, rs, rp, (Aft.bind h).mono fun d H1 G1 S1 x1 r1 h1 v dv => ?_⟩
  refine ⟨G1, S1, ρ, x1.relS rp rs, r1, (Aft.bind h1).mono fun ds H2 G2 S2 x2 r2 h2 vs dvs => ?_⟩
  exact h2 H2 G2 Ext.refl r2 _ (.cons (x2.den r1 dv) dvs)
theorem de_tup {k} (h : DA X W es g) : DE X W (.Tuple es k pos) (eA mkTup g) := by
  refine ⟨PE.imp (pe_tup h.run) fun σ H Q ⟨G, S, ρ, rs, rp, h⟩ => ?_⟩
  refine ⟨G, S, ρ, rs, rp, (Aft.bind h).mono fun ds H1 G1 S1 x1 r1 h1 vs dvs => ?_⟩
  unfold mkTup at h1
  split at h1
  · rename_i xs e
    have t := pys_den e dvs
    by_cases hl : xs.length ≤ LIM
    · rw [if_pos hl] at h1
      exact ⟨by rw [← t.length]; exact Nat.le_trans hl LIM_le, fun p hp => h1.newTup r1 t hp⟩
    · rw [if_neg hl] at h1; exact h1.elim
  · exact h1.elim
theorem de_lst (h : DA X W es g) : DE X W (.List es pos) (eA mkLst g) := by
  refine ⟨PE.imp (pe_lst h.run) fun σ H Q ⟨G, S, ρ, rs, rp, h⟩ => ?_⟩
  refine ⟨G, S, ρ, rs, rp, (Aft.bind h).mono fun ds H1 G1 S1 x1 r1 h1 vs dvs => ?_⟩
  unfold mkLst at h1
  split at h1
  · rename_i xs e
    have t := pys_den e dvs
    by_cases hl : xs.length ≤ LIM
    · rw [if_pos hl] at h1
      exact ⟨by rw [← t.length]; exact Nat.le_trans hl LIM_le, fun p hp => h1.newLst r1 t hp⟩
    · rw [if_neg hl] at h1; exact h1.elim
  · exact h1.elim
theorem de_lstM (h : DA X W es g) : DE X W (.List es pos) (eA mkLstM g) := by
  refine ⟨PE.imp (pe_lst h.run) fun σ H Q ⟨G, S, ρ, rs, rp, h⟩ => ?_⟩
  refine ⟨G, S, ρ, rs, rp, (Aft.bind h).mono fun ds H1 G1 S1 x1 r1 h1 vs dvs => ?_⟩
  unfold mkLstM at h1
  split at h1
  · rename_i xs e
    have t := pys_den e dvs
    by_cases hl : xs.length ≤ LIM
    · rw [if_pos hl] at h1
      exact ⟨by rw [← t.length]; exact Nat.le_trans hl LIM_le, fun p hp => h1.newLstM r1 t hp⟩
    · rw [if_neg hl] at h1; exact h1.elim
  · exact h1.elim
end
/-- the data's operation g is what the reading r asks -/
def Sim2 (K : PySem.W.Frag) (r : R2) (g : D → D → M D) : Prop :=
  ∀ (W : WX) (σ : St) (H : Hp) (G : Gh) (S : Sto) (x y : D) (v w : V) (Q : VK), Rep K H G S → Den K H G x v → Den K H G y w → Aft K W σ H G S (g x y S) (QD K Q) → r v w H Q
def Sim1 (K : PySem.W.Frag) (r : V → Hp → VK → Prop) (g : D → M D) : Prop :=
  ∀ (W : WX) (σ : St) (H : Hp) (G : Gh) (S : Sto) (x : D) (v : V) (Q : VK), Rep K H G S → Den K H G x v → Aft K W σ H G S (g x S) (QD K Q) → r v H Q
def SimA (K : PySem.W.Frag) (r : List V → Hp → VK → Prop) (g : List D → M D) : Prop :=
  ∀ (W : WX) (σ : St) (H : Hp) (G : Gh) (S : Sto) (xs : List D) (vs : List V) (Q : VK), Rep K H G S → DenL K H G xs vs → Aft K W σ H G S (g xs S) (QD K Q) → r vs H Q
def e2 (g : D → D → M D) (a b : FE) : FE := fun ρ S => (a ρ S).bind fun x S1 => (b ρ S1).bind fun y S2 => g x y S2
def e1 (g : D → M D) (a : FE) : FE := fun ρ S => (a ρ S).bind g
section
variable {X : Cx} {W : WX} {a b : Expr} {f h : FE} {pos : Pos}
theorem sim_op {r : R2} {g : D → D → M D} (m : Sim2 X.K r g) {σ : St} {H : Hp} {Q : VK} (q : rd X.K W (e2 g f h) σ H Q) : tOp r (rd X.K W f) (rd X.K W h) σ H Q := by
  obtain ⟨G, S, ρ, rs, rp, q⟩ := q
  refine ⟨G, S, ρ, rs, rp, (Aft.bind q).mono fun x H1 G1 S1 x1 r1 q1 v dv => ?_⟩
  refine ⟨G1, S1, ρ, x1.relS rp rs, r1, (Aft.bind q1).mono fun y H2 G2 S2 x2 r2 q2 w dw => ?_⟩
  exact m W σ H2 G2 S2 x y v w Q r2 (x2.den r1 dv) dw q2
theorem de_bin {op : Operator} {r : R2} {g : D → D → M D} (o : OpR X (binaryOp op) r) (m : Sim2 X.K r g) (ha : DE X W a f) (hb : DE X W b h) : DE X W (.BinOp a op b pos) (e2 g f h) :=
  ⟨PE.imp (pe_op o ha.run hb.run) fun _ _ _ q => sim_op m q⟩
theorem de_cmp {op : CmpOp} {r : R2} {g : D → D → M D} (o : OpR X (compareOp op) r) (m : Sim2 X.K r g) (ha : DE X W a f) (hb : DE X W b h) (hm : behindInMarks op b = false) : DE X W (.Compare a [op] [b] pos) (e2 g f h) :=
  ⟨PE.imp (pe_cmpR o ha.run hb.run hm) fun _ _ _ q => sim_op m q⟩
theorem de_ix {r : R2} {g : D → D → M D} (o : IxR X r) (m : Sim2 X.K r g) (ha : DE X W a f) (hb : DE X W b h) (hs : PlainIx b) : DE X W (.Subscript a b pos) (e2 g f h) :=
  ⟨PE.imp (pe_ix o ha.run hb.run hs) fun _ _ _ q => sim_op m q⟩
theorem de_un {op : UnaryOp} {r : V → Hp → VK → Prop} {g : D → M D} (o : UnR X (unaryOp op) r) (m : Sim1 X.K r g) (ha : DE X W a f) : DE X W (.UnaryOp op a pos) (e1 g f) := by
  refine ⟨PE.imp (pe_un o ha.run) fun σ H Q ⟨G, S, ρ, rs, rp, q⟩ => ?_⟩
  exact ⟨G, S, ρ, rs, rp, (Aft.bind q).mono fun x H1 G1 S1 x1 r1 q1 v dv => m W σ H1 G1 S1 x v Q r1 dv q1⟩
end
def opI (C : Int → Int → Bool) (g : Int → Int → Int) : D → D → M D := fun x y S => match x, y with
  | .p (.int i), .p (.int j) => if C i j then .ok (.p (.int (g i j))) S else .bad
  | _, _ => .bad
def opC (g : Int → Int → Bool) : D → D → M D := fun x y S => match x, y with
  | .p (.int i), .p (.int j) => .ok (.p (.bool (g i j))) S
  | _, _ => .bad
section
variable {K : PySem.W.Frag} {H : Hp} {G : Gh}
theorem den_int {i : Int} {v : V} (h : Den K H G (.p (.int i)) v) : v = .int i := by cases h; rfl
theorem den_str {i : Str} {v : V} (h : Den K H G (.p (.str i)) v) : v = .str i := by cases h; rfl
theorem den_bool {i : Bool} {v : V} (h : Den K H G (.p (.bool i)) v) : v = .bl i := by cases h; rfl
theorem den_none {v : V} (h : Den K H G (.p .none) v) : v = .non := by cases h; rfl
theorem den_tup {xs : List PyData} {v : V} (h : Den K H G (.p (.tuple xs)) v) : ∃ a vs, v = .ref a ∧ SqT K H a vs ∧ DnAll K G.φ H xs vs := by
  cases h with
  | tup h t => exact ⟨_, _, rfl, h, t⟩
theorem den_lst {xs : List PyData} {v : V} (h : Den K H G (.p (.list xs)) v) : ∃ a vs, v = .ref a ∧ FL G.φ a vs ∧ DnAll K G.φ H xs vs := by
  cases h with
  | lst h t => exact ⟨_, _, rfl, h, t⟩
theorem den_dic {kvs : List (PyData × PyData)} {v : V} (h : Den K H G (.p (.dict kvs)) v) (hk : ∀ ks x r, kvs ≠ (.tuple ks, x) :: r) : ∃ a ws, v = .ref a ∧ FD G.φ a ws ∧ kvs.map (·.1) = ws.map (fun p => keyPy p.1) ∧ DnAll K G.φ H (kvs.map (·.2)) (ws.map (·.2)) := by
  cases h with
  | dic h e t => exact ⟨_, _, rfl, h, e, t⟩
  | ins _ _ _ _ => exact absurd rfl (hk _ _ _)
theorem sim_int {C : Int → Int → Bool} {P : Int → Int → Prop} {g : Int → Int → Int} (hC : ∀ i j, C i j = true → P i j) : Sim2 K (rI P fun i j => .int (g i j)) (opI C g) := by
  intro W σ H G S x y v w Q rp dx dy q
  unfold opI at q
  split at q
  · rename_i i j
    by_cases hc : C i j = true
    · rw [if_pos hc] at q
      exact ⟨i, j, den_int dx, den_int dy, hC i j hc, q.ret rp (.int _)⟩
    · rw [if_neg hc] at q; exact q.elim
  · exact q.elim
theorem sim_int0 {g : Int → Int → Int} : Sim2 K (rI0 fun i j => .int (g i j)) (opI (fun _ _ => true) g) := by
  intro W σ H G S x y v w Q rp dx dy q
  unfold opI at q
  split at q
  · rename_i i j
    exact ⟨i, j, den_int dx, den_int dy, q.ret rp (.int _)⟩
  · exact q.elim
theorem sim_cmp {g : Int → Int → Bool} : Sim2 K (rI0 fun i j => .bl (g i j)) (opC g) := by
  intro W σ H G S x y v w Q rp dx dy q
  unfold opC at q
  split at q
  · rename_i i j
    exact ⟨i, j, den_int dx, den_int dy, q.ret rp (.bl _)⟩
  · exact q.elim
end
def opSub : D → D → M D := opI (fun _ _ => true) fun i j => i - j
def opMod : D → D → M D := opI (fun _ j => decide (0 < j)) fun i j => i % j
def opPow : D → D → M D := opI (fun i j => decide (0 ≤ j) && (decide (j ≤ 1000000) && decide (i.natAbs < 2 ^ 64))) fun i j => i ^ j.toNat
def opLt : D → D → M D := opC fun i j => decide (i < j)
def opLe : D → D → M D := opC fun i j => decide (i ≤ j)
def opGt : D → D → M D := opC fun i j => decide (j < i)
def opGe : D → D → M D := opC fun i j => decide (j ≤ i)
section
variable {X : Cx} {W : WX} {a b : Expr} {f h : FE} {pos : Pos}
theorem de_sub (ha : DE X W a f) (hb : DE X W b h) : DE X W (.BinOp a .Sub b pos) (e2 opSub f h) := de_bin op_sub sim_int0 ha hb
theorem de_mod (ha : DE X W a f) (hb : DE X W b h) : DE X W (.BinOp a .Mod b pos) (e2 opMod f h) := de_bin op_mod (sim_int fun i j q => of_decide_eq_true q) ha hb
theorem de_pow (ha : DE X W a f) (hb : DE X W b h) : DE X W (.BinOp a .Pow b pos) (e2 opPow f h) := de_bin op_pow (sim_int fun i j q => by
  rw [Bool.and_eq_true, Bool.and_eq_true, decide_eq_true_iff, decide_eq_true_iff, decide_eq_true_iff] at q; exact q) ha hb
def opNeg : D → M D := fun x S => match x with
  | .p (.int i) => .ok (.p (.int (-i))) S
  | _ => .bad
theorem de_neg (ha : DE X W a f) : DE X W (.UnaryOp .USub a pos) (e1 opNeg f) := de_un un_neg (fun W σ H G S x v Q rp dx q => by
  unfold opNeg at q
  split at q
  · rename_i i
    exact ⟨i, den_int dx, q.ret rp (.int _)⟩
  · exact q.elim) ha
/-- + of ints, texts, lists, tuples -/
def opAdd : D → D → M D := fun x y S => match x, y with
  | .p (.int i), .p (.int j) => .ok (.p (.int (i + j))) S
  | .p (.str i), .p (.str j) => if i.length + j.length ≤ LIM then .ok (.p (.str (i ++ j))) S else .bad
  | .p (.list i), .p (.list j) => if i.length + j.length ≤ LIM then .ok (.p (.list (i ++ j))) S else .bad
  | .p (.tuple i), .p (.tuple j) => if i.length + j.length ≤ LIM then .ok (.p (.tuple (i ++ j))) S else .bad
  | _, _ => .bad
def rAddD (K : PySem.W.Frag) : R2 := fun x y H Q => rI0 (fun i j => .int (i + j)) x y H Q ∨ (∃ i j, x = .str i ∧ y = .str j ∧ i.length + j.length ≤ sizeLine ∧ Q (.str (i ++ j)) H) ∨ rCat x y H Q ∨ rCatA K x y H Q
theorem DnAll.nil_iff {K : PySem.W.Frag} {φ : List (Addr × HO)} {H : Hp} {ds : List PyData} {vs : List V} (h : DnAll K φ H ds vs) : vs = [] ↔ ds = [] := by
  cases h <;> simp
theorem sim_add {K : PySem.W.Frag} : Sim2 K (rAddD K) opAdd := by
  intro W σ H G S x y v w Q rp dx dy q
  unfold opAdd at q
  split at q
  · rename_i i j
    exact .inl ⟨i, j, den_int dx, den_int dy, q.ret rp (.int _)⟩
  · rename_i i j
    by_cases hc : i.length + j.length ≤ LIM
    · rw [if_pos hc] at q
      exact .inr (.inl ⟨i, j, den_str dx, den_str dy, Nat.le_trans hc LIM_le, q.ret rp (.str _)⟩)
    · rw [if_neg hc] at q; exact q.elim
  · rename_i i j
    by_cases hc : i.length + j.length ≤ LIM
    · rw [if_pos hc] at q
      obtain ⟨a, vs, rfl, fa, ta⟩ := den_lst dx
      obtain ⟨b, ws, rfl, fb, tb⟩ := den_lst dy
      exact .inr (.inr (.inl ⟨a, b, vs, ws, rfl, rfl, fa H rp.phi, fb H rp.phi, by rw [← ta.length, ← tb.length]; exact Nat.le_trans hc LIM_le, fun p hp => q.newLst rp (ta.append tb) hp⟩))
    · rw [if_neg hc] at q; exact q.elim
  · rename_i i j
    by_cases hc : i.length + j.length ≤ LIM
    · rw [if_pos hc] at q
      obtain ⟨a, vs, rfl, fa, ta⟩ := den_tup dx
      obtain ⟨b, ws, rfl, fb, tb⟩ := den_tup dy
      refine .inr (.inr (.inr ⟨a, b, vs, ws, rfl, rfl, fa, fb, by rw [← ta.length, ← tb.length]; exact Nat.le_trans hc LIM_le, fun e => ?_, fun _ e => ?_, fun _ _ p hp => q.newTup rp (ta.append tb) hp⟩))
      · have e' := ta.nil_iff.mp e
        rw [e', List.nil_append] at q
        exact q.ret rp dy
      · have e' := tb.nil_iff.mp e
        rw [e', List.append_nil] at q
        exact q.ret rp dx
    · rw [if_neg hc] at q; exact q.elim
  · exact q.elim
theorem de_add (ha : DE X W a f) (hb : DE X W b h) : DE X W (.BinOp a .Add b pos) (e2 opAdd f h) :=
  de_bin (op_add.or (op_add_str.or (op_cat.or op_catA))) sim_add ha hb
end
def val (S : Sto) : D → Option PyData
  | .p x => some x
  | .ob i => match S[i]? with
    | some (.lst xs) => some (.list xs)
    | _ => none
  | _ => none
def opEq (neg : Bool) : D → D → M D := fun x y S => match val S x, val S y with
  | some a, some b => if SeqAt.shaped a && SeqAt.shaped b then .ok (.p (.bool (if neg then !PyData.eqv a b else PyData.eqv a b))) S else .bad
  | _, _ => .bad
mutual
theorem Dn.dp {K : PySem.W.Frag} {φ : List (Addr × HO)} {H : Hp} (ph : L2.Hp → Prop := fun _ => True) (hφ : Holds φ H) : ∀ {d : PyData} {v : V}, d.canLay0 = true → Dn K φ H d v → Dp K H v d
  | _, _, _, .non => .non
  | _, _, _, .bl b => .bl b
  | _, _, _, .int i => .int i
  | _, _, _, .str x => .str x
  | _, _, h, .lst f t => .lst (SqL.of (f H hφ)) (DnAll.dp ph hφ (by simpa only [PyData.canLay0] using h) t)
  | _, _, h, .tup f t => .tup f (DnAll.dp ph hφ (by simpa only [PyData.canLay0] using h) t)
  | _, _, h, .dic _ _ _ => by simp only [PyData.canLay0] at h; cases h
  | _, _, h, .ins _ _ _ _ => by simp only [PyData.canLay0] at h; cases h
theorem DnAll.dp {K : PySem.W.Frag} {φ : List (Addr × HO)} {H : Hp} (ph : L2.Hp → Prop := fun _ => True) (hφ : Holds φ H) : ∀ {ds : List PyData} {vs : List V}, PyData.canLayAll0 ds = true → DnAll K φ H ds vs → DpAll K H vs ds
  | _, _, _, .nil => .nil
  | _, _, h, .cons a t => by
    simp only [PyData.canLayAll0, Bool.and_eq_true] at h
    exact .cons (Dn.dp ph hφ h.1 a) (DnAll.dp ph hφ h.2 t)
end
theorem val_dp {K : PySem.W.Frag} {H : Hp} {G : Gh} {S : Sto} (rp : Rep K H G S) {d : D} {v : V} {a : PyData} (e : val S d = some a) (hs : SeqAt.shaped a = true) (h : Den K H G d v) : Dp K H v a := by
  have hc := SeqAt.canLay_of_shaped hs
  cases d with
  | p x => cases e; exact Dn.dp (fun _ => True) rp.phi hc h
  | ob i =>
    simp only [val] at e
    split at e
    · rename_i xs ei
      cases e
      obtain ⟨ad, rfl, ha⟩ := h
      obtain ⟨vs, e1, t⟩ := rp.ok i ad _ ha ei
      exact .lst (SqL.of e1) (DnAll.dp (fun _ => True) rp.phi (by simpa only [PyData.canLay0] using hc) t)
    · cases e
  | ro _ => cases e
  | ext _ => cases e
section
variable {X : Cx} {W : WX} {a b : Expr} {f h : FE} {pos : Pos}
theorem sim_eq {K : PySem.W.Frag} : Sim2 K (rEqD K) (opEq false) := by
  intro W σ H G S x y v w Q rp dx dy q
  unfold opEq at q
  split at q
  · rename_i a b ea eb
    by_cases hc : (SeqAt.shaped a && SeqAt.shaped b) = true
    · rw [if_pos hc] at q
      rw [Bool.and_eq_true] at hc
      exact ⟨a, b, val_dp rp ea hc.1 dx, val_dp rp eb hc.2 dy, hc.1, hc.2, q.ret rp (.bl _)⟩
    · rw [if_neg hc] at q; exact q.elim
  · exact q.elim
theorem sim_ne {K : PySem.W.Frag} : Sim2 K (rNeD K) (opEq true) := by
  intro W σ H G S x y v w Q rp dx dy q
  unfold opEq at q
  split at q
  · rename_i a b ea eb
    by_cases hc : (SeqAt.shaped a && SeqAt.shaped b) = true
    · rw [if_pos hc] at q
      rw [Bool.and_eq_true] at hc
      exact ⟨a, b, val_dp rp ea hc.1 dx, val_dp rp eb hc.2 dy, hc.1, hc.2, q.ret rp (.bl _)⟩
    · rw [if_neg hc] at q; exact q.elim
  · exact q.elim
end
end DL
namespace DL
open PySem L2
def pyKey : PyData → Option Key
  | .int i => some (.inl i)
  | .str x => some (.inr x)
  | _ => none
theorem pyKey_keyPy (k : Key) : pyKey (keyPy k) = some k := by cases k <;> rfl
theorem keyPy_of {d : PyData} {k : Key} (h : pyKey d = some k) : d = keyPy k := by
  cases d <;> first | (cases h; rfl) | cases h
def unKv : List (PyData × PyData) → Option (List (Key × PyData))
  | [] => some []
  | (k, d) :: r => match pyKey k, unKv r with
    | some k', some r' => some ((k', d) :: r')
    | _, _ => none
@[simp] theorem unKv_pyKv : ∀ kvs : List (Key × PyData), unKv (pyKv kvs) = some kvs
  | [] => rfl
  | (k, d) :: r => by
    show unKv ((keyPy k, d) :: pyKv r) = _
    simp only [unKv, pyKey_keyPy, unKv_pyKv r]
theorem unKv_eq : ∀ {l : List (PyData × PyData)} {kvs : List (Key × PyData)}, unKv l = some kvs → l = pyKv kvs
  | [], kvs, h => by cases h; rfl
  | (k, d) :: r, kvs, h => by
    simp only [unKv] at h
    split at h
    · rename_i k' r' e1 e2
      cases h
      rw [unKv_eq e2, keyPy_of e1]; rfl
    · cases h
theorem unKv_noT {l : List (PyData × PyData)} {kvs : List (Key × PyData)} (h : unKv l = some kvs) : ∀ ks x r, l ≠ (.tuple ks, x) :: r := fun ks x r e => by
  subst e
  simp [unKv, pyKey] at h
def valD (kvs : List (Key × PyData)) (k : Key) : Option PyData := (kvs.find? fun kv => decide (kv.1 = k)).map (·.2)
def putD (kvs : List (Key × PyData)) (k : Key) (d : PyData) : List (Key × PyData) :=
  if (kvs.any fun kv => decide (kv.1 = k)) = true then kvs.map (fun kv => if kv.1 = k then (kv.1, d) else kv) else kvs ++ [(k, d)]
section
variable {K : PySem.W.Frag} {φ : List (Addr × HO)} {H : Hp}
structure KvR (K : PySem.W.Frag) (φ : List (Addr × HO)) (H : Hp) (kvs : List (Key × PyData)) (ws : List (Key × V)) : Prop where
  ks : kvs.map (·.1) = ws.map (·.1)
  vs : DnAll K φ H (kvs.map (·.2)) (ws.map (·.2))
theorem KvR.nil : KvR K φ H [] [] := ⟨rfl, .nil⟩
theorem KvR.cons {k : Key} {d : PyData} {v : V} {kvs : List (Key × PyData)} {ws : List (Key × V)} (h : Dn K φ H d v) (t : KvR K φ H kvs ws) : KvR K φ H ((k, d) :: kvs) ((k, v) :: ws) := ⟨by simp [t.ks], .cons h t.vs⟩
theorem KvR.inv {p : Key × PyData} {kvs : List (Key × PyData)} {l : List (Key × V)} (r : KvR K φ H (p :: kvs) l) : ∃ v ws, l = (p.1, v) :: ws ∧ Dn K φ H p.2 v ∧ KvR K φ H kvs ws := by
  obtain ⟨e, t⟩ := r
  cases l with
  | nil => simp at e
  | cons q ws =>
    simp only [List.map_cons, List.cons.injEq] at e
    cases t with
    | cons h t => exact ⟨q.2, ws, by rw [e.1], h, ⟨e.2, t⟩⟩
theorem KvR.nil_inv {l : List (Key × V)} (r : KvR K φ H [] l) : l = [] := by
  have := r.ks
  simpa using this
theorem KvR.length {kvs : List (Key × PyData)} {ws : List (Key × V)} (r : KvR K φ H kvs ws) : kvs.length = ws.length := by
  have := congrArg List.length r.ks
  simpa using this
theorem KvR.val {k : Key} : ∀ {kvs : List (Key × PyData)} {ws : List (Key × V)}, KvR K φ H kvs ws → (∀ d, valD kvs k = some d → ∃ v, valV ws k = some v ∧ Dn K φ H d v) ∧ (valD kvs k = none → valV ws k = none)
  | [], _, r => by
    rw [r.nil_inv]
    exact ⟨fun d e => (by cases e), fun _ => rfl⟩
  | p :: kvs, _, r => by
    obtain ⟨v, ws, rfl, h, t⟩ := r.inv
    have ih := KvR.val (k := k) t
    by_cases e : p.1 = k
    · have e1 : valD (p :: kvs) k = some p.2 := by simp [valD, List.find?_cons, e]
      have e2 : valV ((p.1, v) :: ws) k = some v := by simp [valV, List.find?_cons, e]
      rw [e1, e2]
      exact ⟨fun d q => by cases q; exact ⟨v, rfl, h⟩, fun q => by cases q⟩
    · have e1 : valD (p :: kvs) k = valD kvs k := by simp [valD, List.find?_cons, e]
      have e2 : valV ((p.1, v) :: ws) k = valV ws k := by simp [valV, List.find?_cons, e]
      rw [e1, e2]; exact ih
theorem KvR.mapPut {k : Key} {d : PyData} {v : V} (h : Dn K φ H d v) : ∀ {kvs : List (Key × PyData)} {ws : List (Key × V)}, KvR K φ H kvs ws → KvR K φ H (kvs.map fun kv => if kv.1 = k then (kv.1, d) else kv) (ws.map fun kv => if kv.1 = k then (kv.1, v) else kv)
  | [], _, r => by rw [r.nil_inv]; exact .nil
  | p :: kvs, _, r => by
    obtain ⟨u, ws, rfl, hu, t⟩ := r.inv
    rw [List.map_cons, List.map_cons]
    by_cases e : p.1 = k
    · rw [if_pos e, if_pos e]; exact .cons h (KvR.mapPut h t)
    · rw [if_neg e, if_neg e]; exact .cons hu (KvR.mapPut h t)
theorem KvR.snoc {k : Key} {d : PyData} {v : V} (h : Dn K φ H d v) : ∀ {kvs : List (Key × PyData)} {ws : List (Key × V)}, KvR K φ H kvs ws → KvR K φ H (kvs ++ [(k, d)]) (ws ++ [(k, v)])
  | [], _, r => by rw [r.nil_inv]; exact .cons h .nil
  | p :: kvs, _, r => by
    obtain ⟨u, ws, rfl, hu, t⟩ := r.inv
    exact .cons hu (KvR.snoc h t)
theorem KvR.any {k : Key} : ∀ {kvs : List (Key × PyData)} {ws : List (Key × V)}, KvR K φ H kvs ws → (kvs.any fun kv => decide (kv.1 = k)) = (ws.any fun kv => decide (kv.1 = k))
  | [], _, r => by rw [r.nil_inv]; rfl
  | p :: kvs, _, r => by
    obtain ⟨u, ws, rfl, hu, t⟩ := r.inv
    rw [List.any_cons, List.any_cons, KvR.any t]
theorem KvR.put {k : Key} {d : PyData} {v : V} {kvs : List (Key × PyData)} {ws : List (Key × V)} (r : KvR K φ H kvs ws) (h : Dn K φ H d v) : KvR K φ H (putD kvs k d) (putK ws k v) := by
  unfold putD putK
  rw [r.any]
  split
  · exact r.mapPut h
  · exact r.snoc h
end
def dicOf (S : Sto) : D → Option (List (Key × PyData))
  | .p (.dict l) => unKv l
  | .ob i => match S[i]? with
    | some (.dic kvs) => some kvs
    | _ => none
  | _ => none
def lstOf (S : Sto) : D → Option (List PyData)
  | .p (.list l) => some l
  | .ob i => match S[i]? with
    | some (.lst l) => some l
    | _ => none
  | _ => none
/-- lists (also the script) and tuples -/
def seqOf (S : Sto) : D → Option (List PyData)
  | .p (.list l) => some l
  | .p (.tuple l) => some l
  | .ro l => some l
  | .ob i => match S[i]? with
    | some (.lst l) => some l
    | _ => none
  | _ => none
section
variable {K : PySem.W.Frag} {H : Hp} {G : Gh} {S : Sto}
theorem dicOf_den (rp : Rep K H G S) {d : D} {v : V} {kvs : List (Key × PyData)} (e : dicOf S d = some kvs) (h : Den K H G d v) : ∃ a ws, v = .ref a ∧ Rd H a (.dK ws) ∧ KvR K G.φ H kvs ws := by
  cases d with
  | p x =>
    cases x with
    | dict l =>
      obtain ⟨a, ws, rfl, f, ek, t⟩ := den_dic h (unKv_noT (show unKv l = some kvs from e))
      have el := unKv_eq (show unKv l = some kvs from e)
      subst el
      refine ⟨a, ws, rfl, .inr ⟨f.choose, f.choose_spec H rp.phi⟩, ?_, by rw [pyKv_vals] at t; exact t⟩
      rw [pyKv_keys] at ek
      have q := congrArg (List.map pyKey) ek
      simp only [List.map_map, Function.comp_def, pyKey_keyPy] at q
      have q2 := congrArg (List.filterMap id) q
      simpa [List.filterMap_map, Function.comp_def] using q2
    | _ => cases e
  | ob i =>
    simp only [dicOf] at e
    split at e
    · rename_i ks ei
      cases e
      obtain ⟨a, rfl, ha⟩ := h
      obtain ⟨ws, e1, e2, t⟩ := rp.ok i a _ ha ei
      exact ⟨a, ws, rfl, .inl e1, e2, t⟩
    · cases e
  | ro _ => cases e
  | ext _ => cases e
theorem lstOf_den (rp : Rep K H G S) {d : D} {v : V} {xs : List PyData} (e : lstOf S d = some xs) (h : Den K H G d v) : ∃ a vs, v = .ref a ∧ H a = some (.lst vs) ∧ DnAll K G.φ H xs vs := by
  cases d with
  | p x =>
    cases x with
    | list l =>
      cases e
      obtain ⟨a, vs, rfl, f, t⟩ := den_lst h
      exact ⟨a, vs, rfl, f H rp.phi, t⟩
    | _ => cases e
  | ob i =>
    simp only [lstOf] at e
    split at e
    · rename_i ks ei
      cases e
      obtain ⟨a, rfl, ha⟩ := h
      obtain ⟨vs, e1, t⟩ := rp.ok i a _ ha ei
      exact ⟨a, vs, rfl, e1, t⟩
    · cases e
  | ro _ => cases e
  | ext _ => cases e
theorem seqOf_den (rp : Rep K H G S) {d : D} {v : V} {xs : List PyData} (e : seqOf S d = some xs) (h : Den K H G d v) : ∃ a vs, v = .ref a ∧ (SqL K H a vs ∨ SqT K H a vs) ∧ DnAll K G.φ H xs vs := by
  cases d with
  | p x =>
    cases x with
    | list l =>
      cases e
      obtain ⟨a, vs, rfl, f, t⟩ := den_lst h
      exact ⟨a, vs, rfl, .inl (SqL.of (f H rp.phi)), t⟩
    | tuple l =>
      cases e
      obtain ⟨a, vs, rfl, f, t⟩ := den_tup h
      exact ⟨a, vs, rfl, .inr f, t⟩
    | _ => cases e
  | ob i =>
    simp only [seqOf] at e
    split at e
    · rename_i ks ei
      cases e
      obtain ⟨a, rfl, ha⟩ := h
      obtain ⟨vs, e1, t⟩ := rp.ok i a _ ha ei
      exact ⟨a, vs, rfl, .inl (SqL.of e1), t⟩
    · cases e
  | ro l =>
    cases e
    obtain ⟨a, vs, rfl, f, t⟩ := h
    exact ⟨a, vs, rfl, .inl (f H rp.phi), t⟩
  | ext _ => cases e
end
theorem atI_dn {K : PySem.W.Frag} {φ : List (Addr × HO)} {H : Hp} {xs : List PyData} {vs : List V} {i : Int} {d : PyData} (t : DnAll K φ H xs vs) (e : atI xs i = some d) : ∃ v, atI vs i = some v ∧ Dn K φ H d v := by
  unfold atI at e ⊢
  rw [← t.length]
  cases q : ixN xs.length i with
  | none => rw [q] at e; cases e
  | some j =>
    rw [q] at e
    exact t.get e
def opSubs : D → D → M D := fun x y S => match y with
  | .p (.int i) => match x with
    | .p (.str z) => if z.length ≤ LIM then (match atI z.cps.toList i with
      | some c => .ok (.p (.str ⟨#[c]⟩)) S
      | none => .bad) else .bad
    | x => match seqOf S x with
      | some xs => (match atI xs i with
        | some d => .ok (.p d) S
        | none => .bad)
      | none => match dicOf S x with
        | some kvs => (match valD kvs (.inl i) with
          | some d => .ok (.p d) S
          | none => .bad)
        | none => .bad
  | .p (.str k) => match dicOf S x with
    | some kvs => (match valD kvs (.inr k) with
      | some d => .ok (.p d) S
      | none => .bad)
    | none => .bad
  | _ => .bad
def rIxDic : R2 := fun x y H Q => ∃ a v, x = .ref a ∧ DGet H a y (some v) ∧ Q v H
section
variable {X : Cx} {W : WX} {a b : Expr} {f h : FE} {pos : Pos}
theorem ix_dic (hu : X.A.units + 1 < cLine) : IxR X rIxDic := by
  intro value slice pins s σ H x y v u Q I rx ry q hs
  obtain ⟨a, w, rfl, g, q⟩ := q
  cases rx
  exact PyProof.Rows.tail_any (dict_typeIs I g) PySem.F.slot_dict_getitem.lookup (d_getItem hu I g ry fun w' s3 I3 rw' => ⟨w, H, I3, rw', q⟩) hs
theorem sim_subs {K : PySem.W.Frag} : Sim2 K (fun x y H Q => rIx K x y H Q ∨ rIxDic x y H Q) opSubs := by
  intro W σ H G S x y v w Q rp dx dy q
  unfold opSubs at q
  split at q
  · rename_i i
    obtain rfl := den_int dy
    split at q
    · rename_i z
      obtain rfl := den_str dx
      by_cases hz : z.length ≤ LIM
      · rw [if_pos hz] at q
        split at q
        · rename_i c e
          exact .inl (.inr (.inr ⟨z, i, c, rfl, rfl, Nat.le_trans hz LIM_le, e, q.ret rp (.str _)⟩))
        · exact q.elim
      · rw [if_neg hz] at q; exact q.elim
    · split at q
      · rename_i xs es
        obtain ⟨a, vs, rfl, hq, t⟩ := seqOf_den rp es dx
        split at q
        · rename_i d e
          obtain ⟨v, e1, dv⟩ := atI_dn t e
          rcases hq with hq | hq
          · exact .inl (.inl ⟨a, vs, i, v, rfl, rfl, hq, e1, q.ret rp dv⟩)
          · exact .inl (.inr (.inl ⟨a, vs, i, v, rfl, rfl, hq, e1, q.ret rp dv⟩))
        · exact q.elim
      · split at q
        · rename_i kvs es
          obtain ⟨a, ws, rfl, hH, r⟩ := dicOf_den rp es dx
          split at q
          · rename_i d e
            obtain ⟨v, e1, dv⟩ := (r.val (k := .inl i)).1 d e
            refine .inr ⟨a, v, rfl, ?_, q.ret rp dv⟩
            rw [← e1]; exact .inl ⟨ws, Sum.inl i, hH, rfl, rfl⟩
          · exact q.elim
        · exact q.elim
  · rename_i k
    obtain rfl := den_str dy
    split at q
    · rename_i kvs es
      obtain ⟨a, ws, rfl, hH, r⟩ := dicOf_den rp es dx
      split at q
      · rename_i d e
        obtain ⟨v, e1, dv⟩ := (r.val (k := .inr k)).1 d e
        refine .inr ⟨a, v, rfl, ?_, q.ret rp dv⟩
        rw [← e1]; exact .inl ⟨ws, Sum.inr k, hH, rfl, rfl⟩
      · exact q.elim
    · exact q.elim
  · exact q.elim
theorem de_subs (hu : X.A.units + 1 < cLine) (ha : DE X W a f) (hb : DE X W b h) (hs : PlainIx b := by exact fun _ _ => rfl) : DE X W (.Subscript a b pos) (e2 opSubs f h) :=
  de_ix (ix_seq.or (ix_dic hu)) sim_subs ha hb hs
def flatP : PyData → Bool
  | .none => true
  | .bool _ => true
  | .int _ => true
  | .str _ => true
  | _ => false
def eqP : PyData → PyData → Bool
  | .none, .none => true
  | .bool a, .bool b => a == b
  | .bool a, .int b => (if a then 1 else 0) == b
  | .int a, .bool b => a == (if b then 1 else 0)
  | .int a, .int b => a == b
  | .str a, .str b => a == b
  | _, _ => false
def inP (x : PyData) (xs : List PyData) : Bool := xs.any fun y => eqP y x
theorem flat_dn {K : PySem.W.Frag} {φ : List (Addr × HO)} {H : Hp} {d : PyData} {v : V} (f : flatP d = true) (h : Dn K φ H d v) : flatV v = true := by
  cases h <;> first | rfl | cases f
theorem eq_dn {K : PySem.W.Frag} {φ : List (Addr × HO)} {H : Hp} {d e : PyData} {v w : V} (f : flatP d = true) (g : flatP e = true) (h : Dn K φ H d v) (k : Dn K φ H e w) : eqV v w = eqP d e := by
  cases h <;> first | exact absurd (show false = true from f) Bool.false_ne_true | (cases k <;> first | exact absurd (show false = true from g) Bool.false_ne_true | rfl)
theorem flat_all {K : PySem.W.Frag} {φ : List (Addr × HO)} {H : Hp} : ∀ {ds : List PyData} {vs : List V}, ds.all flatP = true → DnAll K φ H ds vs → vs.all flatV = true
  | _, _, _, .nil => rfl
  | _, _, f, .cons h t => by
    rw [List.all_cons, Bool.and_eq_true] at f ⊢
    exact ⟨flat_dn f.1 h, flat_all f.2 t⟩
theorem in_all {K : PySem.W.Frag} {φ : List (Addr × HO)} {H : Hp} {x : PyData} {v : V} (fx : flatP x = true) (hx : Dn K φ H x v) : ∀ {ds : List PyData} {vs : List V}, ds.all flatP = true → DnAll K φ H ds vs → inV v vs = inP x ds
  | _, _, _, .nil => rfl
  | _, _, f, .cons h t => by
    rw [List.all_cons, Bool.and_eq_true] at f
    show (eqV _ v || inV v _) = (eqP _ x || inP x _)
    rw [eq_dn f.1 fx h hx, in_all fx hx f.2 t]
/-- a text within a text -/
def inStr (i j : Str) : Bool := !(Builtin.Str.occurrences j i 0 j.length 1).isEmpty
def opIn (neg : Bool) : D → D → M D := fun x y S => match x with
  | .p a => match y, a with
    | .p (.str j), .str i => .ok (.p (.bool (if neg then !inStr i j else inStr i j))) S
    | y, a => match seqOf S y with
      | some xs => if flatP a && xs.all flatP then .ok (.p (.bool (if neg then !inP a xs else inP a xs))) S else .bad
      | none => match dicOf S y, pyKey a with
        | some kvs, some k => .ok (.p (.bool (if neg then !(valD kvs k).isSome else (valD kvs k).isSome))) S
        | _, _ => .bad
  | _ => .bad
def rInD (K : PySem.W.Frag) (neg : Bool) : R2 := fun x y H Q => (∃ i j, x = .str i ∧ y = .str j ∧ Q (.bl (if neg then !inStr i j else inStr i j)) H) ∨ rIn K neg x y H Q ∨ ∃ a ov, y = .ref a ∧ DGet H a x ov ∧ Q (.bl (if neg then !ov.isSome else ov.isSome)) H
theorem sim_in {K : PySem.W.Frag} (neg : Bool) : Sim2 K (rInD K neg) (opIn neg) := by
  intro W σ H G S x y v w Q rp dx dy q
  unfold opIn at q
  split at q
  · rename_i a
    split at q
    · rename_i j i
      obtain rfl := den_str dx
      obtain rfl := den_str dy
      exact .inl ⟨i, j, rfl, rfl, q.ret rp (.bl _)⟩
    · split at q
      · rename_i xs es
        by_cases hc : (flatP a && xs.all flatP) = true
        · rw [if_pos hc] at q
          rw [Bool.and_eq_true] at hc
          obtain ⟨b, vs, rfl, hq, t⟩ := seqOf_den rp es dy
          refine .inr (.inl ⟨b, vs, rfl, hq, flat_dn hc.1 dx, flat_all hc.2 t, ?_⟩)
          rw [in_all hc.1 dx hc.2 t]
          exact q.ret rp (.bl _)
        · rw [if_neg hc] at q; exact q.elim
      · split at q
        · rename_i kvs k es ek
          obtain ⟨b, ws, rfl, hH, r⟩ := dicOf_den rp es dy
          have ea := keyPy_of ek
          subst ea
          have ev : v = kV k := by
            cases k with
            | inl i => exact den_int dx
            | inr z => exact den_str dx
          subst ev
          have e1 : (valV ws k).isSome = (valD kvs k).isSome := by
            cases e : valD kvs k with
            | none => rw [(r.val (k := k)).2 e]; rfl
            | some d => obtain ⟨u, e1, _⟩ := (r.val (k := k)).1 d e; rw [e1]; rfl
          refine .inr (.inr ⟨b, valV ws k, rfl, .inl ⟨ws, k, hH, rfl, rfl⟩, ?_⟩)
          rw [e1]
          exact q.ret rp (.bl _)
        · exact q.elim
  · exact q.elim
theorem op_inD (hu : X.A.units + 1 < cLine) : OpR X (compareOp .In) (rInD X.K false) := by
  intro pins s σ H x y v u Q I rx ry q
  rcases q with q | q | ⟨a, ov, rfl, g, q⟩
  · exact op_in_str pins s σ H x y v u Q I rx ry q
  · exact op_in_seq pins s σ H x y v u Q I rx ry q
  · cases ry
    exact d_in hu I g rx fun s3 I3 => ⟨.bl ov.isSome, H, I3, rfl, q⟩
theorem op_notInD (hu : X.A.units + 1 < cLine) : OpR X (compareOp .NotIn) (rInD X.K true) := by
  intro pins s σ H x y v u Q I rx ry q
  rcases q with q | q | ⟨a, ov, rfl, g, q⟩
  · exact L2.op_notIn_str pins s σ H x y v u Q I rx ry q
  · exact op_notIn_seq pins s σ H x y v u Q I rx ry q
  · cases ry
    exact d_notIn hu I g rx fun s3 I3 => ⟨.bl (!ov.isSome), H, I3, rfl, q⟩
end
def tru (S : Sto) : D → Option Bool
  | .p .none => some false
  | .p (.bool b) => some b
  | .p (.int i) => some (i != 0)
  | .p (.str x) => if x.length ≤ LIM then some ((x.length : Int) != 0) else none
  | .p (.list xs) => some (!xs.isEmpty)
  | .p (.tuple xs) => some (!xs.isEmpty)
  | .p (.dict _) => none
  | .ro xs => some (!xs.isEmpty)
  | .ob i => match S[i]? with
    | some (.lst l) => some (!l.isEmpty)
    | some (.dic l) => some (!l.isEmpty)
    | _ => none
  | .ext _ => none
theorem DnAll.isEmpty {K : PySem.W.Frag} {φ : List (Addr × HO)} {H : Hp} {ds : List PyData} {vs : List V} (h : DnAll K φ H ds vs) : vs.isEmpty = ds.isEmpty := by cases h <;> rfl
theorem KvR.isEmpty {K : PySem.W.Frag} {φ : List (Addr × HO)} {H : Hp} {ds : List (Key × PyData)} {vs : List (Key × V)} (h : KvR K φ H ds vs) : vs.isEmpty = ds.isEmpty := by
  have := h.length
  cases ds <;> cases vs <;> first | rfl | (simp at this)
theorem tru_den {K : PySem.W.Frag} {H : Hp} {G : Gh} {S : Sto} (rp : Rep K H G S) {d : D} {v : V} {b : Bool} (e : tru S d = some b) (h : Den K H G d v) : TruV K v H b := by
  cases d with
  | p x =>
    cases x with
    | none => cases e; rw [den_none h]; rfl
    | bool c => cases e; rw [den_bool h]; rfl
    | int i => cases e; rw [den_int h]; rfl
    | str z =>
      simp only [tru] at e
      by_cases hz : z.length ≤ LIM
      · rw [if_pos hz] at e; cases e; rw [den_str h]; exact ⟨Nat.le_trans hz LIM_le, rfl⟩
      · rw [if_neg hz] at e; cases e
    | list l =>
      cases e
      obtain ⟨a, vs, rfl, f, t⟩ := den_lst h
      exact .inl ⟨vs, SqL.of (f H rp.phi), by rw [t.isEmpty]⟩
    | tuple l =>
      cases e
      obtain ⟨a, vs, rfl, f, t⟩ := den_tup h
      exact .inr (.inl ⟨vs, f, by rw [t.isEmpty]⟩)
    | dict l => cases e
  | ro l =>
    cases e
    obtain ⟨a, vs, rfl, f, t⟩ := h
    exact .inl ⟨vs, f H rp.phi, by rw [t.isEmpty]⟩
  | ob i =>
    obtain ⟨a, rfl, ha⟩ := h
    simp only [tru] at e
    split at e
    · rename_i l ei
      cases e
      obtain ⟨vs, e1, t⟩ := rp.ok i a _ ha ei
      exact .inl ⟨vs, SqL.of e1, by rw [t.isEmpty]⟩
    · rename_i l ei
      cases e
      obtain ⟨ws, e1, e2, t⟩ := rp.ok i a _ ha ei
      exact .inr (.inr ⟨ws, e1, by rw [KvR.isEmpty ⟨e2, t⟩]⟩)
    · cases e
  | ext _ => cases e
def truM : D → M Bool := fun d S => match tru S d with
  | some b => .ok b S
  | none => .bad
def tVal (f : FE) : FT := fun ρ S => (f ρ S).bind truM
def tAndD (f g : FT) : FT := fun ρ S => (f ρ S).bind fun b S1 => if b = true then g ρ S1 else .ok false S1
def tOrD (f g : FT) : FT := fun ρ S => (f ρ S).bind fun b S1 => if b = true then .ok true S1 else g ρ S1
def tNotD (f : FT) : FT := fun ρ S => (f ρ S).bind fun b S1 => .ok (!b) S1
def eIf (t : FT) (f g : FE) : FE := fun ρ S => (t ρ S).bind fun b S1 => if b = true then f ρ S1 else g ρ S1
def eAnd (f g : FE) : FE := fun ρ S => (f ρ S).bind fun d S1 => (truM d S1).bind fun b S2 => if b = true then g ρ S2 else .ok d S2
def eOr (f g : FE) : FE := fun ρ S => (f ρ S).bind fun d S1 => (truM d S1).bind fun b S2 => if b = true then .ok d S2 else g ρ S2
def eNot (f : FE) : FE := fun ρ S => (f ρ S).bind fun d S1 => (truM d S1).bind fun b S2 => .ok (.p (.bool (!b))) S2
section
variable {X : Cx} {W : WX} {a b c : Expr} {rest : List Expr} {f g : FE} {t u : FT} {pos : Pos}
theorem dt_val (ha : DE X W a f) (he : ∀ whole, isTrue a X.env whole = (do let v ← whole; standAt a.pos; holding [v] (truthy v)) := by intro _; rfl) : DT X W a (tVal f) := by
  refine ⟨PT.imp (pt_truth ha.run he) fun σ H Q ⟨G, S, ρ, rs, rp, q⟩ => ?_⟩
  refine ⟨G, S, ρ, rs, rp, (Aft.bind q).mono fun d H1 G1 S1 x1 r1 q1 v dv => ?_⟩
  unfold truM at q1
  split at q1
  · rename_i b e
    exact ⟨b, tru_den r1 e dv, q1 H1 G1 Ext.refl r1⟩
  · exact q1.elim
/-- a comparison as a test -/
theorem dt_cmp {op : CmpOp} {r : R2} {g2 : D → D → M D} (o : OpR X (compareOp op) r) (m : Sim2 X.K r g2) (ha : DE X W a f) (hb : DE X W b g) (hm : behindInMarks op b = false) : DT X W (.Compare a [op] [b] pos) (fun ρ S => (e2 g2 f g ρ S).bind fun d S1 => match d with | .p (.bool c) => .ok c S1 | _ => .bad) := by
  refine ⟨PT.imp (pt_cmpR o ha.run hb.run hm) fun σ H Q ⟨G, S, ρ, rs, rp, q⟩ => ?_⟩
  refine sim_op m ⟨G, S, ρ, rs, rp, (Aft.bind q).mono fun d H1 G1 S1 x1 r1 q1 v dv => ?_⟩
  split at q1
  · rename_i c
    exact ⟨c, den_bool dv, q1 H1 G1 Ext.refl r1⟩
  · exact q1.elim
theorem dt_and1 (ha : DT X W a t) : PW X (.BoolOp .And [a] pos) (rdT X.K W t) := pw_and1 ha.run
theorem dt_or1 (ha : DT X W a t) : PW X (.BoolOp .Or [a] pos) (rdT X.K W t) := pw_or1 ha.run
theorem PW.imp {e : Expr} {t t' : TT} (h : PW X e t) (i : ∀ σ H Q, t' σ H Q → t σ H Q) : PW X e t' := ⟨fun wh pins s σ H Q I q => h.run wh pins s σ H Q I (i σ H Q q)⟩
theorem dw_and (ha : DT X W a t) (hb : PW X (.BoolOp .And (b :: rest) pos) (rdT X.K W u)) : PW X (.BoolOp .And (a :: b :: rest) pos) (rdT X.K W (tAndD t u)) := by
  refine PW.imp (pw_and ha.run hb) fun σ H Q ⟨G, S, ρ, rs, rp, q⟩ => ?_
  refine ⟨G, S, ρ, rs, rp, (Aft.bind q).mono fun c H1 G1 S1 x1 r1 q1 => ?_⟩
  cases c with
  | true => exact ⟨G1, S1, ρ, x1.relS rp rs, r1, q1⟩
  | false => exact q1 H1 G1 Ext.refl r1
theorem dw_or (ha : DT X W a t) (hb : PW X (.BoolOp .Or (b :: rest) pos) (rdT X.K W u)) : PW X (.BoolOp .Or (a :: b :: rest) pos) (rdT X.K W (tOrD t u)) := by
  refine PW.imp (pw_or ha.run hb) fun σ H Q ⟨G, S, ρ, rs, rp, q⟩ => ?_
  refine ⟨G, S, ρ, rs, rp, (Aft.bind q).mono fun c H1 G1 S1 x1 r1 q1 => ?_⟩
  cases c with
  | false => exact ⟨G1, S1, ρ, x1.relS rp rs, r1, q1⟩
  | true => exact q1 H1 G1 Ext.refl r1
theorem dt_bool (h : PW X a (rdT X.K W t)) : DT X W a t := ⟨h.pt⟩
theorem dt_not (ha : DT X W a t) : DT X W (.UnaryOp .Not a pos) (tNotD t) := by
  refine ⟨PT.imp (pt_not ha.run) fun σ H Q ⟨G, S, ρ, rs, rp, q⟩ => ?_⟩
  exact ⟨G, S, ρ, rs, rp, (Aft.bind q).mono fun c H1 G1 S1 x1 r1 q1 => q1 H1 G1 Ext.refl r1⟩
theorem de_if (hc : DT X W c t) (ha : DE X W a f) (hb : DE X W b g) : DE X W (.IfExp c a b pos) (eIf t f g) := by
  refine ⟨PE.imp (pe_ifExp hc.run ha.run hb.run) fun σ H Q ⟨G, S, ρ, rs, rp, q⟩ => ?_⟩
  refine ⟨G, S, ρ, rs, rp, (Aft.bind q).mono fun c H1 G1 S1 x1 r1 q1 => ?_⟩
  cases c with
  | true => exact ⟨G1, S1, ρ, x1.relS rp rs, r1, q1⟩
  | false => exact ⟨G1, S1, ρ, x1.relS rp rs, r1, q1⟩
theorem de_one {op} (h : DE X W a f) : DE X W (.BoolOp op [a] pos) f := ⟨pe_one h.run⟩
theorem de_and (ha : DE X W a f) (hb : DE X W (.BoolOp .And (b :: rest) pos) g) : DE X W (.BoolOp .And (a :: b :: rest) pos) (eAnd f g) := by
  refine ⟨PE.imp (pe_andT ha.run hb.run) fun σ H Q ⟨G, S, ρ, rs, rp, q⟩ => ?_⟩
  refine ⟨G, S, ρ, rs, rp, (Aft.bind q).mono fun d H1 G1 S1 x1 r1 q1 v dv => ?_⟩
  unfold truM at q1
  split at q1
  · rename_i b e
    refine ⟨b, tru_den r1 e dv, ?_⟩
    cases b with
    | true => exact ⟨G1, S1, ρ, x1.relS rp rs, r1, q1⟩
    | false => exact Aft.ret q1 r1 dv
  · exact q1.elim
theorem de_or (ha : DE X W a f) (hb : DE X W (.BoolOp .Or (b :: rest) pos) g) : DE X W (.BoolOp .Or (a :: b :: rest) pos) (eOr f g) := by
  refine ⟨PE.imp (pe_orT ha.run hb.run) fun σ H Q ⟨G, S, ρ, rs, rp, q⟩ => ?_⟩
  refine ⟨G, S, ρ, rs, rp, (Aft.bind q).mono fun d H1 G1 S1 x1 r1 q1 v dv => ?_⟩
  unfold truM at q1
  split at q1
  · rename_i b e
    refine ⟨b, tru_den r1 e dv, ?_⟩
    cases b with
    | false => exact ⟨G1, S1, ρ, x1.relS rp rs, r1, q1⟩
    | true => exact Aft.ret q1 r1 dv
  · exact q1.elim
theorem de_not (ha : DE X W a f) : DE X W (.UnaryOp .Not a pos) (eNot f) := by
  refine ⟨PE.imp (pe_notT ha.run) fun σ H Q ⟨G, S, ρ, rs, rp, q⟩ => ?_⟩
  refine ⟨G, S, ρ, rs, rp, (Aft.bind q).mono fun d H1 G1 S1 x1 r1 q1 v dv => ?_⟩
  unfold truM at q1
  split at q1
  · rename_i b e
    exact ⟨b, tru_den r1 e dv, Aft.ret q1 r1 (.bl _)⟩
  · exact q1.elim
/-- the test of a comparison, by the comparison's data -/
def tC2 (g2 : D → D → M D) (f g : FE) : FT := fun ρ S => (e2 g2 f g ρ S).bind fun d S1 => match d with | .p (.bool c) => .ok c S1 | _ => .bad
theorem dt_lt (ha : DE X W a f) (hb : DE X W b g) : DT X W (.Compare a [.Lt] [b] pos) (tC2 opLt f g) := dt_cmp op_lt sim_cmp ha hb (nomark _)
theorem dt_gt (ha : DE X W a f) (hb : DE X W b g) : DT X W (.Compare a [.Gt] [b] pos) (tC2 opGt f g) := dt_cmp op_gt sim_cmp ha hb (nomark _)
theorem dt_ge (ha : DE X W a f) (hb : DE X W b g) : DT X W (.Compare a [.GtE] [b] pos) (tC2 opGe f g) := dt_cmp op_ge sim_cmp ha hb (nomark _)
end
end DL
namespace DL
open PySem L2
def Out.st {α : Type} (o : Out α) (ρ : Ev) (k : α → Sto → Option (Fl × Sto)) : Option (Fl × Sto) :=
  match o with
  | .ok a s => k a s
  | .err x s => some (.exc x ρ, s)
  | .bad => none
@[simp] theorem Out.st_ok {α : Type} (a : α) (s : Sto) (ρ : Ev) (k : α → Sto → Option (Fl × Sto)) : (Out.ok a s).st ρ k = k a s := rfl
@[simp] theorem Out.st_err {α : Type} (x : Exn) (s : Sto) (ρ : Ev) (k : α → Sto → Option (Fl × Sto)) : (Out.err x s : Out α).st ρ k = some (.exc x ρ, s) := rfl
@[simp] theorem Out.st_bad {α : Type} (ρ : Ev) (k : α → Sto → Option (Fl × Sto)) : (Out.bad : Out α).st ρ k = none := rfl
section
variable {K : PySem.W.Frag} {W : WX} {E : Ends} {H : Hp} {G : Gh} {S : Sto} {σ : St} {ρ : Ev}
theorem AftS.st {α : Type} {o : Out α} {k : α → Sto → Option (Fl × Sto)} (h : AftS K W E H G S (o.st ρ k)) (rs : RelS K H G ρ σ) (rp : Rep K H G S) : Aft K W σ H G S o fun a H1 G1 S1 => AftS K W E H1 G1 S1 (k a S1) := by
  cases o with
  | ok a S1 => exact fun H1 G1 x1 _ => AftS.ext (show AftS K W E H G S (k a S1) from h) x1
  | err x S1 => exact fun H1 G1 d x1 r1 e => h H1 G1 σ d x1 r1 (x1.relS rp rs) e
  | bad => exact h
theorem AftS.next {ρ' : Ev} {S' : Sto} (h : AftS K W E H G S (some (.next ρ', S'))) {H' : Hp} {G' : Gh} {σ' : St} (x : Ext H G S H' G' S') (r : Rep K H' G' S') (s : RelS K H' G' ρ' σ') : E.nx σ' H' := h H' G' σ' x r s
end
def sNext : FS := fun ρ S => some (.next ρ, S)
def sSeq (f g : FS) : FS := fun ρ S => match f ρ S with
  | some (.next ρ', S') => g ρ' S'
  | o => o
def sExpr (f : FE) : FS := fun ρ S => (f ρ S).st ρ fun _ S1 => some (.next ρ, S1)
def sRet (f : FE) : FS := fun ρ S => (f ρ S).st ρ fun d S1 => some (.ret d, S1)
def sSet (i : Nat) (f : FE) : FS := fun ρ S => (f ρ S).st ρ fun d S1 => some (.next (ρ.set i (some d)), S1)
def sIf (t : FT) (f g : FS) : FS := fun ρ S => (t ρ S).st ρ fun b S1 => if b = true then f ρ S1 else g ρ S1
section
variable {X : Cx} {W : WX} {e c : Expr} {st : Stmt} {sts as bs : List Stmt} {f : FE} {g h : FS} {t : FT} {pos : Pos}
theorem dss_nil : DSs X W [] sNext := ⟨PSs.imp pss_nil fun E σ H ⟨G, S, ρ, rs, rp, q⟩ => AftS.next q Ext.refl rp rs⟩
theorem AftS.seq {K : PySem.W.Frag} {E : Ends} {H : Hp} {G : Gh} {S : Sto} {ρ : Ev} (q : AftS K W E H G S (sSeq g h ρ S)) (rp : Rep K H G S) : AftS K W { E with nx := rdS K W h E } H G S (g ρ S) := by
  unfold sSeq at q
  cases eo : g ρ S with
  | none => rw [eo] at q; exact q
  | some p =>
    obtain ⟨fl, S1⟩ := p
    rw [eo] at q
    cases fl with
    | next ρ1 => exact fun H1 G1 σ1 x1 r1 s1 => ⟨G1, S1, ρ1, s1, r1, AftS.ext q x1⟩
    | ret d => exact q
    | brk ρ1 => exact q
    | cont ρ1 => exact q
    | exc x ρ1 => exact q
theorem dss_cons (h1 : DS X W st g) (h2 : DSs X W sts h) : DSs X W (st :: sts) (sSeq g h) :=
  ⟨PSs.imp (pss_cons h1.run h2.run) fun E σ H ⟨G, S, ρ, rs, rp, q⟩ => ⟨G, S, ρ, rs, rp, AftS.seq q rp⟩⟩
theorem dss_one (h1 : DS X W st g) : DSs X W [st] g := ⟨pss_one h1.run⟩
theorem ds_expr (he : DE X W e f) (hs : swapsWith e none pos.line X.env = pure false := by rfl) : DS X W (.Expr e pos) (sExpr f) :=
  ⟨PS.imp (ps_expr he.run hs) fun E σ H ⟨G, S, ρ, rs, rp, q⟩ => ⟨G, S, ρ, rs, rp, (AftS.st q rs rp).mono fun d H1 G1 S1 x1 r1 q1 v dv => AftS.next q1 Ext.refl r1 (x1.relS rp rs)⟩⟩
theorem ds_ret (he : DE X W e f) : DS X W (.Return (some e) pos) (sRet f) :=
  ⟨PS.imp (ps_ret he.run) fun E σ H ⟨G, S, ρ, rs, rp, q⟩ => ⟨G, S, ρ, rs, rp, (AftS.st q rs rp).mono fun d H1 G1 S1 x1 r1 q1 v dv => q1 H1 G1 v Ext.refl r1 dv⟩⟩
theorem ds_set {i : Nat} {x : Str} {pos' : Pos} (hN : X.N.Nodup) (hi : X.N[i]? = some x) (hx : Loc X.env.scope x) (he : DE X W e f) (hs : swapsWith e (some (.Name x pos')) pos.line X.env = pure false := by rfl)
    (hf : X.fn x = true ∨ X.env.scope.names.lookup x = some .local := by first | exact .inl rfl | exact .inr rfl | assumption) : DS X W (.Assign [.Name x pos'] e pos) (sSet i f) :=
  ⟨PS.imp (ps_set hN hi hx he.run hs hf) fun E σ H ⟨G, S, ρ, rs, rp, q⟩ => ⟨G, S, ρ, rs, rp, (AftS.st q rs rp).mono fun d H1 G1 S1 x1 r1 q1 v dv => AftS.next q1 Ext.refl r1 ((x1.relS rp rs).set dv i)⟩⟩
theorem ds_if (hc : DT X W c t) (ha : DSs X W as g) (hb : DSs X W bs h) : DS X W (.If c as bs pos) (sIf t g h) := by
  refine ⟨PS.imp (ps_if hc.run ha.run hb.run) fun E σ H ⟨G, S, ρ, rs, rp, q⟩ => ⟨G, S, ρ, rs, rp, (AftS.st q rs rp).mono fun b H1 G1 S1 x1 r1 q1 => ?_⟩⟩
  cases b with
  | true => exact ⟨G1, S1, ρ, x1.relS rp rs, r1, q1⟩
  | false => exact ⟨G1, S1, ρ, x1.relS rp rs, r1, q1⟩
def iceD (d : D) (S : Sto) : D × Sto := match d with
  | .ob j => match S[j]? with
    | some (.lst xs) => (.p (.list xs), S.set j .dead)
    | some (.dic kvs) => (.p (.dict (pyKv kvs)), S.set j .dead)
    | some (.ins nm fs) => (.p (insD nm fs), S.set j .dead)
    | _ => (d, S)
  | _ => (d, S)
theorem ice_den {K : PySem.W.Frag} {H : Hp} {G : Gh} {S : Sto} {d : D} {v : V} (rp : Rep K H G S) (dv : Den K H G d v) : (∃ G', Ext H G S H G' (iceD d S).2 ∧ Rep K H G' (iceD d S).2 ∧ Den K H G' (iceD d S).1 v) ∨ ∃ a ws, H a = some (.dK ws) ∧ ∀ od, ∃ G', Ext H G S (upd H a (.frz od (.dK ws))) G' (iceD d S).2 ∧ Rep K (upd H a (.frz od (.dK ws))) G' (iceD d S).2 ∧ Den K (upd H a (.frz od (.dK ws))) G' (iceD d S).1 v := by
  unfold iceD
  cases d with
  | p x => exact .inl ⟨G, Ext.refl, rp, dv⟩
  | ro x => exact .inl ⟨G, Ext.refl, rp, dv⟩
  | ext x => exact .inl ⟨G, Ext.refl, rp, dv⟩
  | ob j =>
    obtain ⟨a, rfl, ha⟩ := id dv
    cases e : S[j]? with
    | none => simp only [e]; exact .inl ⟨G, Ext.refl, rp, dv⟩
    | some m =>
      cases m with
      | dead => simp only [e]; exact .inl ⟨G, Ext.refl, rp, dv⟩
      | tab P q => simp only [e]; exact .inl ⟨G, Ext.refl, rp, dv⟩
      | lst xs =>
        simp only [e]
        obtain ⟨vs, e1, t⟩ := rp.ok j a _ ha e
        exact .inl ⟨⟨G.ι, (a, .lst vs) :: G.φ⟩, Ext.ice ha e (fun z => nomatch z), rp.ice ha e (fun z => nomatch z) e1, Dn.lst (fun _ q => q _ List.mem_cons_self) (t.mono (fun _ h => List.mem_cons_of_mem _ h) fun _ _ h => h)⟩
      | ins nm fs =>
        simp only [e]
        obtain ⟨C, dx, ws, c, pc, na, e1, e2, t⟩ := rp.ok j a _ ha e
        refine .inl ⟨⟨G.ι, (a, .ins C dx ws) :: G.φ⟩, Ext.ice ha e (fun z => nomatch z), rp.ice ha e (fun z => nomatch z) e1, Dn.ins (.pl List.mem_cons_self pc na) c ?_ ?_⟩
        · simpa [insF, List.map_map, Function.comp_def] using congrArg (List.map PyData.str) e2
        · have e3 : (insF fs).map (·.2) = fs.map (·.2) := by simp [insF]
          rw [e3]
          exact t.mono (fun _ h => List.mem_cons_of_mem _ h) fun _ _ h => h
      | dic kvs =>
        simp only [e]
        obtain ⟨ws, e1, e2, t⟩ := rp.ok j a _ ha e
        refine .inr ⟨a, ws, e1, fun od => ?_⟩
        have x1 := Ext.chg (o := .frz od (.dK ws)) (m' := .dic kvs) rp ha e (fun z => nomatch z)
        have xt : ∀ b vs, SqT K H b vs → SqT K (upd H a (.frz od (.dK ws))) b vs := fun b vs => x1.tup rp
        have hlt : j < S.length := (List.getElem?_eq_some_iff.mp e).1
        have r1 : Rep K (upd H a (.frz od (.dK ws))) G (S.set j .dead) := rp.chg ha e (fun z => nomatch z) (by show upd H a _ a ≠ none; rw [upd_same]; exact fun z => nomatch z)
        have x2 : Ext H G S (upd H a (.frz od (.dK ws))) ⟨G.ι, (a, .frz od (.dK ws)) :: G.φ⟩ (S.set j .dead) := by
          have y := Ext.chg (o := .frz od (.dK ws)) (m' := .dead) rp ha e (fun z => nomatch z)
          exact ⟨y.pre, fun _ h => List.mem_cons_of_mem _ h, y.frame, y.fresh, y.iot, fun q h => by
            rcases List.mem_cons.mp h with e' | h
            · rw [e']; exact .inr (.inr ⟨j, _, ha, e, fun z => nomatch z⟩)
            · exact .inl h⟩
        have nl : ¬ Live G (S.set j .dead) a := fun ⟨i, u, h1, h2, h3⟩ => by
          by_cases ei : j = i
          · subst ei
            rw [List.getElem?_set_self hlt] at h2
            cases h2
            exact h3 rfl
          · exact ei (Rep.chg.nodup_ix' rp.nd ha h1)
        refine ⟨⟨G.ι, (a, .frz od (.dK ws)) :: G.φ⟩, x2, ⟨r1.len, r1.nd, fun i b mo h1 h2 => OkO.ext (G := G) (fun _ h => List.mem_cons_of_mem _ h) (fun _ _ h => h) (fun _ h => h) (r1.ok i b mo h1 h2), fun q hq => ?_, fun q hq l => ?_⟩, Dn.dicOf ⟨od, fun _ q => q _ List.mem_cons_self⟩ e2 (t.mono (fun _ h => List.mem_cons_of_mem _ h) xt)⟩
        · rcases List.mem_cons.mp hq with e' | hq
          · subst e'; exact upd_same
          · exact r1.phi q hq
        · rcases List.mem_cons.mp hq with e' | hq
          · subst e'; exact nl l
          · exact r1.pnl q hq l
/-- an expression's value frozen -/
def eIce (f : FE) : FE := fun ρ S => (f ρ S).bind fun d S1 => .ok (iceD d S1).1 (iceD d S1).2
theorem de_ice (he : DE X W e f) : DE X W e (eIce f) := by
  refine ⟨PE.imp (PE.lk he.run) fun σ H Q ⟨G, S, ρ, rs, rp, q⟩ => ⟨G, S, ρ, rs, rp, (Aft.bind q).mono fun d H1 G1 S1 x1 r1 q1 v dv => ?_⟩⟩
  rcases ice_den r1 dv with ⟨G', x, r, dv'⟩ | ⟨a, ws, ha, h⟩
  · exact .inl (q1 H1 G' x r v dv')
  · refine .inr ⟨a, .dK ws, ha, trivial, fun od => ?_⟩
    obtain ⟨G', x, r, dv'⟩ := h od
    exact q1 _ G' x r v dv'
end
abbrev FG := D → Ev → Sto → Option (Ev × Sto)
abbrev FGs := List D → Ev → Sto → Option (Ev × Sto)
def AftG (K : PySem.W.Frag) (H : Hp) (G : Gh) (S : Sto) (o : Option (Ev × Sto)) (P : Ev → Hp → Gh → Sto → Prop) : Prop :=
  match o with
  | none => False
  | some (ρ', S') => ∀ H' G', Ext H G S H' G' S' → Rep K H' G' S' → P ρ' H' G' S'
def rdG (K : PySem.W.Frag) (vs : List Nat) (g : FG) : TG := fun v σ H Q => ∃ G S ρ d, RelS K H G ρ σ ∧ Rep K H G S ∧ Den K H G d v ∧ AftG K H G S (g d ρ S) fun ρ' H' G' _ => ∀ σ', RelS K H' G' ρ' σ' → wipe σ' vs = wipe σ vs → Q σ' H'
def rdGs (K : PySem.W.Frag) (vs : List Nat) (g : FGs) : TGs := fun us σ H Q => ∃ G S ρ ds, RelS K H G ρ σ ∧ Rep K H G S ∧ DenL K H G ds us ∧ AftG K H G S (g ds ρ S) fun ρ' H' G' _ => ∀ σ', RelS K H' G' ρ' σ' → wipe σ' vs = wipe σ vs → Q σ' H'
/-- the target stores in the places vs alone -/
structure DG (X : Cx) (vs : List Nat) (tg : Expr) (g : FG) : Prop where
  run : PG X tg (rdG X.K vs g)
structure DGs (X : Cx) (vs : List Nat) (tgs : List Expr) (g : FGs) : Prop where
  run : PGs X tgs (rdGs X.K vs g)
theorem PG.imp {X : Cx} {tg : Expr} {t t' : TG} (h : PG X tg t) (i : ∀ v σ H Q, t' v σ H Q → t v σ H Q) : PG X tg t' := ⟨fun pins s σ H v u Q I r q => h.run pins s σ H v u Q I r (i v σ H Q q)⟩
theorem PGs.imp {X : Cx} {tg : List Expr} {t t' : TGs} (h : PGs X tg t) (i : ∀ v σ H Q, t' v σ H Q → t v σ H Q) : PGs X tg t' := ⟨fun pins s σ H v u Q I r q => h.run pins s σ H v u Q I r (i v σ H Q q)⟩
theorem wipe_set (σ : St) (i : Nat) (x : Option V) : ∀ vs : List Nat, i ∈ vs → wipe (σ.set i x) vs = wipe σ vs
  | [], h => by cases h
  | v :: vs, h => by
    show (wipe (σ.set i x) vs).set v none = (wipe σ vs).set v none
    by_cases hv : i ∈ vs
    · rw [wipe_set σ i x vs hv]
    · have e : i = v := by rcases List.mem_cons.mp h with e | e; exact e; exact absurd e hv
      subst e
      have : ∀ (l : List Nat), i ∉ l → wipe (σ.set i x) l = (wipe σ l).set i x := by
        intro l
        induction l with
        | nil => intro _; rfl
        | cons a l ih =>
          intro hl
          show (wipe (σ.set i x) l).set a none = ((wipe σ l).set a none).set i x
          rw [ih (fun z => hl (List.mem_cons_of_mem _ z)), List.set_comm _ _ (fun z => hl (by rw [z]; exact List.mem_cons_self))]
      rw [this vs hv, List.set_set]
theorem wipe_wipe (σ : St) (vs : List Nat) : wipe (wipe σ vs) vs = wipe σ vs := by
  have : ∀ (l vs : List Nat), (∀ a ∈ l, a ∈ vs) → wipe (wipe σ l) vs = wipe σ vs := by
    intro l
    induction l with
    | nil => intro vs _; rfl
    | cons a l ih =>
      intro vs h
      show wipe ((wipe σ l).set a none) vs = wipe σ vs
      rw [wipe_set _ a none vs (h a List.mem_cons_self)]
      exact ih vs fun b hb => h b (List.mem_cons_of_mem _ hb)
  exact this vs vs fun _ h => h
def gN (i : Nat) : FG := fun d ρ S => some (ρ.set i (some d), S)
def gNils : FGs := fun ds ρ S => match ds with
  | [] => some (ρ, S)
  | _ => none
def gConss (g : FG) (h : FGs) : FGs := fun ds ρ S => match ds with
  | d :: r => match g d ρ S with
    | some (ρ1, S1) => h r ρ1 S1
    | none => none
  | [] => none
/-- a tuple (list) of n things is taken apart -/
def gTupD (n : Nat) (h : FGs) : FG := fun d ρ S => match d with
  | .p (.tuple xs) => if xs.length = n then h (xs.map .p) ρ S else none
  | _ => none
theorem DnAll.denL {K : PySem.W.Frag} {G : Gh} {H : Hp} : ∀ {ds : List PyData} {vs : List V}, DnAll K G.φ H ds vs → DenL K H G (ds.map .p) vs
  | _, _, .nil => .nil
  | _, _, .cons h t => .cons h t.denL
theorem AftG.ext {K : PySem.W.Frag} {H H1 : Hp} {G G1 : Gh} {S S1 : Sto} {o : Option (Ev × Sto)} {P : Ev → Hp → Gh → Sto → Prop} (h : AftG K H G S o P) (x : Ext H G S H1 G1 S1) : AftG K H1 G1 S1 o P := by
  match o with
  | none => exact h
  | some (ρ', S') => exact fun H' G' x' => h H' G' (x.trans x')
theorem AftG.mono {K : PySem.W.Frag} {H : Hp} {G : Gh} {S : Sto} {o : Option (Ev × Sto)} {P P' : Ev → Hp → Gh → Sto → Prop} (h : AftG K H G S o P) (f : ∀ ρ' H' G' S', Ext H G S H' G' S' → Rep K H' G' S' → P ρ' H' G' S' → P' ρ' H' G' S') : AftG K H G S o P' := by
  match o with
  | none => exact h
  | some (ρ', S') => exact fun H' G' x' r => f ρ' H' G' S' x' r (h H' G' x' r)
/-- o[i] = v of a list, of a dict -/
def setD : D → D → D → Sto → Option Sto := fun o i v S => match o, v with
  | .ob j, .p d => match S[j]?, i with
    | some (.lst xs), .p (.int k) => match ixN xs.length k with
      | some n => some (S.set j (.lst (xs.set n d)))
      | none => none
    | some (.dic kvs), .p k => match pyKey k with
      | some k' => if kvs.length < LIM then some (S.set j (.dic (putD kvs k' d))) else none
      | none => none
    | _, _ => none
  | _, _ => none
def gSubD (f h : FE) : FG := fun d ρ S => match f ρ S with
  | .ok o S1 => match h ρ S1 with
    | .ok i S2 => match setD o i d S2 with
      | some S3 => some (ρ, S3)
      | none => none
    | _ => none
  | _ => none
def rSetD : V → V → V → Hp → (Hp → Prop) → Prop := fun o i v H Q => rSetL o i v H Q ∨ ∃ a H', o = .ref a ∧ DPut H a i v H' ∧ Q H'
section
variable {X : Cx} {W : WX} {e : Expr} {es : List Expr} {f : FE} {g : FG} {h : FGs} {pos : Pos} {vs : List Nat}
theorem dg_name {i : Nat} {x : Str} (hN : X.N.Nodup) (hi : X.N[i]? = some x) (hx : Loc X.env.scope x) (hv : i ∈ vs) (hf : X.fn x = true ∨ X.env.scope.names.lookup x = some .local := by first | exact .inl rfl | exact .inr rfl | assumption) : DG X vs (.Name x pos) (gN i) :=
  ⟨PG.imp (pg_name hN hi hx hf) fun v σ H Q ⟨G, S, ρ, d, rs, rp, dv, q⟩ => q H G Ext.refl rp _ (rs.set dv i) (wipe_set σ i _ vs hv)⟩
theorem dgs_nil : DGs X vs [] gNils := by
  refine ⟨PGs.imp pgs_nil fun us σ H Q ⟨G, S, ρ, ds, rs, rp, dv, q⟩ => ?_⟩
  cases dv with
  | nil => exact ⟨rfl, q H G Ext.refl rp σ rs rfl⟩
  | cons _ _ => exact q.elim
theorem dgs_cons (h1 : DG X vs e g) (h2 : DGs X vs es h) (hs : (assignEach (e :: es) X.env).map (·.2) = assign e X.env :: (assignEach es X.env).map (·.2) := by rfl) : DGs X vs (e :: es) (gConss g h) := by
  refine ⟨PGs.imp (pgs_cons h1.run h2.run hs) fun us σ H Q ⟨G, S, ρ, ds, rs, rp, dv, q⟩ => ?_⟩
  cases dv with
  | nil => exact q.elim
  | cons d1 d2 =>
    rename_i d ds v us _x
    refine ⟨_, _, rfl, G, S, ρ, d, rs, rp, d1, ?_⟩
    have q : AftG X.K H G S (match g d ρ S with | some (ρ1, S1) => h ds ρ1 S1 | none => none) _ := q
    cases eg : g d ρ S with
    | none => rw [eg] at q; exact q
    | some p =>
      obtain ⟨ρ1, S1⟩ := p
      rw [eg] at q
      exact fun H1 G1 x1 r1 σ1 rs1 w1 => ⟨G1, S1, ρ1, ds, rs1, r1, x1.denL rp d2, (q.ext x1).mono fun ρ2 H2 G2 S2 x2 r2 q2 σ2 rs2 w2 => q2 σ2 rs2 (w2.trans w1)⟩
theorem dg_tup {n k : Nat} (hc : X.calm = true) (hg : DGs X vs es h) (hn : (assignEach es X.env).length = n := by rfl) (hst : (assignEach es X.env).findIdx? (·.1) = none := by rfl) : DG X vs (.Tuple es k pos) (gTupD n h) := by
  refine ⟨PG.imp (pg_tup hc hg.run hn hst) fun v σ H Q ⟨G, S, ρ, d, rs, rp, dv, q⟩ => ?_⟩
  unfold gTupD at q
  split at q
  · rename_i xs
    by_cases hl : xs.length = n
    · rw [if_pos hl] at q
      obtain ⟨a, us, rfl, hq, t⟩ := den_tup dv
      exact ⟨a, us, rfl, hq, by rw [← t.length]; exact hl, G, S, ρ, _, rs, rp, t.denL, q⟩
    · rw [if_neg hl] at q; exact q.elim
  · exact q.elim
theorem set_D (hu : X.A.units + 1 < cLine) : PSet X rSetD := by
  intro pins s σ H o i v ov iv u Q I ro ri rv q
  rcases q with q | ⟨a, H', rfl, g, q⟩
  · exact set_list pins s σ H o i v ov iv u Q I ro ri rv q
  · cases ro
    exact d_setItem hu I g ri rv fun s' I' => ⟨H', I', q⟩
theorem setD_den {K : PySem.W.Frag} {H : Hp} {G : Gh} {S S' : Sto} {o i d : D} {ov iv v : V} (rp : Rep K H G S) (e : setD o i d S = some S') (ho : Den K H G o ov) (hi : Den K H G i iv) (hd : Den K H G d v) {Q : Hp → Prop}
    (q : ∀ H', Ext H G S H' G S' → Rep K H' G S' → Q H') : rSetD ov iv v H Q := by
  unfold setD at e
  split at e
  · rename_i j x
    obtain ⟨a, rfl, ha⟩ := ho
    split at e
    · rename_i xs k em
      obtain rfl := den_int hi
      obtain ⟨us, e1, t⟩ := rp.ok j a _ ha em
      split at e
      · rename_i n en
        cases e
        refine .inl ⟨a, us, k, n, rfl, rfl, e1, by rw [← t.length]; exact en, ?_⟩
        have x := Ext.chg (o := .lst (us.set n v)) (m' := .lst (xs.set n x)) rp ha em (fun z => nomatch z)
        exact q _ x (rp.chg ha em (fun z => nomatch z) ⟨_, upd_same, x.dnAll rp (t.set hd n)⟩)
      · cases e
    · rename_i kvs k em
      obtain ⟨ws, e1, e2, t⟩ := rp.ok j a _ ha em
      have r : KvR K G.φ H kvs ws := ⟨e2, t⟩
      split at e
      · rename_i k' ek
        by_cases hl : kvs.length < LIM
        · rw [if_pos hl] at e
          cases e
          have ea := keyPy_of ek
          subst ea
          have ev : iv = kV k' := by
            cases k' with
            | inl i => exact den_int hi
            | inr z => exact den_str hi
          subst ev
          refine .inr ⟨a, _, rfl, DPut.k e1 (by rw [← r.length]; exact Nat.lt_trans hl LIM_lt), ?_⟩
          have rr := r.put (k := k') hd
          have x := Ext.chg (o := .dK (putK ws k' v)) (m' := .dic (putD kvs k' x)) rp ha em (fun z => nomatch z)
          exact q _ x (rp.chg ha em (fun z => nomatch z) ⟨_, upd_same, rr.ks, x.dnAll rp rr.vs⟩)
        · rw [if_neg hl] at e; cases e
      · cases e
    · cases e
  · cases e
theorem Aft.of_ok {α : Type} {K : PySem.W.Frag} {σ : St} {H : Hp} {G : Gh} {S : Sto} {o : Out α} {a : α} {S' : Sto} {P : α → Hp → Gh → Sto → Prop} (e : o = .ok a S') (h : ∀ H' G', Ext H G S H' G' S' → Rep K H' G' S' → P a H' G' S') : Aft K W σ H G S o P := by
  rw [e]; exact h
theorem dg_sub {o i : Expr} {fo fi : FE} (hu : X.A.units + 1 < cLine) (ho : DE X W o fo) (hi : DE X W i fi) (ha : ∀ v, assign (.Subscript o i pos) X.env v = (do
      let ov ← holding [v] (eval o X.env)
      let iv ← holding [v, ov] (eval i X.env)
      standAt pos
      holding [v, ov, iv] (setItem ov iv v)
      release [v, ov, iv] []) := by intro _; rfl) : DG X vs (.Subscript o i pos) (gSubD fo fi) := by
  refine ⟨PG.imp (pg_sub ho.run hi.run (set_D hu) ha) fun v σ H Q ⟨G, S, ρ, d, rs, rp, dv, q⟩ => ?_⟩
  unfold gSubD at q
  split at q
  · rename_i od S1 e1
    split at q
    · rename_i id S2 e2
      split at q
      · rename_i S3 e3
        refine ⟨G, S, ρ, rs, rp, Aft.of_ok e1 fun H1 G1 x1 r1 ov dov => ?_⟩
        refine ⟨G1, S1, ρ, x1.relS rp rs, r1, Aft.of_ok e2 fun H2 G2 x2 r2 iv div => ?_⟩
        refine setD_den r2 e3 (x2.den r1 dov) div ((x1.trans x2).den rp dv) fun H3 x3 r3 => ?_
        exact q H3 G2 ((x1.trans x2).trans x3) r3 σ (((x1.trans x2).trans x3).relS rp rs) rfl
      · exact q.elim
    · exact q.elim
  · exact q.elim
end
def sAsg (f : FE) (g : FG) : FS := fun ρ S => (f ρ S).st ρ fun d S1 => match g d ρ S1 with
  | some (ρ', S2) => some (.next ρ', S2)
  | none => none
def sAsgs (f : FA) (g : FGs) : FS := fun ρ S => (f ρ S).st ρ fun ds S1 => match g ds ρ S1 with
  | some (ρ', S2) => some (.next ρ', S2)
  | none => none
section
variable {X : Cx} {W : WX} {e tg : Expr} {es ts : List Expr} {f : FE} {fa : FA} {g : FG} {h : FGs} {pos : Pos} {vs : List Nat}
theorem AftS.tgt {K : PySem.W.Frag} {E : Ends} {H : Hp} {G : Gh} {S : Sto} {σ : St} {o : Option (Ev × Sto)} (q : AftS K W E H G S (match o with | some (ρ', S2) => some (.next ρ', S2) | none => none)) :
    AftG K H G S o fun ρ' H' G' _ => ∀ σ', RelS K H' G' ρ' σ' → wipe σ' vs = wipe σ vs → E.nx σ' H' := by
  match o with
  | none => exact q
  | some (ρ', S') => exact fun H' G' x r σ' rs _ => AftS.next q x r rs
theorem ds_asg (he : DE X W e f) (hg : DG X vs tg g) (hs : swapsWithSole [tg] e pos.line X.env = pure false := by rfl) (hw : swappedStores [tg] e X.env = pure none := by rfl)
    (h1 : (assignEach [tg] X.env).map (·.2) = [assign tg X.env] := by rfl) : DS X W (.Assign [tg] e pos) (sAsg f g) := by
  refine ⟨PS.imp (ps_asg he.run hg.run hs hw h1) fun E σ H ⟨G, S, ρ, rs, rp, q⟩ => ⟨G, S, ρ, rs, rp, (AftS.st q rs rp).mono fun d H1 G1 S1 x1 r1 q1 v dv => ?_⟩⟩
  exact ⟨G1, S1, ρ, d, x1.relS rp rs, r1, dv, AftS.tgt q1⟩
/-- (a, b, ..) = (x, y, ..), by a tuple that is taken apart at once -/
theorem ds_asgTT {n k k' : Nat} {p1 p2 : Pos} (hc : X.calm = true) (ha : DA X W es fa) (hg : DGs X vs ts h) (hl : ts.length = es.length := by rfl) (hn : (assignEach ts X.env).length = n := by rfl) (hst : (assignEach ts X.env).findIdx? (·.1) = none := by rfl)
    (hd : ∀ (ds : List D) ρ S ρ' S', h ds ρ S = some (ρ', S') → ds.length = n) (h100 : n ≤ 100 := by decide)
    (hs : swapsWithSole [.Tuple ts k p1] (.Tuple es k' p2) pos.line X.env = pure false := by rfl) (hw : swappedStores [.Tuple ts k p1] (.Tuple es k' p2) X.env = pure none := by rfl)
    (h1 : (assignEach [.Tuple ts k p1] X.env).map (·.2) = [assign (.Tuple ts k p1) X.env] := by rfl) : DS X W (.Assign [.Tuple ts k p1] (.Tuple es k' p2) pos) (sAsgs fa h) := by
  refine ⟨PS.imp (ps_asg (pe_tup ha.run) (pg_tup hc hg.run hn hst) hs hw h1) fun E σ H ⟨G, S, ρ, rs, rp, q⟩ => ⟨G, S, ρ, rs, rp, (AftS.st q rs rp).mono fun ds H1 G1 S1 x1 r1 q1 us dv => ?_⟩⟩
  cases eo : h ds ρ S1 with
  | none => rw [eo] at q1; exact q1.elim
  | some p =>
    obtain ⟨ρ', S2⟩ := p
    have hlen := hd ds ρ S1 ρ' S2 eo
    have hul : us.length = n := by rw [← dv.length]; exact hlen
    refine ⟨by rw [hul]; exact Nat.le_trans h100 (Nat.le_trans (by decide) LIM_le), fun p hp => ⟨p, us, rfl, SqT.of upd_same, hul, ?_⟩⟩
    have x2 := Ext.other (o := .tup us) r1 hp
    have r2 := Rep.other (o := .tup us) r1 hp
    refine ⟨G1, S1, ρ, ds, x2.relS r1 (x1.relS rp rs), r2, x2.denL r1 dv, ?_⟩
    exact (AftS.tgt q1).ext x2
end
end DL
namespace DL
open PySem L2
def W0 : WX := fun _ _ _ _ => False
/-- no exception may come out of it -/
def noErr {α : Type} : Out α → Out α
  | .ok a s => .ok a s
  | _ => .bad
@[simp] theorem noErr_ok {α : Type} (a : α) (s : Sto) : noErr (.ok a s) = .ok a s := rfl
theorem Aft.noErr {α : Type} {K : PySem.W.Frag} {W W' : WX} {σ σ' : St} {H : Hp} {G : Gh} {S : Sto} {o : Out α} {P : α → Hp → Gh → Sto → Prop} (h : Aft K W σ H G S (noErr o) P) : Aft K W' σ' H G S o P := by
  cases o with
  | ok a s => exact h
  | err x s => exact h.elim
  | bad => exact h.elim
section
variable {X : Cx} {W : WX} {a b : Expr} {fa : FA} {pos : Pos}
theorem lenNil : ∀ (ds : List D) ρ S ρ' S', gNils ds ρ S = some (ρ', S') → ds.length = 0 := by
  intro ds ρ S ρ' S' h
  cases ds with
  | nil => rfl
  | cons _ _ => cases h
theorem lenCons {g : FG} {h : FGs} {n : Nat} (i : ∀ (ds : List D) ρ S ρ' S', h ds ρ S = some (ρ', S') → ds.length = n) : ∀ (ds : List D) ρ S ρ' S', gConss g h ds ρ S = some (ρ', S') → ds.length = n + 1 := by
  intro ds ρ S ρ' S' q
  cases ds with
  | nil => cases q
  | cons d r =>
    simp only [gConss] at q
    split at q
    · rename_i ρ1 S1 e
      rw [List.length_cons, i r ρ1 S1 ρ' S' q]
    · cases q
theorem ds_par {i j : Nat} {x y : Str} {px py pt : Pos} {kt k2 pt2} (hc : X.calm = true) (hN : X.N.Nodup) (hi : X.N[i]? = some x) (hj : X.N[j]? = some y) (hij : i ≠ j)
    (hx : X.env.scope.names.lookup x = some .local) (hy : X.env.scope.names.lookup y = some .local) (ha : DA X W [a, b] fa)
    (hw : swappedStores [.Tuple [.Name x px, .Name y py] kt pt] (.Tuple [a, b] k2 pt2) X.env = pure (some [x, y]) := by rfl)
    (hs : swapsWithSole [.Tuple [.Name x px, .Name y py] kt pt] (.Tuple [a, b] k2 pt2) pos.line X.env = pure false := by rfl) :
    DS X W (.Assign [.Tuple [.Name x px, .Name y py] kt pt] (.Tuple [a, b] k2 pt2) pos) (sAsgs fa (gConss (gN i) (gConss (gN j) gNils))) := by
  refine ⟨PS.imp (ps_par hc hN hi hj hij hx hy ha.run hw hs) fun E σ H ⟨G, S, ρ, rs, rp, q⟩ => ⟨G, S, ρ, rs, rp, (AftS.st q rs rp).mono fun ds H1 G1 S1 x1 r1 q1 us dv => ?_⟩⟩
  cases dv with
  | nil => exact q1.elim
  | cons d1 t1 =>
    cases t1 with
    | nil => exact q1.elim
    | cons d2 t2 =>
      cases t2 with
      | nil => exact ⟨_, _, rfl, AftS.next q1 Ext.refl r1 (((x1.relS rp rs).set d1 i).set d2 j)⟩
      | cons _ _ => exact q1.elim
end
def whileD : Nat → FT → FS → FS
  | 0, _, _ => fun _ _ => none
  | n + 1, t, b => fun ρ S => (t ρ S).st ρ fun c S1 => if c = true then (match b ρ S1 with
      | some (.next ρ', S2) => whileD n t b ρ' S2
      | some (.cont ρ', S2) => whileD n t b ρ' S2
      | some (.brk ρ', S2) => some (.next ρ', S2)
      | o => o) else some (.next ρ, S1)
section
variable {X : Cx} {W : WX} {c : Expr} {body : List Stmt} {t : FT} {b : FS} {pos : Pos}
theorem ds_while (n : Nat) (hp : PassesOwn (model X.prog X.w) X.A X.env X.xe) (hc : DT X W c t) (hb : DSs X W body b) : DS X W (.While c body [] pos) (whileD n t b) := by
  refine ⟨PS.imp (ps_while hp hc.run hb.run) fun E σ H ⟨G, S, ρ, rs, rp, q⟩ => ?_⟩
  refine ⟨fun m σ H => ∃ G S ρ, RelS X.K H G ρ σ ∧ Rep X.K H G S ∧ AftS X.K W E H G S (whileD m t b ρ S), ⟨n, G, S, ρ, rs, rp, q⟩, ?_⟩
  rintro m σ H ⟨G, S, ρ, rs, rp, q⟩
  cases m with
  | zero => exact q.elim
  | succ m =>
    refine ⟨G, S, ρ, rs, rp, (AftS.st q rs rp).mono fun d H1 G1 S1 x1 r1 q1 => ?_⟩
    cases d with
    | false => exact AftS.next q1 Ext.refl r1 (x1.relS rp rs)
    | true =>
      refine ⟨fun σ' H' => ∃ G S ρ, RelS X.K H' G ρ σ' ∧ Rep X.K H' G S ∧ AftS X.K W E H' G S (whileD m t b ρ S), fun σ' H' h => ⟨m, Nat.lt_succ_self m, h⟩, G1, S1, ρ, x1.relS rp rs, r1, ?_⟩
      have q1 : AftS X.K W E H1 G1 S1 (match b ρ S1 with
        | some (.next ρ', S2) => whileD m t b ρ' S2
        | some (.cont ρ', S2) => whileD m t b ρ' S2
        | some (.brk ρ', S2) => some (.next ρ', S2)
        | o => o) := q1
      cases eo : b ρ S1 with
      | none => rw [eo] at q1; exact q1
      | some p =>
        obtain ⟨fl, S2⟩ := p
        rw [eo] at q1
        cases fl with
        | next ρ1 => exact fun H2 G2 σ2 x2 r2 s2 => ⟨G2, S2, ρ1, s2, r2, AftS.ext q1 x2⟩
        | cont ρ1 => exact fun H2 G2 σ2 x2 r2 s2 => ⟨G2, S2, ρ1, s2, r2, AftS.ext q1 x2⟩
        | brk ρ1 => exact q1
        | ret d => exact q1
        | exc x ρ1 => exact q1
end
structure Gives (K : PySem.W.Frag) (J : It) (H0 : Hp) (G0 : Gh) (S0 : Sto) (ds : List D) : Prop where
  go : ∀ (H : Hp) (G : Gh) (S : Sto), Ext H0 G0 S0 H G S → Rep K H G S → ∀ (i : Nat), i < ds.length → J.go i H
  yld : ∀ (H : Hp) (G : Gh) (S : Sto), Ext H0 G0 S0 H G S → Rep K H G S → ∀ (i : Nat) (d : D), ds[i]? = some d → ∀ x H', J.yld i H x H' → Ext H G S H' G S ∧ Rep K H' G S ∧ Den K H' G d x ∧ (H' = H ∨ ∃ T o, H T = none ∧ H' = upd H T o)
  stop : ∀ (H : Hp) (G : Gh) (S : Sto), Ext H0 G0 S0 H G S → Rep K H G S → J.stop ds.length H
abbrev FI := Ev → M (List D)
def rdI (K : PySem.W.Frag) (W : WX) (f : FI) : TI := fun σ H R => ∃ G S ρ, RelS K H G ρ σ ∧ Rep K H G S ∧ Aft K W σ H G S (f ρ S) fun ds H' G' S' => ∀ J, Gives K J H' G' S' ds → R J H'
structure DI (X : Cx) (W : WX) (tg iter : Expr) (f : FI) : Prop where
  run : PI X tg iter (rdI X.K W f)
theorem PI.imp {X : Cx} {tg iter : Expr} {t t' : TI} (h : PI X tg iter t) (i : ∀ σ H R, t' σ H R → t σ H R) : PI X tg iter t' := ⟨fun pins s σ H R I q => h.run pins s σ H R I (i σ H R q)⟩
/-- a list that stays, a tuple -/
theorem gives_list {K : PySem.W.Frag} {H : Hp} {G : Gh} {S : Sto} {a : Addr} {vs : List V} {xs : List PyData} (rp : Rep K H G S) (f : RL K G.φ a vs) (t : DnAll K G.φ H xs vs) : Gives K (Itl K a) H G S (xs.map .p) where
  go := fun H1 G1 S1 x r i hi => by
    rw [List.length_map, t.length] at hi
    exact ⟨vs, vs[i], (f.mono x.phi) H1 r.phi, by simp [hi]⟩
  yld := fun H1 G1 S1 x r i d e v H' y => by
    obtain ⟨e1, y⟩ := y
    subst e1
    have e2 := y vs ((f.mono x.phi) _ r.phi)
    obtain ⟨d', ed, dn⟩ := (x.dnAll rp t).getV e2
    rw [List.getElem?_map, ed] at e
    cases e
    exact ⟨Ext.refl, r, dn, .inl rfl⟩
  stop := fun H1 G1 S1 x r => by
    rw [List.length_map, t.length]
    exact ⟨vs, (f.mono x.phi) H1 r.phi, Nat.le_refl _⟩
theorem gives_tup {K : PySem.W.Frag} {H : Hp} {G : Gh} {S : Sto} {a : Addr} {vs : List V} {xs : List PyData} (rp : Rep K H G S) (f : SqT K H a vs) (t : DnAll K G.φ H xs vs) : Gives K (Itt K a) H G S (xs.map .p) where
  go := fun H1 G1 S1 x r i hi => by
    rw [List.length_map, t.length] at hi
    exact ⟨vs, vs[i], x.tup rp f, by simp [hi]⟩
  yld := fun H1 G1 S1 x r i d e v H' y => by
    obtain ⟨e1, y⟩ := y
    subst e1
    have e2 := y vs (x.tup rp f)
    obtain ⟨d', ed, dn⟩ := (x.dnAll rp t).getV e2
    rw [List.getElem?_map, ed] at e
    cases e
    exact ⟨Ext.refl, r, dn, .inl rfl⟩
  stop := fun H1 G1 S1 x r => by
    rw [List.length_map, t.length]
    exact ⟨vs, x.tup rp f, Nat.le_refl _⟩
theorem gives_range {K : PySem.W.Frag} {H : Hp} {G : Gh} {S : Sto} {lo : Int} {n : Nat} : Gives K (Itr lo n) H G S ((List.range n).map fun i : Nat => D.p (.int (lo + (i : Int)))) where
  go := fun H1 G1 S1 x r i hi => by simpa [Itr] using hi
  yld := fun H1 G1 S1 x r i d e v H' y => by
    obtain ⟨e1, e2⟩ := y
    subst e1 e2
    rw [List.getElem?_map] at e
    by_cases hi : i < n
    · rw [List.getElem?_range hi] at e
      cases e
      exact ⟨Ext.refl, r, .int _, .inl rfl⟩
    · rw [List.getElem?_eq_none (by simpa using hi)] at e; cases e
  stop := fun H1 G1 S1 x r => by simp [Itr]
theorem gives_str {K : PySem.W.Frag} {H : Hp} {G : Gh} {S : Sto} {z : Str} : Gives K (Its z) H G S (z.cps.toList.map fun c => D.p (.str ⟨#[c]⟩)) where
  go := fun H1 G1 S1 x r i hi => by simpa [Its] using hi
  yld := fun H1 G1 S1 x r i d e v H' y => by
    obtain ⟨e1, c, e2, e3⟩ := y
    subst e1 e3
    rw [List.getElem?_map, Array.getElem?_toList, e2] at e
    cases e
    exact ⟨Ext.refl, r, .str _, .inl rfl⟩
  stop := fun H1 G1 S1 x r => by simp [Its]
/-- x in (a list, a tuple, a text) -/
def itM : D → M (List D) := fun d S => match d with
  | .p (.list xs) => .ok (xs.map .p) S
  | .ro xs => .ok (xs.map .p) S
  | .p (.tuple xs) => .ok (xs.map .p) S
  | .p (.str z) => .ok (z.cps.toList.map fun c => D.p (.str ⟨#[c]⟩)) S
  | _ => .bad
def iSeq (f : FE) : FI := fun ρ S => (f ρ S).bind itM
def rangeM : List D → M (List D) := fun ds S => match ds with
  | [.p (.int j)] => if -1000000 ≤ j ∧ j ≤ 1000000 then .ok ((List.range j.toNat).map fun i : Nat => D.p (.int (0 + (i : Int)))) S else .bad
  | _ => .bad
def iRange (f : FA) : FI := fun ρ S => (f ρ S).bind rangeM
section
variable {X : Cx} {W : WX} {l tg : Expr} {f : FE} {pos : Pos}
/-- whatever is walked: a list, a tuple, a text -/
theorem pi_any {t : TE} (hl : PE X l t) : PI X tg l (fun σ H R => t σ H fun x H1 => (∃ a, x = .ref a ∧ (∃ xs, SqL X.K H1 a xs) ∧ R (Itl X.K a) H1) ∨ (∃ a, x = .ref a ∧ (∃ xs, SqT X.K H1 a xs) ∧ R (Itt X.K a) H1) ∨ ∃ z, x = .str z ∧ R (Its z) H1) := by
  refine ⟨fun pins s σ H R I h => ?_⟩
  refine thn (hl.run pins s σ H _ I h) fun v s1 ⟨x, H1, I1, r1, q1⟩ => ?_
  rcases q1 with ⟨a, rfl, ⟨xs, hq⟩, q⟩ | ⟨a, rfl, ⟨xs, hq⟩, q⟩ | ⟨z, rfl, q⟩
  · cases r1
    obtain ⟨its, rv, p, hz⟩ := I1.list hq
    refine wpAny_pyIter_list p.isList ⟨s1.heap.objs.size, [s1.heap.objs.size], _, _, H1, rfl, I1.kept (t' := s1.toks) fun b o e => Heap.get?_push_of_some _ e, turn_list a _, ⟨_, Heap.get?_push_size _ rfl, rfl, rfl⟩, fun b hb => ?_, q⟩
    obtain rfl : b = s1.heap.objs.size := by simpa using hb
    exact I1.fpOk (Nat.le_refl _) (I1.hok.fresh (Nat.le_refl _))
  · cases r1
    obtain ⟨its, rv, p, hz⟩ := I1.tuple hq
    refine wpAny_pyIter_tuple (show s1.heap.IsTuple a its.toArray from p) ⟨s1.heap.objs.size, [s1.heap.objs.size], _, _, H1, rfl, I1.kept (t' := s1.toks) fun b o e => Heap.get?_push_of_some _ e, turn_tuple a _, ⟨_, Heap.get?_push_size _ rfl, rfl, rfl⟩, fun b hb => ?_, q⟩
    obtain rfl : b = s1.heap.objs.size := by simpa using hb
    exact I1.fpOk (Nat.le_refl _) (I1.hok.fresh (Nat.le_refl _))
  · obtain ⟨t, rfl⟩ := r1
    cases ha : z.cps.all (· < 128)
    · exact wpAny_pyIter_wide ha (pi_one (tk := s1.toks) I1 _ (turn_str _ z t "str_iterator" (.inr rfl)) ⟨_, Heap.get?_push_size _ rfl, rfl, rfl⟩ q)
    · exact wpAny_pyIter_ascii ha (pi_one (tk := s1.toks) I1 _ (turn_str _ z t "str_ascii_iterator" (.inl rfl)) ⟨_, Heap.get?_push_size _ rfl, rfl, rfl⟩ q)
theorem di_seq (he : DE X W l f) : DI X W tg l (iSeq f) := by
  refine ⟨PI.imp (pi_any he.run) fun σ H R ⟨G, S, ρ, rs, rp, q⟩ => ⟨G, S, ρ, rs, rp, (Aft.bind q).mono fun d H1 G1 S1 x1 r1 q1 v dv => ?_⟩⟩
  unfold itM at q1
  split at q1
  · obtain ⟨a, vs, rfl, fl, t⟩ := den_lst dv
    exact .inl ⟨a, rfl, ⟨vs, SqL.of (fl H1 r1.phi)⟩, q1 H1 G1 Ext.refl r1 _ (gives_list r1 (fun H' h' => SqL.of (fl H' h')) t)⟩
  · obtain ⟨a, vs, rfl, fl, t⟩ := dv
    exact .inl ⟨a, rfl, ⟨vs, fl H1 r1.phi⟩, q1 H1 G1 Ext.refl r1 _ (gives_list r1 fl t)⟩
  · obtain ⟨a, vs, rfl, fl, t⟩ := den_tup dv
    exact .inr (.inl ⟨a, rfl, ⟨vs, fl⟩, q1 H1 G1 Ext.refl r1 _ (gives_tup r1 fl t)⟩)
  · rename_i z
    obtain rfl := den_str dv
    exact .inr (.inr ⟨z, rfl, q1 H1 G1 Ext.refl r1 _ gives_str⟩)
  · exact q1.elim
end
section
variable {X : Cx} {W : WX} {a tg : Expr} {f : FE} {p pos : Pos}
theorem di_range {fa : FA} (hg : Gl X "range") (hm : X.mg "range" = none) (ha : DA X W [a] fa) (hs : starEach [a] X.env = [(false, eval a X.env)] := by rfl) : DI X W tg (.Call (.Name "range" p) [a] [] pos) (iRange fa) := by
  refine ⟨PI.imp (pi_range1 hg hm ha.run hs) fun σ H R ⟨G, S, ρ, rs, rp, q⟩ => ⟨G, S, ρ, rs, rp, (Aft.bind q).mono fun ds H1 G1 S1 x1 r1 q1 vs dv => ?_⟩⟩
  unfold rangeM at q1
  split at q1
  · rename_i j
    cases dv with
    | cons dv t =>
      cases t
      obtain rfl := den_int dv
      by_cases hj : -1000000 ≤ j ∧ j ≤ 1000000
      · rw [if_pos hj] at q1
        exact ⟨j, rfl, by omega, by omega, q1 H1 G1 Ext.refl r1 _ gives_range⟩
      · rw [if_neg hj] at q1; exact q1.elim
  · exact q1.elim
def zipP : List PyData → List PyData → List D
  | x :: xs, y :: ys => .p (.tuple [x, y]) :: zipP xs ys
  | _, _ => []
def enumP (n : Nat) : List PyData → List D
  | x :: xs => .p (.tuple [.int (n : Nat), x]) :: enumP (n + 1) xs
  | [] => []
theorem enumP_len : ∀ (n : Nat) (xs : List PyData), (enumP n xs).length = xs.length
  | _, [] => rfl
  | n, x :: xs => by simp only [enumP, List.length_cons, enumP_len]
theorem enumP_get : ∀ (n : Nat) (xs : List PyData) (i : Nat) (d : D), (enumP n xs)[i]? = some d → ∃ x, xs[i]? = some x ∧ d = .p (.tuple [.int ((n + i : Nat) : Int), x])
  | n, [], i, d, h => by simp [enumP] at h
  | n, x :: xs, 0, d, h => by simp [enumP] at h; exact ⟨x, rfl, h.symm⟩
  | n, x :: xs, i + 1, d, h => by
    obtain ⟨x', h1, h3⟩ := enumP_get (n + 1) xs i d (by simpa [enumP] using h)
    exact ⟨x', by simpa using h1, by rw [h3, show n + 1 + i = n + (i + 1) by omega]⟩
def iA (g : List D → M (List D)) (fa : FA) : FI := fun ρ S => (fa ρ S).bind g
theorem pair_new {K : PySem.W.Frag} {H : Hp} {G : Gh} {S : Sto} {T : Addr} {x y : PyData} {v w : V} (r : Rep K H G S) (hT : H T = none) (h1 : Dn K G.φ H x v) (h2 : Dn K G.φ H y w) : Ext H G S (upd H T (.tup [v, w])) G S ∧ Rep K (upd H T (.tup [v, w])) G S ∧ Den K (upd H T (.tup [v, w])) G (.p (.tuple [x, y])) (.ref T) := by
  have e := Ext.other (o := .tup [v, w]) r hT
  exact ⟨e, Rep.other r hT, Dn.tup (SqT.of upd_same) (.cons (e.dn r h1) (.cons (e.dn r h2) .nil))⟩
theorem gives_enum {K : PySem.W.Frag} {H : Hp} {G : Gh} {S : Sto} {a : Addr} {vs : List V} {xs : List PyData} (rp : Rep K H G S) (fa : FL G.φ a vs) (ta : DnAll K G.φ H xs vs) : Gives K (Ite K a) H G S (enumP 0 xs) where
  go := fun H1 G1 S1 x r i hi => by
    rw [enumP_len, ta.length] at hi
    exact ⟨vs, vs[i], SqL.of ((fa.mono x.phi) H1 r.phi), by simp⟩
  yld := fun H1 G1 S1 x r i d e v H' y => by
    obtain ⟨T, u, rfl, hT, rfl, y1⟩ := y
    have e1 := y1 vs (SqL.of ((fa.mono x.phi) H1 r.phi))
    obtain ⟨d1, ed1, dn1⟩ := (x.dnAll rp ta).getV e1
    obtain ⟨x', h1, rfl⟩ := enumP_get 0 xs i d e
    rw [ed1] at h1; cases h1
    have e0 : ((0 + i : Nat) : Int) = (i : Int) := by rw [Nat.zero_add]
    rw [e0]
    obtain ⟨p1, p2, p3⟩ := pair_new r hT (Dn.int (i : Int)) dn1
    exact ⟨p1, p2, p3, .inr ⟨T, _, hT, rfl⟩⟩
  stop := fun H1 G1 S1 x r => by
    rw [enumP_len, ta.length]
    exact ⟨vs, SqL.of ((fa.mono x.phi) H1 r.phi), Nat.le_refl _⟩
end
def forD (g : FG) (b : FS) : List D → FS
  | [] => fun ρ S => some (.next ρ, S)
  | d :: r => fun ρ S => match g d ρ S with
    | none => none
    | some (ρ1, S1) => match b ρ1 S1 with
      | some (.next ρ2, S2) => forD g b r ρ2 S2
      | some (.cont ρ2, S2) => forD g b r ρ2 S2
      | some (.brk ρ2, S2) => some (.next ρ2, S2)
      | o => o
def sFor (f : FI) (g : FG) (b : FS) : FS := fun ρ S => (f ρ S).st ρ fun ds S1 => forD g b ds ρ S1
section
variable {X : Cx} {W : WX} {tg iter : Expr} {body : List Stmt} {f : FI} {g : FG} {b : FS} {pos : Pos} {vs : List Nat}
theorem ds_for (hp : PassesOwn (model X.prog X.w) X.A X.env X.xe) (hc : X.calm = true) (hi : DI X W tg iter f) (hg : DG X vs tg g) (hb : DSs X W body b) (hs : ∀ x, foldedSetIterable iter X.env x = pure x := by intro _; rfl) : DS X W (.For tg iter body [] pos) (sFor f g b) := by
  refine ⟨PS.imp (ps_for hp hc hi.run hg.run hb.run hs) fun E σ H ⟨G, S, ρ, rs, rp, q⟩ => ⟨G, S, ρ, rs, rp, (AftS.st q rs rp).mono fun ds H1 G1 S1 x1 r1 q1 J gv => ?_⟩⟩
  refine ⟨fun i m σ H => ∃ G S ρ, m = ds.length - i ∧ i ≤ ds.length ∧ Ext H1 G1 S1 H G S ∧ RelS X.K H G ρ σ ∧ Rep X.K H G S ∧ AftS X.K W E H G S (forD g b (ds.drop i) ρ S),
    ⟨ds.length, G1, S1, ρ, by simp, Nat.zero_le _, Ext.refl, x1.relS rp rs, r1, by simpa using q1⟩, ?_⟩
  rintro i m σ H ⟨G, S, ρ, rfl, hi, x, rs, rp, q⟩
  by_cases hlt : i < ds.length
  · refine .inr ⟨gv.go H G S x rp i hlt, fun σ' H' => ∃ G' S' ρ', Ext H1 G1 S1 H' G' S' ∧ RelS X.K H' G' ρ' σ' ∧ Rep X.K H' G' S' ∧ AftS X.K W E H' G' S' (forD g b (ds.drop (i + 1)) ρ' S'),
      fun σ' H' ⟨G', S', ρ', x', rs', rp', q'⟩ => ⟨ds.length - (i + 1), by omega, G', S', ρ', rfl, hlt, x', rs', rp', q'⟩, fun v H' y => ?_⟩
    obtain ⟨ex, rp', dv, _⟩ := gv.yld H G S x rp i ds[i] (by simp [hlt]) v H' y
    refine ⟨G, S, ρ, ds[i], ex.relS rp rs, rp', dv, ?_⟩
    rw [List.drop_eq_getElem_cons hlt] at q
    have q : AftS X.K W E H G S (match g ds[i] ρ S with
      | none => none
      | some (ρ1, S1) => match b ρ1 S1 with
        | some (.next ρ2, S2) => forD g b (ds.drop (i + 1)) ρ2 S2
        | some (.cont ρ2, S2) => forD g b (ds.drop (i + 1)) ρ2 S2
        | some (.brk ρ2, S2) => some (.next ρ2, S2)
        | o => o) := q
    cases eg : g ds[i] ρ S with
    | none => rw [eg] at q; exact q.elim
    | some pr =>
      obtain ⟨ρ1, S2⟩ := pr
      rw [eg] at q
      refine fun H2 G2 x2 r2 σ2 rs2 _ => ⟨G2, S2, ρ1, rs2, r2, ?_⟩
      have xx := ex.trans x2
      have q := AftS.ext q xx
      simp only at q
      cases eb : b ρ1 S2 with
      | none => rw [eb] at q; exact q
      | some pb =>
        obtain ⟨fl, S3⟩ := pb
        rw [eb] at q
        cases fl with
        | next ρ2 => exact fun H3 G3 σ3 x3 r3 s3 => ⟨G3, S3, ρ2, (x.trans xx).trans x3, s3, r3, AftS.ext q x3⟩
        | cont ρ2 => exact fun H3 G3 σ3 x3 r3 s3 => ⟨G3, S3, ρ2, (x.trans xx).trans x3, s3, r3, AftS.ext q x3⟩
        | brk ρ2 => exact q
        | ret d => exact q
        | exc y ρ2 => exact q
  · have e : i = ds.length := by omega
    subst e
    rw [List.drop_length] at q
    exact .inl ⟨gv.stop H G S x rp, AftS.next q Ext.refl rp rs⟩
end
end DL
namespace DL
open PySem L2
structure Beside (H : Hp) (G : Gh) (D : Addr) (o : HO) : Prop where
  at_ : H D = some o
  ι : D ∉ G.ι
  φ : ∀ p ∈ G.φ, p.1 ≠ D
section
variable {K : PySem.W.Frag} {H H1 : Hp} {G G1 : Gh} {S S1 : Sto} {D : Addr} {o : HO}
theorem Beside.ext (b : Beside H G D o) (x : Ext H G S H1 G1 S1) : Beside H1 G1 D o := by
  have nl : ¬ Live G S D := fun l => b.ι l.mem
  refine ⟨x.frame D o b.at_ nl, fun h => ?_, fun p hp e => ?_⟩
  · rcases x.iot D h with q | q
    · exact b.ι q
    · rw [b.at_] at q; cases q
  · rcases x.phf p hp with q | q | q
    · exact b.φ p q e
    · rw [e, b.at_] at q; cases q
    · rw [e] at q; exact nl q
theorem Rep.aside (r : Rep K H G S) {xs ys : List V} (b : Beside H G D (.lst xs)) : Rep K (upd H D (.lst ys)) G S := by
  have ht : ∀ a vs, SqT K H a vs → SqT K (upd H D (.lst ys)) a vs := fun a vs h => by
    rcases h with (h | ⟨u, h⟩) | h
    · exact .inl (.inl (by rw [upd_ne (ne_of h b.at_ (fun z => nomatch z))]; exact h))
    · exact .inl (.inr ⟨u, by rw [upd_ne (ne_of h b.at_ (fun z => nomatch z))]; exact h⟩)
    · exact .inr h
  refine ⟨r.len, r.nd, fun i a m h1 h2 => OkO.ext (G := G) (fun _ h => h) ht (fun u hu => ?_) (r.ok i a m h1 h2), fun p hp => ?_, r.pnl⟩
  · rw [upd_ne (fun z => b.ι (by rw [← z]; exact List.mem_of_getElem? h1))]; exact hu
  · rw [upd_ne (b.φ p hp)]; exact r.phi p hp
theorem dn_aside {φ : List (Addr × HO)} {xs ys : List V} (e : H D = some (.lst xs)) {ds : List PyData} {vs : List V} (t : DnAll K φ H ds vs) : DnAll K φ (upd H D (.lst ys)) ds vs :=
  t.mono (fun _ h => h) fun a vs h => by
    rcases h with (h | ⟨u, h⟩) | h
    · exact .inl (.inl (by rw [upd_ne (ne_of h e (fun z => nomatch z))]; exact h))
    · exact .inl (.inr ⟨u, by rw [upd_ne (ne_of h e (fun z => nomatch z))]; exact h⟩)
    · exact .inr h
theorem Ext.aside {H0 : Hp} {G0 : Gh} {S0 : Sto} {u : HO} (x : Ext H0 G0 S0 H G S) (h0 : H0 D = none) : Ext H0 G0 S0 (upd H D u) G S :=
  ⟨x.pre, x.phi, fun b o h n => by rw [upd_ne (ne_of_none h h0)]; exact x.frame b o h n, x.fresh, x.iot, x.phf⟩
/-- it is frozen at last -/
theorem Ext.iceD {H0 : Hp} {G0 : Gh} {S0 : Sto} (x : Ext H0 G0 S0 H G S) (h0 : H0 D = none) : Ext H0 G0 S0 H ⟨G.ι, (D, o) :: G.φ⟩ S :=
  ⟨x.pre, fun p hp => List.mem_cons_of_mem _ (x.phi p hp), x.frame, x.fresh, x.iot, fun p hp => by
    rcases List.mem_cons.mp hp with e | hp
    · rw [e]; exact .inr (.inl h0)
    · exact x.phf p hp⟩
theorem Rep.iceD (r : Rep K H G S) (b : Beside H G D o) : Rep K H ⟨G.ι, (D, o) :: G.φ⟩ S := by
  refine ⟨r.len, r.nd, fun i a m h1 h2 => OkO.ext (G := G) (fun _ h => List.mem_cons_of_mem _ h) (fun _ _ h => h) (fun _ h => h) (r.ok i a m h1 h2), fun p hp => ?_, fun p hp => ?_⟩
  · rcases List.mem_cons.mp hp with e | hp
    · rw [e]; exact b.at_
    · exact r.phi p hp
  · rcases List.mem_cons.mp hp with e | hp
    · rw [e]; exact fun l => b.ι (Live.mem l)
    · exact r.pnl p hp
end
def wipeD (ρ : Ev) : List Nat → Ev
  | [] => ρ
  | v :: vs => (wipeD ρ vs).set v none
theorem RelS.wipe {K : PySem.W.Frag} {H : Hp} {G : Gh} {ρ : Ev} {σ : St} (r : RelS K H G ρ σ) : ∀ vs : List Nat, RelS K H G (wipeD ρ vs) (L2.wipe σ vs)
  | [] => r
  | v :: vs => (r.wipe vs).setNone v
def lcD (g : FG) (t : FT) (e : FE) (ρ : Ev) : List D → M (List PyData)
  | [] => fun S => .ok [] S
  | d :: r => fun S => match g d ρ S with
    | none => .bad
    | some (ρ1, S1) => (t ρ1 S1).bind fun b S2 => if b = true then (e ρ1 S2).bind (fun y S3 => match y with
        | .p v => (lcD g t e ρ r S3).bind fun vs S4 => .ok (v :: vs) S4
        | _ => .bad) else lcD g t e ρ r S2
def eLc (f : FI) (g : FG) (t : FT) (e : FE) (vs : List Nat) (fin : List PyData → M D) : FE := fun ρ S => (f ρ S).bind fun ds S1 => if ds.length ≤ LIM then (noErr (lcD g t e (wipeD ρ vs) ds S1)).bind fin else .bad
def finL : List PyData → M D := fun ys S => .ok (.p (.list ys)) S
def finM : List PyData → M D := fun ys S => .ok (.ob S.length) (S ++ [.lst ys])
def tYesD : FT := fun _ S => .ok true S
/-- how the new list is handed on -/
def FinOk (fin : List PyData → M D) : Prop := ∀ (K : PySem.W.Frag) (W : WX) (σ : St) (H0 H : Hp) (G0 G : Gh) (S0 S : Sto) (ys : List PyData) (vs : List V) (D : Addr) (Q : VK),
  Ext H0 G0 S0 H G S → H0 D = none → Rep K H G S → Beside H G D (.lst vs) → DnAll K G.φ H ys vs → (∀ (S' : Sto) (d : DL.D), fin ys S = .ok d S' → ∀ H' G', Ext H0 G0 S0 H' G' S' → Rep K H' G' S' → ∀ v, Den K H' G' d v → Q v H') → Q (.ref D) H
theorem finL_ok : FinOk finL := fun K W σ H0 H G0 G S0 S ys vs D Q x h0 r b t q =>
  q S _ rfl H _ (x.iceD h0) (r.iceD b) _ (Dn.lst (fun _ q => q _ List.mem_cons_self) (t.mono (fun _ h => List.mem_cons_of_mem _ h) fun _ _ h => h))
section
variable {X : Cx} {W : WX}
/-- the reading of a comprehension, by data -/
theorem lc_read {f : FI} {g : FG} {t : FT} {e : FE} {vs : List Nat} {fin : List PyData → M D} (fo : FinOk fin) {σ : St} {H : Hp} {Q : VK} (q : rd X.K W (eLc f g t e vs fin) σ H Q) :
    tLc (rdI X.K W f) (rdG X.K vs g) (rdT X.K W0 t) (rd X.K W0 e) vs σ H Q := by
  obtain ⟨G, S, ρ, rs, rp, q⟩ := q
  refine ⟨G, S, ρ, rs, rp, (Aft.bind q).mono fun ds H1 G1 S1 x1 r1 q1 J gv Da hDa => ?_⟩
  by_cases hl : ds.length ≤ LIM
  · simp only [if_pos hl] at q1
    cases eo : lcD g t e (wipeD ρ vs) ds S1 with
    | bad => rw [eo] at q1; exact q1.elim
    | err x s => rw [eo] at q1; exact q1.elim
    | ok ys Sn =>
      rw [eo] at q1
      have q2 : Aft X.K W σ H1 G1 S1 (fin ys Sn) (QD X.K Q) := q1
      have rs1 : RelS X.K H1 G1 (wipeD ρ vs) (wipe σ vs) := (x1.relS rp rs).wipe vs
      have b0 : Beside (upd H1 Da (.lst [])) G1 Da (.lst []) := ⟨upd_same, r1.notIn hDa, r1.notPhi hDa⟩
      refine ⟨fun i m H => ∃ G S accV accD rest, m = ds.length - i ∧ i ≤ ds.length ∧ Ext H1 G1 S1 H G S ∧ Rep X.K H G S ∧ Beside H G Da (.lst accV) ∧ DnAll X.K G.φ H accD accV ∧ accV.length ≤ i ∧ lcD g t e (wipeD ρ vs) (ds.drop i) S = .ok rest Sn ∧ ys = accD ++ rest,
        ⟨ds.length, G1, S1, [], [], ys, by simp, Nat.zero_le _, Ext.other r1 hDa, Rep.other r1 hDa, b0, .nil, Nat.le_refl _, by simpa using eo, rfl⟩, ?_⟩
      rintro i m H ⟨G, S, accV, accD, rest, rfl, hi, x, r, b, ta, hlen, el, rfl⟩
      by_cases hlt : i < ds.length
      · refine .inr ⟨gv.go H G S x r i hlt, fun H' => ∃ G' S' accV' accD' rest', Ext H1 G1 S1 H' G' S' ∧ Rep X.K H' G' S' ∧ Beside H' G' Da (.lst accV') ∧ DnAll X.K G'.φ H' accD' accV' ∧ accV'.length ≤ i + 1 ∧ lcD g t e (wipeD ρ vs) (ds.drop (i + 1)) S' = .ok rest' Sn ∧ accD ++ rest = accD' ++ rest',
          fun H' ⟨G', S', accV', accD', rest', h1, h2, h3, h4, h5, h6, h7⟩ => ⟨ds.length - (i + 1), by omega, G', S', accV', accD', rest', rfl, hlt, h1, h2, h3, h4, h5, h6, h7⟩, fun v H' y => ?_⟩
        obtain ⟨ex, rp', dv, _⟩ := gv.yld H G S x r i ds[i] (by simp [hlt]) v H' y
        rw [List.drop_eq_getElem_cons hlt] at el
        unfold lcD at el
        split at el
        · cases el
        · rename_i ρ1 S2 eg
          refine ⟨G, S, wipeD ρ vs, ds[i], (x.trans ex).relS r1 rs1, rp', dv, ?_⟩
          rw [eg]
          refine fun H2 G2 x2 r2 σ2 rs2 w2 => ⟨by rw [w2, wipe_wipe], ?_⟩
          have xa := x.trans (ex.trans x2)
          cases et : t ρ1 S2 with
          | bad => rw [et] at el; cases el
          | err _ _ => rw [et] at el; cases el
          | ok bb S3 =>
            rw [et] at el
            refine ⟨G2, S2, ρ1, rs2, r2, Aft.of_ok et fun H3 G3 x3 r3 => ?_⟩
            have xb := xa.trans x3
            have b3 := b.ext ((ex.trans x2).trans x3)
            have ta3 : DnAll X.K G3.φ H3 accD accV := ((ex.trans x2).trans x3).dnAll r ta
            cases bb with
            | false =>
              refine L2.iteF ?_
              simp only [Out.bind_ok, if_neg Bool.false_ne_true] at el
              exact ⟨G3, S3, accV, accD, rest, xb, r3, b3, ta3, by omega, el, rfl⟩
            | true =>
              refine L2.iteT ?_
              simp only [Out.bind_ok, if_pos] at el
              cases ee : e ρ1 S3 with
              | bad => rw [ee] at el; cases el
              | err _ _ => rw [ee] at el; cases el
              | ok yd S4 =>
                rw [ee] at el
                refine ⟨G3, S3, ρ1, x3.relS r2 rs2, r3, Aft.of_ok ee fun H4 G4 x4 r4 w dw => ?_⟩
                have b4 := b3.ext x4
                cases yd with
                | p pv =>
                  simp only [Out.bind_ok] at el
                  cases er : lcD g t e (wipeD ρ vs) (ds.drop (i + 1)) S4 with
                  | bad => rw [er] at el; cases el
                  | err _ _ => rw [er] at el; cases el
                  | ok vs' S5 =>
                    rw [er] at el
                    have el : Out.ok (pv :: vs') S5 = Out.ok rest Sn := el
                    cases el
                    refine ⟨accV, b4.at_, Nat.lt_of_le_of_lt hlen (Nat.lt_of_lt_of_le hlt (Nat.le_trans hl LIM_le)), G4, S4, accV ++ [w], accD ++ [pv], vs', (xb.trans x4).aside hDa, r4.aside b4, ⟨upd_same, b4.ι, b4.φ⟩, ?_, by rw [List.length_append, List.length_singleton]; omega, er, by rw [List.append_assoc]; rfl⟩
                    exact (dn_aside b4.at_ (x4.dnAll r3 ta3)).append (dn_aside b4.at_ (.cons dw .nil))
                | ob _ => cases el
                | ro _ => cases el
                | ext _ => cases el
      · have e : i = ds.length := by omega
        subst e
        rw [List.drop_length] at el
        unfold lcD at el
        cases el
        rw [List.append_nil] at q2
        refine .inl ⟨gv.stop H G _ x r, fo X.K W σ H1 H G1 G S1 _ accD accV Da Q x hDa r b ta fun S' d ef H' G' x' r' v dv => ?_⟩
        rw [ef] at q2
        exact q2 H' G' x' r' v dv
  · simp only [if_neg hl] at q1; exact q1.elim
theorem PTs.imp {ifs : List Expr} {t t' : TT} (h : PTs X ifs t) (i : ∀ σ H Q, t' σ H Q → t σ H Q) : PTs X ifs t' := ⟨fun pins s σ H Q I q => h.run pins s σ H Q I (i σ H Q q)⟩
variable {elt tg iter : Expr} {ifs : List Expr} {scope : Scope} {own : List (Str × Nat)} {pos spos : Pos} {f : FI} {g : FG} {t : FT} {e : FE} {fin : List PyData → M D}
theorem dts_nil : PTs X [] (rdT X.K W tYesD) := PTs.imp pts_nil fun σ H Q ⟨G, S, ρ, rs, rp, q⟩ => q H G Ext.refl rp
theorem dts_one {c : Expr} (h : DT X W c t) : PTs X [c] (rdT X.K W t) := pts_one h.run
theorem de_lc (fo : FinOk fin) (hc : X.calm = true) (hN : X.N.Nodup) (hi : DI X W tg iter f) (ok : BlkOk X.N X.env.scope scope own)
    (hg : ∀ (s : Shared) (H : Hp) (C : Addr) (cl : List (Str × Addr)) (fp : List Addr), DG (X.blk s H scope (compEnvC scope cl C X.env) fp) (own.map (·.2)) tg g)
    (ht : ∀ (s : Shared) (H : Hp) (C : Addr) (cl : List (Str × Addr)) (fp : List Addr), PTs (X.blk s H scope (compEnvC scope cl C X.env) fp) ifs (rdT X.K W0 t))
    (he : ∀ (s : Shared) (H : Hp) (C : Addr) (cl : List (Str × Addr)) (fp : List Addr), DE (X.blk s H scope (compEnvC scope cl C X.env) fp) W0 elt e) (hs : ∀ x, foldedSetIterable iter X.env x = pure x := by intro _; rfl) :
    DE X W (.ListComp elt [⟨tg, iter, ifs, 0⟩] scope pos) (eLc f g t e (own.map (·.2)) fin) :=
  ⟨PE.imp (pe_lc (g := rdG X.K (own.map (·.2)) g) (te := rd X.K W0 e) hc hN hi.run ok (fun s H C cl fp => (hg s H C cl fp).run) ht (fun s H C cl fp => (he s H C cl fp).run) hs) fun _ _ _ q => lc_read fo q⟩
theorem ds_setLc {i : Nat} {y : Str} {py : Pos} (fo : FinOk fin) (hc : X.calm = true) (hN : X.N.Nodup) (hy : X.N[i]? = some y) (hyl : X.env.scope.names.lookup y = some .local)
    (hsw : swapsWith (.ListComp elt [⟨tg, iter, ifs, 0⟩] scope pos) (some (.Name y py)) spos.line X.env = pure true) (hi : DI X W tg iter f) (ok : BlkOk X.N X.env.scope scope own)
    (hg : ∀ (s : Shared) (H : Hp) (C : Addr) (cl : List (Str × Addr)) (fp : List Addr), DG (X.blk s H scope (compEnvC scope cl C X.env) fp) (own.map (·.2)) tg g)
    (ht : ∀ (s : Shared) (H : Hp) (C : Addr) (cl : List (Str × Addr)) (fp : List Addr), PTs (X.blk s H scope (compEnvC scope cl C X.env) fp) ifs (rdT X.K W0 t))
    (he : ∀ (s : Shared) (H : Hp) (C : Addr) (cl : List (Str × Addr)) (fp : List Addr), DE (X.blk s H scope (compEnvC scope cl C X.env) fp) W0 elt e) (hs : ∀ x, foldedSetIterable iter X.env x = pure x := by intro _; rfl) :
    DS X W (.Assign [.Name y py] (.ListComp elt [⟨tg, iter, ifs, 0⟩] scope pos) spos) (sSet i (eLc f g t e (own.map (·.2)) fin)) := by
  refine ⟨PS.imp (ps_setLc (g := rdG X.K (own.map (·.2)) g) (te := rd X.K W0 e) hc hN hy hyl hsw hi.run ok (fun s H C cl fp => (hg s H C cl fp).run) ht (fun s H C cl fp => (he s H C cl fp).run) hs) fun E σ H ⟨G, S, ρ, rs, rp, q⟩ => ?_⟩
  exact lc_read fo ⟨G, S, ρ, rs, rp, (AftS.st q rs rp).mono fun d H1 G1 S1 x1 r1 q1 v dv => AftS.next q1 Ext.refl r1 ((x1.relS rp rs).set dv i)⟩
end
end DL
namespace DL
open PySem L2 PySem.Spec PyProof.Rows
/-- the later objects of the store are forgotten when a def is left -/
def cutD (n : Nat) : Out D → Out D
  | .ok (.ob i) s => if i < n then .ok (.ob i) (s.take n) else .ok (.ob i) s
  | .ok d s => .ok d (s.take n)
  | o => o
def runF (m : Nat) (body : FS) : List D → M D := fun ds S => match body (ds.map some ++ List.replicate (m - ds.length) none) S with
  | some (.ret d, s) => .ok d s
  | some (.next _, s) => .ok (.p .none) s
  | some (.exc x _, s) => .err x s
  | _ => .bad
theorem den_cut {K : PySem.W.Frag} {H : Hp} {G : Gh} {n : Nat} {d : D} {v : V} (h : Den K H G d v) (hi : ∀ i, d = .ob i → i < n) : Den K H ⟨G.ι.take n, G.φ⟩ d v := by
  cases d with
  | p x => exact h
  | ob i =>
    obtain ⟨a, rfl, ha⟩ := h
    exact ⟨a, rfl, by show (G.ι.take n)[i]? = some a; rw [List.getElem?_take, if_pos (hi i rfl)]; exact ha⟩
  | ro xs => exact h
  | ext u => exact h
def eCall (n : Nat) (g : List D → M D) (fa : FA) : FE := fun ρ S => (fa ρ S).bind fun ds S1 => if ds.length = n then noErr (cutD S1.length (g ds S1)) else .bad
def nums (ns : List Int) : List PyData := ns.map .int
theorem nums_dn {K : PySem.W.Frag} {φ : List (Addr × HO)} {H : Hp} : ∀ ns : List Int, DnAll K φ H (nums ns) (ns.map V.int)
  | [] => .nil
  | n :: ns => .cons (.int n) (nums_dn ns)
end DL
namespace DL
open PySem L2 PySem.Spec PyProof.Rows
mutual
inductive RD (h : Heap) : Value → PyData → Prop
  | none : RD h .none .none
  | bool (b) : RD h (.bool b) (.bool b)
  | int (i t) : RD h (.int i t) (.int i)
  | str (x t) : RD h (.str x t) (.str x)
  | list {a o vs n xs} : h.get? a = some o → o.cls = .type "list" → o.data = .seq vs n → RDs h vs.toList xs → RD h (.ref a) (.list xs)
  | tuple {a o vs n xs} : h.get? a = some o → o.cls = .type "tuple" → o.data = .seq vs n → RDs h vs.toList xs → RD h (.ref a) (.tuple xs)
  | dict {a o es n kvs} : h.get? a = some o → o.cls = .type "dict" → o.data = .dict es n → (a == sysModules) = false → RDs h (es.toList.map (·.key)) (kvs.map (·.1)) → RDs h (es.toList.map (·.val)) (kvs.map (·.2)) → RD h (.ref a) (.dict kvs)
inductive RDs (h : Heap) : List Value → List PyData → Prop
  | nil : RDs h [] []
  | cons {v vs d ds} : RD h v d → RDs h vs ds → RDs h (v :: vs) (d :: ds)
end
mutual
theorem RD.reads {h : Heap} : ∀ {v : Value} {d : PyData}, RD h v d → ∃ as, Reads h v d as
  | _, _, .none => ⟨_, .none⟩
  | _, _, .bool b => ⟨_, .bool b⟩
  | _, _, .int i t => ⟨_, .int i t⟩
  | _, _, .str x t => ⟨_, .str x t⟩
  | _, _, .list h1 h2 h3 h4 => let ⟨as, r⟩ := h4.reads; ⟨_, .list h1 h2 h3 r⟩
  | _, _, .tuple h1 h2 h3 h4 => let ⟨as, r⟩ := h4.reads; ⟨_, .tuple h1 h2 h3 r⟩
  | _, _, .dict h1 h2 h3 _ h4 h5 => let ⟨as, r⟩ := h4.reads; let ⟨bs, r'⟩ := h5.reads; ⟨_, .dict h1 h2 h3 r r'⟩
theorem RDs.reads {h : Heap} : ∀ {vs : List Value} {ds : List PyData}, RDs h vs ds → ∃ as, ReadsAll h vs ds as
  | _, _, .nil => ⟨_, .nil⟩
  | _, _, .cons a b => let ⟨as, r⟩ := a.reads; let ⟨bs, r'⟩ := b.reads; ⟨_, .cons r r'⟩
end
section
variable {prog : Program} {w : World} {h₀ : Heap}
mutual
theorem RD.reprK : ∀ {v : Value} {d : PyData}, RD h₀ v d → d.showable = true → d.shown.length ≤ sizeLine → ∃ bs, ReadAtMost h₀ d.depth bs ∧ ReprK prog w bs h₀ d.depth v d.shown
  | _, _, .none, _, _ => ⟨[], (fun _ h => nomatch h), by simp only [PyData.shown]; exact .of_is ReprIs.none _ _ _⟩
  | _, _, .bool b, _, _ => ⟨[], (fun _ h => nomatch h), by simp only [PyData.shown]; exact .of_is (ReprIs.bool b) _ _ _⟩
  | _, _, .int i t, hs, _ => ⟨[], (fun _ h => nomatch h), by simp only [PyData.shown]; exact .of_is (ReprIs.int t (by simpa [PyData.showable] using hs)) _ _ _⟩
  | _, _, .str x t, _, hz => ⟨[], (fun _ h => nomatch h), by simp only [PyData.shown]; exact .of_is (ReprIs.str x t (by simpa only [PyData.shown] using hz)) _ _ _⟩
  | _, _, .list (a := a) (vs := vs) (xs := xs) h1 h2 h3 h4, hs, hz => by
    simp only [PyData.shown] at hz
    obtain ⟨bs, hb, hk⟩ := RDs.reprK h4 (by simpa [PyData.showable] using hs) fun t ht => Nat.le_trans (listText_mem_le ht) hz
    obtain ⟨as, rr⟩ := h4.reads
    have r := Reads.list h1 h2 h3 rr
    refine ⟨a :: bs, ReadAtMost.cons r (by simp only [PyData.depth]; omega) hb, ?_⟩
    have hna := not_mem_of_deeper r (by simp only [PyData.depth]; omega) hb
    simp only [PyData.depth, PyData.shown]
    obtain ⟨l⟩ := vs
    cases l with
    | nil =>
      cases (show RDs h₀ [] xs from h4)
      simp only [PyData.shownAll, listText_nil]
      exact ReprK.listEmpty h1 h2 h3
    | cons x l => exact ReprK.list h1 h2 h3 hna (by simpa using hk.length_eq) fun i y e => hk.item i y (by simpa using e)
  | _, _, .tuple (a := a) (xs := xs) h1 h2 h3 h4, hs, hz => by
    simp only [PyData.shown] at hz
    obtain ⟨bs, hb, hk⟩ := RDs.reprK h4 (by simpa [PyData.showable] using hs) fun t ht => Nat.le_trans (tupleText_mem_le ht) hz
    obtain ⟨as, rr⟩ := h4.reads
    have r := Reads.tuple h1 h2 h3 rr
    refine ⟨a :: bs, ReadAtMost.cons r (by simp only [PyData.depth]; omega) hb, ?_⟩
    have hna := not_mem_of_deeper r (by simp only [PyData.depth]; omega) hb
    simp only [PyData.depth, PyData.shown]
    exact ReprK.tuple h1 h2 h3 hna hk
  | _, _, .dict (a := a) (es := es) (kvs := kvs) h1 h2 h3 hsys h4 h5, hs, hz => by
    simp only [PyData.shown] at hz
    obtain ⟨hs1, hs2⟩ := PyData.showableKv_split kvs (by simpa [PyData.showable] using hs)
    have z1 : ∀ t ∈ PyData.shownAll (kvs.map (·.1)), t.length ≤ sizeLine := fun t ht => by
      obtain ⟨p, hp, hl⟩ := PyData.shownKv_key_le kvs t ht
      exact Nat.le_trans hl (Nat.le_trans (dictText_mem_le hp) hz)
    have z2 : ∀ t ∈ PyData.shownAll (kvs.map (·.2)), t.length ≤ sizeLine := fun t ht => by
      obtain ⟨p, hp, hl⟩ := PyData.shownKv_val_le kvs t ht
      exact Nat.le_trans hl (Nat.le_trans (dictText_mem_le hp) hz)
    obtain ⟨b1, hb1, k1⟩ := RDs.reprK h4 hs1 z1
    obtain ⟨b2, hb2, k2⟩ := RDs.reprK h5 hs2 z2
    obtain ⟨as, r1⟩ := h4.reads
    obtain ⟨cs, r2⟩ := h5.reads
    have r := Reads.dict h1 h2 h3 r1 r2
    have hb : ReadAtMost h₀ (PyData.depthKv kvs) (b1 ++ b2) := (hb1.mono (PyData.depthAll_keys_le kvs)).append (hb2.mono (PyData.depthAll_vals_le kvs))
    refine ⟨a :: (b1 ++ b2), ReadAtMost.cons r (by simp only [PyData.depth]; omega) hb, ?_⟩
    have hna := not_mem_of_deeper r (by simp only [PyData.depth]; omega) hb
    simp only [PyData.depth, PyData.shown, PyData.shownKv_eq]
    exact ReprK.dict h1 h2 h3 hsys hna (ReprEntriesK.of_two es.toList _ _ (k1.more_le (fun b hb => List.mem_append_left _ hb) (PyData.depthAll_keys_le kvs)) (k2.more_le (fun b hb => List.mem_append_right _ hb) (PyData.depthAll_vals_le kvs)))
theorem RDs.reprK : ∀ {vs : List Value} {ds : List PyData}, RDs h₀ vs ds → PyData.showableAll ds = true → (∀ t ∈ PyData.shownAll ds, t.length ≤ sizeLine) → ∃ bs, ReadAtMost h₀ (PyData.depthAll ds) bs ∧ ReprAllK prog w bs h₀ (PyData.depthAll ds) vs (PyData.shownAll ds)
  | _, _, .nil, _, _ => ⟨[], (fun _ h => nomatch h), by simp only [PyData.shownAll]; exact .nil⟩
  | _, _, .cons (d := d) (ds := ds) r rs, hs, hz => by
    simp only [PyData.showableAll, Bool.and_eq_true] at hs
    simp only [PyData.shownAll] at hz
    obtain ⟨b1, hb1, k1⟩ := RD.reprK r hs.1 (hz _ List.mem_cons_self)
    obtain ⟨b2, hb2, k2⟩ := RDs.reprK rs hs.2 fun t ht => hz t (List.mem_cons_of_mem _ ht)
    simp only [PyData.depthAll, PyData.shownAll]
    exact ⟨b1 ++ b2, (hb1.mono (Nat.le_max_left _ _)).append (hb2.mono (Nat.le_max_right _ _)), .cons ((k1.more fun b hb => List.mem_append_left _ hb).level_le (Nat.le_max_left _ _)) (k2.more_le (fun b hb => List.mem_append_right _ hb) (Nat.le_max_right _ _))⟩
end
theorem repr_RD {v : Value} {d : PyData} {A : Around} {E : Value → Shared → Prop} {s : Shared} {Q : Value → Shared → Prop} (r : RD s.heap v d) (hs : d.showable = true) (hz : d.shown.length ≤ sizeLine) (hg : A.guards = some []) (hu : A.units + (d.depth + 1) < cLine)
    (hQ : ∀ h' u tk, (∀ b o, s.heap.get? b = some o → h'.get? b = some o) → Q (.str d.shown u) { s with heap := h', toks := tk }) : wpAny (model prog w) A (call (.builtin "repr") [v]) Q E s := by
  have hu1 : A.in1.units + d.depth < cLine := by show A.units + 1 + d.depth < cLine; omega
  cases r with
  | none => exact PySem.P.repr_of_none (by simpa only [PyData.shown] using hQ s.heap s.toks (s.toks + 1) fun _ _ e => e)
  | bool b => exact PySem.P.repr_of_bool (by simpa only [PyData.shown] using hQ s.heap s.toks (s.toks + 1) fun _ _ e => e)
  | int i t => exact PySem.P.repr_of_int (by simpa [PyData.showable] using hs) (by simpa only [PyData.shown] using hQ s.heap s.toks (s.toks + 1) fun _ _ e => e)
  | str x t => exact PySem.P.repr_of_str (by simpa only [PyData.shown] using hQ s.heap s.toks (s.toks + 1) fun _ _ e => e) (by simpa only [PyData.shown] using hz)
  | list h1 h2 h3 h4 =>
    rename_i a o vs n xs
    simp only [PyData.shown] at hz hQ
    obtain ⟨bs, hb, hk⟩ := RDs.reprK (prog := prog) (w := w) h4 (by simpa [PyData.showable] using hs) fun t ht => Nat.le_trans (listText_mem_le ht) hz
    obtain ⟨as, rr⟩ := h4.reads
    have hna := not_mem_of_deeper (Reads.list h1 h2 h3 rr) (by simp only [PyData.depth]; omega) hb
    simp only [PyData.depth] at hu1
    refine call_repr_slot (by omega) ⟨o, h1, h2⟩ F.slot_list_repr.toG ?_
    obtain ⟨l⟩ := vs
    cases l with
    | nil =>
      cases (show RDs s.heap [] xs from h4)
      simp only [PyData.shownAll, listText_nil] at hQ
      exact call_list_repr_empty ⟨o, h1, h2⟩ h1 h3 ⟨_, _, rfl, hQ s.heap _ _ fun _ _ e => e⟩
    | cons x l => exact call_list_reprK h1 h2 h3 hna (by simpa using hk.length_eq) (fun i y e => hk.item i y (by simpa using e)) hg (fun b _ => Clear.nil b) hu1 (fun _ _ e => e) (fun h' u tk hk => ⟨_, _, rfl, hQ h' u tk hk⟩) hz
  | tuple h1 h2 h3 h4 =>
    rename_i a o vs n xs
    simp only [PyData.shown] at hz hQ
    obtain ⟨bs, hb, hk⟩ := RDs.reprK (prog := prog) (w := w) h4 (by simpa [PyData.showable] using hs) fun t ht => Nat.le_trans (tupleText_mem_le ht) hz
    obtain ⟨as, rr⟩ := h4.reads
    have hna := not_mem_of_deeper (Reads.tuple h1 h2 h3 rr) (by simp only [PyData.depth]; omega) hb
    simp only [PyData.depth] at hu1
    exact call_repr_slot (by omega) ⟨o, h1, h2⟩ F.slot_tuple_repr (call_tuple_reprK h1 h2 h3 hna hk hg (fun b _ => Clear.nil b) hu1 (fun _ _ e => e) (fun h' u tk hk => ⟨_, _, rfl, hQ h' u tk hk⟩) hz)
  | dict h1 h2 h3 hsys h4 h5 =>
    rename_i a o es n kvs
    simp only [PyData.shown] at hz hQ
    obtain ⟨hs1, hs2⟩ := PyData.showableKv_split kvs (by simpa [PyData.showable] using hs)
    have z1 : ∀ t ∈ PyData.shownAll (kvs.map (·.1)), t.length ≤ sizeLine := fun t ht => by
      obtain ⟨p, hp, hl⟩ := PyData.shownKv_key_le kvs t ht
      exact Nat.le_trans hl (Nat.le_trans (dictText_mem_le hp) hz)
    have z2 : ∀ t ∈ PyData.shownAll (kvs.map (·.2)), t.length ≤ sizeLine := fun t ht => by
      obtain ⟨p, hp, hl⟩ := PyData.shownKv_val_le kvs t ht
      exact Nat.le_trans hl (Nat.le_trans (dictText_mem_le hp) hz)
    obtain ⟨b1, hb1, k1⟩ := RDs.reprK (prog := prog) (w := w) h4 hs1 z1
    obtain ⟨b2, hb2, k2⟩ := RDs.reprK (prog := prog) (w := w) h5 hs2 z2
    obtain ⟨as, r1⟩ := h4.reads
    obtain ⟨cs, r2⟩ := h5.reads
    have hb : ReadAtMost s.heap (PyData.depthKv kvs) (b1 ++ b2) := (hb1.mono (PyData.depthAll_keys_le kvs)).append (hb2.mono (PyData.depthAll_vals_le kvs))
    have hna := not_mem_of_deeper (Reads.dict h1 h2 h3 r1 r2) (by simp only [PyData.depth]; omega) hb
    simp only [PyData.depth] at hu1
    rw [PyData.shownKv_eq] at hz hQ
    exact call_repr_slot (by omega) ⟨o, h1, h2⟩ F.slot_dict_repr (call_dict_reprK h1 h2 h3 hsys hna (ReprEntriesK.of_two es.toList _ _
      (k1.more_le (fun b hb => List.mem_append_left _ hb) (PyData.depthAll_keys_le kvs)) (k2.more_le (fun b hb => List.mem_append_right _ hb) (PyData.depthAll_vals_le kvs))) hg (fun b _ => Clear.nil b) hu1 (fun _ _ e => e) (fun h' u tk hk => ⟨_, _, rfl, hQ h' u tk hk⟩) hz)
end
end DL
namespace PySem.W
open PySem PySem.Spec PySem.Calls PyProof.Rows
section
variable {prog : Program} {w : World} {A : Around} {E : Value → Shared → Prop} {s : Shared} {K : Frag} {x D : Addr} {ox : Obj}
theorem kin_classD {od : Obj} {Q : Option Value → Shared → Prop} (hga : findIn K (.ref D) "__getattribute__" = some (some (.builtin "BaseException.__getattribute__"))) (hgt : findIn K (.ref D) "__getattr__" = some none) (hsub : subIn K (.ref D) (.type "BaseException") = some true)
    (hdct : hasDictIn K D = true) (ha : findIn K (.ref D) "__class__" = some (some (.builtin "object.__class__")))
    (hn : specialIn K (.builtin "object.__class__") "__get__" = some (some (.builtin "getset_descriptor.__get__"))) (htk : takesIn K (.builtin "object.__class__") = some true) (hm : mroIn K D (.type "object") = some true)
    (X : K.In s.heap) (I : InstAt s.heap x ox D (some od)) (h : Q (some (.ref D)) { s with toks := s.toks + 1 }) : wpAny (model prog w) A (getAttr? (.ref x) "__class__") Q E s := by
  have hf : findObj K D (some od) "__class__" = some (.bind (.builtin "getset_descriptor.__get__") (.builtin "object.__class__")) := findObj_data (by obtain ⟨cd, hc, _⟩ := any_some hdct; rw [hc]; rfl) ha hn htk
  obtain ⟨hp, g, d, t, os⟩ := s
  have L0 := I.type (M := model prog w)
  have L1 := looks_findIn (M := model prog w) X hga
  have L2 := looks_findIn (M := model prog w) X hgt
  have L3 := looks_find (M := model prog w) X I hf
  have sub : Looks (model prog w) hp (isInstance (.ref x) (.type "BaseException")) true := L0.andThen (looks_subIn X hsub)
  have hx0 : (false && onTheHeap (Value.builtin "BaseException.__getattribute__")) = false := rfl
  have hx2 : (Value.builtin "BaseException.__getattribute__" == Value.builtin "object.__getattribute__") = false := by decide +kernel
  have hx1 : (onTheHeap (Value.ref D) && Value.builtin "BaseException.__getattribute__" == Value.builtin "object.__getattribute__") = false := by rw [hx2]; rfl
  unfold getAttr? getAttrBy? getAttrBy
  refine wpAny_bind (wpAny_mkText (wpAny_bind (wpAny_attempt (wpAny_holding (wpAny_bind (L0.at (wpAny_bind (L1.at ?_))))))))
  show wpAny _ _ (if (onTheHeap (Value.ref D) && Value.builtin "BaseException.__getattribute__" == Value.builtin "object.__getattribute__") = true then _ else _) _ _ _
  rw [hx1, if_neg Bool.false_ne_true]
  unfold getAttrByItsOwn hookBefore
  refine wpAny_bind ?_
  rw [if_pos (show onTheHeap (Value.ref D) = true from rfl)]
  refine L2.at ?_
  refine wpAny_bind (wpAny_attempt (wpAny_holding ?_))
  unfold callGetattribute
  rw [hx0, if_neg Bool.false_ne_true]
  unfold boundAndCalled
  rw [PySem.F.excAttr_ValueError.ga.bind (.ref x)]
  refine wpAny_bind (wpAny_pure ?_)
  show wpAny _ _ (call (.builtin "BaseException.__getattribute__") [.ref x, .str "__class__" t]) _ _ _
  refine wpAny_call (codeAny_call_builtin PySem.F.excAttr_ValueError.ga.plain PySem.F.entry_bexc_ga ?_)
  refine @check_slot (model prog w) _ _ ⟨hp, g, d, t + 1, os⟩ "BaseException.__getattribute__" "BaseException" "__getattribute__" (.ref x) [.str "__class__" t] [] _ (by decide +kernel) (by decide +kernel) sub (PySem.F.args_bexc_ga (.ref x) (.str "__class__" t)) ?_
  unfold Builtin.«object.__getattribute__»
  refine wpAny_bind (wpAny_of_eq (a := ((Value.ref x : Value), [Value.str "__class__" t])) (by first | rfl | (simp only [slotArgs]; rfl)) ?_)
  refine wpAny_bind (wpAny_pure (wpAny_bind (L0.at (wpAny_bind (L3.at ?_)))))
  show wpAny _ _ (holding [Value.builtin "object.__class__"] (call (.builtin "getset_descriptor.__get__") [.builtin "object.__class__", .ref x, .ref D]) >>= ret) _ _ _
  refine wpAny_bind (wpAny_holding (wpAny_call (class_get (s := ⟨hp, g, d, t + 1, os⟩) (ox := ox) (od := some od) X I hm ?_)))
  refine wpAny_pure ?_
  show wpAny _ _ (handedOut (.ref D)) _ _ _
  rw [handedOut_of (v := .ref D) rfl]
  first
    | exact wpAny_pure (wpAny_pure h)
    | exact wpAny_pure h
    | exact wpAny_pure (wpAny_bind (wpAny_pure (wpAny_pure h)))
theorem kitx_excD (hga : findIn K (.ref D) "__getattribute__" = some (some (.builtin "BaseException.__getattribute__"))) (hgt : findIn K (.ref D) "__getattr__" = some none) (hsub : subIn K (.ref D) (.type "BaseException") = some true) (hdct : hasDictIn K D = true) (ha : findIn K (.ref D) "__class__" = some (some (.builtin "object.__class__")))
    (hn : specialIn K (.builtin "object.__class__") "__get__" = some (some (.builtin "getset_descriptor.__get__"))) (htk : takesIn K (.builtin "object.__class__") = some true) (hm : mroIn K D (.type "object") = some true) :
    KitX K (.ref x) (.ref D) (fun h => ∃ od, InstAt h x ox D (some od)) where
  ty := fun _ _ _ I => I.choose_spec.type
  it := fun _ _ X _ => by
    obtain ⟨cdD, hcD, _⟩ := any_some hdct
    unfold clsIn at hcD
    split at hcD
    · rename_i c' d' cd' sl' ho
      intro A' Q' E' s' k q
      unfold isType loadHead
      exact wpAny_bind (wpAny_loadPart (k _ _ (X _ _ ho)) (wpAny_pure q))
    · cases hcD
  ne := fun h tp dd its n sl X htp => by
    obtain ⟨cdD, hcD, _⟩ := any_some hdct
    refine Bool.eq_false_iff.mpr fun q => ?_
    have e : D = tp := Value.ref.inj (beq_iff_eq.mp q)
    subst e
    unfold clsIn at hcD
    split at hcD
    · rename_i c' d' cd' sl' ho
      have z := (X _ _ ho).symm.trans htp
      cases z
    · cases hcD
  ca := fun X I k => kin_classD hga hgt hsub hdct ha hn htk hm X I.choose_spec k
end
end PySem.W
namespace DL
open PySem L2 PySem.Spec PyProof.Rows
section
variable {X : Cx} {W : WX} {x : Str} {p pos : Pos} {e : Expr} {es : List Expr} {fa : FA} {id T : String} {r : List V → Hp → VK → Prop} {g : List D → M D}
theorem sim_A (m : SimA X.K r g) {σ : L2.St} {H : Hp} {Q : VK} (q : rd X.K W (eA g fa) σ H Q) : tCB r (rdA X.K W fa) σ H Q := by
  obtain ⟨G, S, ρ, rs, rp, q⟩ := q
  exact ⟨G, S, ρ, rs, rp, (Aft.bind q).mono fun ds H1 G1 S1 x1 r1 q1 vs dv => m W σ H1 G1 S1 ds vs Q r1 dv q1⟩
theorem de_callB (hc : CallR X (.builtin id) r) (m : SimA X.K r g) (hg : Gl X x) (hm : X.mg x = none) (hv : bootBuiltins x = some (.builtin id)) (ha : DA X W (e :: es) fa) (hn : x ≠ "__name__" := by decide) (hdb : (x == ("__debug__" : Str)) = false := by decide)
    (he : starEach (e :: es) X.env = (false, eval e X.env) :: starEach es X.env := by rfl) (hpl : (backTo pos (starEach es X.env)).any (·.1) = false := by rfl) : DE X W (.Call (.Name x p) (e :: es) [] pos) (eA g fa) :=
  ⟨PE.imp (pe_callB hc hg hm hv ha.run hn hdb he hpl) fun _ _ _ q => sim_A m q⟩
theorem de_callTy (hc : CallR X (.type T) r) (m : SimA X.K r g) (hg : Gl X x) (hm : X.mg x = none) (hv : bootBuiltins x = some (.type T)) (ha : DA X W (e :: es) fa) (hn : x ≠ "__name__" := by decide) (hdb : (x == ("__debug__" : Str)) = false := by decide)
    (he : starEach (e :: es) X.env = (false, eval e X.env) :: starEach es X.env := by rfl) (hpl : (backTo pos (starEach es X.env)).any (·.1) = false := by rfl) : DE X W (.Call (.Name x p) (e :: es) [] pos) (eA g fa) :=
  ⟨PE.imp (pe_callTy hc hg hm hv ha.run hn hdb he hpl) fun _ _ _ q => sim_A m q⟩
end
section
variable {K : PySem.W.Frag} {H : Hp} {G : Gh}
theorem denL1 {d : D} {vs : List V} (h : DenL K H G [d] vs) : ∃ v, vs = [v] ∧ Den K H G d v := by
  cases h with
  | cons h t => cases t; exact ⟨_, rfl, h⟩
theorem denL2 {d e : D} {vs : List V} (h : DenL K H G [d, e] vs) : ∃ v w, vs = [v, w] ∧ Den K H G d v ∧ Den K H G e w := by
  cases h with
  | cons h t => cases t with
    | cons h2 t => cases t; exact ⟨_, _, rfl, h, h2⟩
end
def lenM : List D → M D := fun ds S => match ds with
  | [d] => match d with
    | .p (.str z) => if z.length ≤ LIM then .ok (.p (.int z.length)) S else .bad
    | d => match seqOf S d with
      | some xs => .ok (.p (.int xs.length)) S
      | none => match dicOf S d with
        | some kvs => .ok (.p (.int kvs.length)) S
        | none => .bad
  | _ => .bad
def rLen (K : PySem.W.Frag) : List V → Hp → VK → Prop := fun xs H Q => (∃ p ys, xs = [.ref p] ∧ (SqL K H p ys ∨ SqT K H p ys) ∧ Q (.int ys.length) H) ∨ (∃ z, xs = [.str z] ∧ z.length ≤ sizeLine ∧ Q (.int z.length) H) ∨ ∃ a kvs, xs = [V.ref a] ∧ Rd H a (.dK kvs) ∧ Q (.int kvs.length) H
theorem sim_len {K : PySem.W.Frag} : SimA K (rLen K) lenM := by
  intro W σ H G S xs vs Q rp dv q
  unfold lenM at q
  split at q
  · rename_i d
    obtain ⟨v, rfl, dv1⟩ := denL1 dv
    replace dv := dv1
    split at q
    · rename_i z
      by_cases hz : z.length ≤ LIM
      · rw [if_pos hz] at q
        rw [den_str dv]
        exact .inr (.inl ⟨z, rfl, Nat.le_trans hz LIM_le, q.ret rp (.int _)⟩)
      · rw [if_neg hz] at q; exact q.elim
    · split at q
      · rename_i xs es
        obtain ⟨a, us, rfl, hq, t⟩ := seqOf_den rp es dv
        refine .inl ⟨a, us, rfl, hq, ?_⟩
        rw [← t.length]
        exact q.ret rp (.int _)
      · split at q
        · rename_i kvs es
          obtain ⟨a, ws, rfl, hH, r⟩ := dicOf_den rp es dv
          refine .inr (.inr ⟨a, ws, rfl, hH, ?_⟩)
          rw [← r.length]
          exact q.ret rp (.int _)
        · exact q.elim
  · exact q.elim
section
variable {X : Cx} {W : WX} {p pos : Pos} {e : Expr} {fa : FA}
theorem call_lenRd : CallR X (.builtin "len") (fun xs H Q => ∃ a kvs, xs = [V.ref a] ∧ Rd H a (.dK kvs) ∧ Q (.int kvs.length) H) := by
  intro pins s σ H vs us Q I r h
  obtain ⟨a, kvs, rfl, e, q⟩ := h
  rw [Vals.ref1 r]
  exact d_len I e fun t s' I' => ⟨.int _, H, I', ⟨t, rfl⟩, q⟩
theorem de_len (hg : Gl X "len") (hm : X.mg "len" = none) (ha : DA X W [e] fa) (he : starEach [e] X.env = (false, eval e X.env) :: starEach [] X.env := by rfl) : DE X W (.Call (.Name "len" p) [e] [] pos) (eA lenM fa) :=
  de_callB (call_len_seq.or (call_len_str.or call_lenRd)) sim_len hg hm PySem.boot_len ha (by decide) (by decide) he
def intM : List D → M D := fun ds S => match ds with
  | [.p (.int i)] => .ok (.p (.int i)) S
  | [.p (.bool b)] => .ok (.p (.int (if b then 1 else 0))) S
  | _ => .bad
theorem de_int1 (hg : Gl X "int") (hm : X.mg "int" = none) (ha : DA X W [e] fa) (he : starEach [e] X.env = (false, eval e X.env) :: starEach [] X.env := by rfl) : DE X W (.Call (.Name "int" p) [e] [] pos) (eA intM fa) :=
  de_callTy (r := fun xs H Q => (∃ i, xs = [.int i] ∧ Q (.int i) H) ∨ ∃ k, xs = [.bl k] ∧ Q (.int (if k then 1 else 0)) H) call_int1 (by
    intro W σ H G S xs vs Q rp dv q
    unfold intM at q
    split at q
    · rename_i i
      obtain ⟨v, rfl, dv1⟩ := denL1 dv
      replace dv := dv1
      rw [den_int dv]
      exact .inl ⟨i, rfl, q.ret rp (.int _)⟩
    · rename_i b
      obtain ⟨v, rfl, dv1⟩ := denL1 dv
      replace dv := dv1
      rw [den_bool dv]
      exact .inr ⟨b, rfl, q.ret rp (.int _)⟩
    · exact q.elim) hg hm (by decide +kernel) ha (by decide) (by decide) he
def rList (K : PySem.W.Frag) : List V → Hp → VK → Prop := fun xs H Q => ∃ p ys, xs = [.ref p] ∧ (SqL K H p ys ∨ SqT K H p ys) ∧ ∀ l, H l = none → Q (.ref l) (upd H l (.lst ys))
def tupleM : List D → M D := fun ds S => match ds with
  | [.p (.tuple xs)] => .ok (.p (.tuple xs)) S
  | [d] => match lstOf S d with
    | some xs => .ok (.p (.tuple xs)) S
    | none => .bad
  | _ => .bad
def bools : List PyData → Option (List Bool)
  | [] => some []
  | .bool b :: r => match bools r with
    | some bs => some (b :: bs)
    | none => none
  | _ :: _ => none
theorem bools_dn {K : PySem.W.Frag} {φ : List (Addr × HO)} {H : Hp} : ∀ {xs : List PyData} {bs : List Bool} {vs : List V}, bools xs = some bs → DnAll K φ H xs vs → vs = bs.map V.bl
  | [], bs, _, e, .nil => by cases e; rfl
  | .bool b :: r, bs, _, e, .cons h t => by
    simp only [bools] at e
    cases q : bools r with
    | none => rw [q] at e; cases e
    | some cs =>
      rw [q] at e; cases e
      cases h
      rw [bools_dn q t]; rfl
  | .none :: _, _, _, e, _ => by cases e
  | .int _ :: _, _, _, e, _ => by cases e
  | .str _ :: _, _, _, e, _ => by cases e
  | .list _ :: _, _, _, e, _ => by cases e
  | .tuple _ :: _, _, _, e, _ => by cases e
  | .dict _ :: _, _, _, e, _ => by cases e
def allM (any : Bool) : List D → M D := fun ds S => match ds with
  | [d] => match lstOf S d with
    | some xs => match bools xs with
      | some bs => .ok (.p (.bool (if any then bs.any id else bs.all id))) S
      | none => .bad
    | none => .bad
  | _ => .bad
theorem de_all (hc : X.calm = true) (hg : Gl X "all") (hm : X.mg "all" = none) (ha : DA X W [e] fa) (he : starEach [e] X.env = (false, eval e X.env) :: starEach [] X.env := by rfl) : DE X W (.Call (.Name "all" p) [e] [] pos) (eA (allM false) fa) :=
  de_callB (cr_all hc) (by
    intro W σ H G S xs vs Q rp dv q
    unfold allM at q
    split at q
    · obtain ⟨v, rfl, dv1⟩ := denL1 dv
      replace dv := dv1
      split at q
      · rename_i xs es
        split at q
        · rename_i bs eb
          obtain ⟨a, us, rfl, hq, t⟩ := lstOf_den rp es dv
          refine ⟨a, bs, rfl, ?_, q.ret rp (.bl _)⟩
          rw [← bools_dn eb t]; exact SqL.of hq
        · exact q.elim
      · exact q.elim
    · exact q.elim) hg hm (by decide +kernel) ha (by decide) (by decide) he
def reprM : List D → M D := fun ds S => match ds with
  | [.p d] => if d.showable && (decide (d.depth ≤ 60) && decide (d.shown.length ≤ LIM)) then .ok (.p (.str d.shown)) S else .bad
  | _ => .bad
def rRepr (K : PySem.W.Frag) : List V → Hp → VK → Prop := fun xs H Q => ∃ v d φ, xs = [v] ∧ Holds φ H ∧ Dn K φ H d v ∧ d.showable = true ∧ d.depth ≤ 60 ∧ d.shown.length ≤ LIM ∧ Q (.str d.shown) H
theorem pairs_keys {P : Program} {w : World} {h : Heap} : ∀ {es : List DictEntry} {kvs : List (Key × Value)} {ds : List PyData} {ws : List (Key × V)}, Pairs (mixKind P w) es kvs → KV ws kvs → ds = ws.map (fun p => keyPy p.1) → RDs h (es.map (·.key)) ds
  | _, _, _, _, .nil, r, e => by
    cases r
    subst e
    exact .nil
  | _, _, _, _, .cons (e := en) hk hv t, r, e => by
    cases r with
    | cons r1 r2 =>
      rename_i pw ws
      subst e
      refine .cons ?_ (pairs_keys t r2 rfl)
      have hk : keyIs _ en.key = true := hk
      rw [← r1.1] at hk
      rcases keyIs_shape hk with ⟨i, tk, e1, e2⟩ | ⟨z, tk, e1, e2⟩
      · show RD h en.key (keyPy pw.1)
        rw [e2, e1]; exact .int i tk
      · show RD h en.key (keyPy pw.1)
        rw [e2, e1]; exact .str z tk
theorem pairs_vals {P : Program} {w : World} : ∀ {es : List DictEntry} {kvs : List (Key × Value)} {ws : List (Key × V)}, Pairs (mixKind P w) es kvs → KV ws kvs → Vals (ws.map (·.2)) (es.map (·.val))
  | _, _, _, .nil, r => by cases r; exact .nil
  | _, _, _, .cons hk hv t, r => by
    cases r with
    | cons r1 r2 => exact .cons (by rw [← hv] at r1; exact r1.2) (pairs_vals t r2)
theorem huge_noshow : PyData.showable (.int hugeI) = false := by
  simp only [PyData.showable, hugeI]
  decide +kernel
theorem insK_noshow (nm : Str) (kvs : List (PyData × PyData)) : PyData.showable (.dict ((.tuple [.str nm, .int hugeI], .none) :: kvs)) = false := by
  have h := huge_noshow
  simp only [PyData.showable, PyData.showableKv, PyData.showableAll] at h ⊢
  rw [h]; simp
mutual
theorem Dn.rd {φ : List (Addr × HO)} {pins : List (Addr × Obj)} {σ : L2.St} {H : Hp} {s : Shared} (I : Inv X pins σ H s) (hφ : Holds φ H) : ∀ {d : PyData} {v : V} {u : Value}, d.showable = true → Dn X.K φ H d v → RelV v u → RD s.heap u d
  | _, _, _, _, .non, r => by cases r; exact .none
  | _, _, _, _, .bl b, r => by cases r; exact .bool b
  | _, _, _, _, .int i, r => by obtain ⟨t, rfl⟩ := r; exact .int i t
  | _, _, _, _, .str x, r => by obtain ⟨t, rfl⟩ := r; exact .str x t
  | _, _, _, hs, .lst f t, r => by
    cases r
    obtain ⟨its, n, rv, e, _⟩ := I.lst (f H hφ)
    exact .list e rfl rfl (DnAll.rd I hφ (by simpa [PyData.showable] using hs) t (by simpa using rv))
  | _, _, _, hs, .tup f t, r => by
    cases r
    obtain ⟨its, rv, ⟨o, e, c, n, dd⟩, _⟩ := I.tuple f
    exact .tuple e c dd (DnAll.rd I hφ (by simpa [PyData.showable] using hs) t (by simpa using rv))
  | _, _, _, hs, .dic (ws := ws) f ek t, r => by
    cases r
    obtain ⟨_, hsys, vs, rel, o, es, ep, e, ex, dd, _, pr, _⟩ := dk_rd I.hok (.inr ⟨f.choose, f.choose_spec H hφ⟩)
    exact .dict e ex.1 dd hsys (pairs_keys pr rel ek) (DnAll.rd I hφ (PyData.showableKv_split _ (by simpa [PyData.showable] using hs)).2 t (pairs_vals pr rel))
  | _, _, _, hs, .ins _ _ _ _, r => by rw [insK_noshow] at hs; cases hs
theorem DnAll.rd {φ : List (Addr × HO)} {pins : List (Addr × Obj)} {σ : L2.St} {H : Hp} {s : Shared} (I : Inv X pins σ H s) (hφ : Holds φ H) : ∀ {ds : List PyData} {vs : List V} {us : List Value}, PyData.showableAll ds = true → DnAll X.K φ H ds vs → Vals vs us → RDs s.heap us ds
  | _, _, _, _, .nil, r => by cases r; exact .nil
  | _, _, _, hs, .cons h t, r => by
    simp only [PyData.showableAll, Bool.and_eq_true] at hs
    cases r with
    | cons r1 r2 => exact .cons (Dn.rd I hφ hs.1 h r1) (DnAll.rd I hφ hs.2 t r2)
end
theorem call_reprD (hgd : X.A.guards = some []) (hu : X.A.units + 64 < cLine) : CallR X (.builtin "repr") (rRepr X.K) := by
  intro pins s σ H xs us Q I r q
  obtain ⟨v, d, φ, rfl, hφ, dn, hs, hd, hz, q⟩ := q
  obtain ⟨u, rfl, rv⟩ := vals1 r
  exact repr_RD (Dn.rd I hφ hs dn rv) hs (Nat.le_trans hz LIM_le) hgd (by omega) fun h' t tk hk => ⟨.str d.shown, H, I.kept hk, ⟨t, rfl⟩, q⟩
theorem de_repr (hgd : X.A.guards = some []) (hu : X.A.units + 64 < cLine) (hg : Gl X "repr") (hm : X.mg "repr" = none) (ha : DA X W [e] fa) (he : starEach [e] X.env = (false, eval e X.env) :: starEach [] X.env := by rfl) : DE X W (.Call (.Name "repr" p) [e] [] pos) (eA reprM fa) :=
  de_callB (call_reprD hgd hu) (by
    intro W σ H G S xs vs Q rp dv q
    unfold reprM at q
    split at q
    · rename_i d
      obtain ⟨v, rfl, dv1⟩ := denL1 dv
      by_cases hc : (d.showable && (decide (d.depth ≤ 60) && decide (d.shown.length ≤ LIM))) = true
      · rw [if_pos hc] at q
        simp only [Bool.and_eq_true, decide_eq_true_eq] at hc
        exact ⟨v, d, G.φ, rfl, rp.phi, dv1, hc.1, hc.2.1, hc.2.2, q.ret rp (.str _)⟩
      · rw [if_neg hc] at q; exact q.elim
    · exact q.elim) hg hm (by decide +kernel) ha (by decide) (by decide) he
end
inductive Tg where
  | str | tuple | int | bool | list | dict
def Tg.nm : Tg → String
  | .str => "str" | .tuple => "tuple" | .int => "int" | .bool => "bool" | .list => "list" | .dict => "dict"
/-- an instance's pairs -/
def insL : List (PyData × PyData) → Bool
  | (.tuple _, _) :: _ => true
  | _ => false
def insX : PyData → Bool
  | .dict l => insL l
  | _ => false
def isT : Tg → PyData → Bool
  | .str, .str _ => true
  | .tuple, .tuple _ => true
  | .int, .int _ => true
  | .int, .bool _ => true
  | .bool, .bool _ => true
  | .list, .list _ => true
  | .dict, .dict l => !insL l
  | _, _ => false
def isiM (T : Tg) : D → M D := fun d S => match d with
  | .p x => .ok (.p (.bool (isT T x))) S
  | _ => .bad
def tyP : PyData → String
  | .none => "NoneType" | .bool _ => "bool" | .int _ => "int" | .str _ => "str" | .list _ => "list" | .tuple _ => "tuple" | .dict _ => "dict"
theorem isT_ok {K : PySem.W.Frag} (T : Tg) (x : PyData) (hx : insX x = false) : PySem.W.kitOne K (.type (tyP x)) (.type T.nm) = some (isT T x) := by
  cases x with
  | dict l =>
    have e : insL l = false := hx
    cases T <;> simp only [isT, e] <;> exact kit_ty (by first | rfl | kernel_rfl)
  | _ => cases T <;> exact kit_ty (by first | rfl | kernel_rfl)
theorem Tg.mem (T : Tg) : T.nm ∈ ["str", "tuple", "int", "bool", "list", "dict"] := by cases T <;> decide
theorem isT_ins {T : Tg} {ks : List PyData} {y : PyData} {l : List (PyData × PyData)} : isT T (.dict ((.tuple ks, y) :: l)) = false := by cases T <;> rfl
theorem keys_noT {kvs : List (PyData × PyData)} {ws : List (Key × V)} (e : kvs.map (·.1) = ws.map (fun p => keyPy p.1)) : insL kvs = false := by
  cases kvs with
  | nil => rfl
  | cons p r =>
    obtain ⟨k, x⟩ := p
    cases ws with
    | nil => cases e
    | cons q ws =>
      obtain ⟨e1, _⟩ := List.cons.inj (show k :: r.map (·.1) = keyPy q.1 :: ws.map (fun p => keyPy p.1) from e)
      subst e1
      obtain ⟨qk, qv⟩ := q
      cases qk <;> rfl
/-- an instance's type, for isinstance -/
theorem kit_ins {X : Cx} {pins : List (Addr × Obj)} {σ : L2.St} {H : Hp} {s : Shared} {φ : List (Addr × HO)} {a C : Addr} {ws : List (Str × V)} (I : Inv X pins σ H s) (hφ : Holds φ H) (h : InsAt X.K φ a C ws) : NotT X.K C ∧ ∃ P : Heap → Prop, PySem.W.KitX X.K (.ref a) (.ref C) P ∧ P s.heap := by
  cases h with
  | pl h c _ =>
    obtain ⟨P, k, p, _⟩ := L2.kit_of (x := .ref a) I rfl (TyX.base (TyOf.ins (hφ _ h) c.cl c.ha c.hn c.ht c.hm))
    exact ⟨c.no, P, k, p⟩
  | ex h1 h2 c na =>
    rename_i dx
    obtain ⟨t1, ho⟩ := exo_at I.hok (hφ _ h1)
    obtain ⟨mA, hns, _⟩ := exd_at I.hok (hφ _ h2)
    obtain ⟨od, es, ep, hod, _⟩ := hns
    exact ⟨c.no, _, PySem.W.kitx_excD (ox := { cls := .ref C, dict := some dx, data := .fields #[.ref t1, .none, .none, .none, .bool false, .none] }) c.ex.hg c.ex.hk c.ex.hs c.ex.hd c.ex.ha c.ex.hn c.ex.ht c.ex.hm, od, ⟨ho, rfl, rfl, hod⟩⟩
  | ex0 h c =>
    obtain ⟨t1, ho⟩ := exo_at I.hok (hφ _ h)
    exact ⟨c.no, _, PySem.W.handS_kitx_exc (ox := { cls := .ref C, dict := none, data := .fields #[.ref t1, .none, .none, .none, .bool false, .none] }) c.ex.hg c.ex.hk c.ex.hs c.ex.hd c.ex.ha c.ex.hn c.ex.ht c.ex.hm, ⟨ho, rfl, rfl, trivial⟩⟩
theorem ty_dn {K : PySem.W.Frag} {H : Hp} {φ : List (Addr × HO)} (hφ : Holds φ H) {x : PyData} {v : V} (h : Dn K φ H x v) : (insX x = false ∧ TyX K H v (.type (tyP x))) ∨ ∃ a C nm ws kvs, v = .ref a ∧ x = .dict ((.tuple [.str nm, .int hugeI], .none) :: kvs) ∧ InsAt K φ a C ws ∧ clsOf K nm = .ref C ∧ kvs.map (·.1) = ws.map (fun p => PyData.str p.1) ∧ DnAll K φ H (kvs.map (·.2)) (ws.map (·.2)) := by
  cases h with
  | non => exact .inl ⟨rfl, .base .non⟩
  | bl b => exact .inl ⟨rfl, .base (.bl b)⟩
  | int i => exact .inl ⟨rfl, .base (.int i)⟩
  | str z => exact .inl ⟨rfl, .base (.str z)⟩
  | lst f t => exact .inl ⟨rfl, .base (.lst (f H hφ))⟩
  | tup f t =>
    refine .inl ⟨rfl, ?_⟩
    rcases f with (f | ⟨o, f⟩) | ⟨o, its, n, k1, k2, _⟩
    · exact .base (.tup f)
    · exact .fTuple f
    · exact .kTuple k1 k2
  | dic f e t => exact .inl ⟨keys_noT e, .fDict (f.choose_spec H hφ)⟩
  | ins f c e t => exact .inr ⟨_, _, _, _, _, rfl, rfl, f, c, e, t⟩
/-- isinstance(x, T), x any data -/
def rIsiD (K : PySem.W.Frag) (T : Tg) : List V → Hp → VK → Prop := fun xs H Q => ∃ v x φ, xs = [v, .ty T.nm] ∧ Holds φ H ∧ Dn K φ H x v ∧ Q (.bl (isT T x)) H
theorem call_isiD {X : Cx} (T : Tg) : CallR X (.builtin "isinstance") (rIsiD X.K T) := by
  intro pins s σ H xs us Q I r h
  obtain ⟨v, x, φ, rfl, hφ, dn, q⟩ := h
  rcases ty_dn hφ dn with ⟨hx, ty⟩ | ⟨a, C, nm, ws, kvs, rfl, rfl, ia, _⟩
  · exact call_isi pins s σ H _ us Q I r ⟨v, .ty T.nm, .type (tyP x), .type T.nm, isT T x, rfl, .ty _, ty, isT_ok T x hx, q⟩
  · obtain ⟨u1, u2, rfl, r1, r2⟩ := vals2 r
    cases r1
    cases r2
    obtain ⟨no, P, Z, p⟩ := kit_ins I hφ ia
    rw [isT_ins] at q
    exact PySem.W.kia_one Z I.kIn p (no _ T.mem) (fun z => nomatch z) fun tk => ⟨.bl false, H, I.tok tk, rfl, q⟩
section
variable {X : Cx} {W : WX} {p pos pT : Pos} {e : Expr} {f : FE}
theorem de_isi (T : Tg) (hg : Gl X "isinstance") (hm : X.mg "isinstance" = none) (hgT : Gl X (Str.ofString T.nm)) (hmT : X.mg (Str.ofString T.nm) = none) (hvT : bootBuiltins (Str.ofString T.nm) = some (.type T.nm)) (ha : DE X W e f) (hnT : Str.ofString T.nm ≠ "__name__" := by decide) (hdT : (Str.ofString T.nm == ("__debug__" : Str)) = false := by decide)
    (he : starEach [e, .Name (Str.ofString T.nm) pT] X.env = (false, eval e X.env) :: starEach [.Name (Str.ofString T.nm) pT] X.env := by rfl) (hpl : (backTo pos (starEach [.Name (Str.ofString T.nm) pT] X.env)).any (·.1) = false := by rfl) (he2 : starEach [.Name (Str.ofString T.nm) pT] X.env = (false, eval (.Name (Str.ofString T.nm) pT) X.env) :: starEach [] X.env := by rfl) :
    DE X W (.Call (.Name "isinstance" p) [e, .Name (Str.ofString T.nm) pT] [] pos) (e1 (isiM T) f) := by
  refine ⟨PE.imp (pe_callB (call_isiD T) hg hm (by decide +kernel) (pa_cons ha.run (pa_cons (pe_bltn (v := .ty T.nm) hgT hmT hvT rfl hnT hdT) pa_nil he2) he) (by decide) (by decide) he hpl) fun σ H Q ⟨G, S, ρ, rs, rp, q⟩ => ?_⟩
  refine ⟨G, S, ρ, rs, rp, (Aft.bind q).mono fun d H1 G1 S1 x1 r1 q1 v dv => ?_⟩
  unfold isiM at q1
  split at q1
  · rename_i x
    exact ⟨v, x, G1.φ, rfl, r1.phi, dv, q1.ret r1 (.bl _)⟩
  · exact q1.elim
end
def rdO (K : PySem.W.Frag) (W : WX) (f : Ev → M (Option Int)) : TO := fun σ H Q => ∃ G S ρ, RelS K H G ρ σ ∧ Rep K H G S ∧ Aft K W σ H G S (f ρ S) fun o H' _ _ => Q o H'
def oNone : Ev → M (Option Int) := fun _ S => .ok none S
def oInt : D → M (Option Int) := fun d S => match d with
  | .p (.int i) => .ok (some i) S
  | _ => .bad
def oSome (f : FE) : Ev → M (Option Int) := fun ρ S => (f ρ S).bind oInt
/-- a list, also the script -/
def rlOf (S : Sto) : D → Option (List PyData)
  | .p (.list l) => some l
  | .ro l => some l
  | .ob i => match S[i]? with
    | some (.lst l) => some l
    | _ => none
  | _ => none
theorem rlOf_den {K : PySem.W.Frag} {H : Hp} {G : Gh} {S : Sto} (rp : Rep K H G S) {d : D} {v : V} {xs : List PyData} (e : rlOf S d = some xs) (h : Den K H G d v) : ∃ a vs, v = .ref a ∧ SqL K H a vs ∧ DnAll K G.φ H xs vs := by
  cases d with
  | p x =>
    cases x with
    | list l =>
      cases e
      obtain ⟨a, vs, rfl, f, t⟩ := den_lst h
      exact ⟨a, vs, rfl, SqL.of (f H rp.phi), t⟩
    | _ => cases e
  | ob i =>
    simp only [rlOf] at e
    split at e
    · rename_i ks ei
      cases e
      obtain ⟨a, rfl, ha⟩ := h
      obtain ⟨vs, e1, t⟩ := rp.ok i a _ ha ei
      exact ⟨a, vs, rfl, SqL.of e1, t⟩
    · cases e
  | ro l =>
    cases e
    obtain ⟨a, vs, rfl, f, t⟩ := h
    exact ⟨a, vs, rfl, f H rp.phi, t⟩
  | ext _ => cases e
def cutP (xs : List PyData) (lo hi : Option Int) : List PyData := (xs.drop (HT.sIx xs.length 0 lo)).take (HT.sIx xs.length xs.length hi - HT.sIx xs.length 0 lo)
theorem cut_dn {K : PySem.W.Frag} {φ : List (Addr × HO)} {H : Hp} {xs : List PyData} {vs : List V} {lo hi : Option Int} (t : DnAll K φ H xs vs) : DnAll K φ H (cutP xs lo hi) (cutV vs lo hi) := by
  unfold cutP cutV
  rw [t.length]
  exact (t.drop _).take _
def sliM : D → Option Int → Option Int → M D := fun d lo hi S => match d with
  | .p (.tuple xs) => .ok (.p (.tuple (cutP xs lo hi))) S
  | .p (.str z) => if z.length ≤ LIM then .ok (.p (.str (cutS z lo hi))) S else .bad
  | d => match rlOf S d with
    | some xs => .ok (.p (.list (cutP xs lo hi))) S
    | none => .bad
def eSli (f : FE) (lo hi : Ev → M (Option Int)) : FE := fun ρ S => (f ρ S).bind fun d S1 => (lo ρ S1).bind fun l S2 => (hi ρ S2).bind fun u S3 => sliM d l u S3
theorem cut_whole {xs : List PyData} {lo hi : Option Int} (h : HT.sIx xs.length 0 lo = 0 ∧ HT.sIx xs.length xs.length hi = xs.length) : cutP xs lo hi = xs := by
  unfold cutP
  rw [h.1, h.2]; simp
section
variable {X : Cx} {W : WX} {p2 pos : Pos} {e : Expr} {lo hi : Option Expr} {f : FE} {l u : Ev → M (Option Int)}
theorem do_none : PO X none (rdO X.K W oNone) := ⟨fun pins s σ H Q I ⟨G, S, ρ, rs, rp, q⟩ => po_none.run pins s σ H Q I (q H G Ext.refl rp)⟩
theorem do_some (h : DE X W e f) : PO X (some e) (rdO X.K W (oSome f)) := by
  refine ⟨fun pins s σ H Q I ⟨G, S, ρ, rs, rp, q⟩ => (po_some h.run).run pins s σ H Q I ⟨G, S, ρ, rs, rp, (Aft.bind q).mono fun d H1 G1 S1 x1 r1 q1 v dv => ?_⟩⟩
  unfold oInt at q1
  split at q1
  · rename_i i
    exact ⟨i, den_int dv, q1 H1 G1 Ext.refl r1⟩
  · exact q1.elim
theorem de_slice (he : DE X W e f) (hl : PO X lo (rdO X.K W l)) (hu : PO X hi (rdO X.K W u)) : DE X W (.Subscript e (.Slice lo hi none p2) pos) (eSli f l u) := by
  refine ⟨PE.imp (pe_slice (sl_list.or (sl_tupA.or sl_str)) he.run hl hu) fun σ H Q ⟨G, S, ρ, rs, rp, q⟩ => ?_⟩
  refine ⟨G, S, ρ, rs, rp, (Aft.bind q).mono fun d H1 G1 S1 x1 r1 q1 v dv => ?_⟩
  refine ⟨G1, S1, ρ, x1.relS rp rs, r1, (Aft.bind q1).mono fun lv H2 G2 S2 x2 r2 q2 => ?_⟩
  refine ⟨G2, S2, ρ, x2.relS r1 (x1.relS rp rs), r2, (Aft.bind q2).mono fun uv H3 G3 S3 x3 r3 q3 => ?_⟩
  have dv3 := (x2.trans x3).den r1 dv
  clear dv
  unfold sliM at q3
  split at q3
  · obtain ⟨a, vs, rfl, hq, t⟩ := den_tup dv3
    refine .inr (.inl ⟨a, vs, rfl, hq, fun hw => ?_, fun _ p hp => q3.newTup r3 (cut_dn t) hp⟩)
    rw [← t.length] at hw
    rw [cut_whole hw] at q3
    exact q3.ret r3 dv3
  · rename_i z
    by_cases hz : z.length ≤ LIM
    · rw [if_pos hz] at q3
      exact .inr (.inr ⟨z, den_str dv3, Nat.le_trans hz LIM_le, q3.ret r3 (.str _)⟩)
    · rw [if_neg hz] at q3; exact q3.elim
  · split at q3
    · rename_i xs es
      obtain ⟨a, vs, rfl, hq, t⟩ := rlOf_den r3 es dv3
      exact .inl ⟨a, vs, rfl, hq, fun p hp => q3.newLst r3 (cut_dn t) hp⟩
    · exact q3.elim
def revM : D → M D := fun d S => match rlOf S d with
  | some xs => .ok (.p (.list xs.reverse)) S
  | none => .bad
theorem de_rev {k : Nat} {p1 p3 : Pos} (he : DE X W e f) : DE X W (.Subscript e (.Slice none none (some (.UnaryOp .USub (.Constant (.int 1) k p1) p2)) p3) pos) (e1 revM f) := by
  refine ⟨PE.imp (pe_revL he.run) fun σ H Q ⟨G, S, ρ, rs, rp, q⟩ => ⟨G, S, ρ, rs, rp, (Aft.bind q).mono fun d H1 G1 S1 x1 r1 q1 v dv => ?_⟩⟩
  unfold revM at q1
  split at q1
  · rename_i xs es
    obtain ⟨a, vs, rfl, hq, t⟩ := rlOf_den r1 es dv
    exact ⟨a, vs, rfl, hq, fun p hp => q1.newLst r1 t.reverse hp⟩
  · exact q1.elim
end
end DL
namespace DL
open PySem L2 PySem.Spec PyProof.Rows
def pairsD : List (FE × FE) → Ev → M (List (Key × PyData))
  | [] => fun _ S => .ok [] S
  | (fk, fv) :: r => fun ρ S => (fk ρ S).bind fun k S1 => (fv ρ S1).bind fun v S2 => (pairsD r ρ S2).bind fun kvs S3 => match k, v with
    | .p kd, .p vd => (match pyKey kd with
      | some key => .ok ((key, vd) :: kvs) S3
      | none => .bad)
    | _, _ => .bad
def mergeD (kvs : List (Key × PyData)) : List (Key × PyData) := kvs.foldl (fun acc kv => putD acc kv.1 kv.2) []
def finDL : List (Key × PyData) → M D := fun kvs S => .ok (.p (.dict (pyKv kvs))) S
def finDM : List (Key × PyData) → M D := fun kvs S => .ok (.ob S.length) (S ++ [.dic kvs])
def eDisp (fs : List (FE × FE)) (fin : List (Key × PyData) → M D) : FE := fun ρ S => (pairsD fs ρ S).bind fun kvs S1 => if kvs.length ≤ 15 then fin (mergeD kvs) S1 else .bad
inductive DPs (X : Cx) (W : WX) (pos : Pos) : List (Option Expr) → List Expr → List (FE × FE) → Prop where
  | nil : DPs X W pos [] [] []
  | cons {k v : Expr} {ks : List (Option Expr)} {vs : List Expr} {fk fv : FE} {fs : List (FE × FE)} (hk : DE X W k fk) (hv : DE X W v fv) (hr : DPs X W pos ks vs fs) : DPs X W pos (some k :: ks) (v :: vs) ((fk, fv) :: fs)
section
variable {K : PySem.W.Frag} {φ : List (Addr × HO)} {H H1 : Hp} {G G1 : Gh} {S S1 : Sto} {D : Addr} {o : HO}
theorem KvR.mono {φ' : List (Addr × HO)} {H' : Hp} {kvs : List (Key × PyData)} {ws : List (Key × V)} (r : KvR K φ H kvs ws) (hs : ∀ p ∈ φ, p ∈ φ') (ht : ∀ a vs, SqT K H a vs → SqT K H' a vs) : KvR K φ' H' kvs ws := ⟨r.ks, r.vs.mono hs ht⟩
theorem KvR.merge : ∀ {kvs : List (Key × PyData)} {ws : List (Key × V)} {acc : List (Key × PyData)} {bcc : List (Key × V)}, KvR K φ H kvs ws → KvR K φ H acc bcc → KvR K φ H (kvs.foldl (fun acc kv => putD acc kv.1 kv.2) acc) (ws.foldl (fun acc kv => putK acc kv.1 kv.2) bcc)
  | [], _, _, _, r, b => by rw [r.nil_inv]; exact b
  | p :: kvs, _, _, _, r, b => by
    obtain ⟨v, ws, rfl, h, t⟩ := r.inv
    rw [List.foldl_cons, List.foldl_cons]
    exact KvR.merge t (b.put h)
theorem tup_aside {u : HO} (e : H D = some o) (h1 : ∀ xs, o ≠ .tup xs) (h2 : ∀ ob v, o ≠ .frz ob v) : ∀ a vs, SqT K H a vs → SqT K (upd H D u) a vs := fun a vs h => by
  rcases h with (h | ⟨ob, h⟩) | h
  · exact .inl (.inl (by rw [upd_ne (ne_of h e (fun z => h1 _ z.symm))]; exact h))
  · exact .inl (.inr ⟨ob, by rw [upd_ne (ne_of h e (fun z => h2 _ _ z.symm))]; exact h⟩)
  · exact .inr h
theorem Rep.asideD {u : HO} (r : Rep K H G S) (b : Beside H G D o) (h1 : ∀ xs, o ≠ .tup xs) (h2 : ∀ ob v, o ≠ .frz ob v) : Rep K (upd H D u) G S := by
  refine ⟨r.len, r.nd, fun i a m g1 g2 => OkO.ext (G := G) (fun _ h => h) (tup_aside b.at_ h1 h2) (fun v hv => ?_) (r.ok i a m g1 g2), fun p hp => ?_, r.pnl⟩
  · rw [upd_ne (fun z => b.ι (by rw [← z]; exact List.mem_of_getElem? g1))]; exact hv
  · rw [upd_ne (b.φ p hp)]; exact r.phi p hp
end
section
variable {X : Cx} {W : WX} {pos : Pos} {keys : List (Option Expr)} {values : List Expr} {fs : List (FE × FE)}
theorem DPs.run (h : DPs X W pos keys values fs) : PPs X pos keys values (fs.map fun p => (rd X.K W p.1, rd X.K W p.2)) := by
  induction h with
  | nil => exact pps_nil
  | cons hk hv hr ih => exact pps_cons hk.run hv.run ih
theorem pairs_read {K : PySem.W.Frag} : ∀ (fs : List (FE × FE)) {σ : L2.St} {H : Hp} {G : Gh} {S : Sto} {ρ : Ev} {R : List (V × V) → Hp → Prop}, RelS K H G ρ σ → Rep K H G S →
    Aft K W σ H G S (pairsD fs ρ S) (fun kvs H' G' _ => ∀ ws, KvR K G'.φ H' kvs ws → R (ws.map fun kv => (kV kv.1, kv.2)) H') → tPairs (fs.map fun p => (rd K W p.1, rd K W p.2)) σ H R
  | [], σ, H, G, S, ρ, R, rs, rp, q => q H G Ext.refl rp [] .nil
  | (fk, fv) :: r, σ, H, G, S, ρ, R, rs, rp, q => by
    refine ⟨G, S, ρ, rs, rp, (Aft.bind q).mono fun k H1 G1 S1 x1 r1 q1 kv dk => ?_⟩
    refine ⟨G1, S1, ρ, x1.relS rp rs, r1, (Aft.bind q1).mono fun v H2 G2 S2 x2 r2 q2 vv dv => ?_⟩
    refine pairs_read r (x2.relS r1 (x1.relS rp rs)) r2 ((Aft.bind q2).mono fun kvs H3 G3 S3 x3 r3 q3 ws kr => ?_)
    have dk3 := (x2.trans x3).den r1 dk
    have dv3 := x3.den r2 dv
    split at q3
    · split at q3
      · rename_i kd vd key ek
        have ekd := keyPy_of ek
        subst ekd
        have ev : kv = kV key := by
          cases key with
          | inl i => exact den_int dk3
          | inr z => exact den_str dk3
        subst ev
        exact q3 H3 G3 Ext.refl r3 ((key, vv) :: ws) (kr.cons dv3)
      · exact q3.elim
    · exact q3.elim
theorem de_dispL (h : DPs X W pos keys values fs) (hall : keys.all (·.isSome) = true := by rfl) (hl : keys.length = values.length := by rfl) (h0 : keys ≠ [] := by exact (fun z => nomatch z)) (h15 : keys.length ≤ 15 := by decide) : DE X W (.Dict keys values pos) (eDisp fs finDL) := by
  refine ⟨PE.imp (PE.lk (pe_disp h.run hall hl h0 h15)) fun σ H Q ⟨G, S, ρ, rs, rp, q⟩ p hp => ?_⟩
  have x0 := Ext.other (o := .dK []) rp hp
  have r0 := Rep.other (o := .dK []) rp hp
  have b0 : Beside (upd H p (.dK [])) G p (.dK []) := ⟨upd_same, rp.notIn hp, rp.notPhi hp⟩
  refine pairs_read fs (x0.relS rp rs) r0 ?_
  have q' := Aft.bind q
  cases eo : pairsD fs ρ S with
  | bad => rw [eo] at q'; exact q'
  | err x s => rw [eo] at q'; exact fun H1 G1 d x1 r1 e => q' H1 G1 d (x0.trans x1) r1 e
  | ok kvs S1 =>
    rw [eo] at q'
    intro H1 G1 x1 r1 ws kr
    have b1 := b0.ext x1
    have q1 := q' H1 G1 (x0.trans x1) r1
    by_cases hk : kvs.length ≤ 15
    · simp only [if_pos hk] at q1
      refine ⟨b1.at_, ws, rfl, by rw [← kr.length]; exact hk, ?_⟩
      have nt : ∀ xs, HO.dK [] ≠ .tup xs := fun _ z => nomatch z
      have nf : ∀ ob v, HO.dK [] ≠ .frz ob v := fun _ _ z => nomatch z
      refine .inr ⟨p, .dK (mergeK [] ws), upd_same, trivial, fun od => ?_⟩
      rw [upd_twice]
      have b2 : Beside (upd H1 p (.frz od (.dK (mergeK [] ws)))) G1 p (.frz od (.dK (mergeK [] ws))) := ⟨upd_same, b1.ι, b1.φ⟩
      have r2 : Rep X.K (upd H1 p (.frz od (.dK (mergeK [] ws)))) G1 S1 := r1.asideD b1 nt nf
      have kr2 : KvR X.K G1.φ (upd H1 p (.frz od (.dK (mergeK [] ws)))) (mergeD kvs) (mergeK [] ws) := (kr.merge .nil).mono (fun _ h => h) (tup_aside b1.at_ nt nf)
      have xx : Ext H G S (upd H1 p (.frz od (.dK (mergeK [] ws)))) ⟨G1.ι, (p, .frz od (.dK (mergeK [] ws))) :: G1.φ⟩ S1 := ((x0.trans x1).aside hp).iceD hp
      have q2 := q'
      have fin : Aft X.K W σ H G S (.ok (.p (.dict (pyKv (mergeD kvs)))) S1) (QD X.K Q) := fun H9 G9 x9 r9 => by
        have := q' H9 G9 x9 r9
        simp only [if_pos hk] at this
        exact this H9 G9 Ext.refl r9
      exact fin _ _ xx (r2.iceD b2) _ (Dn.dicOf ⟨od, fun _ z => z _ List.mem_cons_self⟩ kr2.ks (kr2.vs.mono (fun _ h => List.mem_cons_of_mem _ h) fun _ _ h => h))
    · simp only [if_neg hk] at q1; exact q1.elim
theorem de_dispM (h : DPs X W pos keys values fs) (hall : keys.all (·.isSome) = true := by rfl) (hl : keys.length = values.length := by rfl) (h0 : keys ≠ [] := by exact (fun z => nomatch z)) (h15 : keys.length ≤ 15 := by decide) : DE X W (.Dict keys values pos) (eDisp fs finDM) := by
  refine ⟨PE.imp (pe_disp h.run hall hl h0 h15) fun σ H Q ⟨G, S, ρ, rs, rp, q⟩ p hp => ?_⟩
  have x0 := Ext.other (o := .dK []) rp hp
  have r0 := Rep.other (o := .dK []) rp hp
  have b0 : Beside (upd H p (.dK [])) G p (.dK []) := ⟨upd_same, rp.notIn hp, rp.notPhi hp⟩
  refine pairs_read fs (x0.relS rp rs) r0 ?_
  have q' := Aft.bind q
  cases eo : pairsD fs ρ S with
  | bad => rw [eo] at q'; exact q'
  | err x s => rw [eo] at q'; exact fun H1 G1 d x1 r1 e => q' H1 G1 d (x0.trans x1) r1 e
  | ok kvs S1 =>
    rw [eo] at q'
    intro H1 G1 x1 r1 ws kr
    have b1 := b0.ext x1
    have q1 := q' H1 G1 (x0.trans x1) r1
    by_cases hk : kvs.length ≤ 15
    · refine ⟨b1.at_, ws, rfl, by rw [← kr.length]; exact hk, ?_⟩
      have nt : ∀ xs, HO.dK [] ≠ .tup xs := fun _ z => nomatch z
      have nf : ∀ ob v, HO.dK [] ≠ .frz ob v := fun _ _ z => nomatch z
      have r2 : Rep X.K (upd H1 p (.dK (mergeK [] ws))) G1 S1 := r1.asideD b1 nt nf
      have kr2 : KvR X.K G1.φ (upd H1 p (.dK (mergeK [] ws))) (mergeD kvs) (mergeK [] ws) := (kr.merge .nil).mono (fun _ h => h) (tup_aside b1.at_ nt nf)
      have x2 : Ext H G S (upd H1 p (.dK (mergeK [] ws))) G1 S1 := (x0.trans x1).aside hp
      have fin : Aft X.K W σ H G S (.ok (.ob S1.length) (S1 ++ [.dic (mergeD kvs)])) (QD X.K Q) := by
        have q'' := Aft.bind q
        rw [eo] at q''
        intro H9 G9 x9 r9
        simp only [eDisp] at q
        rw [eo] at q
        simp only [Out.bind_ok, if_pos hk] at q
        exact q H9 G9 x9 r9
      refine fin _ (G1.add p) ?_ ?_ _ (show Den X.K _ (G1.add p) (.ob S1.length) (.ref p) from ⟨p, rfl, Gh.add_last r1 p⟩)
      · refine ⟨fun i a h => ?_, x2.phi, x2.frame, fun c l => ?_, fun c h => ?_, x2.phf⟩
        · have h := x2.pre i a h
          show (G1.ι ++ [p])[i]? = some a
          rw [List.getElem?_append_left (List.getElem?_eq_some_iff.mp h).1]; exact h
        · rcases Live.add r1 l with z | z
          · exact x2.fresh c z
          · rw [z]; exact .inr hp
        · rcases List.mem_append.mp (show c ∈ G1.ι ++ [p] from h) with z | z
          · exact x2.iot c z
          · have e : c = p := by simpa using z
            rw [e]; exact .inr hp
      · refine ⟨?_, ?_, fun i a mo h1 h2 => ?_, r2.phi, fun z hz l => ?_⟩
        · show (G1.ι ++ [p]).length = (S1 ++ [MO.dic (mergeD kvs)]).length
          rw [List.length_append, List.length_append, r1.len]; rfl
        · show (G1.ι ++ [p]).Nodup
          rw [List.nodup_append]
          refine ⟨r1.nd, by simp, fun a ha c hc => ?_⟩
          have e : c = p := by simpa using hc
          subst e
          intro z; subst z; exact b1.ι ha
        · have h1 : (G1.ι ++ [p])[i]? = some a := h1
          by_cases hi : i < S1.length
          · rw [List.getElem?_append_left (by rw [r1.len]; exact hi)] at h1
            rw [List.getElem?_append_left hi] at h2
            exact r2.ok i a mo h1 h2
          · have hl : i < (S1 ++ [MO.dic (mergeD kvs)]).length := (List.getElem?_eq_some_iff.mp h2).1
            rw [List.length_append] at hl
            have e : i = S1.length := by have : i < S1.length + 1 := hl; omega
            subst e
            rw [← r1.len] at h1
            simp at h1 h2
            subst h1 h2
            exact ⟨_, upd_same, kr2.ks, kr2.vs⟩
        · rcases Live.add r1 l with y | y
          · exact r2.pnl z hz y
          · exact b1.φ z hz y
    · simp only [if_neg hk] at q1; exact q1.elim
theorem de_dnewL : DE X W (.Dict [] [] pos) (fun _ S => .ok (.p (.dict [])) S) :=
  ⟨PE.imp (PE.lk pe_dnewK) fun σ H Q ⟨G, S, ρ, rs, rp, q⟩ d hd => Aft.newDicL (kvs := []) (ws := []) q rp rfl .nil hd⟩
end
def strsP : List PyData → Option (List Str)
  | [] => some []
  | .str z :: r => match strsP r with
    | some zs => some (z :: zs)
    | none => none
  | _ :: _ => none
theorem strsP_dn {K : PySem.W.Frag} {φ : List (Addr × HO)} {H : Hp} : ∀ {xs : List PyData} {zs : List Str} {vs : List V}, strsP xs = some zs → DnAll K φ H xs vs → vs = zs.map V.str
  | [], zs, _, e, .nil => by cases e; rfl
  | .str b :: r, zs, _, e, .cons h t => by
    simp only [strsP] at e
    cases q : strsP r with
    | none => rw [q] at e; cases e
    | some cs =>
      rw [q] at e; cases e
      cases h
      rw [strsP_dn q t]; rfl
  | .none :: _, _, _, e, _ => by cases e
  | .int _ :: _, _, _, e, _ => by cases e
  | .bool _ :: _, _, _, e, _ => by cases e
  | .list _ :: _, _, _, e, _ => by cases e
  | .tuple _ :: _, _, _, e, _ => by cases e
  | .dict _ :: _, _, _, e, _ => by cases e
inductive DJ (X : Cx) (W : WX) : List Expr → List FE → Prop where
  | nil : DJ X W [] []
  | cons {e : Expr} {f : FE} {es : List Expr} {fs : List FE} (h : DE X W e f) (r : DJ X W es fs) : DJ X W (e :: es) (f :: fs)
section
variable {X : Cx} {W : WX} {pos apos : Pos} {o e : Expr} {f g : FE}
theorem DJ.run {es : List Expr} {fs : List FE} (h : DJ X W es fs) : PJ X es (fs.map (rd X.K W)) := by
  induction h with
  | nil => exact .nil
  | cons h r ih => exact .cons h.run ih
end
end DL
namespace DL
open PySem L2 PySem.Spec PyProof.Rows
def eChain (g g' : D → D → M D) (a b c : FE) : FE := fun ρ S => (a ρ S).bind fun x S1 => (b ρ S1).bind fun y S2 => (g x y S2).bind fun z S3 => match z with
  | .p (.bool true) => (c ρ S3).bind fun w S4 => g' y w S4
  | .p (.bool false) => .ok (.p (.bool false)) S3
  | _ => .bad
def boolM : D → M Bool := fun d S => match d with
  | .p (.bool c) => .ok c S
  | _ => .bad
def tChain (g g' : D → D → M D) (a b c : FE) : FT := fun ρ S => (eChain g g' a b c ρ S).bind boolM
section
variable {X : Cx} {W : WX} {a b c : Expr} {fa fb fc : FE} {pos : Pos} {r r' : R2} {g g' : D → D → M D}
theorem chain_read (m : Sim2 X.K r g) (m' : Sim2 X.K r' g') {σ : L2.St} {H : Hp} {Q : VK} (q : rd X.K W (eChain g g' fa fb fc) σ H Q) : L2.tChain r r' (rd X.K W fa) (rd X.K W fb) (rd X.K W fc) σ H Q := by
  obtain ⟨G, S, ρ, rs, rp, q⟩ := q
  refine ⟨G, S, ρ, rs, rp, (Aft.bind q).mono fun x H1 G1 S1 x1 r1 q1 v dv => ?_⟩
  refine ⟨G1, S1, ρ, x1.relS rp rs, r1, (Aft.bind q1).mono fun y H2 G2 S2 x2 r2 q2 w dw => ?_⟩
  refine m W σ H2 G2 S2 x y v w _ r2 (x2.den r1 dv) dw ((Aft.bind q2).mono fun z H3 G3 S3 x3 r3 q3 u du => ?_)
  split at q3
  · refine ⟨true, den_bool du, L2.iteT ⟨G3, S3, ρ, (x2.trans x3).relS r1 (x1.relS rp rs), r3, (Aft.bind q3).mono fun w' H4 G4 S4 x4 r4 q4 u' du' => ?_⟩⟩
    exact m' W σ H4 G4 S4 y w' w u' Q r4 ((x3.trans x4).den r2 dw) du' q4
  · exact ⟨false, den_bool du, L2.iteF (q3.ret r3 (.bl _))⟩
  · exact q3.elim
theorem de_chain {op op' : CmpOp} (o : OpR X (compareOp op) r) (m : Sim2 X.K r g) (o' : OpR X (compareOp op') r') (m' : Sim2 X.K r' g') (ha : DE X W a fa) (hb : DE X W b fb) (hc : DE X W c fc) (hm : lastMarks [op, op'] [b, c] = false := by with_unfolding_all rfl) : DE X W (.Compare a [op, op'] [b, c] pos) (eChain g g' fa fb fc) :=
  ⟨PE.imp (pe_chain o o' ha.run hb.run hc.run hm) fun _ _ _ q => chain_read m m' q⟩
theorem dt_chain {op op' : CmpOp} (o : OpR X (compareOp op) r) (m : Sim2 X.K r g) (o' : OpR X (compareOp op') r') (m' : Sim2 X.K r' g') (ha : DE X W a fa) (hb : DE X W b fb) (hc : DE X W c fc) (hm : lastMarks [op, op'] [b, c] = false := by with_unfolding_all rfl) : DT X W (.Compare a [op, op'] [b, c] pos) (tChain g g' fa fb fc) := by
  refine ⟨PT.imp (pt_chain o o' ha.run hb.run hc.run hm) fun σ H Q ⟨G, S, ρ, rs, rp, q⟩ => ?_⟩
  refine chain_read m m' ⟨G, S, ρ, rs, rp, (Aft.bind q).mono fun d H1 G1 S1 x1 r1 q1 v dv => ?_⟩
  unfold boolM at q1
  split at q1
  · rename_i c
    exact ⟨c, den_bool dv, q1 H1 G1 Ext.refl r1⟩
  · exact q1.elim
/-- is not, of bools -/
def opNotB : D → D → M D := fun x y S => match x, y with
  | .p (.bool a), .p (.bool b) => .ok (.p (.bool (!decide (a = b)))) S
  | _, _ => .bad
theorem sim_notB {K : PySem.W.Frag} : Sim2 K rNotB opNotB := by
  intro W σ H G S x y v w Q rp dx dy q
  unfold opNotB at q
  split at q
  · rename_i a b
    exact ⟨a, b, den_bool dx, den_bool dy, q.ret rp (.bl _)⟩
  · exact q.elim
theorem dt_notB (ha : DE X W a fa) (hb : DE X W b fb) : DT X W (.Compare a [.IsNot] [b] pos) (tC2 opNotB fa fb) := dt_cmp op_notBl sim_notB ha hb (nomark _)
end
def appendM : D → List D → M D := fun o ds S => match o, ds with
  | .ob i, [.p x] => match S[i]? with
    | some (.lst xs) => if xs.length < LIM then .ok (.p .none) (S.set i (.lst (xs ++ [x]))) else .bad
    | _ => .bad
  | _, _ => .bad
def extendM : D → List D → M D := fun o ds S => match o, ds with
  | .ob i, [l] => match S[i]?, lstOf S l with
    | some (.lst xs), some ys => if xs.length + ys.length ≤ LIM then .ok (.p .none) (S.set i (.lst (xs ++ ys))) else .bad
    | _, _ => .bad
  | _, _ => .bad
def popM : D → List D → M D := fun o ds S => match o, ds with
  | .ob i, [] => match S[i]? with
    | some (.lst xs) => (match xs[xs.length - 1]? with
      | some y => .ok (.p y) (S.set i (.lst xs.dropLast))
      | none => .bad)
    | _ => .bad
  | .ob i, [.p (.int k)] => match S[i]? with
    | some (.lst xs) => if 0 ≤ k ∧ k ≤ 1000000 then (match xs[k.toNat]? with
      | some y => .ok (.p y) (S.set i (.lst (xs.eraseIdx k.toNat)))
      | none => .bad) else .bad
    | _ => .bad
  | _, _ => .bad
/-- o.m(..) of a list -/
def eLm (m : D → List D → M D) (f : FE) (fa : FA) : FE := fun ρ S => (f ρ S).bind fun o S1 => match rlOf S1 o with
  | some _ => (fa ρ S1).bind fun ds S2 => m o ds S2
  | none => .bad
def SimM (K : PySem.W.Frag) (r : V → List V → Hp → VK → Prop) (m : D → List D → M D) : Prop :=
  ∀ (W : WX) (σ : L2.St) (H : Hp) (G : Gh) (S : Sto) (o : D) (ds : List D) (v : V) (vs : List V) (Q : VK), Rep K H G S → Den K H G o v → DenL K H G ds vs → Aft K W σ H G S (m o ds S) (QD K Q) → r v vs H Q
theorem DnAll.dropLast {K : PySem.W.Frag} {φ : List (Addr × HO)} {H : Hp} {ds : List PyData} {vs : List V} (t : DnAll K φ H ds vs) : DnAll K φ H ds.dropLast vs.dropLast := by
  rw [List.dropLast_eq_take, List.dropLast_eq_take, t.length]
  exact t.take _
theorem DnAll.eraseIdx {K : PySem.W.Frag} {φ : List (Addr × HO)} {H : Hp} {ds : List PyData} {vs : List V} (k : Nat) (t : DnAll K φ H ds vs) : DnAll K φ H (ds.eraseIdx k) (vs.eraseIdx k) := by
  rw [List.eraseIdx_eq_take_drop_succ, List.eraseIdx_eq_take_drop_succ]
  exact (t.take k).append (t.drop (k + 1))
section
variable {K : PySem.W.Frag}
theorem Aft.chgLst {W : WX} {σ : L2.St} {H : Hp} {G : Gh} {S : Sto} {Q : VK} {i : Nat} {a : Addr} {m : MO} {xs : List PyData} {vs : List V} {d : PyData} {v : V} (q : Aft K W σ H G S (.ok (.p d) (S.set i (.lst xs))) (QD K Q)) (rp : Rep K H G S) (ha : G.ι[i]? = some a) (hm : S[i]? = some m) (hl : m ≠ .dead) (t : DnAll K G.φ H xs vs) (dv : Dn K G.φ H d v) : Q v (upd H a (.lst vs)) := by
  have x := Ext.chg (o := .lst vs) (m' := .lst xs) rp ha hm hl
  exact q _ G x (rp.chg ha hm hl ⟨vs, upd_same, x.dnAll rp t⟩) v (x.dn rp dv)
theorem sim_append : SimM K rAppend appendM := by
  intro W σ H G S o ds v vs Q rp dv dvs q
  unfold appendM at q
  split at q
  · rename_i i x
    obtain ⟨a, rfl, ha⟩ := dv
    obtain ⟨u, rfl, du⟩ := denL1 dvs
    split at q
    · rename_i xs em
      obtain ⟨us, e1, t⟩ := rp.ok i a _ ha em
      by_cases hl : xs.length < LIM
      · rw [if_pos hl] at q
        exact ⟨a, us, u, rfl, rfl, e1, by rw [← t.length]; exact Nat.lt_trans hl LIM_lt, q.chgLst rp ha em (fun z => nomatch z) (t.append (.cons du .nil)) .non⟩
      · rw [if_neg hl] at q; exact q.elim
    · exact q.elim
  · exact q.elim
theorem sim_extend : SimM K rExtend extendM := by
  intro W σ H G S o ds v vs Q rp dv dvs q
  unfold extendM at q
  split at q
  · rename_i i l
    obtain ⟨a, rfl, ha⟩ := dv
    obtain ⟨u, rfl, du⟩ := denL1 dvs
    split at q
    · rename_i xs ys em el
      obtain ⟨us, e1, t⟩ := rp.ok i a _ ha em
      obtain ⟨b, ws, rfl, e2, t2⟩ := lstOf_den rp el du
      by_cases hl : xs.length + ys.length ≤ LIM
      · rw [if_pos hl] at q
        exact ⟨a, b, us, ws, rfl, rfl, e1, e2, by rw [← t.length, ← t2.length]; exact Nat.le_trans hl LIM_le, q.chgLst rp ha em (fun z => nomatch z) (t.append t2) .non⟩
      · rw [if_neg hl] at q; exact q.elim
    · exact q.elim
  · exact q.elim
theorem sim_pop : SimM K (fun x vs H Q => rPop x vs H Q ∨ rPopAt x vs H Q) popM := by
  intro W σ H G S o ds v vs Q rp dv dvs q
  unfold popM at q
  split at q
  · rename_i i
    obtain ⟨a, rfl, ha⟩ := dv
    cases dvs
    split at q
    · rename_i xs em
      obtain ⟨us, e1, t⟩ := rp.ok i a _ ha em
      split at q
      · rename_i y ey
        obtain ⟨u, eu, du⟩ := t.get ey
        exact .inl ⟨a, us, u, rfl, rfl, e1, by rw [← t.length]; exact eu, q.chgLst rp ha em (fun z => nomatch z) t.dropLast du⟩
      · exact q.elim
    · exact q.elim
  · rename_i i k
    obtain ⟨a, rfl, ha⟩ := dv
    obtain ⟨u, rfl, du⟩ := denL1 dvs
    obtain rfl := den_int du
    split at q
    · rename_i xs em
      obtain ⟨us, e1, t⟩ := rp.ok i a _ ha em
      by_cases hk : 0 ≤ k ∧ k ≤ 1000000
      · rw [if_pos hk] at q
        split at q
        · rename_i y ey
          obtain ⟨w, ew, dw⟩ := t.get ey
          have hlt : k.toNat < us.length := (List.getElem?_eq_some_iff.mp ew).1
          exact .inr ⟨a, us, k, k.toNat, w, rfl, rfl, e1, by omega, by omega, seqIndex_of hk.1 (by omega), ew, q.chgLst rp ha em (fun z => nomatch z) (t.eraseIdx _) dw⟩
        · exact q.elim
      · rw [if_neg hk] at q; exact q.elim
    · exact q.elim
  · exact q.elim
end
section
variable {X : Cx} {W : WX} {o e : Expr} {es : List Expr} {f : FE} {fa : FA} {apos cpos : Pos} {r : V → List V → Hp → VK → Prop} {m : D → List D → M D}
theorem lm_read (sm : SimM X.K r m) {σ : L2.St} {H : Hp} {Q : VK} (q : rd X.K W (eLm m f fa) σ H Q) : tBM X.K "list" r (rd X.K W f) (rdA X.K W fa) σ H Q := by
  obtain ⟨G, S, ρ, rs, rp, q⟩ := q
  refine ⟨G, S, ρ, rs, rp, (Aft.bind q).mono fun od H1 G1 S1 x1 r1 q1 v dv => ?_⟩
  split at q1
  · rename_i xs eo
    obtain ⟨a, vs, rfl, hq, t⟩ := rlOf_den r1 eo dv
    refine ⟨.inl ⟨rfl, vs, hq⟩, G1, S1, ρ, x1.relS rp rs, r1, (Aft.bind q1).mono fun ds H2 G2 S2 x2 r2 q2 us dus => ?_⟩
    exact sm W σ H2 G2 S2 od ds _ us Q r2 (x2.den r1 dv) dus q2
  · exact q1.elim
theorem de_append (ho : DE X W o f) (ha : DA X W (e :: es) fa) (hbase : attributeBase o "append" X.env (eval o X.env) = eval o X.env := by rfl)
    (hfew : ((backTo cpos (starEach (e :: es) X.env)).all (fun x => !x.1) && (backToKw cpos (keywordEach [] X.env)).all (fun x => x.1.isSome)
      && decide ((e :: es).length + ([] : List Keyword).length + (if ([] : List Keyword).isEmpty then 0 else 1) < 30)) = true := by rfl)
    (hline : (apos.endLine == cpos.line) = true := by rfl) (hs : starEach (e :: es) X.env = (false, eval e X.env) :: starEach es X.env := by rfl) (hplain : (backTo cpos (starEach es X.env)).any (·.1) = false := by rfl) :
    DE X W (.Call (.Attribute o "append" apos) (e :: es) [] cpos) (eLm appendM f fa) :=
  ⟨PE.imp (pe_bm PySem.F.plainAttrs_list PySem.F.slot_list_append PySem.F.type_list_append mt_append ho.run ha.run hbase hfew hline hs hplain) fun _ _ _ q => lm_read sim_append q⟩
theorem de_extend (ho : DE X W o f) (ha : DA X W (e :: es) fa) (hbase : attributeBase o "extend" X.env (eval o X.env) = eval o X.env := by rfl)
    (hfew : ((backTo cpos (starEach (e :: es) X.env)).all (fun x => !x.1) && (backToKw cpos (keywordEach [] X.env)).all (fun x => x.1.isSome)
      && decide ((e :: es).length + ([] : List Keyword).length + (if ([] : List Keyword).isEmpty then 0 else 1) < 30)) = true := by rfl)
    (hline : (apos.endLine == cpos.line) = true := by rfl) (hs : starEach (e :: es) X.env = (false, eval e X.env) :: starEach es X.env := by rfl) (hplain : (backTo cpos (starEach es X.env)).any (·.1) = false := by rfl) :
    DE X W (.Call (.Attribute o "extend" apos) (e :: es) [] cpos) (eLm extendM f fa) :=
  ⟨PE.imp (pe_bm PySem.F.plainAttrs_list PySem.F.slot_list_extend PySem.F.type_list_extend mt_extend ho.run ha.run hbase hfew hline hs hplain) fun _ _ _ q => lm_read sim_extend q⟩
theorem de_popAt (ho : DE X W o f) (ha : DA X W (e :: es) fa) (hbase : attributeBase o "pop" X.env (eval o X.env) = eval o X.env := by rfl)
    (hfew : ((backTo cpos (starEach (e :: es) X.env)).all (fun x => !x.1) && (backToKw cpos (keywordEach [] X.env)).all (fun x => x.1.isSome)
      && decide ((e :: es).length + ([] : List Keyword).length + (if ([] : List Keyword).isEmpty then 0 else 1) < 30)) = true := by rfl)
    (hline : (apos.endLine == cpos.line) = true := by rfl) (hs : starEach (e :: es) X.env = (false, eval e X.env) :: starEach es X.env := by rfl) (hplain : (backTo cpos (starEach es X.env)).any (·.1) = false := by rfl) :
    DE X W (.Call (.Attribute o "pop" apos) (e :: es) [] cpos) (eLm popM f fa) :=
  ⟨PE.imp (pe_bm PySem.F.plainAttrs_list PySem.F.slot_list_pop PySem.F.type_list_pop (MtR.or (show MtR X "list.pop" _ from mt_pop) mt_popAt) ho.run ha.run hbase hfew hline hs hplain) fun _ _ _ q => lm_read sim_pop q⟩
theorem de_pop (ho : DE X W o f) (hbase : attributeBase o "pop" X.env (eval o X.env) = eval o X.env := by rfl) (hline : (apos.endLine == cpos.line) = true := by rfl) : DE X W (.Call (.Attribute o "pop" apos) [] [] cpos) (eLm popM f aNil) := by
  refine ⟨PE.imp (pe_bm0 PySem.F.plainAttrs_list PySem.F.slot_list_pop PySem.F.type_list_pop (MtR.or (show MtR X "list.pop" _ from mt_pop) mt_popAt) ho.run hbase hline) fun σ H Q q => ?_⟩
  obtain ⟨G, S, ρ, rs, rp, q⟩ := q
  refine ⟨G, S, ρ, rs, rp, (Aft.bind q).mono fun od H1 G1 S1 x1 r1 q1 v dv => ?_⟩
  split at q1
  · rename_i xs eo
    obtain ⟨a, vs, rfl, hq, t⟩ := rlOf_den r1 eo dv
    exact ⟨.inl ⟨rfl, vs, hq⟩, sim_pop W σ H1 G1 S1 od [] _ [] Q r1 dv .nil q1⟩
  · exact q1.elim
variable {g h : FE} {e2 : Expr}
end
end DL
namespace DL
open PySem L2 PySem.Spec PyProof.Rows
def GlobIs (K : PySem.W.Frag) (mg : Str → Option Value) (x : Str) (d : PyData) : Prop := ∃ (u : Value) (v : V), mg x = some u ∧ RelV v u ∧ ∀ H G, Den K H G (.p d) v
theorem de_globD {X : Cx} {W : WX} {x : Str} {d : PyData} {pos : Pos} (hg : Gl X x) (h : GlobIs X.K X.mg x d) (hdb : (x == ("__debug__" : Str)) = false := by decide) : DE X W (.Name x pos) (eC (.p d)) := by
  obtain ⟨u, v, hm, r, hd⟩ := h
  exact de_glob hg hm r hd hdb
/-- flat values of the top -/
def flatOf : Value → Option (PyData × V)
  | .none => some (.none, .non)
  | .bool b => some (.bool b, .bl b)
  | .int i _ => some (.int i, .int i)
  | .str x _ => some (.str x, .str x)
  | _ => none
def flats : List Value → Option (List (PyData × V))
  | [] => some []
  | u :: us => match flatOf u, flats us with
    | some p, some ps => some (p :: ps)
    | _, _ => none
theorem flat_ok {K : PySem.W.Frag} {φ : List (Addr × HO)} {H : Hp} {u : Value} {p : PyData × V} (e : flatOf u = some p) : RelV p.2 u ∧ Dn K φ H p.1 p.2 := by
  unfold flatOf at e
  split at e <;> first | (cases e; exact ⟨rfl, .non⟩) | (cases e; exact ⟨rfl, .bl _⟩) | (cases e; exact ⟨⟨_, rfl⟩, .int _⟩) | (cases e; exact ⟨⟨_, rfl⟩, .str _⟩) | cases e
theorem flats_ok {K : PySem.W.Frag} {φ : List (Addr × HO)} {H : Hp} : ∀ {us : List Value} {ps : List (PyData × V)}, flats us = some ps → Vals (ps.map (·.2)) us ∧ DnAll K φ H (ps.map (·.1)) (ps.map (·.2))
  | [], ps, e => by cases e; exact ⟨.nil, .nil⟩
  | u :: us, ps, e => by
    unfold flats at e
    split at e
    · rename_i p ps' e1 e2
      cases e
      have h := flat_ok (K := K) (φ := φ) (H := H) e1
      have t := flats_ok (K := K) (φ := φ) (H := H) e2
      exact ⟨.cons h.1 t.1, .cons h.2 t.2⟩
    · cases e
section
variable {K : PySem.W.Frag} {h : Heap} {mg : Str → Option Value} {x : Str}
theorem glob_flat {u : Value} {p : PyData × V} {d : PyData} (X : K.In h) (G : h.Ns mainGlobals mg) (e : PySem.W.nsIn K mainGlobals x = some (some u)) (f : flatOf u = some p) (hd : p.1 = d := by rfl) : GlobIs K mg x d := by
  subst hd
  exact ⟨u, p.2, PySem.W.mg_of X G e, (flat_ok (K := K) (φ := []) (H := fun _ => none) f).1, fun H G => (flat_ok f).2⟩
theorem glob_tup {a : Addr} {o : Obj} {its : Array Value} {n : Nat} {ps : List (PyData × V)} {d : PyData} (X : K.In h) (G : h.Ns mainGlobals mg) (e : PySem.W.nsIn K mainGlobals x = some (some (.ref a))) (l : K.lookup a = some o) (hc : o.cls = .type "tuple") (hs : o.data = .seq its n)
    (f : flats its.toList = some ps) (hz : its.size ≤ 1000) (hd : PyData.tuple (ps.map (·.1)) = d) : GlobIs K mg x d := by
  subst hd
  refine ⟨.ref a, .ref a, PySem.W.mg_of X G e, rfl, fun H G => .tup (.inr ⟨o, its, n, l, hc, hs, Nat.le_of_lt (small1000 hz), ?_⟩) (flats_ok f).2⟩
  exact (flats_ok (K := K) (φ := []) (H := fun _ => none) f).1
end
def opEqX (neg : Bool) : D → D → M D := fun x y S => match x, y with
  | .p (.str a), .p (.str b) => .ok (.p (.bool (if neg then !(a == b) else (a == b)))) S
  | .p (.int a), .p (.int b) => .ok (.p (.bool (if neg then !(a == b) else (a == b)))) S
  | .p (.bool a), .p (.bool b) => .ok (.p (.bool (if neg then !(a == b) else (a == b)))) S
  | .p (.tuple xs), .p (.tuple []) => .ok (.p (.bool (if neg then !xs.isEmpty else xs.isEmpty))) S
  | x, y => opEq neg x y S
def rT0 (K : PySem.W.Frag) (neg : Bool) : R2 := fun x y H Q => ∃ a b vs, x = .ref a ∧ y = .ref b ∧ SqT K H a vs ∧ SqT K H b [] ∧ Q (.bl (if neg then !vs.isEmpty else vs.isEmpty)) H
section
variable {X : Cx}
theorem op_eqT0 (hu : X.A.units < cLine) : OpR X (compareOp .Eq) (rT0 X.K false) := by
  intro pins s σ H x y v u Q I rx ry h
  obtain ⟨a, b, vs, rfl, rfl, ha, hb, q⟩ := h
  cases (show v = Value.ref a from rx)
  cases (show u = Value.ref b from ry)
  obtain ⟨its, r1, p1, _⟩ := I.tuple ha
  obtain ⟨jts, r2, p2, _⟩ := I.tuple hb
  cases r2
  have e1 : its.length = vs.length := r1.length.symm
  refine SeqAt.RcAt.tuples (e := fun _ => true) p1 p2 hu (fun j h1 h2 => absurd h2 (by simp)) X.prog X.w X.xe _ ?_
  refine ⟨.bl _, H, I, rfl, ?_⟩
  have e : vs.isEmpty = ((List.range (min its.toArray.size ([] : List Value).toArray.size)).all (fun _ => true) && its.toArray.size == ([] : List Value).toArray.size) := by
    cases vs <;> cases its <;> simp at e1 ⊢
  rw [← e]
  exact q
theorem op_neT0 (hu : X.A.units < cLine) : OpR X (compareOp .NotEq) (rT0 X.K true) := by
  intro pins s σ H x y v u Q I rx ry h
  obtain ⟨a, b, vs, rfl, rfl, ha, hb, q⟩ := h
  cases (show v = Value.ref a from rx)
  cases (show u = Value.ref b from ry)
  obtain ⟨its, r1, p1, _⟩ := I.tuple ha
  obtain ⟨jts, r2, p2, _⟩ := I.tuple hb
  cases r2
  have e1 : its.length = vs.length := r1.length.symm
  refine SeqAt.RcNeAt.tuples (e := fun _ => true) p1 p2 hu (fun j h1 h2 => absurd h2 (by simp)) X.prog X.w X.xe _ ?_
  refine ⟨.bl _, H, I, rfl, ?_⟩
  have e : vs.isEmpty = ((List.range (min its.toArray.size ([] : List Value).toArray.size)).all (fun _ => true) && its.toArray.size == ([] : List Value).toArray.size) := by
    cases vs <;> cases its <;> simp at e1 ⊢
  rw [← e]
  exact q
def rEqX (K : PySem.W.Frag) : R2 := fun x y H Q => rEq x y H Q ∨ rT0 K false x y H Q ∨ rEqD K x y H Q
def rNeX (K : PySem.W.Frag) : R2 := fun x y H Q => rNe x y H Q ∨ rT0 K true x y H Q ∨ rNeD K x y H Q
theorem op_eqX (hu : X.A.units + 64 < cLine) : OpR X (compareOp .Eq) (rEqX X.K) := by
  intro pins s σ H x y v u Q I rx ry h
  rcases h with h | h | h
  · exact op_eq pins s σ H x y v u Q I rx ry h
  · exact op_eqT0 (by omega) pins s σ H x y v u Q I rx ry h
  · exact op_eqD hu pins s σ H x y v u Q I rx ry h
theorem op_neX (hu : X.A.units + 64 < cLine) : OpR X (compareOp .NotEq) (rNeX X.K) := by
  intro pins s σ H x y v u Q I rx ry h
  rcases h with h | h | h
  · exact op_ne pins s σ H x y v u Q I rx ry h
  · exact op_neT0 (by omega) pins s σ H x y v u Q I rx ry h
  · exact op_neD hu pins s σ H x y v u Q I rx ry h
end
theorem DnAll.isE {K : PySem.W.Frag} {φ : List (Addr × HO)} {H : Hp} {ds : List PyData} {vs : List V} (h : DnAll K φ H ds vs) : ds.isEmpty = vs.isEmpty := by cases h <;> rfl
theorem sim_eqX {K : PySem.W.Frag} : Sim2 K (rEqX K) (opEqX false) := by
  intro W σ H G S x y v w Q rp dx dy q
  unfold opEqX at q
  split at q
  · rename_i a b
    obtain rfl := den_str dx; obtain rfl := den_str dy
    exact .inl ⟨rfl, by rw [dec_str]; exact q.ret rp (.bl _)⟩
  · rename_i a b
    obtain rfl := den_int dx; obtain rfl := den_int dy
    exact .inl ⟨rfl, by rw [dec_int]; exact q.ret rp (.bl _)⟩
  · rename_i a b
    obtain rfl := den_bool dx; obtain rfl := den_bool dy
    exact .inl ⟨rfl, by rw [dec_bl]; exact q.ret rp (.bl _)⟩
  · rename_i xs
    obtain ⟨a, vs, rfl, ha, t⟩ := den_tup dx
    obtain ⟨b, ws, rfl, hb, t2⟩ := den_tup dy
    cases t2
    refine .inr (.inl ⟨a, b, vs, rfl, rfl, ha, hb, ?_⟩)
    rw [t.isE] at q
    exact q.ret rp (.bl _)
  · exact .inr (.inr (sim_eq W σ H G S x y v w Q rp dx dy q))
theorem sim_neX {K : PySem.W.Frag} : Sim2 K (rNeX K) (opEqX true) := by
  intro W σ H G S x y v w Q rp dx dy q
  unfold opEqX at q
  split at q
  · rename_i a b
    obtain rfl := den_str dx; obtain rfl := den_str dy
    exact .inl ⟨rfl, by rw [dec_str]; exact q.ret rp (.bl _)⟩
  · rename_i a b
    obtain rfl := den_int dx; obtain rfl := den_int dy
    exact .inl ⟨rfl, by rw [dec_int]; exact q.ret rp (.bl _)⟩
  · rename_i a b
    obtain rfl := den_bool dx; obtain rfl := den_bool dy
    exact .inl ⟨rfl, by rw [dec_bl]; exact q.ret rp (.bl _)⟩
  · rename_i xs
    obtain ⟨a, vs, rfl, ha, t⟩ := den_tup dx
    obtain ⟨b, ws, rfl, hb, t2⟩ := den_tup dy
    cases t2
    refine .inr (.inl ⟨a, b, vs, rfl, rfl, ha, hb, ?_⟩)
    rw [t.isE] at q
    exact q.ret rp (.bl _)
  · exact .inr (.inr (sim_ne W σ H G S x y v w Q rp dx dy q))
end DL
namespace DL
open PySem L2
section
variable {ρ : Ev} {S : Sto} {f g h : FE} {fa : FA} {t u : FT} {a b c : FS} {d : D}
@[simp] theorem eC_ : eC d ρ S = .ok d S := rfl
@[simp] theorem aNil_ : aNil ρ S = .ok [] S := rfl
@[simp] theorem aCons_ : aCons f fa ρ S = (f ρ S).bind fun d S1 => (fa ρ S1).bind fun ds S2 => .ok (d :: ds) S2 := rfl
@[simp] theorem eA_ {m : List D → M D} : eA m fa ρ S = (fa ρ S).bind m := rfl
@[simp] theorem e2_ {m : D → D → M D} : e2 m f g ρ S = (f ρ S).bind fun x S1 => (g ρ S1).bind fun y S2 => m x y S2 := rfl
@[simp] theorem e1_ {m : D → M D} : e1 m f ρ S = (f ρ S).bind m := rfl
@[simp] theorem sNext_ : sNext ρ S = some (.next ρ, S) := rfl
theorem sSeq_ : sSeq a b ρ S = (match a ρ S with | some (.next ρ', S') => b ρ' S' | o => o) := rfl
theorem sSeq_next {ρ' : Ev} {S' : Sto} (e : a ρ S = some (.next ρ', S')) : sSeq a b ρ S = b ρ' S' := by unfold sSeq; rw [e]
@[simp] theorem sExpr_ : sExpr f ρ S = (f ρ S).st ρ fun _ S1 => some (.next ρ, S1) := rfl
@[simp] theorem sRet_ : sRet f ρ S = (f ρ S).st ρ fun d S1 => some (.ret d, S1) := rfl
@[simp] theorem sSet_ {i : Nat} : sSet i f ρ S = (f ρ S).st ρ fun d S1 => some (.next (ρ.set i (some d)), S1) := rfl
@[simp] theorem sIf_ : sIf t a b ρ S = (t ρ S).st ρ fun c S1 => if c = true then a ρ S1 else b ρ S1 := rfl
@[simp] theorem st_ok {α : Type} {x : α} {k : α → Sto → Option (Fl × Sto)} : (Out.ok x S).st ρ k = k x S := rfl
@[simp] theorem gN_ {i : Nat} : gN i d ρ S = some (ρ.set i (some d), S) := rfl
@[simp] theorem gNils_ : gNils [] ρ S = some (ρ, S) := rfl
@[simp] theorem gConss_ {x : FG} {y : FGs} {ds : List D} : gConss x y (d :: ds) ρ S = (match x d ρ S with | some (ρ1, S1) => y ds ρ1 S1 | none => none) := by
  unfold gConss; rfl
@[simp] theorem gSubD_ : gSubD f g d ρ S = (match f ρ S with
  | .ok o S1 => match g ρ S1 with
    | .ok i S2 => match setD o i d S2 with
      | some S3 => some (ρ, S3)
      | none => none
    | _ => none
  | _ => none) := rfl
@[simp] theorem sAsg_ {x : FG} : sAsg f x ρ S = (f ρ S).st ρ fun d S1 => match x d ρ S1 with
  | some (ρ', S2) => some (.next ρ', S2)
  | none => none := rfl
@[simp] theorem sAsgs_ {x : FGs} : sAsgs fa x ρ S = (fa ρ S).st ρ fun d S1 => match x d ρ S1 with
  | some (ρ', S2) => some (.next ρ', S2)
  | none => none := rfl
@[simp] theorem tVal_ : tVal f ρ S = (f ρ S).bind truM := rfl
@[simp] theorem tAnd_ : tAndD t u ρ S = (t ρ S).bind fun b S1 => if b = true then u ρ S1 else .ok false S1 := rfl
@[simp] theorem tOr_ : tOrD t u ρ S = (t ρ S).bind fun b S1 => if b = true then .ok true S1 else u ρ S1 := rfl
@[simp] theorem tNot_ : tNotD t ρ S = (t ρ S).bind fun b S1 => .ok (!b) S1 := rfl
@[simp] theorem eIf_ : eIf t f g ρ S = (t ρ S).bind fun b S1 => if b = true then f ρ S1 else g ρ S1 := rfl
@[simp] theorem eAnd_ : eAnd f g ρ S = (f ρ S).bind fun d S1 => (truM d S1).bind fun b S2 => if b = true then g ρ S2 else .ok d S2 := rfl
@[simp] theorem eOr_ : eOr f g ρ S = (f ρ S).bind fun d S1 => (truM d S1).bind fun b S2 => if b = true then .ok d S2 else g ρ S2 := rfl
@[simp] theorem eNot_ : eNot f ρ S = (f ρ S).bind fun d S1 => (truM d S1).bind fun b S2 => .ok (.p (.bool (!b))) S2 := rfl
@[simp] theorem tC2_ {m : D → D → M D} : tC2 m f g ρ S = (e2 m f g ρ S).bind fun d S1 => match d with | .p (.bool c) => .ok c S1 | _ => .bad := rfl
@[simp] theorem truM_b {b : Bool} : truM (.p (.bool b)) S = .ok b S := rfl
@[simp] theorem truM_l {xs : List PyData} : truM (.p (.list xs)) S = .ok (!xs.isEmpty) S := rfl
@[simp] theorem truM_t {xs : List PyData} : truM (.p (.tuple xs)) S = .ok (!xs.isEmpty) S := rfl
@[simp] theorem noErr_k {α : Type} {x : α} : noErr (.ok x S) = .ok x S := rfl
@[simp] theorem iSeq_ : iSeq f ρ S = (f ρ S).bind itM := rfl
@[simp] theorem iRange_ : iRange fa ρ S = (fa ρ S).bind rangeM := rfl
@[simp] theorem sFor_ {i : FI} {x : FG} : sFor i x a ρ S = (i ρ S).st ρ fun ds S1 => forD x a ds ρ S1 := rfl
@[simp] theorem oNone_ : oNone ρ S = .ok none S := rfl
@[simp] theorem oSome_ : oSome f ρ S = (f ρ S).bind oInt := rfl
@[simp] theorem oInt_ {i : Int} : oInt (.p (.int i)) S = .ok (some i) S := rfl
@[simp] theorem eSli_ {lo hi : Ev → M (Option Int)} : eSli f lo hi ρ S = (f ρ S).bind fun d S1 => (lo ρ S1).bind fun l S2 => (hi ρ S2).bind fun u S3 => sliM d l u S3 := rfl
@[simp] theorem tYes_ : tYesD ρ S = .ok true S := rfl
@[simp] theorem finL_ {ys : List PyData} : finL ys S = .ok (.p (.list ys)) S := rfl
@[simp] theorem tChain_ {m m' : D → D → M D} : tChain m m' f g h ρ S = (eChain m m' f g h ρ S).bind boolM := rfl
@[simp] theorem boolM_ {b : Bool} : boolM (.p (.bool b)) S = .ok b S := rfl
@[simp] theorem eChain_ {m m' : D → D → M D} : eChain m m' f g h ρ S = (f ρ S).bind fun x S1 => (g ρ S1).bind fun y S2 => (m x y S2).bind fun z S3 => match z with
  | .p (.bool true) => (h ρ S3).bind fun w S4 => m' y w S4
  | .p (.bool false) => .ok (.p (.bool false)) S3
  | _ => .bad := rfl
@[simp] theorem eCall_ {n : Nat} {m : List D → M D} : eCall n m fa ρ S = (fa ρ S).bind fun ds S1 => if ds.length = n then noErr (cutD S1.length (m ds S1)) else .bad := rfl
@[simp] theorem cutD_p {x : PyData} {n : Nat} : cutD n (.ok (.p x) S) = .ok (.p x) (S.take n) := rfl
end
@[simp] theorem eVar0 {d : D} {r : Ev} {S : Sto} : eVar 0 (some d :: r) S = .ok d S := rfl
@[simp] theorem eVarS {i : Nat} {d : Option D} {r : Ev} {S : Sto} : eVar (i + 1) (d :: r) S = eVar i r S := by unfold eVar; simp
@[simp] theorem pys_nil : pys [] = some [] := rfl
@[simp] theorem pys_cons {x : PyData} {r : List D} : pys (.p x :: r) = (pys r).map (x :: ·) := by
  simp only [pys]; cases pys r <;> rfl
@[simp] theorem opLt_i {i j : Int} {S : Sto} : opLt (.p (.int i)) (.p (.int j)) S = .ok (.p (.bool (decide (i < j)))) S := rfl
@[simp] theorem opLe_i {i j : Int} {S : Sto} : opLe (.p (.int i)) (.p (.int j)) S = .ok (.p (.bool (decide (i ≤ j)))) S := rfl
@[simp] theorem opGt_i {i j : Int} {S : Sto} : opGt (.p (.int i)) (.p (.int j)) S = .ok (.p (.bool (decide (j < i)))) S := rfl
@[simp] theorem opGe_i {i j : Int} {S : Sto} : opGe (.p (.int i)) (.p (.int j)) S = .ok (.p (.bool (decide (j ≤ i)))) S := rfl
@[simp] theorem opAdd_i {i j : Int} {S : Sto} : opAdd (.p (.int i)) (.p (.int j)) S = .ok (.p (.int (i + j))) S := rfl
@[simp] theorem opSub_i {i j : Int} {S : Sto} : opSub (.p (.int i)) (.p (.int j)) S = .ok (.p (.int (i - j))) S := rfl
@[simp] theorem opNeg_i {i : Int} {S : Sto} : opNeg (.p (.int i)) S = .ok (.p (.int (-i))) S := rfl
theorem opMod_i {i j : Int} {S : Sto} (h : 0 < j) : opMod (.p (.int i)) (.p (.int j)) S = .ok (.p (.int (i % j))) S := by simp [opMod, opI, h]
theorem opPow_i {i j : Int} {S : Sto} (h0 : 0 ≤ j) (h1 : j ≤ 1000000) (h2 : i.natAbs < 2 ^ 64) : opPow (.p (.int i)) (.p (.int j)) S = .ok (.p (.int (i ^ j.toNat))) S := by
  have h3 : i.natAbs < 18446744073709551616 := h2
  simp [opPow, opI, h0, h1, h3]
@[simp] theorem intM_i {i : Int} {S : Sto} : intM [.p (.int i)] S = .ok (.p (.int i)) S := rfl
@[simp] theorem lenM_l {xs : List PyData} {S : Sto} : lenM [.p (.list xs)] S = .ok (.p (.int xs.length)) S := rfl
@[simp] theorem lenM_t {xs : List PyData} {S : Sto} : lenM [.p (.tuple xs)] S = .ok (.p (.int xs.length)) S := rfl
theorem lenM_s {x : Str} {S : Sto} (h : x.length ≤ LIM) : lenM [.p (.str x)] S = .ok (.p (.int x.length)) S := by simp [lenM, h]
theorem atI_ok {xs : List PyData} {i : Int} (h0 : 0 ≤ i) (h1 : i < xs.length) : ∃ d, atI xs i = some d ∧ d ∈ xs := by
  have hk : i.toNat < xs.length := by omega
  have ek : i = ((i.toNat : Nat) : Int) := by omega
  refine ⟨xs[i.toNat], ?_, List.getElem_mem hk⟩
  have q : atI xs ((i.toNat : Nat) : Int) = some xs[i.toNat] := atI_nat (by simp [hk])
  rw [← ek] at q
  exact q
theorem subs_l {xs : List PyData} {i : Int} {d : PyData} {S : Sto} (h : atI xs i = some d) : opSubs (.p (.list xs)) (.p (.int i)) S = .ok (.p d) S := by simp [opSubs, seqOf, h]
theorem subs_t {xs : List PyData} {i : Int} {d : PyData} {S : Sto} (h : atI xs i = some d) : opSubs (.p (.tuple xs)) (.p (.int i)) S = .ok (.p d) S := by simp [opSubs, seqOf, h]
def tpd (cs : List PyData) (p l : Int) : List (Key × PyData) := [(.inr "cells", .list cs), (.inr "place", .int p), (.inr "left", .int l)]
section
variable {cs : List PyData} {p l : Int} {S : Sto} {i : Nat}
theorem tp_cells (h : S[i]? = some (.dic (tpd cs p l))) : opSubs (.ob i) (.p (.str "cells")) S = .ok (.p (.list cs)) S := by
  have e : valD (tpd cs p l) (.inr "cells") = some (.list cs) := rfl
  simp only [opSubs, dicOf, h, e]
theorem tp_place (h : S[i]? = some (.dic (tpd cs p l))) : opSubs (.ob i) (.p (.str "place")) S = .ok (.p (.int p)) S := by
  have e : valD (tpd cs p l) (.inr "place") = some (.int p) := rfl
  simp only [opSubs, dicOf, h, e]
theorem tp_left (h : S[i]? = some (.dic (tpd cs p l))) : opSubs (.ob i) (.p (.str "left")) S = .ok (.p (.int l)) S := by
  have e : valD (tpd cs p l) (.inr "left") = some (.int l) := rfl
  simp only [opSubs, dicOf, h, e]
theorem tp_setL {l' : Int} (h : S[i]? = some (.dic (tpd cs p l))) : setD (.ob i) (.p (.str "left")) (.p (.int l')) S = some (S.set i (.dic (tpd cs p l'))) := by
  have e : putD (tpd cs p l) (.inr "left") (.int l') = tpd cs p l' := rfl
  have e2 : pyKey (.str "left") = some (.inr "left") := rfl
  have e3 : (tpd cs p l).length < LIM := by show 3 < LIM; decide
  simp only [setD, h, e2, e, if_pos e3]
theorem tp_setP {p' : Int} (h : S[i]? = some (.dic (tpd cs p l))) : setD (.ob i) (.p (.str "place")) (.p (.int p')) S = some (S.set i (.dic (tpd cs p' l))) := by
  have e : putD (tpd cs p l) (.inr "place") (.int p') = tpd cs p' l := rfl
  have e2 : pyKey (.str "place") = some (.inr "place") := rfl
  have e3 : (tpd cs p l).length < LIM := by show 3 < LIM; decide
  simp only [setD, h, e2, e, if_pos e3]
theorem tp_at {o : MO} (h : S[i]? = some (.dic (tpd cs p l))) : (S.set i o)[i]? = some o := by
  rw [List.getElem?_set_self]
  exact (List.getElem?_eq_some_iff.mp h).1
end
end DL
namespace DL
open PySem L2
theorem run_ret {m : Nat} {b : FS} {ds : List D} {S S' : Sto} {d : D} (e : b (ds.map some ++ List.replicate (m - ds.length) none) S = some (.ret d, S')) : runF m b ds S = .ok d S' := by unfold runF; rw [e]
@[simp] theorem cut_len {x : PyData} {S : Sto} : cutD S.length (.ok (.p x) S) = .ok (.p x) S := by simp
/-- a comprehension whose test and value leave the store as it is -/
theorem lcD_filter {g : FG} {t : FT} {e : FE} {ρ : Ev} {S : Sto} (c : D → Bool) (h : D → PyData) : ∀ {ds : List D}, (∀ d ∈ ds, ∃ ρ1, g d ρ S = some (ρ1, S) ∧ t ρ1 S = .ok (c d) S ∧ (c d = true → e ρ1 S = .ok (.p (h d)) S)) → lcD g t e ρ ds S = .ok ((ds.filter c).map h) S
  | [], _ => rfl
  | d :: r, H => by
    obtain ⟨ρ1, h1, h2, h3⟩ := H d List.mem_cons_self
    have ih := lcD_filter (ds := r) c h fun x hx => H x (List.mem_cons_of_mem _ hx)
    unfold lcD
    rw [h1]
    show (t ρ1 S).bind _ = _
    rw [h2]
    by_cases hc : c d = true
    · simp [hc, h3 hc, ih]
    · simp [hc, ih]
theorem lcD_map {g : FG} {e : FE} {ρ : Ev} {S : Sto} (h : D → PyData) {ds : List D} (H : ∀ d ∈ ds, ∃ ρ1, g d ρ S = some (ρ1, S) ∧ e ρ1 S = .ok (.p (h d)) S) : lcD g tYesD e ρ ds S = .ok (ds.map h) S := by
  have q := lcD_filter (t := tYesD) (e := e) (g := g) (ρ := ρ) (S := S) (fun _ => true) h (ds := ds) fun d hd => by
    obtain ⟨ρ1, h1, h2⟩ := H d hd
    exact ⟨ρ1, h1, rfl, fun _ => h2⟩
  rw [q, List.filter_eq_self.mpr fun _ _ => rfl]
@[simp] theorem eLc_ {f : FI} {g : FG} {t : FT} {e : FE} {vs : List Nat} {fin : List PyData → M D} {ρ : Ev} {S : Sto} : eLc f g t e vs fin ρ S = (f ρ S).bind fun ds S1 => if ds.length ≤ LIM then (noErr (lcD g t e (wipeD ρ vs) ds S1)).bind fin else .bad := rfl
@[simp] theorem itM_s {z : Str} {S : Sto} : itM (.p (.str z)) S = .ok (z.cps.toList.map fun c => D.p (.str ⟨#[c]⟩)) S := rfl
@[simp] theorem itM_l {xs : List PyData} {S : Sto} : itM (.p (.list xs)) S = .ok (xs.map .p) S := rfl
@[simp] theorem itM_t {xs : List PyData} {S : Sto} : itM (.p (.tuple xs)) S = .ok (xs.map .p) S := rfl
@[simp] theorem wipe1 {ρ : Ev} {v : Nat} : wipeD ρ [v] = ρ.set v none := rfl
@[simp] theorem isi_ {T : Tg} {x : PyData} {S : Sto} : isiM T (.p x) S = .ok (.p (.bool (isT T x))) S := rfl
@[simp] theorem in_ss {neg : Bool} {i j : Str} {S : Sto} : opIn neg (.p (.str i)) (.p (.str j)) S = .ok (.p (.bool (if neg then !inStr i j else inStr i j))) S := rfl
theorem in_t {neg : Bool} {a : PyData} {xs : List PyData} {S : Sto} (h : flatP a = true) (h2 : xs.all flatP = true) : opIn neg (.p a) (.p (.tuple xs)) S = .ok (.p (.bool (if neg then !inP a xs else inP a xs))) S := by
  cases a <;> simp_all [opIn, seqOf]
theorem in_l {neg : Bool} {a : PyData} {xs : List PyData} {S : Sto} (h : flatP a = true) (h2 : xs.all flatP = true) : opIn neg (.p a) (.p (.list xs)) S = .ok (.p (.bool (if neg then !inP a xs else inP a xs))) S := by
  cases a <;> simp_all [opIn, seqOf]
@[simp] theorem mkTup0 {S : Sto} : mkTup [] S = .ok (.p (.tuple [])) S := rfl
@[simp] theorem mkTup1 {S : Sto} {a : PyData} : mkTup [.p a] S = .ok (.p (.tuple [a])) S := rfl
@[simp] theorem mkTup2 {S : Sto} {a b : PyData} : mkTup [.p a, .p b] S = .ok (.p (.tuple [a, b])) S := rfl
@[simp] theorem mkTup3 {S : Sto} {a b c : PyData} : mkTup [.p a, .p b, .p c] S = .ok (.p (.tuple [a, b, c])) S := rfl
@[simp] theorem mkLst0 {S : Sto} : mkLst [] S = .ok (.p (.list [])) S := rfl
@[simp] theorem mkLst1 {S : Sto} {a : PyData} : mkLst [.p a] S = .ok (.p (.list [a])) S := rfl
@[simp] theorem mkLst2 {S : Sto} {a b : PyData} : mkLst [.p a, .p b] S = .ok (.p (.list [a, b])) S := rfl
@[simp] theorem mkLst3 {S : Sto} {a b c : PyData} : mkLst [.p a, .p b, .p c] S = .ok (.p (.list [a, b, c])) S := rfl
@[simp] theorem eqX_s {neg : Bool} {a b : Str} {S : Sto} : opEqX neg (.p (.str a)) (.p (.str b)) S = .ok (.p (.bool (if neg then !(a == b) else (a == b)))) S := rfl
@[simp] theorem eqX_i {neg : Bool} {a b : Int} {S : Sto} : opEqX neg (.p (.int a)) (.p (.int b)) S = .ok (.p (.bool (if neg then !(a == b) else (a == b)))) S := rfl
@[simp] theorem eqX_b {neg : Bool} {a b : Bool} {S : Sto} : opEqX neg (.p (.bool a)) (.p (.bool b)) S = .ok (.p (.bool (if neg then !(a == b) else (a == b)))) S := rfl
@[simp] theorem eqX_t0 {neg : Bool} {xs : List PyData} {S : Sto} : opEqX neg (.p (.tuple xs)) (.p (.tuple [])) S = .ok (.p (.bool (if neg then !xs.isEmpty else xs.isEmpty))) S := rfl
theorem eqX_t {neg : Bool} {xs : List PyData} {y : PyData} {ys : List PyData} {S : Sto} (h1 : SeqAt.shaped (.tuple xs) = true) (h2 : SeqAt.shaped (.tuple (y :: ys)) = true) : opEqX neg (.p (.tuple xs)) (.p (.tuple (y :: ys))) S = .ok (.p (.bool (if neg then !PyData.eqvAll xs (y :: ys) else PyData.eqvAll xs (y :: ys)))) S := by
  unfold opEqX
  simp [opEq, val, h1, h2, PyData.eqv]
@[simp] theorem subs_t0 {a : PyData} {r : List PyData} {S : Sto} : opSubs (.p (.tuple (a :: r))) (.p (.int 0)) S = .ok (.p a) S := subs_t (by rw [show (0 : Int) = ((0 : Nat) : Int) from rfl]; exact atI_nat rfl)
@[simp] theorem subs_t1 {a b : PyData} {r : List PyData} {S : Sto} : opSubs (.p (.tuple (a :: b :: r))) (.p (.int 1)) S = .ok (.p b) S := subs_t (by rw [show (1 : Int) = ((1 : Nat) : Int) from rfl]; exact atI_nat rfl)
@[simp] theorem subs_t2 {a b c : PyData} {r : List PyData} {S : Sto} : opSubs (.p (.tuple (a :: b :: c :: r))) (.p (.int 2)) S = .ok (.p c) S := subs_t (by rw [show (2 : Int) = ((2 : Nat) : Int) from rfl]; exact atI_nat rfl)
@[simp] theorem subs_l0 {a : PyData} {r : List PyData} {S : Sto} : opSubs (.p (.list (a :: r))) (.p (.int 0)) S = .ok (.p a) S := subs_l (by rw [show (0 : Int) = ((0 : Nat) : Int) from rfl]; exact atI_nat rfl)
@[simp] theorem subs_l1 {a b : PyData} {r : List PyData} {S : Sto} : opSubs (.p (.list (a :: b :: r))) (.p (.int 1)) S = .ok (.p b) S := subs_l (by rw [show (1 : Int) = ((1 : Nat) : Int) from rfl]; exact atI_nat rfl)
@[simp] theorem subs_l2 {a b c : PyData} {r : List PyData} {S : Sto} : opSubs (.p (.list (a :: b :: c :: r))) (.p (.int 2)) S = .ok (.p c) S := subs_l (by rw [show (2 : Int) = ((2 : Nat) : Int) from rfl]; exact atI_nat rfl)
theorem add_s {i j : Str} {S : Sto} (h : i.length + j.length ≤ LIM) : opAdd (.p (.str i)) (.p (.str j)) S = .ok (.p (.str (i ++ j))) S := by simp [opAdd, h]
theorem add_t {i j : List PyData} {S : Sto} (h : i.length + j.length ≤ LIM) : opAdd (.p (.tuple i)) (.p (.tuple j)) S = .ok (.p (.tuple (i ++ j))) S := by simp [opAdd, h]
def Cells (cs : List PyData) : Prop := (∀ d ∈ cs, ∃ z, d = .int z) ∧ cs ≠ []
def Tape (cs : List PyData) (i L : Nat) (n : Int) (S : Sto) : Prop := S.length = L ∧ ∃ p l, 0 ≤ p ∧ p ≤ n ∧ S[i]? = some (.dic (tpd cs p l))
theorem Tape.mono {cs : List PyData} {i L : Nat} {n n' : Int} {S : Sto} (h : Tape cs i L n S) (hn : n ≤ n') : Tape cs i L n' S := by
  obtain ⟨a, p, l, b, c, d⟩ := h
  exact ⟨a, p, l, b, by omega, d⟩
end DL
namespace DL
open PySem L2
theorem cutP_mem {xs : List PyData} {lo hi : Option Int} {d : PyData} (h : d ∈ cutP xs lo hi) : d ∈ xs := List.mem_of_mem_drop (List.mem_of_mem_take h)
def beginB : FS := (sRet (eDisp [((eC (.p (.str "cells"))), (eOr (eSli (eVar 0) oNone (oSome (eC (.p (.int 63))))) (eA mkLst (aCons (eC (.p (.int 0))) aNil)))), ((eC (.p (.str "place"))), (eC (.p (.int 0)))), ((eC (.p (.str "left"))), (eC (.p (.int 0))))] finDM))
theorem cutP_drop {xs : List PyData} {k : Nat} : cutP xs (some (k : Int)) none = xs.drop k := by
  unfold cutP
  rw [HT.sIx_nat, HT.sIx_none]
  by_cases h : k ≤ xs.length
  · rw [Nat.min_eq_left h]
    exact List.take_of_length_le (by simp)
  · rw [Nat.min_eq_right (by omega), List.drop_eq_nil_of_le (Nat.le_refl _), List.drop_eq_nil_of_le (by omega)]
    simp
theorem cutP_take {xs : List PyData} {k : Nat} : cutP xs none (some (k : Int)) = xs.take k := by
  unfold cutP
  rw [HT.sIx_nat, HT.sIx_none]
  by_cases h : k ≤ xs.length
  · rw [Nat.min_eq_left h]
    simp
  · rw [Nat.min_eq_right (by omega), List.take_of_length_le (i := k) (by omega)]
    simp
end DL
namespace DL
open PySem L2
mutual
/-- a bound of the repr's length -/
def wt : PyData → Nat
  | .list xs => wtAll xs + 4
  | .tuple xs => wtAll xs + 4
  | .none => 4
  | .bool _ => 5
  | .int i => (PyData.int i).shown.length
  | .str x => (PyData.str x).shown.length
  | .dict kvs => (PyData.dict kvs).shown.length
def wtAll : List PyData → Nat
  | [] => 0
  | x :: xs => wt x + 2 + wtAll xs
end
theorem str_len_app (a b : Str) : (a ++ b).length = a.length + b.length := Str.length_append a b
theorem textFrom_le : ∀ (ts : List Str) (k : Nat) (acc : Str), (textFrom k acc ts).length ≤ acc.length + (ts.map fun t => t.length + 2).sum
  | [], k, acc => by show acc.length ≤ _; omega
  | t :: r, k, acc => by
    have q := textFrom_le r (k + 1) (acc ++ (if k > 0 then ", " else "" : String) ++ t)
    show (textFrom (k + 1) (acc ++ (if k > 0 then ", " else "" : String) ++ t) r).length ≤ _
    have e : (Str.ofString (if k > 0 then ", " else "" : String)).length ≤ 2 := by
      split
      · decide +kernel
      · decide +kernel
    rw [str_len_app, str_len_app] at q
    simp only [List.map_cons, List.sum_cons]
    omega
theorem join_le (ts : List Str) : (Str.join ", " ts).length ≤ (ts.map fun t => t.length + 2).sum := by
  have q := StrLaws.join_length_le ", " ts
  have e : (Str.ofString ", ").length = 2 := by decide +kernel
  rw [e] at q
  have : ∀ ts : List Str, (ts.map fun t => t.length + 2).sum = (ts.map (·.length)).sum + ts.length * 2 := fun ts => by
    induction ts with
    | nil => rfl
    | cons t r ih => simp only [List.map_cons, List.sum_cons, List.length_cons, ih]; omega
  rw [this]
  exact q
mutual
theorem shown_le : ∀ d : PyData, d.shown.length ≤ wt d
  | .none => by decide +kernel
  | .bool b => by cases b <;> decide +kernel
  | .int i => Nat.le_refl _
  | .str x => Nat.le_refl _
  | .dict kvs => Nat.le_refl _
  | .list xs => by
    have q := shownAll_le xs
    have t := textFrom_le (PyData.shownAll xs) 0 "["
    show (textFrom 0 (Str.ofString "[") (PyData.shownAll xs) ++ Str.ofString "]").length ≤ wtAll xs + 4
    rw [str_len_app]
    have e1 : (Str.ofString "[").length = 1 := by decide +kernel
    have e2 : (Str.ofString "]").length = 1 := by decide +kernel
    omega
  | .tuple xs => by
    have q := shownAll_le xs
    have t := join_le (PyData.shownAll xs)
    show (Str.ofString "(" ++ Str.join ", " (PyData.shownAll xs) ++ Str.ofString (if (PyData.shownAll xs).length == 1 then ",)" else ")" : String)).length ≤ wtAll xs + 4
    rw [str_len_app, str_len_app]
    have e1 : (Str.ofString "(").length = 1 := by decide +kernel
    have e2 : (Str.ofString (if (PyData.shownAll xs).length == 1 then ",)" else ")" : String)).length ≤ 2 := by
      split
      · decide +kernel
      · decide +kernel
    omega
theorem shownAll_le : ∀ xs : List PyData, ((PyData.shownAll xs).map fun t => t.length + 2).sum ≤ wtAll xs
  | [] => Nat.le_refl _
  | x :: xs => by
    have q1 := shown_le x
    have q2 := shownAll_le xs
    show (x.shown.length + 2) + ((PyData.shownAll xs).map fun t => t.length + 2).sum ≤ wt x + 2 + wtAll xs
    omega
end
theorem wtAll_app : ∀ (xs ys : List PyData), wtAll (xs ++ ys) = wtAll xs + wtAll ys
  | [], ys => by simp [wtAll]
  | x :: xs, ys => by
    show wt x + 2 + wtAll (xs ++ ys) = wt x + 2 + wtAll xs + wtAll ys
    rw [wtAll_app xs ys]
    omega
theorem repr_ok {d : PyData} {S : Sto} (h1 : d.showable = true) (h2 : d.depth ≤ 60) (h3 : wt d ≤ 1000000) : reprM [.p d] S = .ok (.p (.str d.shown)) S := by
  have q := shown_le d
  have h4 : d.shown.length ≤ LIM := by unfold LIM; omega
  simp [reprM, h1, h2, h4]
end DL
namespace DL
open PySem L2 PySem.Spec PyProof.Rows
def ordM : List D → M D := fun ds S => match ds with
  | [.p (.str x)] => if x.length = 1 then .ok (.p (.int (x.cps.getD 0 0 : Nat))) S else .bad
  | _ => .bad
def absM : List D → M D := fun ds S => match ds with
  | [.p (.int i)] => .ok (.p (.int (if i < 0 then -i else i))) S
  | _ => .bad
section
variable {X : Cx} {W : WX} {e : Expr} {fa : FA} {p pos : Pos}
theorem de_ord (hg : Gl X "ord") (hm : X.mg "ord" = none) (ha : DA X W [e] fa) (he : starEach [e] X.env = (false, eval e X.env) :: starEach [] X.env := by rfl) : DE X W (.Call (.Name "ord" p) [e] [] pos) (eA ordM fa) :=
  de_callB call_ord (fun W σ H G S ds vs Q rp dv q => by
    unfold ordM at q
    split at q
    · rename_i x
      obtain ⟨v, rfl, dv1⟩ := denL1 dv
      obtain rfl := den_str dv1
      by_cases c : x.length = 1
      · rw [if_pos c] at q
        exact ⟨x, rfl, c, q.ret rp (.int _)⟩
      · rw [if_neg c] at q; exact q.elim
    · exact q.elim) hg hm rfl ha (he := he)
theorem de_abs (hg : Gl X "abs") (hm : X.mg "abs" = none) (ha : DA X W [e] fa) (he : starEach [e] X.env = (false, eval e X.env) :: starEach [] X.env := by rfl) : DE X W (.Call (.Name "abs" p) [e] [] pos) (eA absM fa) :=
  de_callB call_abs (fun W σ H G S ds vs Q rp dv q => by
    unfold absM at q
    split at q
    · rename_i x
      obtain ⟨v, rfl, dv1⟩ := denL1 dv
      obtain rfl := den_int dv1
      exact ⟨x, rfl, q.ret rp (.int _)⟩
    · exact q.elim) hg hm rfl ha (he := he)
end
def repS (x : Str) (n : Int) : Str := if n < 1 then Str.empty else if (n == 1 || x.length == 0) = true then x else ⟨(List.replicate n.toNat x.cps).foldl (· ++ ·) #[]⟩
def opMulX : D → D → M D := fun x y S => match x, y with
  | .p (.int i), .p (.int j) => if i.natAbs.log2 + j.natAbs.log2 < 1000000 then .ok (.p (.int (i * j))) S else .bad
  | .p (.str z), .p (.int n) => if z.length ≤ 1000 ∧ -1000 ≤ n ∧ n ≤ 1000 then .ok (.p (.str (repS z n))) S else .bad
  | x, .p (.int n) => match lstOf S x with
    | some xs => if xs.length ≤ 1000 ∧ -1000 ≤ n ∧ n ≤ 1000 then .ok (.p (.list (List.replicate n.toNat xs).flatten)) S else .bad
    | none => .bad
  | _, _ => .bad
def rMulX : R2 := fun x y H Q => rI CMulW (fun i j => .int (i * j)) x y H Q ∨ rRep x y H Q ∨ ∃ z n, x = .str z ∧ y = .int n ∧ z.length ≤ 1000 ∧ -1000 ≤ n ∧ n ≤ 1000 ∧ Q (.str (repS z n)) H
theorem rep_size : ∀ (k : Nat) (x acc : Array Nat), ((List.replicate k x).foldl (· ++ ·) acc).size = acc.size + k * x.size
  | 0, x, acc => by simp
  | k + 1, x, acc => by
    rw [List.replicate_succ, List.foldl_cons, rep_size k x (acc ++ x), Array.size_append, Nat.succ_mul]
    omega
theorem rep_dn {K : PySem.W.Frag} {φ : List (Addr × HO)} {H : Hp} {xs : List PyData} {vs : List V} (t : DnAll K φ H xs vs) : ∀ k : Nat, DnAll K φ H (List.replicate k xs).flatten (List.replicate k vs).flatten
  | 0 => .nil
  | k + 1 => by
    rw [List.replicate_succ, List.replicate_succ, List.flatten_cons, List.flatten_cons]
    exact t.append (rep_dn t k)
section
variable {X : Cx}
theorem op_mulX1 : OpR X (binaryOp .Mult) rMulX := by
  intro pins s σ H x y v u Q I rx ry h
  rcases h with h | h | h
  · exact op_mulW pins s σ H x y v u Q I rx ry h
  · exact op_rep pins s σ H x y v u Q I rx ry h
  · obtain ⟨z, n, rfl, rfl, hz, h1, h2, q⟩ := h
    obtain ⟨t, rfl⟩ := rx
    obtain ⟨t', rfl⟩ := ry
    refine PySem.P.mul_str (by
      rw [decide_eq_false (show ¬ n < -(2 ^ 63 : Int) by omega), decide_eq_false (show ¬ n ≥ 2 ^ 63 by omega)]; rfl) (fun c1 c2 => ?_) (fun c1 c2 => ?_) ?_
    · have : (2 ^ 63 - 1 : Int) / n ≥ 1000 := by
        refine (Int.le_ediv_iff_mul_le (by omega)).mpr ?_
        omega
      omega
    · have hk : z.length * n.toNat ≤ 1000 * 1000 := Nat.mul_le_mul hz (by omega)
      show decide (z.length * n.toNat > sizeLine) = false
      exact decide_eq_false (by have := LIM_le; unfold LIM at this; omega)
    · by_cases c1 : n < 1
      · have q' : Q (.str Str.empty) H := by unfold repS at q; rw [if_pos c1] at q; exact q
        rw [if_pos c1]
        exact ⟨Nat.zero_le _, .str _, H, I.tok _, ⟨_, rfl⟩, q'⟩
      · by_cases c2 : (n == 1 || z.length == 0) = true
        · have q' : Q (.str z) H := by unfold repS at q; rw [if_neg c1, if_pos c2] at q; exact q
          rw [if_neg c1, if_pos c2]
          exact ⟨.str _, H, I, ⟨_, rfl⟩, q'⟩
        · have q' : Q (.str ⟨(List.replicate n.toNat z.cps).foldl (· ++ ·) #[]⟩) H := by unfold repS at q; rw [if_neg c1, if_neg c2] at q; exact q
          rw [if_neg c1, if_neg c2]
          refine ⟨?_, .str _, H, I.tok _, ⟨_, rfl⟩, q'⟩
          show ((List.replicate n.toNat z.cps).foldl (· ++ ·) #[]).size ≤ sizeLine
          rw [rep_size]
          have hk : n.toNat * z.cps.size ≤ 1000 * 1000 := Nat.mul_le_mul (by omega) hz
          have := LIM_le
          unfold LIM at this
          simp
          omega
end
theorem sim_mulX {K : PySem.W.Frag} : Sim2 K rMulX opMulX := by
  intro W σ H G S x y v w Q rp dx dy q
  unfold opMulX at q
  split at q
  · rename_i i j
    obtain rfl := den_int dx; obtain rfl := den_int dy
    by_cases c : i.natAbs.log2 + j.natAbs.log2 < 1000000
    · rw [if_pos c] at q
      exact .inl ⟨i, j, rfl, rfl, c, q.ret rp (.int _)⟩
    · rw [if_neg c] at q; exact q.elim
  · rename_i z n
    obtain rfl := den_str dx; obtain rfl := den_int dy
    by_cases c : z.length ≤ 1000 ∧ -1000 ≤ n ∧ n ≤ 1000
    · rw [if_pos c] at q
      exact .inr (.inr ⟨z, n, rfl, rfl, c.1, c.2.1, c.2.2, q.ret rp (.str _)⟩)
    · rw [if_neg c] at q; exact q.elim
  · rename_i x' n _ _
    obtain rfl := den_int dy
    split at q
    · rename_i xs ex
      obtain ⟨a, vs, rfl, hH, t⟩ := lstOf_den rp ex dx
      by_cases c : xs.length ≤ 1000 ∧ -1000 ≤ n ∧ n ≤ 1000
      · rw [if_pos c] at q
        refine .inr (.inl ⟨a, n, vs, rfl, rfl, hH, by omega, by omega, ?_, fun p hp => q.newLst rp (rep_dn t n.toNat) hp⟩)
        rw [← t.length]
        have hk : xs.length * n.toNat ≤ 1000 * 1000 := Nat.mul_le_mul c.1 (by omega)
        have := LIM_le
        unfold LIM at this
        omega
      · rw [if_neg c] at q; exact q.elim
    · exact q.elim
  · exact q.elim
def opDivX : D → D → M D := opI (fun _ j => decide (0 < j) && decide (j.natAbs.log2 < 9000)) fun i j => i / j
/-- <= of numbers, of texts -/
def opLeX : D → D → M D := fun x y S => match x, y with
  | .p (.int i), .p (.int j) => .ok (.p (.bool (decide (i ≤ j)))) S
  | .p (.str i), .p (.str j) => .ok (.p (.bool (!decide (j.cps.toList < i.cps.toList)))) S
  | _, _ => .bad
def rLeX : R2 := fun x y H Q => rI0 (fun i j => .bl (decide (i ≤ j))) x y H Q ∨ ∃ i j, x = .str i ∧ y = .str j ∧ Q (.bl (!decide (j.cps.toList < i.cps.toList))) H
theorem sim_leX {K : PySem.W.Frag} : Sim2 K rLeX opLeX := by
  intro W σ H G S x y v w Q rp dx dy q
  unfold opLeX at q
  split at q
  · rename_i i j
    obtain rfl := den_int dx; obtain rfl := den_int dy
    exact .inl ⟨i, j, rfl, rfl, q.ret rp (.bl _)⟩
  · rename_i i j
    obtain rfl := den_str dx; obtain rfl := den_str dy
    exact .inr ⟨i, j, rfl, rfl, q.ret rp (.bl _)⟩
  · exact q.elim
section
variable {X : Cx} {W : WX} {a b c : Expr} {f g h : FE} {pos : Pos}
theorem op_leX1 : OpR X (compareOp .LtE) rLeX := by
  intro pins s σ H x y v u Q I rx ry h
  rcases h with h | h
  · exact op_le pins s σ H x y v u Q I rx ry h
  · exact op_le_str pins s σ H x y v u Q I rx ry h
theorem de_mulX (ha : DE X W a f) (hb : DE X W b h) : DE X W (.BinOp a .Mult b pos) (e2 opMulX f h) := de_bin op_mulX1 sim_mulX ha hb
theorem de_divX (ha : DE X W a f) (hb : DE X W b h) : DE X W (.BinOp a .FloorDiv b pos) (e2 opDivX f h) := de_bin op_fdivW (sim_int fun i j q => by
  simp only [Bool.and_eq_true, decide_eq_true_eq] at q
  exact q) ha hb
theorem de_leX (ha : DE X W a f) (hb : DE X W b h) : DE X W (.Compare a [.LtE] [b] pos) (e2 opLeX f h) := de_cmp op_leX1 sim_leX ha hb (nomark _)
theorem de_leXleX (ha : DE X W a f) (hb : DE X W b g) (hc : DE X W c h) (hm : lastMarks [.LtE, .LtE] [b, c] = false := by with_unfolding_all rfl) : DE X W (.Compare a [.LtE, .LtE] [b, c] pos) (eChain opLeX opLeX f g h) := de_chain op_leX1 sim_leX op_leX1 sim_leX ha hb hc hm
theorem dt_leXleX (ha : DE X W a f) (hb : DE X W b g) (hc : DE X W c h) (hm : lastMarks [.LtE, .LtE] [b, c] = false := by with_unfolding_all rfl) : DT X W (.Compare a [.LtE, .LtE] [b, c] pos) (tChain opLeX opLeX f g h) := dt_chain op_leX1 sim_leX op_leX1 sim_leX ha hb hc hm
theorem dt_leXlt (ha : DE X W a f) (hb : DE X W b g) (hc : DE X W c h) (hm : lastMarks [.LtE, .Lt] [b, c] = false := by with_unfolding_all rfl) : DT X W (.Compare a [.LtE, .Lt] [b, c] pos) (tChain opLeX opLt f g h) := dt_chain op_leX1 sim_leX op_lt sim_cmp ha hb hc hm
end
end DL
namespace DL
open PySem L2 PySem.Spec PyProof.Rows
def deepIn (neg : Bool) : D → D → M D := fun x y S => match val S x, val S y with
  | some d, some (.list ds) => if SeqAt.shaped d && SeqAt.shaped (.list ds) then .ok (.p (.bool (if neg then !(ds.any fun z => PyData.eqv z d) else ds.any fun z => PyData.eqv z d))) S else .bad
  | _, _ => .bad
def opInX (neg : Bool) : D → D → M D := fun x y S => match opIn neg x y S with
  | .bad => deepIn neg x y S
  | o => o
def rInX (K : PySem.W.Frag) (neg : Bool) : R2 := fun x y H Q => DL.rInD K neg x y H Q ∨ ∃ d ds, Dp K H x d ∧ Dp K H y (.list ds) ∧ SeqAt.shaped d = true ∧ SeqAt.shaped (.list ds) = true ∧ Q (.bl (if neg then !(ds.any fun z => PyData.eqv z d) else ds.any fun z => PyData.eqv z d)) H
theorem sim_inX {K : PySem.W.Frag} (neg : Bool) : Sim2 K (rInX K neg) (opInX neg) := by
  intro W σ H G S x y v w Q rp dx dy q
  unfold opInX at q
  cases e : opIn neg x y S with
  | ok d S1 =>
    rw [e] at q
    exact .inl (sim_in neg W σ H G S x y v w Q rp dx dy (by rw [e]; exact q))
  | err z S1 =>
    rw [e] at q
    exact .inl (sim_in neg W σ H G S x y v w Q rp dx dy (by rw [e]; exact q))
  | bad =>
    rw [e] at q
    have q : Aft K W σ H G S (deepIn neg x y S) (QD K Q) := q
    unfold deepIn at q
    split at q
    · rename_i d ds e1 e2
      by_cases c : (SeqAt.shaped d && SeqAt.shaped (.list ds)) = true
      · rw [if_pos c] at q
        simp only [Bool.and_eq_true] at c
        exact .inr ⟨d, ds, val_dp rp e1 c.1 dx, val_dp rp e2 c.2 dy, c.1, c.2, q.ret rp (.bl _)⟩
      · rw [if_neg c] at q; exact q.elim
    · exact q.elim
section
variable {X : Cx} {W : WX} {a b o e : Expr} {f g h : FE} {pos apos : Pos}
theorem op_inX1 (hu : X.A.units + 65 < cLine) : OpR X (compareOp .In) (rInX X.K false) := by
  intro pins s σ H x y v u Q I rx ry h
  rcases h with h | h
  · exact DL.op_inD (by omega) pins s σ H x y v u Q I rx ry h
  · exact L2.op_inD hu pins s σ H x y v u Q I rx ry h
theorem op_notInX1 (hu : X.A.units + 65 < cLine) : OpR X (compareOp .NotIn) (rInX X.K true) := by
  intro pins s σ H x y v u Q I rx ry h
  rcases h with h | h
  · exact DL.op_notInD (by omega) pins s σ H x y v u Q I rx ry h
  · exact L2.op_notInD hu pins s σ H x y v u Q I rx ry h
theorem hu65 {A : Around} {k : Nat} (hr : Room k A) : A.units + 65 < cLine := by have := hr.un; omega
theorem de_inX (hu : X.A.units + 65 < cLine) (ha : DE X W a f) (hb : DE X W b h) (hm : behindInMarks .In b = false := by rfl) : DE X W (.Compare a [.In] [b] pos) (e2 (opInX false) f h) := de_cmp (op_inX1 hu) (sim_inX false) ha hb hm
theorem de_notInX (hu : X.A.units + 65 < cLine) (ha : DE X W a f) (hb : DE X W b h) (hm : behindInMarks .NotIn b = false := by rfl) : DE X W (.Compare a [.NotIn] [b] pos) (e2 (opInX true) f h) := de_cmp (op_notInX1 hu) (sim_inX true) ha hb hm
theorem dt_inX (hu : X.A.units + 65 < cLine) (ha : DE X W a f) (hb : DE X W b h) (hm : behindInMarks .In b = false := by rfl) : DT X W (.Compare a [.In] [b] pos) (tC2 (opInX false) f h) := dt_cmp (op_inX1 hu) (sim_inX false) ha hb hm
theorem dt_notInX (hu : X.A.units + 65 < cLine) (ha : DE X W a f) (hb : DE X W b h) (hm : behindInMarks .NotIn b = false := by rfl) : DT X W (.Compare a [.NotIn] [b] pos) (tC2 (opInX true) f h) := dt_cmp (op_notInX1 hu) (sim_inX true) ha hb hm
end
end DL
namespace DL
open PySem L2
theorem lg {n k : Nat} (h : n < 2 ^ k) (hk : 0 < k) : n.log2 < k := by
  by_cases c : n = 0
  · subst c; simpa using hk
  · exact (Nat.log2_lt c).mpr h
@[simp] theorem opLeX_i {i j : Int} {S : Sto} : opLeX (.p (.int i)) (.p (.int j)) S = .ok (.p (.bool (decide (i ≤ j)))) S := rfl
@[simp] theorem opLeX_s {i j : Str} {S : Sto} : opLeX (.p (.str i)) (.p (.str j)) S = .ok (.p (.bool (!decide (j.cps.toList < i.cps.toList)))) S := rfl
theorem opMulX_i {i j : Int} {S : Sto} (h : i.natAbs.log2 + j.natAbs.log2 < 1000000) : opMulX (.p (.int i)) (.p (.int j)) S = .ok (.p (.int (i * j))) S := by simp [opMulX, h]
theorem opDivX_i {i j : Int} {S : Sto} (h : 0 < j) (h2 : j.natAbs.log2 < 9000) : opDivX (.p (.int i)) (.p (.int j)) S = .ok (.p (.int (i / j))) S := by simp [opDivX, opI, h, h2]
@[simp] theorem inX_ss {neg : Bool} {i j : Str} {S : Sto} : opInX neg (.p (.str i)) (.p (.str j)) S = .ok (.p (.bool (if neg then !inStr i j else inStr i j))) S := rfl
theorem inX_t {neg : Bool} {a : PyData} {xs : List PyData} {S : Sto} (h : flatP a = true) (h2 : xs.all flatP = true) : opInX neg (.p a) (.p (.tuple xs)) S = .ok (.p (.bool (if neg then !inP a xs else inP a xs))) S := by
  unfold opInX; rw [in_t h h2]
theorem inX_l {neg : Bool} {a : PyData} {xs : List PyData} {S : Sto} (h : flatP a = true) (h2 : xs.all flatP = true) : opInX neg (.p a) (.p (.list xs)) S = .ok (.p (.bool (if neg then !inP a xs else inP a xs))) S := by
  unfold opInX; rw [in_l h h2]
/-- the draw's constants: q, a, b, the power, the ten's power and what is added -/
structure DrC where
  q : Int
  a : Int
  b : Int
  e : Int
  t : Int
  z : Int
def DrC.ok (c : DrC) : Prop := 0 < c.q ∧ c.q ≤ 4294967296 ∧ 0 ≤ c.a ∧ c.a ≤ 100000 ∧ 0 ≤ c.b ∧ c.b ≤ 100000 ∧ 0 ≤ c.e ∧ c.e ≤ 1000 ∧ 0 ≤ c.t ∧ c.t ≤ 1000 ∧ 0 ≤ c.z
def drawA2 (c : DrC) : FS := (sSeq (sAsgs (aCons (e2 opSubs (eVar 0) (eC (.p (.str "place")))) (aCons (eA lenM (aCons (e2 opSubs (eVar 0) (eC (.p (.str "cells")))) aNil)) aNil)) (gConss (gN 3) (gConss (gN 4) gNils)))
    (sSeq (sAsgs (aCons (e2 opSubs (e2 opSubs (eVar 0) (eC (.p (.str "cells")))) (e2 opMod (eA intM (aCons (eVar 3) aNil)) (eVar 4))) (aCons (e2 opAdd (eVar 3) (eC (.p (.int 1)))) aNil)) (gConss (gN 5) (gConss (gSubD (eVar 0) (eC (.p (.str "place")))) gNils)))
    (sSeq (sAsg (e2 opMod (eA intM (aCons (e2 opPow (e2 opAdd (e2 opAdd (e2 opMod (eA intM (aCons (eVar 5) aNil)) (eC (.p (.int c.q)))) (e2 opMulX (eC (.p (.int c.a))) (eVar 3))) (eC (.p (.int c.b)))) (eC (.p (.int c.e)))) aNil)) (e2 opAdd (e2 opPow (eC (.p (.int 10))) (eC (.p (.int c.t)))) (eC (.p (.int c.z))))) (gSubD (eVar 0) (eC (.p (.str "left")))))
    (sIf (tAndD (tC2 (opGe) (eVar 5) (e2 opPow (eC (.p (.int 10))) (eC (.p (.int 18))))) (tC2 (opLt) (eVar 3) (eVar 4))) (sAsg (e2 opSub (eVar 5) (e2 opPow (eC (.p (.int 10))) (eC (.p (.int 18))))) (gSubD (eVar 0) (eC (.p (.str "left"))))) sNext))))
def drawB2 (c : DrC) : FS := (sSeq (sIf (tC2 (opLt) (e2 opSubs (eVar 0) (eC (.p (.str "left")))) (eVar 1)) (drawA2 c) sNext)
    (sSeq (sAsgs (aCons (e2 opMod (eA intM (aCons (e2 opSubs (eVar 0) (eC (.p (.str "left")))) aNil)) (eVar 1)) (aCons (e2 opDivX (e2 opSubs (eVar 0) (eC (.p (.str "left")))) (eVar 1)) aNil)) (gConss (gN 2) (gConss (gSubD (eVar 0) (eC (.p (.str "left")))) gNils)))
    (sRet (eVar 2))))
theorem drawA2_ok {c : DrC} (hc0 : c.ok) {cs : List PyData} {p l m : Int} {S : Sto} {i : Nat} (hc : ∀ d ∈ cs, ∃ z, d = .int z) (hne : cs ≠ []) (h : S[i]? = some (.dic (tpd cs p l))) (hp : 0 ≤ p) (hp2 : p ≤ 1000000000000) :
    ∃ x y z l', drawA2 c [some (.ob i), some (.p (.int m)), none, none, none, none] S = some (.next [some (.ob i), some (.p (.int m)), none, x, y, z], S.set i (.dic (tpd cs (p + 1) l'))) := by
  obtain ⟨h1, h2, h3, h4, h5, h6, h7, h8, h9, h10, h11⟩ := hc0
  have hl : 0 < cs.length := List.length_pos_iff.mpr hne
  obtain ⟨d, e1, hd⟩ := atI_ok (xs := cs) (i := p % (cs.length : Int)) (Int.emod_nonneg _ (by omega)) (Int.emod_lt_of_pos _ (by omega))
  obtain ⟨z, rfl⟩ := hc d hd
  have hS1 := tp_at (o := .dic (tpd cs (p + 1) l)) h
  have hap : c.a * p ≤ 100000 * 1000000000000 := Int.mul_le_mul h4 hp2 hp (by decide)
  have hap0 : 0 ≤ c.a * p := Int.mul_nonneg h3 hp
  have hb : (z % c.q + c.a * p + c.b).natAbs < 2 ^ 64 := by
    have a1 := Int.emod_nonneg z (show c.q ≠ 0 by omega)
    have a2 := Int.emod_lt_of_pos z h1
    have : (2 : Nat) ^ 64 = 18446744073709551616 := by decide
    omega
  have hz : (0 : Int) < 10 ^ c.t.toNat + c.z := by
    have : (0 : Int) < 10 ^ c.t.toNat := Int.pow_pos (by decide)
    omega
  have hlg : c.a.natAbs.log2 + p.natAbs.log2 < 1000000 := by
    have a1 := lg (n := c.a.natAbs) (k := 40) (by have : (2 : Nat) ^ 40 = 1099511627776 := by decide
                                                  omega) (by decide)
    have a2 := lg (n := p.natAbs) (k := 41) (by have : (2 : Nat) ^ 41 = 2199023255552 := by decide
                                                omega) (by decide)
    omega
  have k1 := fun S => opMod_i (i := z) (S := S) h1
  have k2 := fun S => opMulX_i (S := S) hlg
  have k3 := fun S => opPow_i (S := S) h7 (show c.e ≤ 1000000 by omega) hb
  have k4 := fun S => opPow_i (S := S) h9 (show c.t ≤ 1000000 by omega) (show (10 : Int).natAbs < 2 ^ 64 by decide)
  have k5 := fun x S => opMod_i (i := x) (S := S) hz
  have k6 := fun S => opPow_i (i := 10) (S := S) (show (0 : Int) ≤ 18 by decide) (by decide) (show (10 : Int).natAbs < 2 ^ 64 by decide)
  have hS2 : ∀ l2, (List.set S i (.dic (tpd cs (p + 1) l2)))[i]? = some (.dic (tpd cs (p + 1) l2)) := fun l2 => tp_at h
  unfold drawA2
  simp only [sSeq_, sAsgs_, aCons_, aNil_, e2_, eVarS, eVar0, eC_, Out.bind_ok, tp_place h, eA_, tp_cells h, lenM_l, st_ok, gConss_, gN_, gNils_, List.set_cons_succ, List.set_cons_zero, intM_i, opMod_i (show (0 : Int) < (cs.length : Int) by omega), subs_l e1, opAdd_i, gSubD_, tp_setP h, sAsg_, k1, k2, k3, k4, k5, tp_setL hS1, List.set_set]
  by_cases c1 : (10 : Int) ^ (18 : Int).toNat ≤ z
  · by_cases c2 : p < (cs.length : Int)
    · simp only [sIf_, tAnd_, tC2_, e2_, eVarS, eVar0, eC_, Out.bind_ok, k6, opGe_i, c1, decide_true, if_true, opLt_i, c2, st_ok, sAsg_, opSub_i, gSubD_, tp_setL (hS2 _), List.set_set]
      exact ⟨_, _, _, _, rfl⟩
    · simp only [sIf_, tAnd_, tC2_, e2_, eVarS, eVar0, eC_, Out.bind_ok, k6, opGe_i, c1, decide_true, if_true, opLt_i, c2, decide_false, Bool.false_eq_true, if_false, st_ok, sNext_]
      exact ⟨_, _, _, _, rfl⟩
  · simp only [sIf_, tAnd_, tC2_, e2_, eVarS, eVar0, eC_, Out.bind_ok, k6, opGe_i, c1, decide_false, Bool.false_eq_true, if_false, st_ok, sNext_]
    exact ⟨_, _, _, _, rfl⟩
theorem drawB2_ok {c : DrC} (hc0 : c.ok) {cs : List PyData} {p l m : Int} {S : Sto} {i : Nat} (hc : ∀ d ∈ cs, ∃ z, d = .int z) (hne : cs ≠ []) (h : S[i]? = some (.dic (tpd cs p l))) (hp : 0 ≤ p) (hp2 : p ≤ 1000000000000) (hm : 0 < m) (hm2 : m.natAbs.log2 < 9000) :
    ∃ g p' l', 0 ≤ g ∧ g < m ∧ 0 ≤ p' ∧ p' ≤ p + 1 ∧ runF 6 (drawB2 c) [.ob i, .p (.int m)] S = .ok (.p (.int g)) (S.set i (.dic (tpd cs p' l'))) := by
  have second : ∀ {x y z : Option D} {S : Sto} {p l : Int}, S[i]? = some (.dic (tpd cs p l)) → (sSeq (sAsgs (aCons (e2 opMod (eA intM (aCons (e2 opSubs (eVar 0) (eC (.p (.str "left")))) aNil)) (eVar 1)) (aCons (e2 opDivX (e2 opSubs (eVar 0) (eC (.p (.str "left")))) (eVar 1)) aNil)) (gConss (gN 2) (gConss (gSubD (eVar 0) (eC (.p (.str "left")))) gNils)))
      (sRet (eVar 2))) [some (.ob i), some (.p (.int m)), none, x, y, z] S = some (.ret (.p (.int (l % m))), S.set i (.dic (tpd cs p (l / m)))) := by
    intro x y z S p l h
    simp [sSeq_, tp_left h, opMod_i hm, opDivX_i hm hm2, tp_setL h]
  have g0 : ∀ l, 0 ≤ l % m := fun l => Int.emod_nonneg _ (by omega)
  have g1 : ∀ l, l % m < m := fun l => Int.emod_lt_of_pos _ hm
  by_cases cc : l < m
  · obtain ⟨x, y, z, l', e⟩ := drawA2_ok (m := m) hc0 hc hne h hp hp2
    have s2 := second (x := x) (y := y) (z := z) (tp_at (o := .dic (tpd cs (p + 1) l')) h)
    refine ⟨l' % m, p + 1, l' / m, g0 _, g1 _, by omega, by omega, run_ret ?_⟩
    show drawB2 c [some (.ob i), some (.p (.int m)), none, none, none, none] S = _
    unfold drawB2
    rw [sSeq_next (a := sIf _ _ _) (ρ' := [some (.ob i), some (.p (.int m)), none, x, y, z]) (S' := S.set i (.dic (tpd cs (p + 1) l'))) (by simp [sSeq_, tp_left h, cc, e]), s2, List.set_set]
  · refine ⟨l % m, p, l / m, g0 _, g1 _, by omega, by omega, run_ret ?_⟩
    show drawB2 c [some (.ob i), some (.p (.int m)), none, none, none, none] S = _
    unfold drawB2
    rw [sSeq_next (a := sIf _ _ _) (ρ' := [some (.ob i), some (.p (.int m)), none, none, none, none]) (S' := S) (by simp [sSeq_, tp_left h, cc]), second h]
theorem strOk_of (s : String) : PyData.strOk (Str.ofString s) = true := by
  rw [Str.ofString_eq_toList]
  unfold PyData.strOk
  rw [Array.all_eq_true']
  intro c hc
  simp at hc
  obtain ⟨x, _, rfl⟩ := hc
  have := x.valid
  simp [UInt32.isValidChar, Nat.isValidChar] at this
  simp only [decide_eq_true_eq]
  rcases this with h | h
  · omega
  · exact h.2
end DL
namespace DL
open PySem L2
theorem range_ok {j : Int} {S : Sto} (h0 : 0 ≤ j) (h1 : j ≤ 1000000) : rangeM [.p (.int j)] S = .ok ((List.range j.toNat).map fun i : Nat => D.p (.int (0 + (i : Int)))) S := by
  unfold rangeM
  simp only
  rw [if_pos ⟨by omega, h1⟩]
end DL
namespace DL
open PySem L2
def wp {α : Type} (o : Out α) (Q : α → Sto → Prop) (X : Exn → Sto → Prop) : Prop := match o with
  | .ok a s => Q a s
  | .err x s => X x s
  | .bad => False
def wpS (o : Option (Fl × Sto)) (Q : Fl → Sto → Prop) : Prop := match o with
  | some (fl, s) => Q fl s
  | none => False
def wpG (o : Option (Ev × Sto)) (Q : Ev → Sto → Prop) : Prop := match o with
  | some (ρ, s) => Q ρ s
  | none => False
def noX : Exn → Sto → Prop := fun _ _ => False
def sq (b : FS) (Q : Fl → Sto → Prop) : Fl → Sto → Prop := fun fl s => match fl with
  | .next ρ => wpS (b ρ s) Q
  | .ret d => Q (.ret d) s
  | .brk ρ => Q (.brk ρ) s
  | .cont ρ => Q (.cont ρ) s
  | .exc x ρ => Q (.exc x ρ) s
def rn (Q : D → Sto → Prop) (X : Exn → Sto → Prop) : Fl → Sto → Prop := fun fl s => match fl with
  | .ret d => Q d s
  | .next _ => Q (.p .none) s
  | .exc x _ => X x s
  | _ => False
section
variable {α β : Type} {a : α} {s S : Sto} {Q : α → Sto → Prop} {X : Exn → Sto → Prop} {R : Fl → Sto → Prop} {ρ : Ev} {o : Out α} {k : α → M β} {Q' : β → Sto → Prop}
@[simp] theorem wp_ok : wp (.ok a s) Q X = Q a s := rfl
@[simp] theorem wp_err {x : Exn} : wp (.err x s : Out α) Q X = X x s := rfl
@[simp] theorem wp_bad : wp (.bad : Out α) Q X = False := rfl
@[simp ↓] theorem wp_bind : wp (o.bind k) Q' X = wp o (fun a s => wp (k a s) Q' X) X := by cases o <;> rfl
@[simp] theorem wp_noErr : wp (noErr o) Q X = wp o Q noX := by cases o <;> rfl
@[simp] theorem wpS_some {fl : Fl} : wpS (some (fl, s)) R = R fl s := rfl
@[simp ↓] theorem wpS_st {kk : α → Sto → Option (Fl × Sto)} : wpS (o.st ρ kk) R = wp o (fun a s => wpS (kk a s) R) (fun x s => R (.exc x ρ) s) := by cases o <;> rfl
@[simp ↓] theorem wpS_seq {a b : FS} : wpS (sSeq a b ρ S) R = wpS (a ρ S) (sq b R) := by
  unfold sSeq
  cases e : a ρ S with
  | none => rfl
  | some p =>
    obtain ⟨fl, s⟩ := p
    cases fl <;> rfl
@[simp] theorem sq_next {b : FS} : sq b R (.next ρ) s = wpS (b ρ s) R := rfl
@[simp] theorem sq_ret {b : FS} {d : D} : sq b R (.ret d) s = R (.ret d) s := rfl
@[simp] theorem sq_brk {b : FS} : sq b R (.brk ρ) s = R (.brk ρ) s := rfl
@[simp] theorem sq_cont {b : FS} : sq b R (.cont ρ) s = R (.cont ρ) s := rfl
@[simp] theorem sq_exc {b : FS} {x : Exn} : sq b R (.exc x ρ) s = R (.exc x ρ) s := rfl
@[simp] theorem rn_ret {Q : D → Sto → Prop} {d : D} : rn Q X (.ret d) s = Q d s := rfl
@[simp] theorem rn_next {Q : D → Sto → Prop} : rn Q X (.next ρ) s = Q (.p .none) s := rfl
@[simp] theorem rn_exc {Q : D → Sto → Prop} {x : Exn} : rn Q X (.exc x ρ) s = X x s := rfl
@[simp] theorem wpG_some {Q : Ev → Sto → Prop} : wpG (some (ρ, s)) Q = Q ρ s := rfl
@[simp] theorem wpG_none {Q : Ev → Sto → Prop} : wpG none Q = False := rfl
@[simp ↓] theorem wp_ite {c : Prop} [Decidable c] {x y : Out α} : wp (if c then x else y) Q X = if c then wp x Q X else wp y Q X := by split <;> rfl
@[simp ↓] theorem wpS_ite {c : Prop} [Decidable c] {x y : Option (Fl × Sto)} : wpS (if c then x else y) R = if c then wpS x R else wpS y R := by split <;> rfl
theorem wp_run {m : Nat} {b : FS} {ds : List D} {Q : D → Sto → Prop} : wp (runF m b ds S) Q X = wpS (b (ds.map some ++ List.replicate (m - ds.length) none) S) (rn Q X) := by
  unfold runF
  cases e : b (ds.map some ++ List.replicate (m - ds.length) none) S with
  | none => rfl
  | some p =>
    obtain ⟨fl, s⟩ := p
    cases fl <;> rfl
theorem wp_mono {Q2 : α → Sto → Prop} {X2 : Exn → Sto → Prop} (h : wp o Q X) (f : ∀ a s, Q a s → Q2 a s) (fx : ∀ x s, X x s → X2 x s) : wp o Q2 X2 := by
  cases o with
  | ok a s => exact f a s h
  | err x s => exact fx x s h
  | bad => exact h
theorem wp_eq {s' : Sto} (h : wp o (fun b t => b = a ∧ t = s') noX) : o = .ok a s' := by
  cases o with
  | ok b t => obtain ⟨rfl, rfl⟩ := h; rfl
  | err x t => exact h.elim
  | bad => exact h.elim
theorem wp_ex (h : wp o Q noX) : ∃ a s, o = .ok a s ∧ Q a s := by
  cases o with
  | ok b t => exact ⟨b, t, rfl, h⟩
  | err x t => exact h.elim
  | bad => exact h.elim
theorem wp_of (e : o = .ok a s) (h : Q a s) : wp o Q X := by rw [e]; exact h
/-- a loop by its turns -/
theorem forD_wp {g : FG} {b : FS} (Inv : Nat → Ev → Sto → Prop) : ∀ {ds : List D} {j : Nat} {ρ : Ev} {S : Sto}, Inv j ρ S →
    (∀ i d ρ S, ds[i]? = some d → Inv (j + i) ρ S → wpG (g d ρ S) fun ρ1 S1 => wpS (b ρ1 S1) fun fl s => match fl with
      | .next ρ2 => Inv (j + i + 1) ρ2 s
      | .cont ρ2 => Inv (j + i + 1) ρ2 s
      | .brk ρ2 => R (.next ρ2) s
      | fl => R fl s) →
    (∀ ρ S, Inv (j + ds.length) ρ S → R (.next ρ) S) → wpS (forD g b ds ρ S) R
  | [], j, ρ, S, h, _, e => e ρ S h
  | d :: r, j, ρ, S, h, st, e => by
    have q := st 0 d ρ S rfl h
    unfold forD
    cases eg : g d ρ S with
    | none => rw [eg] at q; exact q
    | some p =>
      obtain ⟨ρ1, S1⟩ := p
      rw [eg] at q
      have q : wpS (b ρ1 S1) _ := q
      show wpS (match b ρ1 S1 with | some (.next ρ2, S2) => forD g b r ρ2 S2 | some (.cont ρ2, S2) => forD g b r ρ2 S2 | some (.brk ρ2, S2) => some (.next ρ2, S2) | o => o) R
      have more : ∀ ρ2 S2, Inv (j + 1) ρ2 S2 → wpS (forD g b r ρ2 S2) R := fun ρ2 S2 hi => forD_wp Inv (ds := r) (j := j + 1) hi (fun i x ρ S hx hi => by
        have q := st (i + 1) x ρ S (by simpa using hx) (by rw [show j + (i + 1) = j + 1 + i by omega]; exact hi)
        rw [show j + (i + 1) + 1 = j + 1 + i + 1 by omega] at q
        exact q) fun ρ S hi => e ρ S (by rw [List.length_cons, show j + (r.length + 1) = j + 1 + r.length by omega]; exact hi)
      cases eb : b ρ1 S1 with
      | none => rw [eb] at q; exact q
      | some p =>
        obtain ⟨fl, S2⟩ := p
        rw [eb] at q
        cases fl with
        | next ρ2 => exact more ρ2 S2 q
        | cont ρ2 => exact more ρ2 S2 q
        | brk ρ2 => exact q
        | ret d => exact q
        | exc x ρ2 => exact q
@[simp] theorem forD_nil {g : FG} {b : FS} : forD g b [] ρ S = some (.next ρ, S) := rfl
def fq (g : FG) (b : FS) (r : List D) (R : Fl → Sto → Prop) : Fl → Sto → Prop := fun fl s => match fl with
  | .next ρ2 => wpS (forD g b r ρ2 s) R
  | .cont ρ2 => wpS (forD g b r ρ2 s) R
  | .brk ρ2 => R (.next ρ2) s
  | .ret d => R (.ret d) s
  | .exc x ρ2 => R (.exc x ρ2) s
section
variable {g : FG} {b : FS} {r : List D}
@[simp] theorem fq_next : fq g b r R (.next ρ) s = wpS (forD g b r ρ s) R := rfl
@[simp] theorem fq_cont : fq g b r R (.cont ρ) s = wpS (forD g b r ρ s) R := rfl
@[simp] theorem fq_brk : fq g b r R (.brk ρ) s = R (.next ρ) s := rfl
@[simp] theorem fq_ret {d : D} : fq g b r R (.ret d) s = R (.ret d) s := rfl
@[simp] theorem fq_exc {x : Exn} : fq g b r R (.exc x ρ) s = R (.exc x ρ) s := rfl
end
@[simp] theorem wpS_forD {g : FG} {b : FS} {d : D} {r : List D} : wpS (forD g b (d :: r) ρ S) R = wpG (g d ρ S) fun ρ1 S1 => wpS (b ρ1 S1) (fq g b r R) := by
  conv => lhs; unfold forD
  cases eg : g d ρ S with
  | none => rfl
  | some p =>
    obtain ⟨ρ1, S1⟩ := p
    show wpS (match b ρ1 S1 with | some (.next ρ2, S2) => forD g b r ρ2 S2 | some (.cont ρ2, S2) => forD g b r ρ2 S2 | some (.brk ρ2, S2) => some (.next ρ2, S2) | o => o) R = wpS (b ρ1 S1) _
    cases eb : b ρ1 S1 with
    | none => rfl
    | some p =>
      obtain ⟨fl, S2⟩ := p
      cases fl <;> rfl
/-- a comprehension by its items -/
theorem lcD_wp {g : FG} {t : FT} {e : FE} (Inv : Nat → List PyData → Sto → Prop) {Q : List PyData → Sto → Prop} : ∀ {ds : List D} {j : Nat} {ys : List PyData} {S : Sto}, Inv j ys S →
    (∀ i d ys S, ds[i]? = some d → Inv (j + i) ys S → wpG (g d ρ S) fun ρ1 S1 => wp (t ρ1 S1) (fun c S2 => if c = true then wp (e ρ1 S2) (fun y S3 => ∃ z, y = .p z ∧ Inv (j + i + 1) (ys ++ [z]) S3) X else Inv (j + i + 1) ys S2) X) →
    (∀ zs S, Inv (j + ds.length) (ys ++ zs) S → Q zs S) → wp (lcD g t e ρ ds S) Q X
  | [], j, ys, S, h, _, f => f [] S (by simpa using h)
  | d :: r, j, ys, S, h, st, f => by
    have q := st 0 d ys S rfl h
    unfold lcD
    cases eg : g d ρ S with
    | none => rw [eg] at q; exact q
    | some p =>
      obtain ⟨ρ1, S1⟩ := p
      rw [eg] at q
      have q : wp (t ρ1 S1) _ X := q
      show wp ((t ρ1 S1).bind _) Q X
      cases et : t ρ1 S1 with
      | bad => rw [et] at q; exact q
      | err x s => rw [et] at q; exact q
      | ok c S2 =>
        rw [et] at q
        have more : ∀ (us : List PyData) S3, Inv (j + 1) (ys ++ us) S3 → wp (lcD g t e ρ r S3) (fun zs S4 => Q (us ++ zs) S4) X := fun us S3 hi => lcD_wp Inv (ds := r) (j := j + 1) (ys := ys ++ us) hi (fun i x ys S hx hi => by
          have q := st (i + 1) x ys S (by simpa using hx) (by rw [show j + (i + 1) = j + 1 + i by omega]; exact hi)
          rw [show j + (i + 1) + 1 = j + 1 + i + 1 by omega] at q
          exact q) fun zs S4 hi => f (us ++ zs) S4 (by rw [List.length_cons, show j + (r.length + 1) = j + 1 + r.length by omega, ← List.append_assoc]; exact hi)
        cases c with
        | false => exact by simpa using more [] S2 (by simpa using q)
        | true =>
          have q : wp (e ρ1 S2) (fun y S3 => ∃ z, y = .p z ∧ Inv (j + 1) (ys ++ [z]) S3) X := q
          cases ee : e ρ1 S2 with
          | bad => rw [ee] at q; exact q.elim
          | err x s => rw [ee] at q; simp [ee]; exact q
          | ok y S3 =>
            rw [ee] at q
            obtain ⟨z, rfl, hi⟩ := q
            have m := more [z] S3 hi
            simp only [Out.bind_ok, if_true, ee]
            show wp ((lcD g t e ρ r S3).bind fun zs S4 => Out.ok (z :: zs) S4) Q X
            simpa using m
end
@[simp] theorem tupleM_l {xs : List PyData} {S : Sto} : tupleM [.p (.list xs)] S = .ok (.p (.tuple xs)) S := rfl
@[simp] theorem tupleM_t {xs : List PyData} {S : Sto} : tupleM [.p (.tuple xs)] S = .ok (.p (.tuple xs)) S := rfl
/-- a comprehension each of whose items draws at most so often -/
theorem lcT_wp {cs : List PyData} {i l : Nat} {n c : Int} {g : FG} {e : FE} {ρ : Ev} {ds : List D} {S : Sto} {Q : List PyData → Sto → Prop} {X : Exn → Sto → Prop} (L : Nat) (P : PyData → Prop) (hc : 0 ≤ c) (hl : ds.length ≤ L) (h : Tape cs i l n S)
    (st : ∀ d ∈ ds, ∀ n' S, n ≤ n' → n' + c ≤ n + L * c → Tape cs i l n' S → wpG (g d ρ S) fun ρ1 S1 => wp (e ρ1 S1) (fun y S2 => ∃ z, y = .p z ∧ P z ∧ Tape cs i l (n' + c) S2) X)
    (f : ∀ zs S', zs.length = ds.length → (∀ z ∈ zs, P z) → Tape cs i l (n + L * c) S' → Q zs S') : wp (lcD g tYesD e ρ ds S) Q X := by
  refine lcD_wp (fun j ys S => ys.length = j ∧ (∀ y ∈ ys, P y) ∧ Tape cs i l (n + j * c) S) (j := 0) (ys := []) ⟨rfl, (fun y hy => nomatch hy), by simpa using h⟩ ?_ ?_
  · rintro j d ys S he ⟨h1, h2, h3⟩
    have hj : j < ds.length := (List.getElem?_eq_some_iff.mp he).1
    rw [Nat.zero_add] at h1 h3 ⊢
    have hs : ((j + 1 : Nat) : Int) * c = j * c + c := by rw [show ((j + 1 : Nat) : Int) = (j : Int) + 1 by omega, Int.add_mul, Int.one_mul]
    have hb : ((j + 1 : Nat) : Int) * c ≤ L * c := Int.mul_le_mul_of_nonneg_right (by omega) hc
    have hz : 0 ≤ (j : Int) * c := Int.mul_nonneg (by omega) hc
    have q := st d (List.mem_of_getElem? he) (n + j * c) S (by omega) (by omega) h3
    cases eg : g d ρ S with
    | none => rw [eg] at q; exact q
    | some p =>
      obtain ⟨ρ1, S1⟩ := p
      rw [eg] at q
      have q : wp (e ρ1 S1) _ X := q
      simp only [wpG_some, tYes_, wp_ok, if_true]
      refine wp_mono q (fun y s ⟨z, e1, e2, e3⟩ => ⟨z, e1, by simp [h1], fun y hy => ?_, by rw [hs, ← Int.add_assoc]; exact e3⟩) fun _ _ h => h
      rcases List.mem_append.mp hy with hy | hy
      · exact h2 y hy
      · simp at hy; rw [hy]; exact e2
  · rintro zs S' ⟨h1, h2, h3⟩
    have hb : ((0 + ds.length : Nat) : Int) * c ≤ L * c := Int.mul_le_mul_of_nonneg_right (by omega) hc
    exact f zs S' (by simpa using h1) (by simpa using h2) (h3.mono (by omega))
end DL
namespace DL
open PySem L2 PySem.Spec PyProof.Rows
def eqKv (ka kb : List (Key × PyData)) : Bool := ka.length == kb.length && ka.all fun p => match valD kb p.1 with
  | some y => PyData.eqv p.2 y
  | none => false
def shKv (ka : List (Key × PyData)) : Bool := ka.all fun p => SeqAt.shaped p.2
def opEqZ (neg : Bool) : D → D → M D := fun x y S => match dicOf S x, dicOf S y with
  | some ka, some kb => if shKv ka && shKv kb then .ok (.p (.bool (if neg then !eqKv ka kb else eqKv ka kb))) S else .bad
  | _, _ => opEqX neg x y S
def DpKv (K : PySem.W.Frag) (H : Hp) (ka : List (Key × PyData)) (wa : List (Key × V)) : Prop := ka.map (·.1) = wa.map (·.1) ∧ DpAll K H (wa.map (·.2)) (ka.map (·.2)) ∧ shKv ka = true
def rEqKv (K : PySem.W.Frag) (neg : Bool) : R2 := fun x y H Q => ∃ a b ka kb wa wb, x = .ref a ∧ y = .ref b ∧ Rd H a (.dK wa) ∧ Rd H b (.dK wb) ∧ DpKv K H ka wa ∧ DpKv K H kb wb ∧ Q (.bl (if neg then !eqKv ka kb else eqKv ka kb)) H
theorem DpKv.inv {K : PySem.W.Frag} {H : Hp} {p : Key × PyData} {ka : List (Key × PyData)} {l : List (Key × V)} (r : DpKv K H (p :: ka) l) : ∃ v wa, l = (p.1, v) :: wa ∧ Dp K H v p.2 ∧ SeqAt.shaped p.2 = true ∧ DpKv K H ka wa := by
  obtain ⟨e, t, s⟩ := r
  cases l with
  | nil => simp at e
  | cons q wa =>
    simp only [List.map_cons, List.cons.injEq] at e
    simp only [shKv, List.all_cons, Bool.and_eq_true] at s
    cases t with
    | cons h t => exact ⟨q.2, wa, by rw [e.1], h, s.1, e.2, t, s.2⟩
theorem DpKv.val {K : PySem.W.Frag} {H : Hp} {k : Key} : ∀ {ka : List (Key × PyData)} {wa : List (Key × V)}, DpKv K H ka wa → (∀ d, valD ka k = some d → ∃ v, valV wa k = some v ∧ Dp K H v d ∧ SeqAt.shaped d = true) ∧ (valD ka k = none → valV wa k = none)
  | [], wa, r => by
    have : wa = [] := by have := r.1; simpa using this
    subst this
    exact ⟨fun d e => (by cases e), fun _ => rfl⟩
  | p :: ka, _, r => by
    obtain ⟨v, ws, rfl, h, sh, t⟩ := r.inv
    have ih := DpKv.val (k := k) t
    by_cases e : p.1 = k
    · have e1 : valD (p :: ka) k = some p.2 := by simp [valD, List.find?_cons, e]
      have e2 : valV ((p.1, v) :: ws) k = some v := by simp [valV, List.find?_cons, e]
      rw [e1, e2]
      exact ⟨fun d q => by cases q; exact ⟨v, rfl, h, sh⟩, fun q => by cases q⟩
    · have e1 : valD (p :: ka) k = valD ka k := by simp [valD, List.find?_cons, e]
      have e2 : valV ((p.1, v) :: ws) k = valV ws k := by simp [valV, List.find?_cons, e]
      rw [e1, e2]
      exact ih
section
variable {X : Cx}
theorem hits_kv {pins : List (Addr × Obj)} {σ : L2.St} {H : Hp} {s : Shared} {A : Around} (I : L2.Inv X pins σ H s) (hu : A.in1.units + 64 < cLine) {kb : List (Key × PyData)} {wb : List (Key × V)} {vb : List (Key × Value)} (rb : KV wb vb) (db : DpKv X.K H kb wb) :
    ∀ {ka : List (Key × PyData)} {wa : List (Key × V)} {va : List (Key × Value)}, KV wa va → DpKv X.K H ka wa → PySem.W.KeqHits A.in1 s vb va (ka.all fun p => match valD kb p.1 with | some y => PyData.eqv p.2 y | none => false)
  | [], wa, va, ra, da => by
    have : wa = [] := by have := da.1; simpa using this
    subst this
    cases ra
    exact .nil
  | p :: ka, _, va, ra, da => by
    obtain ⟨v, wa, rfl, h, sh, t⟩ := da.inv
    cases ra with
    | @cons _ q _ qs h1 t1 =>
      obtain ⟨k, u⟩ := q
      obtain ⟨hk, hr⟩ := h1
      have hk : p.1 = k := hk
      subst hk
      have ih := hits_kv I hu rb db t1 t
      rw [List.all_cons]
      cases e : valD kb p.1 with
      | none =>
        have z : L2.RelO (valV wb p.1) (valueAt vb p.1) := rb.val p.1
        rw [(db.val (k := p.1)).2 e] at z
        have z' : valueAt vb p.1 = none := by cases hz : valueAt vb p.1 with | none => rfl | some y => rw [hz] at z; exact z.elim
        exact .miss z'
      | some d =>
        obtain ⟨y, ey, dy, sy⟩ := (db.val (k := p.1)).1 d e
        have z : L2.RelO (valV wb p.1) (valueAt vb p.1) := rb.val p.1
        rw [ey] at z
        obtain ⟨yv, hy, ry⟩ := z.some_of
        obtain ⟨as, r1⟩ := Dp.reads I p.2 v u h hr
        obtain ⟨bs, r2⟩ := Dp.reads I d y yv dy ry
        exact .hit hy (PySem.W.keq_at r1 r2 sh sy hu) ih
theorem op_eqKv (hu : X.A.units + 65 < cLine) : OpR X (compareOp .Eq) (rEqKv X.K false) := by
  intro pins s σ H x y v u Q I rx ry h
  obtain ⟨a, b, ka, kb, wa, wb, rfl, rfl, ea, eb, da, db, q⟩ := h
  obtain rfl : v = Value.ref a := rx
  obtain rfl : u = Value.ref b := ry
  obtain ⟨_, ya, va, ra, dda⟩ := (show ObjOk X.prog X.w H s.heap a (.dK wa) from ea.ok I.hok)
  obtain ⟨_, yb, vb, rb, ddb⟩ := (show ObjOk X.prog X.w H s.heap b (.dK wb) from eb.ok I.hok)
  have l1 : ka.length = va.length := by rw [← ra.length]; have := congrArg List.length da.1; simpa using this
  have l2 : kb.length = vb.length := by rw [← rb.length]; have := congrArg List.length db.1; simpa using this
  refine PySem.W.keq_eq (knd := mixKind X.prog X.w) ya yb dda ddb (by omega) (fun _ => hits_kv I (by show X.A.units + 1 + 64 < cLine; omega) rb db ra da) ⟨.bl _, H, I, rfl, ?_⟩
  rw [← l1, ← l2]
  exact q
theorem op_neKv (hu : X.A.units + 65 < cLine) : OpR X (compareOp .NotEq) (rEqKv X.K true) := by
  intro pins s σ H x y v u Q I rx ry h
  obtain ⟨a, b, ka, kb, wa, wb, rfl, rfl, ea, eb, da, db, q⟩ := h
  obtain rfl : v = Value.ref a := rx
  obtain rfl : u = Value.ref b := ry
  obtain ⟨_, ya, va, ra, dda⟩ := (show ObjOk X.prog X.w H s.heap a (.dK wa) from ea.ok I.hok)
  obtain ⟨_, yb, vb, rb, ddb⟩ := (show ObjOk X.prog X.w H s.heap b (.dK wb) from eb.ok I.hok)
  have l1 : ka.length = va.length := by rw [← ra.length]; have := congrArg List.length da.1; simpa using this
  have l2 : kb.length = vb.length := by rw [← rb.length]; have := congrArg List.length db.1; simpa using this
  refine PySem.W.keq_ne (knd := mixKind X.prog X.w) ya yb dda ddb (by omega) (fun _ => hits_kv I (by show X.A.units + 1 + 64 < cLine; omega) rb db ra da) ⟨.bl _, H, I, rfl, ?_⟩
  rw [← l1, ← l2]
  exact q
end
theorem shKv_lay : ∀ {ka : List (Key × PyData)}, shKv ka = true → PyData.canLayAll0 (ka.map (·.2)) = true
  | [], _ => rfl
  | p :: ka, h => by
    simp only [shKv, List.all_cons, Bool.and_eq_true] at h
    show (PyData.canLay0 p.2 && PyData.canLayAll0 (ka.map (·.2))) = true
    rw [SeqAt.canLay_of_shaped h.1, shKv_lay (ka := ka) h.2]
    rfl
theorem dpKv_of {K : PySem.W.Frag} {H : Hp} {G : Gh} {S : Sto} (rp : Rep K H G S) {ka : List (Key × PyData)} {wa : List (Key × V)} (r : KvR K G.φ H ka wa) (sh : shKv ka = true) : DpKv K H ka wa :=
  ⟨r.ks, DnAll.dp (fun _ => True) rp.phi (shKv_lay sh) r.vs, sh⟩
def rEqZ (K : PySem.W.Frag) : R2 := fun x y H Q => rEqX K x y H Q ∨ rEqKv K false x y H Q
def rNeZ (K : PySem.W.Frag) : R2 := fun x y H Q => rNeX K x y H Q ∨ rEqKv K true x y H Q
theorem sim_eqZ {K : PySem.W.Frag} : Sim2 K (rEqZ K) (opEqZ false) := by
  intro W σ H G S x y v w Q rp dx dy q
  unfold opEqZ at q
  split at q
  · rename_i ka kb e1 e2
    by_cases c : (shKv ka && shKv kb) = true
    · rw [if_pos c] at q
      rw [Bool.and_eq_true] at c
      obtain ⟨a, wa, rfl, ha, ra⟩ := dicOf_den rp e1 dx
      obtain ⟨b, wb, rfl, hb, rb⟩ := dicOf_den rp e2 dy
      exact .inr ⟨a, b, ka, kb, wa, wb, rfl, rfl, ha, hb, dpKv_of rp ra c.1, dpKv_of rp rb c.2, q.ret rp (.bl _)⟩
    · rw [if_neg c] at q; exact q.elim
  · exact .inl (sim_eqX W σ H G S x y v w Q rp dx dy q)
theorem sim_neZ {K : PySem.W.Frag} : Sim2 K (rNeZ K) (opEqZ true) := by
  intro W σ H G S x y v w Q rp dx dy q
  unfold opEqZ at q
  split at q
  · rename_i ka kb e1 e2
    by_cases c : (shKv ka && shKv kb) = true
    · rw [if_pos c] at q
      rw [Bool.and_eq_true] at c
      obtain ⟨a, wa, rfl, ha, ra⟩ := dicOf_den rp e1 dx
      obtain ⟨b, wb, rfl, hb, rb⟩ := dicOf_den rp e2 dy
      exact .inr ⟨a, b, ka, kb, wa, wb, rfl, rfl, ha, hb, dpKv_of rp ra c.1, dpKv_of rp rb c.2, q.ret rp (.bl _)⟩
    · rw [if_neg c] at q; exact q.elim
  · exact .inl (sim_neX W σ H G S x y v w Q rp dx dy q)
section
variable {X : Cx} {W : WX} {a b : Expr} {f h : FE} {pos : Pos}
theorem op_eqZ (hu : X.A.units + 65 < cLine) : OpR X (compareOp .Eq) (rEqZ X.K) := by
  intro pins s σ H x y v u Q I rx ry h
  rcases h with h | h
  · exact op_eqX (by omega) pins s σ H x y v u Q I rx ry h
  · exact op_eqKv hu pins s σ H x y v u Q I rx ry h
theorem op_neZ (hu : X.A.units + 65 < cLine) : OpR X (compareOp .NotEq) (rNeZ X.K) := by
  intro pins s σ H x y v u Q I rx ry h
  rcases h with h | h
  · exact op_neX (by omega) pins s σ H x y v u Q I rx ry h
  · exact op_neKv hu pins s σ H x y v u Q I rx ry h
theorem de_eqZ (hu : X.A.units + 65 < cLine) (ha : DE X W a f) (hb : DE X W b h) : DE X W (.Compare a [.Eq] [b] pos) (e2 (opEqZ false) f h) := de_cmp (op_eqZ hu) sim_eqZ ha hb (nomark _)
theorem de_neZ (hu : X.A.units + 65 < cLine) (ha : DE X W a f) (hb : DE X W b h) : DE X W (.Compare a [.NotEq] [b] pos) (e2 (opEqZ true) f h) := de_cmp (op_neZ hu) sim_neZ ha hb (nomark _)
theorem dt_eqZ (hu : X.A.units + 65 < cLine) (ha : DE X W a f) (hb : DE X W b h) : DT X W (.Compare a [.Eq] [b] pos) (tC2 (opEqZ false) f h) := dt_cmp (op_eqZ hu) sim_eqZ ha hb (nomark _)
theorem dt_neZ (hu : X.A.units + 65 < cLine) (ha : DE X W a f) (hb : DE X W b h) : DT X W (.Compare a [.NotEq] [b] pos) (tC2 (opEqZ true) f h) := dt_cmp (op_neZ hu) sim_neZ ha hb (nomark _)
end
end DL
namespace DL
open PySem L2 PySem.Spec PyProof.Rows
structure FnX (P : Program) (w : World) (K : PySem.W.Frag) (mg : Str → Option Value) (base : Heap) (k : Nat) (f : Addr) (fd : FuncData) (ps : List Str) (sp : Sp) : Prop where
  len : ∀ vs H Q E, sp vs H Q E → vs.length = ps.length
  run : ∀ (A : Around) (outer : List Env) (s : Shared) (H : Hp) (args : Args) (us : List Value) (vs : List V) (Q : VK) (E : XK), Room k A → A.guards = some [] → Env0 P w K mg base A outer s H → BindsTo s fd args (ps.zip us) → Vals vs us → sp vs H Q E →
    codeAny (model P w) A (.call (.ref f) args) (CR (L2.CX P w) outer P w H s Q E) s
/-- .. called by position -/
structure FnP (P : Program) (w : World) (K : PySem.W.Frag) (mg : Str → Option Value) (base : Heap) (k : Nat) (f : Addr) (sp : Sp) : Prop where
  run : ∀ (A : Around) (outer : List Env) (s : Shared) (H : Hp) (us : List Value) (vs : List V) (Q : VK) (E : XK), Room k A → A.guards = some [] → Env0 P w K mg base A outer s H → Vals vs us → sp vs H Q E →
    codeAny (model P w) A (.call (.ref f) ⟨us, []⟩) (CR (L2.CX P w) outer P w H s Q E) s
theorem FnX.toP {P : Program} {w : World} {K : PySem.W.Frag} {mg : Str → Option Value} {base : Heap} {k : Nat} {f : Addr} {fd : FuncData} {ps : List Str} {sp : Sp} (F : FnX P w K mg base k f fd ps sp) (hb : Binds K fd ps []) : FnP P w K mg base k f sp := by
  refine ⟨fun A outer s H us vs Q E hr hgd e0 r h => ?_⟩
  have hl : us.length = ps.length := by rw [← r.length]; exact F.len _ _ _ _ h
  have KX : K.In s.heap := e0.mod.kin.keeps fun b o e => (e0.bs b o e).1
  have hbs := hb s us KX (by simpa using hl)
  rw [List.append_nil] at hbs
  exact F.run A outer s H ⟨us, []⟩ us vs Q E hr hgd e0 hbs r h
theorem fnX_of {P : Program} {w : World} {K : PySem.W.Frag} {mg : Str → Option Value} {base : Heap} {x qual : Str} {st : Stmt} {f : Addr} {fd : FuncData} {N ps : List Str} {k : Nat} {sp : Sp} (F : Fun K x qual st f fd) (Sc : FnScope N ps (defScope st)) (len : ∀ vs H Q E, sp vs H Q E → vs.length = ps.length)
    (hbody : ∀ (cdv : Value) (A : Around) (outer : List Env) (s : Shared) (H : Hp) (vs : List V) (Q : VK) (E : XK), Room k (A.deeper (envOfC qual (defScope st) s.heap.objs.size f cdv)) → A.guards = some [] → sp vs H Q E →
      ∃ t, PSs (cxOf (L2.CX P w) P w K mg base N qual (defScope st) f cdv A outer s H E) (defBody st) t ∧ t { nx := fun _ H' => Q .non H', rt := Q } (start N vs) H) : FnX P w K mg base (k + 1) f fd ps sp := by
  obtain ⟨oc, od, kV, doc, pm, an, cdv, ct, osl, rfl, lk, hcd⟩ := F.ex
  refine ⟨len, fun A outer s H args us vs Q E hr hgd e0 hb r hsp => ?_⟩
  have hl := len _ _ _ _ hsp
  have keepB : ∀ b o, base.get? b = some o → s.heap.get? b = some o := fun b o e => (e0.bs b o e).1
  have KX : K.In s.heap := e0.mod.kin.keeps keepB
  have lim : s.heap.NoLimit := e0.mod.nolimit.keeps keepB
  obtain ⟨t, ht, hq⟩ := hbody cdv A outer s H vs Q E (hr.deeper _) hgd hsp
  refine codeAny_call_function hr.depth (KX _ _ lk) rfl Sc.co Sc.gen rfl (PySem.W.codeRec_of KX hcd) (hb _ _ _ _ ?_)
  refine wpAny_newFunctionEnv_cells Sc.kind (fun y hy => ?_) fun env he s1 xx => ?_
  · obtain ⟨n, v⟩ := y
    rcases Sc.par n (List.of_mem_zip hy).1 with q | q
    · exact .inl q
    · exact .inr ⟨q, PySem.W.cellsFrom_some _ _ _ (.inl q)⟩
  subst he
  refine ⟨lim.keeps xx.toInCall.keep, codeAny_func ?_⟩
  have I := inv_start (CX := L2.CX P w) (E := E) Sc hr.hd e0 hl r xx
  refine wpAny_mono (ht.run [] s1 (start N vs) H _ I hq) (fun fl s' hs => ?_) fun e s' hs => hs
  cases fl with
  | ret u =>
    obtain ⟨v, σ', H', J, rv, q⟩ := hs
    exact ⟨v, H', J.os, J.bare, J.base, J.hok, rv, q⟩
  | next =>
    obtain ⟨σ', H', J, q⟩ := hs
    exact ⟨.non, H', J.os, J.bare, J.base, J.hok, rfl, q⟩
  | brk =>
    obtain ⟨_, _, _, q⟩ := hs
    exact False.elim q
  | cont =>
    obtain ⟨_, _, _, q⟩ := hs
    exact False.elim q
/-- the later objects are forgotten when a def is left -/
def cutX (n : Nat) : Out D → Out D
  | .ok (.ob i) s => if i < n then .ok (.ob i) (s.take n) else .ok (.ob i) s
  | .ok d s => .ok d (s.take n)
  | .err x s => .err x (s.take n)
  | .bad => .bad
abbrev WE (E : XK) : WX := fun c d _ H => E c d H
def spX (K : PySem.W.Frag) (n : Nat) (g : List D → M D) : Sp := fun vs H Q E => ∃ G S ds, ds.length = n ∧ DenL K H G ds vs ∧ Rep K H G S ∧ Aft K (WE E) [] H G S (cutX S.length (g ds S)) (QD K Q)
theorem exn_cut {K : PySem.W.Frag} {H : Hp} {G : Gh} {n : Nat} {x : Exn} {d : Option Addr} (h : ExnAt K H G x d) : ExnAt K H ⟨G.ι.take n, G.φ⟩ x d := h
theorem Aft.uncutX {K : PySem.W.Frag} {W : WX} {H : Hp} {G : Gh} {S S' : Sto} {d : D} {Q : VK} (rp : Rep K H G S) (q : Aft K W [] H G S (cutX S.length (.ok d S')) (QD K Q)) {H' : Hp} {G' : Gh} {v : V} (x : Ext H G S H' G' S') (r : Rep K H' G' S') (dv : Den K H' G' d v) : Q v H' := by
  have fin : (∀ i, d = .ob i → i < S.length) → Aft K W [] H G S (.ok d (S'.take S.length)) (QD K Q) → Q v H' := fun hi q => q H' _ (x.cut rp) (r.cut _) v (den_cut dv hi)
  cases d with
  | p y => exact fin (fun i e => nomatch e) q
  | ro y => exact fin (fun i e => nomatch e) q
  | ext y => exact fin (fun i e => nomatch e) q
  | ob i =>
    by_cases hi : i < S.length
    · have q : Aft K W [] H G S (if i < S.length then .ok (.ob i) (S'.take S.length) else .ok (.ob i) S') (QD K Q) := q
      rw [if_pos hi] at q
      exact fin (fun j e => by cases e; exact hi) q
    · have q : Aft K W [] H G S (if i < S.length then .ok (.ob i) (S'.take S.length) else .ok (.ob i) S') (QD K Q) := q
      rw [if_neg hi] at q
      exact q H' G' x r v dv
/-- what stands behind a body, from what is wanted of the def -/
theorem body_read {K : PySem.W.Frag} {H : Hp} {G : Gh} {S : Sto} {Q : VK} {E : XK} {m : Nat} {ds : List D} {body : FS} (rp : Rep K H G S) (q : Aft K (WE E) [] H G S (cutX S.length (runF m body ds S)) (QD K Q)) :
    AftS K (WE E) { nx := fun _ H' => Q .non H', rt := Q } H G S (body (ds.map some ++ List.replicate (m - ds.length) none) S) := by
  unfold runF at q
  cases eo : body (ds.map some ++ List.replicate (m - ds.length) none) S with
  | none => rw [eo] at q; exact q
  | some pr =>
    obtain ⟨fl, S'⟩ := pr
    rw [eo] at q
    cases fl with
    | ret d => exact fun H' G' v x r dv => Aft.uncutX rp q x r dv
    | next ρ' => exact fun H' G' σ' x r rs => Aft.uncutX (d := .p .none) rp q x r .non
    | brk ρ' => exact q.elim
    | cont ρ' => exact q.elim
    | exc y ρ' => exact fun H' G' σ' d x r rs e => q H' ⟨G'.ι.take S.length, G'.φ⟩ d (x.cut rp) (r.cut _) (exn_cut e)
/-- the things a body's derivation may use -/
structure Ctx (X : Cx) (W : WX) (k : Nat) : Prop where
  hr : Room k X.A
  hgd : X.A.guards = some []
  tk : Takes X W
theorem Ctx.blk {X : Cx} {W : WX} {k : Nat} (C : Ctx X W k) {s : Shared} {H : Hp} {sc : Scope} {env : Env} {fp : List Addr} : Ctx (X.blk s H sc env fp) W0 k := ⟨C.hr, C.hgd, takes0⟩
theorem Ctx.u1 {X : Cx} {W : WX} {k : Nat} (C : Ctx X W k) : X.A.units + 1 < cLine := hu_of C.hr
theorem Ctx.u64 {X : Cx} {W : WX} {k : Nat} (C : Ctx X W k) : X.A.units + 64 < cLine := C.hr.units
theorem Ctx.u65 {X : Cx} {W : WX} {k : Nat} (C : Ctx X W k) : X.A.units + 65 < cLine := hu65 C.hr
/-- a loop lets exceptions on -/
abbrev Po (X : Cx) : Prop := PassesOwn (model X.prog X.w) X.A X.env X.xe
theorem fnX_data {P : Program} {w : World} {K : PySem.W.Frag} {mg : Str → Option Value} {base : Heap} {x qual : Str} {st : Stmt} {f : Addr} {fd : FuncData} {N ps : List Str} {k m n : Nat} (F : Fun K x qual st f fd) (Sc : FnScope N ps (defScope st)) (hm : N.length = m) (hn : ps.length = n) (body : FS)
    (hb : ∀ (cdv : Value) (A : Around) (outer : List Env) (s : Shared) (H : Hp) (E : XK), Ctx (cxOf (L2.CX P w) P w K mg base N qual (defScope st) f cdv A outer s H E) (WE E) k → Po (cxOf (L2.CX P w) P w K mg base N qual (defScope st) f cdv A outer s H E) → DSs (cxOf (L2.CX P w) P w K mg base N qual (defScope st) f cdv A outer s H E) (WE E) (defBody st) body) :
    FnX P w K mg base (k + 1) f fd ps (spX K n (runF m body)) := by
  subst hm hn
  refine fnX_of F Sc (fun vs H Q E ⟨G, S, ds, hl, dl, _⟩ => by rw [← dl.length]; exact hl) fun cdv A outer s H vs Q E hr hgd ⟨G, S, ds, hl, dl, rp, q⟩ => ?_
  refine ⟨_, (hb cdv A outer s H E ⟨hr, hgd, takes_of rfl rfl rfl rfl⟩ (passes_of rfl)).run, G, S, ds.map some ++ List.replicate (N.length - ds.length) none, ?_, rp, body_read rp q⟩
  rw [dl.length]
  exact RelS.ofArgs (N.length - vs.length) dl
theorem fnX_none {P : Program} {w : World} {K : PySem.W.Frag} {mg : Str → Option Value} {base : Heap} {f : Addr} {fd : FuncData} {ps : List Str} {k n : Nat} : FnX P w K mg base k f fd ps (spX K n fun _ _ => .bad) :=
  ⟨fun vs H Q E ⟨_, _, _, _, _, _, q⟩ => q.elim, fun _ _ _ _ _ _ _ _ _ _ _ _ _ _ ⟨_, _, _, _, _, _, q⟩ => q.elim⟩
theorem Aft.from {α : Type} {K : PySem.W.Frag} {W : WX} {σ : L2.St} {H H1 : Hp} {G G1 : Gh} {S S1 : Sto} {o : Out α} {P : α → Hp → Gh → Sto → Prop} (q : Aft K W σ H G S o P) (x : Ext H G S H1 G1 S1) : Aft K W σ H1 G1 S1 o P := by
  cases o with
  | ok a S' => exact fun H' G' x' r => q H' G' (x.trans x') r
  | err y S' => exact fun H' G' d x' r e => q H' G' d (x.trans x') r e
  | bad => exact q
def eCallX (n : Nat) (g : List D → M D) (fa : FA) : FE := fun ρ S => (fa ρ S).bind fun ds S1 => if ds.length = n then cutX S1.length (g ds S1) else .bad
section
variable {X : Cx} {W : WX} {k n : Nat} {f : Addr} {fd : FuncData} {ps : List Str} {sp : Sp} {x : Str} {p pos : Pos} {e : Expr} {es : List Expr} {fa : FA} {g : List D → M D}
theorem run_fnP {pins : List (Addr × Obj)} {σ : L2.St} {H : Hp} {s : Shared} {Q : VK} {us : List Value} {vs : List V} (F : FnP X.prog X.w X.K X.mg X.base k f sp) (C : Ctx X W k)
    (I : L2.Inv X pins σ H s) (r : Vals vs us) (h : sp vs H Q fun c d H' => W c d σ H') : wpAny (model X.prog X.w) X.A (call (.ref f) us) (EP X pins σ Q) X.xe s := by
  refine wpAny_call (codeAny_mono (F.run X.A X.stack s H us vs Q _ C.hr C.hgd I.env0 r h) fun res s' hq => ?_)
  match res, hq with
  | .error e, hq => exact C.tk e s' (XE.of_call I (fun cls d H' h => h) hq)
  | .ok (.ret u), hq => exact I.after hq
  | .ok .next, hq => exact False.elim hq
  | .ok .brk, hq => exact False.elim hq
  | .ok .cont, hq => exact False.elim hq
theorem callX_read {σ : L2.St} {H : Hp} {Q : VK} (q : rd X.K W (eCallX n g fa) σ H Q) : rdA X.K W fa σ H fun vs H1 => spX X.K n g vs H1 Q fun c d H' => W c d σ H' := by
  obtain ⟨G, S, ρ, rs, rp, q⟩ := q
  refine ⟨G, S, ρ, rs, rp, (Aft.bind q).mono fun ds H1 G1 S1 x1 r1 q1 vs dv => ?_⟩
  by_cases hl : ds.length = n
  · simp only [if_pos hl] at q1
    refine ⟨G1, S1, ds, hl, dv, r1, ?_⟩
    cases eo : cutX S1.length (g ds S1) with
    | ok a S2 => rw [eo] at q1; exact q1
    | err y S2 => rw [eo] at q1; exact q1
    | bad => rw [eo] at q1; exact q1
  · simp only [if_neg hl] at q1; exact q1.elim
theorem de_callP (F : FnP X.prog X.w X.K X.mg X.base k f sp) (hsp : ∀ vs H Q E, spX X.K n g vs H Q E → sp vs H Q E) (C : Ctx X W k) (hg : Gl X x) (hm : X.mg x = some (.ref f)) (hk : PySem.W.keepIn X.K (.ref f) = true)
    (ha : DA X W (e :: es) fa) (hdb : (x == ("__debug__" : Str)) = false := by decide) (he : starEach (e :: es) X.env = (false, eval e X.env) :: starEach es X.env := by rfl) (hpl : (backTo pos (starEach es X.env)).any (·.1) = false := by rfl) :
    DE X W (.Call (.Name x p) (e :: es) [] pos) (eCallX n g fa) := by
  refine ⟨⟨fun pins s σ H Q I h => wpAny_Call_Name_kw (ld_glob I hg hm ?_ hdb)⟩⟩
  refine PySem.W.callWith_K (h₀ := X.base) I.ok.mod.kin hk (thn (ha.run.run pos pins s σ H _ I (callX_read h)) fun us s1 ⟨vs, H1, I1, r, q⟩ => ⟨I1.kIn, run_fnP F C I1 r (hsp _ _ _ _ q)⟩) he hpl
/-- a def with parameters only -/
theorem de_callX (F : FnX X.prog X.w X.K X.mg X.base k f fd ps (spX X.K n g)) (C : Ctx X W k) (hg : Gl X x) (hm : X.mg x = some (.ref f)) (hk : PySem.W.keepIn X.K (.ref f) = true) (hb : Binds X.K fd ps [])
    (ha : DA X W (e :: es) fa) (hdb : (x == ("__debug__" : Str)) = false := by decide) (he : starEach (e :: es) X.env = (false, eval e X.env) :: starEach es X.env := by rfl) (hpl : (backTo pos (starEach es X.env)).any (·.1) = false := by rfl) :
    DE X W (.Call (.Name x p) (e :: es) [] pos) (eCallX n g fa) := de_callP (F.toP hb) (fun _ _ _ _ h => h) C hg hm hk ha hdb he hpl
end
theorem law_goX {P : Program} {w : World} {K : PySem.W.Frag} {mg mb : Str → Option Value} {k : Nat} {fa a : Addr} {fd : FuncData} {x : Str} {sp : Sp} {s₁ : Shared} {vs : List Value} {ns : List Int}
    (KX : K.In s₁.heap) (hns : s₁.heap.Ns mainGlobals mg) (hb : s₁.heap.Ns builtinsNs mb) (hbb : ∀ x : Str, x ≠ "__name__" → mb x = bootBuiltins x) (hlim : s₁.heap.NoLimit) (hg : s₁.gens = #[])
    (ha : s₁.heap.get? a = some { cls := .type "list", data := .seq vs.toArray }) (hi : IntsAre vs ns) (hl : ns.length ≤ sizeLine) (hr : Room k callerA)
    (F : ∀ base : Heap, K.In base → base.Ns mainGlobals mg → FnX P w K mg base k fa fd [x] sp) (hbind : ∀ (s : Shared) (u : Value), BindsTo s fd ⟨[u], []⟩ [(x, u)])
    (hsp : ∀ H : Hp, Only H → SqL K H a (ns.map V.int) → sp [.ref a] H (fun v _ => v = .bl true) fun _ _ _ => False) :
    codeAny (model P w) callerA (.call (.ref fa) ⟨[.ref a], []⟩) (fun r s' => r = .ok (.ret (.bool true)) ∧ OldK s₁.heap s'.heap ∧ s'.os = s₁.os ∧ AllBare s'.gens) s₁ := by
  have rv := vals_ints hi
  have lenV := hi.length
  have main : ∀ H : Hp, Only H → SqL K H a (ns.map V.int) → HOk P w H s₁.heap → (∀ b, H b ≠ none → b = a) → (H a ≠ none → K.lookup a = none) →
      codeAny (model P w) callerA (.call (.ref fa) ⟨[.ref a], []⟩) (fun r s' => r = .ok (.ret (.bool true)) ∧ OldK s₁.heap s'.heap ∧ s'.os = s₁.os ∧ AllBare s'.gens) s₁ := by
    intro H hO hS hok hA hK
    have free : ∀ {b : Addr} {o : Obj} {es : Array DictEntry} {ep : Nat}, s₁.heap.get? b = some o → o.data = .dict es ep → H b = none := fun {b o es ep} e d => by
      by_cases q : H b = none
      · exact q
      · have e' := hA b q
        subst e'
        rw [ha] at e; cases e
        cases (show Data.seq vs.toArray _ = Data.dict es ep from d)
    have nsK : ∀ {b : Addr} {m : Str → Option Value}, s₁.heap.Ns b m → (hidT s₁.heap H).Ns b m := fun ⟨o, es, ep, e, d, r⟩ => ⟨o, es, ep, hidT_get e (free e d), d, r⟩
    have hKb : K.In (hidT s₁.heap H) := fun b o e => hidT_get (KX b o e) (by
      by_cases q : H b = none
      · exact q
      · have e' := hA b q
        subst e'
        rw [hK q] at e; cases e)
    obtain ⟨mc, l1, l2⟩ := id hlim
    have hM : Mod K mg (hidT s₁.heap H) := ⟨hKb, nsK hns, ⟨mb, nsK hb, hbb⟩, ⟨mc, nsK l1, l2⟩⟩
    have e0 : Env0 P w K mg (hidT s₁.heap H) callerA [] s₁ H := ⟨rfl, hM, fun b o e => of_hidT e, Nat.le_of_eq (hidT_size _ _), trivial, fun b hb => absurd (show b ∈ ([] : List Addr) from hb) (by simp), hok, .of_eq hg⟩
    refine codeAny_mono ((F _ hKb (nsK hns)).run callerA [] s₁ H ⟨[.ref a], []⟩ [.ref a] [.ref a] _ _ hr rfl e0 (hbind s₁ (.ref a)) (.cons rfl .nil) (hsp H hO hS)) fun r s' h => ?_
    match r, h with
    | .error e, h =>
      obtain ⟨_, _, _, _, _, _, _, _, _, _, _, _, z⟩ := (show L2.CX P w [] H s₁ (fun _ _ _ => False) e s' from h)
      exact z.elim
    | .ok .next, h => exact False.elim h
    | .ok .brk, h => exact False.elim h
    | .ok .cont, h => exact False.elim h
    | .ok (.ret u), h =>
      obtain ⟨v, H', os, bare, un, hok', r', q⟩ := h
      have q' : v = .bl true := q
      subst q'
      obtain rfl : u = Value.bool true := r'
      refine ⟨rfl, OldK.of_keep fun b o e => ?_, os, bare⟩
      rcases hO b with z | ⟨ob, xs, z⟩
      · exact un.keep b o e z (fun y => absurd (show b ∈ ([] : List Addr) from y) (by simp)) (by simp)
      · obtain ⟨e1, _⟩ := hok b _ z
        obtain ⟨e2, _⟩ := hok' b _ (un.frzs b ob _ z)
        rw [e] at e1; cases e1
        exact e2
  cases hk : K.lookup a with
  | some o =>
    have e := KX a o hk
    rw [ha] at e
    cases e
    refine main (fun _ => none) (fun _ => .inl rfl) (.inr ⟨_, vs.toArray, _, hk, rfl, rfl, rfl, by rw [List.size_toArray, lenV]; exact hl, by simpa using rv⟩) (fun b u z => by cases (show (none : Option HO) = some u from z)) (fun b z => absurd rfl z) fun z => absurd rfl z
  | none =>
    refine main (upd (fun _ => none) a (.frz { cls := .type "list", data := .seq vs.toArray } (.lst (ns.map V.int)))) (fun b => ?_) (.inl (.inr ⟨{ cls := .type "list", data := .seq vs.toArray }, upd_same⟩)) (fun b u z => ?_) (fun b z => ?_) fun _ => hk
    · by_cases hb : b = a
      · subst hb; exact .inr ⟨_, _, upd_same⟩
      · rw [upd_ne hb]; exact .inl rfl
    · by_cases hb : b = a
      · subst hb
        rw [upd_same] at z; cases z
        exact ⟨ha, by rw [List.length_map]; exact hl, vs, _, rv, ha⟩
      · rw [upd_ne hb] at z; cases z
    · by_cases hb : b = a
      · exact hb
      · rw [upd_ne hb] at z; exact absurd rfl z
theorem law_spX {K : PySem.W.Frag} {g : List D → M D} {ns : List Int} {a : Addr} {H : Hp} (h : ∃ S', g [.ro (nums ns)] [] = .ok (.p (.bool true)) S') (hO : Only H) (hS : SqL K H a (ns.map V.int)) : spX K 1 g [.ref a] H (fun v _ => v = .bl true) fun _ _ _ => False := by
  obtain ⟨S', e⟩ := h
  have fin : ∀ (φ : List (Addr × HO)), Holds φ H → RL K φ a (ns.map V.int) → spX K 1 g [.ref a] H (fun v _ => v = .bl true) fun _ _ _ => False := fun φ hφ hr => by
    refine ⟨⟨[], φ⟩, [], [.ro (nums ns)], rfl, .cons ⟨a, _, rfl, hr, nums_dn ns⟩ .nil, ⟨rfl, List.nodup_nil, fun i b o h => by simp at h, hφ, fun p _ l => ?_⟩, ?_⟩
    · obtain ⟨i, o, h, _⟩ := l
      simp at h
    · rw [e]
      exact fun H' G' x r v dv => den_bool dv
  rcases hS with (h | ⟨o, h⟩) | h
  · exact fin [(a, .lst (ns.map V.int))] (fun p hp => by obtain rfl := List.mem_singleton.mp hp; exact h) fun H' q => SqL.of (q _ (List.mem_singleton.mpr rfl))
  · exact fin [(a, .frz o (.lst (ns.map V.int)))] (fun p hp => by obtain rfl := List.mem_singleton.mp hp; exact h) fun H' q => .inl (.inr ⟨o, q _ (List.mem_singleton.mpr rfl)⟩)
  · exact fin [] (fun p hp => by cases hp) fun H' _ => .inr h
theorem walkX_data {l : PySem.W.OpenLaw} {k : Nat} {q : Program} {loose : List Str} {XP : (Str → Option Value) → Heap → Prop} {YP : World → Heap → Prop} {d : DefRec} {K : Params → PySem.W.Frag} {x : Str} {g : List D → M D}
    (hn : l.most = some 63) (hdf : d.params.defaults = []) (hr : Room k callerA) (hY : ∀ (w : World) (h : Heap), YP w h → (K w.params).In h)
    (F : ∀ (w : World) (mg : Str → Option Value) (fa : Addr) (h : Heap), (K w.params).In h → h.Ns mainGlobals mg → mg d.name = some (.ref fa) →
      ∃ fd : FuncData, (∀ (s : Shared) (u : Value), BindsTo s fd ⟨[u], []⟩ [(x, u)]) ∧ ∀ base : Heap, (K w.params).In base → base.Ns mainGlobals mg → FnX l.prog w (K w.params) mg base k fa fd [x] (spX (K w.params) 1 g))
    (hg : ∀ ns : List Int, ns.length ≤ 63 → ∃ S', g [.ro (nums ns)] [] = .ok (.p (.bool true)) S') : PySem.W.WalkO q loose XP YP l.row.toRowW d [] (fun f vs => PySem.call f vs) := by
  refine Att.attach_call hn hdf fun w s₀ s₁ mg mb fa o pm cd doc a vs ns G Y ho hd hcd hmg hobj hints hlen hgn => ?_
  have KX := hY w _ Y
  obtain ⟨fd, hb, hF⟩ := F w mg fa _ KX G.T.g hmg
  exact law_goX KX G.T.g G.T.b G.T.builtins G.T.nolimit hgn hobj hints (Nat.le_trans hlen (by decide)) hr hF hb fun H hO hS => law_spX (hg ns hlen) hO hS
end DL
namespace DL
open PySem L2 PySem.Spec PyProof.Rows
inductive Arm where
  | texts (xs : List Str)
  | any
def armB (x : Str) : Arm → Bool
  | .texts xs => xs.contains x
  | .any => true
def armGo (x : Str) : List (Arm × FS) → FS
  | [] => sNext
  | (a, b) :: r => if armB x a then b else armGo x r
def sMatch (f : FE) (arms : List (Arm × FS)) : FS := fun ρ S => (f ρ S).st ρ fun d S1 => match d with
  | .p (.str x) => armGo x arms ρ S1
  | _ => none
def max2M : List D → M D := fun ds S => match ds with
  | [.p (.int i), .p (.int j)] => .ok (.p (.int (if j > i then j else i))) S
  | _ => .bad
def min2M : List D → M D := fun ds S => match ds with
  | [.p (.int i), .p (.int j)] => .ok (.p (.int (if j < i then j else i))) S
  | _ => .bad
def intTM : List D → M D := fun ds S => match ds with
  | [.p (.str z)] => if z.length ≤ 640 then (match PySem.intText? z with
    | some n => .ok (.p (.int n)) S
    | none => .bad) else .bad
  | ds => intM ds S
section
variable {X : Cx} {W : WX} {e e' : Expr} {fa : FA} {p pos : Pos}
theorem de_min2 (hc : X.calm = true) (hg : Gl X "min") (hm : X.mg "min" = none) (ha : DA X W [e, e'] fa) (he : starEach [e, e'] X.env = (false, eval e X.env) :: starEach [e'] X.env := by rfl) (hpl : (backTo pos (starEach [e'] X.env)).any (·.1) = false := by rfl) : DE X W (.Call (.Name "min" p) [e, e'] [] pos) (eA min2M fa) :=
  de_callB (call_min2 hc) (fun W σ H G S ds vs Q rp dv q => by
    unfold min2M at q
    split at q
    · rename_i i j
      obtain ⟨u, v, rfl, d1, d2⟩ := denL2 dv
      obtain rfl := den_int d1
      obtain rfl := den_int d2
      exact ⟨i, j, rfl, q.ret rp (.int _)⟩
    · exact q.elim) hg hm rfl ha (he := he) (hpl := hpl)
theorem de_intT (hg : Gl X "int") (hm : X.mg "int" = none) (ha : DA X W [e] fa) (he : starEach [e] X.env = (false, eval e X.env) :: starEach [] X.env := by rfl) : DE X W (.Call (.Name "int" p) [e] [] pos) (eA intTM fa) :=
  de_callTy (T := "int") (r := fun xs H Q => ((∃ i, xs = [.int i] ∧ Q (.int i) H) ∨ ∃ k, xs = [.bl k] ∧ Q (.int (if k then 1 else 0)) H) ∨ ∃ a n, xs = [.str a] ∧ PySem.intText? a = some n ∧ a.length ≤ 640 ∧ Q (.int n) H) (by
    intro pins s σ H xs us Q I r h
    rcases h with h | h
    · exact call_int1 pins s σ H xs us Q I r h
    · exact call_int_str pins s σ H xs us Q I r h) (by
    intro W σ H G S xs vs Q rp dv q
    unfold intTM at q
    split at q
    · rename_i z
      obtain ⟨v, rfl, dv1⟩ := denL1 dv
      obtain rfl := den_str dv1
      by_cases c : z.length ≤ 640
      · rw [if_pos c] at q
        split at q
        · rename_i n en
          exact .inr ⟨z, n, rfl, en, c, q.ret rp (.int _)⟩
        · exact q.elim
      · rw [if_neg c] at q; exact q.elim
    · unfold intM at q
      split at q
      · obtain ⟨v, rfl, dv1⟩ := denL1 dv
        rw [den_int dv1]
        exact .inl (.inl ⟨_, rfl, q.ret rp (.int _)⟩)
      · obtain ⟨v, rfl, dv1⟩ := denL1 dv
        rw [den_bool dv1]
        exact .inl (.inr ⟨_, rfl, q.ret rp (.int _)⟩)
      · exact q.elim) hg hm (by decide +kernel) ha (by decide) (by decide) he
end
end DL
namespace DL
open PySem L2
section
variable {ρ : Ev} {S : Sto} {f g h : FE} {fa : FA} {n : Nat} {Q : D → Sto → Prop} {X : Exn → Sto → Prop}
@[simp] theorem eCallX_ {m : List D → M D} : eCallX n m fa ρ S = (fa ρ S).bind fun ds S1 => if ds.length = n then cutX S1.length (m ds S1) else .bad := rfl
@[simp] theorem cutX_p {x : PyData} : cutX n (.ok (.p x) S) = .ok (.p x) (S.take n) := rfl
@[simp] theorem cutX_err {x : Exn} : cutX n (.err x S) = .err x (S.take n) := rfl
theorem cutX_same {x : PyData} {S' : Sto} (h : S'.length = S.length) : cutX S.length (.ok (.p x) S') = .ok (.p x) S' := by rw [← h]; simp
theorem wp_cutX {o : Out D} (h : wp o (fun d s => ∃ x, d = .p x ∧ Q (.p x) (s.take n)) (fun x s => X x (s.take n))) : wp (cutX n o) Q X := by
  cases o with
  | ok d s =>
    obtain ⟨x, rfl, q⟩ := h
    exact q
  | err x s => exact h
  | bad => exact h
/-- a def's end where the store keeps its length -/
theorem wp_cutXS {o : Out D} (h : wp o (fun d s => s.length = n ∧ Q d s) (fun x s => s.length = n ∧ X x s)) : wp (cutX n o) Q X := by
  cases o with
  | ok d s =>
    obtain ⟨rfl, q⟩ := h
    cases d with
    | ob i =>
      show wp (if i < s.length then Out.ok (D.ob i) (s.take s.length) else .ok (.ob i) s) Q X
      rw [List.take_of_length_le (Nat.le_refl _)]
      split <;> exact q
    | p x => show Q _ (s.take s.length); rw [List.take_of_length_le (Nat.le_refl _)]; exact q
    | ro x => show Q _ (s.take s.length); rw [List.take_of_length_le (Nat.le_refl _)]; exact q
    | ext x => show Q _ (s.take s.length); rw [List.take_of_length_le (Nat.le_refl _)]; exact q
  | err x s =>
    obtain ⟨rfl, q⟩ := h
    show X x (s.take s.length)
    rw [List.take_of_length_le (Nat.le_refl _)]; exact q
  | bad => exact h
@[simp] theorem eqZ_s {neg : Bool} {a b : Str} : opEqZ neg (.p (.str a)) (.p (.str b)) S = .ok (.p (.bool (if neg then !(a == b) else (a == b)))) S := rfl
@[simp] theorem eqZ_i {neg : Bool} {a b : Int} : opEqZ neg (.p (.int a)) (.p (.int b)) S = .ok (.p (.bool (if neg then !(a == b) else (a == b)))) S := rfl
@[simp] theorem eqZ_b {neg : Bool} {a b : Bool} : opEqZ neg (.p (.bool a)) (.p (.bool b)) S = .ok (.p (.bool (if neg then !(a == b) else (a == b)))) S := rfl
@[simp] theorem eqZ_t0 {neg : Bool} {xs : List PyData} : opEqZ neg (.p (.tuple xs)) (.p (.tuple [])) S = .ok (.p (.bool (if neg then !xs.isEmpty else xs.isEmpty))) S := rfl
theorem eqZ_t {neg : Bool} {xs ys : List PyData} : opEqZ neg (.p (.tuple xs)) (.p (.tuple ys)) S = opEqX neg (.p (.tuple xs)) (.p (.tuple ys)) S := rfl
@[simp] theorem sMatch_ {arms : List (Arm × FS)} : sMatch f arms ρ S = (f ρ S).st ρ fun d S1 => match d with
  | .p (.str x) => armGo x arms ρ S1
  | _ => none := rfl
@[simp] theorem armGo_nil {x : Str} : armGo x [] ρ S = some (.next ρ, S) := rfl
@[simp] theorem eIce_ : eIce f ρ S = (f ρ S).bind fun d S1 => .ok (iceD d S1).1 (iceD d S1).2 := rfl
@[simp] theorem iceD_p {x : PyData} : iceD (.p x) S = (.p x, S) := rfl
@[simp] theorem max2_ {i j : Int} : max2M [.p (.int i), .p (.int j)] S = .ok (.p (.int (if j > i then j else i))) S := rfl
@[simp] theorem min2_ {i j : Int} : min2M [.p (.int i), .p (.int j)] S = .ok (.p (.int (if j < i then j else i))) S := rfl
@[simp] theorem mkLstM0 : mkLstM [] S = .ok (.ob S.length) (S ++ [.lst []]) := rfl
@[simp] theorem iA_ {m : List D → M (List D)} : iA m fa ρ S = (fa ρ S).bind m := rfl
end
section
variable {c : DrC} {cs : List PyData} {i L : Nat} {n m : Int} {S : Sto} {Q : D → Sto → Prop} {X : Exn → Sto → Prop}
def pickBX (dr : List D → M D) : FS := (sRet (e2 opSubs (eVar 1) (eCallX 2 dr (aCons (eVar 0) (aCons (eA lenM (aCons (eVar 1) aNil)) aNil)))))
end
end DL
namespace DL
open PySem L2 PySem.Spec PyProof.Rows
set_option maxHeartbeats 1000000 in
theorem meets_enum1 {v : Value} {o : Obj} {H : Heap → Prop} (B : Begins v o H) :
    Meets (Builtin.«enumerate.__new__» ⟨[.type "enumerate", v], []⟩) (fun _ R s => H s.heap ∧
      R (.ok (.ret (.ref (s.heap.push o).objs.size))) { s with heap := (s.heap.push o).push { cls := .type "enumerate", data := .fields #[.none, .bool false, .ref s.heap.objs.size, rawInt 0, .none, .none] } }) :=
  .of_wp fun prog w A R s h => by
    obtain ⟨hp, g, d, tk, os⟩ := s; obtain ⟨h1, h⟩ := h
    have hsub := sub_enumerate
    have q1 : ∀ {A' : Around} {E : Value → Shared → Prop} {Q : Value → Shared → Prop}, Q (.ref hp.objs.size) ⟨hp.push o, g, d, tk, os⟩ → wpAny (model prog w) A' (pyIter v) Q E ⟨hp, g, d, tk, os⟩ :=
      fun q => B.iter prog w _ _ ⟨hp, g, d, tk, os⟩ _ h1 q
    wp_walk using q1
    refine wpAny_stack_any fun st => wpAny_pure ?_
    split
    · rename_i c _ _ _ _ _
      cases (c == Value.type "enumerate")
      · wp_walk using q1
        exact ⟨_, rfl, h⟩
      · wp_walk using q1
        exact ⟨_, rfl, h⟩
    · wp_walk using q1
      exact ⟨_, rfl, h⟩
theorem enum_begins1 {prog : Program} {w : World} {A : Around} {E : Value → Shared → Prop} {s : Shared} {v : Value} {o : Obj} {H : Heap → Prop} {Q : Value → Shared → Prop} (B : Begins v o H) (h1 : H s.heap)
    (h : ∀ h', IsEnum h' (s.heap.objs.size + 1) s.heap.objs.size 0 .none → h'.get? s.heap.objs.size = some o → h'.objs.size = s.heap.objs.size + 2 →
      (∀ b o, s.heap.get? b = some o → h'.get? b = some o) → Q (.ref (s.heap.objs.size + 1)) { s with heap := h' }) :
    wpAny (model prog w) A (call (.type "enumerate") [v]) Q E s := by
  refine callType_new F.called_enumerate (by decide) (F.typeCall_enumerate_1 _) (F.newCall_enumerate_1 _) (fun obj => F.args_object_init_2 obj _) F.entry_enumerate_new (meets_enum1 B) ⟨h1, ?_⟩
  have hz : (s.heap.push o).objs.size = s.heap.objs.size + 1 := Heap.size_push ..
  show _ ∧ _
  rw [hz]
  have he : IsEnum ((s.heap.push o).push { cls := .type "enumerate", data := .fields #[.none, .bool false, .ref s.heap.objs.size, rawInt 0, .none, .none] }) (s.heap.objs.size + 1) s.heap.objs.size 0 .none := by
    have := Heap.get?_push_size (s.heap.push o) (o := { cls := .type "enumerate", data := .fields #[.none, .bool false, .ref s.heap.objs.size, rawInt 0, .none, .none] }) rfl
    rw [hz] at this; exact this
  refine ⟨⟨_, he, rfl⟩, h _ he (Heap.get?_push_of_some _ (Heap.get?_push_size _ B.free)) (by rw [Heap.size_push, hz]) fun b o x => Heap.get?_push_of_some _ (Heap.get?_push_of_some _ x)⟩
/-- the tuple at a, each item in a new pair -/
def IteT (K : PySem.W.Frag) (a : Addr) : It :=
  ⟨fun i H => ∃ (xs : List V) (x : V), SqT K H a xs ∧ xs[i]? = some x, fun i H v H' => ∃ T x, v = .ref T ∧ H T = none ∧ H' = upd H T (.tup [.int (i : Nat), x]) ∧ ∀ xs, SqT K H a xs → xs[i]? = some x, fun i H => ∃ xs : List V, SqT K H a xs ∧ xs.length = i⟩
theorem turn_enumT {P : Program} {w : World} {K : PySem.W.Frag} {elts : List Expr} {kk : Nat} {tpos : Pos} (a e it : Addr) :
    Turn P w K (.Tuple elts kk tpos) (IteT K a) [e, it] e (fun i h => (∃ old, IsEnum h e it ((i : Nat) : Int) old) ∧ h.IsTupleIter it a i ∧ e ≠ it ∧ e ≠ a ∧ it ≠ a) where
  mem := by simp
  obj := fun i h st b hb => by
    obtain ⟨⟨old, he⟩, ⟨o, ho, hc, hd⟩, _⟩ := st
    have e' : b = e ∨ b = it := by simpa using hb
    rcases e' with z | z
    · rw [z]; exact ⟨_, he, fun v q => nomatch q⟩
    · rw [z]; exact ⟨o, ho, fun v q => by rw [hd] at q; cases q⟩
  keep := fun i h h' st k => let ⟨⟨old, he⟩, hi, hne⟩ := st; ⟨⟨old, k e (by simp) _ he⟩, hi.at fun o q => k it (by simp) o q, hne⟩
  item := by
    intro X hP hw hK hc i pins s σ H E I hf st hg
    subst hP hw hK
    obtain ⟨⟨old, he⟩, hit, hne, hea, hia⟩ := st
    obtain ⟨xs, x, hq, hx⟩ := hg
    obtain ⟨its, rv, p, hz⟩ := I.tuple hq
    obtain ⟨u, hu, ru⟩ := rv.get hx
    have hel : e < s.heap.objs.size := Heap.lt_size he
    have hil : it < s.heap.objs.size := by obtain ⟨_, q, _⟩ := hit; exact Heap.lt_size q
    have hlt : i < its.toArray.size := by
      have := (List.getElem?_eq_some_iff.mp hu).1
      simpa using this
    refine wpAny_pyNext_enum_itemC (Draws.tuple (prog := X.prog) (w := X.w) (A := X.A.in1) (I.ok.hd hc) it a (Ne.symm hia) its.toArray) he ⟨hit, p⟩ hlt hne (by simp [hne, hea]) fun u' h' tk hP ho hst' hT hsz hk => ?_
    have eu : u' = u := by
      have h2 : its.toArray[i]? = some u := by simpa using hu
      rw [h2] at hP; cases hP; rfl
    subst eu
    refine ⟨_, rfl, wpAny_letOwnedTupleGo_enum (s := { s with heap := h', toks := tk + 1 }) ho fun h'' he' sb => ?_⟩
    have hT2 : h''.get? s.heap.objs.size = some { cls := .type "tuple", data := .seq #[.int i tk, u'] } := (sb.2 _ (Nat.ne_of_gt hel)).trans hT
    have new : ObjOk X.prog X.w (upd H s.heap.objs.size (.tup [.int (i : Nat), x])) h'' s.heap.objs.size (.tup [.int (i : Nat), x]) :=
      ⟨by show 2 ≤ sizeLine; decide, [.int i tk, u'], .cons ⟨_, rfl⟩ (.cons ru .nil), ⟨_, hT2, rfl, _, rfl⟩⟩
    have I1 : L2.Inv X pins σ (upd H s.heap.objs.size (.tup [.int (i : Nat), x])) { s with heap := h'', toks := tk + 1 } :=
      I.turnedNew (ch := [e, it]) (fun b ob hb q => (sb.2 b (fun z => hb (by simp [z]))).trans (hk b ob (fun z => hb (by simp [z])) (fun z => hb (by simp [z])) q)) hf (Nat.le_refl _) new
    refine ⟨.ref s.heap.objs.size, _, I1, rfl, ⟨_, x, rfl, I.hok.fresh (Nat.le_refl _), rfl, fun ys hy => by rw [I.tuple_inj hy hq]; exact hx⟩, ⟨⟨u', ?_⟩, hst'.1.at fun o q => (sb.2 it (Ne.symm hne)).trans q, hne, hea, hia⟩, fun b hb => ?_⟩
    · have e1 : ((i + 1 : Nat) : Int) = (i : Int) + 1 := by omega
      rw [e1]; exact he'
    · have hb' : b < s.heap.objs.size := by
        have e' : b = e ∨ b = it := by simpa using hb
        rcases e' with z | z
        · rw [z]; exact hel
        · rw [z]; exact hil
      rw [upd_ne (Nat.ne_of_lt hb')]
      exact (hf b hb).1
  done := by
    intro X hP hw hK hc i pins s σ H E I hf st hg
    subst hP hw hK
    obtain ⟨⟨old, he⟩, hit, hne, hea, hia⟩ := st
    obtain ⟨xs, hq, hx⟩ := hg
    obtain ⟨its, rv, p, hz⟩ := I.tuple hq
    obtain ⟨f0, f1, f2, f3, f4, f5⟩ := hf it (by simp)
    have hl := rv.length
    have hi : i = its.toArray.size := by simp; omega
    subst hi
    exact wpAny_pyNext_enum_endD (Draws.tuple (prog := X.prog) (w := X.w) (A := X.A.in1) (I.ok.hd hc) it a (Ne.symm hia) its.toArray) he ⟨hit, p⟩ fun h' eb => ⟨rfl, I.turned (t' := s.toks) (fun b o hb q => eb b o hb q) f0 f1 f3 f4 f5⟩
  self := fun A i s Q E st h => let ⟨⟨_, he⟩, _⟩ := st; wpAny_pyIter_enum he h
def iEnumX (K : PySem.W.Frag) (ta : TA) : TI := fun σ H R => ta σ H fun vs H1 => ∃ a xs, vs = [.ref a] ∧ ((SqT K H1 a xs ∧ R (IteT K a) H1) ∨ (SqL K H1 a xs ∧ R (Ite K a) H1))
theorem pi_enumX {X : Cx} {e : Expr} {ta : TA} {p pos tpos : Pos} {elts : List Expr} {kk : Nat} (hg : Gl X "enumerate") (hm : X.mg "enumerate" = none) (ha : PA X [e] ta) (hs : starEach [e] X.env = [(false, eval e X.env)] := by rfl) :
    PI X (.Tuple elts kk tpos) (.Call (.Name "enumerate" p) [e] [] pos) (iEnumX X.K ta) := by
  refine ⟨fun pins s σ H R I h => ?_⟩
  refine Call_ (ld_blt I hg hm boot_enumerate (PyProof.Rows.callWith_type1 (thn (ha.run pos pins s σ H _ I h) fun us s1 ⟨vs, H1, I1, r1, q1⟩ => ?_) hs rfl))
  obtain ⟨a, xs, ex, q⟩ := q1
  subst ex
  cases r1 with
  | cons r rr =>
    cases rr
    cases r
    have fp : ∀ b ∈ [s1.heap.objs.size + 1, s1.heap.objs.size], FpOk X pins H1 b := fun b hb => by
      have e' : b = s1.heap.objs.size + 1 ∨ b = s1.heap.objs.size := by simpa using hb
      have hle : s1.heap.objs.size ≤ b := by
        rcases e' with z | z
        · rw [z]; exact Nat.le_add_right _ _
        · rw [z]; exact Nat.le_refl _
      exact I1.fpOk hle (I1.hok.fresh hle)
    rcases q with ⟨hq, q⟩ | ⟨hq, q⟩
    · obtain ⟨its, rv, p', hz⟩ := I1.tuple hq
      have hal : a < s1.heap.objs.size := by obtain ⟨_, q, _⟩ := p'; exact Heap.lt_size q
      refine enum_begins1 (begins_tuple a its.toArray) p' fun h' he hit hsz hk => wpAny_pyIter_enum he ?_
      have I2 : L2.Inv X pins σ H1 { s1 with heap := h' } := I1.kept (t' := s1.toks) hk
      exact ⟨s1.heap.objs.size + 1, [s1.heap.objs.size + 1, s1.heap.objs.size], _, _, H1, rfl, I2, turn_enumT a (s1.heap.objs.size + 1) s1.heap.objs.size, ⟨⟨.none, he⟩, ⟨_, hit, rfl, rfl⟩, Nat.succ_ne_self _, Nat.ne_of_gt (Nat.lt_succ_of_lt hal), Nat.ne_of_gt hal⟩, fp, q⟩
    · obtain ⟨its, rv, p', hz⟩ := I1.list hq
      refine call_enumerate_list p'.isList fun h' he hit hsz hk => wpAny_pyIter_enum he ?_
      have I2 : L2.Inv X pins σ H1 { s1 with heap := h' } := I1.kept (t' := s1.toks) hk
      exact ⟨s1.heap.objs.size + 1, [s1.heap.objs.size + 1, s1.heap.objs.size], _, _, H1, rfl, I2, turn_enum a (s1.heap.objs.size + 1) s1.heap.objs.size, ⟨⟨.none, he⟩, hit, Nat.succ_ne_self _⟩, fp, q⟩
theorem gives_enumT {K : PySem.W.Frag} {H : Hp} {G : Gh} {S : Sto} {a : Addr} {vs : List V} {xs : List PyData} (rp : Rep K H G S) (fa : SqT K H a vs) (ta : DnAll K G.φ H xs vs) : Gives K (IteT K a) H G S (enumP 0 xs) where
  go := fun H1 G1 S1 x r i hi => by
    rw [enumP_len, ta.length] at hi
    exact ⟨vs, vs[i], x.tup rp fa, by simp⟩
  yld := fun H1 G1 S1 x r i d e v H' y => by
    obtain ⟨T, u, rfl, hT, rfl, y1⟩ := y
    have e1 := y1 vs (x.tup rp fa)
    obtain ⟨d1, ed1, dn1⟩ := (x.dnAll rp ta).getV e1
    obtain ⟨x', h1, rfl⟩ := enumP_get 0 xs i d e
    rw [ed1] at h1; cases h1
    have e0 : ((0 + i : Nat) : Int) = (i : Int) := by rw [Nat.zero_add]
    rw [e0]
    obtain ⟨p1, p2, p3⟩ := pair_new r hT (Dn.int (i : Int)) dn1
    exact ⟨p1, p2, p3, .inr ⟨T, _, hT, rfl⟩⟩
  stop := fun H1 G1 S1 x r => by
    rw [enumP_len, ta.length]
    exact ⟨vs, x.tup rp fa, rfl⟩
def enumXM : List D → M (List D) := fun ds S => match ds with
  | [.p (.list xs)] => .ok (enumP 0 xs) S
  | [.p (.tuple xs)] => .ok (enumP 0 xs) S
  | _ => .bad
theorem di_enumX {X : Cx} {W : WX} {a : Expr} {p pos : Pos} {fa : FA} {tpos : Pos} {elts : List Expr} {kk : Nat} (hg : Gl X "enumerate") (hm : X.mg "enumerate" = none) (ha : DA X W [a] fa) (hs : starEach [a] X.env = [(false, eval a X.env)] := by rfl) :
    DI X W (.Tuple elts kk tpos) (.Call (.Name "enumerate" p) [a] [] pos) (iA enumXM fa) := by
  refine ⟨PI.imp (pi_enumX hg hm ha.run hs) fun σ H R ⟨G, S, ρ, rs, rp, q⟩ => ⟨G, S, ρ, rs, rp, (Aft.bind q).mono fun ds H1 G1 S1 x1 r1 q1 vs dv => ?_⟩⟩
  unfold enumXM at q1
  split at q1
  · obtain ⟨v, rfl, d1⟩ := denL1 dv
    obtain ⟨a, vs, rfl, fa, ta⟩ := den_lst d1
    exact ⟨a, vs, rfl, .inr ⟨SqL.of (fa _ r1.phi), q1 H1 G1 Ext.refl r1 _ (gives_enum r1 fa ta)⟩⟩
  · obtain ⟨v, rfl, d1⟩ := denL1 dv
    obtain ⟨a, vs, rfl, hq, ta⟩ := den_tup d1
    exact ⟨a, vs, rfl, .inl ⟨hq, q1 H1 G1 Ext.refl r1 _ (gives_enumT r1 hq ta)⟩⟩
  · exact q1.elim
@[simp] theorem enumXM_t {xs : List PyData} {S : Sto} : enumXM [.p (.tuple xs)] S = .ok (enumP 0 xs) S := rfl
@[simp] theorem enumXM_l {xs : List PyData} {S : Sto} : enumXM [.p (.list xs)] S = .ok (enumP 0 xs) S := rfl
end DL
namespace DL
open PySem L2
def opAddX : D → D → M D := fun x y S => match lstOf S x, lstOf S y with
  | some xs, some ys => if xs.length + ys.length ≤ LIM then .ok (.p (.list (xs ++ ys))) S else .bad
  | _, _ => opAdd x y S
theorem sim_addX {K : PySem.W.Frag} : Sim2 K (rAddD K) opAddX := by
  intro W σ H G S x y v w Q rp dx dy q
  unfold opAddX at q
  split at q
  · rename_i xs ys e1 e2
    obtain ⟨a, vs, rfl, ha, ta⟩ := lstOf_den rp e1 dx
    obtain ⟨b, ws, rfl, hb, tb⟩ := lstOf_den rp e2 dy
    by_cases c : xs.length + ys.length ≤ LIM
    · rw [if_pos c] at q
      exact .inr (.inr (.inl ⟨a, b, vs, ws, rfl, rfl, ha, hb, by rw [← ta.length, ← tb.length]; exact Nat.le_trans c LIM_le, fun p hp => q.newLst rp (ta.append tb) hp⟩))
    · rw [if_neg c] at q; exact q.elim
  · exact sim_add W σ H G S x y v w Q rp dx dy q
theorem de_addX {X : Cx} {W : WX} {a b : Expr} {f h : FE} {pos : Pos} (ha : DE X W a f) (hb : DE X W b h) : DE X W (.BinOp a .Add b pos) (e2 opAddX f h) :=
  de_bin (op_add.or (op_add_str.or (op_cat.or op_catA))) sim_addX ha hb
@[simp] theorem opAddX_i {i j : Int} {S : Sto} : opAddX (.p (.int i)) (.p (.int j)) S = .ok (.p (.int (i + j))) S := rfl
theorem addX_s {i j : Str} {S : Sto} (h : i.length + j.length ≤ LIM) : opAddX (.p (.str i)) (.p (.str j)) S = .ok (.p (.str (i ++ j))) S := add_s h
theorem addX_t {i j : List PyData} {S : Sto} (h : i.length + j.length ≤ LIM) : opAddX (.p (.tuple i)) (.p (.tuple j)) S = .ok (.p (.tuple (i ++ j))) S := add_t h
theorem addX_l {i j : List PyData} {S : Sto} (h : i.length + j.length ≤ LIM) : opAddX (.p (.list i)) (.p (.list j)) S = .ok (.p (.list (i ++ j))) S := by simp [opAddX, lstOf, h]
/-- but for the object i the store is as before -/
def Oth (i : Nat) (S S' : Sto) : Prop := ∀ j, j ≠ i → S'[j]? = S[j]?
theorem Oth.refl {i : Nat} {S : Sto} : Oth i S S := fun _ _ => rfl
theorem Oth.trans {i : Nat} {S S1 S2 : Sto} (a : Oth i S S1) (b : Oth i S1 S2) : Oth i S S2 := fun j hj => (b j hj).trans (a j hj)
section
variable {c : DrC} {cs : List PyData} {i L : Nat} {n m : Int} {S : Sto} {Q : D → Sto → Prop} {X : Exn → Sto → Prop}
theorem drawK_ok (hc0 : c.ok) (hc : Cells cs) (h : Tape cs i L n S) (hn : n ≤ 1000000000000) (hm : 0 < m) (hm2 : m.natAbs.log2 < 9000) :
    ∃ g S', runF 6 (drawB2 c) [.ob i, .p (.int m)] S = .ok (.p (.int g)) S' ∧ 0 ≤ g ∧ g < m ∧ Tape cs i L (n + 1) S' ∧ Oth i S S' := by
  obtain ⟨hl, p, l, h0, h1, hS⟩ := h
  obtain ⟨g, p', l', a, b, c', d, e⟩ := drawB2_ok hc0 hc.1 hc.2 hS h0 (by omega) hm hm2
  refine ⟨g, _, e, a, b, ⟨by rw [List.length_set]; exact hl, p', l', c', by omega, tp_at hS⟩, fun j hj => ?_⟩
  rw [List.getElem?_set_ne (Ne.symm hj)]
theorem drawK_wp (hc0 : c.ok) (hc : Cells cs) (h : Tape cs i L n S) (hn : n ≤ 1000000000000) (hm : 0 < m) (hm2 : m.natAbs.log2 < 9000)
    (q : ∀ g S', 0 ≤ g → g < m → Tape cs i L (n + 1) S' → Oth i S S' → Q (.p (.int g)) S') : wp (cutX S.length (runF 6 (drawB2 c) [.ob i, .p (.int m)] S)) Q X := by
  obtain ⟨g, S', e, a, b, c, o⟩ := drawK_ok hc0 hc h hn hm hm2
  rw [e, cutX_same (c.1.trans h.1.symm)]
  exact q g S' a b c o
theorem pickK_wp (hc0 : c.ok) {xs : List PyData} (hc : Cells cs) (h : Tape cs i L n S) (hn : n ≤ 1000000000000) (hx : xs ≠ []) (hx2 : xs.length < 1000000)
    (q : ∀ d S', d ∈ xs → Tape cs i L (n + 1) S' → Oth i S S' → Q (.p d) S') : wp (cutX S.length (runF 2 (pickBX (runF 6 (drawB2 c))) [.ob i, .p (.list xs)] S)) Q X := by
  have hl : 0 < xs.length := List.length_pos_iff.mpr hx
  refine wp_cutXS ?_
  rw [wp_run]
  show wpS (pickBX (runF 6 (drawB2 c)) [some (.ob i), some (.p (.list xs))] S) _
  unfold pickBX
  simp
  refine drawK_wp hc0 hc h hn (by omega) (by
    have := lg (n := ((xs.length : Int)).natAbs) (k := 40) (by have : (2 : Nat) ^ 40 = 1099511627776 := by decide
                                                               omega) (by decide)
    omega) fun g S' g0 g1 t o => ?_
  obtain ⟨d, e2, hd⟩ := atI_ok g0 g1
  simp [subs_l e2]
  exact ⟨t.1.trans h.1.symm, q d S' hd t o⟩
end
section
variable {ρ : Ev} {S : Sto} {i : Nat} {xs ys : List PyData} {y : PyData} {m : D → List D → M D} {f : FE} {fa : FA}
@[simp] theorem eLm_ : eLm m f fa ρ S = (f ρ S).bind fun o S1 => match rlOf S1 o with
  | some _ => (fa ρ S1).bind fun ds S2 => m o ds S2
  | none => .bad := rfl
theorem rlOf_ob (h : S[i]? = some (.lst xs)) : rlOf S (.ob i) = some xs := by simp [rlOf, h]
theorem append_ok (h : S[i]? = some (.lst xs)) (hl : xs.length < 1000000) : appendM (.ob i) [.p y] S = .ok (.p .none) (S.set i (.lst (xs ++ [y]))) := by simp [appendM, h, LIM, hl]
theorem extend_ok (h : S[i]? = some (.lst xs)) (hl : xs.length + ys.length ≤ 1000000) : extendM (.ob i) [.p (.list ys)] S = .ok (.p .none) (S.set i (.lst (xs ++ ys))) := by simp [extendM, h, lstOf, LIM, hl]
theorem pop_ok (h : S[i]? = some (.lst (xs ++ [y]))) : popM (.ob i) [] S = .ok (.p y) (S.set i (.lst xs)) := by simp [popM, h]
theorem popAt_ok {k : Nat} (h : S[i]? = some (.lst xs)) (hk : k ≤ 1000000) (hy : xs[k]? = some y) : popM (.ob i) [.p (.int k)] S = .ok (.p y) (S.set i (.lst (xs.eraseIdx k))) := by
  have : (k : Int) ≤ 1000000 := by omega
  simp [popM, h, this, hy]
theorem Tape.set {cs : List PyData} {t L : Nat} {n : Int} {o : MO} (h : Tape cs t L n S) (hi : i ≠ t) : Tape cs t L n (S.set i o) := by
  obtain ⟨a, p, l, b, c, d⟩ := h
  exact ⟨by rw [List.length_set]; exact a, p, l, b, c, by rw [List.getElem?_set_ne hi]; exact d⟩
theorem Tape.app {cs : List PyData} {t L : Nat} {n : Int} {o : MO} (h : Tape cs t L n S) (ht : t < L) : Tape cs t (L + 1) n (S ++ [o]) := by
  obtain ⟨a, p, l, b, c, d⟩ := h
  exact ⟨by rw [List.length_append, a]; rfl, p, l, b, c, by rw [List.getElem?_append_left (by omega)]; exact d⟩
theorem Tape.cut {cs : List PyData} {t L L' : Nat} {n : Int} (h : Tape cs t L' n S) (ht : t < L) (hl : L ≤ L') : Tape cs t L n (S.take L) := by
  obtain ⟨a, p, l, b, c, d⟩ := h
  exact ⟨by rw [List.length_take, a]; omega, p, l, b, c, by rw [List.getElem?_take, if_pos ht]; exact d⟩
end
end DL
namespace DL
open PySem L2 PySem.Spec PyProof.Rows
def ItX : Bool → Heap → Addr → Addr → Nat → Prop
  | true, h, it, a, i => h.IsListIter it a i
  | false, h, it, a, i => h.IsTupleIter it a i
theorem ItX.at {b : Bool} {h h' : Heap} {it a : Addr} {i : Nat} (x : ItX b h it a i) (hk : ∀ o, h.get? it = some o → h'.get? it = some o) : ItX b h' it a i := by
  cases b
  · exact Heap.IsTupleIter.at (h := h) x hk
  · exact Heap.IsListIter.at (h := h) x hk
/-- the items of a frozen list or of a tuple -/
def seqX : D → Option (Bool × List PyData)
  | .p (.list xs) => some (true, xs)
  | .p (.tuple xs) => some (false, xs)
  | _ => none
def zipXM : List D → M (List D) := fun ds S => match ds with
  | [d, e] => match seqX d, seqX e with
    | some (_, xs), some (_, ys) => .ok (zipP xs ys) S
    | _, _ => .bad
  | _ => .bad
@[simp] theorem zipXM_ll {xs ys : List PyData} {S : Sto} : zipXM [.p (.list xs), .p (.list ys)] S = .ok (zipP xs ys) S := rfl
@[simp] theorem zipXM_tt {xs ys : List PyData} {S : Sto} : zipXM [.p (.tuple xs), .p (.tuple ys)] S = .ok (zipP xs ys) S := rfl
@[simp] theorem zipXM_tl {xs ys : List PyData} {S : Sto} : zipXM [.p (.tuple xs), .p (.list ys)] S = .ok (zipP xs ys) S := rfl
@[simp] theorem zipXM_lt {xs ys : List PyData} {S : Sto} : zipXM [.p (.list xs), .p (.tuple ys)] S = .ok (zipP xs ys) S := rfl
end DL
namespace DL
open PySem L2 PySem.Spec PyProof.Rows
def putS (j : Nat) (kd y : D) (S : Sto) : Option Sto := match S[j]?, kd, y with
  | some (.dic kvs), .p k, .p v => match pyKey k with
    | some k' => if kvs.length < LIM then some (S.set j (.dic (putD kvs k' v))) else none
    | none => none
  | _, _, _ => none
def dcD (j : Nat) (g : FG) (t : FT) (k e : FE) (ρ : Ev) : List D → M Unit
  | [] => fun S => .ok () S
  | d :: r => fun S => match g d ρ S with
    | none => .bad
    | some (ρ1, S1) => (t ρ1 S1).bind fun b S2 => if b = true then (k ρ1 S2).bind (fun kd S3 => (e ρ1 S3).bind fun y S4 => match putS j kd y S4 with
        | some S5 => dcD j g t k e ρ r S5
        | none => .bad) else dcD j g t k e ρ r S2
def dc2D (j : Nat) (g : FG) (t : FT) (f1 : FI) (g1 : FG) (t1 : FT) (k e : FE) (vs1 : List Nat) (ρ : Ev) : List D → M Unit
  | [] => fun S => .ok () S
  | d :: r => fun S => match g d ρ S with
    | none => .bad
    | some (ρ1, S1) => (t ρ1 S1).bind fun b S2 => if b = true then (f1 ρ1 S2).bind (fun ds1 S3 => (dcD j g1 t1 k e (wipeD ρ1 vs1) ds1 S3).bind fun _ S4 => dc2D j g t f1 g1 t1 k e vs1 ρ r S4) else dc2D j g t f1 g1 t1 k e vs1 ρ r S2
def finDO (j : Nat) : M D := fun S => .ok (.ob j) S
def eDc (f : FI) (g : FG) (t : FT) (k e : FE) (vs : List Nat) (fin : Nat → M D) : FE := fun ρ S => (f ρ S).bind fun ds S1 => (noErr (dcD S1.length g t k e (wipeD ρ vs) ds (S1 ++ [.dic []]))).bind fun _ S2 => fin S1.length S2
def eDc2 (f : FI) (g : FG) (t : FT) (f1 : FI) (g1 : FG) (t1 : FT) (k e : FE) (vs vs1 : List Nat) (fin : Nat → M D) : FE := fun ρ S => (f ρ S).bind fun ds S1 => (noErr (dc2D S1.length g t f1 g1 t1 k e vs1 (wipeD ρ vs) ds (S1 ++ [.dic []]))).bind fun _ S2 => fin S1.length S2
theorem Gives.ext {K : PySem.W.Frag} {J : It} {H0 H1 : Hp} {G0 G1 : Gh} {S0 S1 : Sto} {ds : List D} (g : Gives K J H0 G0 S0 ds) (x : Ext H0 G0 S0 H1 G1 S1) : Gives K J H1 G1 S1 ds :=
  ⟨fun H G S x' => g.go H G S (x.trans x'), fun H G S x' => g.yld H G S (x.trans x'), fun H G S x' => g.stop H G S (x.trans x')⟩
end DL
namespace DL
open PySem L2 PySem.Spec PyProof.Rows PySem.W
section
variable {prog : Program} {w : World} {A : Around} {E : Value → Shared → Prop} {s : Shared} {T : String} {r d : Addr} {n : Nat} {P : Nat → Value → Prop} {OK : Heap → Prop}
theorem code_tuple_src {Q₁ : Value → Shared → Prop} (K : KdlSrc prog w T r d n P OK) (hh : A.handled = none) (hok : OK s.heap) (hn : n ≤ sizeLine)
    (h : ∀ (h' : Heap) (tk : Nat) (acc : Array Value), (∀ b o, s.heap.get? b = some o → h'.get? b = some o) → ItemsOf P acc n →
      Q₁ (.ref h'.objs.size) { s with heap := h'.push { cls := .type "tuple", data := .seq acc }, toks := tk }) :
    codeAny (model prog w) A (.call (.builtin "tuple.__new__") ⟨[.type "tuple", .ref r], []⟩) (wants Q₁ E) s := by
  refine codeAny_of_tree ?_
  show wpAny _ A.in1 (do checkBuiltinCall "tuple.__new__" ⟨[.type "tuple", .ref r], []⟩; again (.builtin "tuple.__new__" ⟨[.type "tuple", .ref r], []⟩)) _ _ s
  refine wpAny_bind (wpAny_of_eq (PySem.F.newCall_tuple_1 _) (wpAny_pure ⟨plainId_quiet PySem.F.plain_tuple_new _, codeAny_builtin PySem.F.entry_tuple_new ?_⟩))
  rw [Around.under_plainId PySem.F.plain_tuple_new _]
  have hsub := sub_tuple_self
  have hinit := init_tuple_lookup
  have hmh := madeHere_tuple
  have hTI : s.TypeIs (.ref r) T := K.type s hok
  have hh1 : A.in1.handled = none := hh
  have hnt := K.notTuple
  have hc : ∀ {R : List Value → Shared → Prop} {E' : Value → Shared → Prop}, (∀ (h' : Heap) (tk : Nat) (acc : Array Value), (∀ b o, s.heap.get? b = some o → h'.get? b = some o) → ItemsOf P acc n → R acc.toList { s with heap := h', toks := tk }) → wpAny (model prog w) A.in1 (collect (.ref r)) R E' s := fun q => kdu_collect (A := A.in1) K hh1 hok hn q
  wp_walk using wpAny_typeOf hTI, hc
  intro h' tk acc hk hacc
  show wpAny _ _ (Builtin.Tuple.tupleExact acc.toList.toArray >>= fun v => ret v) _ _ _
  unfold Builtin.Tuple.tupleExact
  refine wpAny_bind (wpAny_newObj_type ?_ (by show acc.toList.toArray.size ≤ sizeLine; simp only [Array.toArray_toList]; rw [hacc.1]; exact hn))
  refine wpAny_pure ?_
  have e : acc.toList.toArray = acc := by simp
  rw [e]
  exact h h' tk acc hk hacc
theorem call_tuple_src {Q : Value → Shared → Prop} (K : KdlSrc prog w T r d n P OK) (hh : A.handled = none) (hok : OK s.heap) (hn : n ≤ sizeLine)
    (hQ : ∀ (h' : Heap) (tk : Nat) (acc : Array Value), (∀ b o, s.heap.get? b = some o → h'.get? b = some o) → ItemsOf P acc n →
      Q (.ref h'.objs.size) { s with heap := h'.push { cls := .type "tuple", data := .seq acc }, toks := tk }) :
    wpAny (model prog w) A (call (.type "tuple") [.ref r]) Q E s := by
  refine callType_codes (Q₁ := fun obj s₁ => s₁.TypeIs obj "tuple" ∧ Q obj s₁) PySem.F.called_tuple (PySem.F.typeCall_tuple_1 _) PySem.F.entry_object_init
    (code_tuple_src (A := A.in1) K hh hok hn fun h' tk acc hk hacc => ⟨⟨_, Heap.get?_push_size _ rfl, rfl⟩, hQ h' tk acc hk hacc⟩) fun obj s₁ h₁ => ?_
  exact ⟨h₁.1, PySem.F.args_object_init_2 obj _, object_init_meets PySem.F.called_tuple.init.lookup PySem.F.called_tuple.made (by decide) prog w A.in1 _ s₁ ⟨h₁.1, rfl, h₁.2⟩⟩
end
def rTupleD : List V → Hp → VK → Prop := fun xs H Q => ∃ p kvs, xs = [.ref p] ∧ Rd H p (.dK kvs) ∧ ∀ q, H q = none → Q (.ref q) (upd H q (.tup (kvs.map fun kv => kV kv.1)))
theorem call_tuple_dK {X : Cx} (hc : X.calm = true) : CallR X (.type "tuple") rTupleD := by
  intro pins s σ H xs us Q I r h
  obtain ⟨p, kvs, e, hk, q⟩ := h
  subst e
  obtain ⟨u, eu, rx⟩ := vals1 r
  subst eu
  obtain rfl : u = Value.ref p := rx
  obtain ⟨z, lo, vs, rk, hd⟩ := (show ObjOk X.prog X.w H s.heap p (.dK kvs) from hk.ok I.hok)
  obtain ⟨ep, hat⟩ := hd.dictAt
  have hl : kvs.length = vs.length := Paired.length rk
  refine call_tuple_src (PySem.W.kdl_dict (knd := mixKind X.prog X.w) (kvs := vs) (ep := ep) lo) (I.ok.hd hc) hat (by rw [← hl]; exact z) fun h' tk acc' hkeep hacc => ?_
  have I2 : L2.Inv X pins σ H { s with heap := h', toks := tk } := I.kept hkeep
  refine ⟨.ref h'.objs.size, upd H h'.objs.size (.tup (kvs.map fun kv => kV kv.1)), I2.laid (t' := tk) (fun c o e => Heap.get?_push_of_some _ e) (Nat.le_refl _) (show ObjOk X.prog X.w _ _ _ (.tup (kvs.map fun kv => kV kv.1)) from ⟨?_, acc'.toList, ?_, ?_⟩), rfl, q _ (I2.hok.fresh (Nat.le_refl _))⟩
  · rw [List.length_map]; exact z
  · have el : acc'.toList.length = acc'.size := by simp
    refine vals_of_at (by rw [List.length_map, el, hacc.1, hl]) fun j x w h1 h2 => ?_
    obtain ⟨k, y, hky, hi⟩ := hacc.2 j w (by rw [← Array.getElem?_toList]; exact h2)
    have e1 : (kvs.map (·.1))[j]? = some k := by
      rw [KV.keys rk, List.getElem?_map, hky] <;> rfl
    have e2 : (kvs.map fun kv => kV kv.1)[j]? = some (kV k) := by
      have e3 : (kvs.map fun kv => kV kv.1) = (kvs.map (·.1)).map kV := by rw [List.map_map] <;> rfl
      rw [e3, List.getElem?_map, e1] <;> rfl
    rw [e2] at h1
    cases h1
    exact keyIs_rel hi
  · rw [Array.toArray_toList]; exact IsTup.new _ _
/-- the keys as items -/
theorem keys_dn {K : PySem.W.Frag} {φ : List (Addr × HO)} {H : Hp} : ∀ {kvs : List (Key × PyData)} {ws : List (Key × V)}, KvR K φ H kvs ws → DnAll K φ H (kvs.map fun kv => keyPy kv.1) (ws.map fun kv => kV kv.1) := by
  intro kvs ws r
  have e : (kvs.map fun kv => keyPy kv.1) = (kvs.map (·.1)).map keyPy := by rw [List.map_map]; rfl
  have e2 : (ws.map fun kv => kV kv.1) = (ws.map (·.1)).map kV := by rw [List.map_map]; rfl
  rw [e, e2, r.ks]
  generalize ws.map (·.1) = ks
  induction ks with
  | nil => exact .nil
  | cons k ks ih =>
    refine .cons ?_ ih
    cases k with
    | inl i => exact Dn.int i
    | inr z => exact Dn.str z
def tupleXM : List D → M D := fun ds S => match ds with
  | [.p (.tuple xs)] => .ok (.p (.tuple xs)) S
  | [d] => match lstOf S d with
    | some xs => .ok (.p (.tuple xs)) S
    | none => match dicOf S d with
      | some kvs => .ok (.p (.tuple (kvs.map fun kv => keyPy kv.1))) S
      | none => .bad
  | _ => .bad
def listXM (fin : List PyData → M D) : List D → M D := fun ds S => match ds with
  | [d] => match seqOf S d with
    | some xs => fin xs S
    | none => match dicOf S d with
      | some kvs => fin (kvs.map fun kv => keyPy kv.1) S
      | none => .bad
  | _ => .bad
section
variable {X : Cx} {W : WX} {p pos : Pos} {e : Expr} {fa : FA}
theorem de_tupleX (hc : X.calm = true) (hg : Gl X "tuple") (hm : X.mg "tuple" = none) (ha : DA X W [e] fa) (he : starEach [e] X.env = (false, eval e X.env) :: starEach [] X.env := by rfl) : DE X W (.Call (.Name "tuple" p) [e] [] pos) (eA tupleXM fa) :=
  de_callTy (call_tuple_of.or (call_tuple_dK hc)) (by
    intro W σ H G S xs vs Q rp dv q
    unfold tupleXM at q
    split at q
    · obtain ⟨v, rfl, dv1⟩ := denL1 dv
      replace dv := dv1
      obtain ⟨a, us, rfl, hq, t⟩ := den_tup dv
      exact .inl ⟨a, us, rfl, .inr ⟨hq, q.ret rp dv⟩⟩
    · obtain ⟨v, rfl, dv1⟩ := denL1 dv
      replace dv := dv1
      split at q
      · rename_i xs es
        obtain ⟨a, us, rfl, hq, t⟩ := lstOf_den rp es dv
        exact .inl ⟨a, us, rfl, .inl ⟨SqL.of hq, fun l hl => Aft.newTup q rp t hl⟩⟩
      · split at q
        · rename_i kvs es
          obtain ⟨a, ws, rfl, hH, r⟩ := dicOf_den rp es dv
          exact .inr ⟨a, ws, rfl, hH, fun l hl => Aft.newTup q rp (keys_dn r) hl⟩
        · exact q.elim
    · exact q.elim) hg hm (by decide +kernel) ha (by decide) (by decide) he
def rListRd : List V → Hp → VK → Prop := fun xs H Q => ∃ (a : Addr) (kvs : List (Key × V)), xs = [.ref a] ∧ Rd H a (.dK kvs) ∧ ∀ p, H p = none → Q (.ref p) (upd H p (.lst (kvs.map fun kv => kV kv.1)))
theorem sim_listXL {K : PySem.W.Frag} : SimA K (fun xs H Q => rList K xs H Q ∨ rListRd xs H Q) (listXM finL) := by
  intro W σ H G S xs vs Q rp dv q
  unfold listXM at q
  split at q
  · obtain ⟨v, rfl, dv1⟩ := denL1 dv
    replace dv := dv1
    split at q
    · rename_i xs es
      obtain ⟨a, us, rfl, hq, t⟩ := seqOf_den rp es dv
      exact .inl ⟨a, us, rfl, hq, fun l hl => Aft.newLst q rp t hl⟩
    · split at q
      · rename_i kvs es
        obtain ⟨a, ws, rfl, hH, r⟩ := dicOf_den rp es dv
        exact .inr ⟨a, ws, rfl, hH, fun l hl => Aft.newLst q rp (keys_dn r) hl⟩
      · exact q.elim
  · exact q.elim
theorem sim_listXM {K : PySem.W.Frag} : SimA K (fun xs H Q => rList K xs H Q ∨ rListRd xs H Q) (listXM finM) := by
  intro W σ H G S xs vs Q rp dv q
  unfold listXM at q
  split at q
  · obtain ⟨v, rfl, dv1⟩ := denL1 dv
    replace dv := dv1
    split at q
    · rename_i xs es
      obtain ⟨a, us, rfl, hq, t⟩ := seqOf_den rp es dv
      exact .inl ⟨a, us, rfl, hq, fun l hl => Aft.newLstM q rp t hl⟩
    · split at q
      · rename_i kvs es
        obtain ⟨a, ws, rfl, hH, r⟩ := dicOf_den rp es dv
        exact .inr ⟨a, ws, rfl, hH, fun l hl => Aft.newLstM q rp (keys_dn r) hl⟩
      · exact q.elim
  · exact q.elim
theorem de_listX (hc : X.calm = true) (hg : Gl X "list") (hm : X.mg "list" = none) (ha : DA X W [e] fa) (he : starEach [e] X.env = (false, eval e X.env) :: starEach [] X.env := by rfl) : DE X W (.Call (.Name "list" p) [e] [] pos) (eA (listXM finL) fa) :=
  de_callTy (call_list_of.or (call_listD hc)) sim_listXL hg hm (by decide +kernel) ha (by decide) (by decide) he
theorem de_listXM (hc : X.calm = true) (hg : Gl X "list") (hm : X.mg "list" = none) (ha : DA X W [e] fa) (he : starEach [e] X.env = (false, eval e X.env) :: starEach [] X.env := by rfl) : DE X W (.Call (.Name "list" p) [e] [] pos) (eA (listXM finM) fa) :=
  de_callTy (call_list_of.or (call_listD hc)) sim_listXM hg hm (by decide +kernel) ha (by decide) (by decide) he
def revIM : D → M (List D) := fun d S => match d with
  | .p (.list xs) => .ok (xs.reverse.map .p) S
  | .p (.tuple xs) => .ok (xs.reverse.map .p) S
  | _ => .bad
def iRevM (f : FE) : FI := fun ρ S => (f ρ S).bind revIM
end
end DL
namespace DL
open PySem L2 PySem.Spec PyProof.Rows
end DL
namespace DL
open PySem L2 PySem.Spec PyProof.Rows
def wq (Inv : Ev → Sto → Prop) (R : Fl → Sto → Prop) : Fl → Sto → Prop := fun fl s => match fl with
  | .next ρ => Inv ρ s
  | .cont ρ => Inv ρ s
  | .brk ρ => R (.next ρ) s
  | .ret d => R (.ret d) s
  | .exc x ρ => R (.exc x ρ) s
section
variable {Inv : Ev → Sto → Prop} {R : Fl → Sto → Prop} {ρ : Ev} {s : Sto}
@[simp] theorem wq_next : wq Inv R (.next ρ) s = Inv ρ s := rfl
@[simp] theorem wq_cont : wq Inv R (.cont ρ) s = Inv ρ s := rfl
@[simp] theorem wq_brk : wq Inv R (.brk ρ) s = R (.next ρ) s := rfl
@[simp] theorem wq_ret {d : D} : wq Inv R (.ret d) s = R (.ret d) s := rfl
@[simp] theorem wq_exc {x : Exn} : wq Inv R (.exc x ρ) s = R (.exc x ρ) s := rfl
end
theorem whileD_wp {t : FT} {b : FS} {R : Fl → Sto → Prop} (Inv : Nat → Ev → Sto → Prop)
    (step : ∀ m ρ S, Inv m ρ S → wp (t ρ S) (fun c S1 => if c = true then ∃ m', m = m' + 1 ∧ wpS (b ρ S1) (wq (Inv m') R) else R (.next ρ) S1) (fun x s => R (.exc x ρ) s)) :
    ∀ {f m : Nat} {ρ : Ev} {S : Sto}, m < f → Inv m ρ S → wpS (whileD f t b ρ S) R
  | 0, m, ρ, S, hm, h => absurd hm (Nat.not_lt_zero _)
  | f + 1, m, ρ, S, hm, h => by
    unfold whileD
    rw [wpS_st]
    refine wp_mono (step m ρ S h) (fun c S1 hc => ?_) (fun _ _ h => h)
    cases c with
    | false =>
      rw [if_neg Bool.false_ne_true]
      rw [if_neg Bool.false_ne_true] at hc
      exact hc
    | true =>
      rw [if_pos rfl]
      rw [if_pos rfl] at hc
      obtain ⟨m', rfl, hb⟩ := hc
      cases e : b ρ S1 with
      | none => rw [e] at hb; exact hb.elim
      | some p =>
        obtain ⟨fl, S2⟩ := p
        rw [e] at hb
        cases fl with
        | next ρ' => exact whileD_wp Inv step (by omega) hb
        | cont ρ' => exact whileD_wp Inv step (by omega) hb
        | brk ρ' => exact hb
        | ret d => exact hb
        | exc x ρ' => exact hb
section
variable {f : FI} {g : FG} {t : FT} {f1 : FI} {g1 : FG} {t1 : FT} {k e : FE} {vs vs1 : List Nat} {fin : Nat → M D} {ρ : Ev} {S : Sto} {Q : D → Sto → Prop} {X : Exn → Sto → Prop}
@[simp] theorem eDc_ : eDc f g t k e vs fin ρ S = (f ρ S).bind fun ds S1 => (noErr (dcD S1.length g t k e (wipeD ρ vs) ds (S1 ++ [.dic []]))).bind fun _ S2 => fin S1.length S2 := rfl
@[simp] theorem eDc2_ : eDc2 f g t f1 g1 t1 k e vs vs1 fin ρ S = (f ρ S).bind fun ds S1 => (noErr (dc2D S1.length g t f1 g1 t1 k e vs1 (wipeD ρ vs) ds (S1 ++ [.dic []]))).bind fun _ S2 => fin S1.length S2 := rfl
@[simp] theorem finDO_ {j : Nat} : finDO j S = .ok (.ob j) S := rfl
@[simp] theorem iRevM_ {h : FE} : iRevM h ρ S = (h ρ S).bind revIM := rfl
@[simp] theorem revIM_t {xs : List PyData} : revIM (.p (.tuple xs)) S = .ok (xs.reverse.map .p) S := rfl
@[simp] theorem revIM_l {xs : List PyData} : revIM (.p (.list xs)) S = .ok (xs.reverse.map .p) S := rfl
@[simp] theorem tupleXM_t {xs : List PyData} : tupleXM [.p (.tuple xs)] S = .ok (.p (.tuple xs)) S := rfl
@[simp] theorem tupleXM_l {xs : List PyData} : tupleXM [.p (.list xs)] S = .ok (.p (.tuple xs)) S := rfl
@[simp] theorem listXM_l {fin : List PyData → M D} {xs : List PyData} : listXM fin [.p (.list xs)] S = fin xs S := rfl
@[simp] theorem listXM_t {fin : List PyData → M D} {xs : List PyData} : listXM fin [.p (.tuple xs)] S = fin xs S := rfl
end
end DL
namespace DL
open PySem L2 PySem.Spec PyProof.Rows
end DL
namespace DL
open PySem L2 PySem.Spec PyProof.Rows
def leS (x y : Str) : Prop := ¬ y.cps.toList < x.cps.toList
theorem leS_trans {x y z : Str} (h1 : leS x y) (h2 : leS y z) : leS x z := fun h => by
  have a := List.not_lt.mp h1
  have b := List.not_lt.mp h2
  exact absurd h (List.not_lt.mpr (List.le_trans a b))
theorem leS_anti {x y : Str} (h1 : leS x y) (h2 : leS y x) : x = y := by
  have e : x.cps.toList = y.cps.toList := List.le_antisymm (List.not_lt.mp h1) (List.not_lt.mp h2)
  obtain ⟨a⟩ := x
  obtain ⟨b⟩ := y
  have : a = b := by
    have := congrArg List.toArray e
    simpa using this
  rw [this]
def ltB (x y : Str) : Bool := decide (x.cps.toList < y.cps.toList)
/-- insertion -/
def insS (x : Str) : List Str → List Str
  | [] => [x]
  | y :: r => if ltB y x = true then y :: insS x r else x :: y :: r
def sortS : List Str → List Str
  | [] => []
  | x :: r => insS x (sortS r)
theorem insS_perm (x : Str) : ∀ l : List Str, (insS x l).Perm (x :: l)
  | [] => .refl _
  | y :: r => by
    unfold insS
    split
    · exact ((insS_perm x r).cons y).trans (.swap x y r)
    · exact .refl _
theorem sortS_perm : ∀ l : List Str, (sortS l).Perm l
  | [] => .refl _
  | x :: r => (insS_perm x (sortS r)).trans ((sortS_perm r).cons x)
theorem insS_pw {x : Str} : ∀ {l : List Str}, l.Pairwise leS → (insS x l).Pairwise leS
  | [], _ => by simp [insS]
  | y :: r, h => by
    obtain ⟨h1, h2⟩ := List.pairwise_cons.mp h
    unfold insS
    split
    · rename_i hlt
      have hyx : leS y x := by
        have : y.cps.toList < x.cps.toList := by simpa [ltB] using hlt
        exact fun h => absurd (List.lt_trans this h) (List.lt_irrefl _)
      refine List.pairwise_cons.mpr ⟨fun z hz => ?_, insS_pw h2⟩
      rcases List.mem_cons.mp ((insS_perm x r).mem_iff.mp hz) with rfl | hz
      · exact hyx
      · exact h1 z hz
    · rename_i hlt
      have hxy : leS x y := by
        have : ¬ y.cps.toList < x.cps.toList := by simpa [ltB] using hlt
        exact this
      refine List.pairwise_cons.mpr ⟨fun z hz => ?_, h⟩
      rcases List.mem_cons.mp hz with rfl | hz
      · exact hxy
      · exact leS_trans hxy (h1 z hz)
theorem sortS_pw : ∀ l : List Str, (sortS l).Pairwise leS
  | [] => .nil
  | x :: r => insS_pw (sortS_pw r)
theorem pw_of_rising : ∀ {l : List Str} {p : Str}, risingS p l = true → (p :: l).Pairwise leS
  | [], p, _ => by simp
  | x :: r, p, h => by
    have h : (!ltCps x.cps.toList p.cps.toList && risingS x r) = true := h
    simp only [Bool.and_eq_true, Bool.not_eq_true', ltCps_eq, decide_eq_false_iff_not] at h
    have ih := pw_of_rising h.2
    refine List.pairwise_cons.mpr ⟨fun z hz => ?_, ih⟩
    rcases List.mem_cons.mp hz with rfl | hz
    · exact h.1
    · exact leS_trans (show leS p x from h.1) ((List.pairwise_cons.mp ih).1 z hz)
theorem pw_of_sorted {l : List Str} (h : sortedS l = true) : l.Pairwise leS := by
  cases l with
  | nil => exact .nil
  | cons x r => exact pw_of_rising h
theorem perm_uniq : ∀ {l m : List Str}, l.Pairwise leS → m.Pairwise leS → l.Perm m → l = m
  | [], m, _, _, h => (List.nil_perm.mp h).symm
  | x :: l, [], _, _, h => absurd h (by simp)
  | x :: l, y :: m, h1, h2, h => by
    have e : x = y := by
      have hx : x ∈ y :: m := h.mem_iff.mp (by simp)
      have hy : y ∈ x :: l := h.mem_iff.mpr (by simp)
      rcases List.mem_cons.mp hx with hx | hx
      · exact hx
      · rcases List.mem_cons.mp hy with hy | hy
        · exact hy.symm
        · exact leS_anti ((List.pairwise_cons.mp h1).1 y hy) ((List.pairwise_cons.mp h2).1 x hx)
    subst e
    rw [perm_uniq (List.pairwise_cons.mp h1).2 (List.pairwise_cons.mp h2).2 (List.Perm.cons_inv h)]
theorem sortS_uniq {l ys : List Str} (hp : ys.Perm l) (hs : sortedS ys = true) : ys = sortS l :=
  perm_uniq (pw_of_sorted hs) (sortS_pw l) (hp.trans (sortS_perm l).symm)
end DL
namespace DL
open PySem L2
end DL
namespace DL
open PySem L2 PySem.Spec PyProof.Rows
abbrev lob (ts : List Value) (c : Nat) : Obj := { cls := .type "list", data := .seq ts.toArray c }
section
variable {prog : Program} {w : World} {A : Around} {R : Result → Shared → Prop} {I ax : Addr} {items : Array Value}
theorem sum_lists_loop (hh : A.in1.handled = none) (hxI : ax ≠ I) (S : Addr) (hSI : S ≠ I) (hSx : S ≠ ax) :
    ∀ (rest : List (Addr × List Value)) (i : Nat) (s : Shared) (T : Addr) (ts : List Value) (c cT : Nat), i + rest.length = items.size → (∀ j p, rest[j]? = some p → items[i + j]? = some (.ref p.1)) → s.heap.IsListIter I ax i → s.heap.IsList ax items →
    s.heap.get? S = some (lob [.ref T] c) → s.heap.get? T = some (lob ts cT) → T ≠ S → T ≠ I →
    (∀ p ∈ rest, p.1 ≠ I ∧ p.1 ≠ S ∧ ∃ cap, s.heap.get? p.1 = some (lob p.2 cap)) → ts.length + (rest.flatMap (·.2)).length ≤ sizeLine →
    (∀ h' T' c', (∀ b o, b ≠ I → b ≠ S → s.heap.get? b = some o → h'.get? b = some o) → (rest = [] → T' = T) → (rest ≠ [] → s.heap.objs.size ≤ T') → h'.get? T' = some (lob (ts ++ rest.flatMap (·.2)) c') → R (.ok (.ret (.ref T'))) { s with heap := h' }) →
    codeAny (model prog w) A (.builtin "sum.loop" ⟨[.ref I, .ref S, rawInt 2, rawInt 0], []⟩) R s := by
  intro rest
  induction rest with
  | nil =>
    intro i s T ts c cT hi hit hIt hAx hS hT hTS hTI hj hsz hR
    refine codeAny_builtin F.entry_sum_loop ?_
    rw [Around.under_plainId F.plain_sum_loop _]
    show wpAny _ A.in1 (seqItems? (.ref S) >>= _) _ _ s
    refine wpAny_bind (wpAny_seqItems hS rfl ?_)
    show wpAny _ A.in1 (tryCatch (pyNext (.ref I)) _ >>= _) _ _ s
    refine wpAny_bind (wpAny_tryCatch (wpAny_pyNext_list_end hh hIt hAx (by simp at hi; simp [hi]) fun h' hk' => ?_))
    exact wpAny_pure (hR h' T cT (fun b o hb _ e => hk' b o hb e) (fun _ => rfl) (fun z => absurd rfl z) (by simpa using hk' T _ hTI hT))
  | cons p rest ih =>
    intro i s T ts c cT hi hit hIt hAx hS hT hTS hTI hj hsz hR
    refine codeAny_builtin F.entry_sum_loop ?_
    rw [Around.under_plainId F.plain_sum_loop _]
    show wpAny _ A.in1 (seqItems? (.ref S) >>= _) _ _ s
    refine wpAny_bind (wpAny_seqItems hS rfl ?_)
    show wpAny _ A.in1 (tryCatch (pyNext (.ref I)) _ >>= _) _ _ s
    refine wpAny_bind (wpAny_tryCatch (wpAny_pyNext_list_item hIt hAx (by simpa using hit 0 p rfl) fun h' hIt' hsb => ?_))
    have hk' : ∀ b o, b ≠ I → s.heap.get? b = some o → h'.get? b = some o := fun b o hb e => (hsb.2 b hb).trans e
    have hAx' : h'.IsList ax items := hAx.extBut hsb.extBut hxI
    have hS' := hk' S _ hSI hS
    have hT' := hk' T _ hTI hT
    obtain ⟨hpI, hpS, cap, hP⟩ := hj p (by simp)
    have hP' := hk' _ _ hpI hP
    have hsz' : ts.length + p.2.length + (rest.flatMap (·.2)).length ≤ sizeLine := by
      simp only [List.flatMap_cons, List.length_append] at hsz
      omega
    show wpAny _ A.in1 ((holding [Value.ref p.1] (binaryOp .Add (.ref T) (.ref p.1))).attempt >>= _) _ _ _
    refine wpAny_bind (wpAny_attempt (wpAny_holding (PySem.P.add_list (items := ts.toArray) (items2 := p.2.toArray) hT' hP' ?_ (by simp; omega))))
    have ea : ts.toArray ++ p.2.toArray = (ts ++ p.2).toArray := by simp
    rw [ea]
    have hIlt : I < h'.objs.size := by
      obtain ⟨_, e, _⟩ := hIt'
      exact Heap.lt_size e
    have hSn : S ≠ h'.objs.size := Nat.ne_of_lt (Heap.lt_size hS')
    have hS2 : (h'.push (lob (ts ++ p.2) 0)).get? S = some (lob [.ref T] c) := Heap.get?_push_of_some _ hS'
    have hT2 : (h'.push (lob (ts ++ p.2) 0)).get? h'.objs.size = some (lob (ts ++ p.2) 0) := Heap.get?_push_size _ rfl
    show wpAny _ A.in1 (updateSeq S (fun _ => #[.ref h'.objs.size]) >>= _) _ _ _
    refine wpAny_bind ?_
    refine wpAny_updateSeq hS2 rfl ?_
    have hS3 := Heap.get?_update_self (Obj.mapSeq fun _ => #[Value.ref h'.objs.size]) hS2 rfl
    refine wpAny_bind (wpAny_letGo ?_)
    refine wpAny_bind ?_
    have other : ∀ b o, b ≠ S → (h'.push (lob (ts ++ p.2) 0)).get? b = some o → (((h'.push (lob (ts ++ p.2) 0)).update S (Obj.mapSeq fun _ => #[Value.ref h'.objs.size])).update S (Obj.mapSeq fun _ => #[Value.ref h'.objs.size])).get? b = some o := fun b o hb e =>
      (Heap.get?_update_other _ _ (Ne.symm hb)).trans ((Heap.get?_update_other _ _ (Ne.symm hb)).trans e)
    refine wpAny_updateSeq hS3 rfl (wpAny_pure ⟨plainId_quiet F.plain_sum_loop _, ih (i + 1) _ h'.objs.size (ts ++ p.2) _ 0 (by simp at hi ⊢; omega) (fun j q hq => ?_) ?_ ?_ (Heap.get?_update_self _ hS3 rfl) (other _ _ (Ne.symm hSn) hT2) (Ne.symm hSn) (Ne.symm (Nat.ne_of_lt hIlt)) ?_ (by rw [List.length_append]; omega) fun h'' T'' c'' hk'' h0 h1 hT'' => ?_⟩)
    · have := hit (j + 1) q (by simpa using hq)
      rw [← this]
      congr 1
      omega
    · exact hIt'.at fun o e => other _ _ (Ne.symm hSI) (Heap.get?_push_of_some _ e)
    · exact hAx'.at fun o e => other _ _ (Ne.symm hSx) (Heap.get?_push_of_some _ e)
    · intro q hq
      obtain ⟨a1, a2, cap, a3⟩ := hj q (by simp [hq])
      exact ⟨a1, a2, cap, other _ _ a2 (Heap.get?_push_of_some _ (hk' _ _ a1 a3))⟩
    · refine hR h'' T'' c'' (fun b o hbI hbS e => hk'' b o hbI hbS (other b o hbS (Heap.get?_push_of_some _ (hk' b o hbI e)))) (fun z => by cases z) (fun _ => ?_) (by simpa using hT'')
      by_cases hr : rest = []
      · rw [h0 hr]
        exact Nat.le_of_eq hsb.1.symm
      · have h1 := h1 hr
        have e2 : (((h'.push (lob (ts ++ p.2) 0)).update S (Obj.mapSeq fun _ => #[Value.ref h'.objs.size])).update S (Obj.mapSeq fun _ => #[Value.ref h'.objs.size])).objs.size = h'.objs.size + 1 := by
          rw [(Heap.SameBut.update _ _ _).1, (Heap.SameBut.update _ _ _).1, Heap.size_push]
        have h1 : h'.objs.size + 1 ≤ T'' := by rw [← e2]; exact h1
        rw [hsb.1] at h1
        omega
end
theorem args_sum2 (a b : Value) : argsOk "sum" ⟨[a, b], []⟩ := by unfold argsOk; kernel_rfl
section
variable {X : Cx}
def rSumL : List V → Hp → VK → Prop := fun vs H Q => ∃ (a b : Addr) (ps : List (Addr × List V)) (ys : List V), vs = [.ref a, .ref b] ∧ H a = some (.lst (ps.map fun p => .ref p.1)) ∧ H b = some (.lst ys) ∧ (∀ p ∈ ps, H p.1 = some (.lst p.2)) ∧ ys.length + (ps.flatMap (·.2)).length ≤ sizeLine ∧
  (ps = [] → Q (.ref b) H) ∧ (ps ≠ [] → ∀ p, H p = none → Q (.ref p) (upd H p (.lst (ys ++ ps.flatMap (·.2)))))
theorem lists_at {pins : List (Addr × Obj)} {σ : L2.St} {H : Hp} {s : Shared} (I : L2.Inv X pins σ H s) : ∀ {ps : List (Addr × List V)}, (∀ p ∈ ps, H p.1 = some (.lst p.2)) → ∃ qs : List (Addr × List Value), qs.map (·.1) = ps.map (·.1) ∧ (∀ q ∈ qs, (∃ cap, s.heap.get? q.1 = some (lob q.2 cap)) ∧ ∃ xs, H q.1 = some (.lst xs)) ∧ Vals (ps.flatMap (·.2)) (qs.flatMap (·.2))
  | [], _ => ⟨[], rfl, (fun q hq => nomatch hq), .nil⟩
  | p :: ps, h => by
    obtain ⟨z, its, n, r, hl, e⟩ := I.lstM (h p (by simp))
    obtain ⟨qs, e1, e2, e3⟩ := lists_at I (ps := ps) fun q hq => h q (by simp [hq])
    refine ⟨(p.1, its) :: qs, by simp [e1], fun q hq => ?_, ?_⟩
    · rcases List.mem_cons.mp hq with rfl | hq
      · exact ⟨⟨n, e⟩, _, h p (by simp)⟩
      · exact e2 q hq
    · simp only [List.flatMap_cons]
      exact r.append e3
theorem cr_sumL (hc : X.calm = true) : CallR X (.builtin "sum") rSumL := by
  intro pins s σ H vs us Q I r h
  obtain ⟨a, b, ps, ys, rfl, ha, hb, hps, hsz, q0, q1⟩ := h
  obtain ⟨u1, u2, rfl, e1, e2⟩ : ∃ u1 u2, us = [u1, u2] ∧ u1 = .ref a ∧ u2 = .ref b := by
    cases r with
    | cons r1 r => cases r with
      | cons r2 r => cases r; exact ⟨_, _, rfl, r1, r2⟩
  subst e1 e2
  obtain ⟨za, itsA, nA, rA, hlA, eA⟩ := I.lstM ha
  obtain ⟨zb, itsB, nB, rB, hlB, eB⟩ := I.lstM hb
  obtain ⟨qs, g1, g2, g3⟩ := lists_at I hps
  have hA : itsA = qs.map fun q => .ref q.1 := by
    have : ∀ {ps : List (Addr × List V)} {qs : List (Addr × List Value)} {its : List Value}, Vals (ps.map fun p => V.ref p.1) its → qs.map (·.1) = ps.map (·.1) → its = qs.map fun q => .ref q.1 := by
      intro ps
      induction ps with
      | nil =>
        intro qs its r e
        cases r
        cases qs with
        | nil => rfl
        | cons _ _ => cases e
      | cons p ps ih =>
        intro qs its r e
        cases r with
        | cons r1 r =>
          cases qs with
          | nil => cases e
          | cons q qs =>
            simp only [List.map_cons, List.cons.injEq] at e
            rw [ih r e.2, List.map_cons, e.1, show _ = Value.ref p.1 from r1]
    exact this rA g1
  have hlen : ys.length + (ps.flatMap (·.2)).length = itsB.length + (qs.flatMap (·.2)).length := by rw [hlB, g3.length]
  refine call_function_tree F.kind_sum F.plain_sum F.entry_sum (args_sum2 _ _) ?_
  unfold Builtin.«sum»
  simp only [List.length_cons, List.length_nil]
  rw [if_neg (by decide)]
  refine wpAny_bind (wpAny_of_eq (show Builtin.Builtins.bindParams "sum" ["start"] 0 { pos := [Value.ref b] } = pure [some (.ref b)] from rfl) ?_)
  have hlist : s.heap.IsList a itsA.toArray := ⟨_, eA, rfl, _, rfl⟩
  have hlt : a < s.heap.objs.size := Heap.lt_size eA
  refine wpAny_bind (wpAny_pyIter_list hlist ?_)
  refine wpAny_bind (wpAny_pure ?_)
  simp only [List.forIn_cons, List.forIn_nil]
  have tyB : Shared.TypeIs { s with heap := s.heap.push { cls := .type "list_iterator", data := .fields #[.ref a, .int 0 0] } } (.ref b) "list" := ⟨_, Heap.get?_push_of_some _ eB, rfl⟩
  refine wpAny_bind (wpAny_bind (wpAny_bind (wpAny_isInstance (T := "list") (b := false) tyB F.sub_list_str ?_)))
  simp only [Bool.false_eq_true, if_false]
  refine wpAny_pure (wpAny_bind (wpAny_bind (wpAny_isInstance (T := "list") (b := false) tyB F.sub_list_bytes ?_)))
  simp only [Bool.false_eq_true, if_false]
  refine wpAny_pure (wpAny_bind (wpAny_bind (wpAny_isInstance (T := "list") (b := false) tyB F.sub_list_bytearray ?_)))
  simp only [Bool.false_eq_true, if_false]
  refine wpAny_pure (wpAny_pure ?_)
  refine wpAny_bind (wpAny_newObj_type ?_)
  have old : ∀ c o, s.heap.get? c = some o → ((s.heap.push { cls := .type "list_iterator", data := .fields #[.ref a, .int 0 0] }).push (lob [.ref b] 0)).get? c = some o := fun c o e => Heap.get?_push_of_some _ (Heap.get?_push_of_some _ e)
  have hs1 : (s.heap.push { cls := .type "list_iterator", data := .fields #[.ref a, .int 0 0] }).objs.size = s.heap.objs.size + 1 := Heap.size_push ..
  have hs2 : ((s.heap.push { cls := .type "list_iterator", data := .fields #[.ref a, .int 0 0] }).push (lob [.ref b] 0)).objs.size = s.heap.objs.size + 1 + 1 := by rw [Heap.size_push, hs1]
  have neI : ∀ c o, s.heap.get? c = some o → c ≠ s.heap.objs.size := fun c o e => Nat.ne_of_lt (Heap.lt_size e)
  have neS : ∀ c o, s.heap.get? c = some o → c ≠ (s.heap.push { cls := .type "list_iterator", data := .fields #[.ref a, .int 0 0] }).objs.size := fun c o e => by
    rw [hs1]
    exact Nat.ne_of_lt (Nat.lt_succ_of_lt (Heap.lt_size e))
  have hIt : (s.heap.push { cls := .type "list_iterator", data := .fields #[.ref a, .int 0 0] }).IsListIter s.heap.objs.size a 0 := ⟨_, Heap.get?_push_size _ rfl, rfl, rfl⟩
  refine wpAny_pure ⟨plainId_quiet F.plain_sum_loop _, sum_lists_loop (items := itsA.toArray) (I.ok.hd hc) (Nat.ne_of_lt hlt) _ (by rw [hs1]; exact Nat.succ_ne_self _) (by rw [hs1]; exact Ne.symm (Nat.ne_of_lt (Nat.lt_succ_of_lt hlt))) qs 0 _ b itsB 0 nB (by rw [hA]; simp) (fun j p hp => ?_) (hIt.at fun o e => Heap.get?_push_of_some _ e) (hlist.at fun o e => old _ _ e)
    (Heap.get?_push_size _ rfl) (old _ _ eB) (neS _ _ eB) (neI _ _ eB) (fun p hp => ?_) (by omega) fun h' T' c' hk h0 h1 hT' => ?_⟩
  · rw [hA]
    simp [hp]
  · obtain ⟨⟨cap, e⟩, _⟩ := g2 p hp
    exact ⟨neI _ _ e, neS _ _ e, cap, old _ _ e⟩
  · have hk0 : ∀ c o, s.heap.get? c = some o → h'.get? c = some o := fun c o e => hk c o (neI _ _ e) (neS _ _ e) (old _ _ e)
    by_cases hq : ps = []
    · have hq' : qs = [] := by
        rw [hq] at g1
        simpa using g1
      rw [h0 hq']
      exact ⟨.ref b, H, I.kept (t' := s.toks) hk0, rfl, q0 hq⟩
    · have hq' : qs ≠ [] := fun z => hq (by rw [z] at g1; simpa using g1.symm)
      have hT : s.heap.objs.size ≤ T' := by
        have h1 := h1 hq'
        have h1 : ((s.heap.push { cls := .type "list_iterator", data := .fields #[.ref a, .int 0 0] }).push (lob [.ref b] 0)).objs.size ≤ T' := h1
        rw [hs2] at h1
        omega
      exact ⟨.ref T', _, I.laid (t' := s.toks) (o := .lst (ys ++ ps.flatMap (·.2))) hk0 hT ⟨by rw [List.length_append]; exact hsz, _, c', rB.append g3, hT'⟩, rfl, q1 hq T' (I.hok.fresh hT)⟩
end
end DL
namespace DL
open PySem L2 PySem.Spec PyProof.Rows
def lsts : List PyData → Option (List (List PyData))
  | [] => some []
  | .list l :: r => match lsts r with
    | some ls => some (l :: ls)
    | none => none
  | _ :: _ => none
theorem lsts_den {K : PySem.W.Frag} {φ : List (Addr × HO)} {H : Hp} (hh : Holds φ H) : ∀ {xs : List PyData} {xss : List (List PyData)} {vs : List V}, lsts xs = some xss → DnAll K φ H xs vs → ∃ ps : List (Addr × List V), vs = ps.map (fun p => .ref p.1) ∧ (∀ p ∈ ps, H p.1 = some (.lst p.2)) ∧ DnAll K φ H xss.flatten (ps.flatMap (·.2))
  | [], xss, _, e, .nil => by
    cases e
    exact ⟨[], rfl, (fun p hp => nomatch hp), .nil⟩
  | x :: r, xss, _, e, .cons h t => by
    unfold lsts at e
    split at e
    · rename_i q; cases q
    · rename_i l r' q
      cases q
      split at e
      · rename_i ls el
        cases e
        obtain ⟨ps, rfl, h2, h3⟩ := lsts_den hh el t
        cases h with
        | lst f t2 =>
          rename_i a vs
          refine ⟨(a, vs) :: ps, rfl, fun p hp => ?_, ?_⟩
          · rcases List.mem_cons.mp hp with rfl | hp
            · exact f H hh
            · exact h2 p hp
          · exact t2.append h3
      · cases e
    · cases e
def sumLM : List D → M D := fun ds S => match ds with
  | [x, .p (.list ys)] => match lstOf S x with
    | some xs => match lsts xs with
      | some xss => if ys.length + xss.flatten.length ≤ LIM then .ok (.p (.list (ys ++ xss.flatten))) S else .bad
      | none => .bad
    | none => .bad
  | _ => .bad
theorem sim_sumL {K : PySem.W.Frag} : SimA K rSumL sumLM := by
  intro W σ H G S ds vs Q rp dv q
  unfold sumLM at q
  split at q
  · rename_i x ys
    obtain ⟨v, w, rfl, d1, d2⟩ := denL2 dv
    split at q
    · rename_i xs ex
      obtain ⟨a, us, rfl, ha, ta⟩ := lstOf_den rp ex d1
      obtain ⟨b, ws, rfl, hb, tb⟩ := lstOf_den (S := S) (xs := ys) rp rfl d2
      split at q
      · rename_i xss el
        obtain ⟨ps, rfl, h2, h3⟩ := lsts_den rp.phi el ta
        by_cases c : ys.length + xss.flatten.length ≤ LIM
        · rw [if_pos c] at q
          refine ⟨a, b, ps, ws, rfl, ha, hb, h2, by rw [← tb.length, ← h3.length]; exact Nat.le_trans c LIM_le, fun hp => ?_, fun hp p hn => q.newLst rp (tb.append h3) hn⟩
          subst hp
          have hz : xss.flatten = [] := by
            have : xss.flatten.length = 0 := h3.length
            exact List.length_eq_zero_iff.mp this
          rw [hz, List.append_nil] at q
          exact q.ret rp d2
        · rw [if_neg c] at q; exact q.elim
      · exact q.elim
    · exact q.elim
  · exact q.elim
theorem de_sumL {X : Cx} {W : WX} {e : Expr} {es : List Expr} {fa : FA} {p pos : Pos} (hc : X.calm = true) (hg : Gl X "sum") (hm : X.mg "sum" = none) (ha : DA X W (e :: es) fa) (he : starEach (e :: es) X.env = (false, eval e X.env) :: starEach es X.env := by rfl) (hpl : (backTo pos (starEach es X.env)).any (·.1) = false := by rfl) : DE X W (.Call (.Name "sum" p) (e :: es) [] pos) (eA sumLM fa) :=
  de_callB (cr_sumL hc) sim_sumL hg hm (by decide +kernel) ha (by decide) (by decide) he hpl
end DL
namespace DL
open PySem L2 PySem.Spec PyProof.Rows
def itKM : D → M (List D) := fun d S => match d with
  | .p (.dict l) => match unKv l with
    | some kvs => .ok (kvs.map fun kv => D.p (keyPy kv.1)) S
    | none => .bad
  | _ => .bad
def iKey (f : FE) : FI := fun ρ S => (f ρ S).bind itKM
@[simp] theorem iKey_ {f : FE} {ρ : Ev} {S : Sto} : iKey f ρ S = (f ρ S).bind itKM := rfl
@[simp] theorem itKM_d {kvs : List (Key × PyData)} {S : Sto} : itKM (.p (.dict (pyKv kvs))) S = .ok (kvs.map fun kv => D.p (keyPy kv.1)) S := by simp [itKM]
end DL
namespace PySem
namespace DLX
open PySem.W PySem.Calls PyProof.Rows PySem.HandSPX
section
open Builtin Builtin.ObjectAttr
variable {prog : Program} {w : World} {A : Around} {E : Value → Shared → Prop} {R : Result → Shared → Prop} {hp : Heap} {g : Array GenState} {d : Drawn} {t : Nat} {os : OsState}
theorem osaG {K : W.Frag} {B : String} {bmB : List Value} (SB : StoreFacts B bmB "object.__setattr__" "object") {name : Str} {tk : Tok} {v : Value} {x C : Addr} {fv : Array Value} {cd : ClassData}
    (X : K.In hp) (hx : hp.get? x = some { cls := .ref C, data := .fields fv }) (hcd : W.clsIn K C = some cd) (hm : cd.mro = .ref C :: bmB) (hh : cd.hasDict = true) (ha : W.findIn K (.ref C) name = some none)
    (hq : ∀ h' tk' dx, (∀ b o, b ≠ x → hp.get? b = some o → h'.get? b = some o) → hp.objs.size ≤ dx → dx ≠ x → h'.get? x = some { cls := .ref C, dict := some dx, data := .fields fv } →
      h'.Ns1 dx (fun y => if y = name then some v else none) → R (.ok (.ret .none)) ⟨h', g, d, tk', os⟩) :
    codeAny (model prog w) A (.call (.builtin "object.__setattr__") ⟨[.ref x, .str name tk, v], []⟩) R ⟨hp, g, d, t, os⟩ := by
  have I : W.InstAt hp x { cls := .ref C, data := .fields fv } C none := ⟨hx, rfl, rfl, trivial⟩
  have SF := F.store_object
  have ne : cd.mro.isEmpty = false := by rw [hm]; rfl
  have hob : cd.mro.contains (.type "object") = true := by rw [hm, List.contains_cons, SB.hasOwner, Bool.or_true]
  have hxs : x ≠ hp.objs.size := Nat.ne_of_lt (Heap.lt_size hx)
  have sub : W.Looks (model prog w) hp (isInstance (.ref x) (.type "object")) true := I.type.andThen (W.looks_mroIn X (by unfold W.mroIn; rw [hcd, Option.bind_some, if_neg (by rw [ne]; decide), hob]))
  refine codeAny_call_builtin SF.slot.plain SF.entry (@W.check_slot (model prog w) _ _ ⟨hp, g, d, t, os⟩ "object.__setattr__" "object" "__setattr__" (.ref x) [.str name tk, v] [] _ SF.kind SF.split sub (SF.args (.ref x) (.str name tk) v) ?_)
  have hmr : W.Looks (model prog w) hp (mroOf (.ref C)) cd.mro := (W.looks_clsIn X hcd).andThen .now
  have L3 : W.Looks (model prog w) hp (storeTaker? none) none := .now
  have hcls : W.Looks (model prog w) hp (classData C) cd := W.looks_clsIn X hcd
  rw [W.osa_eq, refuse_eq]
  refine wpAny_bind (wpAny_bind (I.type.at (wpAny_bind (hmr.at ?_))))
  rw [hm, refuseLoop_ref, SB.passes]
  refine wpAny_pure (wpAny_bind (I.type.at (wpAny_bind ((W.looks_findIn X ha).at (wpAny_bind (L3.at ?_))))))
  show wpAny _ _ (storeInOwnDict (.ref x) (.ref C) (.str name tk) name v false) _ _ _
  obtain ⟨nm, bs, mro, ns, qn, hd, sn, sb, ab, col, del⟩ := cd
  dsimp only at hh
  subst hh
  unfold storeInOwnDict ownDictForStores
  repeat (first | with_reducible refine store_in_new ?_ ?_ | with_reducible refine wpAny_loadPart_at hx ?_ | with_reducible refine hcls.at ?_ | wp_step)
  · exact ⟨_, #[], _, (Heap.get?_update_ne _ _ _ _ hxs.symm).trans (Heap.get?_push_at rfl rfl), rfl, fun e he => absurd he (by simp), fun _ => rfl⟩
  · intro h' tk' hn' hs
    have hx₁ : (hp.push { cls := .type "dict", data := .dict #[] }).get? x = some { cls := .ref C, data := .fields fv } := Heap.get?_push_of_some _ hx
    refine hq h' tk' hp.objs.size (fun b o hb ho => ?_) (Nat.le_refl _) hxs.symm ?_ hn'
    · exact (hs.2 b (Nat.ne_of_lt (Heap.lt_size ho))).trans ((Heap.get?_update_ne _ _ _ _ hb).trans (Heap.get?_push_of_some _ ho))
    · exact (hs.2 x hxs).trans (Heap.get?_update_self _ hx₁ rfl)
end
theorem typ_LookupError : typeOf (.type "LookupError") = pure (.type "type") := by kernel_rfl
end DLX
end PySem
namespace DL
open PySem L2 PySem.Spec PyProof.Rows
/-- a built-in exception class, as a base -/
structure XBase (B newId initId : String) (bmB : List Value) : Prop where
  F : ExcBaseFacts B newId initId bmB
  st : StoreFacts B bmB "object.__setattr__" "object"
  typ : typeOf (.type B) = pure (.type "type")
  stub : Manifest.isStub B = false
  boot : bootBuiltins (B : Str) = some (.type B)
  hn : (B : Str) ≠ "__name__"
  hdb : ((B : Str) == ("__debug__" : Str)) = false
  hnd : PySem.W.handedIn (.builtin initId) = true
abbrev bmOf (B : String) : List Value := [.type B, .type "Exception", .type "BaseException", .type "object"]
theorem xb_LookupError : XBase "LookupError" "LookupError.__new__" "LookupError.__init__" (bmOf "LookupError") :=
  ⟨F.excBase_LookupError, F.store_LookupError, DLX.typ_LookupError, by decide +kernel, PyProof.Rows.Boot.«LookupError», by decide, by decide, by decide +kernel⟩
/-- an own class over it, of one field f -/
structure XCls (K : PySem.W.Frag) (C : Addr) (newId : String) (bmB : List Value) (f : Str) : Prop where
  cls : ∃ nm q N bs sn sub ab col dd k0 k1 k2 k3 k5, K.lookup C = some (excClassObj nm q C N bs bmB true sn sub ab col dd k0 k1 k2 k3 k5 newId)
  sa : PySem.W.findIn K (.ref C) "__setattr__" = some (some (.builtin "object.__setattr__"))
  exC : PySem.W.subIn K (.ref C) (.type "BaseException") = some true
  tyC : PySem.W.typeIn K (.ref C) = some (.type "type")
  kC : PySem.W.keepIn K (.ref C) = true
  fld : PySem.W.findIn K (.ref C) f = some none
section
variable {X : Cx} {pins : List (Addr × Obj)} {σ : L2.St} {H : Hp} {s : Shared} {a C dx : Addr} {f : Str} {y : V} {u : Value} {Q : Unit → Shared → Prop} {E : Value → Shared → Prop} {A : Around} {B newId initId : String} {bmB : List Value}
theorem ost_newG (XB : XBase B newId initId bmB) (T : XCls X.K C newId bmB f) (I : Inv X pins σ H s) (e : H a = some (exo a C none)) (ry : RelV y u)
    (h : ∀ dx s', H dx = none → dx ≠ a → Inv X pins σ (upd (upd H dx (exd dx [(f, y)])) a (exo a C (some dx))) s' → Q () s') : wpAny (model X.prog X.w) A (setAttr (.ref a) f u) Q E s := by
  obtain ⟨nm, q, N, bs, sn, sub, ab, col, dd, k0, k1, k2, k3, k5, hC⟩ := T.cls
  have hcl : PySem.W.clsIn X.K C = some { name := nm, bases := bs, mro := .ref C :: bmB, ns := N, qualname := q, hasDict := true, slotNames := sn, subclasses := sub, abstract := ab, collection := col, hasDel := false } := by unfold PySem.W.clsIn; rw [hC] <;> rfl
  obtain ⟨t1, ho⟩ := exo_at I.hok e
  obtain ⟨hp, g, d, t, os⟩ := s
  refine PySem.W.set_plain I.kIn (ox := { cls := .ref C, dict := none, data := .fields #[.ref t1, .none, .none, .none, .bool false, .none] }) (od := none) ⟨ho, rfl, rfl, trivial⟩ T.sa ?_
  refine PySem.DLX.osaG XB.st I.kIn ho hcl rfl rfl T.fld (fun h' tk' dx k dn dne hx hn => ?_)
  have hnd : H dx = none := I.hok.fresh dn
  have nd : ∀ {b : Addr} {o : Obj}, hp.get? b = some o → b ≠ dx := fun {b o} q => Nat.ne_of_lt (Nat.lt_of_lt_of_le (Heap.lt_size q) dn)
  have na : ∀ {b : Addr}, H b = none → b ≠ a := fun {b} n z => by
    rw [z, e] at n
    cases n
  have Un1 : Un X.fs [] H (upd (upd H dx (exd dx [(f, y)])) a (exo a C (some dx))) hp h' := {
    keep := fun b o q n _ _ => k b o (na n) q
    slot := fun b o q n _ _ => ⟨o.slots, k b o (na n) q⟩
    free := fun b o q n _ => by rw [upd_ne (na n), upd_ne (nd q)]; exact n
    there := fun b o q _ => by
      by_cases hb : b = a
      · exact ⟨_, by rw [hb]; exact hx⟩
      · exact ⟨o, k b o hb q⟩
    tups := fun b xs q => by rw [upd_ne (at_ne e q exo_tup), upd_ne (ne_of_none q hnd)]; exact q
    frzs := fun b o v q => by rw [upd_ne (at_ne e q exo_frz), upd_ne (ne_of_none q hnd)]; exact q
    tbls := fun b ps q => ⟨#[], by rw [upd_ne (at_ne e q exo_tbl), upd_ne (ne_of_none q hnd), q]; simp⟩ }
  refine h dx _ hnd dne (I.un (t' := tk') Un1 fun b o q => ?_)
  by_cases hb : b = a
  · subst hb
    rw [upd_same] at q
    cases q
    exact exo_ok hx
  · rw [upd_ne hb] at q
    by_cases hd : b = dx
    · subst hd
      rw [upd_same] at q
      cases q
      exact exd_ok hn (relO_put (fs := []) ry fun g => True.intro)
    · rw [upd_ne hd] at q
      exact (I.hok b o q).stay (fun c v hc z => k c v (by
          rcases hc with hc | hc
          · rw [hc]
            exact hb
          · exact at_ne e hc exo_own) z)
        (fun c hc => by rw [upd_ne (at_ne e hc exo_own), upd_ne (ne_of_none hc hnd)]; exact hc) (fun c xs hc => by rw [upd_ne (at_ne e hc exo_tup), upd_ne (ne_of_none hc hnd)]; exact hc)
theorem initG {us : List Value} {Q : Value → Shared → Prop} (XB : XBase B newId initId bmB) (T : XCls X.K C newId bmB f) (I : Inv X pins σ H s) (e : H a = some (exo a C none)) (hl : us.length ≤ sizeLine) (h : ∀ s', Inv X pins σ H s' → Q .none s') :
    wpAny (model X.prog X.w) A (call (.builtin initId) (.ref a :: us)) Q E s := by
  obtain ⟨nm, q, N, bs, sn, sub, ab, col, dd, k0, k1, k2, k3, k5, hC⟩ := T.cls
  obtain ⟨t1, ho⟩ := exo_at I.hok e
  obtain ⟨hp, g, d, t, os⟩ := s
  refine wpAny_call (PySem.HandSPX.init_base XB.F (fun Y => rfl) (I.kIn _ _ hC) ho hl fun h' t2 k hx => ?_)
  have J := I.write (t' := t) (x := a) (e := a) (o := exo a C none) (by rw [e]; exact True.intro) (.inl rfl) k ⟨_, hx⟩ (exo_ok hx)
  have eu : upd H a (exo a C none) = H := by
    funext b
    by_cases hb : b = a
    · rw [hb, upd_same, e]
    · rw [upd_ne hb]
  rw [eu] at J
  exact h _ J
end
/-- what __init__ of such a class keeps -/
def spInit (C : Addr) (f : Str) : Sp := fun vs H Q _ => ∃ (a : Addr) (v : V), vs = [.ref a, v] ∧ H a = some (exo a C none) ∧ ∀ dx, H dx = none → dx ≠ a → Q .non (upd (upd H dx (exd dx [(f, v)])) a (exo a C (some dx)))
section
variable {X : Cx} {e : Expr} {es : List Expr} {C : Addr} {f : Str} {B newId initId : String} {bmB : List Value} {p p' p1 p2 p3 p4 p5 p6 p7 p8 p9 pos : Pos}
def tInitG (C : Addr) (ta : TA) : TE := fun σ H Q => ta σ H fun vs H1 => ∃ (a : Addr) (ws : List V), vs = .ref a :: ws ∧ ws.length ≤ 1000 ∧ H1 a = some (exo a C none) ∧ Q .non H1
theorem pe_initG {pl : Sem Bool} {ta : TA} (XB : XBase B newId initId bmB) (T : XCls X.K C newId bmB f) (hg : Gl X (B : Str)) (hm : X.mg (B : Str) = none) (vV : PySem.W.findCls X.K (.type B) (.type "type") "__init__" = some (.val (.builtin initId))) (ha : PA X (e :: es) ta)
    (hc : eval (.Call (.Attribute (.Name (B : Str) p1) "__init__" p2) (e :: es) [] pos) X.env = (do
      let ov ← eval (.Name (B : Str) p1) X.env
      standAt p2.atName
      let (f, first) ← holding [ov] (getMethod ov "__init__" pl)
      callWith pos f first (backTo pos (starEach (e :: es) X.env)) (backToKw pos (keywordEach [] X.env))) := by rfl)
    (he : starEach (e :: es) X.env = (false, eval e X.env) :: starEach es X.env := by rfl) (hpl : (backTo pos (starEach es X.env)).any (·.1) = false := by rfl) :
    PE X (.Call (.Attribute (.Name (B : Str) p1) "__init__" p2) (e :: es) [] pos) (tInitG C ta) := by
  refine ⟨fun pins s σ H Q I h => ?_⟩
  refine PySem.W.methodCall_KW (ld_blt I hg hm XB.boot ?_ XB.hn XB.hdb) hc
  obtain ⟨m, fr⟩ := I.fr
  refine PySem.W.method_type fr I.ok.mod.kin XB.typ XB.stub vV XB.hnd ?_
  show wpAny _ _ (callWith pos (Value.builtin initId) [] (backTo pos (starEach (e :: es) X.env)) []) _ _ _
  refine PyProof.Rows.callWith_method1 (thn (ha.run pos pins _ σ H _ (I.tok _) h) fun us s1 ⟨vs, H1, I1, r1, a, ws, ev, hl, ea, q⟩ => ?_) he hpl
  subst ev
  cases r1 with
  | @cons _ u0 _ ur ra rw' =>
    obtain rfl : u0 = Value.ref a := ra
    have hlen : ur.length ≤ sizeLine := by
      rw [← Paired.length rw', sizeLine_eq]
      omega
    exact initG XB T I1 ea hlen fun s' J => ⟨.non, H1, J, rfl, q⟩
theorem ps_ostG {o : Expr} {to te : TE} (XB : XBase B newId initId bmB) (T : XCls X.K C newId bmB f) (ho : PE X o to) (he : PE X e te) (hs : swapsWith e (some (.Attribute o f p')) pos.line X.env = pure false := by rfl) :
    PS X (.Assign [.Attribute o f p'] e pos) (fun D σ H => te σ H fun y H1 => to σ H1 fun x H2 => ∃ a : Addr, x = .ref a ∧ H2 a = some (exo a C none) ∧ ∀ dx, H2 dx = none → dx ≠ a → D.nx σ (upd (upd H2 dx (exd dx [(f, y)])) a (exo a C (some dx)))) := by
  refine ⟨fun pins s σ H D I h => ?_⟩
  refine plainObj_wpAny_Assign_Attribute (thn (he.run pins s σ H _ I h) fun v s1 ⟨y, H1, I1, r1, q1⟩ => thn (ho.run pins s1 σ H1 _ I1 q1) fun u s2 ⟨x, H2, I2, r2, a, ex, ea, q⟩ => ?_) hs
  subst ex
  obtain rfl : u = Value.ref a := r2
  exact ost_newG XB T I2 ea r1 fun dx s' n ne J => ⟨σ, _, J, q dx n ne⟩
end
/-- __init__(self, y): B.__init__(self, 'm'); self.f = y -/
theorem init_fn {P : Program} {w : World} {K : PySem.W.Frag} {mg : Str → Option Value} {base : Heap} {x qual : Str} {st : Stmt} {fI C : Addr} {fd : FuncData} {k j : Nat} {y f m : Str} {B newId initId : String} {bmB : List Value} {p1 p2 p3 p4 p5 p6 p7 p8 p9 p10 : Pos} {pl : Env → Sem Bool}
    (hc : ∀ env : Env, eval (.Call (.Attribute (.Name (B : Str) p1) "__init__" p2) [.Name "self" p3, .Constant (.str m) j p4] [] p5) env = (do
      let ov ← eval (.Name (B : Str) p1) env
      standAt p2.atName
      let (f, first) ← holding [ov] (getMethod ov "__init__" (pl env))
      callWith p5 f first (backTo p5 (starEach [.Name "self" p3, .Constant (.str m) j p4] env)) (backToKw p5 (keywordEach [] env))))
    (XB : XBase B newId initId bmB) (T : XCls K C newId bmB f) (F : L2.Fun K x qual st fI fd) (Sc : FnScope ["self", y] ["self", y] (defScope st))
    (hb : defBody st = [.Expr (.Call (.Attribute (.Name (B : Str) p1) "__init__" p2) [.Name "self" p3, .Constant (.str m) j p4] [] p5) p6, .Assign [.Attribute (.Name "self" p7) f p8] (.Name y p9) p10])
    (hgl : (defScope st).names.lookup (B : Str) = some .globalImplicit) (hm : mg (B : Str) = none) (vV : PySem.W.findCls K (.type B) (.type "type") "__init__" = some (.val (.builtin initId)))
    (hv0 : Vis (defScope st) "self") (hv1 : Vis (defScope st) y) (hyd : (y == ("__debug__" : Str)) = false) (hyc : (y == ("__classdict__" : Str)) = false) :
    FnOk P w K mg base L2.CX0 (k + 1) fI fd ["self", y] (spInit C f) := by
  refine F.ok Sc (fun vs H Q E ⟨a, v, e, _⟩ => by rw [e]; rfl) fun cdv A outer s H vs Q E hr ⟨a, v, ev, ea, hq⟩ => ?_
  rw [hb]
  refine ⟨_, pss_cons (ps_expr (pe_initG (es := [.Constant (.str m) j p4]) XB T hgl hm vV (pa_cons (pe_var (i := 0) rfl hv0) (pa_cons pe_str pa_nil)) (hc _))) (pss_one (ps_ostG XB T (pe_var (i := 0) rfl hv0) (pe_var (i := 1) rfl hv1 hyd hyc))), ?_⟩
  subst ev
  exact ⟨_, rfl, a, _, rfl, (by simp), ea, v, rfl, .ref a, rfl, a, rfl, ea, fun dx n ne => hq dx n ne⟩
section
variable {X : Cx} {e : Expr} {es : List Expr} {C : Addr} {f : Str} {B newId initId : String} {bmB : List Value} {p pos : Pos}
theorem pmkG {x : Str} {fI : Addr} {k : Nat} {fd : FuncData} {ps : List Str} {sp : Sp} {ta : TA} (XB : XBase B newId initId bmB) (T : XCls X.K C newId bmB f) (iC : PySem.W.findIn X.K (.ref C) "__init__" = some (some (.ref fI))) (tI : PySem.W.typeIn X.K (.ref fI) = some (.type "function"))
    (F1 : FnOk X.prog X.w X.K X.mg X.base L2.CX0 k fI fd ps sp) (hr : Room (k + 1) X.A) (hb : Binds X.K fd ps []) (hg : Gl X x) (hm : X.mg x = some (.ref C)) (ha : PA X (e :: es) ta)
    (hdb : (x == ("__debug__" : Str)) = false := by decide) (he : starEach (e :: es) X.env = (false, eval e X.env) :: starEach es X.env := by rfl) (hpl : (backTo pos (starEach es X.env)).any (·.1) = false := by rfl) :
    PMk X (.Call (.Name x p) (e :: es) [] pos) (tMkO C sp [] ta) := by
  intro pins s σ H Q I h
  obtain ⟨nm, q, N, bs, sn, sub, ab, col, dd, k0, k1, k2, k3, k5, hC⟩ := T.cls
  refine wpAny_Call_Name_kw (ld_glob I hg hm ?_ hdb)
  refine PySem.W.callWith_K (h₀ := X.base) I.ok.mod.kin T.kC (thn (ha.run pos pins s σ H _ I h) fun us s1 ⟨vs, H1, I1, r1, hz, q1⟩ => ⟨I1.kIn, ?_⟩) he hpl
  show wpAny _ _ (call (.ref C) us) _ _ _
  obtain ⟨hp, g, dr, tk, os⟩ := s1
  have hsz : hp.objs.size ≤ hp.objs.size + 1 := Nat.le_succ _
  have hn : H1 (hp.objs.size + 1) = none := I1.hok.fresh hsz
  have hq := q1 (hp.objs.size + 1) hn
  have kk : ∀ b o, hp.get? b = some o → ((hp.push (PySem.W.kdv_tup us)).push (PySem.HandSPX.excO C hp.objs.size)).get? b = some o := fun b o e => Heap.get?_push_of_some _ (Heap.get?_push_of_some _ e)
  have hget : ((hp.push (PySem.W.kdv_tup us)).push (PySem.HandSPX.excO C hp.objs.size)).get? (hp.objs.size + 1) = some (PySem.HandSPX.excO C hp.objs.size) := by heap_get
  have I2 : Inv X pins σ (upd H1 (hp.objs.size + 1) (exo (hp.objs.size + 1) C none)) ⟨(hp.push (PySem.W.kdv_tup us)).push (PySem.HandSPX.excO C hp.objs.size), g, dr, tk, os⟩ :=
    I1.laid (t' := tk) (a := hp.objs.size + 1) (o := exo (hp.objs.size + 1) C none) (h' := (hp.push (PySem.W.kdv_tup us)).push (PySem.HandSPX.excO C hp.objs.size)) kk hsz (exo_ok hget)
  have r2 : Vals (V.ref (hp.objs.size + 1) :: (vs ++ [])) (Value.ref (hp.objs.size + 1) :: (us ++ [])) := .cons rfl (r1.append .nil)
  have hl : (Value.ref (hp.objs.size + 1) :: us ++ []).length = ps.length := by
    have e := r2.length
    rw [F1.len _ _ _ _ hq] at e
    exact e.symm
  have hus : us.length ≤ sizeLine := by
    rw [← Paired.length r1, sizeLine_eq]
    omega
  have hbb := hb _ (Value.ref (hp.objs.size + 1) :: us) I2.kIn hl
  rw [List.cons_append] at hbb
  refine wpAny_call (PySem.HandSPX.call_own XB.F (fun Y => rfl) (I1.kIn _ _ hC) (PySem.W.looks_findIn I1.kIn iC) (fun self => PySem.W.bind_fn I1.kIn self tI) hus
    (codeAny_mono (F1.run _ X.stack _ _ ⟨Value.ref (hp.objs.size + 1) :: us, []⟩ (Value.ref (hp.objs.size + 1) :: (us ++ [])) _ _ (fun _ _ _ => False) (hr.make C us []) (I2.env0.make C us []) hbb r2 hq) fun r s' hq' => ?_))
  cases r with
  | error er => exact (show False from hq').elim
  | ok fl =>
    cases fl with
    | ret u =>
      obtain ⟨v, H2, os2, bare2, un2, hok2, rv, ev, d, fs, ea, ed, hd1, q2⟩ := hq'
      subst ev
      obtain ⟨h2, g2, d2, t2, os'⟩ := s'
      exact ⟨rv, mk_end (raises_own T.exC T.tyC) I1 hsz kk un2 hok2 os2 bare2 ea ed hd1 q2⟩
    | next => exact False.elim hq'
    | brk => exact False.elim hq'
    | cont => exact False.elim hq'
end
def sRaise (nm f : Str) (g : FE) : FS := fun ρ S => (g ρ S).st ρ fun d S1 => match d with
  | .p v => some (.exc ⟨nm, some [(f, v)]⟩ ρ, S1)
  | _ => none
theorem upd_back {H : Hp} {a dx : Addr} {o1 o2 o3 o4 : HO} (hn : H a = none) (hne : dx ≠ a) : upd (del (upd (upd (upd H a o1) dx o2) a o3) a) dx o4 = upd H dx o4 := by
  funext b
  by_cases h1 : b = dx
  · subst h1; rw [upd_same, upd_same]
  · rw [upd_ne h1, upd_ne h1]
    by_cases h2 : b = a
    · subst h2; rw [del_same, hn]
    · rw [del_ne h2, upd_ne h2, upd_ne h1, upd_ne h2]
section
variable {X : Cx} {W : WX} {e : Expr} {C : Addr} {f : Str} {B newId initId : String} {bmB : List Value} {p pos pos' : Pos}
theorem ds_raise {x : Str} {fI : Addr} {k : Nat} {fd : FuncData} {ps : List Str} {g : FE} (XB : XBase B newId initId bmB) (T : XCls X.K C newId bmB f) (hcl : clsOf X.K x = .ref C) (iC : PySem.W.findIn X.K (.ref C) "__init__" = some (some (.ref fI))) (tI : PySem.W.typeIn X.K (.ref fI) = some (.type "function"))
    (F1 : FnOk X.prog X.w X.K X.mg X.base L2.CX0 k fI fd ps (spInit C f)) (hb : Binds X.K fd ps []) (Cc : Ctx X W (k + 1)) (hg : Gl X x) (hm : X.mg x = some (.ref C)) (hcalm : X.calm = true) (he : DE X W e g)
    (hdb : (x == ("__debug__" : Str)) = false := by decide) (hs : starEach [e] X.env = (false, eval e X.env) :: starEach [] X.env := by rfl) :
    DS X W (.Raise (some (.Call (.Name x p) [e] [] pos)) none pos') (sRaise x f g) := by
  refine ⟨PS.imp (ps_raise hcalm Cc.tk (pmkG XB T iC tI F1 Cc.hr hb hg hm (da_cons he da_nil hs).run hdb hs)) fun E σ H ⟨G, S, ρ, rs, rp, q⟩ => ?_⟩
  refine ⟨G, S, ρ, rs, rp, ?_⟩
  have q := AftS.st q rs rp
  unfold aCons aNil
  cases eo : g ρ S with
  | bad => rw [eo] at q; exact q
  | err y S1 => rw [eo] at q; exact q
  | ok d S1 =>
    rw [eo] at q
    intro H1 G1 x1 r1 vs dvs
    have q1 := q H1 G1 x1 r1
    cases dvs with
    | cons dv t =>
      cases t
      rename_i v
      cases d with
      | ob _ => exact q1.elim
      | ro _ => exact q1.elim
      | ext _ => exact q1.elim
      | p y =>
        refine ⟨by simp, fun a ha => ⟨a, v, rfl, upd_same, fun dx hdx hne => ⟨rfl, dx, [(f, v)], upd_same, ?_, ?_, ?_⟩⟩⟩
        · rw [upd_ne hne, upd_same]
        · rw [upd_ne hne] at hdx; exact hdx
        · rw [upd_ne hne] at hdx
          rw [upd_back ha hne]
          have x2 := Ext.froz (o := .xd [(f, v)]) r1 hdx
          have r2 := Rep.froz (o := .xd [(f, v)]) r1 hdx
          have q2 : AftS X.K W E H1 G1 S1 (some (.exc ⟨x, some [(f, y)]⟩ ρ, S1)) := q1
          rw [← hcl]
          exact q2 _ _ σ (some dx) x2 r2 (x2.relS r1 (x1.relS rp rs)) ⟨dx, [(f, v)], rfl, List.mem_cons_self, rfl, .cons (x2.dn r1 dv) .nil⟩
end
end DL
namespace DL
open PySem L2 PySem.Spec PyProof.Rows
/-- a caught exception, by the mirror -/
abbrev xn (a dd : Addr) (x : Exn) : D := .ext ⟨.ref a, some (dd, x)⟩
/-- e.f -/
def eXf (a dd : Addr) (i : Nat) (f : Str) : FE := fun ρ S => match ρ[i]? with
  | some (some (.ext ⟨.ref a', some (dd', ⟨_, some [(f', v)]⟩)⟩)) => if a' = a ∧ dd' = dd ∧ f' = f then .ok (.p v) S else .bad
  | _ => .bad
/-- isinstance(e, B), known to be b -/
def eXi (a dd : Addr) (i : Nat) (b : Bool) : FE := fun ρ S => match ρ[i]? with
  | some (some (.ext ⟨.ref a', some (dd', ⟨_, some [_]⟩)⟩)) => if a' = a ∧ dd' = dd then .ok (.p (.bool b)) S else .bad
  | _ => .bad
section
variable {X : Cx} {W : WX} {a dd C : Addr} {oe : Obj} {pn : List (Addr × Obj)} {i : Nat} {n f : Str} {p pos pT : Pos}
theorem ext_den {K : PySem.W.Frag} {H : Hp} {G : Gh} {S : Sto} {a dd : Addr} {nm f : Str} {y : PyData} {v : V} (rp : Rep K H G S) (h : Den K H G (.ext ⟨.ref a, some (dd, ⟨nm, some [(f, y)]⟩)⟩) v) : v = .ref a ∧ ∃ w, H dd = some (.xd [(f, w)]) ∧ Dn K G.φ H y w := by
  obtain ⟨h1, h2⟩ := h
  obtain ⟨fs, ws, e1, e2, e3, e4⟩ := h2 _ rfl
  cases e1
  refine ⟨h1, ?_⟩
  cases ws with
  | nil => cases e3
  | cons q ws =>
    cases ws with
    | cons _ _ => cases e3
    | nil =>
      obtain ⟨f', w⟩ := q
      simp only [List.map_cons, List.map_nil, List.cons.injEq, and_true] at e3
      subst e3
      cases e4 with
      | cons d _ => exact ⟨w, rp.phi _ e2, d⟩
theorem de_xf (T : XfC X.K C) (hno : PySem.W.findIn X.K (.ref C) f = some none) (hz : Zc (.ref C) (some dd) oe) (hf : ∃ vs, oe.data = .fields vs) (hN : X.N[i]? = some n) (hv : Vis X.env.scope n) (hd : (n == ("__debug__" : Str)) = false := by decide) (hcd : (n == ("__classdict__" : Str)) = false := by decide)
    (hb : attributeBase (.Name n p) f X.env (eval (.Name n p) X.env) = eval (.Name n p) X.env := by rfl) : DE (X.suite a ((a, oe) :: pn)) W (.Attribute (.Name n p) f pos) (eXf a dd i f) := by
  refine ⟨PE.imp (pe_xf T hno hz hf (pe_var (X := X.suite a ((a, oe) :: pn)) (pos := p) hN hv hd hcd) hb) fun σ H Q ⟨G, S, ρ, rs, rp, q⟩ => ?_⟩
  unfold eXf at q
  split at q
  · rename_i a' dd' nm f' v' e
    by_cases hc : a' = a ∧ dd' = dd ∧ f' = f
    · rw [if_pos hc] at q
      obtain ⟨rfl, rfl, rfl⟩ := hc
      obtain ⟨v, h1, h2⟩ := rs.get e
      obtain ⟨rfl, w, h3, h4⟩ := ext_den rp h2
      exact ⟨_, h1, rfl, rfl, dd', [(f', w)], w, rfl, h3, by simp [List.lookup], q.ret rp h4⟩
    · rw [if_neg hc] at q; exact q.elim
  · exact q.elim
theorem call_isD {X : Cx} {a D dd : Addr} {oe : Obj} {pn : List (Addr × Obj)} (C : ExcC X.K D) (hz : Zc (.ref D) (some dd) oe) (hf : ∃ vs, oe.data = .fields vs) :
    CallR (X.suite a ((a, oe) :: pn)) (.builtin "isinstance") (fun xs H Q => ∃ fs, H dd = some (.xd fs) ∧ rIsE X.K D a xs H Q) := by
  intro pins s σ H xs us Q I r h
  obtain ⟨fs, ed, c, cv, b, rfl, hcv, e, q⟩ := h
  cases r with
  | cons rx rr =>
    cases rr with
    | cons rt rr =>
      cases rr
      cases rx
      have ec := hcv _ rt
      subst ec
      obtain ⟨hget, _⟩ := I.pin (a, oe) (List.mem_append.mpr (.inl List.mem_cons_self))
      obtain ⟨vs, hv⟩ := hf
      have hx : ObjOk X.prog X.w H s.heap dd (.xd fs) := I.hok dd _ ed
      obtain ⟨mA, hns, _⟩ := hx
      obtain ⟨od, ho, _⟩ := lookIn_ns hns
      have J : PySem.W.InstAt s.heap a oe D (some od) := ⟨hget, hz.1, by unfold PySem.W.notCls; rw [hv] <;> rfl, by rw [hz.2]; exact ho⟩
      exact PySem.W.kia_one (PySem.W.kitx_excD (ox := oe) C.hg C.hk C.hs C.hd C.ha C.hn C.ht C.hm) I.kIn ⟨od, J⟩ e (fun z => nomatch z) fun tk => ⟨.bl b, H, I.kept (t' := tk) fun _ _ z => z, rfl, q⟩
theorem de_xi {B : String} {b : Bool} {pB : Pos} (T : ExcC X.K C) (hk : PySem.W.kitOne X.K (.ref C) (.type B) = some b) (hz : Zc (.ref C) (some dd) oe) (hf : ∃ vs, oe.data = .fields vs) (hN : X.N[i]? = some n) (hv : Vis X.env.scope n) (hg : Gl X "isinstance") (hm : X.mg "isinstance" = none)
    (hgT : Gl X (B : Str)) (hmT : X.mg (B : Str) = none) (hvT : bootBuiltins (B : Str) = some (.type B)) (hd : (n == ("__debug__" : Str)) = false := by decide) (hcd : (n == ("__classdict__" : Str)) = false := by decide) (hnT : (B : Str) ≠ "__name__" := by decide) (hdT : ((B : Str) == ("__debug__" : Str)) = false := by decide) :
    DE (X.suite a ((a, oe) :: pn)) W (.Call (.Name "isinstance" p) [.Name n pT, .Name (B : Str) pB] [] pos) (eXi a dd i b) := by
  refine ⟨PE.imp (pe_callB (X := X.suite a ((a, oe) :: pn)) (call_isD T hz hf) hg hm (by decide +kernel) (pa_cons (pe_var (X := X.suite a ((a, oe) :: pn)) (pos := pT) hN hv hd hcd) (pa_cons (pe_bltn (X := X.suite a ((a, oe) :: pn)) (v := .ty B) hgT hmT hvT rfl hnT hdT) pa_nil)) (by decide) (by decide)) fun σ H Q ⟨G, S, ρ, rs, rp, q⟩ => ?_⟩
  unfold eXi at q
  split at q
  · rename_i a' dd' nm q0 e
    obtain ⟨f', v'⟩ := q0
    by_cases hc : a' = a ∧ dd' = dd
    · rw [if_pos hc] at q
      obtain ⟨rfl, rfl⟩ := hc
      obtain ⟨v, h1, h2⟩ := rs.get e
      obtain ⟨rfl, w, h3, h4⟩ := ext_den rp h2
      exact ⟨_, h1, [(f', w)], h3, .ty B, .type B, b, rfl, fun u hu => hu, hk, q.ret rp (.bl _)⟩
    · rw [if_neg hc] at q; exact q.elim
  · exact q.elim
end
def exRet (i : Nat) (fe : Addr → Addr → FE) (x : Exn) (ρ : Ev) (S : Sto) : Option (Fl × Sto) := match x.fs with
  | none => none
  | some _ => match fe 0 0 (ρ.set i (some (xn 0 0 x))) S with
    | .ok d S2 => some (.ret d, S2)
    | _ => none
def sTry (nm : Str) (i : Nat) (fb : FS) (fe : Addr → Addr → FE) : FS := fun ρ S => match fb ρ S with
  | some (.exc x ρ', S') => if x.nm = nm then exRet i fe x ρ' S' else none
  | o => o
def Par (i : Nat) (fe : Addr → Addr → FE) : Prop := ∀ (a dd : Addr) (x : Exn) (ρ : Ev) (S : Sto), fe a dd (ρ.set i (some (xn a dd x))) S = fe 0 0 (ρ.set i (some (xn 0 0 x))) S
/-- what the suite is read as -/
def tsX (K : PySem.W.Frag) (C : Addr) (fe : Addr → Addr → FE) : Addr → Value → Option Addr → TS := fun a cls d D σ H => cls = .ref C ∧ ∃ dd, d = some dd ∧ rdS K W0 (sRet (fe a dd)) D σ H
section
variable {X : Cx} {W : WX} {C : Addr} {i : Nat} {n x : Str} {np pos pos' p3 : Pos} {body : List Stmt} {fb : FS} {e0 : Expr} {fe : Addr → Addr → FE}
theorem suite_run (hsu : ∀ (a : Addr) (oe : Obj) (dd : Addr) (pn : List (Addr × Obj)), Zc (.ref C) (some dd) oe → (∃ vs, oe.data = .fields vs) → DE (X.suite a ((a, oe) :: pn)) W0 e0 (fe a dd)) (a : Addr) (oe : Obj) (cls : Value) (d : Option Addr) (pn : List (Addr × Obj)) (hz : Zc cls d oe) (hf : ∃ vs, oe.data = .fields vs) :
    PSs (X.suite a ((a, oe) :: pn)) [.Return (some e0) p3] (tsX X.K C fe a cls d) := by
  refine ⟨fun pins s σ H D I ⟨h1, dd, h2, q⟩ => ?_⟩
  subst h1 h2
  exact (dss_one (ds_ret (hsu a oe dd pn hz hf))).run.run pins s σ H D I q
theorem wAs_of {K : PySem.W.Frag} {E : Ends} {H : Hp} {G : Gh} {S : Sto} {ρ : Ev} {σ : L2.St} {y : Exn} {d : Option Addr} (hcl : clsOf K x = .ref C) (hex : PySem.W.exmOne K (.ref C) (.ref C) = some true) (par : Par i fe) (hy : y.nm = x) (q : AftS K W E H G S (exRet i fe y ρ S)) (rs : RelS K H G ρ σ) (rp : Rep K H G S) (ex : ExnAt K H G y d) :
    wAs K (.ref C) i (tsX K C fe) W E (clsOf K y.nm) d σ H := by
  rw [hy, hcl]
  unfold exRet at q
  cases efs : y.fs with
  | none => rw [efs] at q; exact q.elim
  | some fs =>
    rw [efs] at q
    unfold ExnAt at ex
    rw [efs] at ex
    obtain ⟨dd, ws, rfl, e2, e3, e4⟩ := ex
    refine ⟨true, hex, fun _ a ha => ⟨rfl, dd, rfl, G, S, ρ.set i (some (xn a dd y)), RelS.set ?_ i rs, rp, ?_⟩, fun h => by cases h⟩
    · exact ⟨rfl, fun p hp => by cases hp; exact ⟨fs, ws, efs, e2, e3, e4⟩⟩
    · unfold sRet
      rw [par a dd y ρ S]
      have q : AftS K W E H G S (match fe 0 0 (ρ.set i (some (xn 0 0 y))) S with
        | .ok d S2 => some (.ret d, S2)
        | _ => none) := q
      cases eo : fe 0 0 (ρ.set i (some (xn 0 0 y))) S with
      | ok d2 S2 => rw [eo] at q; exact q
      | err _ _ => rw [eo] at q; exact q.elim
      | bad => rw [eo] at q; exact q.elim
theorem ds_try (hN : X.N.Nodup) (hi : X.N[i]? = some n) (hln : X.env.kindOf n = some .local) (hc : Names X x (.ref C)) (hcl : clsOf X.K x = .ref C) (hex : PySem.W.exmOne X.K (.ref C) (.ref C) = some true) (tk : Takes X W) (par : Par i fe)
    (hb : ∀ (W' : WX) (pn : List (Addr × Obj)) (xe : Value → Shared → Prop), Takes (X.tr pn xe) W' → PassesOwn (model X.prog X.w) X.A X.env xe → DSs (X.tr pn xe) W' body fb)
    (hsu : ∀ (a : Addr) (oe : Obj) (dd : Addr) (pn : List (Addr × Obj)), Zc (.ref C) (some dd) oe → (∃ vs, oe.data = .fields vs) → DE (X.suite a ((a, oe) :: pn)) W0 e0 (fe a dd))
    (hs : X.stack = X.env :: X.outer := by rfl) (hf : X.env.frame = some X.env.locals := by rfl) :
    DS X W (.Try body [.ExceptHandler (some (.Name x np)) (some n) [.Return (some e0) p3] pos'] [] [] pos) (sTry x i fb fe) := by
  refine ⟨PS.imp (ps_try_as hs hf hN hi hln hc tk (tb := fun W' => rdS X.K W' fb) (ts := tsX X.K C fe) (fun W' pn xe t p => (hb W' pn xe t p).run) (suite_run hsu)) fun E σ H ⟨G, S, ρ, rs, rp, q⟩ => ⟨G, S, ρ, rs, rp, ?_⟩⟩
  unfold sTry at q
  cases eo : fb ρ S with
  | none => rw [eo] at q; exact q
  | some pr =>
    obtain ⟨fl, S1⟩ := pr
    rw [eo] at q
    cases fl with
    | next ρ1 => exact q
    | ret d => exact q
    | brk ρ1 => exact q
    | cont ρ1 => exact q
    | exc y ρ1 =>
      have q : AftS X.K W E H G S (if y.nm = x then exRet i fe y ρ1 S1 else none) := q
      by_cases hy : y.nm = x
      · rw [if_pos hy] at q
        intro H1 G1 σ1 d x1 r1 s1 ex
        exact wAs_of hcl hex par hy (q.ext x1) s1 r1 ex
      · rw [if_neg hy] at q; exact q.elim
end
end DL
namespace DL
open PySem L2 PySem.Spec PyProof.Rows LamX
theorem Takes.len {X : Cx} {W : WX} (t : Takes X W) : Takes X (fun c d σ H => σ.length = X.N.length → W c d σ H) := fun u s' ⟨a, B, sI, pins, σ, H, cls, d, e, I, nb, up, sky, na, os, ag, w⟩ =>
  t u s' ⟨a, B, sI, pins, σ, H, cls, d, e, I, nb, up, sky, na, os, ag, w I.len⟩
end DL
namespace DL
open PySem L2 PySem.Spec PyProof.Rows LamX
end DL
namespace DL
open PySem L2 PySem.Spec PyProof.Rows
end DL
namespace DL
open PySem L2 PySem.Spec PyProof.Rows LamX
structure XAll (K : PySem.W.Frag) (mg : Str → Option Value) (x : Str) (B newId initId : String) (f y : Str) (st : Stmt) (C fI : Addr) (fd : FuncData) : Prop where
  cls : XCls K C newId (bmOf B) f
  hcl : clsOf K x = .ref C
  m : mg x = some (.ref C)
  iC : PySem.W.findIn K (.ref C) "__init__" = some (some (.ref fI))
  tI : PySem.W.typeIn K (.ref fI) = some (.type "function")
  fn : Fun K "__init__" (x ++ ".__init__") st fI fd
  b : Binds K fd ["self", y] []
  mB : mg (B : Str) = none
  vV : PySem.W.findCls K (.type B) (.type "type") "__init__" = some (.val (.builtin initId))
  xf : XfC K C
  ex : ExcC K C
  em : PySem.W.exmOne K (.ref C) (.ref C) = some true
theorem clsOf_of {K : PySem.W.Frag} {x : Str} {v : Value} (h : PySem.W.nsIn K mainGlobals x = some (some v)) : clsOf K x = v := by unfold clsOf; rw [h]; rfl
end DL
namespace DL
open PySem L2
theorem eXf_par {a dd : Addr} {i : Nat} {f : Str} {x : Exn} {ρ : Ev} {S : Sto} : eXf a dd i f (ρ.set i (some (xn a dd x))) S = eXf 0 0 i f (ρ.set i (some (xn 0 0 x))) S := by
  unfold eXf
  by_cases h : i < ρ.length
  · simp only [List.getElem?_set_self h]
    rcases x with ⟨nm, _ | _ | ⟨p, _ | _⟩⟩ <;> simp
  · have e1 : (ρ.set i (some (xn a dd x)))[i]? = none := List.getElem?_eq_none (by simpa using h)
    have e2 : (ρ.set i (some (xn 0 0 x)))[i]? = none := List.getElem?_eq_none (by simpa using h)
    rw [e1, e2]
theorem eXi_par {a dd : Addr} {i : Nat} {b : Bool} {x : Exn} {ρ : Ev} {S : Sto} : eXi a dd i b (ρ.set i (some (xn a dd x))) S = eXi 0 0 i b (ρ.set i (some (xn 0 0 x))) S := by
  unfold eXi
  by_cases h : i < ρ.length
  · simp only [List.getElem?_set_self h]
    rcases x with ⟨nm, _ | _ | ⟨p, _ | _⟩⟩ <;> simp
  · have e1 : (ρ.set i (some (xn a dd x)))[i]? = none := List.getElem?_eq_none (by simpa using h)
    have e2 : (ρ.set i (some (xn 0 0 x)))[i]? = none := List.getElem?_eq_none (by simpa using h)
    rw [e1, e2]
theorem kit_of {K : PySem.W.Frag} {C : Addr} {B : String} (hT : PySem.W.kitMeta B = true) (hs : PySem.W.subIn K (.ref C) (.type B) = some true) : PySem.W.kitOne K (.ref C) (.type B) = some true := by
  unfold PySem.W.kitOne PySem.W.kitCls
  rw [if_neg (by simp)]
  dsimp only
  rw [if_pos hT]
  exact hs
end DL
namespace DL
open PySem L2
theorem begin_at (ns : List Int) (S : Sto) : ∃ cs, Cells cs ∧ runF 1 beginB [.ro (nums ns)] S = .ok (.ob S.length) (S ++ [.dic (tpd cs 0 0)]) := by
  have go : ∀ {v : PyData}, (eOr (eSli (eVar 0) oNone (oSome (eC (.p (.int 63))))) (eA mkLst (aCons (eC (.p (.int 0))) aNil))) [some (.ro (nums ns))] S = .ok (.p v) S → runF 1 beginB [.ro (nums ns)] S = .ok (.ob S.length) (S ++ [.dic [(.inr "cells", v), (.inr "place", .int 0), (.inr "left", .int 0)]]) := by
    intro v e
    refine run_ret ?_
    show beginB [some (.ro (nums ns))] S = _
    unfold beginB
    have m : mergeD [(.inr "cells", v), (.inr "place", .int 0), (.inr "left", .int 0)] = [(.inr "cells", v), (.inr "place", .int 0), (.inr "left", .int 0)] := rfl
    simp only [sSeq_, sRet_, eDisp, pairsD, eC_, Out.bind_ok, e, pyKey, List.length_cons, List.length_nil]
    rw [if_pos (by decide), m]
    rfl
  have es : sliM (.ro (nums ns)) none (some 63) S = .ok (.p (.list (cutP (nums ns) none (some 63)))) S := rfl
  cases hx : cutP (nums ns) none (some 63) with
  | nil =>
    rw [hx] at es
    refine ⟨[.int 0], ⟨fun d hd => ⟨0, by simpa using hd⟩, by simp⟩, go ?_⟩
    simp [es]
  | cons a r =>
    rw [hx] at es
    refine ⟨a :: r, ⟨fun d hd => ?_, by simp⟩, go ?_⟩
    · have : d ∈ nums ns := cutP_mem (lo := none) (hi := some 63) (by rw [hx]; exact hd)
      obtain ⟨z, _, rfl⟩ := List.mem_map.mp this
      exact ⟨z, rfl⟩
    · simp [es]
end DL
namespace PySem
end PySem
namespace PySem
end PySem
namespace DL
open PySem L2 PySem.Spec PyProof.Rows
end DL
namespace DL
open PySem L2 PySem.Spec PyProof.Rows
theorem PK.imp {X : Cx} {kws : List Keyword} {t t' : TA} (h : PK X kws t) (i : ∀ σ H Q, t' σ H Q → t σ H Q) : PK X kws t' := ⟨fun pos pins s σ H Q I q => h.run pos pins s σ H Q I (i σ H Q q)⟩
end DL
namespace DL
open PySem L2 PySem.Spec PyProof.Rows
def kvGet (f : Str) : List (PyData × PyData) → Option PyData
  | [] => none
  | (.str g, v) :: r => if f = g then some v else kvGet f r
  | _ :: _ => none
theorem kvGet_ins (f : Str) : ∀ fs : List (Str × PyData), kvGet f (insF fs) = fs.lookup f
  | [] => rfl
  | (g, v) :: r => by
    show (if f = g then some v else kvGet f (insF r)) = _
    rw [kvGet_ins f r]
    by_cases h : f = g
    · subst h; simp [List.lookup]
    · have e : (f == g) = false := by simpa using h
      rw [if_neg h]; simp [List.lookup, e]
/-- the field f -/
def fldOf (S : Sto) (f : Str) : D → Option PyData
  | .p (.dict ((.tuple _, _) :: r)) => kvGet f r
  | .ob i => match S[i]? with
    | some (.ins _ fs) => fs.lookup f
    | _ => none
  | _ => none
@[simp] theorem fldOf_ins {S : Sto} {f nm : Str} {fs : List (Str × PyData)} : fldOf S f (.p (insD nm fs)) = fs.lookup f := kvGet_ins f fs
def eFld (f : Str) (e : FE) : FE := fun ρ S => (e ρ S).bind fun d S1 => match fldOf S1 f d with
  | some x => .ok (.p x) S1
  | none => .bad
@[simp] theorem eFld_ {f : Str} {e : FE} {ρ : Ev} {S : Sto} : eFld f e ρ S = (e ρ S).bind fun d S1 => match fldOf S1 f d with
  | some x => .ok (.p x) S1
  | none => .bad := rfl
end DL
namespace DL
open PySem L2 PySem.Spec PyProof.Rows
end DL
namespace DL
open PySem L2 PySem.Spec PyProof.Rows
end DL
namespace DL
open PySem L2 PySem.Spec PyProof.Rows
/-- an instance of the class nm -/
def insOf (S : Sto) (nm : Str) : D → Bool
  | .p (.dict ((.tuple (.str n :: _), _) :: _)) => decide (n = nm)
  | .ob i => match S[i]? with
    | some (.ins n _) => decide (n = nm)
    | _ => false
  | _ => false
@[simp] theorem insOf_ins {S : Sto} {nm n : Str} {fs : List (Str × PyData)} : insOf S nm (.p (insD n fs)) = decide (n = nm) := rfl
end DL
namespace DL
open PySem L2 PySem.Spec PyProof.Rows
end DL
namespace DL
open PySem L2 PySem.Spec PyProof.Rows
end DL
namespace DL
open PySem L2 PySem.Spec PyProof.Rows
end DL
namespace DL
open PySem L2 PySem.Spec PyProof.Rows
end DL
namespace DL
open PySem L2 PySem.Spec PyProof.Rows PySem.W
end DL
namespace DL
open PySem L2 PySem.Spec PyProof.Rows
end DL
namespace DL
open PySem L2 PySem.Spec PyProof.Rows
theorem Aft.pre {α : Type} {K : PySem.W.Frag} {W : WX} {σ : L2.St} {H H1 : Hp} {G G1 : Gh} {S S1 : Sto} {o : Out α} {P : α → Hp → Gh → Sto → Prop} (h : Aft K W σ H G S o P) (x : Ext H G S H1 G1 S1) : Aft K W σ H1 G1 S1 o P := by
  cases o with
  | ok a S' => exact fun H' G' x' => h H' G' (x.trans x')
  | err y S' => exact fun H' G' d x' => h H' G' d (x.trans x')
  | bad => exact h
end DL
namespace DL
open PySem L2 PySem.Spec PyProof.Rows
end DL
namespace DL
open PySem L2 PySem.Spec PyProof.Rows LamX
end DL
namespace DL
open PySem L2 PySem.Spec PyProof.Rows LamX
end DL
namespace DL
open PySem L2 PySem.Spec PyProof.Rows LamX
end DL
namespace DL
open PySem L2
def Tp (A B : Sto) (cs : List PyData) (n : Int) (S : Sto) : Prop := ∃ p l, 0 ≤ p ∧ p ≤ n ∧ S = A ++ .dic (tpd cs p l) :: B
section
variable {A B : Sto} {cs : List PyData} {n n' : Int} {S S' : Sto}
theorem Tp.len (h : Tp A B cs n S) : S.length = A.length + 1 + B.length := by
  obtain ⟨p, l, _, _, rfl⟩ := h
  simp
  omega
theorem Tp.mono (h : Tp A B cs n S) (hn : n ≤ n') : Tp A B cs n' S := by
  obtain ⟨p, l, a, b, e⟩ := h
  exact ⟨p, l, a, by omega, e⟩
theorem Tp.of (h : Tp A B cs n S) (t : Tape cs A.length (A.length + 1 + B.length) n' S') (o : Oth A.length S S') : Tp A B cs n' S' := by
  obtain ⟨p, l, a, b, rfl⟩ := h
  obtain ⟨hl, p', l', a', b', e⟩ := t
  refine ⟨p', l', a', b', ?_⟩
  apply List.ext_getElem?
  intro j
  by_cases hj : j = A.length
  · subst hj
    rw [e]
    simp
  · rw [o j hj]
    by_cases h1 : j < A.length
    · rw [List.getElem?_append_left h1, List.getElem?_append_left h1]
    · rw [List.getElem?_append_right (by omega), List.getElem?_append_right (by omega)]
      obtain ⟨m, hm⟩ : ∃ m, j - A.length = m + 1 := ⟨j - A.length - 1, by omega⟩
      rw [hm, List.getElem?_cons_succ, List.getElem?_cons_succ]
/-- what stands behind may grow -/
theorem Tp.push (h : Tp A B cs n S) (m : MO) : Tp A (B ++ [m]) cs n (S ++ [m]) := by
  obtain ⟨p, l, a, b, rfl⟩ := h
  exact ⟨p, l, a, b, by simp⟩
theorem Tp.cut (h : Tp A (B ++ C) cs n S) : Tp A B cs n (S.take (A.length + 1 + B.length)) := by
  obtain ⟨p, l, a, b, rfl⟩ := h
  refine ⟨p, l, a, b, ?_⟩
  have e : A ++ MO.dic (tpd cs p l) :: (B ++ C) = (A ++ .dic (tpd cs p l) :: B) ++ C := by simp
  rw [e, List.take_left' (by simp; omega)]
theorem Tp.back (h : Tp A B cs n S) (i : Nat) : S[A.length + 1 + i]? = B[i]? := by
  obtain ⟨p, l, a, b, rfl⟩ := h
  rw [List.getElem?_append_right (by omega), show A.length + 1 + i - A.length = i + 1 by omega, List.getElem?_cons_succ]
theorem Tp.set (h : Tp A B cs n S) (i : Nat) (m : MO) : Tp A (B.set i m) cs n (S.set (A.length + 1 + i) m) := by
  obtain ⟨p, l, a, b, rfl⟩ := h
  refine ⟨p, l, a, b, ?_⟩
  rw [List.set_append_right _ _ (by omega), show A.length + 1 + i - A.length = i + 1 by omega, List.set_cons_succ]
end
end DL
namespace DL
open PySem L2
end DL
namespace DL
open PySem L2 PySem.Spec PyProof.Rows
def tIfD (c a b : FT) : FT := fun ρ S => (c ρ S).bind fun k S1 => if k = true then a ρ S1 else b ρ S1
section
variable {ρ : Ev} {S : Sto} {c a b : FT}
@[simp] theorem tIfD_ : tIfD c a b ρ S = (c ρ S).bind fun k S1 => if k = true then a ρ S1 else b ρ S1 := rfl
end
end DL
namespace DL
open PySem L2 PySem.Spec PyProof.Rows
def opEqE : D → D → M D := fun x y S => match lstOf S x, lstOf S y with
  | some xs, some [] => .ok (.p (.bool xs.isEmpty)) S
  | _, _ => .bad
def rL0 (K : PySem.W.Frag) : R2 := fun x y H Q => ∃ a b vs, x = .ref a ∧ y = .ref b ∧ SqL K H a vs ∧ SqL K H b [] ∧ Q (.bl vs.isEmpty) H
section
variable {X : Cx}
theorem op_eqL0 (hu : X.A.units < cLine) : OpR X (compareOp .Eq) (rL0 X.K) := by
  intro pins s σ H x y v u Q I rx ry h
  obtain ⟨a, b, vs, rfl, rfl, ha, hb, q⟩ := h
  cases (show v = Value.ref a from rx)
  cases (show u = Value.ref b from ry)
  obtain ⟨its, r1, ⟨o, n, e, ec, _, ed⟩, _⟩ := I.list ha
  obtain ⟨jts, r2, ⟨o2, n2, e2, ec2, _, ed2⟩, _⟩ := I.list hb
  cases r2
  have p1 : s.heap.IsList a its.toArray := ⟨o, e, ec, n, ed⟩
  have p2 : s.heap.IsList b ([] : List Value).toArray := ⟨o2, e2, ec2, n2, ed2⟩
  have e1 : its.length = vs.length := r1.length.symm
  cases vs with
  | nil =>
    cases its with
    | cons z r => simp at e1
    | nil =>
      refine SeqAt.RcAt.lists (e := fun _ => true) p1 p2 rfl hu (fun j h1 => absurd h1 (by simp)) X.prog X.w X.xe _ ?_
      exact ⟨.bl _, H, I, rfl, q⟩
  | cons z r =>
    refine SeqAt.RcAt.lists_lengths p1 p2 (by
      cases its with
      | nil => simp at e1
      | cons y t => simp) hu X.prog X.w X.xe _ ?_
    exact ⟨.bl _, H, I, rfl, q⟩
end
theorem sim_eqL0 {K : PySem.W.Frag} : Sim2 K (rL0 K) opEqE := by
  intro W σ H G S x y v w Q rp dx dy q
  unfold opEqE at q
  split at q
  · rename_i xs e1 e2
    obtain ⟨a, vs, rfl, ha, ta⟩ := lstOf_den rp e1 dx
    obtain ⟨b, us, rfl, hb, tb⟩ := lstOf_den rp e2 dy
    cases tb
    refine ⟨a, b, vs, rfl, rfl, .inl (Rd.of ha), .inl (Rd.of hb), ?_⟩
    rw [← ta.isE]
    exact q H G Ext.refl rp (.bl _) (.bl _)
  · exact q.elim
section
variable {X : Cx} {W : WX} {a b : Expr} {f h : FE} {pos : Pos}
theorem de_eqE (hu : X.A.units < cLine) (ha : DE X W a f) (hb : DE X W b h) : DE X W (.Compare a [.Eq] [b] pos) (e2 opEqE f h) := de_cmp (op_eqL0 hu) sim_eqL0 ha hb (nomark _)
end
end DL
namespace SS
open PySem PySem.Spec PyProof.Rows
def stepS (l : List Str) (v : Str) : List Str := if l.any (· == v) then l else l ++ [v]
def dedS (xs : List Str) : List Str := xs.foldl stepS []
theorem dedS_snoc (xs : List Str) (v : Str) : dedS (xs ++ [v]) = stepS (dedS xs) v := by simp [dedS]
theorem stepS_len (l : List Str) (v : Str) : (stepS l v).length = if l.any (· == v) then l.length else l.length + 1 := by
  unfold stepS; split <;> simp
theorem fold_le : ∀ (xs l : List Str), (xs.foldl stepS l).length ≤ l.length + xs.length
  | [], l => Nat.le_refl _
  | x :: r, l => by
    have h := fold_le r (stepS l x)
    have h2 := stepS_len l x
    rw [List.foldl_cons, List.length_cons]
    split at h2 <;> omega
theorem dedS_le (xs : List Str) : (dedS xs).length ≤ xs.length := by
  have := fold_le xs []
  simpa [dedS] using this
theorem stepS_any (l : List Str) (v k : Str) : (stepS l v).any (· == k) = (l.any (· == k) || decide (k = v)) := by
  unfold stepS
  by_cases h : l.any (· == v) = true
  · rw [if_pos h]
    by_cases e : k = v
    · subst e; rw [h]; simp
    · simp [e]
  · rw [if_neg h, List.any_append]
    by_cases e : k = v
    · subst e; simp
    · have hb : (v == k) = false := by simpa [beq_iff_eq] using (fun h' : v = k => e h'.symm)
      simp [hb, e]
section
variable {prog : Program} {w : World} {A : Around} {R : Result → Shared → Prop} {I : Addr} {fp wr : List Addr} {G : Array GenState → Array GenState → Prop} {n : Nat} {P : Nat → Value → Prop} {St : Nat → Shared → Prop}
theorem loopStrN (W : WalksS prog w A.in1 I fp wr G n P St) (S : Addr) (hSf : S ∉ fp) (xs : List Str) (hsz : xs.length = n) (hb : n + 1 < scanBound)
    (hval : ∀ i v, P i v → ∃ t, v = .str (xs.getD i Str.empty) t) :
    ∀ (k i : Nat) (s : Shared), n - i = k → i ≤ n → St i s →
      s.heap.SetOf (PySem.strKind prog w) S (fun k' => (dedS (xs.take i)).any (· == k')) (dedS (xs.take i)).length →
      (∀ s', Moved (S :: wr) G s s' → s'.heap.SetOf (PySem.strKind prog w) S (fun k' => (dedS (xs.take n)).any (· == k')) (dedS (xs.take n)).length → R (.ok (.ret .none)) s') →
      codeAny (model prog w) A (.builtin "set.update.loop" ⟨[.ref S, .ref I], []⟩) R s := by
  have hSw : S ∉ wr := fun h => hSf (W.sub _ h)
  have hsub : ∀ b ∈ wr, b ∈ S :: wr := fun b hb => List.mem_cons_of_mem _ hb
  intro k
  induction k with
  | zero =>
    intro i s hk hi hst hS hR
    have hin : i = n := by omega
    subst hin
    refine codeAny_builtin PyProof.Rows.F.entry_set_update_loop ?_
    rw [Around.under_plainId PyProof.Rows.F.plain_set_update_loop _]
    show wpAny _ A.in1 (pyNext (.ref I) >>= _) _ _ s
    refine wpAny_bind (W.done s _ _ hst fun s' hm => ?_)
    show wpAny _ A.in1 (ret Value.none) _ _ s'
    exact wpAny_pure (hR s' (hm.mono hsub) (by
      obtain ⟨o, es, ep, t, ho, rest⟩ := hS
      exact ⟨o, es, ep, t, hm.heap S _ hSw ho, rest⟩))
  | succ k ih =>
    intro i s hk hi hst hS hR
    have hlt : i < n := by omega
    refine codeAny_builtin PyProof.Rows.F.entry_set_update_loop ?_
    rw [Around.under_plainId PyProof.Rows.F.plain_set_update_loop _]
    show wpAny _ A.in1 (pyNext (.ref I) >>= _) _ _ s
    refine wpAny_bind (W.item i s _ _ hlt hst fun v s' hP hst' hm => ?_)
    obtain ⟨t, rfl⟩ := hval i v hP
    have hS' : s'.heap.SetOf (PySem.strKind prog w) S (fun k' => (dedS (xs.take i)).any (· == k')) (dedS (xs.take i)).length := by
      obtain ⟨o, es, ep, tb, ho, rest⟩ := hS
      exact ⟨o, es, ep, tb, hm.heap S _ hSw ho, rest⟩
    show wpAny _ A.in1 (holding [Value.str (xs.getD i Str.empty) t] (setAdd S (.str (xs.getD i Str.empty) t)) >>= _) _ _ s'
    refine wpAny_bind (wpAny_holding ?_)
    unfold setAdd
    refine wpAny_holding ?_
    refine wpAny_bind ((PySem.strKind prog w).pyHash (k := xs.getD i Str.empty) (strKind_is _ _ _ _) ?_)
    refine wpAny_setAddHashed_of (knd := PySem.strKind prog w) (s := { s' with toks := s'.toks + 1 }) (strKind_is _ _ _ _) rfl hS' (by have := dedS_le (xs.take i); rw [List.length_take] at this; omega) fun h' hsb hS2 => ?_
    have ht : xs.take (i + 1) = xs.take i ++ [xs.getD i Str.empty] := by
      have hi2 : i < xs.length := by omega
      rw [List.take_succ, List.getElem?_eq_getElem hi2, List.getD_eq_getElem?_getD, List.getElem?_eq_getElem hi2]
      rfl
    have hSi : h'.SetOf (PySem.strKind prog w) S (fun k' => (dedS (xs.take (i + 1))).any (· == k')) (dedS (xs.take (i + 1))).length :=
      SetOf_congr hS2 (fun k' => by rw [ht, dedS_snoc, stepS_any]) (by rw [ht, dedS_snoc, stepS_len])
    refine wpAny_pure ⟨plainId_quiet PyProof.Rows.F.plain_set_update_loop _, ih (i + 1) _ (by omega) hlt (W.frame _ s' _ _ hst' (Nat.le_succ _) fun b hb o e => ?_) hSi fun s'' hm'' hS'' => ?_⟩
    · rw [hsb.2 b (fun h : b = S => hSf (by rw [← h]; exact hb))]; exact e
    · refine hR s'' (Moved.trans W.gtrans ((hm.mono hsub).then_heap (Nat.le_succ _) fun b o hb e => ?_) hm'') hS''
      rw [hsb.2 b (fun h : b = S => hb (by rw [h]; exact List.mem_cons_self))]; exact e
end
section
variable {prog : Program} {w : World} {A : Around} {E : Value → Shared → Prop} {s : Shared}
set_option maxHeartbeats 3200000 in
theorem call_set_listN {l : Addr} {items : Array Value} {xs : List Str} {Q : Value → Shared → Prop}
    (hh : A.handled = none) (hl : s.heap.IsList l items) (hi : PyProof.Rows.StrsAre items.toList xs) (hb : items.size + 1 < scanBound)
    (h : ∀ (h' : Heap) (tk : Nat), h'.SetOf (PySem.strKind prog w) s.heap.objs.size (fun k' => (dedS (xs.take items.size)).any (· == k')) (dedS (xs.take items.size)).length →
      (∀ b o, b < s.heap.objs.size → s.heap.get? b = some o → h'.get? b = some o) → Q (.ref s.heap.objs.size) { s with heap := h', toks := tk }) :
    wpAny (model prog w) A (call (.type "set") [.ref l]) Q E s := by
  obtain ⟨c, tl, hmro⟩ := PySem.F.called_set.mro
  have hmade := PySem.F.called_set.made
  have hsub := PySem.F.called_set.sub
  refine wpAny_call (codeAny_of_tree ?_)
  show wpAny _ _ (callAny (.type "set") _) _ _ _
  refine wpAny_pure ⟨Code.quiet_builtin _ (by decide +kernel), codeAny_builtin PySem.F.entry_type_call ?_⟩
  rw [Around.under_plain (weight_type_call_type "set" [.ref l] []) rfl]
  have h1 := PySem.F.called_set.notType
  have h2 := PySem.F.called_set.canCreate
  have hct := PySem.F.typeCall_set_1 (.ref l)
  repeat (any_goals (first | assumption | wp_step))

  refine codeAny_mono (code_set_new_1 (.ref l) (E := E) (Q₁ := fun obj s₁ => ∃ led : Bool, obj = .ref s.heap.objs.size ∧ s₁ = { s with heap := s.heap.push { cls := .type "set", dict := none, data := .set #[] 0 (.fresh 0 0 led) } }) fun led => ⟨led, rfl, rfl⟩) fun r s₁ hr => ?_
  cases r with
  | error e => exact hr
  | ok fl =>
    cases fl with
    | ret obj =>
      obtain ⟨led, rfl, rfl⟩ := hr
      have hS : (s.heap.push { cls := .type "set", dict := none, data := .set #[] 0 (.fresh 0 0 led) }).get? s.heap.objs.size = some { cls := .type "set", dict := none, data := .set #[] 0 (.fresh 0 0 led) } := Heap.get?_push_size _ rfl
      have hT : Shared.TypeIs { s with heap := s.heap.push { cls := .type "set", dict := none, data := .set #[] 0 (.fresh 0 0 led) } } (.ref s.heap.objs.size) "set" := ⟨_, hS, rfl⟩
      have hli := PySem.F.called_set.init.lookup
      have hbi := PySem.F.called_set.init.bind (.ref s.heap.objs.size)
      repeat (any_goals (first | assumption | wp_step))

      refine codeAny_mono (codeAny_call_builtin (R := wants (fun r s₂ => r = .none ∧ ∃ h' tk, s₂ = { s with heap := h', toks := tk } ∧
          h'.SetOf (PySem.strKind prog w) s.heap.objs.size (fun k' => (dedS (xs.take items.size)).any (· == k')) (dedS (xs.take items.size)).length ∧
          (∀ b o, b < s.heap.objs.size → s.heap.get? b = some o → h'.get? b = some o)) E) PySem.F.called_set.init.plain PySem.F.entry_set_init (check_set_init_1 hT ?_)) fun r₂ s₂ hr₂ => ?_
      · obtain ⟨ol, hol, hcl, nl, hdl⟩ := hl
        obtain ⟨ocls, odict, odata, oslots⟩ := ol
        simp only at hcl hdl
        subst hcl; subst hdl
        have hol' : (s.heap.push { cls := .type "set", dict := none, data := .set #[] 0 (.fresh 0 0 led) }).get? l = some { cls := .type "list", dict := odict, data := .seq items nl, slots := oslots } := Heap.get?_push_of_some _ hol
        have hsls := PySem.F.sub_list_set
        have hslf := PySem.F.sub_list_frozenset
        have hne : (Value.type "list" == Value.type "dict") = false := by decide
        have hl1 : (s.heap.push { cls := .type "set", dict := none, data := .set #[] 0 (.fresh 0 0 led) }).IsList l items := ⟨_, hol', rfl, nl, rfl⟩
        unfold Builtin.«set.__init__» noKeywords Builtin.Frozenset.updateFrom
        generalize hPI : pyIter = PI
        wp_walk
        subst hPI

        refine wpAny_pyIter_list hl1 ?_
        refine wpAny_bind (wpAny_runValue ?_)
        have hlS : l < s.heap.objs.size := Heap.lt_size hol
        have hh3 : A.in1.in1.in1.handled = none := by simp [hh]
        have hneI : l ≠ (s.heap.push { cls := .type "set", dict := none, data := .set #[] 0 (.fresh 0 0 led) }).objs.size := by
          rw [Heap.size_push]; exact Nat.ne_of_lt (Nat.lt_succ_of_lt hlS)
        have hSf : s.heap.objs.size ∉ [(s.heap.push { cls := .type "set", dict := none, data := .set #[] 0 (.fresh 0 0 led) }).objs.size, l] := by
          rw [Heap.size_push]; simp only [List.mem_cons, List.mem_singleton, List.not_mem_nil, or_false, not_or]
          exact ⟨Nat.ne_of_lt (Nat.lt_succ_self _), Nat.ne_of_gt hlS⟩
        have hsz : xs.length = items.size := by rw [← StrsAre.len_eq hi, Array.length_toList]
        have hval : ∀ (i : Nat) (v : Value), items[i]? = some v → ∃ t, v = .str (xs.getD i Str.empty) t := fun i v hv => strs_at hi i v (by rw [Array.getElem?_toList]; exact hv)
        refine loopStrN ((Walks.list hh3 _ l hneI items).toS) s.heap.objs.size
          hSf xs hsz hb hval (items.size - 0) 0 _ (by omega) (Nat.zero_le _)
          ⟨⟨_, Heap.get?_push_size _ rfl, rfl, rfl⟩, (hl1.push _)⟩ ?hS0 ?hR
        case hS0 =>
          have hget : ((s.heap.push { cls := .type "set", dict := none, data := .set #[] 0 (.fresh 0 0 led) }).push { cls := .type "list_iterator", data := .fields #[.ref l, .int 0 0] }).get? s.heap.objs.size
              = some { cls := .type "set", dict := none, data := .set #[] 0 (.fresh 0 0 led) } := Heap.get?_push_of_some _ hS
          exact PyProof.Rows.SetOf_congr ((PyProof.Rows.setObjOf_fresh (knd := PySem.strKind prog w) led).setOf hget (by unfold scanBound; omega)) (fun _ => rfl) rfl
        case hR =>
          intro s' hm hS'
          obtain ⟨h', g', d', tk', os'⟩ := s'
          have eg : g' = s.gens := hm.gens
          have ed : d' = s.drawn := hm.drawn
          have eo : os' = s.os := hm.os
          subst eg; subst ed; subst eo
          show wpAny _ _ _ _ _ _
          refine wpAny_pure ?_
          show wpAny _ _ (ret Value.none) _ _ _
          refine wpAny_pure ⟨rfl, h', tk', rfl, hS', fun b o hb e => ?_⟩
          have hb1 : b ≠ s.heap.objs.size := Nat.ne_of_lt hb
          have hb2 : b ≠ (s.heap.push { cls := .type "set", dict := none, data := .set #[] 0 (.fresh 0 0 led) }).objs.size := by
            rw [Heap.size_push]; exact Nat.ne_of_lt (Nat.lt_succ_of_lt hb)
          exact hm.heap b o (by simp only [List.mem_cons, List.mem_singleton, List.not_mem_nil, or_false, not_or]; exact ⟨hb1, hb2⟩) (Heap.get?_push_of_some _ (Heap.get?_push_of_some _ e))

      · cases r₂ with
        | error e => exact hr₂
        | ok fl₂ =>
          cases fl₂ with
          | ret r =>
            obtain ⟨rfl, h', tk, rfl, hS', hk'⟩ := hr₂
            repeat (any_goals (first | assumption | wp_step))
            exact h _ _ hS' hk'
          | _ => exact hr₂.elim
    | _ => exact hr.elim
set_option maxHeartbeats 3200000 in
theorem call_set_tupleN {l : Addr} {items : Array Value} {xs : List Str} {Q : Value → Shared → Prop}
    (hh : A.handled = none) (hl : s.heap.IsTuple l items) (hi : PyProof.Rows.StrsAre items.toList xs) (hb : items.size + 1 < scanBound)
    (h : ∀ (h' : Heap) (tk : Nat), h'.SetOf (PySem.strKind prog w) s.heap.objs.size (fun k' => (dedS (xs.take items.size)).any (· == k')) (dedS (xs.take items.size)).length →
      (∀ b o, b < s.heap.objs.size → s.heap.get? b = some o → h'.get? b = some o) → Q (.ref s.heap.objs.size) { s with heap := h', toks := tk }) :
    wpAny (model prog w) A (call (.type "set") [.ref l]) Q E s := by
  obtain ⟨c, tl, hmro⟩ := PySem.F.called_set.mro
  have hmade := PySem.F.called_set.made
  have hsub := PySem.F.called_set.sub
  refine wpAny_call (codeAny_of_tree ?_)
  show wpAny _ _ (callAny (.type "set") _) _ _ _
  refine wpAny_pure ⟨Code.quiet_builtin _ (by decide +kernel), codeAny_builtin PySem.F.entry_type_call ?_⟩
  rw [Around.under_plain (weight_type_call_type "set" [.ref l] []) rfl]
  have h1 := PySem.F.called_set.notType
  have h2 := PySem.F.called_set.canCreate
  have hct := PySem.F.typeCall_set_1 (.ref l)
  repeat (any_goals (first | assumption | wp_step))

  refine codeAny_mono (code_set_new_1 (.ref l) (E := E) (Q₁ := fun obj s₁ => ∃ led : Bool, obj = .ref s.heap.objs.size ∧ s₁ = { s with heap := s.heap.push { cls := .type "set", dict := none, data := .set #[] 0 (.fresh 0 0 led) } }) fun led => ⟨led, rfl, rfl⟩) fun r s₁ hr => ?_
  cases r with
  | error e => exact hr
  | ok fl =>
    cases fl with
    | ret obj =>
      obtain ⟨led, rfl, rfl⟩ := hr
      have hS : (s.heap.push { cls := .type "set", dict := none, data := .set #[] 0 (.fresh 0 0 led) }).get? s.heap.objs.size = some { cls := .type "set", dict := none, data := .set #[] 0 (.fresh 0 0 led) } := Heap.get?_push_size _ rfl
      have hT : Shared.TypeIs { s with heap := s.heap.push { cls := .type "set", dict := none, data := .set #[] 0 (.fresh 0 0 led) } } (.ref s.heap.objs.size) "set" := ⟨_, hS, rfl⟩
      have hli := PySem.F.called_set.init.lookup
      have hbi := PySem.F.called_set.init.bind (.ref s.heap.objs.size)
      repeat (any_goals (first | assumption | wp_step))

      refine codeAny_mono (codeAny_call_builtin (R := wants (fun r s₂ => r = .none ∧ ∃ h' tk, s₂ = { s with heap := h', toks := tk } ∧
          h'.SetOf (PySem.strKind prog w) s.heap.objs.size (fun k' => (dedS (xs.take items.size)).any (· == k')) (dedS (xs.take items.size)).length ∧
          (∀ b o, b < s.heap.objs.size → s.heap.get? b = some o → h'.get? b = some o)) E) PySem.F.called_set.init.plain PySem.F.entry_set_init (check_set_init_1 hT ?_)) fun r₂ s₂ hr₂ => ?_
      · obtain ⟨ol, hol, hcl, nl, hdl⟩ := hl
        obtain ⟨ocls, odict, odata, oslots⟩ := ol
        simp only at hcl hdl
        subst hcl; subst hdl
        have hol' : (s.heap.push { cls := .type "set", dict := none, data := .set #[] 0 (.fresh 0 0 led) }).get? l = some { cls := .type "tuple", dict := odict, data := .seq items nl, slots := oslots } := Heap.get?_push_of_some _ hol
        have hsls := PySem.F.sub_tuple_set
        have hslf := PySem.F.sub_tuple_frozenset
        have hne : (Value.type "tuple" == Value.type "dict") = false := by decide
        have hl1 : (s.heap.push { cls := .type "set", dict := none, data := .set #[] 0 (.fresh 0 0 led) }).IsTuple l items := ⟨_, hol', rfl, nl, rfl⟩
        unfold Builtin.«set.__init__» noKeywords Builtin.Frozenset.updateFrom
        generalize hPI : pyIter = PI
        wp_walk
        subst hPI

        refine wpAny_pyIter_tuple hl1 ?_
        refine wpAny_bind (wpAny_runValue ?_)
        have hlS : l < s.heap.objs.size := Heap.lt_size hol
        have hh3 : A.in1.in1.in1.handled = none := by simp [hh]
        have hneI : l ≠ (s.heap.push { cls := .type "set", dict := none, data := .set #[] 0 (.fresh 0 0 led) }).objs.size := by
          rw [Heap.size_push]; exact Nat.ne_of_lt (Nat.lt_succ_of_lt hlS)
        have hSf : s.heap.objs.size ∉ [(s.heap.push { cls := .type "set", dict := none, data := .set #[] 0 (.fresh 0 0 led) }).objs.size, l] := by
          rw [Heap.size_push]; simp only [List.mem_cons, List.mem_singleton, List.not_mem_nil, or_false, not_or]
          exact ⟨Nat.ne_of_lt (Nat.lt_succ_self _), Nat.ne_of_gt hlS⟩
        have hsz : xs.length = items.size := by rw [← StrsAre.len_eq hi, Array.length_toList]
        have hval : ∀ (i : Nat) (v : Value), items[i]? = some v → ∃ t, v = .str (xs.getD i Str.empty) t := fun i v hv => strs_at hi i v (by rw [Array.getElem?_toList]; exact hv)
        refine loopStrN ((Walks.tuple hh3 _ l hneI items).toS) s.heap.objs.size
          hSf xs hsz hb hval (items.size - 0) 0 _ (by omega) (Nat.zero_le _)
          ⟨⟨_, Heap.get?_push_size _ rfl, rfl, rfl⟩, (hl1.push _)⟩ ?hS0 ?hR
        case hS0 =>
          have hget : ((s.heap.push { cls := .type "set", dict := none, data := .set #[] 0 (.fresh 0 0 led) }).push { cls := .type "tuple_iterator", data := .fields #[.ref l, .int 0 0] }).get? s.heap.objs.size
              = some { cls := .type "set", dict := none, data := .set #[] 0 (.fresh 0 0 led) } := Heap.get?_push_of_some _ hS
          exact PyProof.Rows.SetOf_congr ((PyProof.Rows.setObjOf_fresh (knd := PySem.strKind prog w) led).setOf hget (by unfold scanBound; omega)) (fun _ => rfl) rfl
        case hR =>
          intro s' hm hS'
          obtain ⟨h', g', d', tk', os'⟩ := s'
          have eg : g' = s.gens := hm.gens
          have ed : d' = s.drawn := hm.drawn
          have eo : os' = s.os := hm.os
          subst eg; subst ed; subst eo
          show wpAny _ _ _ _ _ _
          refine wpAny_pure ?_
          show wpAny _ _ (ret Value.none) _ _ _
          refine wpAny_pure ⟨rfl, h', tk', rfl, hS', fun b o hb e => ?_⟩
          have hb1 : b ≠ s.heap.objs.size := Nat.ne_of_lt hb
          have hb2 : b ≠ (s.heap.push { cls := .type "set", dict := none, data := .set #[] 0 (.fresh 0 0 led) }).objs.size := by
            rw [Heap.size_push]; exact Nat.ne_of_lt (Nat.lt_succ_of_lt hb)
          exact hm.heap b o (by simp only [List.mem_cons, List.mem_singleton, List.not_mem_nil, or_false, not_or]; exact ⟨hb1, hb2⟩) (Heap.get?_push_of_some _ (Heap.get?_push_of_some _ e))

      · cases r₂ with
        | error e => exact hr₂
        | ok fl₂ =>
          cases fl₂ with
          | ret r =>
            obtain ⟨rfl, h', tk, rfl, hS', hk'⟩ := hr₂
            repeat (any_goals (first | assumption | wp_step))
            exact h _ _ hS' hk'
          | _ => exact hr₂.elim
    | _ => exact hr.elim
end
end SS
namespace L2
open PySem PySem.Spec PyProof.Rows
section
variable {X : Cx}
/-- len(set(xs)), xs a list or tuple of few texts -/
def tLenSetN (K : PySem.W.Frag) (ta : TE) : TE := fun σ H Q => ta σ H fun x H1 => ∃ l, ∃ xs : List Str, x = .ref l ∧ (SqL K H1 l (xs.map V.str) ∨ SqT K H1 l (xs.map V.str)) ∧ xs.length ≤ 1000 ∧ Q (.int (SS.dedS xs).length) H1
theorem pe_lenSetN {a : Expr} {ta : TE} {p p2 q pos : Pos} (hc : X.calm = true) (hg : Gl X "len") (hm : X.mg "len" = none) (hg2 : Gl X "set") (hm2 : X.mg "set" = none) (ha : PE X a ta)
    (na : starEach [a] X.env = (false, eval a X.env) :: starEach [] X.env := by rfl) : PE X (.Call (.Name "len" p) [.Call (.Name "set" p2) [a] [] q] [] pos) (tLenSetN X.K ta) := by
  refine ⟨fun pins s σ H Q I h => ?_⟩
  refine Call_ (ld_blt I hg hm boot_len ?_)
  refine PyProof.Rows.callWith_builtin1 (PyProof.Rows.args_cons ?_ rfl) rfl rfl
  refine Call_ (ld_blt I hg2 hm2 boot_set ?_)
  refine PyProof.Rows.callWith_type1 (PyProof.Rows.args_cons (thn (ha.run pins s σ H _ I h) fun v s1 ⟨x, H1, I1, r1, q1⟩ => PyProof.Rows.args_nil ?_) na) na rfl
  obtain ⟨l, xs, rfl, hq, h1, q1⟩ := q1
  cases r1
  have fin : ∀ (its : List Value), Vals (xs.map V.str) its → ∀ (h' : Heap) (tk : Nat), h'.SetOf (PySem.strKind X.prog X.w) s1.heap.objs.size (fun k' => (SS.dedS (xs.take its.toArray.size)).any (· == k')) (SS.dedS (xs.take its.toArray.size)).length →
      (∀ b o, b < s1.heap.objs.size → s1.heap.get? b = some o → h'.get? b = some o) →
      wpAny (model X.prog X.w) X.A (spliced (backTo pos (starEach [] X.env))) (fun vs s₂ => wpAny (model X.prog X.w) X.A (call (.builtin "len") (Value.ref s1.heap.objs.size :: vs)) (EP X pins σ Q) X.xe s₂) X.xe { s1 with heap := h', toks := tk } := fun its r h' tk hS hk => by
    refine PyProof.Rows.args_nil ?_
    have hl : its.toArray.size = xs.length := by rw [List.size_toArray, ← r.length, List.length_map]
    rw [hl, List.take_length] at hS
    obtain ⟨o, es, ep, t, ho, hex, hd, _, _, _, hf, hn⟩ := hS
    have I2 : Inv X pins σ H1 { s1 with heap := h', toks := tk } := I1.kept fun b o e => hk b o (Heap.lt_size e) e
    refine call_len_set ho hex hd hf (by have := SS.dedS_le xs; rw [hn] <;> omega) ⟨.int (SS.dedS xs).length, H1, I2.tok _, ⟨_, by rw [hn]⟩, q1⟩
  rcases hq with hq | hq
  · obtain ⟨its, r, pl, hz⟩ := I1.list hq
    exact SS.call_set_listN (I1.ok.hd hc) pl.isList (by simpa using strsAre_of r) (by have := r.length; simp at this ⊢; unfold scanBound; omega) fun h' tk hS hk => fin its r h' tk hS hk
  · obtain ⟨its, r, pl, hz⟩ := I1.tuple hq
    exact SS.call_set_tupleN (I1.ok.hd hc) pl (by simpa using strsAre_of r) (by have := r.length; simp at this ⊢; unfold scanBound; omega) fun h' tk hS hk => fin its r h' tk hS hk
end
end L2
namespace DL
open PySem L2 PySem.Spec PyProof.Rows
def setLenD (xs : List PyData) : M D := fun S => match strsP xs with
  | some zs => if zs.length ≤ 1000 then .ok (.p (.int ((SS.dedS zs).length : Nat))) S else .bad
  | none => .bad
def lenSetM : D → M D := fun d S => match d with
  | .p (.tuple xs) => setLenD xs S
  | d => match lstOf S d with
    | some xs => setLenD xs S
    | none => .bad
section
variable {X : Cx} {W : WX} {a : Expr} {fa : FE} {p p2 q pos : Pos}
theorem setLen_read {K : PySem.W.Frag} {σ : L2.St} {H : Hp} {G : Gh} {S : Sto} {xs : List PyData} {us : List V} {Q : VK} (rp : Rep K H G S) (t : DnAll K G.φ H xs us) (q : Aft K W σ H G S (setLenD xs S) (QD K Q)) : ∃ zs : List Str, us = zs.map V.str ∧ zs.length ≤ 1000 ∧ Q (.int (SS.dedS zs).length) H := by
  unfold setLenD at q
  split at q
  · rename_i zs e
    by_cases c : zs.length ≤ 1000
    · rw [if_pos c] at q
      exact ⟨zs, strsP_dn e t, c, q.ret rp (.int _)⟩
    · rw [if_neg c] at q; exact q.elim
  · exact q.elim
theorem de_lenSet (hc : X.calm = true) (hg : Gl X "len") (hm : X.mg "len" = none) (hg2 : Gl X "set") (hm2 : X.mg "set" = none) (ha : DE X W a fa)
    (na : starEach [a] X.env = (false, eval a X.env) :: starEach [] X.env := by rfl) : DE X W (.Call (.Name "len" p) [.Call (.Name "set" p2) [a] [] q] [] pos) (e1 lenSetM fa) := by
  refine ⟨PE.imp (pe_lenSetN hc hg hm hg2 hm2 ha.run na) fun σ H Q ⟨G, S, ρ, rs, rp, q⟩ => ⟨G, S, ρ, rs, rp, (Aft.bind q).mono fun d H1 G1 S1 x1 r1 q1 v dv => ?_⟩⟩
  unfold lenSetM at q1
  split at q1
  · obtain ⟨l, us, rfl, hq, t⟩ := den_tup dv
    obtain ⟨zs, rfl, h1, h2⟩ := setLen_read r1 t q1
    exact ⟨l, zs, rfl, .inr hq, h1, h2⟩
  · split at q1
    · rename_i xs e
      obtain ⟨l, us, rfl, hq, t⟩ := lstOf_den r1 e dv
      obtain ⟨zs, rfl, h1, h2⟩ := setLen_read r1 t q1
      exact ⟨l, zs, rfl, .inl (SqL.of hq), h1, h2⟩
    · exact q1.elim
end
end DL
namespace DL
open PySem L2 PySem.Spec PyProof.Rows
structure Cw (X : Cx) (W : WX) (k : Nat) : Prop where
  hr : Room k X.A
  tk : Takes X W
theorem Cw.blk {X : Cx} {W : WX} {k : Nat} (C : Cw X W k) {s : Shared} {H : Hp} {sc : Scope} {env : Env} {fp : List Addr} : Cw (X.blk s H sc env fp) W0 k := ⟨C.hr, takes0⟩
theorem Cw.u1 {X : Cx} {W : WX} {k : Nat} (C : Cw X W k) : X.A.units + 1 < cLine := hu_of C.hr
theorem Cw.u64 {X : Cx} {W : WX} {k : Nat} (C : Cw X W k) : X.A.units + 64 < cLine := C.hr.units
theorem Cw.u65 {X : Cx} {W : WX} {k : Nat} (C : Cw X W k) : X.A.units + 65 < cLine := hu65 C.hr
section
variable {P : Program} {w : World} {K : PySem.W.Frag} {mg : Str → Option Value} {base : Heap} {x qual : Str} {st : Stmt} {f : Addr} {fd : FuncData} {N ps : List Str} {k m n : Nat} {sp : Sp}
theorem fnOk_data (F : Fun K x qual st f fd) (Sc : FnScope N ps (defScope st)) (hm : N.length = m) (hn : ps.length = n) (body : FS)
    (hb : ∀ (cdv : Value) (A : Around) (outer : List Env) (s : Shared) (H : Hp) (E : XK), Cw (cxOf (L2.CX P w) P w K mg base N qual (defScope st) f cdv A outer s H E) (WE E) k → Po (cxOf (L2.CX P w) P w K mg base N qual (defScope st) f cdv A outer s H E) → DSs (cxOf (L2.CX P w) P w K mg base N qual (defScope st) f cdv A outer s H E) (WE E) (defBody st) body) :
    FnOk P w K mg base (L2.CX P w) (k + 1) f fd ps (spX K n (runF m body)) := by
  subst hm hn
  obtain ⟨oc, od, kV, doc, pm, an, cdv, ct, osl, rfl, lk, hcd⟩ := F.ex
  refine fn_of lk hcd Sc (fun vs H Q E ⟨G, S, ds, hl, dl, _⟩ => by rw [← dl.length]; exact hl) fun A outer s H vs Q E hr ⟨G, S, ds, hl, dl, rp, q⟩ => ?_
  refine ⟨_, (hb cdv A outer s H E ⟨hr, takes_of rfl rfl rfl rfl⟩ (passes_of rfl)).run, G, S, ds.map some ++ List.replicate (N.length - ds.length) none, ?_, rp, body_read rp q⟩
  rw [dl.length]
  exact RelS.ofArgs (N.length - vs.length) dl
theorem fnOk_none : FnOk P w K mg base (L2.CX P w) k f fd ps (spX K n fun _ _ => .bad) :=
  ⟨fun vs H Q E ⟨_, _, _, _, _, _, q⟩ => q.elim, fun _ _ _ _ _ _ _ _ _ _ _ _ _ ⟨_, _, _, _, _, _, q⟩ => q.elim⟩
theorem toX (F : FnOk P w K mg base (L2.CX P w) k f fd ps sp) : FnX P w K mg base k f fd ps sp :=
  ⟨F.len, fun A outer s H args us vs Q E hr _ e0 hb r h => F.run A outer s H args us vs Q E hr e0 hb r h⟩
end
section
variable {X : Cx} {W : WX} {k n : Nat} {f : Addr} {fd : FuncData} {ps : List Str} {x : Str} {p pos : Pos} {e : Expr} {es : List Expr} {fa : FA} {g : List D → M D}
theorem de_callO (F : FnOk X.prog X.w X.K X.mg X.base (L2.CX X.prog X.w) k f fd ps (spX X.K n g)) (C : Cw X W k) (hg : Gl X x) (hm : X.mg x = some (.ref f)) (hk : PySem.W.keepIn X.K (.ref f) = true) (hb : Binds X.K fd ps [])
    (ha : DA X W (e :: es) fa) (hdb : (x == ("__debug__" : Str)) = false := by decide) (he : starEach (e :: es) X.env = (false, eval e X.env) :: starEach es X.env := by rfl) (hpl : (backTo pos (starEach es X.env)).any (·.1) = false := by rfl) :
    DE X W (.Call (.Name x p) (e :: es) [] pos) (eCallX n g fa) := by
  refine ⟨⟨fun pins s σ H Q I h => wpAny_Call_Name_kw (ld_glob I hg hm ?_ hdb)⟩⟩
  refine PySem.W.callWith_K (h₀ := X.base) I.ok.mod.kin hk (thn (ha.run.run pos pins s σ H _ I (callX_read h)) fun us s1 ⟨vs, H1, I1, r, q⟩ => ⟨I1.kIn, ?_⟩) he hpl
  have hl : us.length = ps.length := by rw [← r.length]; exact F.len _ _ _ _ q
  have hbs := hb s1 us I1.kIn (by simpa using hl)
  rw [List.append_nil] at hbs
  refine wpAny_call (codeAny_mono (F.run X.A X.stack s1 H1 ⟨us, []⟩ us vs Q _ C.hr I1.env0 hbs r q) fun res s' hq => ?_)
  match res, hq with
  | .error e, hq => exact C.tk e s' (XE.of_call I1 (fun cls d H' h => h) hq)
  | .ok (.ret u), hq => exact I1.after hq
  | .ok .next, hq => exact False.elim hq
  | .ok .brk, hq => exact False.elim hq
  | .ok .cont, hq => exact False.elim hq
end
/-- a generator's loop: turns, what is out -/
def gWhileD : Nat → FT → FS → FE → FS → List PyData → Ev → M (List PyData)
  | 0, _, _, _, _, _ => fun _ _ => .bad
  | n + 1, t, pre, y, post, ys => fun ρ S => (noErr (t ρ S)).bind fun c S1 => if c = true then (match pre ρ S1 with
      | some (.next ρ1, S2) => if ys.length < LIM then (noErr (y ρ1 S2)).bind (fun d S3 => match d with
          | .p v => (match post ρ1 S3 with
            | some (.next ρ2, S4) => gWhileD n t pre y post (ys ++ [v]) ρ2 S4
            | _ => .bad)
          | _ => .bad) else .bad
      | _ => .bad) else .ok ys S1
/-- the whole of what a generator hands out: ini; while t: pre; yield y; post -/
def runG (m : Nat) (ini : FS) (n : Nat) (t : FT) (pre : FS) (y : FE) (post : FS) : List D → M D := fun ds S => match ini (ds.map some ++ List.replicate (m - ds.length) none) S with
  | some (.next ρ, S1) => (gWhileD n t pre y post [] ρ S1).bind fun ys S2 => .ok (.p (.list ys)) S2
  | _ => .bad
def spG (K : PySem.W.Frag) (n : Nat) (g : List D → M D) : SpG := fun vs H Q _ => ∃ G S ds, ds.length = n ∧ DenL K H G ds vs ∧ Rep K H G S ∧
  Aft K W0 [] H G S (noErr (cutX S.length (g ds S))) fun d H' G' _ => ∃ xs, d = .p (.list xs) ∧ ∀ vs, DnAll K G'.φ H' xs vs → Q vs H'
theorem nint {env : Env} (h : env.scope.kind = .function) : interactive env = false := by
  unfold interactive
  simp [h]
section
variable {P : Program} {w : World} {K : PySem.W.Frag} {mg : Str → Option Value} {base : Heap} {x qual : Str} {st : Stmt} {f : Addr} {fd : FuncData} {N ps : List Str} {k m n : Nat}
/-- what the loop has still to do -/
def GTo (K : PySem.W.Frag) (t : FT) (pre : FS) (y : FE) (post : FS) (Q : List V → Hp → Prop) (i : Nat) (ys : List V) (σ : L2.St) (H : Hp) : Prop :=
  ∃ G S ρ yd, RelS K H G ρ σ ∧ Rep K H G S ∧ DnAll K G.φ H yd ys ∧ Aft K W0 [] H G S (gWhileD i t pre y post yd ρ S) fun out H' G' _ => ∀ vs, DnAll K G'.φ H' out vs → Q vs H'
theorem gTo_turn {W : WX} {t : FT} {pre : FS} {y : FE} {post : FS} {Q : List V → Hp → Prop} {R : List V → VK} {i : Nat} {ys : List V} {σ : L2.St} {H : Hp} (h : GTo K t pre y post Q i ys σ H) :
    rdT K W t σ H fun b H1 => if b = true then ∃ N : List V → L2.St → Hp → Prop, (∀ ys' σ' H', N ys' σ' H' → ∃ m', m' < i ∧ GTo K t pre y post Q m' ys' σ' H') ∧
      tGThen (tPlain (rdS K W pre)) (tGThen (tGYield (rd K W y)) (tPlain (rdS K W post))) { nx := N, ct := N, bk := fun ys _ H' => Q ys H', rt := R } ys σ H1 else Q ys H1 := by
  obtain ⟨G, S, ρ, yd, rs, rp, dy, q⟩ := h
  cases i with
  | zero => exact q.elim
  | succ i =>
    refine ⟨G, S, ρ, rs, rp, ((Aft.bind q).noErr).mono fun b H1 G1 S1 x1 r1 q1 => ?_⟩
    cases b with
    | false =>
      rw [if_neg Bool.false_ne_true]
      simp only [Bool.false_eq_true, if_false] at q1
      exact q1 H1 G1 Ext.refl r1 ys (x1.dnAll rp dy)
    | true =>
      rw [if_pos rfl]
      simp only [if_true] at q1
      refine ⟨fun ys' σ' H' => GTo K t pre y post Q i ys' σ' H', fun ys' σ' H' h => ⟨i, Nat.lt_succ_self i, h⟩, ?_⟩
      refine ⟨G1, S1, ρ, x1.relS rp rs, r1, ?_⟩
      cases eo : pre ρ S1 with
      | none => rw [eo] at q1; exact q1.elim
      | some pr =>
        obtain ⟨fl, S2⟩ := pr
        rw [eo] at q1
        cases fl with
        | next ρ1 =>
          have q1 : Aft K W0 [] H1 G1 S1 (if yd.length < LIM then (noErr (y ρ1 S2)).bind (fun d S3 => match d with
            | .p v => (match post ρ1 S3 with
              | some (.next ρ2, S4) => gWhileD i t pre y post (yd ++ [v]) ρ2 S4
              | _ => .bad)
            | _ => .bad) else .bad) _ := q1
          by_cases hl : yd.length < LIM
          · rw [if_pos hl] at q1
            intro H2 G2 σ2 x2 r2 s2
            have q2 := Aft.from q1 x2
            have dy2 := x2.dnAll r1 (x1.dnAll rp dy)
            refine ⟨by rw [← dy.length]; exact Nat.lt_of_lt_of_le hl LIM_le, G2, S2, ρ1, s2, r2, ((Aft.bind q2).noErr).mono fun d H3 G3 S3 x3 r3 q3 v dv => ?_⟩
            cases d with
            | p pv =>
              refine ⟨G3, S3, ρ1, x3.relS r2 s2, r3, ?_⟩
              cases eo2 : post ρ1 S3 with
              | none => simp only [eo2] at q3; exact q3.elim
              | some pr2 =>
                obtain ⟨fl2, S4⟩ := pr2
                simp only [eo2] at q3
                cases fl2 with
                | next ρ2 =>
                  intro H4 G4 σ4 x4 r4 s4
                  refine ⟨G4, S4, ρ2, yd ++ [pv], s4, r4, ?_, Aft.from q3 x4⟩
                  exact (x4.dnAll r3 (x3.dnAll r2 dy2)).append (.cons (x4.dn r3 dv) .nil)
                | ret d => exact q3.elim
                | brk ρ2 => exact q3.elim
                | cont ρ2 => exact q3.elim
                | exc z ρ2 => exact q3.elim
            | ob _ => exact q3.elim
            | ro _ => exact q3.elim
            | ext _ => exact q3.elim
          · rw [if_neg hl] at q1; exact q1.elim
        | ret d => exact q1.elim
        | brk ρ1 => exact q1.elim
        | cont ρ1 => exact q1.elim
        | exc z ρ1 => exact q1.elim
theorem gfn_data {ini0 pre0 : Stmt} {post0 : List Stmt} {c y0 : Expr} {yp ypos wpos : Pos} (F : Fun K x qual st f fd) (Sc : GScope N ps (defScope st)) (hm : N.length = m) (hn : ps.length = n)
    (hst : defBody st = [ini0, .While c (pre0 :: .Expr (.Yield (some y0) yp) ypos :: post0) [] wpos]) (ini : FS) (fuel : Nat) (t : FT) (pre : FS) (y : FE) (post : FS)
    (hb : ∀ (cdv : Value) (A : Around) (outer : List Env) (s : Shared) (H : Hp) (E : XK) (pn : List (Addr × Obj)), Cw (gcxOf P w K mg base N qual (defScope st) f cdv A outer s H E pn) (WE E) k → Po (gcxOf P w K mg base N qual (defScope st) f cdv A outer s H E pn) →
      DS (gcxOf P w K mg base N qual (defScope st) f cdv A outer s H E pn) (WE E) ini0 ini ∧ DT (gcxOf P w K mg base N qual (defScope st) f cdv A outer s H E pn) (WE E) c t ∧
      DS (gcxOf P w K mg base N qual (defScope st) f cdv A outer s H E pn) (WE E) pre0 pre ∧ DE (gcxOf P w K mg base N qual (defScope st) f cdv A outer s H E pn) (WE E) y0 y ∧
      DSs (gcxOf P w K mg base N qual (defScope st) f cdv A outer s H E pn) (WE E) post0 post) :
    GFn P w K mg base (k + 1) f fd ps (spG K n (runG m ini fuel t pre y post)) := by
  subst hm hn
  obtain ⟨oc, od, kV, doc, pm, an, cdv, ct, osl, rfl, lk, hcd⟩ := F.ex
  refine gfn_of lk hcd Sc (fun vs H Q E ⟨G, S, ds, hl, dl, _⟩ => by rw [← dl.length]; exact hl) fun A outer s H vs Q E pn hr ⟨G, S, ds, hl, dl, rp, q⟩ => ?_
  obtain ⟨h1, h2, h3, h4, h5⟩ := hb cdv A outer s H E pn ⟨hr, takes_gcx⟩ owns_gcx
  rw [hst]
  refine ⟨tGThen (tPlain (rdS K (WE E) ini)) (tGThen (tGWhile (rdT K (WE E) t) (tGThen (tPlain (rdS K (WE E) pre)) (tGThen (tGYield (rd K (WE E) y)) (tPlain (rdS K (WE E) post))))) tG0),
    gss_cons (gs_ps h1.run) (gss_cons (gs_while owns_gcx h2.run (gss_cons (gs_ps h3.run) (gss_cons (gs_yield h4.run Sc.co (nint Sc.kind)) (gss_pss h5.run)))) gss_nil), ?_⟩
  refine ⟨G, S, ds.map some ++ List.replicate (N.length - ds.length) none, by rw [dl.length]; exact RelS.ofArgs (N.length - vs.length) dl, rp, ?_⟩
  unfold runG at q
  cases eo : ini (ds.map some ++ List.replicate (N.length - ds.length) none) S with
  | none => rw [eo] at q; exact q.elim
  | some pr =>
    obtain ⟨fl, S1⟩ := pr
    rw [eo] at q
    cases fl with
    | next ρ =>
      intro H1 G1 σ1 x1 r1 s1
      refine ⟨fun i ys σ H => GTo K t pre y post Q i ys σ H, ⟨fuel, G1, S1, ρ, [], s1, r1, .nil, ?_⟩, fun i ys σ H h => gTo_turn h⟩
      dsimp only at q
      cases eg : gWhileD fuel t pre y post [] ρ S1 with
      | ok out S2 =>
        rw [eg] at q
        intro H2 G2 x2 r2 us du
        obtain ⟨xs, ex, hq⟩ := q H2 _ ((x1.trans x2).cut rp) (r2.cut _)
        injection ex with ex
        injection ex with ex
        subst ex
        exact hq us du
      | err z S2 => rw [eg] at q; exact q.elim
      | bad => rw [eg] at q; exact q.elim
    | ret d => exact q.elim
    | brk ρ1 => exact q.elim
    | cont ρ1 => exact q.elim
    | exc z ρ1 => exact q.elim
end
def onlyL : D → M D := fun d S => match d with
  | .p (.list xs) => .ok (.p (.list xs)) S
  | _ => .bad
def eListG (n : Nat) (g : List D → M D) (fa : FA) : FE := fun ρ S => (noErr (fa ρ S)).bind fun ds S1 => if ds.length = n then (noErr (cutX S1.length (g ds S1))).bind onlyL else .bad
theorem noErr_any {α : Type} {K : PySem.W.Frag} {W W' : WX} {σ σ' : L2.St} {H : Hp} {G : Gh} {S : Sto} {o : Out α} {P : α → Hp → Gh → Sto → Prop} (h : Aft K W σ H G S (noErr o) P) : Aft K W' σ' H G S (noErr o) P := by
  cases o with
  | ok a S' => exact h
  | err x S' => exact h
  | bad => exact h
/-- a generator def's promise somewhere below, or nothing at all -/
def GP (P : Program) (w : World) (K : PySem.W.Frag) (mg : Str → Option Value) (base : Heap) (k : Nat) (f : Addr) (fd : FuncData) (ps : List Str) (n : Nat) (g : List D → M D) : Prop :=
  (∃ j, j + 1 ≤ k ∧ GFn P w K mg base j f fd ps (spG K n g)) ∨ g = fun _ _ => .bad
theorem noStop0 {K : PySem.W.Frag} : NoStop K E0 := fun _ _ _ h => h.elim
section
variable {X : Cx} {W : WX} {k n : Nat} {f : Addr} {fd : FuncData} {ps : List Str} {x : Str} {p p2 pos pos2 : Pos} {e : Expr} {es : List Expr} {fa : FA} {g : List D → M D}
theorem de_listG (F : GP X.prog X.w X.K X.mg X.base k f fd ps n g) (hr : Room (k + 2) X.A) (hl : Gl X "list") (hml : X.mg "list" = none) (hg : Gl X x) (hm : X.mg x = some (.ref f)) (hk : PySem.W.keepIn X.K (.ref f) = true) (hb : Binds X.K fd ps [])
    (ha : DA X W (e :: es) fa) (hdb : (x == ("__debug__" : Str)) = false := by decide) (he : starEach (e :: es) X.env = (false, eval e X.env) :: starEach es X.env := by rfl) (hpl : (backTo pos (starEach es X.env)).any (·.1) = false := by rfl)
    (he2 : starEach [.Call (.Name x p) (e :: es) [] pos] X.env = (false, eval (.Call (.Name x p) (e :: es) [] pos) X.env) :: starEach [] X.env := by rfl) :
    DE X W (.Call (.Name "list" p2) [.Call (.Name x p) (e :: es) [] pos] [] pos2) (eListG n g fa) := by
  rcases F with ⟨j, hj, F⟩ | hbad
  · refine ⟨PE.imp (pe_listG (pgen_call (E := E0) F (hr.mono (by omega)) hg hm hk hb .nil ha.run hdb he hpl) passL noStop0 (hr.mono (by omega)) hl hml (by decide +kernel) (he := he2)) fun σ H Q ⟨G, S, ρ, rs, rp, q⟩ => ?_⟩
    refine ⟨G, S, ρ, rs, rp, ((Aft.bind q).noErr).mono fun ds H1 G1 S1 x1 r1 q1 vs dv => ?_⟩
    by_cases hl : ds.length = n
    · simp only [if_pos hl] at q1
      show spG X.K n g (vs ++ []) H1 _ E0
      rw [List.append_nil]
      refine ⟨G1, S1, ds, hl, dv, r1, (noErr_any (Aft.bind q1)).mono fun d H2 G2 S2 x2 r2 q2 => ?_⟩
      unfold onlyL at q2
      split at q2
      · rename_i xs
        exact ⟨xs, rfl, fun us du p hp => q2.newLst r2 du hp⟩
      · exact q2.elim
    · simp only [if_neg hl] at q1; exact q1.elim
  · refine ⟨PE.imp (t := fun _ _ _ => False) ⟨fun _ _ _ _ _ _ h => h.elim⟩ fun σ H Q ⟨G, S, ρ, rs, rp, q⟩ => ?_⟩
    subst hbad
    unfold eListG at q
    cases eo : fa ρ S with
    | ok ds S1 =>
      rw [eo] at q
      by_cases hl : ds.length = n
      · simp only [noErr, Out.bind, if_pos hl, cutX] at q; exact q.elim
      · simp only [noErr, Out.bind, if_neg hl] at q; exact q.elim
    | err z S1 => rw [eo] at q; exact q.elim
    | bad => rw [eo] at q; exact q.elim
end
end DL
namespace SS
open PySem PySem.Spec PyProof.Rows PySem.Froz
def stepR (l : List Str) (v : Str) : List Str := if v ∈ l then l else v :: l
def dedR (xs : List Str) : List Str := xs.foldl stepR []
theorem dedR_snoc (xs : List Str) (v : Str) : dedR (xs ++ [v]) = stepR (dedR xs) v := by simp [dedR]
theorem stepR_len (l : List Str) (v : Str) : (stepR l v).length ≤ l.length + 1 := by
  unfold stepR; split <;> simp
theorem foldR_le : ∀ (xs l : List Str), (xs.foldl stepR l).length ≤ l.length + xs.length
  | [], l => Nat.le_refl _
  | x :: r, l => by
    have h := foldR_le r (stepR l x)
    have h2 := stepR_len l x
    rw [List.foldl_cons, List.length_cons]
    omega
theorem dedR_le (xs : List Str) : (dedR xs).length ≤ xs.length := by
  have := foldR_le xs []
  simpa [dedR] using this
def strOf : Value → Str
  | .str k _ => k
  | _ => Str.empty
/-- the set of the texts l at a, with its table -/
def SX (P : Program) (w : World) (h : Heap) (a : Addr) (l : List Str) : Prop :=
  ∃ D : SD, h.get? a = some (sObj "set" D) ∧ TxOk P w D l ∧ L2.Ris D.2.2.place.toList ∧ (w.params.followText "set-order" = true ∨ D.2.2.led = true) ∧ (D.1.toList.map fun e => strOf e.2).Perm l
theorem SX.at {P : Program} {w : World} {h h' : Heap} {a : Addr} {l : List Str} (x : SX P w h a l) (k : ∀ o, h.get? a = some o → h'.get? a = some o) : SX P w h' a l := by
  obtain ⟨D, ho, r⟩ := x
  exact ⟨D, k _ ho, r⟩
theorem SX.fresh {P : Program} {w : World} {h : Heap} {a : Addr} (e : h.get? a = some { cls := .type "set", dict := none, data := .set #[] 0 (.fresh 0 0 (!w.params.followText "set-order")) }) : SX P w h a [] :=
  ⟨(#[], 0, .fresh 0 0 (!w.params.followText "set-order")), e, TxOk.nil (by rfl), List.Pairwise.nil, by
    show _ ∨ (!w.params.followText "set-order") = true
    cases w.params.followText "set-order"
    · exact .inr rfl
    · exact .inl rfl, List.Perm.refl _⟩
/-- behind an add -/
theorem tail_keep {ep : Nat} {es : Array (Int × Value)} {t : SetTable} {wd : Bool} (r : L2.Ris t.place.toList) : L2.Ris (tailTx ep es t wd).2.2.place.toList ∧ (tailTx ep es t wd).2.2.led = t.led ∧ (tailTx ep es t wd).1.toList.Perm es.toList := by
  unfold tailTx
  split
  · exact ⟨L2.relayAll_ris _ _ _, L2.relayAll_led _ _ _, relayAll_perm _ _ _⟩
  · exact ⟨r, rfl, List.Perm.refl _⟩
theorem add_keep {h : Int} {v : Value} {D : SD} (r : L2.Ris D.2.2.place.toList) : L2.Ris (addTx h v D).2.2.place.toList ∧ (addTx h v D).2.2.led = D.2.2.led ∧ (addTx h v D).1.toList.Perm (D.1.push (h, v)).toList := by
  obtain ⟨es, ep, t⟩ := D
  have r1 := L2.layNew_ris t es h v r
  have l1 := L2.layNew_led t es h v
  have p1 := layNew_perm t es h v
  unfold addTx
  dsimp only
  by_cases c : (layNew t es h v).2.1.plain = true
  · rw [if_pos c]
    obtain ⟨a, b, c⟩ := tail_keep (ep := ep) (es := (layNew t es h v).1) (wd := (layNew t es h v).2.2.1) (t := { (layNew t es h v).2.1 with plain := false }) r1
    exact ⟨a, b.trans l1, c.trans p1⟩
  · rw [if_neg c]
    obtain ⟨a, b, c⟩ := tail_keep (ep := ep) (es := (layNew t es h v).1) (wd := (layNew t es h v).2.2.1) (t := (layNew t es h v).2.1) r1
    exact ⟨a, b.trans l1, c.trans p1⟩
section
variable {prog : Program} {w : World} {A : Around} {E : Value → Shared → Prop} {s : Shared}
theorem dup_x {a : Addr} {D : SD} {l : List Str} {k : Str} {u : Tok} {Q : Bool → Shared → Prop} (ho : s.heap.get? a = some (sObj "set" D)) (F : TxOk prog w D l) (hk : k ∈ l) (hb : l.length < scanBound)
    (h : ∀ b, Q b s) : wpAny (model prog w) A (setAddHashed a (.str k u) (hashStr w k)) Q E s := by
  obtain ⟨es, ep, t⟩ := D
  have hd : (sObj "set" (es, ep, t)).data = .set es ep t := rfl
  have hf : t.fits es.size = true := F.fit
  have hel : ElemsOf (strKind prog w) es.toList := F.el
  have hsz : es.size = l.length := F.sz
  have hb0 : es.size < scanBound := by omega
  have hkey : (strKind prog w).is k (.str k u) = true := is_str k u
  obtain ⟨e, he, hke⟩ := (F.mem k).mp hk
  have hsome : ∃ j, List.findIdx? (fun e => (strKind prog w).is k e.2) es.toList = some j := by
    cases hr : List.findIdx? (fun e => (strKind prog w).is k e.2) es.toList with
    | none =>
      have := List.findIdx?_eq_none_iff.mp hr e he
      rw [hke] at this; cases this
    | some j => exact ⟨j, rfl⟩
  obtain ⟨j, hj⟩ := hsome
  unfold setAddHashed setAddHashedIn
  refine wpAny_holding (wpAny_bind (wpAny_setState_of ho hd hf ?_))
  dsimp only
  rw [byScan_of rfl hb0 hel]
  simp only [↓reduceIte]
  unfold setAddByScan
  refine wpAny_bind ?_
  refine wpAny_bind (wpAny_rule ?_)
  refine wpAny_bind (wpAny_setScan_of (knd := strKind prog w) (k := k) hkey ho hd hf hel ?_)
  rw [hj]
  dsimp only
  repeat (first | exact h _ | refine wpAny_pure ?_)
theorem step_x {a : Addr} {l : List Str} {k : Str} {u : Tok} {Q : Bool → Shared → Prop} (x : SX prog w s.heap a l) (hb : l.length + 1 < scanBound)
    (h : ∀ (b : Bool) (h' : Heap), (∀ c, c ≠ a → h'.get? c = s.heap.get? c) → SX prog w h' a (stepR l k) → Q b { s with heap := h' }) :
    wpAny (model prog w) A (setAddHashed a (.str k u) ((strKind prog w).hash k)) Q E s := by
  obtain ⟨D, ho, F, r, hl, pm⟩ := x
  show wpAny (model prog w) A (setAddHashed a (.str k u) (hashStr w k)) Q E s
  by_cases hk : k ∈ l
  · refine dup_x ho F hk (by omega) fun b => ?_
    exact h b s.heap (fun _ _ => rfl) (by unfold stepR; rw [if_pos hk]; exact ⟨D, ho, F, r, hl, pm⟩)
  · refine add_x ho F hk hb ?_
    refine h true _ (fun c hc => Heap.get?_update_other _ _ (Ne.symm hc)) ?_
    obtain ⟨k1, k2, k3⟩ := add_keep (h := hashStr w k) (v := .str k u) (D := D) r
    unfold stepR
    rw [if_neg hk]
    refine ⟨_, get_upd _ ho rfl, add_ok u F, k1, hl.imp id fun z => k2.trans z, ?_⟩
    refine (k3.map _).trans ?_
    rw [Array.toList_push, List.map_append]
    exact List.perm_append_comm.trans (pm.cons k)
theorem code_set_led1 (a : Value) {Q₁ : Value → Shared → Prop}
    (h : Q₁ (.ref s.heap.objs.size) { s with heap := s.heap.push { cls := .type "set", dict := none, data := .set #[] 0 (.fresh 0 0 (!w.params.followText "set-order")) } }) :
    codeAny (model prog w) A (.call (.builtin "set.__new__") ⟨[.type "set", a], []⟩) (wants Q₁ E) s := by
  refine codeAny_of_tree ?_
  show wpAny _ A.in1 (do checkBuiltinCall "set.__new__" ⟨[.type "set", a], []⟩; again (.builtin "set.__new__" ⟨[.type "set", a], []⟩)) _ _ s
  refine wpAny_bind (wpAny_of_eq (F.newCall_set_1 a) (wpAny_pure ⟨plainId_quiet F.plain_set_new _, codeAny_builtin F.entry_set_new ?_⟩))
  rw [Around.under_plainId F.plain_set_new _]
  unfold Builtin.«set.__new__» Builtin.Frozenset.newClass
  have hsub := sub_set_self
  obtain ⟨hp, g, d, tk, os⟩ := s
  dsimp only
  wp_walk
  refine wpAny_askSetting (wpAny_pure ?_)
  dsimp only
  simp only [newObj]
  refine wpAny_bind (wpAny_alloc (wpAny_pure ?_))
  exact wpAny_pure h
end
section
variable {prog : Program} {w : World} {A : Around} {R : Result → Shared → Prop} {I : Addr} {fp wr : List Addr} {G : Array GenState → Array GenState → Prop} {n : Nat} {P : Nat → Value → Prop} {St : Nat → Shared → Prop}
theorem loopStrX (W : WalksS prog w A.in1 I fp wr G n P St) (S : Addr) (hSf : S ∉ fp) (xs : List Str) (hsz : xs.length = n) (hb : n + 1 < scanBound)
    (hval : ∀ i v, P i v → ∃ t, v = .str (xs.getD i Str.empty) t) :
    ∀ (k i : Nat) (s : Shared), n - i = k → i ≤ n → St i s →
      SX prog w s.heap S (dedR (xs.take i)) →
      (∀ s', Moved (S :: wr) G s s' → SX prog w s'.heap S (dedR (xs.take n)) → R (.ok (.ret .none)) s') →
      codeAny (model prog w) A (.builtin "set.update.loop" ⟨[.ref S, .ref I], []⟩) R s := by
  have hSw : S ∉ wr := fun h => hSf (W.sub _ h)
  have hsub : ∀ b ∈ wr, b ∈ S :: wr := fun b hb => List.mem_cons_of_mem _ hb
  intro k
  induction k with
  | zero =>
    intro i s hk hi hst hS hR
    have hin : i = n := by omega
    subst hin
    refine codeAny_builtin PyProof.Rows.F.entry_set_update_loop ?_
    rw [Around.under_plainId PyProof.Rows.F.plain_set_update_loop _]
    show wpAny _ A.in1 (pyNext (.ref I) >>= _) _ _ s
    refine wpAny_bind (W.done s _ _ hst fun s' hm => ?_)
    show wpAny _ A.in1 (ret Value.none) _ _ s'
    exact wpAny_pure (hR s' (hm.mono hsub) (by
      exact hS.at fun o ho => hm.heap S _ hSw ho))
  | succ k ih =>
    intro i s hk hi hst hS hR
    have hlt : i < n := by omega
    refine codeAny_builtin PyProof.Rows.F.entry_set_update_loop ?_
    rw [Around.under_plainId PyProof.Rows.F.plain_set_update_loop _]
    show wpAny _ A.in1 (pyNext (.ref I) >>= _) _ _ s
    refine wpAny_bind (W.item i s _ _ hlt hst fun v s' hP hst' hm => ?_)
    obtain ⟨t, rfl⟩ := hval i v hP
    have hS' : SX prog w s'.heap S (dedR (xs.take i)) := by
      exact hS.at fun o ho => hm.heap S _ hSw ho
    show wpAny _ A.in1 (holding [Value.str (xs.getD i Str.empty) t] (setAdd S (.str (xs.getD i Str.empty) t)) >>= _) _ _ s'
    refine wpAny_bind (wpAny_holding ?_)
    unfold setAdd
    refine wpAny_holding ?_
    refine wpAny_bind ((PySem.strKind prog w).pyHash (k := xs.getD i Str.empty) (strKind_is _ _ _ _) ?_)
    refine step_x (s := { s' with toks := s'.toks + 1 }) hS' (by have := dedR_le (xs.take i); rw [List.length_take] at this; omega) fun b0 h' hsb hS2 => ?_
    have ht : xs.take (i + 1) = xs.take i ++ [xs.getD i Str.empty] := by
      have hi2 : i < xs.length := by omega
      rw [List.take_succ, List.getElem?_eq_getElem hi2, List.getD_eq_getElem?_getD, List.getElem?_eq_getElem hi2]
      rfl
    have hSi : SX prog w h' S (dedR (xs.take (i + 1))) := by rw [ht, dedR_snoc]; exact hS2
    refine wpAny_pure ⟨plainId_quiet PyProof.Rows.F.plain_set_update_loop _, ih (i + 1) _ (by omega) hlt (W.frame _ s' _ _ hst' (Nat.le_succ _) fun b hb o e => ?_) hSi fun s'' hm'' hS'' => ?_⟩
    · rw [hsb b (fun h : b = S => hSf (by rw [← h]; exact hb))]; exact e
    · refine hR s'' (Moved.trans W.gtrans ((hm.mono hsub).then_heap (Nat.le_succ _) fun b o hb e => ?_) hm'') hS''
      rw [hsb b (fun h : b = S => hb (by rw [h]; exact List.mem_cons_self))]; exact e
end
section
variable {prog : Program} {w : World} {A : Around} {E : Value → Shared → Prop} {s : Shared}
set_option maxHeartbeats 3200000 in
theorem call_set_listX {l : Addr} {items : Array Value} {xs : List Str} {Q : Value → Shared → Prop}
    (hh : A.handled = none) (hl : s.heap.IsList l items) (hi : PyProof.Rows.StrsAre items.toList xs) (hb : items.size + 1 < scanBound)
    (h : ∀ (h' : Heap) (tk : Nat), SX prog w h' s.heap.objs.size (dedR (xs.take items.size)) →
      (∀ b o, b < s.heap.objs.size → s.heap.get? b = some o → h'.get? b = some o) → Q (.ref s.heap.objs.size) { s with heap := h', toks := tk }) :
    wpAny (model prog w) A (call (.type "set") [.ref l]) Q E s := by
  obtain ⟨c, tl, hmro⟩ := PySem.F.called_set.mro
  have hmade := PySem.F.called_set.made
  have hsub := PySem.F.called_set.sub
  refine wpAny_call (codeAny_of_tree ?_)
  show wpAny _ _ (callAny (.type "set") _) _ _ _
  refine wpAny_pure ⟨Code.quiet_builtin _ (by decide +kernel), codeAny_builtin PySem.F.entry_type_call ?_⟩
  rw [Around.under_plain (weight_type_call_type "set" [.ref l] []) rfl]
  have h1 := PySem.F.called_set.notType
  have h2 := PySem.F.called_set.canCreate
  have hct := PySem.F.typeCall_set_1 (.ref l)
  repeat (any_goals (first | assumption | wp_step))

  refine codeAny_mono (code_set_led1 (.ref l) (E := E) (Q₁ := fun obj s₁ => obj = .ref s.heap.objs.size ∧ s₁ = { s with heap := s.heap.push { cls := .type "set", dict := none, data := .set #[] 0 (.fresh 0 0 (!w.params.followText "set-order")) } }) ⟨rfl, rfl⟩) fun r s₁ hr => ?_
  cases r with
  | error e => exact hr
  | ok fl =>
    cases fl with
    | ret obj =>
      obtain ⟨rfl, rfl⟩ := hr
      have hS : (s.heap.push { cls := .type "set", dict := none, data := .set #[] 0 (.fresh 0 0 (!w.params.followText "set-order")) }).get? s.heap.objs.size = some { cls := .type "set", dict := none, data := .set #[] 0 (.fresh 0 0 (!w.params.followText "set-order")) } := Heap.get?_push_size _ rfl
      have hT : Shared.TypeIs { s with heap := s.heap.push { cls := .type "set", dict := none, data := .set #[] 0 (.fresh 0 0 (!w.params.followText "set-order")) } } (.ref s.heap.objs.size) "set" := ⟨_, hS, rfl⟩
      have hli := PySem.F.called_set.init.lookup
      have hbi := PySem.F.called_set.init.bind (.ref s.heap.objs.size)
      repeat (any_goals (first | assumption | wp_step))

      refine codeAny_mono (codeAny_call_builtin (R := wants (fun r s₂ => r = .none ∧ ∃ h' tk, s₂ = { s with heap := h', toks := tk } ∧
          SX prog w h' s.heap.objs.size (dedR (xs.take items.size)) ∧
          (∀ b o, b < s.heap.objs.size → s.heap.get? b = some o → h'.get? b = some o)) E) PySem.F.called_set.init.plain PySem.F.entry_set_init (check_set_init_1 hT ?_)) fun r₂ s₂ hr₂ => ?_
      · obtain ⟨ol, hol, hcl, nl, hdl⟩ := hl
        obtain ⟨ocls, odict, odata, oslots⟩ := ol
        simp only at hcl hdl
        subst hcl; subst hdl
        have hol' : (s.heap.push { cls := .type "set", dict := none, data := .set #[] 0 (.fresh 0 0 (!w.params.followText "set-order")) }).get? l = some { cls := .type "list", dict := odict, data := .seq items nl, slots := oslots } := Heap.get?_push_of_some _ hol
        have hsls := PySem.F.sub_list_set
        have hslf := PySem.F.sub_list_frozenset
        have hne : (Value.type "list" == Value.type "dict") = false := by decide
        have hl1 : (s.heap.push { cls := .type "set", dict := none, data := .set #[] 0 (.fresh 0 0 (!w.params.followText "set-order")) }).IsList l items := ⟨_, hol', rfl, nl, rfl⟩
        unfold Builtin.«set.__init__» noKeywords Builtin.Frozenset.updateFrom
        generalize hPI : pyIter = PI
        wp_walk
        subst hPI

        refine wpAny_pyIter_list hl1 ?_
        refine wpAny_bind (wpAny_runValue ?_)
        have hlS : l < s.heap.objs.size := Heap.lt_size hol
        have hh3 : A.in1.in1.in1.handled = none := by simp [hh]
        have hneI : l ≠ (s.heap.push { cls := .type "set", dict := none, data := .set #[] 0 (.fresh 0 0 (!w.params.followText "set-order")) }).objs.size := by
          rw [Heap.size_push]; exact Nat.ne_of_lt (Nat.lt_succ_of_lt hlS)
        have hSf : s.heap.objs.size ∉ [(s.heap.push { cls := .type "set", dict := none, data := .set #[] 0 (.fresh 0 0 (!w.params.followText "set-order")) }).objs.size, l] := by
          rw [Heap.size_push]; simp only [List.mem_cons, List.mem_singleton, List.not_mem_nil, or_false, not_or]
          exact ⟨Nat.ne_of_lt (Nat.lt_succ_self _), Nat.ne_of_gt hlS⟩
        have hsz : xs.length = items.size := by rw [← StrsAre.len_eq hi, Array.length_toList]
        have hval : ∀ (i : Nat) (v : Value), items[i]? = some v → ∃ t, v = .str (xs.getD i Str.empty) t := fun i v hv => strs_at hi i v (by rw [Array.getElem?_toList]; exact hv)
        refine loopStrX ((Walks.list hh3 _ l hneI items).toS) s.heap.objs.size
          hSf xs hsz hb hval (items.size - 0) 0 _ (by omega) (Nat.zero_le _)
          ⟨⟨_, Heap.get?_push_size _ rfl, rfl, rfl⟩, (hl1.push _)⟩ ?hS0 ?hR
        case hS0 =>
          have hget : ((s.heap.push { cls := .type "set", dict := none, data := .set #[] 0 (.fresh 0 0 (!w.params.followText "set-order")) }).push { cls := .type "list_iterator", data := .fields #[.ref l, .int 0 0] }).get? s.heap.objs.size
              = some { cls := .type "set", dict := none, data := .set #[] 0 (.fresh 0 0 (!w.params.followText "set-order")) } := Heap.get?_push_of_some _ hS
          exact SX.fresh hget
        case hR =>
          intro s' hm hS'
          obtain ⟨h', g', d', tk', os'⟩ := s'
          have eg : g' = s.gens := hm.gens
          have ed : d' = s.drawn := hm.drawn
          have eo : os' = s.os := hm.os
          subst eg; subst ed; subst eo
          show wpAny _ _ _ _ _ _
          refine wpAny_pure ?_
          show wpAny _ _ (ret Value.none) _ _ _
          refine wpAny_pure ⟨rfl, h', tk', rfl, hS', fun b o hb e => ?_⟩
          have hb1 : b ≠ s.heap.objs.size := Nat.ne_of_lt hb
          have hb2 : b ≠ (s.heap.push { cls := .type "set", dict := none, data := .set #[] 0 (.fresh 0 0 (!w.params.followText "set-order")) }).objs.size := by
            rw [Heap.size_push]; exact Nat.ne_of_lt (Nat.lt_succ_of_lt hb)
          exact hm.heap b o (by simp only [List.mem_cons, List.mem_singleton, List.not_mem_nil, or_false, not_or]; exact ⟨hb1, hb2⟩) (Heap.get?_push_of_some _ (Heap.get?_push_of_some _ e))

      · cases r₂ with
        | error e => exact hr₂
        | ok fl₂ =>
          cases fl₂ with
          | ret r =>
            obtain ⟨rfl, h', tk, rfl, hS', hk'⟩ := hr₂
            repeat (any_goals (first | assumption | wp_step))
            exact h _ _ hS' hk'
          | _ => exact hr₂.elim
    | _ => exact hr.elim
set_option maxHeartbeats 3200000 in
theorem call_set_tupleX {l : Addr} {items : Array Value} {xs : List Str} {Q : Value → Shared → Prop}
    (hh : A.handled = none) (hl : s.heap.IsTuple l items) (hi : PyProof.Rows.StrsAre items.toList xs) (hb : items.size + 1 < scanBound)
    (h : ∀ (h' : Heap) (tk : Nat), SX prog w h' s.heap.objs.size (dedR (xs.take items.size)) →
      (∀ b o, b < s.heap.objs.size → s.heap.get? b = some o → h'.get? b = some o) → Q (.ref s.heap.objs.size) { s with heap := h', toks := tk }) :
    wpAny (model prog w) A (call (.type "set") [.ref l]) Q E s := by
  obtain ⟨c, tl, hmro⟩ := PySem.F.called_set.mro
  have hmade := PySem.F.called_set.made
  have hsub := PySem.F.called_set.sub
  refine wpAny_call (codeAny_of_tree ?_)
  show wpAny _ _ (callAny (.type "set") _) _ _ _
  refine wpAny_pure ⟨Code.quiet_builtin _ (by decide +kernel), codeAny_builtin PySem.F.entry_type_call ?_⟩
  rw [Around.under_plain (weight_type_call_type "set" [.ref l] []) rfl]
  have h1 := PySem.F.called_set.notType
  have h2 := PySem.F.called_set.canCreate
  have hct := PySem.F.typeCall_set_1 (.ref l)
  repeat (any_goals (first | assumption | wp_step))

  refine codeAny_mono (code_set_led1 (.ref l) (E := E) (Q₁ := fun obj s₁ => obj = .ref s.heap.objs.size ∧ s₁ = { s with heap := s.heap.push { cls := .type "set", dict := none, data := .set #[] 0 (.fresh 0 0 (!w.params.followText "set-order")) } }) ⟨rfl, rfl⟩) fun r s₁ hr => ?_
  cases r with
  | error e => exact hr
  | ok fl =>
    cases fl with
    | ret obj =>
      obtain ⟨rfl, rfl⟩ := hr
      have hS : (s.heap.push { cls := .type "set", dict := none, data := .set #[] 0 (.fresh 0 0 (!w.params.followText "set-order")) }).get? s.heap.objs.size = some { cls := .type "set", dict := none, data := .set #[] 0 (.fresh 0 0 (!w.params.followText "set-order")) } := Heap.get?_push_size _ rfl
      have hT : Shared.TypeIs { s with heap := s.heap.push { cls := .type "set", dict := none, data := .set #[] 0 (.fresh 0 0 (!w.params.followText "set-order")) } } (.ref s.heap.objs.size) "set" := ⟨_, hS, rfl⟩
      have hli := PySem.F.called_set.init.lookup
      have hbi := PySem.F.called_set.init.bind (.ref s.heap.objs.size)
      repeat (any_goals (first | assumption | wp_step))

      refine codeAny_mono (codeAny_call_builtin (R := wants (fun r s₂ => r = .none ∧ ∃ h' tk, s₂ = { s with heap := h', toks := tk } ∧
          SX prog w h' s.heap.objs.size (dedR (xs.take items.size)) ∧
          (∀ b o, b < s.heap.objs.size → s.heap.get? b = some o → h'.get? b = some o)) E) PySem.F.called_set.init.plain PySem.F.entry_set_init (check_set_init_1 hT ?_)) fun r₂ s₂ hr₂ => ?_
      · obtain ⟨ol, hol, hcl, nl, hdl⟩ := hl
        obtain ⟨ocls, odict, odata, oslots⟩ := ol
        simp only at hcl hdl
        subst hcl; subst hdl
        have hol' : (s.heap.push { cls := .type "set", dict := none, data := .set #[] 0 (.fresh 0 0 (!w.params.followText "set-order")) }).get? l = some { cls := .type "tuple", dict := odict, data := .seq items nl, slots := oslots } := Heap.get?_push_of_some _ hol
        have hsls := PySem.F.sub_tuple_set
        have hslf := PySem.F.sub_tuple_frozenset
        have hne : (Value.type "tuple" == Value.type "dict") = false := by decide
        have hl1 : (s.heap.push { cls := .type "set", dict := none, data := .set #[] 0 (.fresh 0 0 (!w.params.followText "set-order")) }).IsTuple l items := ⟨_, hol', rfl, nl, rfl⟩
        unfold Builtin.«set.__init__» noKeywords Builtin.Frozenset.updateFrom
        generalize hPI : pyIter = PI
        wp_walk
        subst hPI

        refine wpAny_pyIter_tuple hl1 ?_
        refine wpAny_bind (wpAny_runValue ?_)
        have hlS : l < s.heap.objs.size := Heap.lt_size hol
        have hh3 : A.in1.in1.in1.handled = none := by simp [hh]
        have hneI : l ≠ (s.heap.push { cls := .type "set", dict := none, data := .set #[] 0 (.fresh 0 0 (!w.params.followText "set-order")) }).objs.size := by
          rw [Heap.size_push]; exact Nat.ne_of_lt (Nat.lt_succ_of_lt hlS)
        have hSf : s.heap.objs.size ∉ [(s.heap.push { cls := .type "set", dict := none, data := .set #[] 0 (.fresh 0 0 (!w.params.followText "set-order")) }).objs.size, l] := by
          rw [Heap.size_push]; simp only [List.mem_cons, List.mem_singleton, List.not_mem_nil, or_false, not_or]
          exact ⟨Nat.ne_of_lt (Nat.lt_succ_self _), Nat.ne_of_gt hlS⟩
        have hsz : xs.length = items.size := by rw [← StrsAre.len_eq hi, Array.length_toList]
        have hval : ∀ (i : Nat) (v : Value), items[i]? = some v → ∃ t, v = .str (xs.getD i Str.empty) t := fun i v hv => strs_at hi i v (by rw [Array.getElem?_toList]; exact hv)
        refine loopStrX ((Walks.tuple hh3 _ l hneI items).toS) s.heap.objs.size
          hSf xs hsz hb hval (items.size - 0) 0 _ (by omega) (Nat.zero_le _)
          ⟨⟨_, Heap.get?_push_size _ rfl, rfl, rfl⟩, (hl1.push _)⟩ ?hS0 ?hR
        case hS0 =>
          have hget : ((s.heap.push { cls := .type "set", dict := none, data := .set #[] 0 (.fresh 0 0 (!w.params.followText "set-order")) }).push { cls := .type "tuple_iterator", data := .fields #[.ref l, .int 0 0] }).get? s.heap.objs.size
              = some { cls := .type "set", dict := none, data := .set #[] 0 (.fresh 0 0 (!w.params.followText "set-order")) } := Heap.get?_push_of_some _ hS
          exact SX.fresh hget
        case hR =>
          intro s' hm hS'
          obtain ⟨h', g', d', tk', os'⟩ := s'
          have eg : g' = s.gens := hm.gens
          have ed : d' = s.drawn := hm.drawn
          have eo : os' = s.os := hm.os
          subst eg; subst ed; subst eo
          show wpAny _ _ _ _ _ _
          refine wpAny_pure ?_
          show wpAny _ _ (ret Value.none) _ _ _
          refine wpAny_pure ⟨rfl, h', tk', rfl, hS', fun b o hb e => ?_⟩
          have hb1 : b ≠ s.heap.objs.size := Nat.ne_of_lt hb
          have hb2 : b ≠ (s.heap.push { cls := .type "set", dict := none, data := .set #[] 0 (.fresh 0 0 (!w.params.followText "set-order")) }).objs.size := by
            rw [Heap.size_push]; exact Nat.ne_of_lt (Nat.lt_succ_of_lt hb)
          exact hm.heap b o (by simp only [List.mem_cons, List.mem_singleton, List.not_mem_nil, or_false, not_or]; exact ⟨hb1, hb2⟩) (Heap.get?_push_of_some _ (Heap.get?_push_of_some _ e))

      · cases r₂ with
        | error e => exact hr₂
        | ok fl₂ =>
          cases fl₂ with
          | ret r =>
            obtain ⟨rfl, h', tk, rfl, hS', hk'⟩ := hr₂
            repeat (any_goals (first | assumption | wp_step))
            exact h _ _ hS' hk'
          | _ => exact hr₂.elim
    | _ => exact hr.elim
theorem strsAre_strOf : ∀ {l : List Value}, (∀ v ∈ l, ∃ k t, v = Value.str k t) → StrsAre l (l.map strOf)
  | [], _ => .nil
  | v :: r, h => by
    obtain ⟨k, t, rfl⟩ := h v List.mem_cons_self
    exact .cons k t (strsAre_strOf fun u hu => h u (List.mem_cons_of_mem _ hu))
/-- sorted(set), texts -/
theorem sorted_setX {a : Addr} {l : List Str} {Q : Value → Shared → Prop} (x : SX prog w s.heap a l) (hh : A.handled = none) (h64 : l.length < 64)
    (hQ : ∀ s' p (out : Array Value) (c : Nat) (ys : List Str), (∀ b o, s.heap.get? b = some o → s'.heap.get? b = some o) → s'.gens = s.gens → s'.os = s.os → s.heap.objs.size ≤ p →
      s'.heap.get? p = some (seqObj "list" out c) → StrsAre out.toList ys → ys.Perm l → sortedS ys = true → Q (.ref p) s') :
    wpAny (model prog w) A (call (.builtin "sorted") [.ref a]) Q E s := by
  obtain ⟨⟨es, ep, t⟩, ho, F, r, hl, pm0⟩ := x
  have hsz : es.size = l.length := F.sz
  refine Calls.call_function_entry kind_sorted plain_sorted entry_sorted (args_sorted1 _) ?_
  unfold Builtin.«sorted»
  refine wpAny_bind (m := checkCount "sorted" 1 1 _) (wpAny_pure ?_)
  refine wpAny_bind (L2.collect_set (A := A.in1) hh ⟨_, ho, rfl, rfl⟩ F.fit (by rw [hsz]; unfold scanBound; omega) r hl fun s1 vs k1 hz g1 o1 pm => ?_)
  have hvl : vs.length = l.length := by rw [pm.length_eq, List.length_map, Array.length_toList]; exact hsz
  have hS : StrsAre vs (vs.map strOf) := strsAre_strOf fun v hv => by
    obtain ⟨e, he, q⟩ := List.mem_map.mp (pm.mem_iff.mp hv)
    obtain ⟨⟨k, hk, _⟩, _⟩ := F.el e he
    obtain ⟨t, ev⟩ := Value.isStrOf_shape (x := k) (v := e.2) hk
    exact ⟨k, t, by rw [← q]; exact ev⟩
  have pk : (vs.map strOf).Perm l := by
    have q := pm.map strOf
    rw [List.map_map] at q
    exact q.trans pm0
  refine wpAny_bind (wpAny_newList ?_ (by rw [hvl, sizeLine_eq]; omega))
  have hoL : (s1.heap.push (seqObj "list" vs.toArray 0)).get? s1.heap.objs.size = some (seqObj "list" vs.toArray 0) := Heap.get?_push_size _ rfl
  refine wpAny_bind (wpAny_holding (wpAny_call_entry slot_list_sort ⟨_, hoL, rfl⟩ entry_list_sort
    (list_sort_treeK strKind_oneLt (s := { s1 with heap := s1.heap.push (seqObj "list" vs.toArray 0) }) hoL hS.keysOf (fun v₁ v₂ rest e => keyKind_strs (by rw [← e]; exact hS)) (by rw [hvl]; exact h64) fun st' hp hs => ⟨_, rfl, ?_⟩)
    (args_list_sort _)))
  obtain ⟨ys, y1, y2, y3⟩ := sorted_out_str hS hp hs
  obtain ⟨c, hc⟩ := sortedHeap_at (vs := vs) (out := (arrOf st').map (·.2)) hoL
  refine wpAny_pure ⟨_, rfl, hQ _ s1.heap.objs.size ((arrOf st').map (·.2)) c ys (fun b u e => ?_) g1 o1 hz hc y1 (y2.trans pk) y3⟩
  have q := k1 b u e
  have hlt := Heap.lt_size q
  show (sortedHeap (s1.heap.push (seqObj "list" vs.toArray 0)) s1.heap.objs.size vs _).get? b = some u
  rw [sortedHeap_old (Nat.ne_of_lt hlt) (by rw [size_push']; exact Nat.lt_succ_of_lt hlt)]
  exact Heap.get?_push_of_some _ q
end
end SS
namespace L2
open PySem PySem.Spec PyProof.Rows
section
variable {X : Cx}
/-- sorted(set(xs)), xs a list or tuple of texts -/
def tSortSet (K : PySem.W.Frag) (ta : TE) : TE := fun σ H Q => ta σ H fun x H1 => ∃ l, ∃ xs : List Str, x = .ref l ∧ (SqL K H1 l (xs.map V.str) ∨ SqT K H1 l (xs.map V.str)) ∧ xs.length ≤ 1000 ∧ (SS.dedR xs).length < 64 ∧
  ∀ (ys : List Str) (p : Addr), ys.Perm (SS.dedR xs) → sortedS ys = true → H1 p = none → Q (.ref p) (upd H1 p (.lst (ys.map V.str)))
theorem pe_sortSet {a : Expr} {ta : TE} {p p2 q pos : Pos} (hc : X.calm = true) (hg : Gl X "sorted") (hm : X.mg "sorted" = none) (hg2 : Gl X "set") (hm2 : X.mg "set" = none) (ha : PE X a ta)
    (na : starEach [a] X.env = (false, eval a X.env) :: starEach [] X.env := by rfl) : PE X (.Call (.Name "sorted" p) [.Call (.Name "set" p2) [a] [] q] [] pos) (tSortSet X.K ta) := by
  refine ⟨fun pins s σ H Q I h => ?_⟩
  refine Call_ (ld_blt I hg hm (by decide +kernel : bootBuiltins "sorted" = some (.builtin "sorted")) ?_)
  refine PyProof.Rows.callWith_builtin1 (PyProof.Rows.args_cons ?_ rfl) rfl rfl
  refine Call_ (ld_blt I hg2 hm2 boot_set ?_)
  refine PyProof.Rows.callWith_type1 (PyProof.Rows.args_cons (thn (ha.run pins s σ H _ I h) fun v s1 ⟨x, H1, I1, r1, q1⟩ => PyProof.Rows.args_nil ?_) na) na rfl
  obtain ⟨l, xs, rfl, hq, h1, h64, q1⟩ := q1
  cases r1
  have fin : ∀ (its : List Value), Vals (xs.map V.str) its → ∀ (h' : Heap) (tk : Nat), SS.SX X.prog X.w h' s1.heap.objs.size (SS.dedR (xs.take its.toArray.size)) →
      (∀ b o, b < s1.heap.objs.size → s1.heap.get? b = some o → h'.get? b = some o) →
      wpAny (model X.prog X.w) X.A (spliced (backTo pos (starEach [] X.env))) (fun vs s₂ => wpAny (model X.prog X.w) X.A (call (.builtin "sorted") (Value.ref s1.heap.objs.size :: vs)) (EP X pins σ Q) X.xe s₂) X.xe { s1 with heap := h', toks := tk } := fun its r h' tk hS hk => by
    refine PyProof.Rows.args_nil ?_
    have hl : its.toArray.size = xs.length := by rw [List.size_toArray, ← r.length, List.length_map]
    rw [hl, List.take_length] at hS
    have I2 : Inv X pins σ H1 { s1 with heap := h', toks := tk } := I1.kept fun b o e => hk b o (Heap.lt_size e) e
    refine SS.sorted_setX hS (I2.ok.hd hc) h64 fun s' p out c ys k g o hp hgp y1 y2 y3 => ?_
    have hlen : (ys.map V.str).length ≤ sizeLine := by rw [List.length_map, y2.length_eq, sizeLine_eq]; omega
    have hn : H1 p = none := I2.hok.fresh hp
    have J : Inv X pins σ (upd H1 p (.lst (ys.map V.str))) { ({ s1 with heap := h', toks := tk } : Shared) with heap := s'.heap, gens := s'.gens, drawn := s'.drawn, toks := s'.toks } :=
      I2.call (ch := []) (Un.laid k hp hn) (I2.hok.laid k hp ⟨hlen, out.toList, c, vals_of_strs y1, hgp⟩) (by rw [g]; exact I2.bare) (fun _ z => nomatch z)
    have e : s' = { ({ s1 with heap := h', toks := tk } : Shared) with heap := s'.heap, gens := s'.gens, drawn := s'.drawn, toks := s'.toks } := by
      cases s'
      cases s1
      cases o
      rfl
    rw [e]
    exact ⟨.ref p, _, J, rfl, q1 ys p y2 y3 hn⟩
  rcases hq with hq | hq
  · obtain ⟨its, r, pl, hz⟩ := I1.list hq
    exact SS.call_set_listX (I1.ok.hd hc) pl.isList (by simpa using strsAre_of r) (by have := r.length; simp at this ⊢; unfold scanBound; omega) fun h' tk hS hk => fin its r h' tk hS hk
  · obtain ⟨its, r, pl, hz⟩ := I1.tuple hq
    exact SS.call_set_tupleX (I1.ok.hd hc) pl (by simpa using strsAre_of r) (by have := r.length; simp at this ⊢; unfold scanBound; omega) fun h' tk hS hk => fin its r h' tk hS hk
end
end L2
namespace DL
open PySem L2 PySem.Spec PyProof.Rows
def sortSetD (xs : List PyData) : M D := fun S => match strsP xs with
  | some zs => if zs.length ≤ 1000 ∧ (SS.dedR zs).length < 64 then .ok (.p (.list ((sortS (SS.dedR zs)).map .str))) S else .bad
  | none => .bad
def sortSetM : D → M D := fun d S => match d with
  | .p (.tuple xs) => sortSetD xs S
  | d => match lstOf S d with
    | some xs => sortSetD xs S
    | none => .bad
section
variable {X : Cx} {W : WX} {a : Expr} {fa : FE} {p p2 q pos : Pos}
theorem strs_dnAll {K : PySem.W.Frag} {φ : List (Addr × HO)} {H : Hp} : ∀ zs : List Str, DnAll K φ H (zs.map PyData.str) (zs.map V.str)
  | [] => .nil
  | z :: r => .cons (.str z) (strs_dnAll r)
theorem sortSet_read {K : PySem.W.Frag} {σ : L2.St} {H : Hp} {G : Gh} {S : Sto} {xs : List PyData} {us : List V} {Q : VK} (rp : Rep K H G S) (t : DnAll K G.φ H xs us) (q : Aft K W σ H G S (sortSetD xs S) (QD K Q)) : ∃ zs : List Str, us = zs.map V.str ∧ zs.length ≤ 1000 ∧ (SS.dedR zs).length < 64 ∧
    ∀ (ys : List Str) (p : Addr), ys.Perm (SS.dedR zs) → sortedS ys = true → H p = none → Q (.ref p) (upd H p (.lst (ys.map V.str))) := by
  unfold sortSetD at q
  split at q
  · rename_i zs e
    by_cases c : zs.length ≤ 1000 ∧ (SS.dedR zs).length < 64
    · rw [if_pos c] at q
      refine ⟨zs, strsP_dn e t, c.1, c.2, fun ys p hp hs hn => ?_⟩
      rw [sortS_uniq hp hs]
      exact q.newLst rp (strs_dnAll _) hn
    · rw [if_neg c] at q; exact q.elim
  · exact q.elim
theorem de_sortSet (hc : X.calm = true) (hg : Gl X "sorted") (hm : X.mg "sorted" = none) (hg2 : Gl X "set") (hm2 : X.mg "set" = none) (ha : DE X W a fa)
    (na : starEach [a] X.env = (false, eval a X.env) :: starEach [] X.env := by rfl) : DE X W (.Call (.Name "sorted" p) [.Call (.Name "set" p2) [a] [] q] [] pos) (e1 sortSetM fa) := by
  refine ⟨PE.imp (pe_sortSet hc hg hm hg2 hm2 ha.run na) fun σ H Q ⟨G, S, ρ, rs, rp, q⟩ => ⟨G, S, ρ, rs, rp, (Aft.bind q).mono fun d H1 G1 S1 x1 r1 q1 v dv => ?_⟩⟩
  unfold sortSetM at q1
  split at q1
  · obtain ⟨l, us, rfl, hq, t⟩ := den_tup dv
    obtain ⟨zs, rfl, h1, h2, h3⟩ := sortSet_read r1 t q1
    exact ⟨l, zs, rfl, .inr hq, h1, h2, h3⟩
  · split at q1
    · rename_i xs e
      obtain ⟨l, us, rfl, hq, t⟩ := lstOf_den r1 e dv
      obtain ⟨zs, rfl, h1, h2, h3⟩ := sortSet_read r1 t q1
      exact ⟨l, zs, rfl, .inl (SqL.of hq), h1, h2, h3⟩
    · exact q1.elim
end
end DL
namespace DL
open PySem L2 PySem.Spec PyProof.Rows
def gtL {α : Type} (L : List (Str × α)) (w : Str) : Option α := L.foldl (fun acc e => if w = e.1 then some e.2 else acc) none
theorem gtL_map {α β : Type} (h : α → β) (w : Str) : ∀ (L : List (Str × α)) (a : Option α), (L.map fun e => (e.1, h e.2)).foldl (fun acc e => if w = e.1 then some e.2 else acc) (a.map h) = (L.foldl (fun acc e => if w = e.1 then some e.2 else acc) a).map h
  | [], _ => rfl
  | e :: L, a => by
    rw [List.map_cons, List.foldl_cons, List.foldl_cons]
    by_cases c : w = e.1
    · rw [if_pos c, if_pos c]; exact gtL_map h w L (some e.2)
    · rw [if_neg c, if_neg c]; exact gtL_map h w L a
theorem gtL_mem {α : Type} {w : Str} {x : α} : ∀ (L : List (Str × α)) (a : Option α), L.foldl (fun acc e => if w = e.1 then some e.2 else acc) a = some x → a = some x ∨ (w, x) ∈ L
  | [], _, h => .inl h
  | e :: L, a, h => by
    rw [List.foldl_cons] at h
    rcases gtL_mem L _ h with q | q
    · by_cases c : w = e.1
      · rw [if_pos c] at q
        injection q with q
        exact .inr (by rw [← q, c]; exact List.mem_cons_self)
      · rw [if_neg c] at q; exact .inl q
    · exact .inr (List.mem_cons_of_mem _ q)
theorem valV_merge (w : Str) : ∀ (L : List (Str × Addr)) (ws : List (Key × V)) (a : Option Addr), valV ws (.inr w) = a.map V.ref →
    valV (mergeK ws (L.map fun e => ((.inr e.1 : Key), V.ref e.2))) (.inr w) = (L.foldl (fun acc e => if w = e.1 then some e.2 else acc) a).map V.ref
  | [], _, _, h => h
  | e :: L, ws, a, h => by
    show valV (mergeK (putK ws (.inr e.1) (V.ref e.2)) (L.map fun e => ((.inr e.1 : Key), V.ref e.2))) (.inr w) = _
    refine valV_merge w L _ _ ?_
    rw [valV_put]
    show _ = Option.map V.ref (if w = e.1 then some e.2 else a)
    by_cases c : w = e.1
    · rw [if_pos (by rw [c]), if_pos c]; rfl
    · rw [if_neg (fun z => c (by injection z)), if_neg c]; exact h
section
variable {X : Cx} {W : WX} {k : Nat}
inductive FPs (X : Cx) (k : Nat) : List (Option Expr) → List Expr → List (Str × (List D → M D)) → Prop
  | nil : FPs X k [] [] []
  | cons {w : Str} {p2 : Pos} {x : Str} {f : Addr} {g : List D → M D} {kx : Expr} {ks : List (Option Expr)} {vs : List Expr} {tb : List (Str × (List D → M D))}
      (hk : PE X kx (tC (.str w))) (F : FnP X.prog X.w X.K X.mg X.base k f (spX X.K 1 g)) (hg : Gl X x) (hm : X.mg x = some (.ref f)) (hp : PySem.W.keepIn X.K (.ref f) = true) (hdb : (x == ("__debug__" : Str)) = false) (r : FPs X k ks vs tb) :
      FPs X k (some kx :: ks) (.Name x p2 :: vs) ((w, g) :: tb)
theorem FPs.go {pos : Pos} {keys : List (Option Expr)} {values : List Expr} {tb : List (Str × (List D → M D))} (h : FPs X k keys values tb) :
    ∃ (trs : List (TE × TE)) (L : List (Str × Addr × (List D → M D))), L.length = keys.length ∧ PPs X pos keys values trs ∧ (∀ σ H Q, Q (L.map fun e => (V.str e.1, V.ref e.2.1)) H → tPairs trs σ H Q) ∧
      (∀ e ∈ L, FnP X.prog X.w X.K X.mg X.base k e.2.1 (spX X.K 1 e.2.2) ∧ PySem.W.keepIn X.K (.ref e.2.1) = true) ∧ tb = L.map fun e => (e.1, e.2.2) := by
  induction h with
  | nil => exact ⟨[], [], rfl, pps_nil, fun σ H Q q => q, fun e he => by simp at he, rfl⟩
  | @cons w p2 x f g kx ks vs tb hk F hg hm hp hdb r ih =>
    obtain ⟨trs, L, h0, h1, h2, h3, h4⟩ := ih
    refine ⟨(tC (.str w), tC (.ref f)) :: trs, (w, f, g) :: L, by simp [h0], pps_cons hk (pe_glob hg hm rfl hdb) h1, fun σ H Q q => ?_, fun e he => ?_, by rw [h4]; rfl⟩
    · exact h2 σ H _ q
    · rcases List.mem_cons.mp he with e' | he
      · subst e'; exact ⟨F, hp⟩
      · exact h3 e he
theorem arm_callSub (a b : Expr) (p : Pos) (args : List Expr) (kws : List Keyword) (pos : Pos) (env : Env) : eval (.Call (.Subscript a b p) args kws pos) env = (do
    callWith pos (← eval (.Subscript a b p) env) [] (backTo pos (starEach args env)) (backToKw pos (keywordEach kws env))) := rfl
theorem pe_callSub {o i : Expr} {p pos : Pos} {e : Expr} {es : List Expr} {tf : TE} {ta : TA} (hf : PE X (.Subscript o i p) tf) (C : Ctx X W k) (ha : PA X (e :: es) ta)
    (he : starEach (e :: es) X.env = (false, eval e X.env) :: starEach es X.env) (hpl : (backTo pos (starEach es X.env)).any (·.1) = false) :
    PE X (.Call (.Subscript o i p) (e :: es) [] pos) (fun σ H Q => tf σ H fun v H1 => ∃ f sp, v = .ref f ∧ FnP X.prog X.w X.K X.mg X.base k f sp ∧ PySem.W.keepIn X.K (.ref f) = true ∧
      ta σ H1 fun vs H2 => sp vs H2 Q fun c d H' => W c d σ H') := by
  refine ⟨fun pins s σ H Q I h => ?_⟩
  rw [arm_callSub]
  refine wpAny_bind (thn (hf.run pins s σ H _ I h) fun u s1 ⟨v, H1, I1, r, f, sp, ev, F, hk, q⟩ => ?_)
  subst ev
  cases r
  exact PySem.W.callWith_K (h₀ := X.base) I1.ok.mod.kin hk (thn (ha.run pos pins s1 σ H1 _ I1 q) fun us s2 ⟨vs, H2, I2, r2, q2⟩ => ⟨I2.kIn, run_fnP F C I2 r2 q2⟩) he hpl
def eForms (tb : List (Str × (List D → M D))) (f1 f2 f3 : FE) : FE := fun ρ S => (f1 ρ S).bind fun d S1 => match d with
  | .p (.str w) => if (gtL tb w).isSome = true then (f2 ρ S1).bind (fun d2 S2 => match d2 with
      | .p (.str w2) => (match gtL tb w2 with
        | some g => eCallX 1 g (aCons f3 aNil) ρ S2
        | none => .bad)
      | _ => .bad) else .ok (.p (.bool false)) S1
  | _ => .bad
def sForms (i : Nat) (tb : List (Str × (List D → M D))) (f1 f2 f3 : FE) : FS := fun ρ S => if i < ρ.length then sRet (eForms tb f1 f2 f3) (ρ.set i none) S else none
theorem dss_forms {i : Nat} {x : Str} {keys : List (Option Expr)} {values : List Expr} {tb : List (Str × (List D → M D))} {e1 e2 e3 : Expr} {f1 f2 f3 : FE} {np dp ap px cp px2 sp pc pb rp0 : Pos}
    (C : Ctx X W k) (h : FPs X k keys values tb) (h1 : DE X W e1 f1) (h2 : DE X W e2 f2) (h3 : DE X W e3 f3)
    (hN : X.N.Nodup) (hi : X.N[i]? = some x) (hx : Loc X.env.scope x)
    (hs : swapsWith (.Dict keys values dp) (some (.Name x np)) ap.line X.env = pure false := by rfl)
    (hf : X.fn x = true ∨ X.env.scope.names.lookup x = some .local := by first | exact .inl rfl | exact .inr rfl | assumption)
    (hall : keys.all (·.isSome) = true := by rfl) (hl : keys.length = values.length := by rfl) (h0 : keys ≠ [] := by exact (fun z => nomatch z)) (h15 : keys.length ≤ 15 := by decide)
    (hv : Vis X.env.scope x := by first | exact Or.inl rfl | exact Or.inr (Or.inl rfl) | exact Or.inr (Or.inr rfl)) (hd : (x == ("__debug__" : Str)) = false := by decide)
    (hcd : (x == ("__classdict__" : Str)) = false := by decide) (hm : behindInMarks .In (.Name x px) = false := by rfl) (hpi : PlainIx e2 := by exact fun _ _ => rfl)
    (hst : starEach [e3] X.env = (false, eval e3 X.env) :: starEach [] X.env := by rfl) (hpl : (backTo pc (starEach [] X.env)).any (·.1) = false := by rfl)
    (hst3 : starEach [e3] X.env = (false, eval e3 X.env) :: starEach [] X.env := by rfl) :
    DSs X W [.Assign [.Name x np] (.Dict keys values dp) ap, .Return (some (.BoolOp .And [.Compare e1 [.In] [.Name x px] cp, .Call (.Subscript (.Name x px2) e2 sp) [e3] [] pc] pb)) rp0] (sForms i tb f1 f2 f3) := by
  obtain ⟨trs, L, p0, p1, p2, p3, p4⟩ := h.go (pos := dp)
  have ha := da_cons (X := X) (W := W) h3 da_nil hst3
  have hret := ps_ret (pos := rp0) (pe_andT (pos := pb) (pe_cmpR (pos := cp) (op_inX1 C.u65) h1.run (pe_var (pos := px) hi hv hd hcd) hm) (pe_one (pos := pb) (op := .And) (pe_callSub (pos := pc) (pe_ix (pos := sp) (ix_dic C.u1) (pe_var (pos := px2) hi hv hd hcd) h2.run hpi) C ha.run hst hpl)))
  refine ⟨PSs.imp (pss_cons (ps_set hN hi hx (pe_disp p1 hall hl h0 h15) hs hf) (pss_one hret)) fun E σ H ⟨G, S, ρ, rs, rp, q⟩ => ?_⟩
  intro p hp
  refine p2 σ _ _ ?_
  refine ⟨upd_same, L.map (fun e => ((.inr e.1 : Key), V.ref e.2.1)), by rw [List.map_map]; rfl, by rw [List.length_map, p0]; exact h15, ?_⟩
  unfold sForms at q
  by_cases hlt : i < ρ.length
  case neg => rw [if_neg hlt] at q; exact q.elim
  rw [if_pos hlt] at q
  rw [upd_twice]
  have key : ∀ w, valV (mergeK [] (L.map fun e => ((.inr e.1 : Key), V.ref e.2.1))) (.inr w) = (gtL L w).map fun e => V.ref e.1 := by
    intro w
    have a := valV_merge w (L.map fun e => (e.1, e.2.1)) [] none rfl
    rw [List.map_map] at a
    refine Eq.trans a ?_
    have b := gtL_map (fun e : Addr × (List D → M D) => e.1) w L none
    refine (congrArg (Option.map V.ref) b).trans ?_
    rw [Option.map_map]; rfl
  have key2 : ∀ w, gtL tb w = (gtL L w).map (·.2) := by
    intro w
    rw [p4]
    exact gtL_map (fun e : Addr × (List D → M D) => e.2) w L none
  generalize mergeK [] (L.map fun e => ((.inr e.1 : Key), V.ref e.2.1)) = ws at key ⊢
  have x0 := Ext.other (o := .dK ws) rp hp
  have r0 := Rep.other (o := .dK ws) rp hp
  have rs0 := (x0.relS rp rs).setNone (w := some (.ref p)) i
  have hσ : (σ.set i (some (V.ref p)))[i]? = some (some (.ref p)) := by rw [List.getElem?_set_self (by rw [← rs.length]; exact hlt)]
  have nl0 : ¬ Live G S p := fun l => rp.notIn hp l.mem
  have qq := AftS.st (AftS.ext q x0) rs0 r0
  refine ⟨G, S, _, rs0, r0, (Aft.bind qq).mono fun d H1 G1 S1 x1 r1 q1 v dv => ⟨.ref p, hσ, ?_⟩⟩
  have hp1 : H1 p = some (.dK ws) := x1.frame _ _ upd_same nl0
  have nl1 : ¬ Live G1 S1 p := fun l => by
    rcases x1.fresh p l with z | z
    · exact nl0 z
    · rw [upd_same] at z; cases z
  split at q1
  · rename_i w
    obtain rfl := den_str dv
    refine .inl (.inr (.inr ⟨p, _, rfl, DGet.k (k := .inr w) hp1, ?_⟩))
    rw [key w]
    rw [key2 w] at q1
    cases eg : gtL L w with
    | none =>
      rw [eg] at q1
      have q1 : Aft X.K W _ H1 G1 S1 (Out.ok (D.p (.bool false)) S1) _ := q1
      exact ⟨false, rfl, q1 H1 G1 Ext.refl r1 H1 G1 _ Ext.refl r1 (.bl false)⟩
    | some ew =>
      rw [eg] at q1
      refine ⟨true, rfl, ?_⟩
      refine ⟨.ref p, hσ, G1, S1, _, x1.relS r0 rs0, r1, (Aft.bind q1).mono fun d2 H2 G2 S2 x2 r2 q2 v2 dv2 => ?_⟩
      have hp2 : H2 p = some (.dK ws) := x2.frame _ _ hp1 nl1
      split at q2
      · rename_i w2
        obtain rfl := den_str dv2
        rw [key2 w2] at q2
        cases eg2 : gtL L w2 with
        | none => rw [eg2] at q2; exact q2.elim
        | some e2' =>
          rw [eg2] at q2
          obtain ⟨F, hk⟩ := p3 _ ((gtL_mem L none eg2).resolve_left (by simp))
          refine ⟨p, V.ref e2'.1, rfl, ?_, e2'.1, _, rfl, F, hk, ?_⟩
          · have := DGet.k (k := .inr w2) hp2
            rw [key w2, eg2] at this
            exact this
          · exact callX_read ⟨G2, S2, _, x2.relS r1 (x1.relS r0 rs0), r2, Aft.mono q2 fun d3 H3 G3 S3 x3 r3 q3 v3 dv3 => q3 H3 G3 v3 Ext.refl r3 dv3⟩
      · exact q2.elim
  · exact q1.elim
end
def opMulT : D → D → M D := fun x y S => match x, y with
  | .p (.tuple xs), .p (.int n) => if xs ≠ [] ∧ xs.length ≤ 1000 ∧ 2 ≤ n ∧ n ≤ 1000 then .ok (.p (.tuple (List.replicate n.toNat xs).flatten)) S else .bad
  | x, y => opMulX x y S
def rMulT (K : PySem.W.Frag) : R2 := fun x y H Q => rMulX x y H Q ∨ rRepT K x y H Q
theorem op_mulT1 {X : Cx} : OpR X (binaryOp .Mult) (rMulT X.K) := by
  intro pins s σ H x y v u Q I rx ry h
  rcases h with h | h
  · exact op_mulX1 pins s σ H x y v u Q I rx ry h
  · exact op_repT pins s σ H x y v u Q I rx ry h
theorem sim_mulT {K : PySem.W.Frag} : Sim2 K (rMulT K) opMulT := by
  intro W σ H G S x y v w Q rp dx dy q
  unfold opMulT at q
  split at q
  · rename_i xs n
    obtain rfl := den_int dy
    by_cases c : xs ≠ [] ∧ xs.length ≤ 1000 ∧ 2 ≤ n ∧ n ≤ 1000
    · rw [if_pos c] at q
      have dx : Dn K G.φ H (.tuple xs) v := dx
      cases dx with
      | tup h t =>
        rename_i a vs
        refine .inr ⟨a, n, vs, rfl, rfl, h, ?_, c.2.2.1, c.2.2.2, by rw [← t.length]; exact c.2.1, fun p hp => q.newTup rp (rep_dn t n.toNat) hp⟩
        intro z; subst z
        cases t; exact c.1 rfl
    · rw [if_neg c] at q; exact q.elim
  · exact .inl (sim_mulX W σ H G S x y v w Q rp dx dy q)
theorem de_mulT {X : Cx} {W : WX} {a b : Expr} {f h : FE} {pos : Pos} (ha : DE X W a f) (hb : DE X W b h) : DE X W (.BinOp a .Mult b pos) (e2 opMulT f h) := de_bin op_mulT1 sim_mulT ha hb
end DL
namespace DL
open PySem L2 PySem.Spec PyProof.Rows
theorem Ctx.tr {X : Cx} {W W' : WX} {k : Nat} {pn : List (Addr × Obj)} {xe : Value → Shared → Prop} (C : Ctx X W k) (t : Takes (X.tr pn xe) W') : Ctx (X.tr pn xe) W' k := ⟨C.hr, C.hgd, t⟩
/-- what is known in the suite of an except clause -/
structure CtS (X : Cx) : Prop where
  hgd : X.A.guards = some []
  u64 : X.A.units + 64 < cLine
  u65 : X.A.units + 65 < cLine
theorem Ctx.su {X : Cx} {W : WX} {k : Nat} {a : Addr} {pn : List (Addr × Obj)} (C : Ctx X W k) : CtS (X.suite a pn) := ⟨C.hgd, C.u64, C.u65⟩
end DL
namespace K02
open PySem L2 DL
inductive Fn where
  | f_is_word
  | f_is_name
  | f_is_whole
  | f_is_text
  | f_are_names
  | f_are_bindings
  | f_are_arms
  | f_is_term
  | f_parts_of_term
  | f_places
  | f_part_at
  | f_bound_for
  | f_used_names
  | f_free_names
  | f_begin_l
  | f_draw_l
  | f_pick_l
  | f_shuffled_l
  | f_odd_l
  | f_words_l
  | f_term_l
  | f_parts_l
  | f_spots_l
  | f_free_l
  | f_is_named_l
  | f_are_named_l
  | f_is_leaf_l
  | f_is_one_l
  | f_bent_l
  | f_is_outside_l
  | f_law
def g_BOUND : PyData := (.int 1000000000000000000000000000000)
def g_LETTERS : PyData := (.str "abcdefghijklmnopqrstuvwxyz")
def g_LONGEST : PyData := (.int 8)
def g_MOST_CHARACTERS : PyData := (.int 200)
def g_WORDS : PyData := (.tuple [(.str "data"), (.str "role"), (.str "case"), (.str "define"), (.str "derive"), (.str "picks"), (.str "above"), (.str "settles"), (.str "member"), (.str "as"), (.str "if"), (.str "given"), (.str "let"), (.str "and"), (.str "in"), (.str "match"), (.str "end")])
def f_is_word_1 (r : Fn → List D → M D) : FS :=
    (sRet (eA (allM false) (aCons (eLc (iSeq (eVar 0)) (gN 1) tYesD (e2 (opInX false) (eVar 1) (eC (.p g_LETTERS))) [1] finL) aNil)))
def b_f_is_word (r : Fn → List D → M D) : FS :=
    (sSeq (sIf (tOrD (tNotD (tVal (e1 (isiM .str) (eVar 0)))) (tNotD (tChain opLeX opLeX (eC (.p (.int 1))) (eA lenM (aCons (eVar 0) aNil)) (eC (.p g_LONGEST))))) (sRet (eC (.p (.bool false)))) sNext)
    (f_is_word_1 r))
def b_f_is_name (r : Fn → List D → M D) : FS :=
    (sRet (eAnd (eCallX 1 (r .f_is_word) (aCons (eVar 0) aNil)) (e2 (opInX true) (eVar 0) (eC (.p g_WORDS)))))
def b_f_is_whole (r : Fn → List D → M D) : FS :=
    (sRet (eAnd (e1 (isiM .int) (eVar 0)) (eAnd (eNot (e1 (isiM .bool) (eVar 0))) (eChain opLeX opLeX (e1 opNeg (eC (.p g_BOUND))) (eVar 0) (eC (.p g_BOUND))))))
def f_is_text_1 (r : Fn → List D → M D) : FS :=
    (sRet (eA (allM false) (aCons (eLc (iSeq (eVar 0)) (gN 1) tYesD (eAnd (eChain opLeX opLeX (eC (.p (.str " "))) (eVar 1) (eC (.p (.str "~")))) (e2 (opEqZ true) (eA ordM (aCons (eVar 1) aNil)) (eC (.p (.int 37))))) [1] finL) aNil)))
def b_f_is_text (r : Fn → List D → M D) : FS :=
    (sSeq (sIf (tOrD (tNotD (tVal (e1 (isiM .str) (eVar 0)))) (tC2 (opGt) (eA lenM (aCons (eVar 0) aNil)) (eC (.p g_MOST_CHARACTERS)))) (sRet (eC (.p (.bool false)))) sNext)
    (f_is_text_1 r))
def f_are_names_1 (r : Fn → List D → M D) : FS :=
    (sRet (e2 (opEqZ false) (e1 lenSetM (eVar 0)) (eA lenM (aCons (eVar 0) aNil))))
def b_f_are_names (r : Fn → List D → M D) : FS :=
    (sSeq (sIf (tOrD (tNotD (tVal (e1 (isiM .tuple) (eVar 0)))) (tNotD (tVal (eA (allM false) (aCons (eLc (iSeq (eVar 0)) (gN 1) tYesD (eCallX 1 (r .f_is_name) (aCons (eVar 1) aNil)) [1] finL) aNil))))) (sRet (eC (.p (.bool false)))) sNext)
    (f_are_names_1 r))
def f_are_bindings_1 (r : Fn → List D → M D) : FS :=
    (sRet (eAnd (eCallX 1 (r .f_are_names) (aCons (eA tupleXM (aCons (eLc (iSeq (eVar 0)) (gN 1) tYesD (e2 opSubs (eVar 1) (eC (.p (.int 0)))) [1] finL) aNil)) aNil)) (eA (allM false) (aCons (eLc (iSeq (eVar 0)) (gN 1) tYesD (eCallX 1 (r .f_is_term) (aCons (e2 opSubs (eVar 1) (eC (.p (.int 1)))) aNil)) [1] finL) aNil))))
def f_are_bindings_2 (r : Fn → List D → M D) : FS :=
    (sSeq (sIf (tNotD (tVal (eA (allM false) (aCons (eLc (iSeq (eVar 0)) (gN 1) tYesD (eAnd (e1 (isiM .tuple) (eVar 1)) (e2 (opEqZ false) (eA lenM (aCons (eVar 1) aNil)) (eC (.p (.int 2))))) [1] finL) aNil)))) (sRet (eC (.p (.bool false)))) sNext)
    (f_are_bindings_1 r))
def b_f_are_bindings (r : Fn → List D → M D) : FS :=
    (sSeq (sIf (tOrD (tNotD (tVal (e1 (isiM .tuple) (eVar 0)))) (tC2 (opEqZ false) (eVar 0) (eA mkTup aNil))) (sRet (eC (.p (.bool false)))) sNext)
    (f_are_bindings_2 r))
def f_are_arms_1 (r : Fn → List D → M D) : FS :=
    (sIf (tOrD (tNotD (tVal (e1 (isiM .tuple) (eVar 1)))) (tOrD (tC2 (opEqZ true) (eA lenM (aCons (eVar 1) aNil)) (eC (.p (.int 3)))) (tOrD (tNotD (tVal (eCallX 1 (r .f_is_name) (aCons (e2 opSubs (eVar 1) (eC (.p (.int 0)))) aNil)))) (tNotD (tVal (eCallX 1 (r .f_are_names) (aCons (e2 opSubs (eVar 1) (eC (.p (.int 1)))) aNil))))))) (sRet (eC (.p (.bool false)))) sNext)
def f_are_arms_2 (r : Fn → List D → M D) : FS :=
    (sRet (eA (allM false) (aCons (eLc (iSeq (eVar 0)) (gN 1) tYesD (eCallX 1 (r .f_is_term) (aCons (e2 opSubs (eVar 1) (eC (.p (.int 2)))) aNil)) [1] finL) aNil)))
def f_are_arms_3 (r : Fn → List D → M D) : FS :=
    (sSeq (sFor (iSeq (eVar 0)) (gN 1) (f_are_arms_1 r))
    (f_are_arms_2 r))
def b_f_are_arms (r : Fn → List D → M D) : FS :=
    (sSeq (sIf (tOrD (tNotD (tVal (e1 (isiM .tuple) (eVar 0)))) (tC2 (opEqZ false) (eVar 0) (eA mkTup aNil))) (sRet (eC (.p (.bool false)))) sNext)
    (f_are_arms_3 r))
def f_is_term_1 (r : Fn → List D → M D) : FS :=
    (sRet (eAnd (e2 (opEqZ false) (eVar 2) (eC (.p (.str "match")))) (eAnd (eCallX 1 (r .f_is_term) (aCons (eVar 3) aNil)) (eCallX 1 (r .f_are_arms) (aCons (eVar 4) aNil)))))
def f_is_term_2 (r : Fn → List D → M D) : FS :=
    (sSeq (sIf (tC2 (opEqZ false) (eVar 2) (eC (.p (.str "let")))) (sRet (eAnd (eCallX 1 (r .f_are_bindings) (aCons (eVar 3) aNil)) (eCallX 1 (r .f_is_term) (aCons (eVar 4) aNil)))) sNext)
    (f_is_term_1 r))
def f_is_term_3 (r : Fn → List D → M D) : FS :=
    (sSeq (sIf (tC2 (opEqZ false) (eVar 2) (eC (.p (.str "given")))) (sRet (eAnd (eCallX 1 (r .f_is_name) (aCons (eVar 3) aNil)) (eCallX 1 (r .f_is_term) (aCons (eVar 4) aNil)))) sNext)
    (f_is_term_2 r))
def f_is_term_4 (r : Fn → List D → M D) : FS :=
    (sSeq (sAsg (eVar 0) (gTupD 3 (gConss (gN 2) (gConss (gN 3) (gConss (gN 4) gNils)))))
    (sSeq (sIf (tC2 (opEqZ false) (eVar 2) (eC (.p (.str "use")))) (sRet (eAnd (eCallX 1 (r .f_is_term) (aCons (eVar 3) aNil)) (eCallX 1 (r .f_is_term) (aCons (eVar 4) aNil)))) sNext)
    (f_is_term_3 r)))
def f_is_term_5 (r : Fn → List D → M D) : FS :=
    (sSeq (sIf (tC2 (opEqZ true) (eA lenM (aCons (eVar 0) aNil)) (eC (.p (.int 3)))) (sRet (eC (.p (.bool false)))) sNext)
    (f_is_term_4 r))
def f_is_term_6 (r : Fn → List D → M D) : FS :=
    (sSeq (sIf (tC2 (opEqZ false) (eA lenM (aCons (eVar 0) aNil)) (eC (.p (.int 2)))) (sForms 1 [("name", r .f_is_name), ("whole", r .f_is_whole), ("text", r .f_is_text)] (e2 opSubs (eVar 0) (eC (.p (.int 0)))) (e2 opSubs (eVar 0) (eC (.p (.int 0)))) (e2 opSubs (eVar 0) (eC (.p (.int 1))))) sNext)
    (f_is_term_5 r))
def f_is_term_7 (r : Fn → List D → M D) : FS :=
    (sSeq (sIf (tC2 (opEqZ false) (eA lenM (aCons (eVar 0) aNil)) (eC (.p (.int 1)))) (sRet (e2 (opEqZ false) (e2 opSubs (eVar 0) (eC (.p (.int 0)))) (eC (.p (.str "hole"))))) sNext)
    (f_is_term_6 r))
def b_f_is_term (r : Fn → List D → M D) : FS :=
    (sSeq (sIf (tOrD (tNotD (tVal (e1 (isiM .tuple) (eVar 0)))) (tOrD (tC2 (opEqZ false) (eVar 0) (eA mkTup aNil)) (tNotD (tVal (e1 (isiM .str) (e2 opSubs (eVar 0) (eC (.p (.int 0))))))))) (sRet (eC (.p (.bool false)))) sNext)
    (f_is_term_7 r))
def f_parts_of_term_1 (r : Fn → List D → M D) : FS :=
    (sRet (eIf (tC2 (opEqZ false) (eVar 1) (eC (.p (.str "match")))) (e2 opAddX (eA mkLst (aCons (e2 opSubs (eVar 0) (eC (.p (.int 1)))) aNil)) (eLc (iSeq (e2 opSubs (eVar 0) (eC (.p (.int 2))))) (gTupD 3 (gConss (gN 4) (gConss (gN 5) (gConss (gN 6) gNils)))) tYesD (eVar 6) [4, 5, 6] finL)) (eA mkLst aNil)))
def f_parts_of_term_2 (r : Fn → List D → M D) : FS :=
    (sSeq (sIf (tC2 (opEqZ false) (eVar 1) (eC (.p (.str "let")))) (sRet (e2 opAddX (eLc (iSeq (e2 opSubs (eVar 0) (eC (.p (.int 1))))) (gTupD 2 (gConss (gN 2) (gConss (gN 3) gNils))) tYesD (eVar 3) [2, 3] finL) (eA mkLst (aCons (e2 opSubs (eVar 0) (eC (.p (.int 2)))) aNil)))) sNext)
    (f_parts_of_term_1 r))
def f_parts_of_term_3 (r : Fn → List D → M D) : FS :=
    (sSeq (sIf (tC2 (opEqZ false) (eVar 1) (eC (.p (.str "given")))) (sRet (eA mkLst (aCons (e2 opSubs (eVar 0) (eC (.p (.int 2)))) aNil))) sNext)
    (f_parts_of_term_2 r))
def b_f_parts_of_term (r : Fn → List D → M D) : FS :=
    (sSeq (sSet 1 (e2 opSubs (eVar 0) (eC (.p (.int 0)))))
    (sSeq (sIf (tC2 (opEqZ false) (eVar 1) (eC (.p (.str "use")))) (sRet (eA mkLst (aCons (e2 opSubs (eVar 0) (eC (.p (.int 1)))) (aCons (e2 opSubs (eVar 0) (eC (.p (.int 2)))) aNil)))) sNext)
    (f_parts_of_term_3 r)))
def b_f_places (r r2 : Fn → List D → M D) : List D → M D :=
    runG 7 (sSet 1 (eA mkLstM (aCons (eA mkTup (aCons (eA mkTup aNil) (aCons (eVar 0) aNil))) aNil))) 1000 (tC2 (opEqZ true) (eVar 1) (eA mkLst aNil)) (sAsg (eLm popM (eVar 1) aNil) (gTupD 2 (gConss (gN 3) (gConss (gN 4) gNils)))) (eVar 3) (sSeq (sSet 2 (eLc (iA enumXM (aCons (eCallX 1 (r2 .f_parts_of_term) (aCons (eVar 4) aNil)) aNil)) (gTupD 2 (gConss (gN 5) (gConss (gN 6) gNils))) tYesD (eA mkTup (aCons (e2 opAddX (eVar 3) (eA mkTup (aCons (eVar 5) aNil))) (aCons (eVar 6) aNil))) [5, 6] finL))
    (sExpr (eLm extendM (eVar 1) (aCons (e1 revM (eVar 2)) aNil))))
def f_part_at_1 (r : Fn → List D → M D) : FS :=
    (sSet 2 (e2 opSubs (eVar 4) (eVar 3)))
def f_part_at_2 (r : Fn → List D → M D) : FS :=
    (sSeq (sSet 4 (eCallX 1 (r .f_parts_of_term) (aCons (eVar 2) aNil)))
    (sSeq (sIf (tOrD (tNotD (tVal (e1 (isiM .int) (eVar 3)))) (tOrD (tVal (e1 (isiM .bool) (eVar 3))) (tNotD (tChain opLeX opLt (eC (.p (.int 0))) (eVar 3) (eA lenM (aCons (eVar 4) aNil)))))) (sRaise "OutOfTerm" "place" (eVar 1)) sNext)
    (f_part_at_1 r)))
def f_part_at_3 (r : Fn → List D → M D) : FS :=
    (sRet (eVar 2))
def f_part_at_4 (r : Fn → List D → M D) : FS :=
    (sSeq (sSet 2 (eVar 0))
    (sSeq (sFor (iSeq (eVar 1)) (gN 3) (f_part_at_2 r))
    (f_part_at_3 r)))
def b_f_part_at (r : Fn → List D → M D) : FS :=
    (sSeq (sIf (tNotD (tVal (e1 (isiM .tuple) (eVar 1)))) (sRaise "OutOfTerm" "place" (eVar 1)) sNext)
    (f_part_at_4 r))
def f_bound_for_1 (r : Fn → List D → M D) : FS :=
    (sRet (eIf (tAndD (tC2 (opEqZ false) (e2 opSubs (eVar 0) (eC (.p (.int 0)))) (eC (.p (.str "match")))) (tC2 (opGt) (eVar 1) (eC (.p (.int 0))))) (e2 opSubs (e2 opSubs (e2 opSubs (eVar 0) (eC (.p (.int 2)))) (e2 opSub (eVar 1) (eC (.p (.int 1))))) (eC (.p (.int 1)))) (eA mkTup aNil)))
def f_bound_for_2 (r : Fn → List D → M D) : FS :=
    (sSeq (sIf (tC2 (opEqZ false) (e2 opSubs (eVar 0) (eC (.p (.int 0)))) (eC (.p (.str "let")))) (sRet (eA tupleXM (aCons (eLc (iSeq (e2 opSubs (eVar 0) (eC (.p (.int 1))))) (gTupD 2 (gConss (gN 2) (gConss (gN 3) gNils))) tYesD (eVar 2) [2, 3] finL) aNil))) sNext)
    (f_bound_for_1 r))
def b_f_bound_for (r : Fn → List D → M D) : FS :=
    (sSeq (sIf (tC2 (opEqZ false) (e2 opSubs (eVar 0) (eC (.p (.int 0)))) (eC (.p (.str "given")))) (sRet (eA mkTup (aCons (e2 opSubs (eVar 0) (eC (.p (.int 1)))) aNil))) sNext)
    (f_bound_for_2 r))
def f_used_names_1 (r : Fn → List D → M D) : FS :=
    (sExpr (eLm extendM (eVar 2) (aCons (eCallX 2 (r .f_used_names) (aCons (eVar 4) (aCons (e2 opAddX (eVar 1) (eCallX 2 (r .f_bound_for) (aCons (eVar 0) (aCons (eVar 3) aNil)))) aNil))) aNil)))
def f_used_names_2 (r : Fn → List D → M D) : FS :=
    (sRet (eIce (eVar 2)))
def f_used_names_3 (r : Fn → List D → M D) : FS :=
    (sSeq (sSet 2 (eA mkLstM aNil))
    (sSeq (sFor (iA enumXM (aCons (eCallX 1 (r .f_parts_of_term) (aCons (eVar 0) aNil)) aNil)) (gTupD 2 (gConss (gN 3) (gConss (gN 4) gNils))) (f_used_names_1 r))
    (f_used_names_2 r)))
def b_f_used_names (r : Fn → List D → M D) : FS :=
    (sSeq (sIf (tC2 (opEqZ false) (e2 opSubs (eVar 0) (eC (.p (.int 0)))) (eC (.p (.str "name")))) (sRet (eIf (tC2 (opInX true) (e2 opSubs (eVar 0) (eC (.p (.int 1)))) (eVar 1)) (eA mkLst (aCons (e2 opSubs (eVar 0) (eC (.p (.int 1)))) aNil)) (eA mkLst aNil))) sNext)
    (f_used_names_3 r))
def b_f_free_names (r : Fn → List D → M D) : FS :=
    (sRet (eA tupleXM (aCons (e1 sortSetM (eCallX 2 (r .f_used_names) (aCons (eVar 0) (aCons (eA mkTup aNil) aNil)))) aNil)))
def b_f_begin_l (r : Fn → List D → M D) : FS :=
    (sRet (eDisp [((eC (.p (.str "cells"))), (eOr (eSli (eVar 0) oNone (oSome (eC (.p (.int 63))))) (eA mkLst (aCons (eC (.p (.int 0))) aNil)))), ((eC (.p (.str "place"))), (eC (.p (.int 0)))), ((eC (.p (.str "left"))), (eC (.p (.int 0))))] finDM))
def f_draw_l_1 (r : Fn → List D → M D) : FS :=
    (sSeq (sAsgs (aCons (e2 opMod (eA intM (aCons (e2 opSubs (eVar 0) (eC (.p (.str "left")))) aNil)) (eVar 1)) (aCons (e2 opDivX (e2 opSubs (eVar 0) (eC (.p (.str "left")))) (eVar 1)) aNil)) (gConss (gN 2) (gConss (gSubD (eVar 0) (eC (.p (.str "left")))) gNils)))
    (sRet (eVar 2)))
def b_f_draw_l (r : Fn → List D → M D) : FS :=
    (sSeq (sIf (tC2 (opLt) (e2 opSubs (eVar 0) (eC (.p (.str "left")))) (eVar 1)) (sSeq (sAsgs (aCons (e2 opSubs (eVar 0) (eC (.p (.str "place")))) (aCons (eA lenM (aCons (e2 opSubs (eVar 0) (eC (.p (.str "cells")))) aNil)) aNil)) (gConss (gN 3) (gConss (gN 4) gNils)))
    (sSeq (sAsgs (aCons (e2 opSubs (e2 opSubs (eVar 0) (eC (.p (.str "cells")))) (e2 opMod (eA intM (aCons (eVar 3) aNil)) (eVar 4))) (aCons (e2 opAdd (eVar 3) (eC (.p (.int 1)))) aNil)) (gConss (gN 5) (gConss (gSubD (eVar 0) (eC (.p (.str "place")))) gNils)))
    (sSeq (sAsg (e2 opMod (eA intM (aCons (e2 opPow (e2 opAdd (e2 opAdd (e2 opMod (eA intM (aCons (eVar 5) aNil)) (eC (.p (.int 2147483587)))) (e2 opMulX (eC (.p (.int 48271))) (eVar 3))) (eC (.p (.int 16807)))) (eC (.p (.int 13)))) aNil)) (e2 opAdd (e2 opPow (eC (.p (.int 10))) (eC (.p (.int 50)))) (eC (.p (.int 57))))) (gSubD (eVar 0) (eC (.p (.str "left")))))
    (sIf (tAndD (tC2 (opGe) (eVar 5) (e2 opPow (eC (.p (.int 10))) (eC (.p (.int 18))))) (tC2 (opLt) (eVar 3) (eVar 4))) (sAsg (e2 opSub (eVar 5) (e2 opPow (eC (.p (.int 10))) (eC (.p (.int 18))))) (gSubD (eVar 0) (eC (.p (.str "left"))))) sNext)))) sNext)
    (f_draw_l_1 r))
def b_f_pick_l (r : Fn → List D → M D) : FS :=
    (sRet (e2 opSubs (eVar 1) (eCallX 2 (r .f_draw_l) (aCons (eVar 0) (aCons (eA lenM (aCons (eVar 1) aNil)) aNil)))))
def f_shuffled_l_1 (r : Fn → List D → M D) : FS :=
    (sExpr (eLm appendM (eVar 3) (aCons (eLm popM (eVar 2) (aCons (eCallX 2 (r .f_draw_l) (aCons (eVar 0) (aCons (eA lenM (aCons (eVar 2) aNil)) aNil))) aNil)) aNil)))
def f_shuffled_l_2 (r : Fn → List D → M D) : FS :=
    (sRet (eIce (eVar 3)))
def b_f_shuffled_l (r : Fn → List D → M D) : FS :=
    (sSeq (sAsgs (aCons (eA (listXM finM) (aCons (eVar 1) aNil)) (aCons (eA mkLstM aNil) aNil)) (gConss (gN 2) (gConss (gN 3) gNils)))
    (sSeq (whileD 1000 (tC2 (opEqZ true) (eVar 2) (eA mkLst aNil)) (f_shuffled_l_1 r))
    (f_shuffled_l_2 r)))
def b_f_odd_l (r : Fn → List D → M D) : FS :=
    (sSeq (sSet 1 (eA mkLst (aCons (eC (.p .none)) (aCons (eC (.p (.bool true))) (aCons (eC (.p (.bool false))) (aCons (eC (.p (.int 0))) (aCons (eC (.p (.int 1))) (aCons (e1 opNeg (eC (.p (.int 1)))) (aCons (eC (.p (.int 7))) (aCons (e2 opPow (eC (.p (.int 10))) (eC (.p (.int 40)))) (aCons (eC (.p (.str ""))) (aCons (eC (.p (.str "a"))) (aCons (eC (.p (.str "self"))) (aCons (eC (.p (.str "data"))) (aCons (eC (.p (.str "A"))) (aCons (eC (.p (.str "a b"))) (aCons (eC (.p (.str "whole"))) (aCons (eA mkTup aNil) (aCons (eA mkLst aNil) (aCons (fun _ S => .ok (.p (.dict [])) S) (aCons (eA mkTup (aCons (eC (.p (.str "a"))) aNil)) aNil)))))))))))))))))))))
    (sSeq (sSet 1 (e2 opAddX (eVar 1) (eA mkLst (aCons (eA mkLst (aCons (eC (.p (.str "a"))) aNil)) (aCons (eA mkTup (aCons (eC (.p (.int 0))) aNil)) (aCons (eA mkTup (aCons (eC (.p (.int 1))) (aCons (eC (.p (.int 2))) aNil))) (aCons (eA mkLst (aCons (eC (.p (.int 0))) aNil)) (aCons (eA mkTup (aCons (eA mkTup (aCons (eC (.p (.str "a"))) aNil)) aNil)) (aCons (eDisp [((eC (.p (.str "a"))), (eC (.p (.int 1))))] finDL) (aCons (eA mkTup (aCons (eC (.p (.str "var"))) (aCons (eC (.p (.str "a"))) aNil))) (aCons (eA mkTup (aCons (eC (.p (.str "con"))) (aCons (eC (.p (.str "whole"))) aNil))) (aCons (eA mkTup (aCons (eC (.p (.str "name"))) (aCons (eC (.p (.str "a"))) aNil))) (aCons (eA mkTup (aCons (eC (.p .none)) aNil)) aNil)))))))))))))
    (sSeq (sSet 1 (e2 opAddX (eVar 1) (eA mkLst (aCons (eA mkTup (aCons (eC (.p (.str "apply"))) (aCons (eA mkTup (aCons (eC (.p (.str "con"))) (aCons (eC (.p (.str "to"))) aNil))) aNil))) (aCons (eA mkTup (aCons (eC (.p (.str "var"))) (aCons (eC (.p (.int 1))) aNil))) (aCons (eC (.p (.str "abcdefghi"))) (aCons (eA mkTup (aCons (eC (.p (.int 1))) (aCons (eC (.p (.int 1))) aNil))) (aCons (eA mkTup (aCons (eC (.p (.str "whole"))) (aCons (eC (.p (.bool true))) aNil))) (aCons (eA mkLst (aCons (eA mkTup aNil) aNil)) (aCons (eC (.p (.int 3))) (aCons (eA mkTup (aCons (eC (.p (.str "same"))) (aCons (eA mkTup aNil) aNil))) aNil)))))))))))
    (sRet (eCallX 2 (r .f_pick_l) (aCons (eVar 0) (aCons (e2 opAddX (eVar 1) (eA mkLst (aCons (eA mkTup (aCons (eC (.p (.str "given"))) (aCons (eC (.p (.int 0))) (aCons (eA mkTup aNil) aNil)))) (aCons (eA mkTup (aCons (eC (.p (.str "case"))) (aCons (eC (.p (.str "a"))) (aCons (eA mkTup aNil) aNil)))) (aCons (eA mkTup (aCons (eC (.p (.str "whole"))) (aCons (eC (.p (.int 1))) aNil))) (aCons (eA mkTup (aCons (eC (.p (.str "hole"))) aNil)) (aCons (eA mkTup (aCons (eC (.p (.str "definition"))) (aCons (eC (.p (.str "a"))) aNil))) (aCons (fun _ S => .ok (.p (.dict [])) S) aNil)))))))) aNil)))))))
def b_f_words_l (r : Fn → List D → M D) : FS :=
    (sSeq (sAsgs (aCons (eCallX 2 (r .f_pick_l) (aCons (eVar 0) (aCons (eA mkLst (aCons (eC (.p (.str ""))) (aCons (eC (.p (.str "x"))) (aCons (eC (.p (.str "oo"))) (aCons (eC (.p (.str "zzzz"))) (aCons (eC (.p (.str "ery"))) (aCons (eC (.p (.str "bbbbbbb"))) aNil))))))) aNil))) (aCons (eCallX 2 (r .f_draw_l) (aCons (eVar 0) (aCons (eC (.p (.int 26))) aNil))) aNil)) (gConss (gN 4) (gConss (gN 5) gNils)))
    (sSeq (sSet 2 (eLc (iRange (aCons (eVar 1) aNil)) (gN 6) tYesD (e2 opSubs (eC (.p (.str "abcdefghijklmnopqrstuvwxyz"))) (e2 opMod (eA intTM (aCons (e2 opAddX (eVar 5) (e2 opMulX (eC (.p (.int 7))) (eVar 6))) aNil)) (eC (.p (.int 26))))) [6] finL))
    (sSeq (sSet 3 (e2 (opEqZ false) (eCallX 2 (r .f_draw_l) (aCons (eVar 0) (aCons (eC (.p (.int 2))) aNil))) (eC (.p (.int 0)))))
    (sRet (eLc (iSeq (eVar 2)) (gN 7) tYesD (eIf (tVal (eVar 3)) (e2 opAddX (eVar 4) (eVar 7)) (e2 opAddX (eVar 7) (eVar 4))) [7] finL)))))
def f_term_l_1 (r : Fn → List D → M D) : FS :=
    (sSeq (sSet 5 (eLc (iRange (aCons (e2 opAddX (eC (.p (.int 1))) (eCallX 2 (r .f_draw_l) (aCons (eVar 0) (aCons (eC (.p (.int 2))) aNil)))) aNil)) (gN 7) tYesD (eA mkTup (aCons (eCallX 2 (r .f_pick_l) (aCons (eVar 0) (aCons (eVar 1) aNil))) (aCons (eSli (eVar 4) oNone (oSome (eCallX 2 (r .f_draw_l) (aCons (eVar 0) (aCons (eC (.p (.int 3))) aNil))))) (aCons (eCallX 3 (r .f_term_l) (aCons (eVar 0) (aCons (eVar 1) (aCons (e2 opSub (eVar 2) (eC (.p (.int 1)))) aNil)))) aNil)))) [7] finL))
    (sRet (eA mkTup (aCons (eC (.p (.str "match"))) (aCons (eCallX 3 (r .f_term_l) (aCons (eVar 0) (aCons (eVar 1) (aCons (e2 opSub (eVar 2) (eC (.p (.int 1)))) aNil)))) (aCons (eA tupleXM (aCons (eVar 5) aNil)) aNil))))))
def f_term_l_2 (r : Fn → List D → M D) : FS :=
    (sSeq (sSet 4 (eA tupleXM (aCons (eSli (eCallX 2 (r .f_shuffled_l) (aCons (eVar 0) (aCons (eVar 1) aNil))) oNone (oSome (e2 opAddX (eC (.p (.int 1))) (eCallX 2 (r .f_draw_l) (aCons (eVar 0) (aCons (eC (.p (.int 2))) aNil)))))) aNil)))
    (sSeq (sIf (tC2 (opEqZ false) (eVar 3) (eC (.p (.int 6)))) (sRet (eA mkTup (aCons (eC (.p (.str "let"))) (aCons (eA tupleXM (aCons (eLc (iSeq (eVar 4)) (gN 8) tYesD (eA mkTup (aCons (eVar 8) (aCons (eCallX 3 (r .f_term_l) (aCons (eVar 0) (aCons (eVar 1) (aCons (e2 opSub (eVar 2) (eC (.p (.int 1)))) aNil)))) aNil))) [8] finL) aNil)) (aCons (eCallX 3 (r .f_term_l) (aCons (eVar 0) (aCons (eVar 1) (aCons (e2 opSub (eVar 2) (eC (.p (.int 1)))) aNil)))) aNil))))) sNext)
    (f_term_l_1 r)))
def f_term_l_3 (r : Fn → List D → M D) : FS :=
    (sSeq (sIf (tC2 (opEqZ false) (eVar 3) (eC (.p (.int 5)))) (sRet (eA mkTup (aCons (eC (.p (.str "given"))) (aCons (eCallX 2 (r .f_pick_l) (aCons (eVar 0) (aCons (eVar 1) aNil))) (aCons (eCallX 3 (r .f_term_l) (aCons (eVar 0) (aCons (eVar 1) (aCons (e2 opSub (eVar 2) (eC (.p (.int 1)))) aNil)))) aNil))))) sNext)
    (f_term_l_2 r))
def f_term_l_4 (r : Fn → List D → M D) : FS :=
    (sSeq (sIf (tC2 (opEqZ false) (eVar 3) (eC (.p (.int 4)))) (sRet (eA mkTup (aCons (eC (.p (.str "use"))) (aCons (eCallX 3 (r .f_term_l) (aCons (eVar 0) (aCons (eVar 1) (aCons (e2 opSub (eVar 2) (eC (.p (.int 1)))) aNil)))) (aCons (eCallX 3 (r .f_term_l) (aCons (eVar 0) (aCons (eVar 1) (aCons (e2 opSub (eVar 2) (eC (.p (.int 1)))) aNil)))) aNil))))) sNext)
    (f_term_l_3 r))
def b_f_term_l (r : Fn → List D → M D) : FS :=
    (sSeq (sSet 3 (eIf (tC2 (opGt) (eVar 2) (eC (.p (.int 0)))) (eCallX 2 (r .f_draw_l) (aCons (eVar 0) (aCons (eC (.p (.int 8))) aNil))) (eCallX 2 (r .f_draw_l) (aCons (eVar 0) (aCons (eC (.p (.int 4))) aNil)))))
    (sSeq (sIf (tC2 (opLt) (eVar 3) (eC (.p (.int 4)))) (sSeq (sSet 6 (eA mkLst (aCons (eA mkTup (aCons (eC (.p (.str "whole"))) (aCons (eCallX 2 (r .f_pick_l) (aCons (eVar 0) (aCons (eA mkLst (aCons (eC (.p (.int 0))) (aCons (e1 opNeg (e2 opPow (eC (.p (.int 10))) (eC (.p (.int 30))))) (aCons (e2 opPow (eC (.p (.int 10))) (eC (.p (.int 30)))) (aCons (eC (.p (.int 5))) aNil))))) aNil))) aNil))) (aCons (eA mkTup (aCons (eC (.p (.str "text"))) (aCons (eCallX 2 (r .f_pick_l) (aCons (eVar 0) (aCons (eA mkLst (aCons (eC (.p (.str ""))) (aCons (e2 opMulX (eC (.p (.str "a"))) (eC (.p (.int 200)))) (aCons (eC (.p (.str "it's ~"))) aNil)))) aNil))) aNil))) aNil))))
    (sRet (eCallX 2 (r .f_pick_l) (aCons (eVar 0) (aCons (e2 opAddX (e2 opAddX (eA mkLst (aCons (eA mkTup (aCons (eC (.p (.str "name"))) (aCons (eCallX 2 (r .f_pick_l) (aCons (eVar 0) (aCons (eVar 1) aNil))) aNil))) (aCons (eA mkTup (aCons (eC (.p (.str "name"))) (aCons (eCallX 2 (r .f_pick_l) (aCons (eVar 0) (aCons (eVar 1) aNil))) aNil))) aNil))) (eVar 6)) (eA mkLst (aCons (eA mkTup (aCons (eC (.p (.str "hole"))) aNil)) aNil))) aNil))))) sNext)
    (f_term_l_4 r)))
def f_parts_l_1 (r : Fn → List D → M D) : FS :=
    (sRet (eIf (tC2 (opEqZ false) (e2 opSubs (eVar 0) (eC (.p (.int 0)))) (eC (.p (.str "match")))) (e2 opAddX (eA mkLst (aCons (eA mkTup (aCons (e2 opSubs (eVar 0) (eC (.p (.int 1)))) (aCons (eA mkTup aNil) aNil))) aNil)) (eLc (iSeq (e2 opSubs (eVar 0) (eC (.p (.int 2))))) (gN 2) tYesD (eA mkTup (aCons (e2 opSubs (eVar 2) (eC (.p (.int 2)))) (aCons (e2 opSubs (eVar 2) (eC (.p (.int 1)))) aNil))) [2] finL)) (eA mkLst aNil)))
def f_parts_l_2 (r : Fn → List D → M D) : FS :=
    (sSeq (sIf (tC2 (opEqZ false) (e2 opSubs (eVar 0) (eC (.p (.int 0)))) (eC (.p (.str "let")))) (sSeq (sSet 1 (eA tupleXM (aCons (eLc (iSeq (e2 opSubs (eVar 0) (eC (.p (.int 1))))) (gTupD 2 (gConss (gN 3) (gConss (gN 4) gNils))) tYesD (eVar 3) [3, 4] finL) aNil)))
    (sRet (e2 opAddX (eLc (iSeq (e2 opSubs (eVar 0) (eC (.p (.int 1))))) (gTupD 2 (gConss (gN 3) (gConss (gN 4) gNils))) tYesD (eA mkTup (aCons (eVar 4) (aCons (eVar 1) aNil))) [3, 4] finL) (eA mkLst (aCons (eA mkTup (aCons (e2 opSubs (eVar 0) (eC (.p (.int 2)))) (aCons (eVar 1) aNil))) aNil))))) sNext)
    (f_parts_l_1 r))
def f_parts_l_3 (r : Fn → List D → M D) : FS :=
    (sSeq (sIf (tC2 (opEqZ false) (e2 opSubs (eVar 0) (eC (.p (.int 0)))) (eC (.p (.str "given")))) (sRet (eA mkLst (aCons (eA mkTup (aCons (e2 opSubs (eVar 0) (eC (.p (.int 2)))) (aCons (eA mkTup (aCons (e2 opSubs (eVar 0) (eC (.p (.int 1)))) aNil)) aNil))) aNil))) sNext)
    (f_parts_l_2 r))
def b_f_parts_l (r : Fn → List D → M D) : FS :=
    (sSeq (sIf (tC2 (opEqZ false) (e2 opSubs (eVar 0) (eC (.p (.int 0)))) (eC (.p (.str "use")))) (sRet (eA mkLst (aCons (eA mkTup (aCons (e2 opSubs (eVar 0) (eC (.p (.int 1)))) (aCons (eA mkTup aNil) aNil))) (aCons (eA mkTup (aCons (e2 opSubs (eVar 0) (eC (.p (.int 2)))) (aCons (eA mkTup aNil) aNil))) aNil)))) sNext)
    (f_parts_l_3 r))
def f_spots_l_1 (r : Fn → List D → M D) : FS :=
    (sSet 2 (e2 opAddX (eVar 2) (eCallX 2 (r .f_spots_l) (aCons (e2 opSubs (eVar 4) (eC (.p (.int 0)))) (aCons (e2 opAddX (eVar 1) (eA mkTup (aCons (eVar 3) aNil))) aNil)))))
def f_spots_l_2 (r : Fn → List D → M D) : FS :=
    (sRet (eVar 2))
def b_f_spots_l (r : Fn → List D → M D) : FS :=
    (sSeq (sSet 2 (eA mkLst (aCons (eA mkTup (aCons (eVar 1) (aCons (eVar 0) aNil))) aNil)))
    (sSeq (sFor (iA enumXM (aCons (eCallX 1 (r .f_parts_l) (aCons (eVar 0) aNil)) aNil)) (gTupD 2 (gConss (gN 3) (gConss (gN 4) gNils))) (f_spots_l_1 r))
    (f_spots_l_2 r)))
def f_free_l_1 (r : Fn → List D → M D) : FS :=
    (sRet (eA sumLM (aCons (eLc (iSeq (eCallX 1 (r .f_parts_l) (aCons (eVar 0) aNil))) (gTupD 2 (gConss (gN 2) (gConss (gN 3) gNils))) tYesD (eCallX 2 (r .f_free_l) (aCons (eVar 2) (aCons (e2 opAddX (eVar 1) (eVar 3)) aNil))) [2, 3] finL) (aCons (eA mkLst aNil) aNil))))
def b_f_free_l (r : Fn → List D → M D) : FS :=
    (sSeq (sIf (tC2 (opEqZ false) (e2 opSubs (eVar 0) (eC (.p (.int 0)))) (eC (.p (.str "name")))) (sRet (eIf (tC2 (opInX false) (e2 opSubs (eVar 0) (eC (.p (.int 1)))) (eVar 1)) (eA mkLst aNil) (eA mkLst (aCons (e2 opSubs (eVar 0) (eC (.p (.int 1)))) aNil)))) sNext)
    (f_free_l_1 r))
def f_is_named_l_1 (r : Fn → List D → M D) : FS :=
    (sRet (eAnd (eChain opLeX opLeX (eC (.p (.int 1))) (eA lenM (aCons (eVar 0) aNil)) (eC (.p (.int 8)))) (e2 opEqE (eLc (iSeq (eVar 0)) (gN 2) (tC2 (opInX true) (eVar 2) (eC (.p (.str "abcdefghijklmnopqrstuvwxyz")))) (eVar 2) [2] finL) (eA mkLst aNil))))
def b_f_is_named_l (r : Fn → List D → M D) : FS :=
    (sSeq (sSet 1 (eA mkLst (aCons (eC (.p (.str "data"))) (aCons (eC (.p (.str "role"))) (aCons (eC (.p (.str "case"))) (aCons (eC (.p (.str "define"))) (aCons (eC (.p (.str "derive"))) (aCons (eC (.p (.str "picks"))) (aCons (eC (.p (.str "above"))) (aCons (eC (.p (.str "settles"))) (aCons (eC (.p (.str "member"))) (aCons (eC (.p (.str "as"))) (aCons (eC (.p (.str "if"))) (aCons (eC (.p (.str "given"))) aNil))))))))))))))
    (sSeq (sIf (tOrD (tNotD (tVal (e1 (isiM .str) (eVar 0)))) (tC2 (opInX false) (eVar 0) (e2 opAddX (eVar 1) (eA mkLst (aCons (eC (.p (.str "let"))) (aCons (eC (.p (.str "and"))) (aCons (eC (.p (.str "in"))) (aCons (eC (.p (.str "match"))) (aCons (eC (.p (.str "end"))) aNil))))))))) (sRet (eC (.p (.bool false)))) sNext)
    (f_is_named_l_1 r)))
def b_f_are_named_l (r : Fn → List D → M D) : FS :=
    (sRet (eAnd (e1 (isiM .tuple) (eVar 0)) (eAnd (e2 opEqE (eLc (iSeq (eVar 0)) (gN 1) (tNotD (tVal (eCallX 1 (r .f_is_named_l) (aCons (eVar 1) aNil)))) (eVar 1) [1] finL) (eA mkLst aNil)) (e2 (opEqZ false) (e1 lenSetM (eVar 0)) (eA lenM (aCons (eVar 0) aNil))))))
def f_is_leaf_l_1 (r : Fn → List D → M D) : FS :=
    (sRet (e2 opEqE (eLc (iSeq (e2 opSubs (eVar 0) (eC (.p (.int 1))))) (gN 1) (tOrD (tNotD (tChain opLeX opLeX (eC (.p (.str " "))) (eVar 1) (eC (.p (.str "~"))))) (tC2 (opEqZ false) (eA ordM (aCons (eVar 1) aNil)) (eC (.p (.int 37))))) (eVar 1) [1] finL) (eA mkLst aNil)))
def f_is_leaf_l_2 (r : Fn → List D → M D) : FS :=
    (sSeq (sIf (tOrD (tC2 (opEqZ true) (e2 opSubs (eVar 0) (eC (.p (.int 0)))) (eC (.p (.str "text")))) (tOrD (tNotD (tVal (e1 (isiM .str) (e2 opSubs (eVar 0) (eC (.p (.int 1))))))) (tC2 (opGt) (eA lenM (aCons (e2 opSubs (eVar 0) (eC (.p (.int 1)))) aNil)) (eC (.p (.int 200)))))) (sRet (eC (.p (.bool false)))) sNext)
    (f_is_leaf_l_1 r))
def f_is_leaf_l_3 (r : Fn → List D → M D) : FS :=
    (sSeq (sIf (tC2 (opEqZ false) (e2 opSubs (eVar 0) (eC (.p (.int 0)))) (eC (.p (.str "whole")))) (sRet (eAnd (e1 (isiM .int) (e2 opSubs (eVar 0) (eC (.p (.int 1))))) (eAnd (eNot (e1 (isiM .bool) (e2 opSubs (eVar 0) (eC (.p (.int 1)))))) (e2 (opLeX) (eA absM (aCons (e2 opSubs (eVar 0) (eC (.p (.int 1)))) aNil)) (e2 opPow (eC (.p (.int 10))) (eC (.p (.int 30)))))))) sNext)
    (f_is_leaf_l_2 r))
def b_f_is_leaf_l (r : Fn → List D → M D) : FS :=
    (sSeq (sIf (tC2 (opEqZ false) (e2 opSubs (eVar 0) (eC (.p (.int 0)))) (eC (.p (.str "name")))) (sRet (eCallX 1 (r .f_is_named_l) (aCons (e2 opSubs (eVar 0) (eC (.p (.int 1)))) aNil))) sNext)
    (f_is_leaf_l_3 r))
def f_is_one_l_1 (r : Fn → List D → M D) : FS :=
    (sIf (tAndD (tC2 (opEqZ false) (eVar 2) (eC (.p (.int 3)))) (tNotD (tVal (eCallX 1 (r .f_are_named_l) (aCons (e2 opSubs (eVar 3) (eC (.p (.int 1)))) aNil))))) (sRet (eC (.p (.bool false)))) sNext)
def f_is_one_l_2 (r : Fn → List D → M D) : FS :=
    (sSeq (sIf (tOrD (tNotD (tVal (e1 (isiM .tuple) (eVar 3)))) (tOrD (tC2 (opEqZ true) (eA lenM (aCons (eVar 3) aNil)) (eVar 2)) (tOrD (tNotD (tVal (eCallX 1 (r .f_is_named_l) (aCons (e2 opSubs (eVar 3) (eC (.p (.int 0)))) aNil)))) (tNotD (tVal (eCallX 1 (r .f_is_one_l) (aCons (e2 opSubs (eVar 3) (e2 opSub (eVar 2) (eC (.p (.int 1))))) aNil))))))) (sRet (eC (.p (.bool false)))) sNext)
    (f_is_one_l_1 r))
def f_is_one_l_3 (r : Fn → List D → M D) : FS :=
    (sRet (eCallX 1 (r .f_is_one_l) (aCons (e2 opSubs (eVar 0) (eC (.p (.int 1)))) aNil)))
def f_is_one_l_4 (r : Fn → List D → M D) : FS :=
    (sSeq (sIf (tC2 (opEqZ false) (eVar 2) (eC (.p (.int 2)))) (sRet (eAnd (eCallX 1 (r .f_are_named_l) (aCons (eA tupleXM (aCons (eLc (iSeq (eVar 1)) (gN 3) tYesD (e2 opSubs (eVar 3) (eC (.p (.int 0)))) [3] finL) aNil)) aNil)) (eCallX 1 (r .f_is_one_l) (aCons (e2 opSubs (eVar 0) (eC (.p (.int 2)))) aNil)))) sNext)
    (f_is_one_l_3 r))
def f_is_one_l_5 (r : Fn → List D → M D) : FS :=
    (sSeq (sSet 2 (eIf (tC2 (opEqZ false) (e2 opSubs (eVar 0) (eC (.p (.int 0)))) (eC (.p (.str "let")))) (eC (.p (.int 2))) (eC (.p (.int 3)))))
    (sSeq (sFor (iSeq (eVar 1)) (gN 3) (f_is_one_l_2 r))
    (f_is_one_l_4 r)))
def f_is_one_l_6 (r : Fn → List D → M D) : FS :=
    (sSeq (sSet 1 (eIf (tC2 (opEqZ false) (e2 opSubs (eVar 0) (eC (.p (.int 0)))) (eC (.p (.str "let")))) (e2 opSubs (eVar 0) (eC (.p (.int 1)))) (e2 opSubs (eVar 0) (eC (.p (.int 2))))))
    (sSeq (sIf (tOrD (tC2 (opInX true) (e2 opSubs (eVar 0) (eC (.p (.int 0)))) (eA mkTup (aCons (eC (.p (.str "let"))) (aCons (eC (.p (.str "match"))) aNil)))) (tOrD (tNotD (tVal (e1 (isiM .tuple) (eVar 1)))) (tC2 (opEqZ false) (eVar 1) (eA mkTup aNil)))) (sRet (eC (.p (.bool false)))) sNext)
    (f_is_one_l_5 r)))
def f_is_one_l_7 (r : Fn → List D → M D) : FS :=
    (sSeq (sIf (tC2 (opInX false) (e2 opSubs (eVar 0) (eC (.p (.int 0)))) (eA mkTup (aCons (eC (.p (.str "use"))) (aCons (eC (.p (.str "given"))) aNil)))) (sRet (eAnd (eCallX 1 (r .f_is_one_l) (aCons (e2 opSubs (eVar 0) (eC (.p (.int 2)))) aNil)) (eIf (tC2 (opEqZ false) (e2 opSubs (eVar 0) (eC (.p (.int 0)))) (eC (.p (.str "use")))) (eCallX 1 (r .f_is_one_l) (aCons (e2 opSubs (eVar 0) (eC (.p (.int 1)))) aNil)) (eCallX 1 (r .f_is_named_l) (aCons (e2 opSubs (eVar 0) (eC (.p (.int 1)))) aNil))))) sNext)
    (f_is_one_l_6 r))
def f_is_one_l_8 (r : Fn → List D → M D) : FS :=
    (sSeq (sIf (tC2 (opLt) (eA lenM (aCons (eVar 0) aNil)) (eC (.p (.int 3)))) (sRet (eIf (tC2 (opEqZ false) (eA lenM (aCons (eVar 0) aNil)) (eC (.p (.int 1)))) (e2 (opEqZ false) (eVar 0) (eA mkTup (aCons (eC (.p (.str "hole"))) aNil))) (eCallX 1 (r .f_is_leaf_l) (aCons (eVar 0) aNil)))) sNext)
    (f_is_one_l_7 r))
def b_f_is_one_l (r : Fn → List D → M D) : FS :=
    (sSeq (sIf (tOrD (tNotD (tVal (e1 (isiM .tuple) (eVar 0)))) (tOrD (tC2 (opEqZ false) (eVar 0) (eA mkTup aNil)) (tOrD (tNotD (tVal (e1 (isiM .str) (e2 opSubs (eVar 0) (eC (.p (.int 0))))))) (tC2 (opGt) (eA lenM (aCons (eVar 0) aNil)) (eC (.p (.int 3))))))) (sRet (eC (.p (.bool false)))) sNext)
    (f_is_one_l_8 r))
def f_bent_l_1 (r : Fn → List D → M D) : FS :=
    (sRet (eCallX 2 (r .f_pick_l) (aCons (eVar 0) (aCons (eVar 2) aNil))))
def f_bent_l_2 (r : Fn → List D → M D) : FS :=
    (sSeq (sSet 3 (eCallX 2 (r .f_draw_l) (aCons (eVar 0) (aCons (eC (.p (.int 4))) aNil))))
    (sSeq (sIf (tAndD (tVal (e1 (isiM .tuple) (eVar 1))) (tC2 (opGt) (eVar 3) (eC (.p (.int 0))))) (sRet (e2 opSubs (eA mkLst (aCons (eA (listXM finL) (aCons (eVar 1) aNil)) (aCons (eSli (eVar 1) oNone (oSome (e1 opNeg (eC (.p (.int 1)))))) (aCons (e2 opAddX (eVar 1) (eSli (eVar 1) oNone (oSome (eC (.p (.int 1)))))) aNil)))) (e2 opSub (eVar 3) (eC (.p (.int 1)))))) sNext)
    (f_bent_l_1 r)))
def b_f_bent_l (r : Fn → List D → M D) : FS :=
    (sSeq (sIf (tAndD (tVal (e1 (isiM .tuple) (eVar 1))) (tAndD (tC2 (opEqZ true) (eVar 1) (eA mkTup aNil)) (tC2 (opGt) (eCallX 2 (r .f_draw_l) (aCons (eVar 0) (aCons (eC (.p (.int 4))) aNil))) (eC (.p (.int 0)))))) (sSeq (sSet 4 (eCallX 2 (r .f_draw_l) (aCons (eVar 0) (aCons (eA lenM (aCons (eVar 1) aNil)) aNil))))
    (sRet (e2 opAddX (e2 opAddX (eSli (eVar 1) oNone (oSome (eVar 4))) (eA mkTup (aCons (eCallX 3 (r .f_bent_l) (aCons (eVar 0) (aCons (e2 opSubs (eVar 1) (eVar 4)) (aCons (eVar 2) aNil)))) aNil))) (eSli (eVar 1) (oSome (e2 opAddX (eVar 4) (eC (.p (.int 1))))) oNone)))) sNext)
    (f_bent_l_2 r))
def f_is_outside_l_1 (r : Fn → List D → M D) : FS :=
    (sRet (eC (.p (.bool false))))
def b_f_is_outside_l (r : Fn → List D → M D) : FS :=
    (sSeq (sTry "OutOfTerm" 2 (sExpr (eCallX 2 (r .f_part_at) (aCons (eVar 0) (aCons (eVar 1) aNil)))) (fun a dd => (eAnd (e2 (opEqZ false) (eA reprM (aCons (eXf a dd 2 "place") aNil)) (eA reprM (aCons (eVar 1) aNil))) (eXi a dd 2 true))))
    (f_is_outside_l_1 r))
def f_law_1 (r r2 : Fn → List D → M D) : FS :=
    (sIf (tAndD (tC2 (opInX true) (eA reprM (aCons (eVar 6) aNil)) (eLc (iSeq (eVar 5)) (gTupD 2 (gConss (gN 8) (gConss (gN 9) gNils))) tYesD (eA reprM (aCons (eVar 8) aNil)) [8, 9] finL)) (tNotD (tVal (eCallX 2 (r .f_is_outside_l) (aCons (eVar 4) (aCons (eVar 6) aNil)))))) (sRet (eC (.p (.bool false)))) sNext)
def f_law_2 (r r2 : Fn → List D → M D) : FS :=
    (sSeq (sSet 6 (eCallX 3 (r .f_bent_l) (aCons (eVar 1) (aCons (eVar 4) (aCons (eA mkLst (aCons (eCallX 1 (r .f_odd_l) (aCons (eVar 1) aNil)) (aCons (eCallX 1 (r .f_odd_l) (aCons (eVar 1) aNil)) (aCons (eC (.p (.str "in"))) (aCons (e2 opMulX (eC (.p (.str "a"))) (eC (.p (.int 9)))) (aCons (e2 opMulX (eC (.p (.str "a"))) (eC (.p (.int 201)))) (aCons (e2 opAddX (e2 opPow (eC (.p (.int 10))) (eC (.p (.int 30)))) (eC (.p (.int 1)))) (aCons (eC (.p (.bool true))) (aCons (e2 opSubs (eVar 3) (eC (.p (.int 0)))) (aCons (eA mkTup aNil) aNil)))))))))) aNil)))))
    (sIf (tC2 (opEqZ true) (eA reprM (aCons (eCallX 1 (r .f_is_term) (aCons (eVar 6) aNil)) aNil)) (eA reprM (aCons (eCallX 1 (r .f_is_one_l) (aCons (eVar 6) aNil)) aNil))) (sRet (eC (.p (.bool false)))) sNext))
def f_law_3 (r r2 : Fn → List D → M D) : FS :=
    (sFor (iRange (aCons (eC (.p (.int 8))) aNil)) (gN 7) (f_law_2 r r2))
def f_law_4 (r r2 : Fn → List D → M D) : FS :=
    (sSeq (sFor (iSeq (eA mkLst (aCons (eCallX 1 (r .f_odd_l) (aCons (eVar 1) aNil)) (aCons (e2 opAddX (e2 opSubs (eCallX 2 (r .f_pick_l) (aCons (eVar 1) (aCons (eVar 5) aNil))) (eC (.p (.int 0)))) (eA mkTup (aCons (eCallX 2 (r .f_draw_l) (aCons (eVar 1) (aCons (eC (.p (.int 3))) aNil))) aNil))) (aCons (eA mkTup (aCons (eC (.p (.int 0))) (aCons (eC (.p (.bool true))) aNil))) (aCons (eA mkLst (aCons (eC (.p (.int 0))) aNil)) (aCons (e2 opMulT (eA mkTup (aCons (eC (.p (.int 0))) aNil)) (eC (.p (.int 30)))) (aCons (eA mkTup (aCons (eC (.p (.str "0"))) aNil)) (aCons (eA mkTup (aCons (e1 opNeg (eC (.p (.int 1)))) aNil)) aNil))))))))) (gN 6) (f_law_1 r r2))
    (f_law_3 r r2))
def f_law_5 (r r2 : Fn → List D → M D) : FS :=
    (sSeq (sIf (tC2 (opEqZ true) (eA reprM (aCons (eCallX 1 (r .f_free_names) (aCons (eVar 4) aNil)) aNil)) (eA reprM (aCons (eA tupleXM (aCons (e1 sortSetM (eCallX 2 (r .f_free_l) (aCons (eVar 4) (aCons (eA mkTup aNil) aNil)))) aNil)) aNil))) (sRet (eC (.p (.bool false)))) sNext)
    (f_law_4 r r2))
def f_law_6 (r r2 : Fn → List D → M D) : FS :=
    (sSeq (sIf (tC2 (opEqZ true) (eA reprM (aCons (eLc (iSeq (eVar 5)) (gTupD 2 (gConss (gN 8) (gConss (gN 9) gNils))) tYesD (eCallX 2 (r .f_part_at) (aCons (eVar 4) (aCons (eVar 8) aNil))) [8, 9] finL) aNil)) (eA reprM (aCons (eLc (iSeq (eVar 5)) (gTupD 2 (gConss (gN 8) (gConss (gN 9) gNils))) tYesD (eVar 9) [8, 9] finL) aNil))) (sRet (eC (.p (.bool false)))) sNext)
    (f_law_5 r r2))
def f_law_7 (r r2 : Fn → List D → M D) : FS :=
    (sSeq (sSet 3 (eCallX 2 (r .f_words_l) (aCons (eVar 1) (aCons (eC (.p (.int 4))) aNil))))
    (sSeq (sSet 4 (eCallX 3 (r .f_term_l) (aCons (eVar 1) (aCons (eVar 3) (aCons (e2 opAddX (eC (.p (.int 1))) (eCallX 2 (r .f_draw_l) (aCons (eVar 1) (aCons (eC (.p (.int 4))) aNil)))) aNil)))))
    (sSeq (sSet 5 (eCallX 2 (r .f_spots_l) (aCons (eVar 4) (aCons (eA mkTup aNil) aNil))))
    (sSeq (sIf (tOrD (tC2 (opNotB) (eCallX 1 (r .f_is_term) (aCons (eVar 4) aNil)) (eC (.p (.bool true)))) (tC2 (opEqZ true) (eA reprM (aCons (eListG 1 (r2 .f_places) (aCons (eVar 4) aNil)) aNil)) (eA reprM (aCons (eLc (iSeq (eVar 5)) (gTupD 2 (gConss (gN 8) (gConss (gN 9) gNils))) tYesD (eVar 8) [8, 9] finL) aNil)))) (sRet (eC (.p (.bool false)))) sNext)
    (f_law_6 r r2)))))
def f_law_8 (r r2 : Fn → List D → M D) : FS :=
    (sRet (eC (.p (.bool true))))
def b_f_law (r r2 : Fn → List D → M D) : FS :=
    (sSeq (sSet 1 (eCallX 1 (r .f_begin_l) (aCons (eVar 0) aNil)))
    (sSeq (sFor (iRange (aCons (e2 opAddX (eC (.p (.int 5))) (eA min2M (aCons (eC (.p (.int 5))) (aCons (eA lenM (aCons (eVar 0) aNil)) aNil)))) aNil)) (gN 2) (f_law_7 r r2))
    (f_law_8 r r2)))
def go (P : Nat → Addr) (r r2 : Fn → List D → M D) : Fn → List D → M D
  | .f_is_word => runF 2 (b_f_is_word r)
  | .f_is_name => runF 1 (b_f_is_name r)
  | .f_is_whole => runF 1 (b_f_is_whole r)
  | .f_is_text => runF 2 (b_f_is_text r)
  | .f_are_names => runF 2 (b_f_are_names r)
  | .f_are_bindings => runF 2 (b_f_are_bindings r)
  | .f_are_arms => runF 2 (b_f_are_arms r)
  | .f_is_term => runF 5 (b_f_is_term r)
  | .f_parts_of_term => runF 7 (b_f_parts_of_term r)
  | .f_places => b_f_places r r2
  | .f_part_at => runF 5 (b_f_part_at r)
  | .f_bound_for => runF 4 (b_f_bound_for r)
  | .f_used_names => runF 5 (b_f_used_names r)
  | .f_free_names => runF 1 (b_f_free_names r)
  | .f_begin_l => runF 1 (b_f_begin_l r)
  | .f_draw_l => runF 6 (b_f_draw_l r)
  | .f_pick_l => runF 2 (b_f_pick_l r)
  | .f_shuffled_l => runF 4 (b_f_shuffled_l r)
  | .f_odd_l => runF 2 (b_f_odd_l r)
  | .f_words_l => runF 8 (b_f_words_l r)
  | .f_term_l => runF 9 (b_f_term_l r)
  | .f_parts_l => runF 5 (b_f_parts_l r)
  | .f_spots_l => runF 5 (b_f_spots_l r)
  | .f_free_l => runF 4 (b_f_free_l r)
  | .f_is_named_l => runF 3 (b_f_is_named_l r)
  | .f_are_named_l => runF 2 (b_f_are_named_l r)
  | .f_is_leaf_l => runF 2 (b_f_is_leaf_l r)
  | .f_is_one_l => runF 4 (b_f_is_one_l r)
  | .f_bent_l => runF 5 (b_f_bent_l r)
  | .f_is_outside_l => runF 3 (b_f_is_outside_l r)
  | .f_law => runF 10 (b_f_law r r2)
def F (P : Nat → Addr) : Nat → Fn → List D → M D
  | 0, _ => fun _ _ => .bad
  | 1, _ => fun _ _ => .bad
  | 2, _ => fun _ _ => .bad
  | k + 3, f => go P (F P (k + 2)) (F P k) f
end K02
namespace K02
open PySem L2 DL
inductive Tm where
  | lf (w : Str) (d : PyData)
  | ho
  | us (f x : Tm)
  | gv (n : Str) (b : Tm)
  | l1 (n : Str) (b e : Tm)
  | l2 (n : Str) (b : Tm) (n' : Str) (b' e : Tm)
  | m1 (s : Tm) (c : Str) (xs : List Str) (a : Tm)
  | m2 (s : Tm) (c : Str) (xs : List Str) (a : Tm) (c' : Str) (xs' : List Str) (a' : Tm)
def nms (xs : List Str) : PyData := .tuple (xs.map .str)
namespace Tm
def py : Tm → PyData
  | lf w d => .tuple [.str w, d]
  | ho => .tuple [.str "hole"]
  | us f x => .tuple [.str "use", f.py, x.py]
  | gv n b => .tuple [.str "given", .str n, b.py]
  | l1 n b e => .tuple [.str "let", .tuple [.tuple [.str n, b.py]], e.py]
  | l2 n b n' b' e => .tuple [.str "let", .tuple [.tuple [.str n, b.py], .tuple [.str n', b'.py]], e.py]
  | m1 s c xs a => .tuple [.str "match", s.py, .tuple [.tuple [.str c, nms xs, a.py]]]
  | m2 s c xs a c' xs' a' => .tuple [.str "match", s.py, .tuple [.tuple [.str c, nms xs, a.py], .tuple [.str c', nms xs', a'.py]]]
/-- parts, each with the names that are bound for it -/
def pb : Tm → List (Tm × List Str)
  | lf _ _ => []
  | ho => []
  | us f x => [(f, []), (x, [])]
  | gv n b => [(b, [n])]
  | l1 n b e => [(b, [n]), (e, [n])]
  | l2 n b n' b' e => [(b, [n, n']), (b', [n, n']), (e, [n, n'])]
  | m1 s _ xs a => [(s, []), (a, xs)]
  | m2 s _ xs a _ xs' a' => [(s, []), (a, xs), (a', xs')]
/-- a leaf's word is one of three -/
def wk : Tm → Prop
  | lf w _ => w = "name" ∨ w = "whole" ∨ w = "text"
  | ho => True
  | us f x => f.wk ∧ x.wk
  | gv _ b => b.wk
  | l1 _ b e => b.wk ∧ e.wk
  | l2 _ b _ b' e => b.wk ∧ b'.wk ∧ e.wk
  | m1 s _ xs a => s.wk ∧ a.wk ∧ xs.length ≤ 2
  | m2 s _ xs a _ xs' a' => s.wk ∧ a.wk ∧ a'.wk ∧ xs.length ≤ 2 ∧ xs'.length ≤ 2
end Tm
open Tm
@[simp] theorem w1 : (Str.ofString "hole" = Str.ofString "use") = False := eq_false (by decide)
@[simp] theorem w2 : (Str.ofString "hole" = Str.ofString "given") = False := eq_false (by decide)
@[simp] theorem w3 : (Str.ofString "hole" = Str.ofString "let") = False := eq_false (by decide)
@[simp] theorem w4 : (Str.ofString "hole" = Str.ofString "match") = False := eq_false (by decide)
@[simp] theorem w5 : (Str.ofString "given" = Str.ofString "use") = False := eq_false (by decide)
@[simp] theorem w6 : (Str.ofString "let" = Str.ofString "use") = False := eq_false (by decide)
@[simp] theorem w7 : (Str.ofString "let" = Str.ofString "given") = False := eq_false (by decide)
@[simp] theorem w8 : (Str.ofString "match" = Str.ofString "use") = False := eq_false (by decide)
@[simp] theorem w9 : (Str.ofString "match" = Str.ofString "given") = False := eq_false (by decide)
@[simp] theorem w0 : (Str.ofString "match" = Str.ofString "let") = False := eq_false (by decide)
@[simp] theorem wa1 : (Str.ofString "name" = Str.ofString "use") = False := eq_false (by decide)
@[simp] theorem wa2 : (Str.ofString "name" = Str.ofString "given") = False := eq_false (by decide)
@[simp] theorem wa3 : (Str.ofString "name" = Str.ofString "let") = False := eq_false (by decide)
@[simp] theorem wa4 : (Str.ofString "name" = Str.ofString "match") = False := eq_false (by decide)
@[simp] theorem wb1 : (Str.ofString "whole" = Str.ofString "use") = False := eq_false (by decide)
@[simp] theorem wb2 : (Str.ofString "whole" = Str.ofString "given") = False := eq_false (by decide)
@[simp] theorem wb3 : (Str.ofString "whole" = Str.ofString "let") = False := eq_false (by decide)
@[simp] theorem wb4 : (Str.ofString "whole" = Str.ofString "match") = False := eq_false (by decide)
@[simp] theorem wc1 : (Str.ofString "text" = Str.ofString "use") = False := eq_false (by decide)
@[simp] theorem wc2 : (Str.ofString "text" = Str.ofString "given") = False := eq_false (by decide)
@[simp] theorem wc3 : (Str.ofString "text" = Str.ofString "let") = False := eq_false (by decide)
@[simp] theorem wc4 : (Str.ofString "text" = Str.ofString "match") = False := eq_false (by decide)
@[simp] theorem wd1 : (Str.ofString "hole" = Str.ofString "name") = False := eq_false (by decide)
@[simp] theorem wd2 : (Str.ofString "use" = Str.ofString "name") = False := eq_false (by decide)
@[simp] theorem wd3 : (Str.ofString "given" = Str.ofString "name") = False := eq_false (by decide)
@[simp] theorem wd4 : (Str.ofString "let" = Str.ofString "name") = False := eq_false (by decide)
@[simp] theorem wd5 : (Str.ofString "match" = Str.ofString "name") = False := eq_false (by decide)
@[simp] theorem wd6 : (Str.ofString "whole" = Str.ofString "name") = False := eq_false (by decide)
@[simp] theorem wd7 : (Str.ofString "text" = Str.ofString "name") = False := eq_false (by decide)
@[simp] theorem wd8 : (Str.ofString "text" = Str.ofString "whole") = False := eq_false (by decide)
@[simp] theorem we1 : (Str.ofString "use" = Str.ofString "given") = False := eq_false (by decide)
@[simp] theorem we2 : (Str.ofString "use" = Str.ofString "let") = False := eq_false (by decide)
@[simp] theorem we3 : (Str.ofString "use" = Str.ofString "match") = False := eq_false (by decide)
@[simp] theorem we4 : (Str.ofString "given" = Str.ofString "let") = False := eq_false (by decide)
@[simp] theorem we5 : (Str.ofString "given" = Str.ofString "match") = False := eq_false (by decide)
@[simp] theorem we6 : (Str.ofString "let" = Str.ofString "match") = False := eq_false (by decide)
variable {P : Nat → Addr} {S : Sto}
theorem F_pt (k : Nat) : F P (k + 3) .f_parts_of_term = runF 7 (b_f_parts_of_term (F P (k + 2))) := rfl
theorem F_pl (k : Nat) : F P (k + 3) .f_parts_l = runF 5 (b_f_parts_l (F P (k + 2))) := rfl
theorem F_bd (k : Nat) : F P (k + 3) .f_bound_for = runF 4 (b_f_bound_for (F P (k + 2))) := rfl
theorem k3 {k : Nat} (h : 3 ≤ k) : ∃ j, k = j + 3 := ⟨k - 3, by omega⟩
set_option maxHeartbeats 1000000 in
theorem pt_ok {k : Nat} (hk : 3 ≤ k) {t : Tm} (h : t.wk) : F P k .f_parts_of_term [.p t.py] S = .ok (.p (.list (t.pb.map fun q => q.1.py))) S := by
  obtain ⟨k, rfl⟩ := k3 hk
  rw [F_pt]
  refine run_ret ?_
  unfold b_f_parts_of_term f_parts_of_term_3 f_parts_of_term_2 f_parts_of_term_1
  cases t with
  | lf w d => rcases h with rfl | rfl | rfl <;> simp [sSeq_, py, pb, mkLst, LIM]
  | ho => simp [sSeq_, py, pb, mkLst, LIM]
  | us f x => simp [sSeq_, py, pb, mkLst, LIM]
  | gv n b => simp [sSeq_, py, pb, mkLst, LIM]
  | l1 n b e => simp [sSeq_, py, pb, mkLst, LIM, opAddX, lcD, finL, gTupD, gConss, gNils, wipeD, noErr, lstOf]
  | l2 n b n' b' e => simp [sSeq_, py, pb, mkLst, LIM, opAddX, lcD, finL, gTupD, gConss, gNils, wipeD, noErr, lstOf]
  | m1 s c xs a => simp [sSeq_, py, pb, mkLst, LIM, opAddX, lcD, finL, gTupD, gConss, gNils, wipeD, noErr, lstOf]
  | m2 s c xs a c' xs' a' => simp [sSeq_, py, pb, mkLst, LIM, opAddX, lcD, finL, gTupD, gConss, gNils, wipeD, noErr, lstOf]
set_option maxHeartbeats 1000000 in
theorem pl_ok {k : Nat} (hk : 3 ≤ k) {t : Tm} (h : t.wk) : F P k .f_parts_l [.p t.py] S = .ok (.p (.list (t.pb.map fun q => .tuple [q.1.py, nms q.2]))) S := by
  obtain ⟨k, rfl⟩ := k3 hk
  rw [F_pl]
  refine run_ret ?_
  unfold b_f_parts_l f_parts_l_3 f_parts_l_2 f_parts_l_1
  cases t with
  | lf w d => rcases h with rfl | rfl | rfl <;> simp [sSeq_, py, pb, mkLst, LIM]
  | ho => simp [sSeq_, py, pb, mkLst, LIM]
  | us f x => simp [sSeq_, py, pb, mkLst, LIM, mkTup, nms]
  | gv n b => simp [sSeq_, py, pb, mkLst, LIM, mkTup, nms]
  | l1 n b e => simp [sSeq_, py, pb, mkLst, LIM, opAddX, lcD, finL, gTupD, gConss, gNils, wipeD, noErr, lstOf, mkTup, nms, tupleXM]
  | l2 n b n' b' e => simp [sSeq_, py, pb, mkLst, LIM, opAddX, lcD, finL, gTupD, gConss, gNils, wipeD, noErr, lstOf, mkTup, nms, tupleXM]
  | m1 s c xs a => simp [sSeq_, py, pb, mkLst, LIM, opAddX, lcD, finL, gTupD, gConss, gNils, wipeD, noErr, lstOf, mkTup, nms]
  | m2 s c xs a c' xs' a' => simp [sSeq_, py, pb, mkLst, LIM, opAddX, lcD, finL, gTupD, gConss, gNils, wipeD, noErr, lstOf, mkTup, nms]
set_option maxHeartbeats 1000000 in
theorem bd_ok {k : Nat} (hk : 3 ≤ k) {t : Tm} (h : t.wk) {i : Nat} {q : Tm × List Str} (hq : t.pb[i]? = some q) : F P k .f_bound_for [.p t.py, .p (.int i)] S = .ok (.p (nms q.2)) S := by
  obtain ⟨k, rfl⟩ := k3 hk
  rw [F_bd]
  refine run_ret ?_
  unfold b_f_bound_for f_bound_for_2 f_bound_for_1
  cases t with
  | lf w d => simp [pb] at hq
  | ho => simp [pb] at hq
  | us f x =>
    match i, hq with
    | 0, hq => simp [pb] at hq; subst hq; simp [sSeq_, py, mkTup, nms, LIM]
    | 1, hq => simp [pb] at hq; subst hq; simp [sSeq_, py, mkTup, nms, LIM]
    | i + 2, hq => simp [pb] at hq
  | gv n b =>
    match i, hq with
    | 0, hq => simp [pb] at hq; subst hq; simp [sSeq_, py, mkTup, nms, LIM]
    | i + 1, hq => simp [pb] at hq
  | l1 n b e =>
    match i, hq with
    | 0, hq => simp [pb] at hq; subst hq; simp [sSeq_, py, mkTup, nms, LIM, lcD, finL, gTupD, gConss, gNils, wipeD, noErr, lstOf, tupleXM]
    | 1, hq => simp [pb] at hq; subst hq; simp [sSeq_, py, mkTup, nms, LIM, lcD, finL, gTupD, gConss, gNils, wipeD, noErr, lstOf, tupleXM]
    | i + 2, hq => simp [pb] at hq
  | l2 n b n' b' e =>
    match i, hq with
    | 0, hq => simp [pb] at hq; subst hq; simp [sSeq_, py, mkTup, nms, LIM, lcD, finL, gTupD, gConss, gNils, wipeD, noErr, lstOf, tupleXM]
    | 1, hq => simp [pb] at hq; subst hq; simp [sSeq_, py, mkTup, nms, LIM, lcD, finL, gTupD, gConss, gNils, wipeD, noErr, lstOf, tupleXM]
    | 2, hq => simp [pb] at hq; subst hq; simp [sSeq_, py, mkTup, nms, LIM, lcD, finL, gTupD, gConss, gNils, wipeD, noErr, lstOf, tupleXM]
    | i + 3, hq => simp [pb] at hq
  | m1 s c xs a =>
    match i, hq with
    | 0, hq => simp [pb] at hq; subst hq; simp [sSeq_, py, mkTup, nms, LIM]
    | 1, hq => simp [pb] at hq; subst hq; simp [sSeq_, py, mkTup, nms, LIM]
    | i + 2, hq => simp [pb] at hq
  | m2 s c xs a c' xs' a' =>
    match i, hq with
    | 0, hq => simp [pb] at hq; subst hq; simp [sSeq_, py, mkTup, nms, LIM]
    | 1, hq => simp [pb] at hq; subst hq; simp [sSeq_, py, mkTup, nms, LIM]
    | 2, hq => simp [pb] at hq; subst hq; simp [sSeq_, py, mkTup, nms, LIM]
    | i + 3, hq => simp [pb] at hq
end K02
namespace K02
open PySem L2 DL
open Tm
variable {P : Nat → Addr} {S : Sto}
theorem pb_wk {t u : Tm} {o : List Str} (h : t.wk) (hu : (u, o) ∈ t.pb) : u.wk := by
  cases t <;> simp [pb] at hu
  · rcases hu with ⟨rfl, _⟩ | ⟨rfl, _⟩
    · exact h.1
    · exact h.2
  · obtain ⟨rfl, _⟩ := hu; exact h
  · rcases hu with ⟨rfl, _⟩ | ⟨rfl, _⟩
    · exact h.1
    · exact h.2
  · rcases hu with ⟨rfl, _⟩ | ⟨rfl, _⟩ | ⟨rfl, _⟩
    · exact h.1
    · exact h.2.1
    · exact h.2.2
  · rcases hu with ⟨rfl, _⟩ | ⟨rfl, _⟩
    · exact h.1
    · exact h.2.1
  · rcases hu with ⟨rfl, _⟩ | ⟨rfl, _⟩ | ⟨rfl, _⟩
    · exact h.1
    · exact h.2.1
    · exact h.2.2.1
def at1 (t : Tm) : PyData → Option Tm
  | .int i => if 0 ≤ i then (t.pb[i.toNat]?).map (·.1) else none
  | _ => none
def walk (t : Tm) : List PyData → Option Tm
  | [] => some t
  | x :: r => match at1 t x with
    | some u => walk u r
    | none => none
def placed (t : Tm) : PyData → Option Tm
  | .tuple xs => walk t xs
  | _ => none
theorem at1_mem {t u : Tm} {x : PyData} (h : at1 t x = some u) : ∃ o, (u, o) ∈ t.pb := by
  cases x <;> simp [at1] at h
  obtain ⟨h0, o, ho⟩ := h
  exact ⟨o, List.mem_of_getElem? ho⟩
abbrev Oot (c : PyData) : Exn := ⟨"OutOfTerm", some [("place", c)]⟩
theorem atI_nn {xs : List PyData} {i : Int} {d : PyData} (h0 : 0 ≤ i) (h : xs[i.toNat]? = some d) : atI xs i = some d := by
  obtain ⟨n, rfl⟩ := Int.eq_ofNat_of_zero_le h0
  have hn : n < xs.length := (List.getElem?_eq_some_iff.mp h).1
  simp at h
  unfold atI ixN
  simp [hn]
  rw [List.getElem?_eq_getElem hn] at h
  exact Option.some.inj h
theorem step_pa {k : Nat} (hk : 3 ≤ k) {t : Tm} {c x : PyData} {a y4 : Option D} {R : Fl → Sto → Prop} (h : t.wk)
    (q : ∀ u y4, at1 t x = some u → R (.next [a, some (.p c), some (.p u.py), some (.p x), y4]) S)
    (e : ∀ ρ, at1 t x = none → R (.exc (Oot c) ρ) S) : wpS (f_part_at_2 (F P k) [a, some (.p c), some (.p t.py), some (.p x), y4] S) R := by
  unfold f_part_at_2 f_part_at_1
  have hp : F P k .f_parts_of_term [.p t.py] S = .ok (.p (.list (t.pb.map fun q => q.1.py))) S := pt_ok hk h
  simp only [wpS_seq]
  have rs : at1 t x = none → wpS (sRaise "OutOfTerm" "place" (eVar 1) [a, some (.p c), some (.p t.py), some (.p x), some (.p (.list (t.pb.map fun q => q.1.py)))] S) (sq (sSet 2 (e2 opSubs (eVar 4) (eVar 3))) R) := fun hz => by
    simp [sRaise]
    exact e _ hz
  cases x with
  | int i =>
    simp [hp, cutX, isT, opLeX]
    by_cases h0 : 0 ≤ i
    · simp only [h0, decide_true]
      have hl : lenM [.p (.list (t.pb.map fun q => q.1.py))] S = .ok (.p (.int (t.pb.length : Nat))) S := by simp [lenM, seqOf]
      simp only [wp_bind, hl, wp_ok]
      simp [opLt, opC, boolM]
      by_cases h1 : i < (t.pb.length : Int)
      · have hlt : i.toNat < t.pb.length := by omega
        have hg1 : (t.pb.map fun q => q.1.py)[i.toNat]? = some (t.pb[i.toNat]).1.py := by simp [hlt]
        have ea : at1 t (.int i) = some (t.pb[i.toNat]).1 := by simp [at1, h0, hlt]
        rw [if_pos h1, subs_l (atI_nn h0 hg1)]
        exact q _ _ ea
      · rw [if_neg h1]
        refine rs ?_
        simp [at1]
        intro _
        omega
    · have hd : decide (0 ≤ i) = false := decide_eq_false h0
      simp only [hd]
      simp [boolM]
      exact rs (by simp [at1, h0])
  | bool b => simp [hp, cutX, isT]; exact rs rfl
  | none => simp [hp, cutX, isT]; exact rs rfl
  | str b => simp [hp, cutX, isT]; exact rs rfl
  | list b => simp [hp, cutX, isT]; exact rs rfl
  | tuple b => simp [hp, cutX, isT]; exact rs rfl
  | dict b => simp [hp, cutX, isT]; exact rs rfl
theorem loop_pa {k : Nat} (hk : 3 ≤ k) {c : PyData} {a : Option D} {R : Fl → Sto → Prop} : ∀ {xs : List PyData} {t : Tm} {y3 y4 : Option D}, t.wk →
    (∀ u y3 y4, walk t xs = some u → R (.next [a, some (.p c), some (.p u.py), y3, y4]) S) → (∀ ρ, walk t xs = none → R (.exc (Oot c) ρ) S) →
    wpS (forD (gN 3) (f_part_at_2 (F P k)) (xs.map .p) [a, some (.p c), some (.p t.py), y3, y4] S) R
  | [], t, y3, y4, h, q, e => by simpa using q t y3 y4 rfl
  | x :: r, t, y3, y4, h, q, e => by
    simp
    refine step_pa hk h (fun u y4 ea => ?_) fun ρ ea => ?_
    · simp
      obtain ⟨o, ho⟩ := at1_mem ea
      refine loop_pa hk (pb_wk h ho) (fun v y3 y4 hv => q v y3 y4 (by simp [walk, ea, hv])) fun ρ hv => e ρ (by simp [walk, ea, hv])
    · simp
      exact e ρ (by simp [walk, ea])
theorem F_pa (k : Nat) : F P (k + 3) .f_part_at = runF 5 (b_f_part_at (F P (k + 2))) := rfl
theorem pa_wp {k : Nat} (hk : 5 ≤ k) {t : Tm} {c : PyData} {Q : D → Sto → Prop} {X : Exn → Sto → Prop} (h : t.wk) (q : ∀ u, placed t c = some u → Q (.p u.py) S) (e : placed t c = none → X (Oot c) S) : wp (F P k .f_part_at [.p t.py, .p c] S) Q X := by
  obtain ⟨k, rfl⟩ := k3 (k := k) (by omega)
  rw [F_pa]
  rw [wp_run]
  show wpS (b_f_part_at (F P (k + 2)) [some (.p t.py), some (.p c), none, none, none] S) _
  unfold b_f_part_at f_part_at_4 f_part_at_3
  cases c with
  | tuple xs =>
    simp [isT]
    exact loop_pa (P := P) (S := S) (k := k + 2) (by omega) (c := .tuple xs) (a := some (.p t.py)) (xs := xs) (t := t) h (fun u y3 y4 hu => by simp; exact q u hu) fun ρ hu => by simp; exact e hu
  | int i => simp [isT, sRaise]; exact e rfl
  | bool b => simp [isT, sRaise]; exact e rfl
  | none => simp [isT, sRaise]; exact e rfl
  | str b => simp [isT, sRaise]; exact e rfl
  | list b => simp [isT, sRaise]; exact e rfl
  | dict b => simp [isT, sRaise]; exact e rfl
theorem wp_er {α : Type} {o : Out α} {x : Exn} {s : Sto} (h : wp o (fun _ _ => False) (fun y t => y = x ∧ t = s)) : o = .err x s := by
  cases o with
  | ok b t => exact h.elim
  | err y t => obtain ⟨rfl, rfl⟩ := h; rfl
  | bad => exact h.elim
theorem pa_some {k : Nat} (hk : 5 ≤ k) {t u : Tm} {c : PyData} (h : t.wk) (hp : placed t c = some u) : F P k .f_part_at [.p t.py, .p c] S = .ok (.p u.py) S :=
  wp_eq (pa_wp hk h (fun v hv => by rw [hp] at hv; cases hv; exact ⟨rfl, rfl⟩) fun hn => by rw [hp] at hn; cases hn)
theorem pa_none {k : Nat} (hk : 5 ≤ k) {t : Tm} {c : PyData} (h : t.wk) (hp : placed t c = none) : F P k .f_part_at [.p t.py, .p c] S = .err (Oot c) S :=
  wp_er (pa_wp hk h (fun v hv => by rw [hp] at hv; cases hv) fun _ => ⟨rfl, rfl⟩)
end K02
namespace K02
open PySem L2 DL
open Tm
variable {P : Nat → Addr} {S : Sto}
def rests : List Str := ["", "x", "oo", "zzzz", "ery", "bbbbbbb"]
def wordsAll : List Str := rests.flatMap fun r => (List.range 26).flatMap fun c => [r ++ ⟨#[97 + c]⟩, ⟨#[97 + c]⟩ ++ r]
def Wd (n : Str) : Prop := n ∈ wordsAll
theorem wd_all {p : Str → Bool} (h : wordsAll.all p = true) {n : Str} (hn : Wd n) : p n = true := List.all_eq_true.mp h n hn
def wB (n : Str) : Bool := (PyData.str n).canLay0 && decide ((PyData.str n).shown.length ≤ 20) && decide (n.length ≤ 8)
theorem wB_all : wordsAll.all wB = true := by decide +kernel
theorem Wd.can {n : Str} (h : Wd n) : (PyData.str n).canLay0 = true := by
  have := wd_all wB_all h
  simp only [wB, Bool.and_eq_true] at this
  exact this.1.1
theorem Wd.wt {n : Str} (h : Wd n) : wt (.str n) ≤ 20 := by
  have := wd_all wB_all h
  simp only [wB, Bool.and_eq_true, decide_eq_true_eq] at this
  simpa [DL.wt] using this.1.2
theorem Wd.so {n : Str} (h : Wd n) : PyData.strOk n = true := by simpa [PyData.canLay0] using h.can
def wholes : List Int := [0, -(10 ^ 30), 10 ^ 30, 5]
def rep (k : Nat) (c : Nat) : Str := ⟨(List.replicate k c).toArray⟩
def texts : List Str := ["", rep 200 97, "it's ~"]
def okL (N : List Str) (w : Str) (d : PyData) : Prop := (w = "name" ∧ ∃ n ∈ N, d = .str n) ∨ (w = "whole" ∧ ∃ i ∈ wholes, d = .int i) ∨ (w = "text" ∧ ∃ s ∈ texts, d = .str s)
structure LfOk (x : PyData) : Prop where
  can : x.canLay0 = true
  dep : x.depth ≤ 2
  show_ : x.showable = true
  wt : wt x ≤ 300
theorem leaf_all : (wordsAll.all fun n => decide ((PyData.str n).shown.length ≤ 20)) = true ∧ (wholes.all fun i => decide ((PyData.int i).shown.length ≤ 40)) = true ∧ (texts.all fun s => decide ((PyData.str s).shown.length ≤ 220) && PyData.strOk s) = true := by
  refine ⟨?_, ?_, ?_⟩ <;> decide +kernel
theorem okL_ok {N : List Str} (hN : ∀ n ∈ N, Wd n) {w : Str} {d : PyData} (h : okL N w d) : LfOk (.tuple [.str w, d]) := by
  have e1 : wt (.str "name") ≤ 10 := by simp only [wt]; decide +kernel
  have e2 : wt (.str "whole") ≤ 10 := by simp only [wt]; decide +kernel
  have e3 : wt (.str "text") ≤ 10 := by simp only [wt]; decide +kernel
  rcases h with ⟨rfl, n, hn, rfl⟩ | ⟨rfl, i, hi, rfl⟩ | ⟨rfl, s, hs, rfl⟩
  · have h1 := (hN n hn).wt
    have h2 := (hN n hn).so
    refine ⟨by simp [PyData.canLay0, PyData.canLayAll0, h2, strOk_of], by simp [PyData.depth, PyData.depthAll], by simp [PyData.showable, PyData.showableAll], ?_⟩
    simp only [wt, wtAll] at e1 h1 ⊢
    omega
  · have h1 := List.all_eq_true.mp leaf_all.2.1 i hi
    simp only [decide_eq_true_eq] at h1
    have hs : i.natAbs < 10 ^ 4300 := by
      simp [wholes] at hi
      rcases hi with rfl | rfl | rfl | rfl <;> (refine Nat.lt_of_le_of_lt (m := 10 ^ 30) (by decide) (Nat.pow_lt_pow_right (by decide) (by decide)))
    refine ⟨by simp [PyData.canLay0, PyData.canLayAll0, strOk_of], by simp [PyData.depth, PyData.depthAll], ?_, ?_⟩
    · simp [wholes] at hi
      rcases hi with rfl | rfl | rfl | rfl <;> decide +kernel
    simp only [wt, wtAll] at e2 ⊢
    omega
  · have h1 := List.all_eq_true.mp leaf_all.2.2 s hs
    simp only [Bool.and_eq_true, decide_eq_true_eq] at h1
    refine ⟨by simp [PyData.canLay0, PyData.canLayAll0, h1.2, strOk_of], by simp [PyData.depth, PyData.depthAll], by simp [PyData.showable, PyData.showableAll], ?_⟩
    simp only [wt, wtAll] at e3 ⊢
    omega
namespace Tm
def dep : Tm → Nat
  | lf _ _ => 1
  | ho => 1
  | us f x => 1 + max f.dep x.dep
  | gv _ b => 1 + b.dep
  | l1 _ b e => 1 + max b.dep e.dep
  | l2 _ b _ b' e => 1 + max b.dep (max b'.dep e.dep)
  | m1 s _ _ a => 1 + max s.dep a.dep
  | m2 s _ _ a _ _ a' => 1 + max s.dep (max a.dep a'.dep)
/-- number of parts -/
def nd : Tm → Nat
  | lf _ _ => 1
  | ho => 1
  | us f x => 1 + f.nd + x.nd
  | gv _ b => 1 + b.nd
  | l1 _ b e => 1 + b.nd + e.nd
  | l2 _ b _ b' e => 1 + b.nd + b'.nd + e.nd
  | m1 s _ _ a => 1 + s.nd + a.nd
  | m2 s _ _ a _ _ a' => 1 + s.nd + a.nd + a'.nd
def okX (N xs : List Str) : Prop := (∀ x ∈ xs, x ∈ N) ∧ xs.Nodup ∧ xs.length ≤ 2
def gd (N : List Str) : Tm → Prop
  | lf w d => okL N w d
  | ho => True
  | us f x => f.gd N ∧ x.gd N
  | gv n b => n ∈ N ∧ b.gd N
  | l1 n b e => n ∈ N ∧ b.gd N ∧ e.gd N
  | l2 n b n' b' e => n ∈ N ∧ b.gd N ∧ n' ∈ N ∧ b'.gd N ∧ e.gd N ∧ n ≠ n'
  | m1 s c xs a => s.gd N ∧ c ∈ N ∧ okX N xs ∧ a.gd N
  | m2 s c xs a c' xs' a' => s.gd N ∧ c ∈ N ∧ okX N xs ∧ a.gd N ∧ c' ∈ N ∧ okX N xs' ∧ a'.gd N
end Tm
variable {N : List Str}
theorem gd_wk : ∀ {t : Tm}, t.gd N → t.wk
  | .lf w d, h => by
    rcases h with ⟨h, _⟩ | ⟨h, _⟩ | ⟨h, _⟩
    · exact .inl h
    · exact .inr (.inl h)
    · exact .inr (.inr h)
  | .ho, _ => trivial
  | .us f x, h => ⟨gd_wk h.1, gd_wk h.2⟩
  | .gv n b, h => gd_wk (t := b) h.2
  | .l1 n b e, h => ⟨gd_wk h.2.1, gd_wk h.2.2⟩
  | .l2 n b n' b' e, h => ⟨gd_wk h.2.1, gd_wk h.2.2.2.1, gd_wk h.2.2.2.2.1⟩
  | .m1 s c xs a, h => ⟨gd_wk h.1, gd_wk h.2.2.2, h.2.2.1.2.2⟩
  | .m2 s c xs a c' xs' a', h => ⟨gd_wk h.1, gd_wk h.2.2.2.1, gd_wk h.2.2.2.2.2.2, h.2.2.1.2.2, h.2.2.2.2.2.1.2.2⟩
theorem pb_gd {t u : Tm} {o : List Str} (h : t.gd N) (hu : (u, o) ∈ t.pb) : u.gd N ∧ okX N o := by
  have z : okX N [] := ⟨by simp, by simp, by simp⟩
  cases t <;> simp [pb] at hu
  · rcases hu with ⟨rfl, rfl⟩ | ⟨rfl, rfl⟩
    · exact ⟨h.1, z⟩
    · exact ⟨h.2, z⟩
  · obtain ⟨rfl, rfl⟩ := hu; exact ⟨h.2, by simpa using h.1, by simp, by simp⟩
  · rcases hu with ⟨rfl, rfl⟩ | ⟨rfl, rfl⟩
    · exact ⟨h.2.1, by simpa using h.1, by simp, by simp⟩
    · exact ⟨h.2.2, by simpa using h.1, by simp, by simp⟩
  · have z2 : ∀ n n' : Str, n ∈ N → n' ∈ N → n ≠ n' → okX N [n, n'] := fun n n' a b c => ⟨by simp [a, b], by simp [c], by simp⟩
    rcases hu with ⟨rfl, rfl⟩ | ⟨rfl, rfl⟩ | ⟨rfl, rfl⟩
    · exact ⟨h.2.1, z2 _ _ h.1 h.2.2.1 h.2.2.2.2.2⟩
    · exact ⟨h.2.2.2.1, z2 _ _ h.1 h.2.2.1 h.2.2.2.2.2⟩
    · exact ⟨h.2.2.2.2.1, z2 _ _ h.1 h.2.2.1 h.2.2.2.2.2⟩
  · rcases hu with ⟨rfl, rfl⟩ | ⟨rfl, rfl⟩
    · exact ⟨h.1, z⟩
    · exact ⟨h.2.2.2, h.2.2.1⟩
  · rcases hu with ⟨rfl, rfl⟩ | ⟨rfl, rfl⟩ | ⟨rfl, rfl⟩
    · exact ⟨h.1, z⟩
    · exact ⟨h.2.2.2.1, h.2.2.1⟩
    · exact ⟨h.2.2.2.2.2.2, h.2.2.2.2.2.1⟩
theorem pb_dep {t u : Tm} {o : List Str} (hu : (u, o) ∈ t.pb) : u.dep + 1 ≤ t.dep := by
  cases t <;> simp [pb] at hu
  · rcases hu with ⟨rfl, _⟩ | ⟨rfl, _⟩ <;> simp [dep] <;> omega
  · obtain ⟨rfl, _⟩ := hu; simp [dep]; omega
  · rcases hu with ⟨rfl, _⟩ | ⟨rfl, _⟩ <;> simp [dep] <;> omega
  · rcases hu with ⟨rfl, _⟩ | ⟨rfl, _⟩ | ⟨rfl, _⟩ <;> simp [dep] <;> omega
  · rcases hu with ⟨rfl, _⟩ | ⟨rfl, _⟩ <;> simp [dep] <;> omega
  · rcases hu with ⟨rfl, _⟩ | ⟨rfl, _⟩ | ⟨rfl, _⟩ <;> simp [dep] <;> omega
theorem s_wt : wt (.str "hole") ≤ 20 ∧ wt (.str "use") ≤ 20 ∧ wt (.str "given") ≤ 20 ∧ wt (.str "let") ≤ 20 ∧ wt (.str "match") ≤ 20 := by
  refine ⟨?_, ?_, ?_, ?_, ?_⟩ <;> (simp only [wt]; decide +kernel)
theorem strs_can (hN : ∀ n ∈ N, Wd n) {xs : List Str} (h : okX N xs) : PyData.canLayAll0 (xs.map .str) = true := by
  have h1 := h.1
  clear h
  induction xs with
  | nil => rfl
  | cons x r ih =>
    simp only [List.map_cons, PyData.canLayAll0, Bool.and_eq_true]
    exact ⟨(hN x (h1 x (by simp))).can, ih fun y hy => h1 y (by simp [hy])⟩
theorem strs_dep (xs : List Str) : PyData.depthAll (xs.map .str) ≤ 1 := by
  induction xs with
  | nil => simp [PyData.depthAll]
  | cons x r ih => simp [PyData.depthAll, PyData.depth]; omega
theorem strs_show (xs : List Str) : PyData.showableAll (xs.map .str) = true := by
  induction xs with
  | nil => rfl
  | cons x r ih => simp [PyData.showableAll, PyData.showable, ih]
theorem strs_wt (hN : ∀ n ∈ N, Wd n) {xs : List Str} (h : okX N xs) : wtAll (xs.map .str) ≤ 44 := by
  have go : ∀ xs : List Str, (∀ x ∈ xs, x ∈ N) → wtAll (xs.map .str) ≤ 22 * xs.length := fun xs => by
    induction xs with
    | nil => intro _; simp [wtAll]
    | cons x r ih =>
      intro h
      have h1 := (hN x (h x (by simp))).wt
      have h2 := ih fun y hy => h y (by simp [hy])
      simp only [List.map_cons, wtAll, List.length_cons]
      omega
  have h1 := go xs h.1
  have h2 := h.2.2
  omega
theorem py_can (hN : ∀ n ∈ N, Wd n) : ∀ {t : Tm}, t.gd N → t.py.canLay0 = true
  | .lf w d, h => (okL_ok hN h).can
  | .ho, _ => by simp [py, PyData.canLay0, PyData.canLayAll0, strOk_of]
  | .us f x, h => by simp [py, PyData.canLay0, PyData.canLayAll0, py_can hN h.1, py_can hN h.2, strOk_of]
  | .gv n b, h => by simp [py, PyData.canLay0, PyData.canLayAll0, py_can hN h.2, strOk_of, (hN n h.1).so]
  | .l1 n b e, h => by simp [py, PyData.canLay0, PyData.canLayAll0, py_can hN h.2.1, py_can hN h.2.2, strOk_of, (hN n h.1).so]
  | .l2 n b n' b' e, h => by simp [py, PyData.canLay0, PyData.canLayAll0, py_can hN h.2.1, py_can hN h.2.2.2.1, py_can hN h.2.2.2.2.1, strOk_of, (hN n h.1).so, (hN n' h.2.2.1).so]
  | .m1 s c xs a, h => by simp [py, nms, PyData.canLay0, PyData.canLayAll0, py_can hN h.1, py_can hN h.2.2.2, strOk_of, (hN c h.2.1).so, strs_can hN h.2.2.1]
  | .m2 s c xs a c' xs' a', h => by simp [py, nms, PyData.canLay0, PyData.canLayAll0, py_can hN h.1, py_can hN h.2.2.2.1, py_can hN h.2.2.2.2.2.2, strOk_of, (hN c h.2.1).so, (hN c' h.2.2.2.2.1).so, strs_can hN h.2.2.1, strs_can hN h.2.2.2.2.2.1]
theorem dep_pos (t : Tm) : 1 ≤ t.dep := by cases t <;> simp [dep] <;> omega
theorem py_dep (hN : ∀ n ∈ N, Wd n) : ∀ {t : Tm}, t.gd N → t.py.depth ≤ 3 * t.dep
  | .lf w d, h => by have := (okL_ok hN h).dep; simp only [py, dep]; omega
  | .ho, _ => by simp [py, dep, PyData.depth, PyData.depthAll]
  | .us f x, h => by
    have h1 := py_dep hN h.1
    have h2 := py_dep hN h.2
    simp [py, dep, PyData.depth, PyData.depthAll]
    omega
  | .gv n b, h => by
    have h1 := py_dep hN h.2
    simp [py, dep, PyData.depth, PyData.depthAll]
    omega
  | .l1 n b e, h => by
    have h1 := py_dep hN h.2.1
    have h2 := py_dep hN h.2.2
    have := dep_pos b
    have := dep_pos e
    simp [py, dep, PyData.depth, PyData.depthAll]
    omega
  | .l2 n b n' b' e, h => by
    have h1 := py_dep hN h.2.1
    have h2 := py_dep hN h.2.2.2.1
    have h3 := py_dep hN h.2.2.2.2.1
    have := dep_pos b
    have := dep_pos e
    simp [py, dep, PyData.depth, PyData.depthAll]
    omega
  | .m1 s c xs a, h => by
    have h1 := py_dep hN h.1
    have h2 := py_dep hN h.2.2.2
    have := dep_pos s
    have := dep_pos a
    have := strs_dep xs
    simp [py, nms, dep, PyData.depth, PyData.depthAll]
    omega
  | .m2 s c xs a c' xs' a', h => by
    have h1 := py_dep hN h.1
    have h2 := py_dep hN h.2.2.2.1
    have h3 := py_dep hN h.2.2.2.2.2.2
    have := dep_pos s
    have := dep_pos a
    have := dep_pos a'
    have := strs_dep xs
    have := strs_dep xs'
    simp [py, nms, dep, PyData.depth, PyData.depthAll]
    omega
theorem py_show (hN : ∀ n ∈ N, Wd n) : ∀ {t : Tm}, t.gd N → t.py.showable = true
  | .lf w d, h => (okL_ok hN h).show_
  | .ho, _ => rfl
  | .us f x, h => by simp [py, PyData.showable, PyData.showableAll, py_show hN h.1, py_show hN h.2]
  | .gv n b, h => by simp [py, PyData.showable, PyData.showableAll, py_show hN h.2]
  | .l1 n b e, h => by simp [py, PyData.showable, PyData.showableAll, py_show hN h.2.1, py_show hN h.2.2]
  | .l2 n b n' b' e, h => by simp [py, PyData.showable, PyData.showableAll, py_show hN h.2.1, py_show hN h.2.2.2.1, py_show hN h.2.2.2.2.1]
  | .m1 s c xs a, h => by simp [py, nms, PyData.showable, PyData.showableAll, py_show hN h.1, py_show hN h.2.2.2, strs_show]
  | .m2 s c xs a c' xs' a', h => by simp [py, nms, PyData.showable, PyData.showableAll, py_show hN h.1, py_show hN h.2.2.2.1, py_show hN h.2.2.2.2.2.2, strs_show]
theorem wt_py (hN : ∀ n ∈ N, Wd n) : ∀ {t : Tm}, t.gd N → wt t.py ≤ 300 * t.nd
  | .lf w d, h => by have := (okL_ok hN h).wt; simp only [py, nd]; omega
  | .ho, _ => by have := s_wt.1; simp only [py, nd, wt, wtAll] at this ⊢; omega
  | .us f x, h => by
    have h1 := wt_py hN h.1
    have h2 := wt_py hN h.2
    have := s_wt.2.1
    simp only [py, nd, wt, wtAll] at this h1 h2 ⊢
    omega
  | .gv n b, h => by
    have h1 := wt_py hN h.2
    have h2 := (hN n h.1).wt
    have := s_wt.2.2.1
    simp only [py, nd, wt, wtAll] at this h1 h2 ⊢
    omega
  | .l1 n b e, h => by
    have h1 := wt_py hN h.2.1
    have h3 := wt_py hN h.2.2
    have h2 := (hN n h.1).wt
    have := s_wt.2.2.2.1
    simp only [py, nd, wt, wtAll] at this h1 h2 h3 ⊢
    omega
  | .l2 n b n' b' e, h => by
    have h1 := wt_py hN h.2.1
    have h3 := wt_py hN h.2.2.2.1
    have h5 := wt_py hN h.2.2.2.2.1
    have h2 := (hN n h.1).wt
    have h4 := (hN n' h.2.2.1).wt
    have := s_wt.2.2.2.1
    simp only [py, nd, wt, wtAll] at this h1 h2 h3 h4 h5 ⊢
    omega
  | .m1 s c xs a, h => by
    have h1 := wt_py hN h.1
    have h2 := wt_py hN h.2.2.2
    have h4 := (hN c h.2.1).wt
    have h5 := strs_wt hN h.2.2.1
    have h6 := s_wt.2.2.2.2
    simp only [py, nms, nd, wt, wtAll] at h1 h2 h4 h5 h6 ⊢
    omega
  | .m2 s c xs a c' xs' a', h => by
    have h1 := wt_py hN h.1
    have h2 := wt_py hN h.2.2.2.1
    have h3 := wt_py hN h.2.2.2.2.2.2
    have h4 := (hN c h.2.1).wt
    have h7 := (hN c' h.2.2.2.2.1).wt
    have h5 := strs_wt hN h.2.2.1
    have h8 := strs_wt hN h.2.2.2.2.2.1
    have h6 := s_wt.2.2.2.2
    simp only [py, nms, nd, wt, wtAll] at h1 h2 h3 h4 h5 h6 h7 h8 ⊢
    omega
theorem nd_pos (t : Tm) : 1 ≤ t.nd := by cases t <;> simp [nd] <;> omega
/-- at most three parts each -/
theorem nd_le : ∀ {m : Nat} {t : Tm}, t.dep ≤ m → 2 * t.nd + 1 ≤ 3 ^ m
  | 0, t, h => by have := dep_pos t; omega
  | m + 1, t, h => by
    have e3 : 3 ^ (m + 1) = 3 * 3 ^ m := by rw [Nat.pow_succ]; omega
    have lm : ∀ u : Tm, u.dep + 1 ≤ t.dep → 2 * u.nd + 1 ≤ 3 ^ m := fun u h => nd_le (m := m) (by omega)
    have p1 : 1 ≤ 3 ^ m := Nat.one_le_pow _ _ (by decide)
    rw [e3]
    cases t with
    | lf w d => simp [nd]; omega
    | ho => simp [nd]; omega
    | us f x =>
      have h1 := lm f (by simp [dep]; omega)
      have h2 := lm x (by simp [dep]; omega)
      simp only [nd]; omega
    | gv n b =>
      have h1 := lm b (by simp [dep]; omega)
      simp only [nd]; omega
    | l1 n b e =>
      have h1 := lm b (by simp [dep]; omega)
      have h2 := lm e (by simp [dep]; omega)
      simp only [nd]; omega
    | l2 n b n' b' e =>
      have h1 := lm b (by simp [dep]; omega)
      have h2 := lm b' (by simp [dep]; omega)
      have h3 := lm e (by simp [dep]; omega)
      simp only [nd]; omega
    | m1 s c xs a =>
      have h1 := lm s (by simp [dep]; omega)
      have h2 := lm a (by simp [dep]; omega)
      simp only [nd]; omega
    | m2 s c xs a c' xs' a' =>
      have h1 := lm s (by simp [dep]; omega)
      have h2 := lm a (by simp [dep]; omega)
      have h3 := lm a' (by simp [dep]; omega)
      simp only [nd]; omega
theorem canAll {xs : List PyData} (h : ∀ d ∈ xs, d.canLay0 = true) : PyData.canLayAll0 xs = true := by
  induction xs with
  | nil => rfl
  | cons x r ih => simp only [PyData.canLayAll0, Bool.and_eq_true]; exact ⟨h x (by simp), ih fun d hd => h d (by simp [hd])⟩
theorem depAll {xs : List PyData} {m : Nat} (h : ∀ d ∈ xs, d.depth ≤ m) : PyData.depthAll xs ≤ m := by
  induction xs with
  | nil => simp [PyData.depthAll]
  | cons x r ih =>
    have h1 := h x (by simp)
    have h2 := ih fun d hd => h d (by simp [hd])
    simp only [PyData.depthAll]
    omega
theorem showAll {xs : List PyData} (h : ∀ d ∈ xs, d.showable = true) : PyData.showableAll xs = true := by
  induction xs with
  | nil => rfl
  | cons x r ih => simp only [PyData.showableAll, Bool.and_eq_true]; exact ⟨h x (by simp), ih fun d hd => h d (by simp [hd])⟩
theorem wtAll_le {xs : List PyData} {m : Nat} (h : ∀ d ∈ xs, wt d + 2 ≤ m) : wtAll xs ≤ m * xs.length := by
  induction xs with
  | nil => simp [wtAll]
  | cons x r ih =>
    have h1 := h x (by simp)
    have h2 := ih fun d hd => h d (by simp [hd])
    simp only [wtAll, List.length_cons, Nat.mul_succ]
    omega
theorem shL {xs : List PyData} (h : ∀ d ∈ xs, d.canLay0 = true ∧ d.depth ≤ 62) : SeqAt.shaped (.list xs) = true := by
  have h1 := canAll fun d hd => (h d hd).1
  have h2 := depAll fun d hd => (h d hd).2
  simp [SeqAt.shaped, PyData.canLay0, h1, PyData.depth]
  omega
theorem shT {xs : List PyData} (h : ∀ d ∈ xs, d.canLay0 = true ∧ d.depth ≤ 62) : SeqAt.shaped (.tuple xs) = true := by
  have h1 := canAll fun d hd => (h d hd).1
  have h2 := depAll fun d hd => (h d hd).2
  simp [SeqAt.shaped, PyData.canLay0, h1, PyData.depth]
  omega
end K02
namespace K02
open PySem L2 DL
open Tm
variable {P : Nat → Addr} {S : Sto} {N : List Str}
def pth (p : List Nat) : List PyData := p.map fun i => .int (i : Nat)
def tp (p : List Nat) : PyData := .tuple (pth p)
abbrev Spt := List Nat × Tm
def spy (q : Spt) : PyData := .tuple [tp q.1, q.2.py]
def sp (p : List Nat) : Tm → List Spt
  | .lf w d => [(p, .lf w d)]
  | .ho => [(p, .ho)]
  | .us f x => (p, .us f x) :: (sp (p ++ [0]) f ++ sp (p ++ [1]) x)
  | .gv n b => (p, .gv n b) :: sp (p ++ [0]) b
  | .l1 n b e => (p, .l1 n b e) :: (sp (p ++ [0]) b ++ sp (p ++ [1]) e)
  | .l2 n b n' b' e => (p, .l2 n b n' b' e) :: (sp (p ++ [0]) b ++ (sp (p ++ [1]) b' ++ sp (p ++ [2]) e))
  | .m1 s c xs a => (p, .m1 s c xs a) :: (sp (p ++ [0]) s ++ sp (p ++ [1]) a)
  | .m2 s c xs a c' xs' a' => (p, .m2 s c xs a c' xs' a') :: (sp (p ++ [0]) s ++ (sp (p ++ [1]) a ++ sp (p ++ [2]) a'))
def ixs {α : Type} : Nat → List α → List (Nat × α)
  | _, [] => []
  | i, x :: r => (i, x) :: ixs (i + 1) r
theorem ixs_len {α : Type} : ∀ (l : List α) (i : Nat), (ixs i l).length = l.length
  | [], _ => rfl
  | x :: r, i => by simp [ixs, ixs_len r]
theorem ixs_mem {α : Type} : ∀ {l : List α} {j i : Nat} {x : α}, (i, x) ∈ ixs j l → ∃ m, i = j + m ∧ l[m]? = some x
  | [], _, _, _, h => by simp [ixs] at h
  | y :: r, j, i, x, h => by
    simp only [ixs, List.mem_cons, Prod.mk.injEq] at h
    rcases h with ⟨rfl, rfl⟩ | h
    · exact ⟨0, by omega, rfl⟩
    · obtain ⟨m, h1, h2⟩ := ixs_mem h
      exact ⟨m + 1, by omega, by simpa using h2⟩
def kids (p : List Nat) (t : Tm) : List Spt := (ixs 0 t.pb).map fun q => (p ++ [q.1], q.2.1)
def spL (st : List Spt) : List Spt := st.flatMap fun q => sp q.1 q.2
theorem sp_eq {p : List Nat} {t : Tm} : sp p t = (p, t) :: spL (kids p t) := by cases t <;> simp [sp, spL, kids, pb, ixs]
theorem spL_cons {q : Spt} {st : List Spt} : spL (q :: st) = sp q.1 q.2 ++ spL st := by simp [spL]
theorem spL_app {a b : List Spt} : spL (a ++ b) = spL a ++ spL b := by simp [spL]
theorem sp_nd : ∀ {t : Tm} {p : List Nat}, (sp p t).length = t.nd
  | .lf w d, p => rfl
  | .ho, p => rfl
  | .us f x, p => by simp [sp, nd, sp_nd (t := f), sp_nd (t := x)]; omega
  | .gv n b, p => by simp [sp, nd, sp_nd (t := b)]; omega
  | .l1 n b e, p => by simp [sp, nd, sp_nd (t := b), sp_nd (t := e)]; omega
  | .l2 n b n' b' e, p => by simp [sp, nd, sp_nd (t := b), sp_nd (t := b'), sp_nd (t := e)]; omega
  | .m1 s c xs a, p => by simp [sp, nd, sp_nd (t := s), sp_nd (t := a)]; omega
  | .m2 s c xs a c' xs' a', p => by simp [sp, nd, sp_nd (t := s), sp_nd (t := a), sp_nd (t := a')]; omega
theorem pb_len (t : Tm) : t.pb.length ≤ 3 := by cases t <;> simp [pb]
theorem kids_mem {p : List Nat} {t : Tm} {q : Spt} (h : q ∈ kids p t) : ∃ i o, t.pb[i]? = some (q.2, o) ∧ q.1 = p ++ [i] := by
  unfold kids at h
  obtain ⟨⟨i, u, o⟩, hm, rfl⟩ := List.mem_map.mp h
  obtain ⟨m, h1, h2⟩ := ixs_mem hm
  exact ⟨i, o, by rw [h1, Nat.zero_add]; exact h2, rfl⟩
/-- good, small -/
def okT (N : List Str) (t : Tm) : Prop := t.gd N ∧ t.dep ≤ 5
theorem okT_pb {t u : Tm} {o : List Str} (h : okT N t) (hu : (u, o) ∈ t.pb) : okT N u := ⟨(pb_gd h.1 hu).1, by have := pb_dep hu; have := h.2; omega⟩
theorem tp_d (p : List Nat) : (tp p).canLay0 = true ∧ (tp p).depth ≤ 2 := by
  have h1 : ∀ d ∈ pth p, d.canLay0 = true ∧ d.depth ≤ 1 := fun d hd => by
    obtain ⟨i, _, rfl⟩ := List.mem_map.mp hd
    simp [PyData.canLay0, PyData.depth]
  have h2 := canAll fun d hd => (h1 d hd).1
  have h3 := depAll fun d hd => (h1 d hd).2
  refine ⟨by simpa [tp, PyData.canLay0] using h2, by simp [tp, PyData.depth]; omega⟩
theorem spy_d (hN : ∀ n ∈ N, Wd n) {q : Spt} (h : okT N q.2) : (spy q).canLay0 = true ∧ (spy q).depth ≤ 62 := by
  have h1 := tp_d q.1
  have h2 := py_can hN h.1
  have h3 := py_dep hN h.1
  have h4 := h.2
  refine ⟨by simp [spy, PyData.canLay0, PyData.canLayAll0, h1.1, h2], ?_⟩
  simp only [spy, PyData.depth, PyData.depthAll]
  have := h1.2
  omega
theorem lcD_on {α : Type} {g : FG} {e : FE} {ρ : Ev} {S : Sto} (p h : α → PyData) : ∀ {xs : List α}, (∀ x ∈ xs, ∃ ρ1, g (.p (p x)) ρ S = some (ρ1, S) ∧ e ρ1 S = .ok (.p (h x)) S) → lcD g tYesD e ρ (xs.map fun x => D.p (p x)) S = .ok (xs.map h) S
  | [], _ => rfl
  | x :: r, H => by
    obtain ⟨ρ1, h1, h2⟩ := H x (by simp)
    have ih := lcD_on p h (xs := r) (g := g) (e := e) (ρ := ρ) (S := S) fun y hy => H y (by simp [hy])
    rw [List.map_cons]
    unfold lcD
    simp [h1, h2, ih]
theorem gW_step {n : Nat} {t : FT} {pre : FS} {y : FE} {post : FS} {ys : List PyData} {ρ ρ1 ρ2 : Ev} {S1 S2 S3 S4 : Sto} {v : PyData} (h1 : t ρ S = .ok true S1) (h2 : pre ρ S1 = some (.next ρ1, S2)) (hl : ys.length < LIM) (h3 : y ρ1 S2 = .ok (.p v) S3) (h4 : post ρ1 S3 = some (.next ρ2, S4)) :
    gWhileD (n + 1) t pre y post ys ρ S = gWhileD n t pre y post (ys ++ [v]) ρ2 S4 := by
  simp [gWhileD, h1, h2, h3, h4, hl, noErr, Out.bind]
theorem gW_end {n : Nat} {t : FT} {pre : FS} {y : FE} {post : FS} {ys : List PyData} {ρ : Ev} {S1 : Sto} (h1 : t ρ S = .ok false S1) : gWhileD (n + 1) t pre y post ys ρ S = .ok ys S1 := by
  simp [gWhileD, h1, noErr, Out.bind]
theorem enumP_map {α : Type} (f : α → PyData) : ∀ (l : List α) (i : Nat), enumP i (l.map f) = (ixs i l).map fun q => D.p (.tuple [.int (q.1 : Nat), f q.2])
  | [], i => rfl
  | x :: r, i => by
    have ih := enumP_map f r (i + 1)
    show D.p (.tuple [.int (i : Nat), f x]) :: enumP (i + 1) (r.map f) = _
    rw [ih]
    rfl
theorem ne_nil {j : Nat} {xs : List PyData} (h : S[j]? = some (.lst xs)) (hs : SeqAt.shaped (.list xs) = true) : opEqZ true (.ob j) (.p (.list [])) S = .ok (.p (.bool (!xs.isEmpty))) S := by
  have e : PyData.eqv (.list xs) (.list []) = xs.isEmpty := by cases xs <;> simp [PyData.eqv, PyData.eqvAll]
  have e0 : SeqAt.shaped (.list []) = true := rfl
  simp [opEqZ, dicOf, h, opEqX, opEq, val, hs, e0, e]
def preP : FS := (sAsg (eLm popM (eVar 1) aNil) (gTupD 2 (gConss (gN 3) (gConss (gN 4) gNils))))
def postP (r2 : Fn → List D → M D) : FS := (sSeq (sSet 2 (eLc (iA enumXM (aCons (eCallX 1 (r2 .f_parts_of_term) (aCons (eVar 4) aNil)) aNil)) (gTupD 2 (gConss (gN 5) (gConss (gN 6) gNils))) tYesD (eA mkTup (aCons (e2 opAddX (eVar 3) (eA mkTup (aCons (eVar 5) aNil))) (aCons (eVar 6) aNil))) [5, 6] finL))
    (sExpr (eLm extendM (eVar 1) (aCons (e1 revM (eVar 2)) aNil))))
theorem b_pl (r r2 : Fn → List D → M D) : b_f_places r r2 = runG 7 (sSet 1 (eA mkLstM (aCons (eA mkTup (aCons (eA mkTup aNil) (aCons (eVar 0) aNil))) aNil))) 1000 (tC2 (opEqZ true) (eVar 1) (eA mkLst aNil)) preP (eVar 3) (postP r2) := rfl
theorem addTp {p : List Nat} {i : Nat} (hp : p.length ≤ 1000) : opAddX (.p (tp p)) (.p (.tuple [.int (i : Nat)])) S = .ok (.p (tp (p ++ [i]))) S := by
  have := addX_t (i := pth p) (j := [.int ((i : Nat) : Int)]) (S := S) (by simp [pth, LIM]; omega)
  rw [show tp p = .tuple (pth p) from rfl, this]
  simp [tp, pth]
theorem kids_lc {p : List Nat} {t : Tm} (hp : p.length ≤ 1000) {a b c e f g : Option D} :
    lcD (gTupD 2 (gConss (gN 5) (gConss (gN 6) gNils))) tYesD (eA mkTup (aCons (e2 opAddX (eVar 3) (eA mkTup (aCons (eVar 5) aNil))) (aCons (eVar 6) aNil))) [a, b, c, some (.p (tp p)), e, f, g] (enumP 0 (t.pb.map fun q => q.1.py)) S = .ok ((kids p t).map spy) S := by
  rw [enumP_map]
  have := lcD_on (g := gTupD 2 (gConss (gN 5) (gConss (gN 6) gNils))) (e := (eA mkTup (aCons (e2 opAddX (eVar 3) (eA mkTup (aCons (eVar 5) aNil))) (aCons (eVar 6) aNil)))) (ρ := [a, b, c, some (.p (tp p)), e, f, g]) (S := S)
    (fun q : Nat × (Tm × List Str) => .tuple [.int (q.1 : Nat), q.2.1.py]) (fun q => spy (p ++ [q.1], q.2.1)) (xs := ixs 0 t.pb) fun q _ => ⟨[a, b, c, some (.p (tp p)), e, some (.p (.int (q.1 : Nat))), some (.p q.2.1.py)], by simp [gTupD, gConss, gNils], by
      have h2 : ∀ z : Sto, mkTup [.p (.int (q.1 : Nat))] z = .ok (.p (.tuple [.int (q.1 : Nat)])) z := fun z => by simp [mkTup, LIM, pys]
      have h3 : ∀ x y : PyData, ∀ z : Sto, mkTup [.p x, .p y] z = .ok (.p (.tuple [x, y])) z := fun x y z => by simp [mkTup, LIM, pys]
      simp [h2, h3, addTp hp, spy]⟩
  rw [this]
  simp [kids]
set_option maxHeartbeats 1000000 in
theorem gW_ok (hN : ∀ n ∈ N, Wd n) {k : Nat} (hk : 3 ≤ k) {a : Option D} : ∀ (m : Nat) {f : Nat} {st : List Spt} {ys : List PyData} {y2 y3 y4 y5 y6 : Option D}, (spL st).length = m → m < f → (∀ q ∈ st, okT N q.2 ∧ q.1.length + q.2.dep ≤ 10) → ys.length + m ≤ 500 →
    ∃ S', gWhileD f (tC2 (opEqZ true) (eVar 1) (eA mkLst aNil)) preP (eVar 3) (postP (F P k)) ys [a, some (.ob S.length), y2, y3, y4, y5, y6] (S ++ [.lst ((st.map spy).reverse)]) = .ok (ys ++ (spL st).map fun q => tp q.1) S' ∧ S'.take S.length = S := by
  intro m
  induction m using Nat.strongRecOn with
  | _ m ih =>
  intro f st ys y2 y3 y4 y5 y6 hm hf hO hl
  obtain ⟨f, rfl⟩ : ∃ j, f = j + 1 := ⟨f - 1, by omega⟩
  have g1 : ∀ x : MO, (S ++ [x])[S.length]? = some x := fun x => by simp
  have s1 : ∀ x z : MO, (S ++ [x]).set S.length z = S ++ [z] := fun x z => by simp
  have hmk : ∀ z : Sto, mkLst [] z = .ok (.p (.list [])) z := fun z => by simp [mkLst, LIM, pys]
  have hsh : SeqAt.shaped (.list ((st.map spy).reverse)) = true := shL fun d hd => by
    obtain ⟨c, hc, rfl⟩ := List.mem_map.mp (List.mem_reverse.mp hd)
    exact spy_d hN (hO c hc).1
  have hne := ne_nil (g1 (.lst ((st.map spy).reverse))) hsh
  cases st with
  | nil =>
    refine ⟨S ++ [.lst []], ?_, by simp⟩
    rw [gW_end (S1 := S ++ [.lst []])]
    · simp [spL]
    · simp at hne
      simp [-List.length_append, hmk, hne]
  | cons c st =>
    obtain ⟨p, t⟩ := c
    obtain ⟨ht, hp⟩ := hO (p, t) (by simp)
    have hpl : p.length ≤ 10 := by simp at hp; omega
    have hsp : spL ((p, t) :: st) = (p, t) :: spL (kids p t ++ st) := by rw [spL_cons, sp_eq, spL_app]; rfl
    have hrev : (((p, t) :: st).map spy).reverse = (st.map spy).reverse ++ [spy (p, t)] := by simp
    have he : ((((p, t) :: st).map spy).reverse).isEmpty = false := by simp
    rw [he] at hne
    rw [hrev] at hne ⊢
    rw [hsp] at hm ⊢
    simp at hm
    have hst : ∀ st' : List Spt, st'.length ≤ (spL st').length := fun st' => by
      induction st' with
      | nil => simp
      | cons c r ih => rw [spL_cons, sp_eq]; simp; omega
    have h6 := hst (kids p t ++ st)
    have hO' : ∀ q ∈ kids p t ++ st, okT N q.2 ∧ q.1.length + q.2.dep ≤ 10 := fun c hc => by
      rcases List.mem_append.mp hc with hc | hc
      · obtain ⟨i, o, hu, e⟩ := kids_mem hc
        have hu' := List.mem_of_getElem? hu
        have := pb_dep hu'
        refine ⟨okT_pb ht hu', ?_⟩
        rw [e]
        simp at hp ⊢
        omega
      · exact hO c (by simp [hc])
    obtain ⟨S', e, es⟩ := ih (spL (kids p t ++ st)).length (by omega) (f := f) (st := kids p t ++ st) (ys := ys ++ [tp p]) (y2 := some (.p (.list ((kids p t).map spy)))) (y3 := some (.p (tp p))) (y4 := some (.p t.py)) (y5 := y5) (y6 := y6) rfl (by omega) hO' (by simp; omega)
    refine ⟨S', ?_, es⟩
    have hq : ∀ z : Sto, F P k .f_parts_of_term [.p t.py] z = .ok (.p (.list (t.pb.map fun q => q.1.py))) z := fun z => pt_ok hk (gd_wk ht.1)
    have hp1 : popM (.ob S.length) [] (S ++ [.lst ((st.map spy).reverse ++ [spy (p, t)])]) = .ok (.p (spy (p, t))) (S ++ [.lst ((st.map spy).reverse)]) := by
      rw [pop_ok (xs := (st.map spy).reverse) (y := spy (p, t)) (g1 _), s1]
    have hpre : preP [a, some (.ob S.length), y2, y3, y4, y5, y6] (S ++ [.lst ((st.map spy).reverse ++ [spy (p, t)])]) = some (.next [a, some (.ob S.length), y2, some (.p (tp p)), some (.p t.py), y5, y6], S ++ [.lst ((st.map spy).reverse)]) := by
      unfold preP
      have hg : ∀ z : Sto, gTupD 2 (gConss (gN 3) (gConss (gN 4) gNils)) (.p (spy (p, t))) [a, some (.ob S.length), y2, y3, y4, y5, y6] z = some ([a, some (.ob S.length), y2, some (.p (tp p)), some (.p t.py), y5, y6], z) := fun z => by simp [spy, gTupD, gConss, gNils]
      simp [-List.length_append, rlOf_ob (g1 _), hp1, hg]
    have hlc := kids_lc (S := S ++ [.lst ((st.map spy).reverse)]) (p := p) (t := t) (by omega) (a := a) (b := some (.ob S.length)) (c := y2) (e := some (.p t.py)) (f := none) (g := none)
    have hx : extendM (.ob S.length) [.p (.list (((kids p t).map spy).reverse))] (S ++ [.lst ((st.map spy).reverse)]) = .ok (.p .none) (S ++ [.lst ((st.map spy).reverse ++ ((kids p t).map spy).reverse)]) := by
      rw [extend_ok (xs := (st.map spy).reverse) (g1 _) (by simp at h6 ⊢; omega), s1]
    have hpost : postP (F P k) [a, some (.ob S.length), y2, some (.p (tp p)), some (.p t.py), y5, y6] (S ++ [.lst ((st.map spy).reverse)]) = some (.next [a, some (.ob S.length), some (.p (.list ((kids p t).map spy))), some (.p (tp p)), some (.p t.py), y5, y6], S ++ [.lst (((kids p t ++ st).map spy).reverse)]) := by
      unfold postP
      have hll : t.pb.length ≤ 1000000 := by have := pb_len t; omega
      have hrv : ∀ (xs : List PyData) (z : Sto), revM (.p (.list xs)) z = .ok (.p (.list xs.reverse)) z := fun xs z => rfl
      simp [-List.length_append, hq, cutX, LIM, hll, hlc, finL, sSeq_, rlOf_ob (g1 _), hrv, hx, wipeD, noErr, enumP_len]
    rw [gW_step (S1 := S ++ [.lst ((st.map spy).reverse ++ [spy (p, t)])]) (S2 := S ++ [.lst ((st.map spy).reverse)]) (S3 := S ++ [.lst ((st.map spy).reverse)]) (v := tp p) ?_ hpre (by simp [LIM]; omega) (by simp) hpost, e]
    · simp
    · simp at hne
      simp [-List.length_append, hmk, hne]
end K02
namespace K02
open PySem L2 DL
open Tm
variable {P : Nat → Addr} {S : Sto} {N : List Str}
theorem F_pls (k : Nat) : F P (k + 3) .f_places = b_f_places (F P (k + 2)) (F P k) := rfl
theorem spL_one {t : Tm} : spL [([], t)] = sp [] t := by simp [spL]
theorem nd_121 {t : Tm} (h : okT N t) : t.nd ≤ 121 := by
  have h1 := nd_le h.2
  have : (3 : Nat) ^ 5 = 243 := by decide
  omega
theorem pls_ok (hN : ∀ n ∈ N, Wd n) {k : Nat} (hk : 6 ≤ k) {t : Tm} (h : okT N t) {ρ : Ev} {fa : FA} (hf : fa ρ S = .ok [.p t.py] S) : eListG 1 (F P k .f_places) fa ρ S = .ok (.p (.list ((sp [] t).map fun q => tp q.1))) S := by
  obtain ⟨k, rfl⟩ := k3 (k := k) (by omega)
  have hn := nd_121 h
  obtain ⟨S', e, es⟩ := gW_ok (P := P) (S := S) hN (k := k) (by omega) (a := some (.p t.py)) (t.nd) (f := 1000) (st := [([], t)]) (ys := []) (y2 := none) (y3 := none) (y4 := none) (y5 := none) (y6 := none) (by rw [spL_one, sp_nd]) (by omega)
    (fun q hq => by simp at hq; subst hq; exact ⟨h, by have := h.2; simp; omega⟩) (by simp; omega)
  have hm2 : mkLstM [.p (.tuple [.tuple [], t.py])] S = .ok (.ob S.length) (S ++ [.lst (([([], t)].map spy).reverse)]) := by
    simp [mkLstM, LIM, pys, spy, tp, pth]
  have hm3 : ∀ z : Sto, mkTup [.p (.tuple []), .p t.py] z = .ok (.p (.tuple [.tuple [], t.py])) z := fun z => by simp [mkTup, LIM, pys]
  have hm4 : ∀ z : Sto, mkTup [] z = .ok (.p (.tuple [])) z := fun z => by simp [mkTup, LIM, pys]
  have hini : (sSet 1 (eA mkLstM (aCons (eA mkTup (aCons (eA mkTup aNil) (aCons (eVar 0) aNil))) aNil))) [some (.p t.py), none, none, none, none, none, none] S = some (.next [some (.p t.py), some (.ob S.length), none, none, none, none, none], S ++ [.lst (([([], t)].map spy).reverse)]) := by
    simp [-List.length_append, hm2, hm3, hm4]
  have hF : F P (k + 3) .f_places [.p t.py] S = .ok (.p (.list ((sp [] t).map fun q => tp q.1))) S' := by
    rw [F_pls, b_pl]
    unfold runG
    have hds : [D.p t.py].map some ++ List.replicate (7 - [D.p t.py].length) none = [some (.p t.py), none, none, none, none, none, none] := rfl
    rw [hds, hini]
    dsimp only
    rw [e, spL_one]
    simp [Out.bind]
  unfold eListG
  rw [hf]
  simp only [noErr, Out.bind, List.length_singleton, if_true]
  rw [hF]
  simp [cutX, es, noErr, Out.bind, onlyL]
theorem F_sp (k : Nat) : F P (k + 3) .f_spots_l = runF 5 (b_f_spots_l (F P (k + 2))) := rfl
theorem mk2 {x y : PyData} : mkTup [.p x, .p y] S = .ok (.p (.tuple [x, y])) S := by simp [mkTup, LIM, pys]
theorem mk1 {x : PyData} : mkTup [.p x] S = .ok (.p (.tuple [x])) S := by simp [mkTup, LIM, pys]
def spS (p : List Nat) (l : List (Nat × (Tm × List Str))) : List Spt := l.flatMap fun q => sp (p ++ [q.1]) q.2.1
theorem spS_eq {p : List Nat} {t : Tm} : sp p t = (p, t) :: spS p (ixs 0 t.pb) := by rw [sp_eq]; simp [spL, kids, spS, List.flatMap_map]
set_option maxHeartbeats 1000000 in
theorem loop_sp {k : Nat} {p : List Nat} (hp : p.length ≤ 100) {a : Option D} {R : Fl → Sto → Prop} : ∀ {l : List (Nat × (Tm × List Str))} {acc : List PyData} {y3 y4 : Option D},
    (∀ q ∈ l, ∀ z : Sto, F P k .f_spots_l [.p q.2.1.py, .p (tp (p ++ [q.1]))] z = .ok (.p (.list ((sp (p ++ [q.1]) q.2.1).map spy))) z) → acc.length + (spS p l).length ≤ 1000 →
    (∀ y3 y4, R (.next [a, some (.p (tp p)), some (.p (.list (acc ++ (spS p l).map spy))), y3, y4]) S) →
    wpS (forD (gTupD 2 (gConss (gN 3) (gConss (gN 4) gNils))) (f_spots_l_1 (F P k)) (l.map fun q => D.p (.tuple [.int (q.1 : Nat), .tuple [q.2.1.py, nms q.2.2]])) [a, some (.p (tp p)), some (.p (.list acc)), y3, y4] S) R
  | [], acc, y3, y4, h, hl, q => by simpa [spS] using q y3 y4
  | (i, u, o) :: l, acc, y3, y4, h, hl, q => by
    have hi := h (i, u, o) (by simp) S
    simp at hi
    have hs : spS p ((i, u, o) :: l) = sp (p ++ [i]) u ++ spS p l := by simp [spS]
    rw [hs] at hl q
    simp at hl
    have hc : ∀ x : PyData, cutX S.length (.ok (.p x) S) = .ok (.p x) S := fun x => by simp [cutX]
    have ha : opAddX (.p (.list acc)) (.p (.list ((sp (p ++ [i]) u).map spy))) S = .ok (.p (.list (acc ++ (sp (p ++ [i]) u).map spy))) S := addX_l (by simp [LIM]; omega)
    rw [List.map_cons, wpS_forD]
    simp only [gTupD, gConss, gNils]
    unfold f_spots_l_1
    simp [mk1, addTp (S := S) (p := p) (i := i) (by omega), hi, hc, ha]
    refine loop_sp hp (fun q hq => h q (by simp [hq])) (by simp; omega) fun y3 y4 => ?_
    have := q y3 y4
    simpa using this
set_option maxHeartbeats 1000000 in
theorem spt_ok : ∀ (m : Nat) {k : Nat} {t : Tm} {p : List Nat} {S : Sto}, t.dep ≤ m → 3 * m + 3 ≤ k → m ≤ 5 → okT N t → p.length + m ≤ 50 → F P k .f_spots_l [.p t.py, .p (tp p)] S = .ok (.p (.list ((sp p t).map spy))) S
  | 0, k, t, p, S, hd, _, _, _, _ => by have := dep_pos t; omega
  | m + 1, k, t, p, S, hd, hk, hm, ht, hp => by
    obtain ⟨k, rfl⟩ := k3 (k := k) (by omega)
    rw [F_sp]
    refine wp_eq ?_
    rw [wp_run]
    show wpS (b_f_spots_l (F P (k + 2)) [some (.p t.py), some (.p (tp p)), none, none, none] S) _
    unfold b_f_spots_l f_spots_l_2
    have hpl : F P (k + 2) .f_parts_l [.p t.py] S = .ok (.p (.list (t.pb.map fun q => .tuple [q.1.py, nms q.2]))) S := pl_ok (by omega) (gd_wk ht.1)
    have hc : ∀ x : PyData, cutX S.length (.ok (.p x) S) = .ok (.p x) S := fun x => by simp [cutX]
    have he : enumP 0 (t.pb.map fun q => .tuple [q.1.py, nms q.2]) = (ixs 0 t.pb).map fun q => D.p (.tuple [.int (q.1 : Nat), .tuple [q.2.1.py, nms q.2.2]]) := enumP_map (fun q : Tm × List Str => .tuple [q.1.py, nms q.2]) t.pb 0
    have hml : mkLst [.p (.tuple [tp p, t.py])] S = .ok (.p (.list [.tuple [tp p, t.py]])) S := by simp [mkLst, LIM, pys]
    have hn := nd_121 ht
    have hlen : (spS p (ixs 0 t.pb)).length + 1 = t.nd := by
      rw [← sp_nd (t := t) (p := p), spS_eq]; rfl
    have hll : t.pb.length ≤ 1000000 := by have := pb_len t; omega
    simp [hpl, hc, mk2, hml, enumP_len, LIM, hll]
    rw [he]
    refine loop_sp (P := P) (k := k + 2) (p := p) (by omega) (fun q hq z => ?_) (by simp; omega) fun y3 y4 => ?_
    · obtain ⟨i, u, o⟩ := q
      obtain ⟨j, _, hj⟩ := ixs_mem hq
      have hu := List.mem_of_getElem? hj
      have hdu := pb_dep hu
      exact spt_ok m (by simp only; omega) (by omega) (by omega) (okT_pb ht hu) (by simp; omega)
    · simp
      rw [spS_eq]
      rfl
theorem spots_ok {k : Nat} (hk : 18 ≤ k) {t : Tm} (ht : okT N t) : F P k .f_spots_l [.p t.py, .p (.tuple [])] S = .ok (.p (.list ((sp [] t).map spy))) S := spt_ok (N := N) 5 (p := []) ht.2 (by omega) (by omega) ht (by simp)
end K02
namespace K02
open PySem L2 DL
open Tm
variable {P : Nat → Addr} {S : Sto} {N : List Str}
def fr (h : List Str) : Tm → List Str
  | .lf w d => if w = "name" then (match d with
    | .str n => if n ∈ h then [] else [n]
    | _ => []) else []
  | .ho => []
  | .us f x => fr h f ++ fr h x
  | .gv n b => fr (h ++ [n]) b
  | .l1 n b e => fr (h ++ [n]) b ++ fr (h ++ [n]) e
  | .l2 n b n' b' e => fr (h ++ [n, n']) b ++ (fr (h ++ [n, n']) b' ++ fr (h ++ [n, n']) e)
  | .m1 s _ xs a => fr h s ++ fr (h ++ xs) a
  | .m2 s _ xs a _ xs' a' => fr h s ++ (fr (h ++ xs) a ++ fr (h ++ xs') a')
def frS (h : List Str) (l : List (Tm × List Str)) : List Str := l.flatMap fun q => fr (h ++ q.2) q.1
theorem fr_eq {h : List Str} {t : Tm} (ht : ∀ d, t ≠ .lf "name" d) : fr h t = frS h t.pb := by
  cases t <;> simp [fr, frS, pb]
  intro e
  subst e
  exact absurd rfl (ht _)
theorem inP_str {n : Str} : ∀ {h : List Str}, inP (.str n) (h.map .str) = decide (n ∈ h)
  | [] => rfl
  | x :: r => by
    have ih := inP_str (n := n) (h := r)
    unfold inP at ih ⊢
    rw [List.map_cons, List.any_cons, ih]
    have e : eqP (.str x) (.str n) = decide (n = x) := by
      by_cases c : n = x
      · subst c; simp [eqP]
      · have c' : ¬ x = n := fun z => c z.symm
        simp [eqP, c, c']
    rw [e]
    simp
theorem flatStrs {h : List Str} : (h.map PyData.str).all flatP = true := by
  induction h with
  | nil => rfl
  | cons x r ih => simp [flatP, ih]
theorem in_nms {neg : Bool} {n : Str} {h : List Str} : opInX neg (.p (.str n)) (.p (nms h)) S = .ok (.p (.bool (if neg then !decide (n ∈ h) else decide (n ∈ h)))) S := by
  rw [nms, inX_t rfl flatStrs, inP_str]
theorem fr_mem : ∀ {t : Tm} {h : List Str} {n : Str}, t.gd N → n ∈ fr h t → n ∈ N
  | .lf w d, h, n, g, hn => by
    rcases g with ⟨rfl, m, hm, rfl⟩ | ⟨rfl, i, _, rfl⟩ | ⟨rfl, s, _, rfl⟩
    · simp only [fr, if_true] at hn
      split at hn
      · simp at hn
      · simp at hn; rw [hn]; exact hm
    · simp [fr] at hn
    · simp [fr] at hn
  | .ho, h, n, g, hn => by simp [fr] at hn
  | .us f x, h, n, g, hn => by
    simp [fr] at hn
    rcases hn with hn | hn
    · exact fr_mem g.1 hn
    · exact fr_mem g.2 hn
  | .gv m b, h, n, g, hn => fr_mem (t := b) g.2 hn
  | .l1 m b e, h, n, g, hn => by
    simp [fr] at hn
    rcases hn with hn | hn
    · exact fr_mem g.2.1 hn
    · exact fr_mem g.2.2 hn
  | .l2 m b m' b' e, h, n, g, hn => by
    simp [fr] at hn
    rcases hn with hn | hn | hn
    · exact fr_mem g.2.1 hn
    · exact fr_mem g.2.2.2.1 hn
    · exact fr_mem g.2.2.2.2.1 hn
  | .m1 s c xs a, h, n, g, hn => by
    simp [fr] at hn
    rcases hn with hn | hn
    · exact fr_mem g.1 hn
    · exact fr_mem g.2.2.2 hn
  | .m2 s c xs a c' xs' a', h, n, g, hn => by
    simp [fr] at hn
    rcases hn with hn | hn | hn
    · exact fr_mem g.1 hn
    · exact fr_mem g.2.2.2.1 hn
    · exact fr_mem g.2.2.2.2.2.2 hn
theorem fr_len : ∀ {t : Tm} {h : List Str}, (fr h t).length ≤ t.nd
  | .lf w d, h => by
    simp only [fr]
    split
    · split
      · split <;> simp [nd]
      · simp
    · simp
  | .ho, h => by simp [fr]
  | .us f x, h => by have := fr_len (t := f) (h := h); have := fr_len (t := x) (h := h); simp [fr, nd]; omega
  | .gv m b, h => by have := fr_len (t := b) (h := h ++ [m]); simp [fr, nd]; omega
  | .l1 m b e, h => by have := fr_len (t := b) (h := h ++ [m]); have := fr_len (t := e) (h := h ++ [m]); simp [fr, nd]; omega
  | .l2 m b m' b' e, h => by have := fr_len (t := b) (h := h ++ [m, m']); have := fr_len (t := b') (h := h ++ [m, m']); have := fr_len (t := e) (h := h ++ [m, m']); simp [fr, nd]; omega
  | .m1 s c xs a, h => by have := fr_len (t := s) (h := h); have := fr_len (t := a) (h := h ++ xs); simp [fr, nd]; omega
  | .m2 s c xs a c' xs' a', h => by have := fr_len (t := s) (h := h); have := fr_len (t := a) (h := h ++ xs); have := fr_len (t := a') (h := h ++ xs'); simp [fr, nd]; omega
theorem F_un (k : Nat) : F P (k + 3) .f_used_names = runF 5 (b_f_used_names (F P (k + 2))) := rfl
theorem F_fl (k : Nat) : F P (k + 3) .f_free_l = runF 4 (b_f_free_l (F P (k + 2))) := rfl
theorem add_nms {a b : List Str} (h : a.length + b.length ≤ 1000) : opAddX (.p (nms a)) (.p (nms b)) S = .ok (.p (nms (a ++ b))) S := by
  rw [nms, nms, addX_t (by simp [LIM]; omega)]
  simp [nms]
theorem headName {t : Tm} (h : t.wk) : ∃ w r, t.py = .tuple (.str w :: r) ∧ ((w = "name") ↔ ∃ d, t = .lf "name" d) := by
  cases t with
  | lf w d => exact ⟨w, _, rfl, by simp⟩
  | _ => refine ⟨_, _, rfl, ?_⟩; simp
set_option maxHeartbeats 1000000 in
theorem loop_un {k : Nat} {t : Tm} {h : List Str} (hh : h.length ≤ 100) {R : Fl → Sto → Prop} : ∀ {l : List (Nat × (Tm × List Str))} {acc : List PyData} {y3 y4 : Option D},
    (∀ q ∈ l, q.2.2.length ≤ 2 ∧ (∀ z : Sto, F P k .f_bound_for [.p t.py, .p (.int (q.1 : Nat))] z = .ok (.p (nms q.2.2)) z) ∧ ∀ z : Sto, cutX z.length (F P k .f_used_names [.p q.2.1.py, .p (nms (h ++ q.2.2))] z) = .ok (.p (.list ((fr (h ++ q.2.2) q.2.1).map .str))) z) →
    acc.length + (frS h (l.map (·.2))).length ≤ 1000 →
    (∀ y3 y4, R (.next [some (.p t.py), some (.p (nms h)), some (.ob S.length), y3, y4]) (S ++ [.lst (acc ++ (frS h (l.map (·.2))).map .str)])) →
    wpS (forD (gTupD 2 (gConss (gN 3) (gConss (gN 4) gNils))) (f_used_names_1 (F P k)) (l.map fun q => D.p (.tuple [.int (q.1 : Nat), q.2.1.py])) [some (.p t.py), some (.p (nms h)), some (.ob S.length), y3, y4] (S ++ [.lst acc])) R
  | [], acc, y3, y4, hq, hl, q => by simpa [frS] using q y3 y4
  | (i, u, o) :: l, acc, y3, y4, hq, hl, q => by
    obtain ⟨ho, hb, hu⟩ := hq (i, u, o) (by simp)
    simp only at ho hb hu
    have hs : frS h (((i, u, o) :: l).map (·.2)) = fr (h ++ o) u ++ frS h (l.map (·.2)) := by simp [frS]
    rw [hs] at hl q
    simp at hl
    have hc : ∀ (x : PyData) (z : Sto), cutX z.length (.ok (.p x) z) = .ok (.p x) z := fun x z => by simp [cutX]
    have g1 : ∀ x : MO, (S ++ [x])[S.length]? = some x := fun x => by simp
    have s1 : ∀ x z : MO, (S ++ [x]).set S.length z = S ++ [z] := fun x z => by simp
    have hadd : ∀ z : Sto, opAddX (.p (nms h)) (.p (nms o)) z = .ok (.p (nms (h ++ o))) z := fun z => add_nms (by omega)
    have hx : extendM (.ob S.length) [.p (.list ((fr (h ++ o) u).map .str))] (S ++ [.lst acc]) = .ok (.p .none) (S ++ [.lst (acc ++ (fr (h ++ o) u).map .str)]) := by
      rw [extend_ok (g1 _) (by simp; omega), s1]
    rw [List.map_cons, wpS_forD]
    simp only [gTupD, gConss, gNils]
    unfold f_used_names_1
    simp [-List.length_append, rlOf_ob (g1 _), hb, hc, hadd, hu, hx]
    refine loop_un hh (fun q hq' => hq q (by simp [hq'])) (by simp; omega) fun y3 y4 => ?_
    have := q y3 y4
    simpa using this
theorem bds {t : Tm} {q : Nat × (Tm × List Str)} (hq : q ∈ ixs 0 t.pb) : t.pb[q.1]? = some q.2 := by
  obtain ⟨i, u⟩ := q
  obtain ⟨j, rfl, hj⟩ := ixs_mem hq
  simpa using hj
theorem ixs_snd {α : Type} : ∀ (l : List α) (i : Nat), (ixs i l).map (·.2) = l
  | [], _ => rfl
  | x :: r, i => by simp [ixs, ixs_snd r]
set_option maxHeartbeats 1000000 in
theorem un_ok : ∀ (m : Nat) {k : Nat} {t : Tm} {h : List Str} {S : Sto}, t.dep ≤ m → 3 * m + 3 ≤ k → m ≤ 5 → okT N t → h.length + 2 * m ≤ 50 → cutX S.length (F P k .f_used_names [.p t.py, .p (nms h)] S) = .ok (.p (.list ((fr h t).map .str))) S
  | 0, k, t, h, S, hd, _, _, _, _ => by have := dep_pos t; omega
  | m + 1, k, t, h, S, hd, hk, hm, ht, hp => by
    obtain ⟨k, rfl⟩ := k3 (k := k) (by omega)
    rw [F_un]
    refine wp_eq (wp_cutX ?_)
    rw [wp_run]
    show wpS (b_f_used_names (F P (k + 2)) [some (.p t.py), some (.p (nms h)), none, none, none] S) _
    unfold b_f_used_names f_used_names_3 f_used_names_2
    obtain ⟨w, r, e, hw⟩ := headName (gd_wk ht.1)
    have hsub : ∀ z : Sto, opSubs (.p t.py) (.p (.int 0)) z = .ok (.p (.str w)) z := fun z => by rw [e]; exact subs_t0
    have hc : ∀ (x : PyData) (z : Sto), cutX z.length (.ok (.p x) z) = .ok (.p x) z := fun x z => by simp [cutX]
    have hm0 : ∀ z : Sto, mkLst [] z = .ok (.p (.list [])) z := fun z => by simp [mkLst, LIM, pys]
    have hm1 : ∀ (x : PyData) (z : Sto), mkLst [.p x] z = .ok (.p (.list [x])) z := fun x z => by simp [mkLst, LIM, pys]
    by_cases hwn : w = "name"
    · obtain ⟨d, rfl⟩ := hw.mp hwn
      subst hwn
      obtain ⟨n, hn, rfl⟩ : ∃ n ∈ N, d = .str n := by
        rcases ht.1 with ⟨_, n, h1, h2⟩ | ⟨h1, _⟩ | ⟨h1, _⟩
        · exact ⟨n, h1, h2⟩
        · exact absurd h1 (by decide)
        · exact absurd h1 (by decide)
      have hs1 : ∀ z : Sto, opSubs (.p (Tm.lf "name" (.str n)).py) (.p (.int 1)) z = .ok (.p (.str n)) z := fun z => subs_t1
      have hin := fun z : Sto => in_nms (S := z) (neg := true) (n := n) (h := h)
      simp only [if_true] at hin
      by_cases hnh : n ∈ h
      · simp [hsub, hs1, hin, hnh, hm0, fr]
      · simp [hsub, hs1, hin, hnh, hm1, fr]
    · have hnl : ∀ d, t ≠ .lf "name" d := fun d hd => hwn (hw.mpr ⟨d, hd⟩)
      have hpt : ∀ z : Sto, F P (k + 2) .f_parts_of_term [.p t.py] z = .ok (.p (.list (t.pb.map fun q => q.1.py))) z := fun z => pt_ok (by omega) (gd_wk ht.1)
      have hmm : mkLstM [] S = .ok (.ob S.length) (S ++ [.lst []]) := by simp [mkLstM, LIM, pys]
      have he : enumP 0 (t.pb.map fun q => q.1.py) = (ixs 0 t.pb).map fun q => D.p (.tuple [.int (q.1 : Nat), q.2.1.py]) := enumP_map (fun q : Tm × List Str => q.1.py) t.pb 0
      have hll : t.pb.length ≤ 1000000 := by have := pb_len t; omega
      have hfl := fr_len (t := t) (h := h)
      have hnd := nd_121 ht
      rw [fr_eq hnl] at hfl ⊢
      simp [-List.length_append, hsub, hwn, hpt, hmm, hc, enumP_len, LIM, hll]
      rw [he]
      refine loop_un (P := P) (k := k + 2) (S := S) (t := t) (h := h) (by omega) (fun q hq => ?_) (by rw [ixs_snd]; simp; omega) fun y3 y4 => ?_
      · have hb := bds hq
        have hu := List.mem_of_getElem? hb
        obtain ⟨i, u, o⟩ := q
        have hdu := pb_dep hu
        have hx := (pb_gd ht.1 hu).2
        refine ⟨hx.2.2, fun z => bd_ok (by omega) (gd_wk ht.1) hb, fun z => un_ok m (by simp only; omega) (by omega) (by omega) (okT_pb ht hu) ?_⟩
        have := hx.2.2
        simp
        omega
      · have hice : ∀ xs : List PyData, iceD (.ob S.length) (S ++ [.lst xs]) = (.p (.list xs), S ++ [.dead]) := fun xs => by simp [iceD]
        rw [ixs_snd]
        simp [-List.length_append, hice]
theorem used_ok {k : Nat} (hk : 18 ≤ k) {t : Tm} (ht : okT N t) : cutX S.length (F P k .f_used_names [.p t.py, .p (.tuple [])] S) = .ok (.p (.list ((fr [] t).map .str))) S := un_ok (N := N) 5 (h := []) ht.2 (by omega) (by omega) ht (by simp)
theorem lsts_map {α : Type} (f : α → List PyData) : ∀ l : List α, lsts (l.map fun x => .list (f x)) = some (l.map f)
  | [] => rfl
  | x :: r => by simp [lsts, lsts_map f r]
set_option maxHeartbeats 1000000 in
theorem fl_ok : ∀ (m : Nat) {k : Nat} {t : Tm} {h : List Str} {S : Sto}, t.dep ≤ m → 3 * m + 3 ≤ k → m ≤ 5 → okT N t → h.length + 2 * m ≤ 50 → F P k .f_free_l [.p t.py, .p (nms h)] S = .ok (.p (.list ((fr h t).map .str))) S
  | 0, k, t, h, S, hd, _, _, _, _ => by have := dep_pos t; omega
  | m + 1, k, t, h, S, hd, hk, hm, ht, hp => by
    obtain ⟨k, rfl⟩ := k3 (k := k) (by omega)
    rw [F_fl]
    refine wp_eq ?_
    rw [wp_run]
    show wpS (b_f_free_l (F P (k + 2)) [some (.p t.py), some (.p (nms h)), none, none] S) _
    unfold b_f_free_l f_free_l_1
    obtain ⟨w, r, e, hw⟩ := headName (gd_wk ht.1)
    have hsub : ∀ z : Sto, opSubs (.p t.py) (.p (.int 0)) z = .ok (.p (.str w)) z := fun z => by rw [e]; exact subs_t0
    have hc : ∀ (x : PyData) (z : Sto), cutX z.length (.ok (.p x) z) = .ok (.p x) z := fun x z => by simp [cutX]
    have hm0 : ∀ z : Sto, mkLst [] z = .ok (.p (.list [])) z := fun z => by simp [mkLst, LIM, pys]
    have hm1 : ∀ (x : PyData) (z : Sto), mkLst [.p x] z = .ok (.p (.list [x])) z := fun x z => by simp [mkLst, LIM, pys]
    by_cases hwn : w = "name"
    · obtain ⟨d, rfl⟩ := hw.mp hwn
      subst hwn
      obtain ⟨n, hn, rfl⟩ : ∃ n ∈ N, d = .str n := by
        rcases ht.1 with ⟨_, n, h1, h2⟩ | ⟨h1, _⟩ | ⟨h1, _⟩
        · exact ⟨n, h1, h2⟩
        · exact absurd h1 (by decide)
        · exact absurd h1 (by decide)
      have hs1 : ∀ z : Sto, opSubs (.p (Tm.lf "name" (.str n)).py) (.p (.int 1)) z = .ok (.p (.str n)) z := fun z => subs_t1
      have hin := fun z : Sto => in_nms (S := z) (neg := false) (n := n) (h := h)
      by_cases hnh : n ∈ h
      · simp [hsub, hs1, hin, hnh, hm0, fr]
      · simp [hsub, hs1, hin, hnh, hm1, fr]
    · have hnl : ∀ d, t ≠ .lf "name" d := fun d hd => hwn (hw.mpr ⟨d, hd⟩)
      have hpl : F P (k + 2) .f_parts_l [.p t.py] S = .ok (.p (.list (t.pb.map fun q => .tuple [q.1.py, nms q.2]))) S := pl_ok (by omega) (gd_wk ht.1)
      have hll : t.pb.length ≤ 1000000 := by have := pb_len t; omega
      have hfl := fr_len (t := t) (h := h)
      have hnd := nd_121 ht
      rw [fr_eq hnl] at hfl ⊢
      have hlc : lcD (gTupD 2 (gConss (gN 2) (gConss (gN 3) gNils))) tYesD (eCallX 2 (F P (k + 2) .f_free_l) (aCons (eVar 2) (aCons (e2 opAddX (eVar 1) (eVar 3)) aNil))) [some (.p t.py), some (.p (nms h)), none, none] (t.pb.map fun q => D.p (.tuple [q.1.py, nms q.2])) S = .ok (t.pb.map fun q => .list ((fr (h ++ q.2) q.1).map .str)) S := by
        refine lcD_on (fun q : Tm × List Str => .tuple [q.1.py, nms q.2]) (fun q => .list ((fr (h ++ q.2) q.1).map .str)) fun q hq => ⟨[some (.p t.py), some (.p (nms h)), some (.p q.1.py), some (.p (nms q.2))], by simp [gTupD, gConss, gNils], ?_⟩
        obtain ⟨u, o⟩ := q
        have hdu := pb_dep hq
        have hx := (pb_gd ht.1 hq).2.2.2
        have hadd : ∀ z : Sto, opAddX (.p (nms h)) (.p (nms o)) z = .ok (.p (nms (h ++ o))) z := fun z => add_nms (by omega)
        have ih := fl_ok m (k := k + 2) (t := u) (h := h ++ o) (S := S) (by omega) (by omega) (by omega) (okT_pb ht hq) (by simp; omega)
        simp [hadd, ih, hc]
      have hsum : sumLM [.p (.list (t.pb.map fun q => .list ((fr (h ++ q.2) q.1).map .str))), .p (.list [])] S = .ok (.p (.list ((frS h t.pb).map .str))) S := by
        have e1 : (t.pb.map fun q => (fr (h ++ q.2) q.1).map PyData.str).flatten = (frS h t.pb).map .str := by simp [frS, List.flatMap_def, List.map_flatten, Function.comp_def]
        simp only [sumLM, lstOf, lsts_map (fun q : Tm × List Str => (fr (h ++ q.2) q.1).map PyData.str), e1]
        rw [if_pos (by simp [LIM]; omega)]
        simp
      have hmm : (t.pb.map fun q => PyData.tuple [q.1.py, nms q.2]).map D.p = t.pb.map fun q => D.p (.tuple [q.1.py, nms q.2]) := by simp
      simp [-List.map_map, hsub, hwn, hpl, hc, LIM, hll]
      rw [hmm]
      refine wp_of hlc ?_
      simp [-List.map_map, finL, hm0, hsum]
theorem free_ok {k : Nat} (hk : 18 ≤ k) {t : Tm} (ht : okT N t) : F P k .f_free_l [.p t.py, .p (.tuple [])] S = .ok (.p (.list ((fr [] t).map .str))) S := fl_ok (N := N) 5 (h := []) ht.2 (by omega) (by omega) ht (by simp)
end K02
namespace K02
open PySem L2 DL
variable {P : Nat → Addr} {S : Sto}
def LET : Str := "abcdefghijklmnopqrstuvwxyz"
def WL : List PyData := [(.str "data"), (.str "role"), (.str "case"), (.str "define"), (.str "derive"), (.str "picks"), (.str "above"), (.str "settles"), (.str "member"), (.str "as"), (.str "if"), (.str "given"), (.str "let"), (.str "and"), (.str "in"), (.str "match"), (.str "end")]
def allL (x : Str) : Bool := x.cps.toList.all fun c => inStr ⟨#[c]⟩ LET
def wordB (x : Str) : Bool := decide (1 ≤ x.length) && decide (x.length ≤ 8) && allL x
def nameB : PyData → Bool
  | .str x => wordB x && !inP (.str x) WL
  | _ => false
theorem bools_map {α : Type} (f : α → Bool) : ∀ l : List α, bools (l.map fun c => PyData.bool (f c)) = some (l.map f)
  | [] => rfl
  | a :: l => by simp [bools, bools_map f l]
theorem WL_flat : WL.all flatP = true := rfl
theorem F_iw (k : Nat) : F P (k + 3) .f_is_word = runF 2 (b_f_is_word (F P (k + 2))) := rfl
theorem F_in (k : Nat) : F P (k + 3) .f_is_name = runF 1 (b_f_is_name (F P (k + 2))) := rfl
theorem F_nl (k : Nat) : F P (k + 3) .f_is_named_l = runF 3 (b_f_is_named_l (F P (k + 2))) := rfl
theorem word_s {k : Nat} (hk : 3 ≤ k) {x : Str} (h : x.length ≤ LIM) : F P k .f_is_word [.p (.str x)] S = .ok (.p (.bool (wordB x))) S := by
  obtain ⟨k, rfl⟩ := k3 hk
  rw [F_iw]
  refine run_ret (m := 2) ?_
  show b_f_is_word (F P (k + 2)) [some (.p (.str x)), none] S = _
  unfold b_f_is_word f_is_word_1
  have hl : x.cps.size ≤ LIM := h
  have lc : lcD (gN 1) tYesD (e2 (opInX false) (eVar 1) (eC (.p g_LETTERS))) [some (.p (.str x)), none] (x.cps.toList.map fun c => D.p (.str ⟨#[c]⟩)) S = .ok ((x.cps.toList.map fun c => D.p (.str ⟨#[c]⟩)).map fun d => match d with | .p (.str c) => .bool (inStr c LET) | _ => .none) S := by
    refine lcD_map _ fun d hd => ?_
    obtain ⟨c, _, rfl⟩ := List.mem_map.mp hd
    exact ⟨_, rfl, rfl⟩
  have e1 : ((x.cps.toList.map fun c => D.p (.str ⟨#[c]⟩)).map fun d => match d with | .p (.str c) => PyData.bool (inStr c LET) | _ => .none) = x.cps.toList.map fun c => PyData.bool (inStr ⟨#[c]⟩ LET) := by
    rw [List.map_map]; rfl
  rw [e1] at lc
  have e2 := bools_map (fun c => inStr ⟨#[c]⟩ LET) x.cps.toList
  by_cases c1 : 1 ≤ x.length
  · by_cases c2 : x.length ≤ 8
    · have d1 : (1 : Int) ≤ (x.length : Int) := by omega
      have d2 : (x.length : Int) ≤ 8 := by omega
      simp [sSeq_, isT, lenM_s h, g_LONGEST, d1, d2, hl, lc, allM, lstOf, e2, wordB, c1, c2, allL]
    · have d1 : (1 : Int) ≤ (x.length : Int) := by omega
      have d2 : ¬ (x.length : Int) ≤ 8 := by omega
      simp [sSeq_, isT, lenM_s h, g_LONGEST, d1, d2, wordB, c1, c2]
  · have d1 : ¬ (1 : Int) ≤ (x.length : Int) := by omega
    simp [sSeq_, isT, lenM_s h, g_LONGEST, d1, wordB, c1]
theorem word_o {k : Nat} (hk : 3 ≤ k) {d : PyData} (h : isT .str d = false) : F P k .f_is_word [.p d] S = .ok (.p (.bool false)) S := by
  obtain ⟨k, rfl⟩ := k3 hk
  rw [F_iw]
  refine run_ret (m := 2) ?_
  show b_f_is_word (F P (k + 2)) [some (.p d), none] S = _
  unfold b_f_is_word f_is_word_1
  simp [sSeq_, h]
theorem isT_str {d : PyData} (h : isT .str d = true) : ∃ x, d = .str x := by
  cases d with
  | str x => exact ⟨x, rfl⟩
  | _ => simp [isT] at h
/-- texts are not too long -/
def sOk : PyData → Prop
  | .str x => x.length ≤ 1000 ∧ PyData.strOk x = true
  | _ => True
theorem name_ok {k : Nat} (hk : 5 ≤ k) {d : PyData} (hd : sOk d) : F P k .f_is_name [.p d] S = .ok (.p (.bool (nameB d))) S := by
  obtain ⟨k, rfl⟩ := k3 (k := k) (by omega)
  rw [F_in]
  refine run_ret (m := 1) ?_
  show b_f_is_name (F P (k + 2)) [some (.p d)] S = _
  unfold b_f_is_name
  by_cases h : isT .str d = true
  · obtain ⟨x, rfl⟩ := isT_str h
    have hx : x.length ≤ LIM := by have : x.length ≤ 1000 := hd.1; simp only [LIM]; omega
    simp [sSeq_, word_s (P := P) (S := S) (k := k + 2) (by omega) hx]
    have e : opInX true (.p (.str x)) (.p g_WORDS) S = .ok (.p (.bool (!inP (.str x) WL))) S := inX_t (neg := true) (a := .str x) (xs := WL) rfl WL_flat
    by_cases c : wordB x = true
    · simp [sSeq_, c, e, nameB]
    · simp [sSeq_, c, nameB]
  · have h : isT .str d = false := by simpa using h
    have e : nameB d = false := by cases d <;> first | rfl | (simp [isT] at h)
    simp [sSeq_, word_o (P := P) (S := S) (k := k + 2) (by omega) h, e]
theorem lcD_filter {g : FG} {t : FT} {e : FE} {ρ : Ev} {S : Sto} (p : PyData → Bool) : ∀ {xs : List PyData}, (∀ x ∈ xs, ∃ ρ1, g (.p x) ρ S = some (ρ1, S) ∧ t ρ1 S = .ok (p x) S ∧ e ρ1 S = .ok (.p x) S) → lcD g t e ρ (xs.map D.p) S = .ok (xs.filter p) S
  | [], _ => rfl
  | x :: r, H => by
    obtain ⟨ρ1, h1, h2, h3⟩ := H x (by simp)
    have ih := lcD_filter p (xs := r) (g := g) (t := t) (e := e) (ρ := ρ) (S := S) fun y hy => H y (by simp [hy])
    rw [List.map_cons]
    unfold lcD
    cases hp : p x with
    | true => simp [h1, h2, h3, ih, hp]
    | false => simp [h1, h2, h3, ih, hp]
def sgns (x : Str) : List PyData := x.cps.toList.map fun c => .str ⟨#[c]⟩
theorem filter_nil {α : Type} (p : α → Bool) : ∀ l : List α, (l.filter fun x => !p x).isEmpty = l.all p
  | [] => rfl
  | x :: r => by
    have ih := filter_nil p r
    cases h : p x <;> simp [h] <;> simpa using ih
theorem eqE_l {xs : List PyData} : opEqE (.p (.list xs)) (.p (.list [])) S = .ok (.p (.bool xs.isEmpty)) S := rfl
set_option maxHeartbeats 1000000 in
theorem named_ok {k : Nat} (hk : 3 ≤ k) {d : PyData} (hd : sOk d) : F P k .f_is_named_l [.p d] S = .ok (.p (.bool (nameB d))) S := by
  obtain ⟨k, rfl⟩ := k3 hk
  rw [F_nl]
  refine run_ret (m := 3) ?_
  show b_f_is_named_l (F P (k + 2)) [some (.p d), none, none] S = _
  unfold b_f_is_named_l f_is_named_l_1
  have hml : ∀ z : Sto, mkLst [.p (.str "data"), .p (.str "role"), .p (.str "case"), .p (.str "define"), .p (.str "derive"), .p (.str "picks"), .p (.str "above"), .p (.str "settles"), .p (.str "member"), .p (.str "as"), .p (.str "if"), .p (.str "given")] z = .ok (.p (.list (WL.take 12))) z := fun z => rfl
  have hml2 : ∀ z : Sto, mkLst [.p (.str "let"), .p (.str "and"), .p (.str "in"), .p (.str "match"), .p (.str "end")] z = .ok (.p (.list (WL.drop 12))) z := fun z => rfl
  have hadd : ∀ z : Sto, opAddX (.p (.list (WL.take 12))) (.p (.list (WL.drop 12))) z = .ok (.p (.list WL)) z := fun z => rfl
  have hm0 : ∀ z : Sto, mkLst [] z = .ok (.p (.list [])) z := fun z => rfl
  by_cases h : isT .str d = true
  · obtain ⟨x, rfl⟩ := isT_str h
    have hx : x.length ≤ LIM := by have : x.length ≤ 1000 := hd.1; simp only [LIM]; omega
    have hl : x.cps.size ≤ LIM := hx
    have hin : ∀ z : Sto, opInX false (.p (.str x)) (.p (.list WL)) z = .ok (.p (.bool (inP (.str x) WL))) z := fun z => inX_l (neg := false) rfl WL_flat
    have lc : lcD (gN 2) (tC2 (opInX true) (eVar 2) (eC (.p (.str "abcdefghijklmnopqrstuvwxyz")))) (eVar 2) [some (.p (.str x)), some (.p (.list (WL.take 12))), none] ((sgns x).map D.p) S = .ok ((sgns x).filter fun y => !(match y with | .str c => inStr c LET | _ => false)) S := by
      refine lcD_filter _ fun y hy => ?_
      obtain ⟨c, _, rfl⟩ := List.mem_map.mp hy
      exact ⟨_, rfl, rfl, rfl⟩
    have hs : (x.cps.toList.map fun c => D.p (.str ⟨#[c]⟩)) = (sgns x).map D.p := by simp [sgns]
    have hall : (sgns x).all (fun y => match y with | .str c => inStr c LET | _ => false) = allL x := by simp [sgns, allL, Function.comp_def]
    have hfil := filter_nil (fun y : PyData => match y with | .str c => inStr c LET | _ => false) (sgns x)
    rw [hall] at hfil
    have hl' : (sgns x).length ≤ LIM := by simpa [sgns] using hl
    cases hi : inP (.str x) WL with
    | true => simp [sSeq_, hml, hml2, hadd, hin, isT, hi, nameB]
    | false =>
      by_cases c1 : 1 ≤ x.length
      · by_cases c2 : x.length ≤ 8
        · have d1 : (1 : Int) ≤ (x.length : Int) := by omega
          have d2 : (x.length : Int) ≤ 8 := by omega
          simp [-List.map_map, sSeq_, hml, hml2, hadd, hin, isT, hi, nameB, lenM_s hx, d1, d2, hl, hl', hs, lc, hm0, eqE_l, hfil, wordB, c1, c2, finL]
        · have d1 : (1 : Int) ≤ (x.length : Int) := by omega
          have d2 : ¬ (x.length : Int) ≤ 8 := by omega
          simp [sSeq_, hml, hml2, hadd, hin, isT, hi, nameB, lenM_s hx, d1, d2, wordB, c1, c2]
      · have d1 : ¬ (1 : Int) ≤ (x.length : Int) := by omega
        simp [sSeq_, hml, hml2, hadd, hin, isT, hi, nameB, lenM_s hx, d1, wordB, c1]
  · have h : isT .str d = false := by simpa using h
    have e : nameB d = false := by cases d <;> first | rfl | (simp [isT] at h)
    simp [sSeq_, hml, h, e]
theorem nameB_all : wordsAll.all (fun n => nameB (.str n)) = true := by decide +kernel
theorem Wd.nm {n : Str} (h : Wd n) : nameB (.str n) = true := wd_all nameB_all h
theorem nameB_str {d : PyData} (h : nameB d = true) : ∃ x, d = .str x ∧ x.length ≤ 8 := by
  cases d <;> simp [nameB] at h
  rename_i x
  simp only [wordB, Bool.and_eq_true, decide_eq_true_eq] at h
  exact ⟨x, rfl, h.1.1.2⟩
end K02
namespace K02
open PySem L2 DL
variable {P : Nat → Addr} {S : Sto}
def lnS (xs : List PyData) : Nat := match strsP xs with
  | some zs => (SS.dedS zs).length
  | none => 0
def namesB : PyData → Bool
  | .tuple xs => xs.all nameB && decide (lnS xs = xs.length)
  | _ => false
theorem allM_map {α : Type} (f : α → Bool) (l : List α) : allM false [.p (.list (l.map fun c => PyData.bool (f c)))] S = .ok (.p (.bool (l.all f))) S := by
  simp [allM, lstOf, bools_map, Function.comp_def]
theorem lcD_pt {g : FG} {e : FE} {ρ : Ev} (h : PyData → PyData) {xs : List PyData} (H : ∀ x ∈ xs, ∃ ρ1, g (.p x) ρ S = some (ρ1, S) ∧ e ρ1 S = .ok (.p (h x)) S) : lcD g tYesD e ρ (xs.map D.p) S = .ok (xs.map h) S := lcD_on (fun x => x) h H
theorem cut1 {x : PyData} : cutX S.length (.ok (.p x) S) = .ok (.p x) S := by simp [cutX]
theorem names_strs : ∀ {xs : List PyData}, xs.all nameB = true → ∃ zs, strsP xs = some zs ∧ zs.length = xs.length
  | [], _ => ⟨[], rfl, rfl⟩
  | x :: r, h => by
    simp only [List.all_cons, Bool.and_eq_true] at h
    obtain ⟨z, rfl, _⟩ := nameB_str h.1
    obtain ⟨zs, e, hl⟩ := names_strs h.2
    exact ⟨z :: zs, by simp [strsP, e], by simp [hl]⟩
theorem lenSet_ok {xs : List PyData} (h : xs.all nameB = true) (hl : xs.length ≤ 1000) : lenSetM (.p (.tuple xs)) S = .ok (.p (.int (lnS xs : Nat))) S := by
  obtain ⟨zs, e, hz⟩ := names_strs h
  have hz' : zs.length ≤ 1000 := by omega
  simp [lenSetM, setLenD, e, lnS, hz']
theorem F_an (k : Nat) : F P (k + 3) .f_are_names = runF 2 (b_f_are_names (F P (k + 2))) := rfl
theorem F_al (k : Nat) : F P (k + 3) .f_are_named_l = runF 2 (b_f_are_named_l (F P (k + 2))) := rfl
theorem beqN {a b : Nat} : (((a : Nat) : Int) == ((b : Nat) : Int)) = decide (a = b) := by
  by_cases h : a = b
  · subst h; simp
  · have : ¬ ((a : Int) = b) := by omega
    simp [h, this]
theorem lenT {xs : List PyData} : lenM [.p (.tuple xs)] S = .ok (.p (.int (xs.length : Nat))) S := by simp [lenM, seqOf]
set_option maxHeartbeats 1000000 in
theorem names_ok {k : Nat} (hk : 6 ≤ k) {d : PyData} (hd : ∀ xs, d = .tuple xs → xs.length ≤ 1000 ∧ ∀ y ∈ xs, sOk y) : F P k .f_are_names [.p d] S = .ok (.p (.bool (namesB d))) S := by
  obtain ⟨k, rfl⟩ := k3 (k := k) (by omega)
  rw [F_an]
  refine run_ret (m := 2) ?_
  show b_f_are_names (F P (k + 2)) [some (.p d), none] S = _
  unfold b_f_are_names f_are_names_1
  cases d with
  | tuple xs =>
    obtain ⟨hl, hy⟩ := hd xs rfl
    have lc : lcD (gN 1) tYesD (eCallX 1 (F P (k + 2) .f_is_name) (aCons (eVar 1) aNil)) [some (.p (.tuple xs)), none] (xs.map D.p) S = .ok (xs.map fun y => .bool (nameB y)) S :=
      lcD_pt (fun y => .bool (nameB y)) fun y hym => ⟨[some (.p (.tuple xs)), some (.p y)], rfl, by
        have h1 := name_ok (P := P) (S := S) (k := k + 2) (by omega) (hy y hym)
        simp [h1, cut1]⟩
    have hlL : xs.length ≤ LIM := by simp only [LIM]; omega
    cases hb : xs.all nameB with
    | false => simp [sSeq_, isT, hlL, lc, finL, allM_map, hb, namesB]
    | true => simp [sSeq_, isT, hlL, lc, finL, allM_map, hb, namesB, lenSet_ok hb hl, lenT, beqN]
  | _ => simp [sSeq_, isT, namesB]
set_option maxHeartbeats 1000000 in
theorem namesl_ok {k : Nat} (hk : 6 ≤ k) {d : PyData} (hd : ∀ xs, d = .tuple xs → xs.length ≤ 1000 ∧ ∀ y ∈ xs, sOk y) : F P k .f_are_named_l [.p d] S = .ok (.p (.bool (namesB d))) S := by
  obtain ⟨k, rfl⟩ := k3 (k := k) (by omega)
  rw [F_al]
  refine run_ret (m := 2) ?_
  show b_f_are_named_l (F P (k + 2)) [some (.p d), none] S = _
  unfold b_f_are_named_l
  have hm0 : ∀ z : Sto, mkLst [] z = .ok (.p (.list [])) z := fun z => rfl
  cases d with
  | tuple xs =>
    obtain ⟨hl, hy⟩ := hd xs rfl
    have lc : lcD (gN 1) (tNotD (tVal (eCallX 1 (F P (k + 2) .f_is_named_l) (aCons (eVar 1) aNil)))) (eVar 1) [some (.p (.tuple xs)), none] (xs.map D.p) S = .ok (xs.filter fun y => !nameB y) S :=
      lcD_filter (fun y => !nameB y) fun y hym => ⟨[some (.p (.tuple xs)), some (.p y)], rfl, by
        have h1 := named_ok (P := P) (S := S) (k := k + 2) (by omega) (hy y hym)
        simp [h1, cut1], rfl⟩
    have hlL : xs.length ≤ LIM := by simp only [LIM]; omega
    have hf := filter_nil nameB xs
    cases hb : xs.all nameB with
    | false =>
      rw [hb] at hf
      simp [sSeq_, isT, hlL, lc, finL, hb, namesB, hm0, eqE_l, hf]
    | true =>
      rw [hb] at hf
      simp [sSeq_, isT, hlL, lc, finL, hb, namesB, hm0, eqE_l, hf, lenSet_ok hb hl, lenT, beqN]
  | _ => simp [sSeq_, isT, namesB]
def wholeB : PyData → Bool
  | .int i => decide (-(10 ^ 30) ≤ i) && decide (i ≤ 10 ^ 30)
  | _ => false
def leS (a b : Str) : Bool := !decide (b.cps.toList < a.cps.toList)
def sgB (c : Nat) : Bool := leS " " ⟨#[c]⟩ && leS ⟨#[c]⟩ "~" && !(((c : Nat) : Int) == 37)
def textB : PyData → Bool
  | .str x => decide (x.length ≤ 200) && x.cps.toList.all sgB
  | _ => false
theorem F_whole (k : Nat) : F P (k + 3) .f_is_whole = runF 1 (b_f_is_whole (F P (k + 2))) := rfl
theorem F_text (k : Nat) : F P (k + 3) .f_is_text = runF 2 (b_f_is_text (F P (k + 2))) := rfl
theorem F_leaf (k : Nat) : F P (k + 3) .f_is_leaf_l = runF 2 (b_f_is_leaf_l (F P (k + 2))) := rfl
theorem leX_i {a b : Int} : opLeX (.p (.int a)) (.p (.int b)) S = .ok (.p (.bool (decide (a ≤ b)))) S := rfl
theorem ord1 {c : Nat} : ordM [.p (.str ⟨#[c]⟩)] S = .ok (.p (.int (c : Nat))) S := rfl
theorem whole_ok {k : Nat} (hk : 3 ≤ k) {d : PyData} : F P k .f_is_whole [.p d] S = .ok (.p (.bool (wholeB d))) S := by
  obtain ⟨k, rfl⟩ := k3 hk
  rw [F_whole]
  refine run_ret (m := 1) ?_
  show b_f_is_whole (F P (k + 2)) [some (.p d)] S = _
  unfold b_f_is_whole
  cases d with
  | int i =>
    have hn : opNeg (.p g_BOUND) S = .ok (.p (.int (-(10 ^ 30)))) S := rfl
    have hg : g_BOUND = .int (10 ^ 30) := rfl
    have hp : (10 : Int) ^ 30 = 1000000000000000000000000000000 := rfl
    by_cases c1 : -1000000000000000000000000000000 ≤ i
    · simp [isT, hn, leX_i, hg, wholeB, c1, hp]
    · simp [isT, hn, leX_i, hg, wholeB, c1, hp]
  | _ => simp [isT, wholeB]
theorem lenS {x : Str} (h : x.length ≤ 1000) : lenM [.p (.str x)] S = .ok (.p (.int (x.length : Nat))) S := lenM_s (by simp only [LIM]; omega)
def sgP : PyData → Bool
  | .str s => sgB (s.cps.getD 0 0)
  | _ => false
theorem sgP1 {c : Nat} : sgP (.str ⟨#[c]⟩) = sgB c := rfl
theorem sg_all {x : Str} : (sgns x).all sgP = x.cps.toList.all sgB := by simp [sgns, Function.comp_def, sgP1]
set_option maxHeartbeats 1000000 in
theorem text_ok {k : Nat} (hk : 3 ≤ k) {d : PyData} (hd : sOk d) : F P k .f_is_text [.p d] S = .ok (.p (.bool (textB d))) S := by
  obtain ⟨k, rfl⟩ := k3 hk
  rw [F_text]
  refine run_ret (m := 2) ?_
  show b_f_is_text (F P (k + 2)) [some (.p d), none] S = _
  unfold b_f_is_text f_is_text_1
  cases d with
  | str x =>
    have hx : x.length ≤ 1000 := hd.1
    have hl : x.cps.size ≤ LIM := by have : x.cps.size ≤ 1000 := hx; simp only [LIM]; omega
    have hl' : (sgns x).length ≤ LIM := by simpa [sgns] using hl
    have hs : (x.cps.toList.map fun c => D.p (.str ⟨#[c]⟩)) = (sgns x).map D.p := by simp [sgns]
    have lc : lcD (gN 1) tYesD (eAnd (eChain opLeX opLeX (eC (.p (.str " "))) (eVar 1) (eC (.p (.str "~")))) (e2 (opEqZ true) (eA ordM (aCons (eVar 1) aNil)) (eC (.p (.int 37))))) [some (.p (.str x)), none] ((sgns x).map D.p) S = .ok ((sgns x).map fun y => .bool (sgP y)) S :=
      lcD_pt (fun y => .bool (sgP y)) fun y hy => by
        obtain ⟨c, _, rfl⟩ := List.mem_map.mp hy
        refine ⟨[some (.p (.str x)), some (.p (.str ⟨#[c]⟩))], rfl, ?_⟩
        rw [sgP1]
        unfold sgB
        cases h1 : leS " " ⟨#[c]⟩ with
        | false =>
          have h1' : (!decide (([c] : List Nat) < (Str.ofString " ").cps.toList)) = false := h1
          simp [h1']
        | true => cases h2 : leS ⟨#[c]⟩ "~" with
          | false =>
            have h1' : (!decide (([c] : List Nat) < (Str.ofString " ").cps.toList)) = true := h1
            have h2' : (!decide ((Str.ofString "~").cps.toList < ([c] : List Nat))) = false := h2
            simp [h1', h2']
          | true =>
            have h1' : (!decide (([c] : List Nat) < (Str.ofString " ").cps.toList)) = true := h1
            have h2' : (!decide ((Str.ofString "~").cps.toList < ([c] : List Nat))) = true := h2
            simp [h1', h2', ord1]
    have hg : opGt (.p (.int (x.length : Nat))) (.p g_MOST_CHARACTERS) S = .ok (.p (.bool (decide ((x.length : Int) > 200)))) S := rfl
    by_cases c : x.length ≤ 200
    · have c' : ¬ ((x.length : Int) > 200) := by omega
      simp [-List.map_map, sSeq_, isT, lenS hx, hg, c', hl, hl', hs, lc, finL, allM_map, sg_all, textB, c]
    · have c' : (x.length : Int) > 200 := by omega
      simp [-List.map_map, sSeq_, isT, lenS hx, hg, c', textB, c]
  | _ => simp [sSeq_, isT, textB]
def leafB (w : Str) (y : PyData) : Bool := if w = "name" then nameB y else if w = "whole" then wholeB y else if w = "text" then textB y else false
set_option maxHeartbeats 2000000 in
theorem leaf_ok {k : Nat} (hk : 6 ≤ k) {w : Str} {y : PyData} (hy : sOk y) : F P k .f_is_leaf_l [.p (.tuple [.str w, y])] S = .ok (.p (.bool (leafB w y))) S := by
  obtain ⟨k, rfl⟩ := k3 (k := k) (by omega)
  rw [F_leaf]
  refine run_ret (m := 2) ?_
  show b_f_is_leaf_l (F P (k + 2)) [some (.p (.tuple [.str w, y])), none] S = _
  unfold b_f_is_leaf_l f_is_leaf_l_3 f_is_leaf_l_2 f_is_leaf_l_1
  unfold leafB
  by_cases h1 : w = "name"
  · have e := named_ok (P := P) (S := S) (k := k + 2) (by omega) hy
    subst h1
    simp [sSeq_, e, cut1]
  by_cases h2 : w = "whole"
  · subst h2
    cases y with
    | int i =>
      have hp : (10 : Int) ^ 30 = 1000000000000000000000000000000 := rfl
      have ha : absM [.p (.int i)] S = .ok (.p (.int (if i < 0 then -i else i))) S := rfl
      have hpw : opPow (.p (.int 10)) (.p (.int 30)) S = .ok (.p (.int (10 ^ 30))) S := rfl
      have hd : decide ((if i < 0 then -i else i) ≤ (10 : Int) ^ 30) = wholeB (.int i) := by
        unfold wholeB
        rw [hp]
        by_cases hi : i < 0
        · rw [if_pos hi]
          by_cases c : -i ≤ 1000000000000000000000000000000
          · have c2 : -1000000000000000000000000000000 ≤ i := by omega
            have c3 : i ≤ 1000000000000000000000000000000 := by omega
            simp [c, c2, c3]
          · have c2 : ¬ (-1000000000000000000000000000000 ≤ i) := by omega
            simp [c, c2]
        · rw [if_neg hi]
          have c2 : -1000000000000000000000000000000 ≤ i := by omega
          simp [c2]
      rw [hp] at hd
      simp [sSeq_, isT, ha, hpw, leX_i, hd]
    | _ => simp [sSeq_, isT, wholeB]
  by_cases h3 : w = "text"
  · subst h3
    cases y with
    | str x =>
      have hx : x.length ≤ 1000 := hy.1
      have hl : x.cps.size ≤ LIM := by have : x.cps.size ≤ 1000 := hx; simp only [LIM]; omega
      have hl' : (sgns x).length ≤ LIM := by simpa [sgns] using hl
      have hs : (x.cps.toList.map fun c => D.p (.str ⟨#[c]⟩)) = (sgns x).map D.p := by simp [sgns]
      have hm0 : ∀ z : Sto, mkLst [] z = .ok (.p (.list [])) z := fun z => rfl
      have lc : lcD (gN 1) (tOrD (tNotD (tChain opLeX opLeX (eC (.p (.str " "))) (eVar 1) (eC (.p (.str "~"))))) (tC2 (opEqZ false) (eA ordM (aCons (eVar 1) aNil)) (eC (.p (.int 37))))) (eVar 1) [some (.p (.tuple [.str "text", .str x])), none] ((sgns x).map D.p) S = .ok ((sgns x).filter fun y => !sgP y) S :=
        lcD_filter (fun y => !sgP y) fun y hy => by
          obtain ⟨c, _, rfl⟩ := List.mem_map.mp hy
          refine ⟨[some (.p (.tuple [.str "text", .str x])), some (.p (.str ⟨#[c]⟩))], rfl, ?_, rfl⟩
          rw [sgP1]
          unfold sgB
          cases h1 : leS " " ⟨#[c]⟩ with
          | false =>
            have h1' : (!decide (([c] : List Nat) < (Str.ofString " ").cps.toList)) = false := h1
            simp [h1']
          | true => cases h2 : leS ⟨#[c]⟩ "~" with
            | false =>
              have h1' : (!decide (([c] : List Nat) < (Str.ofString " ").cps.toList)) = true := h1
              have h2' : (!decide ((Str.ofString "~").cps.toList < ([c] : List Nat))) = false := h2
              simp [h1', h2']
            | true =>
              have h1' : (!decide (([c] : List Nat) < (Str.ofString " ").cps.toList)) = true := h1
              have h2' : (!decide ((Str.ofString "~").cps.toList < ([c] : List Nat))) = true := h2
              simp [h1', h2', ord1]
      have hf := filter_nil sgP (sgns x)
      rw [sg_all] at hf
      have hg : opGt (.p (.int (x.length : Nat))) (.p (.int 200)) S = .ok (.p (.bool (decide ((x.length : Int) > 200)))) S := rfl
      by_cases c : x.length ≤ 200
      · have c' : ¬ ((x.length : Int) > 200) := by omega
        simp [-List.map_map, sSeq_, isT, lenS hx, hg, c', hl, hl', hs, lc, finL, hm0, eqE_l, hf, textB, c]
      · have c' : (x.length : Int) > 200 := by omega
        simp [-List.map_map, sSeq_, isT, lenS hx, hg, c', textB, c]
    | _ => simp [sSeq_, isT, textB]
  · have n1 : (w == "name") = false := by simpa using h1
    have n2 : (w == "whole") = false := by simpa using h2
    have n3 : (w == "text") = false := by simpa using h3
    simp [sSeq_, n1, n2, n3, h1, h2, h3]
end K02
namespace K02
open PySem L2 DL
variable {P : Nat → Addr} {S : Sto}
def Sn : Nat → PyData → Prop
  | 0, _ => False
  | n + 1, .tuple xs => xs.length ≤ 1000 ∧ ∀ y ∈ xs, Sn n y
  | _ + 1, x => sOk x
theorem Sn.s {n : Nat} {x : PyData} (h : Sn n x) : sOk x := by
  cases n with
  | zero => exact h.elim
  | succ n => cases x <;> first | exact h | trivial
theorem Sn.tup {n : Nat} {xs : List PyData} (h : Sn n (.tuple xs)) : ∃ m, n = m + 1 ∧ xs.length ≤ 1000 ∧ ∀ y ∈ xs, Sn m y := by
  cases n with
  | zero => exact h.elim
  | succ n => exact ⟨n, rfl, h.1, h.2⟩
theorem Sn.mono : ∀ {n : Nat} {x : PyData}, Sn n x → Sn (n + 1) x
  | 0, _, h => h.elim
  | n + 1, x, h => by
    cases x with
    | tuple xs => exact ⟨h.1, fun y hy => (h.2 y hy).mono⟩
    | _ => exact h
theorem Sn.up {n m : Nat} {x : PyData} (h : Sn n x) (hm : n ≤ m) : Sn m x := by
  induction hm with
  | refl => exact h
  | step _ ih => exact ih.mono
theorem Sn.nms {n : Nat} {x : PyData} (h : Sn n x) : ∀ xs, x = .tuple xs → xs.length ≤ 1000 ∧ ∀ y ∈ xs, sOk y := fun xs e => by
  subst e
  obtain ⟨m, _, h1, h2⟩ := h.tup
  exact ⟨h1, fun y hy => (h2 y hy).s⟩
def isTup2 : PyData → Bool
  | .tuple xs => (xs.length : Int) == 2
  | _ => false
def isTup3 : PyData → Bool
  | .tuple xs => (xs.length : Int) == 3
  | _ => false
def fstP : PyData → PyData
  | .tuple (a :: _) => a
  | _ => .none
def sndP : PyData → PyData
  | .tuple (_ :: b :: _) => b
  | _ => .none
def trdP : PyData → PyData
  | .tuple (_ :: _ :: c :: _) => c
  | _ => .none
theorem tup2 {y : PyData} (h : isTup2 y = true) : ∃ a b, y = .tuple [a, b] := by
  cases y with
  | tuple xs =>
    have h : ((xs.length : Int) == 2) = true := h
    simp only [beq_iff_eq] at h
    match xs, h with
    | [a, b], _ => exact ⟨a, b, rfl⟩
    | [], h => simp at h
    | [_], h => simp at h
    | _ :: _ :: _ :: _, h => simp at h; omega
  | _ => simp [isTup2] at h
theorem tup3 {y : PyData} (h : isTup3 y = true) : ∃ a b c, y = .tuple [a, b, c] := by
  cases y with
  | tuple xs =>
    have h : ((xs.length : Int) == 3) = true := h
    simp only [beq_iff_eq] at h
    match xs, h with
    | [a, b, c], _ => exact ⟨a, b, c, rfl⟩
    | [], h => simp at h
    | [_], h => simp at h
    | [_, _], h => simp at h
    | _ :: _ :: _ :: _ :: _, h => simp at h; omega
  | _ => simp [isTup3] at h
def bindB (f : PyData → Bool) : PyData → Bool
  | .tuple xs => !xs.isEmpty && (xs.all isTup2 && (namesB (.tuple (xs.map fstP)) && xs.all fun y => f (sndP y)))
  | _ => false
def armHd (y : PyData) : Bool := isTup3 y && (nameB (fstP y) && namesB (sndP y))
def armsB (f : PyData → Bool) : PyData → Bool
  | .tuple xs => !xs.isEmpty && (xs.all armHd && xs.all fun y => f (trdP y))
  | _ => false
def termB : Nat → PyData → Bool
  | 0, _ => false
  | _ + 1, .tuple [.str w] => w == "hole"
  | _ + 1, .tuple [.str w, y] => leafB w y
  | n + 1, .tuple [.str w, a, b] => if w = "use" then termB n a && termB n b else if w = "given" then nameB a && termB n b else if w = "let" then bindB (termB n) a && termB n b else (w == "match") && (termB n a && armsB (termB n) b)
  | _, _ => false
theorem F_bind (k : Nat) : F P (k + 3) .f_are_bindings = runF 2 (b_f_are_bindings (F P (k + 2))) := rfl
theorem F_arms (k : Nat) : F P (k + 3) .f_are_arms = runF 2 (b_f_are_arms (F P (k + 2))) := rfl
theorem F_term (k : Nat) : F P (k + 3) .f_is_term = runF 5 (b_f_is_term (F P (k + 2))) := rfl
theorem mk0 : mkTup [] S = .ok (.p (.tuple [])) S := by simp [mkTup, LIM, pys]
theorem LIMn {n : Nat} (h : n ≤ 1000) : n ≤ LIM := by simp only [LIM]; omega
theorem tupX {xs : List PyData} : tupleXM [.p (.list xs)] S = .ok (.p (.tuple xs)) S := rfl
set_option maxHeartbeats 1000000 in
theorem bind_ok {k n : Nat} (hk : 6 ≤ k) (it : ∀ y, Sn n y → F P (k + 2) .f_is_term [.p y] S = .ok (.p (.bool (termB n y))) S) {a : PyData} (ha : Sn n a) : F P (k + 3) .f_are_bindings [.p a] S = .ok (.p (.bool (bindB (termB n) a))) S := by
  rw [F_bind]
  refine run_ret (m := 2) ?_
  show b_f_are_bindings (F P (k + 2)) [some (.p a), none] S = _
  unfold b_f_are_bindings f_are_bindings_2 f_are_bindings_1
  cases a with
  | tuple xs =>
    obtain ⟨m, rfl, hl, hy⟩ := ha.tup
    have hlL := LIMn hl
    cases he : xs.isEmpty with
    | true =>
      have : xs = [] := by simpa using he
      subst this
      simp [sSeq_, isT, mk0, bindB]
    | false =>
      have lc1 : lcD (gN 1) tYesD (eAnd (e1 (isiM .tuple) (eVar 1)) (e2 (opEqZ false) (eA lenM (aCons (eVar 1) aNil)) (eC (.p (.int 2))))) [some (.p (.tuple xs)), none] (xs.map D.p) S = .ok (xs.map fun y => .bool (isTup2 y)) S :=
        lcD_pt (fun y => .bool (isTup2 y)) fun y _ => ⟨[some (.p (.tuple xs)), some (.p y)], rfl, by
          cases y with
          | tuple zs => simp [isT, lenT, isTup2]
          | _ => simp [isT, isTup2]⟩
      cases h2 : xs.all isTup2 with
      | false => simp [sSeq_, isT, mk0, bindB, he, hlL, lc1, finL, allM_map, h2]
      | true =>
        have ht : ∀ y ∈ xs, ∃ a b, y = .tuple [a, b] := fun y hym => tup2 (List.all_eq_true.mp h2 y hym)
        have lc2 : lcD (gN 1) tYesD (e2 opSubs (eVar 1) (eC (.p (.int 0)))) [some (.p (.tuple xs)), none] (xs.map D.p) S = .ok (xs.map fstP) S :=
          lcD_pt fstP fun y hym => ⟨[some (.p (.tuple xs)), some (.p y)], rfl, by
            obtain ⟨a, b, rfl⟩ := ht y hym
            simp [fstP]⟩
        have hfs : ∀ y ∈ xs.map fstP, sOk y := fun z hz => by
          obtain ⟨y, hym, rfl⟩ := List.mem_map.mp hz
          obtain ⟨a, b, rfl⟩ := ht y hym
          obtain ⟨m', _, _, h3⟩ := (hy _ hym).tup
          exact (h3 a (by simp)).s
        have hn := names_ok (P := P) (S := S) (k := k + 2) (d := .tuple (xs.map fstP)) (by omega) fun zs e => by
          injection e with e; subst e
          exact ⟨by simpa using hl, hfs⟩
        have lc3 : lcD (gN 1) tYesD (eCallX 1 (F P (k + 2) .f_is_term) (aCons (e2 opSubs (eVar 1) (eC (.p (.int 1)))) aNil)) [some (.p (.tuple xs)), none] (xs.map D.p) S = .ok (xs.map fun y => .bool (termB (m + 1) (sndP y))) S :=
          lcD_pt (fun y => .bool (termB (m + 1) (sndP y))) fun y hym => ⟨[some (.p (.tuple xs)), some (.p y)], rfl, by
            obtain ⟨a, b, rfl⟩ := ht y hym
            obtain ⟨m', em, _, h3⟩ := (hy _ hym).tup
            have := it b ((h3 b (by simp)).up (by omega))
            simp [this, cut1, sndP]⟩
        cases hnb : namesB (.tuple (xs.map fstP)) with
        | false => simp [sSeq_, isT, mk0, bindB, he, hlL, lc1, lc2, finL, allM_map, h2, tupX, hn, cut1, hnb]
        | true => simp [sSeq_, isT, mk0, bindB, he, hlL, lc1, lc2, lc3, finL, allM_map, h2, tupX, hn, cut1, hnb]
  | _ => simp [sSeq_, isT, bindB]
theorem loop_arms {k n : Nat} (hk : 6 ≤ k) {a : Option D} {R : Fl → Sto → Prop} : ∀ {xs : List PyData} {y1 : Option D}, (∀ y ∈ xs, Sn n y) → (xs.all armHd = true → ∀ y1, R (.next [a, y1]) S) → (xs.all armHd = false → R (.ret (.p (.bool false))) S) →
    wpS (forD (gN 1) (f_are_arms_1 (F P k)) (xs.map D.p) [a, y1] S) R
  | [], y1, _, q, e => by simpa using q rfl y1
  | y :: xs, y1, hs, q, e => by
    rw [List.map_cons, wpS_forD]
    have hy := hs y (by simp)
    have nx : armHd y = true → ∀ y1, wpS (forD (gN 1) (f_are_arms_1 (F P k)) (xs.map D.p) [a, y1] S) R := fun hh y1 =>
      loop_arms hk (fun z hz => hs z (by simp [hz])) (fun h => q (by rw [List.all_cons, hh, h]; rfl)) fun h => e (by rw [List.all_cons, hh, h]; rfl)
    have rt : armHd y = false → R (.ret (.p (.bool false))) S := fun hh => e (by rw [List.all_cons, hh]; rfl)
    unfold f_are_arms_1
    cases y with
    | tuple zs =>
      cases h3 : isTup3 (.tuple zs) with
      | false =>
        have h3' : ((zs.length : Int) == 3) = false := h3
        simp [isT, lenT, h3']
        exact rt (by simp [armHd, h3])
      | true =>
        obtain ⟨u, v, w, e3⟩ := tup3 h3
        injection e3 with e3
        subst e3
        obtain ⟨m, rfl, _, hz⟩ := hy.tup
        have n1 := name_ok (P := P) (S := S) (k := k) (by omega) (hz u (by simp)).s
        have n2 := names_ok (P := P) (S := S) (k := k) (by omega) (hz v (by simp)).nms
        cases c1 : nameB u with
        | false =>
          rw [c1] at n1
          simp [isT, lenT, n1, cut1]
          exact rt (by simp [armHd, h3, fstP, c1])
        | true =>
          rw [c1] at n1
          cases c2 : namesB v with
          | false =>
            rw [c2] at n2
            simp [isT, lenT, n1, n2, cut1]
            exact rt (by simp [armHd, h3, fstP, sndP, c1, c2])
          | true =>
            rw [c2] at n2
            simp [isT, lenT, n1, n2, cut1]
            exact nx (by simp [armHd, h3, fstP, sndP, c1, c2]) _
    | _ => simp [isT]; exact rt rfl
set_option maxHeartbeats 1000000 in
theorem arms_ok {k n : Nat} (hk : 6 ≤ k) (it : ∀ y, Sn n y → F P (k + 2) .f_is_term [.p y] S = .ok (.p (.bool (termB n y))) S) {a : PyData} (ha : Sn n a) : F P (k + 3) .f_are_arms [.p a] S = .ok (.p (.bool (armsB (termB n) a))) S := by
  rw [F_arms]
  refine wp_eq ?_
  rw [wp_run]
  show wpS (b_f_are_arms (F P (k + 2)) [some (.p a), none] S) _
  unfold b_f_are_arms f_are_arms_3 f_are_arms_2
  cases a with
  | tuple xs =>
    obtain ⟨m, rfl, hl, hy⟩ := ha.tup
    have hlL := LIMn hl
    cases he : xs.isEmpty with
    | true =>
      have : xs = [] := by simpa using he
      subst this
      simp [isT, mk0, armsB]
    | false =>
      simp [isT, mk0, he, hlL]
      refine loop_arms (P := P) (k := k + 2) (by omega) hy (fun hh y1 => ?_) fun hh => ?_
      · have ht : ∀ y ∈ xs, ∃ a b c, y = .tuple [a, b, c] := fun y hym => tup3 (by
          have := List.all_eq_true.mp hh y hym
          simp only [armHd, Bool.and_eq_true] at this
          exact this.1)
        have lc3 : lcD (gN 1) tYesD (eCallX 1 (F P (k + 2) .f_is_term) (aCons (e2 opSubs (eVar 1) (eC (.p (.int 2)))) aNil)) [some (.p (.tuple xs)), none] (xs.map D.p) S = .ok (xs.map fun y => .bool (termB (m + 1) (trdP y))) S :=
          lcD_pt (fun y => .bool (termB (m + 1) (trdP y))) fun y hym => ⟨[some (.p (.tuple xs)), some (.p y)], rfl, by
            obtain ⟨a, b, c, rfl⟩ := ht y hym
            obtain ⟨m', em, _, h3⟩ := (hy _ hym).tup
            have := it c ((h3 c (by simp)).up (by omega))
            simp [this, cut1, trdP]⟩
        have hw : ([some (D.p (.tuple xs)), y1] : Ev).set 1 none = [some (D.p (.tuple xs)), none] := rfl
        simp [hlL, wipeD, lc3, finL, allM_map, armsB, he, hh]
      · simp [armsB, he, hh]
  | _ => simp [isT, armsB]
@[simp] theorem x1 : (Str.ofString "name" = Str.ofString "text") = False := eq_false (by decide)
@[simp] theorem x2 : (Str.ofString "name" = Str.ofString "whole") = False := eq_false (by decide)
@[simp] theorem x3 : (Str.ofString "whole" = Str.ofString "text") = False := eq_false (by decide)
theorem itt {xs : List PyData} : isT .tuple (.tuple xs) = true := rfl
set_option maxHeartbeats 1000000 in
theorem forms_ok {k : Nat} (hk : 5 ≤ k) {w : Str} {y : PyData} (hy : sOk y) {a b c d : Option D} : sForms 1 [("name", F P k .f_is_name), ("whole", F P k .f_is_whole), ("text", F P k .f_is_text)] (e2 opSubs (eVar 0) (eC (.p (.int 0)))) (e2 opSubs (eVar 0) (eC (.p (.int 0)))) (e2 opSubs (eVar 0) (eC (.p (.int 1)))) [some (.p (.tuple [.str w, y])), a, b, c, d] S =
    some (.ret (.p (.bool (leafB w y))), S) := by
  have n1 := name_ok (P := P) (S := S) hk hy
  have n2 := whole_ok (P := P) (S := S) (k := k) (by omega) (d := y)
  have n3 := text_ok (P := P) (S := S) (k := k) (by omega) hy
  unfold sForms leafB
  by_cases h1 : w = "name"
  · subst h1
    simp [eForms, gtL, n1, cut1]
  by_cases h2 : w = "whole"
  · subst h2
    simp [eForms, gtL, n2, cut1]
  by_cases h3 : w = "text"
  · subst h3
    simp [eForms, gtL, n3, cut1]
  · simp [eForms, gtL, h1, h2, h3]
set_option maxHeartbeats 2000000 in
theorem term_ok : ∀ (n : Nat) {k : Nat} {x : PyData} {S : Sto}, Sn n x → 4 * n + 8 ≤ k → F P k .f_is_term [.p x] S = .ok (.p (.bool (termB n x))) S
  | 0, _, _, _, h, _ => h.elim
  | n + 1, k, x, S, h, hk => by
    obtain ⟨k, rfl⟩ : ∃ j, k = j + 4 := ⟨k - 4, by omega⟩
    rw [F_term]
    refine run_ret (m := 5) ?_
    show b_f_is_term (F P (k + 3)) [some (.p x), none, none, none, none] S = _
    unfold b_f_is_term f_is_term_7 f_is_term_6 f_is_term_5 f_is_term_4 f_is_term_3 f_is_term_2 f_is_term_1
    cases x with
    | tuple xs =>
      obtain ⟨hl, hy⟩ := h
      match xs, hy with
      | [], _ => simp [sSeq_, isT, mk0, termB]
      | z :: r, hy =>
        cases hz : isT .str z with
        | false =>
          have e : termB (n + 1) (.tuple (z :: r)) = false := by
            cases z <;> first | rfl | (simp [isT] at hz)
          simp [sSeq_, itt, mk0, hz, e]
        | true =>
          obtain ⟨w, rfl⟩ := isT_str hz
          match r, hy with
          | [], _ => simp [sSeq_, isT, mk0, lenT, termB]
          | [y], hy =>
            have hf := forms_ok (P := P) (S := S) (k := k + 3) (by omega) (w := w) (hy y (by simp)).s (a := none) (b := none) (c := none) (d := none)
            simp [sSeq_, isT, mk0, lenT, termB, hf]
          | [a, b], hy =>
            have ta := term_ok n (k := k + 3) (S := S) (hy a (by simp)) (by omega)
            have tb := term_ok n (k := k + 3) (S := S) (hy b (by simp)) (by omega)
            have na := name_ok (P := P) (S := S) (k := k + 3) (by omega) (hy a (by simp)).s
            have ba := bind_ok (P := P) (S := S) (k := k) (n := n) (by omega) (fun y hy => term_ok n (k := k + 2) hy (by omega)) (hy a (by simp))
            have ab := arms_ok (P := P) (S := S) (k := k) (n := n) (by omega) (fun y hy => term_ok n (k := k + 2) hy (by omega)) (hy b (by simp))
            by_cases h1 : w = "use"
            · subst h1
              cases c1 : termB n a with
              | false => simp [sSeq_, isT, mk0, lenT, gTupD, gConss, gNils, ta, cut1, c1, termB]
              | true => simp [sSeq_, isT, mk0, lenT, gTupD, gConss, gNils, ta, tb, cut1, c1, termB]
            by_cases h2 : w = "given"
            · subst h2
              cases c1 : nameB a with
              | false => simp [sSeq_, isT, mk0, lenT, gTupD, gConss, gNils, na, cut1, c1, termB]
              | true => simp [sSeq_, isT, mk0, lenT, gTupD, gConss, gNils, na, tb, cut1, c1, termB]
            by_cases h3 : w = "let"
            · subst h3
              cases c1 : bindB (termB n) a with
              | false => simp [sSeq_, isT, mk0, lenT, gTupD, gConss, gNils, ba, cut1, c1, termB]
              | true => simp [sSeq_, isT, mk0, lenT, gTupD, gConss, gNils, ba, tb, cut1, c1, termB]
            by_cases h4 : w = "match"
            · subst h4
              cases c1 : termB n a with
              | false => simp [sSeq_, isT, mk0, lenT, gTupD, gConss, gNils, ta, cut1, c1, termB]
              | true => simp [sSeq_, isT, mk0, lenT, gTupD, gConss, gNils, ta, ab, cut1, c1, termB]
            · simp [sSeq_, isT, mk0, lenT, gTupD, gConss, gNils, h1, h2, h3, h4, termB]
          | a :: b :: c :: r, _ =>
            have e : termB (n + 1) (.tuple (.str w :: a :: b :: c :: r)) = false := rfl
            have e3 : ¬ ((r.length : Int) + 1 + 1 + 1 + 1 = 3) := by omega
            have e2 : ¬ ((r.length : Int) + 1 + 1 + 1 + 1 = 2) := by omega
            have e1 : ¬ ((r.length : Int) + 1 + 1 + 1 + 1 = 1) := by omega
            simp [sSeq_, isT, mk0, lenT, e, e1, e2, e3]
    | _ => simp [sSeq_, isT, termB]
end K02
namespace K02
open PySem L2 DL
variable {P : Nat → Addr} {S : Sto}
theorem F_one (k : Nat) : F P (k + 3) .f_is_one_l = runF 4 (b_f_is_one_l (F P (k + 2))) := rfl
def row2 (f : PyData → Bool) (y : PyData) : Bool := isTup2 y && (nameB (fstP y) && f (sndP y))
def row3 (f : PyData → Bool) (y : PyData) : Bool := isTup3 y && (nameB (fstP y) && (f (trdP y) && namesB (sndP y)))
theorem boolEq {a b : Bool} (h : a = true ↔ b = true) : a = b := by cases a <;> cases b <;> simp_all
theorem bind_eq {f : PyData → Bool} {xs : List PyData} : (xs.all (row2 f) && namesB (.tuple (xs.map fstP))) = (xs.all isTup2 && (namesB (.tuple (xs.map fstP)) && xs.all fun y => f (sndP y))) := by
  refine boolEq ?_
  simp only [Bool.and_eq_true, List.all_eq_true, row2]
  constructor
  · rintro ⟨h1, h2⟩
    exact ⟨fun y hy => (h1 y hy).1, h2, fun y hy => (h1 y hy).2.2⟩
  · rintro ⟨h1, h2, h3⟩
    have hn : ∀ y ∈ xs, nameB (fstP y) = true := fun y hy => by
      have h2 := h2
      simp only [namesB, Bool.and_eq_true, List.all_eq_true] at h2
      exact h2.1 _ (List.mem_map.mpr ⟨y, hy, rfl⟩)
    exact ⟨fun y hy => ⟨h1 y hy, hn y hy, h3 y hy⟩, h2⟩
theorem arms_eq {f : PyData → Bool} {xs : List PyData} : xs.all (row3 f) = (xs.all armHd && xs.all fun y => f (trdP y)) := by
  refine boolEq ?_
  simp only [Bool.and_eq_true, List.all_eq_true, row3, armHd]
  constructor
  · intro h
    exact ⟨fun y hy => ⟨(h y hy).1, (h y hy).2.1, (h y hy).2.2.2⟩, fun y hy => (h y hy).2.2.1⟩
  · rintro ⟨h1, h2⟩ y hy
    exact ⟨(h1 y hy).1, (h1 y hy).2.1, h2 y hy, (h1 y hy).2.2⟩
theorem subI (i j : Int) : opSub (.p (.int i)) (.p (.int j)) S = .ok (.p (.int (i - j))) S := rfl
set_option maxHeartbeats 1000000 in
theorem loop2 {k n : Nat} (hk : 6 ≤ k) (it : ∀ y, Sn n y → F P k .f_is_one_l [.p y] S = .ok (.p (.bool (termB n y))) S) {a b : Option D} {R : Fl → Sto → Prop} : ∀ {xs : List PyData} {y1 : Option D}, (∀ y ∈ xs, Sn n y) → (xs.all (row2 (termB n)) = true → ∀ y1, R (.next [a, b, some (.p (.int 2)), y1]) S) → (xs.all (row2 (termB n)) = false → R (.ret (.p (.bool false))) S) →
    wpS (forD (gN 3) (f_is_one_l_2 (F P k)) (xs.map D.p) [a, b, some (.p (.int 2)), y1] S) R
  | [], y1, _, q, e => by simpa using q rfl y1
  | y :: xs, y1, hs, q, e => by
    rw [List.map_cons, wpS_forD]
    have hy := hs y (by simp)
    have nx : row2 (termB n) y = true → ∀ y1, wpS (forD (gN 3) (f_is_one_l_2 (F P k)) (xs.map D.p) [a, b, some (.p (.int 2)), y1] S) R := fun hh y1 =>
      loop2 hk it (fun z hz => hs z (by simp [hz])) (fun h => q (by rw [List.all_cons, hh, h]; rfl)) fun h => e (by rw [List.all_cons, hh, h]; rfl)
    have rt : row2 (termB n) y = false → R (.ret (.p (.bool false))) S := fun hh => e (by rw [List.all_cons, hh]; rfl)
    unfold f_is_one_l_2 f_is_one_l_1
    cases y with
    | tuple zs =>
      cases h3 : isTup2 (.tuple zs) with
      | false =>
        have h3' : ((zs.length : Int) == 2) = false := h3
        simp [isT, lenT, h3']
        exact rt (by simp [row2, h3])
      | true =>
        obtain ⟨u, v, e3⟩ := tup2 h3
        injection e3 with e3
        subst e3
        obtain ⟨m, rfl, _, hz⟩ := hy.tup
        have n1 := named_ok (P := P) (S := S) (k := k) (by omega) (hz u (by simp)).s
        have n2 := it v (hz v (by simp)).mono
        cases c1 : nameB u with
        | false =>
          rw [c1] at n1
          simp [isT, lenT, n1, cut1]
          exact rt (by simp [row2, h3, fstP, c1])
        | true =>
          rw [c1] at n1
          cases c2 : termB (m + 1) v with
          | false =>
            rw [c2] at n2
            simp [isT, lenT, n1, n2, cut1, subI]
            exact rt (by simp [row2, h3, fstP, sndP, c1, c2])
          | true =>
            rw [c2] at n2
            simp [isT, lenT, n1, n2, cut1, subI]
            exact nx (by simp [row2, h3, fstP, sndP, c1, c2]) _
    | _ => simp [isT]; exact rt rfl
set_option maxHeartbeats 1000000 in
theorem loop3 {k n : Nat} (hk : 6 ≤ k) (it : ∀ y, Sn n y → F P k .f_is_one_l [.p y] S = .ok (.p (.bool (termB n y))) S) {a b : Option D} {R : Fl → Sto → Prop} : ∀ {xs : List PyData} {y1 : Option D}, (∀ y ∈ xs, Sn n y) → (xs.all (row3 (termB n)) = true → ∀ y1, R (.next [a, b, some (.p (.int 3)), y1]) S) → (xs.all (row3 (termB n)) = false → R (.ret (.p (.bool false))) S) →
    wpS (forD (gN 3) (f_is_one_l_2 (F P k)) (xs.map D.p) [a, b, some (.p (.int 3)), y1] S) R
  | [], y1, _, q, e => by simpa using q rfl y1
  | y :: xs, y1, hs, q, e => by
    rw [List.map_cons, wpS_forD]
    have hy := hs y (by simp)
    have nx : row3 (termB n) y = true → ∀ y1, wpS (forD (gN 3) (f_is_one_l_2 (F P k)) (xs.map D.p) [a, b, some (.p (.int 3)), y1] S) R := fun hh y1 =>
      loop3 hk it (fun z hz => hs z (by simp [hz])) (fun h => q (by rw [List.all_cons, hh, h]; rfl)) fun h => e (by rw [List.all_cons, hh, h]; rfl)
    have rt : row3 (termB n) y = false → R (.ret (.p (.bool false))) S := fun hh => e (by rw [List.all_cons, hh]; rfl)
    unfold f_is_one_l_2 f_is_one_l_1
    cases y with
    | tuple zs =>
      cases h3 : isTup3 (.tuple zs) with
      | false =>
        have h3' : ((zs.length : Int) == 3) = false := h3
        simp [isT, lenT, h3']
        exact rt (by simp [row3, h3])
      | true =>
        obtain ⟨u, v, w, e3⟩ := tup3 h3
        injection e3 with e3
        subst e3
        obtain ⟨m, rfl, _, hz⟩ := hy.tup
        have n1 := named_ok (P := P) (S := S) (k := k) (by omega) (hz u (by simp)).s
        have n2 := it w (hz w (by simp)).mono
        have n3 := namesl_ok (P := P) (S := S) (k := k) (by omega) (hz v (by simp)).nms
        cases c1 : nameB u with
        | false =>
          rw [c1] at n1
          simp [isT, lenT, n1, cut1]
          exact rt (by simp [row3, h3, fstP, c1])
        | true =>
          rw [c1] at n1
          cases c2 : termB (m + 1) w with
          | false =>
            rw [c2] at n2
            simp [isT, lenT, n1, n2, cut1, subI]
            exact rt (by simp [row3, h3, fstP, trdP, c1, c2])
          | true =>
            rw [c2] at n2
            cases c3 : namesB v with
            | false =>
              rw [c3] at n3
              simp [isT, lenT, n1, n2, n3, cut1, subI]
              exact rt (by simp [row3, h3, fstP, trdP, sndP, c1, c2, c3])
            | true =>
              rw [c3] at n3
              simp [isT, lenT, n1, n2, n3, cut1, subI]
              exact nx (by simp [row3, h3, fstP, trdP, sndP, c1, c2, c3]) _
    | _ => simp [isT]; exact rt rfl
theorem in2 {neg : Bool} {w : Str} {a b : Str} : opInX neg (.p (.str w)) (.p (.tuple [.str a, .str b])) S = .ok (.p (.bool (if neg then !decide (w = a ∨ w = b) else decide (w = a ∨ w = b)))) S := by
  have h := in_nms (S := S) (neg := neg) (n := w) (h := [a, b])
  have e : nms [a, b] = .tuple [.str a, .str b] := rfl
  rw [e] at h
  simpa using h
theorem eqHole {w : Str} (h : PyData.strOk w = true) : opEqZ false (.p (.tuple [.str w])) (.p (.tuple [.str "hole"])) S = .ok (.p (.bool (w == "hole"))) S := by
  have h1 : SeqAt.shaped (.tuple [.str w]) = true := shT fun d hd => by
    simp at hd; subst hd
    exact ⟨by simpa [PyData.canLay0] using h, by simp [PyData.depth]⟩
  have h2 : SeqAt.shaped (.tuple [.str "hole"]) = true := by decide +kernel
  rw [eqZ_t, eqX_t h1 h2]
  simp [PyData.eqvAll, PyData.eqv]
set_option maxHeartbeats 4000000 in
theorem one_ok : ∀ (n : Nat) {k : Nat} {x : PyData} {S : Sto}, Sn n x → 4 * n + 8 ≤ k → F P k .f_is_one_l [.p x] S = .ok (.p (.bool (termB n x))) S
  | 0, _, _, _, h, _ => h.elim
  | n + 1, k, x, S, h, hk => by
    obtain ⟨k, rfl⟩ : ∃ j, k = j + 4 := ⟨k - 4, by omega⟩
    rw [F_one]
    refine wp_eq ?_
    rw [wp_run]
    show wpS (b_f_is_one_l (F P (k + 3)) [some (.p x), none, none, none] S) _
    unfold b_f_is_one_l f_is_one_l_8 f_is_one_l_7 f_is_one_l_6 f_is_one_l_5 f_is_one_l_4 f_is_one_l_3
    have hgt : ∀ a b : Int, ∀ z : Sto, opGt (.p (.int a)) (.p (.int b)) z = .ok (.p (.bool (decide (a > b)))) z := fun a b z => rfl
    have hlt : ∀ a b : Int, ∀ z : Sto, opLt (.p (.int a)) (.p (.int b)) z = .ok (.p (.bool (decide (a < b)))) z := fun a b z => rfl
    cases x with
    | tuple xs =>
      obtain ⟨hl, hy⟩ := h
      match xs, hy with
      | [], _ => simp [isT, mk0, termB]
      | z :: r, hy =>
        cases hz : isT .str z with
        | false =>
          have e : termB (n + 1) (.tuple (z :: r)) = false := by
            cases z <;> first | rfl | (simp [isT] at hz)
          simp [itt, mk0, hz, e]
        | true =>
          obtain ⟨w, rfl⟩ := isT_str hz
          match r, hy with
          | [], hy => simp [isT, mk0, mk1, lenT, hgt, hlt, eqHole (hy (.str w) (by simp)).s.2, termB]
          | [y], hy =>
            have hf := leaf_ok (P := P) (S := S) (k := k + 3) (by omega) (w := w) (hy y (by simp)).s
            simp [isT, mk0, mk1, lenT, hgt, hlt, hf, cut1, termB]
          | [a, b], hy =>
            have ta := one_ok n (k := k + 3) (S := S) (hy a (by simp)) (by omega)
            have tb := one_ok n (k := k + 3) (S := S) (hy b (by simp)) (by omega)
            have na := named_ok (P := P) (S := S) (k := k + 3) (by omega) (hy a (by simp)).s
            by_cases h1 : w = "use"
            · subst h1
              cases c1 : termB n b with
              | false =>
                rw [c1] at tb
                simp [isT, mk0, mk2, lenT, hgt, hlt, in2, tb, cut1, c1, termB]
              | true =>
                rw [c1] at tb
                simp [isT, mk0, mk2, lenT, hgt, hlt, in2, tb, ta, cut1, c1, termB]
            by_cases h2 : w = "given"
            · subst h2
              cases c1 : termB n b with
              | false =>
                rw [c1] at tb
                simp [isT, mk0, mk2, lenT, hgt, hlt, in2, tb, cut1, c1, termB]
              | true =>
                rw [c1] at tb
                simp [isT, mk0, mk2, lenT, hgt, hlt, in2, tb, na, cut1, c1, termB]
            by_cases h3 : w = "let"
            · subst h3
              cases a with
              | tuple xs =>
                obtain ⟨m, rfl, hxl, hxs⟩ := (hy (.tuple xs) (by simp)).tup
                have hlL := LIMn hxl
                have et : termB (m + 1 + 1) (.tuple [.str "let", .tuple xs, b]) = (bindB (termB (m + 1)) (.tuple xs) && termB (m + 1) b) := by simp [termB]
                rw [et]
                cases he : xs.isEmpty with
                | true =>
                  have : xs = [] := by simpa using he
                  subst this
                  simp [isT, mk0, mk2, lenT, hgt, hlt, in2, bindB]
                | false =>
                  simp [isT, mk0, mk2, lenT, hgt, hlt, in2, he, hlL]
                  refine loop2 (P := P) (k := k + 3) (n := m + 1) (by omega) (fun y hy => one_ok (m + 1) hy (by omega)) (fun y hym => (hxs y hym).mono) (fun hh y1 => ?_) fun hh => ?_
                  · have ht : ∀ y ∈ xs, ∃ a b, y = .tuple [a, b] := fun y hym => tup2 (by
                      have := List.all_eq_true.mp hh y hym
                      simp only [row2, Bool.and_eq_true] at this
                      exact this.1)
                    have lc2 : ∀ a0 a1 a2 : Option D, lcD (gN 3) tYesD (e2 opSubs (eVar 3) (eC (.p (.int 0)))) [a0, a1, a2, none] (xs.map D.p) S = .ok (xs.map fstP) S := fun a0 a1 a2 =>
                      lcD_pt fstP fun y hym => ⟨[a0, a1, a2, some (.p y)], rfl, by
                        obtain ⟨a, b, rfl⟩ := ht y hym
                        simp [fstP]⟩
                    have hfs : ∀ y ∈ xs.map fstP, sOk y := fun z hz => by
                      obtain ⟨y, hym, rfl⟩ := List.mem_map.mp hz
                      obtain ⟨a, b, rfl⟩ := ht y hym
                      obtain ⟨m', _, _, h3⟩ := (hxs _ hym).tup
                      exact (h3 a (by simp)).s
                    have hn := namesl_ok (P := P) (S := S) (k := k + 3) (d := .tuple (xs.map fstP)) (by omega) fun zs e => by
                      injection e with e; subst e
                      exact ⟨by simpa using hxl, hfs⟩
                    have hb := bind_eq (f := termB (m + 1)) (xs := xs)
                    rw [hh] at hb
                    cases c1 : namesB (.tuple (xs.map fstP)) with
                    | false =>
                      rw [c1] at hn hb
                      simp [hlL, lc2, finL, tupX, hn, cut1, bindB, he, c1]
                    | true =>
                      rw [c1] at hn hb
                      simp at hb
                      simp [hlL, lc2, finL, tupX, hn, cut1, bindB, he, c1, tb]
                      exact fun _ => hb
                  · have hb := bind_eq (f := termB (m + 1)) (xs := xs)
                    rw [hh] at hb
                    simp only [Bool.false_and] at hb
                    simp only [bindB, ← hb]
                    simp
              | _ => simp [isT, mk0, mk2, lenT, hgt, hlt, in2, termB, bindB]
            by_cases h4 : w = "match"
            · subst h4
              cases b with
              | tuple xs =>
                obtain ⟨m, rfl, hxl, hxs⟩ := (hy (.tuple xs) (by simp)).tup
                have hlL := LIMn hxl
                have et : termB (m + 1 + 1) (.tuple [.str "match", a, .tuple xs]) = (termB (m + 1) a && armsB (termB (m + 1)) (.tuple xs)) := by simp [termB]
                rw [et]
                cases he : xs.isEmpty with
                | true =>
                  have : xs = [] := by simpa using he
                  subst this
                  simp [isT, mk0, mk2, lenT, hgt, hlt, in2, armsB]
                | false =>
                  simp [isT, mk0, mk2, lenT, hgt, hlt, in2, he, hlL]
                  refine loop3 (P := P) (k := k + 3) (n := m + 1) (by omega) (fun y hy => one_ok (m + 1) hy (by omega)) (fun y hym => (hxs y hym).mono) (fun hh y1 => ?_) fun hh => ?_
                  · have hb := arms_eq (f := termB (m + 1)) (xs := xs)
                    rw [hh] at hb
                    simp [armsB, he, ← hb, ta, cut1]
                  · have hb := arms_eq (f := termB (m + 1)) (xs := xs)
                    rw [hh] at hb
                    simp [armsB, he, ← hb]
              | _ => simp [isT, mk0, mk2, lenT, hgt, hlt, in2, termB, armsB]
            · simp [isT, mk0, mk2, lenT, hgt, hlt, in2, h1, h2, h3, h4, termB]
          | a :: b :: c :: r, _ =>
            have e : termB (n + 1) (.tuple (.str w :: a :: b :: c :: r)) = false := rfl
            have e3 : 3 < (r.length : Int) + 1 + 1 + 1 + 1 := by omega
            simp [isT, mk0, lenT, hgt, e, e3]
    | _ => simp [isT, termB]
end K02
namespace K02
open PySem L2 DL
open Tm
variable {P : Nat → Addr} {S : Sto}
def C02 : DrC := ⟨2147483587, 48271, 16807, 13, 50, 57⟩
theorem C02_ok : C02.ok := by unfold DrC.ok C02; decide
theorem F_draw (k : Nat) : F P (k + 3) .f_draw_l = runF 6 (drawB2 C02) := rfl
theorem F_pick (k : Nat) : F P (k + 4) .f_pick_l = runF 2 (pickBX (runF 6 (drawB2 C02))) := rfl
section
variable {cs : List PyData} {L : Nat} {n m : Int} {k : Nat} {Q : D → Sto → Prop} {X : Exn → Sto → Prop}
theorem dr_wp (hc : Cells cs) (h : Tape cs 0 L n S) (hk : 3 ≤ k) (hn : n ≤ 1000000000000) (hm : 0 < m) (hm2 : m ≤ 1000000) (q : ∀ g S', 0 ≤ g → g < m → Tape cs 0 L (n + 1) S' → Oth 0 S S' → Q (.p (.int g)) S') : wp (cutX S.length (F P k .f_draw_l [.ob 0, .p (.int m)] S)) Q X := by
  obtain ⟨k, rfl⟩ := k3 hk
  rw [F_draw]
  exact drawK_wp C02_ok hc h hn hm (by
    have := lg (n := m.natAbs) (k := 40) (by have : (2 : Nat) ^ 40 = 1099511627776 := by decide
                                             omega) (by decide)
    omega) q
theorem pk_wp {xs : List PyData} (hc : Cells cs) (h : Tape cs 0 L n S) (hk : 4 ≤ k) (hn : n ≤ 1000000000000) (hx : xs ≠ []) (hx2 : xs.length < 1000000) (q : ∀ d S', d ∈ xs → Tape cs 0 L (n + 1) S' → Oth 0 S S' → Q (.p d) S') : wp (cutX S.length (F P k .f_pick_l [.ob 0, .p (.list xs)] S)) Q X := by
  obtain ⟨k, rfl⟩ : ∃ j, k = j + 4 := ⟨k - 4, by omega⟩
  rw [F_pick]
  exact pickK_wp C02_ok hc h hn hx hx2 q
end
theorem abc_at : ∀ i : Fin 26, atI (Str.ofString "abcdefghijklmnopqrstuvwxyz").cps.toList ((i : Nat) : Int) = some (97 + (i : Nat)) := by decide +kernel
theorem abc_len : (Str.ofString "abcdefghijklmnopqrstuvwxyz").length = 26 := by decide +kernel
def ltr (c : Nat) : Str := ⟨#[97 + c]⟩
theorem abc_sub {i : Int} (h0 : 0 ≤ i) (h1 : i < 26) : opSubs (.p (.str "abcdefghijklmnopqrstuvwxyz")) (.p (.int i)) S = .ok (.p (.str (ltr i.toNat))) S := by
  obtain ⟨j, rfl⟩ : ∃ j : Nat, i = j := ⟨i.toNat, by omega⟩
  have hj : j < 26 := by omega
  have e := abc_at ⟨j, hj⟩
  simp at e
  have hl : (Str.ofString "abcdefghijklmnopqrstuvwxyz").length ≤ LIM := by rw [abc_len]; decide
  simp [opSubs, seqOf, hl, e, ltr]
/-- the four words -/
def wrd (r : Str) (b : Bool) (g : Nat) (i : Nat) : Str := if b = true then r ++ ltr ((g + 7 * i) % 26) else ltr ((g + 7 * i) % 26) ++ r
def wrds (r : Str) (b : Bool) (g : Nat) : List Str := (List.range 4).map (wrd r b g)
theorem wrds_all : (rests.all fun r => (List.range 26).all fun g => decide ((wrds r true g).Nodup) && decide ((wrds r false g).Nodup)) = true := by decide +kernel
theorem rest_len : ∀ r ∈ rests, r.length ≤ 7 := by decide +kernel
theorem mem_words {r : Str} (hr : r ∈ rests) {c : Nat} (hc : c < 26) : Wd (r ++ ltr c) ∧ Wd (ltr c ++ r) := by
  constructor <;> exact List.mem_flatMap.mpr ⟨r, hr, List.mem_flatMap.mpr ⟨c, List.mem_range.mpr hc, by simp [ltr]⟩⟩
structure Names (N : List Str) : Prop where
  wd : ∀ n ∈ N, Wd n
  nd : N.Nodup
  len : N.length = 4
theorem wrds_names {r : Str} (hr : r ∈ rests) {b : Bool} {g : Nat} (hg : g < 26) : Names (wrds r b g) := by
  refine ⟨fun n hn => ?_, ?_, by simp [wrds]⟩
  · obtain ⟨i, _, rfl⟩ := List.mem_map.mp hn
    have h := mem_words hr (c := (g + 7 * i) % 26) (Nat.mod_lt _ (by decide))
    unfold wrd
    cases b
    · exact h.2
    · exact h.1
  · have h := List.all_eq_true.mp (List.all_eq_true.mp wrds_all r hr) g (List.mem_range.mpr hg)
    simp only [Bool.and_eq_true, decide_eq_true_eq] at h
    cases b
    · exact h.2
    · exact h.1
theorem F_words (k : Nat) : F P (k + 3) .f_words_l = runF 8 (b_f_words_l (F P (k + 2))) := rfl
set_option maxHeartbeats 2000000 in
theorem words_wp {cs : List PyData} (hc : Cells cs) {n : Int} {k : Nat} {Q : D → Sto → Prop} {X : Exn → Sto → Prop} (h : Tape cs 0 1 n S) (hn : n ≤ 100000000) (hk : 7 ≤ k)
    (q : ∀ (N : List Str) S', Names N → Tape cs 0 1 (n + 3) S' → Q (.p (.list (N.map .str))) S') : wp (cutX S.length (F P k .f_words_l [.ob 0, .p (.int 4)] S)) Q X := by
  obtain ⟨k, rfl⟩ := k3 (k := k) (by omega)
  refine wp_cutXS ?_
  rw [F_words, wp_run]
  show wpS (b_f_words_l (F P (k + 2)) [some (.ob 0), some (.p (.int 4)), none, none, none, none, none, none] S) _
  unfold b_f_words_l
  have em : ∀ S : Sto, mkLst [.p (.str ""), .p (.str "x"), .p (.str "oo"), .p (.str "zzzz"), .p (.str "ery"), .p (.str "bbbbbbb")] S = .ok (.p (.list (rests.map .str))) S := fun S => rfl
  simp [em]
  refine pk_wp hc h (by omega) (by omega) (by simp [rests]) (by simp [rests]) fun d S1 hd t1 _ => ?_
  obtain ⟨r, hr, rfl⟩ : ∃ r ∈ rests, d = .str r := by
    obtain ⟨r, hr, e⟩ := List.mem_map.mp hd
    exact ⟨r, hr, e.symm⟩
  refine dr_wp hc t1 (by omega) (by omega) (by decide) (by decide) fun g S2 g0 g1 t2 _ => ?_
  obtain ⟨g, rfl⟩ : ∃ j : Nat, g = j := ⟨g.toNat, by omega⟩
  have hg : g < 26 := by omega
  have lc : lcD (gN 6) tYesD (e2 opSubs (eC (.p (.str "abcdefghijklmnopqrstuvwxyz"))) (e2 opMod (eA intTM (aCons (e2 opAddX (eVar 5) (e2 opMulX (eC (.p (.int 7))) (eVar 6))) aNil)) (eC (.p (.int 26))))) [some (.ob 0), some (.p (.int 4)), none, none, some (.p (.str r)), some (.p (.int (g : Nat))), none, none]
      ((List.range 4).map fun i : Nat => D.p (.int (0 + (i : Int)))) S2 = .ok ((List.range 4).map fun i : Nat => .str (ltr ((g + 7 * i) % 26))) S2 := by
    refine lcD_on (fun i : Nat => .int (0 + (i : Int))) (fun i : Nat => .str (ltr ((g + 7 * i) % 26))) fun i hi => ⟨_, rfl, ?_⟩
    have hi : i < 4 := List.mem_range.mp hi
    have e1 : opMulX (.p (.int 7)) (.p (.int (0 + (i : Int)))) S2 = .ok (.p (.int (7 * (0 + (i : Int))))) S2 := opMulX_i (by
      have := lg (n := (0 + (i : Int)).natAbs) (k := 40) (by have : (2 : Nat) ^ 40 = 1099511627776 := by decide
                                                             omega) (by decide)
      have : (7 : Int).natAbs.log2 < 10 := by decide
      omega)
    have e2 : ∀ z : Int, intTM [.p (.int z)] S2 = .ok (.p (.int z)) S2 := fun z => rfl
    have e3 : ∀ z : Int, opMod (.p (.int z)) (.p (.int 26)) S2 = .ok (.p (.int (z % 26))) S2 := fun z => opMod_i (by decide)
    have e0 : (0 : Int) + (i : Int) = i := by omega
    rw [e0] at e1
    have e4 := abc_sub (S := S2) (i := ((g : Int) + 7 * (i : Int)) % 26) (by omega) (by omega)
    have e5 : (((g : Int) + 7 * (i : Int)) % 26).toNat = (g + 7 * i) % 26 := by omega
    rw [e5] at e4
    simp [e1, e2, e3, e4]
  have hr4 := range_ok (j := 4) (S := S2) (by decide) (by decide)
  have h4 : (4 : Int).toNat = 4 := rfl
  rw [h4] at hr4
  simp [-List.map_map, hr4, LIM]
  have hr4' : List.range 4 = [0, 1, 2, 3] := rfl
  have lc' : ∀ ρ, ρ = [some (.ob 0), some (.p (.int 4)), none, none, some (.p (.str r)), some (.p (.int (g : Nat))), none, none] → lcD (gN 6) tYesD (e2 opSubs (eC (.p (.str "abcdefghijklmnopqrstuvwxyz"))) (e2 opMod (eA intTM (aCons (e2 opAddX (eVar 5) (e2 opMulX (eC (.p (.int 7))) (eVar 6))) aNil)) (eC (.p (.int 26))))) ρ
      ((List.range 4).map fun i : Nat => D.p (.int ((i : Int)))) S2 = .ok ((List.range 4).map fun i : Nat => .str (ltr ((g + 7 * i) % 26))) S2 := fun ρ e => by
    rw [e]
    simpa using lc
  refine wp_of (lc' _ rfl) ?_
  simp [-List.map_map, LIM]
  refine dr_wp hc t2 (by omega) (by omega) (by decide) (by decide) fun g2 S3 g20 g21 t3 _ => ?_
  have h7 := rest_len r hr
  have a1 : ∀ c : Nat, opAddX (.p (.str r)) (.p (.str (ltr c))) S3 = .ok (.p (.str (r ++ ltr c))) S3 := fun c => addX_s (by
    have : (ltr c).length = 1 := rfl
    rw [this]; simp [LIM]; omega)
  have a2 : ∀ c : Nat, opAddX (.p (.str (ltr c))) (.p (.str r)) S3 = .ok (.p (.str (ltr c ++ r))) S3 := fun c => addX_s (by
    have : (ltr c).length = 1 := rfl
    rw [this]; simp [LIM]; omega)
  have fin : ∀ b : Bool, lcD (gN 7) tYesD (eIf (tVal (eVar 3)) (e2 opAddX (eVar 4) (eVar 7)) (e2 opAddX (eVar 7) (eVar 4))) [some (.ob 0), some (.p (.int 4)), some (.p (.list ((List.range 4).map fun i : Nat => .str (ltr ((g + 7 * i) % 26))))), some (.p (.bool b)), some (.p (.str r)), some (.p (.int (g : Nat))), none, none]
      ((List.range 4).map fun i : Nat => D.p (.str (ltr ((g + 7 * i) % 26)))) S3 = .ok ((List.range 4).map fun i => .str (wrd r b g i)) S3 := fun b =>
    lcD_on (fun i : Nat => .str (ltr ((g + 7 * i) % 26))) (fun i => .str (wrd r b g i)) fun i hi => ⟨_, rfl, by
      cases b
      · simp [a2, wrd]
      · simp [a1, wrd]⟩
  have hmm : ((List.range 4).map fun i : Nat => PyData.str (ltr ((g + 7 * i) % 26))).map D.p = (List.range 4).map fun i : Nat => D.p (.str (ltr ((g + 7 * i) % 26))) := by rw [List.map_map]; rfl
  have hend : ∀ b : Bool, ((List.range 4).map fun i => PyData.str (wrd r b g i)) = (wrds r b g).map .str := fun b => by simp [wrds]
  rw [hmm]
  have fin2 := fin (g2 == 0)
  refine wp_of (a := .p (.bool (g2 == 0))) (s := S3) rfl ?_
  refine wp_of fin2 ?_
  rw [hend]
  exact ⟨t3.1.trans h.1.symm, q _ S3 (wrds_names hr hg) (t3.mono (by omega))⟩
theorem F_sh (k : Nat) : F P (k + 3) .f_shuffled_l = runF 4 (b_f_shuffled_l (F P (k + 2))) := rfl
theorem strs_sh {ns : List Str} (h : ∀ n ∈ ns, Wd n) : SeqAt.shaped (.list (ns.map .str)) = true := shL fun d hd => by
  obtain ⟨m, hm, rfl⟩ := List.mem_map.mp hd
  exact ⟨(h m hm).can, by simp [PyData.depth]⟩
theorem erase_map {α β : Type} (f : α → β) : ∀ (l : List α) (j : Nat), (l.map f).eraseIdx j = (l.eraseIdx j).map f
  | [], j => by simp
  | x :: r, 0 => by simp
  | x :: r, j + 1 => by simp [erase_map f r j]
theorem perm_erase {α : Type} : ∀ {l : List α} {j : Nat} {y : α}, l[j]? = some y → List.Perm (y :: l.eraseIdx j) l
  | [], j, y, h => by simp at h
  | x :: r, 0, y, h => by simp at h; subst h; simp
  | x :: r, j + 1, y, h => by
    have ih := perm_erase (l := r) (j := j) (y := y) (by simpa using h)
    rw [List.eraseIdx_cons_succ]
    exact (List.Perm.swap x y _).trans (ih.cons x)
def ShInv (cs : List PyData) (ns : List Str) (its : PyData) (len : Nat) (n : Int) (m : Nat) (ρ : Ev) (S : Sto) : Prop :=
  ∃ (left found : List Str) (n' : Int), ρ = [some (.ob 0), some (.p its), some (.ob 1), some (.ob 2)] ∧ Tape cs 0 3 n' S ∧ n' + left.length ≤ n + len ∧ S[1]? = some (.lst (left.map .str)) ∧ S[2]? = some (.lst (found.map .str)) ∧ (found ++ left).Perm ns ∧ left.length + found.length = len ∧ m = left.length
set_option maxHeartbeats 2000000 in
theorem sh_wp {cs : List PyData} (hc : Cells cs) {ns : List Str} {n : Int} {k : Nat} {Q : D → Sto → Prop} {X : Exn → Sto → Prop} (hns : ∀ x ∈ ns, Wd x) (hnl : ns.length ≤ 100) (h : Tape cs 0 1 n S) (hn : n ≤ 100000000) (hk : 7 ≤ k)
    (q : ∀ (ms : List Str) S', ms.Perm ns → Tape cs 0 1 (n + ns.length) S' → Q (.p (.list (ms.map .str))) S') : wp (cutX S.length (F P k .f_shuffled_l [.ob 0, .p (.list (ns.map .str))] S)) Q X := by
  obtain ⟨k, rfl⟩ := k3 (k := k) (by omega)
  have hL : S.length = 1 := h.1
  refine wp_cutX ?_
  rw [F_sh, wp_run]
  show wpS (b_f_shuffled_l (F P (k + 2)) [some (.ob 0), some (.p (.list (ns.map .str))), none, none] S) _
  unfold b_f_shuffled_l
  simp [finM, hL]
  have t0 : Tape cs 0 3 n (S ++ [MO.lst (ns.map .str), MO.lst []]) := by
    have := (h.app (o := .lst (ns.map .str)) (by decide)).app (o := .lst []) (by decide)
    simpa using this
  refine whileD_wp (ShInv cs ns (.list (ns.map .str)) ns.length n) ?_ (m := ns.length) (by omega) ⟨ns, [], n, rfl, t0, by omega, by simp [hL], by simp [hL], by simp, by simp, rfl⟩
  rintro m ρ S' ⟨left, found, n', rfl, t, hn', h1, h2, hp, hlen, rfl⟩
  have hl : ∀ x ∈ left, Wd x := fun x hx => hns x (hp.subset (by simp [hx]))
  simp [ne_nil h1 (strs_sh hl)]
  cases left with
  | nil =>
    simp
    unfold f_shuffled_l_2
    simp [iceD, h2]
    refine q found _ (by simpa using hp) ?_
    have := (t.set (i := 2) (o := .dead) (by decide)).mono (n' := n + ns.length) (by simp at hn'; omega)
    exact this.cut (by decide) (by decide)
  | cons x r =>
    simp
    unfold f_shuffled_l_1
    have hln : lenM [.ob 1] S' = .ok (.p (.int ((x :: r).length : Nat))) S' := by simp [lenM, seqOf, h1]
    simp [rlOf_ob h2, rlOf_ob h1, hln]
    refine dr_wp hc t (by omega) (by simp at hn'; omega) (by omega) (by simp at hlen; omega) fun g S1 g0 g1 t1 o1 => ?_
    have h1' : S1[1]? = some (.lst ((x :: r).map .str)) := (o1 1 (by decide)).trans h1
    have h2' : S1[2]? = some (.lst (found.map .str)) := (o1 2 (by decide)).trans h2
    obtain ⟨j, rfl⟩ : ∃ j : Nat, g = j := ⟨g.toNat, by omega⟩
    have hj : j < (x :: r).length := by simp; omega
    obtain ⟨y, hy⟩ : ∃ y, (x :: r)[j]? = some y := ⟨_, List.getElem?_eq_getElem hj⟩
    have hy' : ((x :: r).map PyData.str)[j]? = some (.str y) := by rw [List.getElem?_map, hy]; rfl
    have hp' := popAt_ok (y := .str y) h1' (by simp at hlen; omega) hy'
    simp only [List.map_cons] at hp' h1'
    simp [hp']
    have h3 : (S1.set 1 (.lst (((x :: r).map PyData.str).eraseIdx j)))[2]? = some (.lst (found.map .str)) := by rw [List.getElem?_set_ne (by decide)]; exact h2'
    have ha := append_ok (y := .str y) h3 (by simp at hlen ⊢; omega)
    simp only [List.map_cons] at ha h3
    simp [ha]
    have e1 : ((x :: r).map PyData.str).eraseIdx j = ((x :: r).eraseIdx j).map PyData.str := erase_map _ _ _
    have l1 : ((x :: r).eraseIdx j).length = r.length := by rw [List.length_eraseIdx_of_lt hj]; simp
    refine ⟨(x :: r).eraseIdx j, found ++ [y], n' + 1, rfl, (t1.set (by decide)).set (by decide), by rw [l1]; simp at hn'; omega, ?_, ?_, ?_, by rw [l1]; simp at hlen ⊢; omega, by rw [l1]⟩
    · rw [List.getElem?_set_ne (by decide), List.getElem?_set_self (by rw [t1.1]; decide), ← e1]; rfl
    · rw [List.getElem?_set_self (by simp; rw [t1.1]; decide)]; simp
    · have hq : (found ++ [y] ++ (x :: r).eraseIdx j) = found ++ (y :: (x :: r).eraseIdx j) := by simp
      rw [hq]
      exact ((perm_erase hy).append_left found).trans hp
end K02
namespace K02
open PySem L2 DL
open Tm
variable {P : Nat → Addr} {S : Sto} {N : List Str}
def cst (d : Nat) : Int := 12 * 3 ^ d - 6
theorem cst_succ (d : Nat) : cst (d + 1) = 3 * cst d + 12 := by unfold cst; rw [Int.pow_succ]; omega
theorem cst_pos (d : Nat) : 6 ≤ cst d := by
  have : (1 : Int) ≤ 3 ^ d := by
    have := Nat.one_le_pow d 3 (by decide)
    exact_mod_cast this
  unfold cst
  omega
theorem zipW_snoc {α β γ : Type} (f : α → β → γ) : ∀ {l : List α} {ts : List β} {n : α} {t : β}, l[ts.length]? = some n → List.zipWith f l (ts ++ [t]) = List.zipWith f l ts ++ [f n t]
  | [], ts, n, t, h => by simp at h
  | x :: l, [], n, t, h => by simp at h; subst h; simp
  | x :: l, u :: ts, n, t, h => by
    have ih := zipW_snoc f (l := l) (ts := ts) (n := n) (t := t) (by simpa using h)
    simp [ih]
theorem take_ok (hN : Names N) {ms : List Str} (h : ms.Perm N) {g : Nat} (hg : g ≤ 2) : okX N (ms.take g) := by
  refine ⟨fun x hx => h.subset (List.mem_of_mem_take hx), (h.nodup_iff.mpr hN.nd).sublist (List.take_sublist _ _), by simp; omega⟩
theorem okX_take {xs : List Str} (h : okX N xs) (g : Nat) : okX N (xs.take g) :=
  ⟨fun x hx => h.1 x (List.mem_of_mem_take hx), h.2.1.sublist (List.take_sublist _ _), by have := h.2.2; simp; omega⟩
theorem F_tm (k : Nat) : F P (k + 3) .f_term_l = runF 9 (b_f_term_l (F P (k + 2))) := rfl
/-- what is drawn at a depth -/
def Gt (N : List Str) (d : Nat) (t : Tm) : Prop := t.gd N ∧ t.dep ≤ d + 1
section
variable {cs : List PyData} {n : Int} {k : Nat} {Q : D → Sto → Prop} {X : Exn → Sto → Prop}
def leafE (r : Fn → List D → M D) : FS := sSeq (sSet 6 (eA mkLst (aCons (eA mkTup (aCons (eC (.p (.str "whole"))) (aCons (eCallX 2 (r .f_pick_l) (aCons (eVar 0) (aCons (eA mkLst (aCons (eC (.p (.int 0))) (aCons (e1 opNeg (e2 opPow (eC (.p (.int 10))) (eC (.p (.int 30))))) (aCons (e2 opPow (eC (.p (.int 10))) (eC (.p (.int 30)))) (aCons (eC (.p (.int 5))) aNil))))) aNil))) aNil))) (aCons (eA mkTup (aCons (eC (.p (.str "text"))) (aCons (eCallX 2 (r .f_pick_l) (aCons (eVar 0) (aCons (eA mkLst (aCons (eC (.p (.str ""))) (aCons (e2 opMulX (eC (.p (.str "a"))) (eC (.p (.int 200)))) (aCons (eC (.p (.str "it's ~"))) aNil)))) aNil))) aNil))) aNil))))
    (sRet (eCallX 2 (r .f_pick_l) (aCons (eVar 0) (aCons (e2 opAddX (e2 opAddX (eA mkLst (aCons (eA mkTup (aCons (eC (.p (.str "name"))) (aCons (eCallX 2 (r .f_pick_l) (aCons (eVar 0) (aCons (eVar 1) aNil))) aNil))) (aCons (eA mkTup (aCons (eC (.p (.str "name"))) (aCons (eCallX 2 (r .f_pick_l) (aCons (eVar 0) (aCons (eVar 1) aNil))) aNil))) aNil))) (eVar 6)) (eA mkLst (aCons (eA mkTup (aCons (eC (.p (.str "hole"))) aNil)) aNil))) aNil))))
theorem b_tm (r : Fn → List D → M D) : b_f_term_l r = (sSeq (sSet 3 (eIf (tC2 (opGt) (eVar 2) (eC (.p (.int 0)))) (eCallX 2 (r .f_draw_l) (aCons (eVar 0) (aCons (eC (.p (.int 8))) aNil))) (eCallX 2 (r .f_draw_l) (aCons (eVar 0) (aCons (eC (.p (.int 4))) aNil)))))
    (sSeq (sIf (tC2 (opLt) (eVar 3) (eC (.p (.int 4)))) (leafE r) sNext)
    (f_term_l_4 r))) := rfl
theorem rep_a : opMulX (.p (.str "a")) (.p (.int 200)) S = .ok (.p (.str (rep 200 97))) S := by
  have h1 : (Str.ofString "a").length ≤ 1000 := by decide +kernel
  have h2 : repS "a" 200 = rep 200 97 := by decide +kernel
  simp [opMulX, h1, h2]
set_option maxHeartbeats 2000000 in
theorem leaf_wp (hc : Cells cs) (hN : Names N) {x2 x3 x4 x5 x6 x7 x8 : Option D} {R : Fl → Sto → Prop} (h : Tape cs 0 1 n S) (hn : n ≤ 100000000) (hk : 4 ≤ k) (q : ∀ (t : Tm) S', t.gd N → t.dep = 1 → Tape cs 0 1 (n + 5) S' → R (.ret (.p t.py)) S') :
    wpS (leafE (F P k) [some (.ob 0), some (.p (.list (N.map .str))), x2, x3, x4, x5, x6, x7, x8] S) R := by
  unfold leafE
  have e1 : ∀ z : Sto, opPow (.p (.int 10)) (.p (.int 30)) z = .ok (.p (.int (10 ^ 30))) z := fun z => rfl
  have e2 : ∀ z : Sto, opNeg (.p (.int (10 ^ 30))) z = .ok (.p (.int (-(10 ^ 30)))) z := fun z => rfl
  have e3 : ∀ z : Sto, mkLst [.p (.int 0), .p (.int (-(10 ^ 30))), .p (.int (10 ^ 30)), .p (.int 5)] z = .ok (.p (.list (wholes.map .int))) z := fun z => rfl
  have e4 : ∀ z : Sto, mkLst [.p (.str ""), .p (.str (rep 200 97)), .p (.str "it's ~")] z = .ok (.p (.list (texts.map .str))) z := fun z => rfl
  have e5 : ∀ (x y : PyData) (z : Sto), mkLst [.p x, .p y] z = .ok (.p (.list [x, y])) z := fun x y z => by simp [mkLst, LIM, pys]
  have e6 : ∀ (x : PyData) (z : Sto), mkLst [.p x] z = .ok (.p (.list [x])) z := fun x z => by simp [mkLst, LIM, pys]
  have hNl : (N.map PyData.str).length < 1000000 := by rw [List.length_map, hN.len]; decide
  have hN0 : N.map PyData.str ≠ [] := by
    intro z
    have := hN.len
    rw [List.map_eq_nil_iff.mp z] at this
    simp at this
  have hpw : (10 : Int) ^ 30 = 1000000000000000000000000000000 := rfl
  rw [hpw] at e1 e2 e3
  simp [-List.map_map, e1, e2, e3]
  refine pk_wp hc h hk (by omega) (by simp [wholes]) (by simp [wholes]) fun d1 S1 hd1 t1 _ => ?_
  simp [-List.map_map, mk2, rep_a, e4]
  refine pk_wp hc t1 hk (by omega) (by simp [texts]) (by simp [texts]) fun d2 S2 hd2 t2 _ => ?_
  simp [-List.map_map, mk2, e5]
  refine pk_wp hc t2 hk (by omega) hN0 hNl fun d3 S3 hd3 t3 _ => ?_
  simp [-List.map_map, mk2]
  refine pk_wp hc t3 hk (by omega) hN0 hNl fun d4 S4 hd4 t4 _ => ?_
  have a1 : ∀ (a b c d : PyData) (z : Sto), opAddX (.p (.list [a, b])) (.p (.list [c, d])) z = .ok (.p (.list [a, b, c, d])) z := fun a b c d z => by rw [addX_l (by simp [LIM])]; rfl
  have a2 : ∀ (a b c d e : PyData) (z : Sto), opAddX (.p (.list [a, b, c, d])) (.p (.list [e])) z = .ok (.p (.list [a, b, c, d, e])) z := fun a b c d e z => by rw [addX_l (by simp [LIM])]; rfl
  simp [-List.map_map, mk2, mk1, e5, e6, a1, a2]
  refine pk_wp hc t4 hk (by omega) (by simp) (by simp) fun d S5 hd t5 _ => ?_
  obtain ⟨i1, hi1, rfl⟩ := List.mem_map.mp hd1
  obtain ⟨s2, hs2, rfl⟩ := List.mem_map.mp hd2
  obtain ⟨n3, hn3, rfl⟩ := List.mem_map.mp hd3
  obtain ⟨n4, hn4, rfl⟩ := List.mem_map.mp hd4
  simp at hd
  rcases hd with rfl | rfl | rfl | rfl | rfl
  · exact q (.lf "name" (.str n3)) S5 (.inl ⟨rfl, n3, hn3, rfl⟩) rfl (t5.mono (by omega))
  · exact q (.lf "name" (.str n4)) S5 (.inl ⟨rfl, n4, hn4, rfl⟩) rfl (t5.mono (by omega))
  · exact q (.lf "whole" (.int i1)) S5 (.inr (.inl ⟨rfl, i1, hi1, rfl⟩)) rfl (t5.mono (by omega))
  · exact q (.lf "text" (.str s2)) S5 (.inr (.inr ⟨rfl, s2, hs2, rfl⟩)) rfl (t5.mono (by omega))
  · exact q .ho S5 trivial rfl (t5.mono (by omega))
set_option maxHeartbeats 8000000 in
theorem tm_wp (hc : Cells cs) (hN : Names N) : ∀ (d : Nat) {n : Int} {S : Sto} {k : Nat} {Q : D → Sto → Prop} {X : Exn → Sto → Prop}, Tape cs 0 1 n S → n + cst d ≤ 100000000 → d + 10 ≤ k → d ≤ 100 →
    (∀ t S', Gt N d t → Tape cs 0 1 (n + cst d) S' → Q (.p t.py) S') → wp (cutX S.length (F P k .f_term_l [.ob 0, .p (.list (N.map .str)), .p (.int d)] S)) Q X := by
  intro d
  induction d with
  | zero =>
    intro n S k Q X h hn hk _ q
    obtain ⟨k, rfl⟩ := k3 (k := k) (by omega)
    have hp : cst 0 = 6 := rfl
    refine wp_cutXS ?_
    rw [F_tm, wp_run]
    show wpS (b_f_term_l (F P (k + 2)) [some (.ob 0), some (.p (.list (N.map .str))), some (.p (.int 0)), none, none, none, none, none, none] S) _
    rw [b_tm]
    have e1 : ∀ z : Sto, opGt (.p (.int 0)) (.p (.int 0)) z = .ok (.p (.bool false)) z := fun z => rfl
    simp [-List.map_map, e1]
    refine dr_wp hc h (by omega) (by omega) (by decide) (by decide) fun g S1 g0 g1 t1 _ => ?_
    have e2 : ∀ z : Sto, opLt (.p (.int g)) (.p (.int 4)) z = .ok (.p (.bool true)) z := fun z => by
      show Out.ok (D.p (.bool (decide (g < 4)))) z = _
      rw [decide_eq_true g1]
    simp [-List.map_map, e2]
    refine leaf_wp hc hN t1 (by omega) (by omega) fun t S2 hg hd t2 => ?_
    exact ⟨t2.1.trans h.1.symm, q t S2 ⟨hg, by omega⟩ (t2.mono (by omega))⟩
  | succ d ih =>
    intro n S k Q X h hn hk hd q
    obtain ⟨k, rfl⟩ := k3 (k := k) (by omega)
    have hp := cst_pos d
    have hs := cst_succ d
    refine wp_cutXS ?_
    rw [F_tm, wp_run]
    show wpS (b_f_term_l (F P (k + 2)) [some (.ob 0), some (.p (.list (N.map .str))), some (.p (.int ((d + 1 : Nat) : Int))), none, none, none, none, none, none] S) _
    rw [b_tm]
    have e1 : ∀ z : Sto, opGt (.p (.int ((d + 1 : Nat) : Int))) (.p (.int 0)) z = .ok (.p (.bool true)) z := fun z => by
      show Out.ok (D.p (.bool (decide (((d + 1 : Nat) : Int) > 0)))) z = _
      rw [decide_eq_true (by omega)]
    have hNl : (N.map PyData.str).length < 1000000 := by rw [List.length_map, hN.len]; decide
    have hN0 : N.map PyData.str ≠ [] := by
      intro z
      have := hN.len
      rw [List.map_eq_nil_iff.mp z] at this
      simp at this
    have ed : ∀ z : Sto, opSub (.p (.int ((d + 1 : Nat) : Int))) (.p (.int 1)) z = .ok (.p (.int (d : Int))) z := fun z => by
      show Out.ok (D.p (.int (((d + 1 : Nat) : Int) - 1))) z = _
      rw [show ((d + 1 : Nat) : Int) - 1 = d by omega]
    have mk3 : ∀ (x y w : PyData) (z : Sto), mkTup [.p x, .p y, .p w] z = .ok (.p (.tuple [x, y, w])) z := fun x y w z => by simp [mkTup, LIM, pys]
    rw [show ((d + 1 : Nat) : Int) = (d : Int) + 1 by omega] at e1 ed
    simp [-List.map_map, e1]
    refine dr_wp hc h (by omega) (by omega) (by decide) (by decide) fun g S1 g0 g1 t1 _ => ?_
    by_cases hg4 : g < 4
    · have e2 : ∀ z : Sto, opLt (.p (.int g)) (.p (.int 4)) z = .ok (.p (.bool true)) z := fun z => by
        show Out.ok (D.p (.bool (decide (g < 4)))) z = _
        rw [decide_eq_true hg4]
      simp [-List.map_map, e2]
      refine leaf_wp hc hN t1 (by omega) (by omega) fun t S2 hg hd t2 => ?_
      exact ⟨t2.1.trans h.1.symm, q t S2 ⟨hg, by omega⟩ (t2.mono (by omega))⟩
    have e2 : ∀ z : Sto, opLt (.p (.int g)) (.p (.int 4)) z = .ok (.p (.bool false)) z := fun z => by
      show Out.ok (D.p (.bool (decide (g < 4)))) z = _
      rw [decide_eq_false hg4]
    simp [-List.map_map, e2]
    unfold f_term_l_4
    by_cases g4 : g = 4
    · subst g4
      simp [-List.map_map, ed]
      refine ih t1 (by omega) (by omega) (by omega) fun f S2 hf t2 => ?_
      try simp [-List.map_map, ed]
      refine ih t2 (by omega) (by omega) (by omega) fun x S3 hx t3 => ?_
      simp [mk3]
      refine ⟨t3.1.trans h.1.symm, q (.us f x) S3 ⟨⟨hf.1, hx.1⟩, ?_⟩ (t3.mono (by omega))⟩
      have h1 := hf.2
      have h2 := hx.2
      simp [dep]; omega
    simp [-List.map_map, g4]
    unfold f_term_l_3
    by_cases g5 : g = 5
    · subst g5
      simp [-List.map_map]
      refine pk_wp hc t1 (by omega) (by omega) hN0 hNl fun d1 S2 hd1 t2 _ => ?_
      obtain ⟨n1, hn1, rfl⟩ := List.mem_map.mp hd1
      try simp [-List.map_map, ed]
      refine ih t2 (by omega) (by omega) (by omega) fun x S3 hx t3 => ?_
      simp [mk3]
      refine ⟨t3.1.trans h.1.symm, q (.gv n1 x) S3 ⟨⟨hn1, hx.1⟩, ?_⟩ (t3.mono (by omega))⟩
      have h2 := hx.2
      simp [dep]; omega
    simp [-List.map_map, g5]
    unfold f_term_l_2
    simp [-List.map_map]
    refine sh_wp hc hN.wd (by rw [hN.len]; decide) t1 (by omega) (by omega) fun ms S2 hms t2 => ?_
    rw [hN.len] at t2
    try simp [-List.map_map]
    refine dr_wp hc t2 (by omega) (by omega) (by decide) (by decide) fun w S3 w0 w1 t3 _ => ?_
    obtain ⟨j, rfl⟩ : ∃ j : Nat, w = j := ⟨w.toNat, by omega⟩
    have hj : j < 2 := by omega
    have esl : ∀ z : Sto, sliM (.p (.list (ms.map .str))) none (some (1 + (j : Int))) z = .ok (.p (.list ((ms.take (1 + j)).map .str))) z := fun z => by
      show Out.ok (D.p (.list (cutP (ms.map .str) none (some (1 + (j : Int)))))) z = _
      rw [show (1 : Int) + (j : Int) = ((1 + j : Nat) : Int) by omega, cutP_take, List.map_take]
    have hown := take_ok hN hms (g := 1 + j) (by omega)
    have hol : (ms.take (1 + j)).length = 1 + j := by
      rw [List.length_take, hms.length_eq, hN.len]; omega
    generalize hO : ms.take (1 + j) = own at esl hown hol
    simp [-List.map_map, esl, tupX]
    by_cases g6 : g = 6
    · subst g6
      simp [-List.map_map]
      have hlL : own.length ≤ LIM := by rw [hol]; simp only [LIM]; omega
      simp [-List.map_map, hlL]
      refine lcD_wp (fun i ys S' => ∃ ts : List Tm, ts.length = i ∧ ys = List.zipWith (fun (n : Str) (t : Tm) => PyData.tuple [.str n, t.py]) own ts ∧ (∀ t ∈ ts, Gt N d t) ∧ Tape cs 0 1 (n + 1 + 4 + 1 + i * cst d) S') (j := 0) ⟨[], rfl, rfl, by simp, by simpa using t3⟩ ?_ ?_
      · rintro i e ys S' he ⟨ts, hl, rfl, hts, t4⟩
        rw [Nat.zero_add] at hl t4
        rw [List.getElem?_map] at he
        cases ho : (own.map PyData.str)[i]? with
        | none => rw [ho] at he; cases he
        | some v =>
          rw [ho] at he
          simp at he
          subst he
          rw [List.getElem?_map] at ho
          cases ho2 : own[i]? with
          | none => rw [ho2] at ho; cases ho
          | some n1 =>
            rw [ho2] at ho
            simp at ho
            subst ho
            have hi : i < 2 := by
              have := (List.getElem?_eq_some_iff.mp ho2).1
              omega
            have hz : ((i : Int) + 1) * cst d = i * cst d + cst d := by rw [Int.add_mul, Int.one_mul]
            have hz2 : (i : Int) * cst d ≤ 1 * cst d := Int.mul_le_mul_of_nonneg_right (by omega) (by omega)
            simp [-List.map_map, ed]
            refine ih t4 (by omega) (by omega) (by omega) fun x S5 hx t5 => ?_
            refine wp_of mk2 ?_
            refine ⟨_, rfl, ts ++ [x], by simp [hl], ?_, fun t ht => ?_, t5.mono (by rw [hz]; omega)⟩
            · subst hl
              rw [zipW_snoc _ ho2]
            · rcases List.mem_append.mp ht with ht | ht
              · exact hts t ht
              · simp at ht; subst ht; exact hx
      · rintro zs S4 ⟨ts, hl, hz, hts, t4⟩
        simp at hz hl
        subst hz
        have hjc : (own.length : Int) * cst d ≤ 2 * cst d := Int.mul_le_mul_of_nonneg_right (by omega) (by omega)
        have t4 : Tape cs 0 1 (n + 6 + 2 * cst d) S4 := t4.mono (by simp; omega)
        try simp [tupX, ed, finL]
        refine ih t4 (by omega) (by omega) (by omega) fun e S5 hee t5 => ?_
        simp [mk3]
        refine ⟨t5.1.trans h.1.symm, ?_⟩
        have t6 : Tape cs 0 1 (n + cst (d + 1)) S5 := t5.mono (by omega)
        have hde := hee.2
        match own, ts, hl, hol, hown, hts with
        | [a], [ta], _, _, hown, hts =>
          have ha := hts ta (by simp)
          have hda := ha.2
          exact q (.l1 a ta e) S5 ⟨⟨hown.1 a (by simp), ha.1, hee.1⟩, by simp [dep]; omega⟩ t6
        | [a, b], [ta, tb], _, _, hown, hts =>
          have ha := hts ta (by simp)
          have hb := hts tb (by simp)
          have hda := ha.2
          have hdb := hb.2
          have hne : a ≠ b := by have := hown.2.1; simp at this; exact this
          exact q (.l2 a ta b tb e) S5 ⟨⟨hown.1 a (by simp), ha.1, hown.1 b (by simp), hb.1, hee.1, hne⟩, by simp [dep]; omega⟩ t6
        | [], _, _, hol, _, _ => simp at hol; omega
        | _ :: _ :: _ :: _, _, _, hol, _, _ => simp at hol; omega
        | [_], [], hl, _, _, _ => simp at hl
        | [_], _ :: _ :: _, hl, _, _, _ => simp at hl
        | [_, _], [], hl, _, _, _ => simp at hl
        | [_, _], [_], hl, _, _, _ => simp at hl
        | [_, _], _ :: _ :: _ :: _, hl, _, _, _ => simp at hl
    simp [-List.map_map, g6]
    unfold f_term_l_1
    simp [-List.map_map]
    refine dr_wp hc t3 (by omega) (by omega) (by decide) (by decide) fun v S4 v0 v1 t4 _ => ?_
    have hr := fun z : Sto => range_ok (j := 1 + v) (S := z) (by omega) (by omega)
    have hvl : (1 + v).toNat ≤ 2 := by omega
    have hvL : (1 + v).toNat ≤ LIM := by simp only [LIM]; omega
    simp [-List.map_map, hr, hvL]
    refine lcT_wp 2 (fun z => ∃ (c : Str) (xs : List Str) (t : Tm), z = .tuple [.str c, nms xs, t.py] ∧ c ∈ N ∧ okX N xs ∧ Gt N d t) (c := 2 + cst d) (by omega) (by simpa using hvl) t4 ?_ ?_
    · intro y hy n' S' hn1 hn2 t
      obtain ⟨i, hi, rfl⟩ := List.mem_map.mp hy
      simp [-List.map_map]
      refine pk_wp hc t (by omega) (by omega) hN0 hNl fun d1 S5 hd1 t5 _ => ?_
      obtain ⟨c1, hc1, rfl⟩ := List.mem_map.mp hd1
      try simp [-List.map_map]
      refine dr_wp hc t5 (by omega) (by omega) (by decide) (by decide) fun u S6 u0 u1 t6 _ => ?_
      obtain ⟨u, rfl⟩ : ∃ j : Nat, u = j := ⟨u.toNat, by omega⟩
      have esl2 : ∀ z : Sto, sliM (.p (.tuple (own.map .str))) none (some (u : Int)) z = .ok (.p (nms (own.take u))) z := fun z => by
        show Out.ok (D.p (.tuple (cutP (own.map .str) none (some (u : Int))))) z = _
        rw [cutP_take, ← List.map_take]
        rfl
      simp [-List.map_map, esl2, ed]
      refine ih t6 (by omega) (by omega) (by omega) fun x S7 hx t7 => ?_
      refine wp_of (mk3 _ _ _ _) ?_
      exact ⟨_, rfl, ⟨c1, own.take u, x, rfl, hc1, okX_take hown u, hx⟩, t7.mono (by omega)⟩
    · intro zs S5 hl hz t5
      have hzl : zs.length = (1 + v).toNat := by simpa using hl
      try simp [ed, finL]
      refine ih t5 (by omega) (by omega) (by omega) fun s S6 hss t6 => ?_
      simp [mk3, tupX]
      refine ⟨t6.1.trans h.1.symm, ?_⟩
      have t7 : Tape cs 0 1 (n + cst (d + 1)) S6 := t6.mono (by omega)
      have hds := hss.2
      match zs, hzl, hz with
      | [], hzl, _ => simp at hzl; omega
      | [z1], _, hz =>
        obtain ⟨c, xs, a, rfl, hc1, hx, ha⟩ := hz z1 (by simp)
        have hda := ha.2
        exact q (.m1 s c xs a) S6 ⟨⟨hss.1, hc1, hx, ha.1⟩, by simp [dep]; omega⟩ t7
      | [z1, z2], _, hz =>
        obtain ⟨c, xs, a, rfl, hc1, hx, ha⟩ := hz z1 (by simp)
        obtain ⟨c', xs', a', rfl, hc1', hx', ha'⟩ := hz z2 (by simp)
        have hda := ha.2
        have hda' := ha'.2
        exact q (.m2 s c xs a c' xs' a') S6 ⟨⟨hss.1, hc1, hx, ha.1, hc1', hx', ha'.1⟩, by simp [dep]; omega⟩ t7
      | _ :: _ :: _ :: _, hzl, _ => simp at hzl; omega
end
end K02
namespace K02
open PySem L2 DL
open Tm
variable {P : Nat → Addr} {S : Sto} {N : List Str}
def odds1 : List PyData := [.none, .bool true, .bool false, .int 0, .int 1, .int (-1), .int 7, .int (10 ^ 40), .str "", .str "a", .str "self", .str "data", .str "A", .str "a b", .str "whole", .tuple [], .list [], .dict [], .tuple [.str "a"]]
def odds2 : List PyData := [.list [.str "a"], .tuple [.int 0], .tuple [.int 1, .int 2], .list [.int 0], .tuple [.tuple [.str "a"]], .dict [(.str "a", .int 1)], .tuple [.str "var", .str "a"], .tuple [.str "con", .str "whole"], .tuple [.str "name", .str "a"], .tuple [.none]]
def odds3 : List PyData := [.tuple [.str "apply", .tuple [.str "con", .str "to"]], .tuple [.str "var", .int 1], .str "abcdefghi", .tuple [.int 1, .int 1], .tuple [.str "whole", .bool true], .list [.tuple []], .int 3, .tuple [.str "same", .tuple []]]
def odds4 : List PyData := [.tuple [.str "given", .int 0, .tuple []], .tuple [.str "case", .str "a", .tuple []], .tuple [.str "whole", .int 1], .tuple [.str "hole"], .tuple [.str "definition", .str "a"], .dict []]
def odds : List PyData := odds1 ++ odds2 ++ odds3 ++ odds4
def snB : Nat → PyData → Bool
  | 0, _ => false
  | n + 1, .tuple xs => decide (xs.length ≤ 1000) && xs.all (snB n)
  | _ + 1, .str x => decide (x.length ≤ 1000) && PyData.strOk x
  | _ + 1, _ => true
theorem snB_of : ∀ {n : Nat} {x : PyData}, snB n x = true → Sn n x
  | 0, _, h => by simp [snB] at h
  | n + 1, .tuple xs, h => by
    simp only [snB, Bool.and_eq_true, decide_eq_true_eq, List.all_eq_true] at h
    exact ⟨h.1, fun y hy => snB_of (h.2 y hy)⟩
  | n + 1, .str x, h => by
    simp only [snB, Bool.and_eq_true, decide_eq_true_eq] at h
    exact h
  | n + 1, .none, _ => trivial
  | n + 1, .bool _, _ => trivial
  | n + 1, .int _, _ => trivial
  | n + 1, .list _, _ => trivial
  | n + 1, .dict _, _ => trivial
def oddB (d : PyData) : Bool := snB 6 d && d.showable && decide (d.depth ≤ 60) && decide (wt d ≤ 1000000)
structure OddOk (d : PyData) : Prop where
  sn : Sn 6 d
  show_ : d.showable = true
  dep : d.depth ≤ 60
  wt : wt d ≤ 1000000
theorem oddB_of {d : PyData} (h : oddB d = true) : OddOk d := by
  simp only [oddB, Bool.and_eq_true, decide_eq_true_eq] at h
  exact ⟨snB_of h.1.1.1, h.1.1.2, h.1.2, h.2⟩
theorem odds_all : odds.all oddB = true := by decide +kernel
theorem odd_ok {d : PyData} (h : d ∈ odds) : OddOk d := oddB_of (List.all_eq_true.mp odds_all d h)
theorem OddOk.repr {d : PyData} (h : OddOk d) : reprM [.p d] S = .ok (.p (.str d.shown)) S := repr_ok h.show_ h.dep h.wt
theorem F_odd (k : Nat) : F P (k + 3) .f_odd_l = runF 2 (b_f_odd_l (F P (k + 2))) := rfl
section
variable {cs : List PyData} {n : Int} {k : Nat} {Q : D → Sto → Prop} {X : Exn → Sto → Prop} {L : Nat}
theorem odd_wp (hc : Cells cs) (h : Tape cs 0 L n S) (hn : n ≤ 100000000) (hk : 7 ≤ k) (q : ∀ d S', d ∈ odds → Tape cs 0 L (n + 1) S' → Oth 0 S S' → Q (.p d) S') : wp (cutX S.length (F P k .f_odd_l [.ob 0] S)) Q X := by
  obtain ⟨k, rfl⟩ := k3 (k := k) (by omega)
  refine wp_cutXS ?_
  rw [F_odd, wp_run]
  show wpS (b_f_odd_l (F P (k + 2)) [some (.ob 0), none] S) _
  unfold b_f_odd_l
  rw [wpS_seq]
  show wpS (some (Fl.next [some (.ob 0), some (.p (.list odds1))], S)) _
  rw [wpS_some]
  show wpS (sSeq _ _ [some (.ob 0), some (.p (.list odds1))] S) _
  rw [wpS_seq]
  show wpS (some (Fl.next [some (.ob 0), some (.p (.list (odds1 ++ odds2)))], S)) _
  rw [wpS_some]
  show wpS (sSeq _ _ [some (.ob 0), some (.p (.list (odds1 ++ odds2)))] S) _
  rw [wpS_seq]
  show wpS (some (Fl.next [some (.ob 0), some (.p (.list (odds1 ++ odds2 ++ odds3)))], S)) _
  rw [wpS_some]
  show wpS (sRet (eCallX 2 (F P (k + 2) .f_pick_l) _) [some (.ob 0), some (.p (.list (odds1 ++ odds2 ++ odds3)))] S) _
  have e4 : ∀ fa : FA, fa = (aCons (eVar 0) (aCons (fun ρ S => .ok (.p (.list odds)) S) aNil)) → wpS (sRet (eCallX 2 (F P (k + 2) .f_pick_l) fa) [some (.ob 0), some (.p (.list (odds1 ++ odds2 ++ odds3)))] S) (rn (fun d s => s.length = S.length ∧ Q d s) fun x s => s.length = S.length ∧ X x s) := fun fa e => by
    rw [e]
    simp
    refine pk_wp hc h (by omega) (by omega) (by simp [odds, odds1]) (by simp [odds, odds1, odds2, odds3, odds4]) fun d S1 hd t1 o1 => ?_
    exact ⟨t1.1.trans h.1.symm, q d S1 hd t1 o1⟩
  have e5 : ∀ {fa : FA}, fa [some (.ob 0), some (.p (.list (odds1 ++ odds2 ++ odds3)))] S = .ok [.ob 0, .p (.list odds)] S → wpS (sRet (eCallX 2 (F P (k + 2) .f_pick_l) fa) [some (.ob 0), some (.p (.list (odds1 ++ odds2 ++ odds3)))] S) (rn (fun d s => s.length = S.length ∧ Q d s) fun x s => s.length = S.length ∧ X x s) := fun {fa} e => by
    have h0 := e4 _ rfl
    simp at h0
    simp
    have e' := e
    rw [List.append_assoc] at e'
    exact wp_of e' ⟨rfl, h0⟩
  exact e5 rfl
end
def Sq : Nat → PyData → Prop
  | 0, _ => False
  | n + 1, .tuple xs => xs.length ≤ 10 ∧ ∀ y ∈ xs, Sq n y
  | _ + 1, x => sOk x
theorem Sq.mono : ∀ {n : Nat} {x : PyData}, Sq n x → Sq (n + 1) x
  | 0, _, h => h.elim
  | n + 1, x, h => by
    cases x with
    | tuple xs => exact ⟨h.1, fun y hy => (h.2 y hy).mono⟩
    | _ => exact h
theorem Sq.up {n m : Nat} {x : PyData} (h : Sq n x) (hm : n ≤ m) : Sq m x := by
  induction hm with
  | refl => exact h
  | step _ ih => exact ih.mono
theorem Sq.sn : ∀ {n : Nat} {x : PyData}, Sq n x → Sn n x
  | 0, _, h => h.elim
  | n + 1, x, h => by
    cases x with
    | tuple xs => exact ⟨by have := h.1; omega, fun y hy => (h.2 y hy).sn⟩
    | _ => exact h
theorem Wd.sok {x : Str} (h : Wd x) : sOk (.str x) := by
  have hb := wd_all wB_all h
  simp only [wB, Bool.and_eq_true, decide_eq_true_eq] at hb
  exact ⟨by have := hb.2; omega, h.so⟩
theorem lit_sok (s : String) (h : (Str.ofString s).length ≤ 1000) : sOk (.str (Str.ofString s)) := ⟨h, strOk_of _⟩
theorem l_hole : sOk (.str "hole") := lit_sok _ (by decide +kernel)
theorem l_use : sOk (.str "use") := lit_sok _ (by decide +kernel)
theorem l_given : sOk (.str "given") := lit_sok _ (by decide +kernel)
theorem l_let : sOk (.str "let") := lit_sok _ (by decide +kernel)
theorem l_match : sOk (.str "match") := lit_sok _ (by decide +kernel)
theorem l_name : sOk (.str "name") := lit_sok _ (by decide +kernel)
theorem l_whole : sOk (.str "whole") := lit_sok _ (by decide +kernel)
theorem l_text : sOk (.str "text") := lit_sok _ (by decide +kernel)
theorem sq_s {n : Nat} {x : Str} (h : sOk (.str x)) : Sq (n + 1) (.str x) := h
theorem sq_t {n : Nat} {xs : List PyData} (hl : xs.length ≤ 10) (h : ∀ y ∈ xs, Sq n y) : Sq (n + 1) (.tuple xs) := ⟨hl, h⟩
theorem sq_nms (hN : ∀ n ∈ N, Wd n) {xs : List Str} (h : okX N xs) {n : Nat} : Sq (n + 2) (nms xs) := sq_t (by have := h.2.2; simp; omega) fun y hy => by
  obtain ⟨x, hx, rfl⟩ := List.mem_map.mp hy
  exact sq_s (hN x (h.1 x hx)).sok
theorem texts_all : texts.all (fun s => decide (s.length ≤ 1000) && PyData.strOk s) = true := by decide +kernel
theorem leaf_sq (hN : ∀ n ∈ N, Wd n) {w : Str} {d : PyData} (h : okL N w d) : Sq 3 (.tuple [.str w, d]) := by
  have go : ∀ {w : Str} {d : PyData}, sOk (.str w) → Sq 2 d → Sq 3 (.tuple [.str w, d]) := fun {w d} h1 h2 => sq_t (by simp) fun y hy => by
    simp at hy
    rcases hy with rfl | rfl
    · exact h1
    · exact h2
  rcases h with ⟨rfl, n, hn, rfl⟩ | ⟨rfl, i, _, rfl⟩ | ⟨rfl, s, hs, rfl⟩
  · exact go l_name (hN n hn).sok
  · exact go l_whole trivial
  · have := List.all_eq_true.mp texts_all s hs
    simp only [Bool.and_eq_true, decide_eq_true_eq] at this
    exact go l_text this
theorem row_sq {n : Nat} {x : Str} {y : PyData} (h1 : sOk (.str x)) (h2 : Sq (n + 1) y) : Sq (n + 2) (.tuple [.str x, y]) := sq_t (by simp) fun z hz => by
  simp at hz
  rcases hz with rfl | rfl
  · exact h1
  · exact h2
theorem row3_sq {n : Nat} {x : Str} {y z : PyData} (h1 : sOk (.str x)) (h2 : Sq (n + 1) y) (h3 : Sq (n + 1) z) : Sq (n + 2) (.tuple [.str x, y, z]) := sq_t (by simp) fun u hu => by
  simp at hu
  rcases hu with rfl | rfl | rfl
  · exact h1
  · exact h2
  · exact h3
theorem list_sq {n : Nat} {xs : List PyData} (hl : xs.length ≤ 10) (h : ∀ y ∈ xs, Sq (n + 1) y) : Sq (n + 2) (.tuple xs) := sq_t hl h
theorem py_sq (hN : ∀ n ∈ N, Wd n) : ∀ {t : Tm}, t.gd N → ∀ {m : Nat}, 3 * t.dep ≤ m → Sq m t.py
  | .lf w d, h, m, hm => (leaf_sq hN h).up (by simp [dep] at hm; omega)
  | .ho, h, m, hm => (sq_t (n := 2) (by simp) (fun y hy => by simp at hy; subst hy; exact l_hole)).up (by simp [dep] at hm; omega)
  | .us f x, h, m, hm => by
    simp only [dep] at hm
    obtain ⟨m, rfl⟩ : ∃ j, m = j + 3 := ⟨m - 3, by omega⟩
    exact row3_sq (n := m + 1) l_use (py_sq hN h.1 (by omega)) (py_sq hN h.2 (by omega))
  | .gv n b, h, m, hm => by
    simp only [dep] at hm
    obtain ⟨m, rfl⟩ : ∃ j, m = j + 3 := ⟨m - 3, by omega⟩
    exact row3_sq (n := m + 1) l_given (hN n h.1).sok (py_sq hN h.2 (by omega))
  | .l1 n b e, h, m, hm => by
    simp only [dep] at hm
    have := dep_pos b
    obtain ⟨m, rfl⟩ : ∃ j, m = j + 4 := ⟨m - 4, by omega⟩
    exact row3_sq (n := m + 2) l_let (list_sq (n := m + 1) (by simp) fun y hy => by
      simp at hy; subst hy
      exact row_sq (n := m) (hN n h.1).sok (py_sq hN h.2.1 (by omega))) (py_sq hN h.2.2 (by omega))
  | .l2 n b n' b' e, h, m, hm => by
    simp only [dep] at hm
    have := dep_pos b
    obtain ⟨m, rfl⟩ : ∃ j, m = j + 4 := ⟨m - 4, by omega⟩
    exact row3_sq (n := m + 2) l_let (list_sq (n := m + 1) (by simp) fun y hy => by
      simp at hy
      rcases hy with rfl | rfl
      · exact row_sq (n := m) (hN n h.1).sok (py_sq hN h.2.1 (by omega))
      · exact row_sq (n := m) (hN n' h.2.2.1).sok (py_sq hN h.2.2.2.1 (by omega))) (py_sq hN h.2.2.2.2.1 (by omega))
  | .m1 s c xs a, h, m, hm => by
    simp only [dep] at hm
    have := dep_pos a
    obtain ⟨m, rfl⟩ : ∃ j, m = j + 5 := ⟨m - 5, by omega⟩
    exact row3_sq (n := m + 3) l_match (py_sq hN h.1 (by omega)) (list_sq (n := m + 2) (by simp) fun y hy => by
      simp at hy; subst hy
      exact row3_sq (n := m + 1) (hN c h.2.1).sok (sq_nms hN h.2.2.1) (py_sq hN h.2.2.2 (by omega)))
  | .m2 s c xs a c' xs' a', h, m, hm => by
    simp only [dep] at hm
    have := dep_pos a
    obtain ⟨m, rfl⟩ : ∃ j, m = j + 5 := ⟨m - 5, by omega⟩
    exact row3_sq (n := m + 3) l_match (py_sq hN h.1 (by omega)) (list_sq (n := m + 2) (by simp) fun y hy => by
      simp at hy
      rcases hy with rfl | rfl
      · exact row3_sq (n := m + 1) (hN c h.2.1).sok (sq_nms hN h.2.2.1) (py_sq hN h.2.2.2.1 (by omega))
      · exact row3_sq (n := m + 1) (hN c' h.2.2.2.2.1).sok (sq_nms hN h.2.2.2.2.2.1) (py_sq hN h.2.2.2.2.2.2 (by omega)))
end K02
namespace K02
open PySem L2 DL
open Tm
variable {P : Nat → Addr} {S : Sto} {N : List Str}
section
variable {cs : List PyData} {n : Int} {k : Nat} {Q : D → Sto → Prop} {X : Exn → Sto → Prop}
theorem F_bent (k : Nat) : F P (k + 3) .f_bent_l = runF 5 (b_f_bent_l (F P (k + 2))) := rfl
/-- what may be put in -/
def Somes (ys : List PyData) : Prop := ys ≠ [] ∧ ys.length ≤ 1000 ∧ ∀ y ∈ ys, Sn 6 y
theorem Sn.take {m j : Nat} {xs : List PyData} (h : Sn m (.tuple xs)) : Sn m (.tuple (xs.take j)) := by
  obtain ⟨m, rfl, h1, h2⟩ := h.tup
  exact ⟨by rw [List.length_take]; omega, fun y hy => h2 y (List.mem_of_mem_take hy)⟩
theorem cutP_mem {xs : List PyData} {lo hi : Option Int} {x : PyData} (h : x ∈ cutP xs lo hi) : x ∈ xs := by
  unfold cutP at h
  first
    | exact List.mem_of_mem_drop (List.mem_of_mem_take h)
    | exact List.mem_of_mem_take (List.mem_of_mem_drop h)
    | (simp at h; grind)
theorem cutP_len {xs : List PyData} {lo hi : Option Int} : (cutP xs lo hi).length ≤ xs.length := by unfold cutP; simp; omega
set_option maxHeartbeats 4000000 in
theorem tail_wp (hc : Cells cs) {ys : List PyData} (hy : Somes ys) {m : Nat} {x : PyData} (hx : Sq m x) {S : Sto} {n0 : Nat} {x3 x4 : Option D} (h : Tape cs 0 1 n S) (hn : n ≤ 100000000) (hk : 7 ≤ k)
    (q : ∀ d S', Sn (m + 6) d → Tape cs 0 1 (n + 3) S' → Q (.p d) S') :
    wpS (f_bent_l_2 (F P k) [some (.ob 0), some (.p x), some (.p (.list ys)), x3, x4] S) (rn (fun d s => s.length = 1 ∧ Q d s) fun x s => s.length = 1 ∧ X x s) := by
  unfold f_bent_l_2 f_bent_l_1
  simp
  refine dr_wp hc h (by omega) (by omega) (by decide) (by decide) fun g S1 g0 g1 t1 _ => ?_
  have pick : wp (cutX S1.length (F P k .f_pick_l [.ob 0, .p (.list ys)] S1)) (fun d s => s.length = 1 ∧ Q d s) (fun x s => s.length = 1 ∧ X x s) := by
    refine pk_wp hc t1 (by omega) (by omega) hy.1 (by have := hy.2.1; omega) fun d S2 hd t2 _ => ?_
    exact ⟨t2.1, q d S2 ((hy.2.2 d hd).up (by omega)) (t2.mono (by omega))⟩
  have e0 : ∀ z : Sto, opGt (.p (.int g)) (.p (.int 0)) z = .ok (.p (.bool (decide (g > 0)))) z := fun z => rfl
  have e1 : ∀ z : Sto, opNeg (.p (.int 1)) z = .ok (.p (.int (-1))) z := fun z => rfl
  have e2 : ∀ z : Sto, opSub (.p (.int g)) (.p (.int 1)) z = .ok (.p (.int (g - 1))) z := fun z => rfl
  cases x with
  | tuple xs =>
    by_cases hg : g > 0
    · obtain ⟨m, rfl, hl, hxs⟩ : ∃ m', m = m' + 1 ∧ xs.length ≤ 10 ∧ ∀ y ∈ xs, Sq m' y := by
        cases m with
        | zero => exact hx.elim
        | succ m => exact ⟨m, rfl, hx.1, hx.2⟩
      have hxs' : ∀ y ∈ xs, Sn (m + 6) y := fun y hy => (hxs y hy).sn.up (by omega)
      have hlx : ∀ z : Sto, listXM finL [.p (.tuple xs)] z = .ok (.p (.list xs)) z := fun z => by simp [listXM, finL, seqOf]
      have hs1 : ∀ z : Sto, sliM (.p (.tuple xs)) none (some (-1)) z = .ok (.p (.tuple (cutP xs none (some (-1))))) z := fun z => rfl
      have hs2 : ∀ z : Sto, sliM (.p (.tuple xs)) none (some 1) z = .ok (.p (.tuple (cutP xs none (some 1)))) z := fun z => rfl
      have hcl : (cutP xs none (some 1)).length ≤ xs.length := cutP_len
      have ha : ∀ z : Sto, opAddX (.p (.tuple xs)) (.p (.tuple (cutP xs none (some 1)))) z = .ok (.p (.tuple (xs ++ cutP xs none (some 1)))) z := fun z => addX_t (by simp only [LIM]; omega)
      have hmk : ∀ z : Sto, mkLst [.p (.list xs), .p (.tuple (cutP xs none (some (-1)))), .p (.tuple (xs ++ cutP xs none (some 1)))] z = .ok (.p (.list [.list xs, .tuple (cutP xs none (some (-1))), .tuple (xs ++ cutP xs none (some 1))])) z := fun z => by simp [mkLst, LIM, pys]
      have hd : decide (g > 0) = true := decide_eq_true hg
      simp [isT, e0, hg, e1, e2, hlx, hs1, hs2, ha, hmk]
      have gs : g = 1 ∨ g = 2 ∨ g = 3 := by omega
      have k1 : Sn (m + 1 + 6) (.list xs) := trivial
      have k2 : Sn (m + 1 + 6) (.tuple (cutP xs none (some (-1)))) := ⟨by have := cutP_len (xs := xs) (lo := none) (hi := some (-1)); omega, fun y hy => hxs' y (cutP_mem hy)⟩
      have k3 : Sn (m + 1 + 6) (.tuple (xs ++ cutP xs none (some 1))) := ⟨by simp; omega, fun y hy => by
        rcases List.mem_append.mp hy with hy | hy
        · exact hxs' y hy
        · exact hxs' y (cutP_mem hy)⟩
      have fin : ∀ d, Sn (m + 1 + 6) d → S1.length = 1 ∧ Q (.p d) S1 := fun d hd => ⟨t1.1, q d S1 hd (t1.mono (by omega))⟩
      rcases gs with rfl | rfl | rfl
      · rw [show (1 : Int) - 1 = 0 from rfl]
        refine wp_of (subs_l rfl) (fin _ k1)
      · rw [show (2 : Int) - 1 = 1 from rfl]
        refine wp_of (subs_l rfl) (fin _ k2)
      · rw [show (3 : Int) - 1 = 2 from rfl]
        refine wp_of (subs_l rfl) (fin _ k3)
    · simp [isT, e0, hg]
      exact pick
  | _ => simp [isT]; exact pick
def bcost (m : Nat) : Int := 2 * m + 4
set_option maxHeartbeats 4000000 in
theorem bent_wp (hc : Cells cs) {ys : List PyData} (hy : Somes ys) : ∀ (m : Nat) {x : PyData} {n : Int} {S : Sto} {k : Nat} {Q : D → Sto → Prop} {X : Exn → Sto → Prop}, Sq m x → Tape cs 0 1 n S → n + bcost m ≤ 100000000 → m + 12 ≤ k →
    (∀ d S', Sn (m + 6) d → Tape cs 0 1 (n + bcost m) S' → Q (.p d) S') → wp (cutX S.length (F P k .f_bent_l [.ob 0, .p x, .p (.list ys)] S)) Q X := by
  intro m
  induction m with
  | zero => intro x n S k Q X hx; exact hx.elim
  | succ m ih =>
    intro x n S k Q X hx h hn hk q
    obtain ⟨k, rfl⟩ := k3 (k := k) (by omega)
    have hb : bcost (m + 1) = bcost m + 2 := by unfold bcost; omega
    have hb4 : 4 ≤ bcost m := by unfold bcost; omega
    refine wp_cutXS ?_
    rw [h.1]
    rw [F_bent, wp_run]
    show wpS (b_f_bent_l (F P (k + 2)) [some (.ob 0), some (.p x), some (.p (.list ys)), none, none] S) _
    unfold b_f_bent_l
    have tl : ∀ {n' : Int} {S' : Sto}, n' ≤ n + 1 → Tape cs 0 1 n' S' → wpS (f_bent_l_2 (F P (k + 2)) [some (.ob 0), some (.p x), some (.p (.list ys)), none, none] S') (rn (fun d s => s.length = 1 ∧ Q d s) fun x s => s.length = 1 ∧ X x s) := fun {n' S'} hn' t =>
      tail_wp (P := P) hc hy hx (n0 := 0) t (by omega) (by omega) fun d S2 hd t2 => q d S2 (hd.up (by omega)) (t2.mono (by omega))
    cases x with
    | tuple xs =>
      obtain ⟨hl, hxs⟩ : xs.length ≤ 10 ∧ ∀ y ∈ xs, Sq m y := hx
      cases he : xs.isEmpty with
      | true =>
        simp [isT, mk0, he]
        exact tl (by omega) h
      | false =>
        have hpos : 0 < xs.length := List.length_pos_iff.mpr (by intro z; rw [z] at he; simp at he)
        simp [isT, mk0, he]
        refine dr_wp hc h (by omega) (by omega) (by decide) (by decide) fun g S1 g0 g1 t1 _ => ?_
        have e0 : ∀ z : Sto, opGt (.p (.int g)) (.p (.int 0)) z = .ok (.p (.bool (decide (g > 0)))) z := fun z => rfl
        by_cases hg : g > 0
        · simp [e0, hg, lenT]
          refine dr_wp hc t1 (by omega) (by omega) (by omega) (by omega) fun a S2 a0 a1 t2 _ => ?_
          obtain ⟨j, rfl⟩ : ∃ j : Nat, a = j := ⟨a.toNat, by omega⟩
          have hj : j < xs.length := by omega
          have hs1 : ∀ z : Sto, sliM (.p (.tuple xs)) none (some (j : Int)) z = .ok (.p (.tuple (xs.take j))) z := fun z => by
            show Out.ok (D.p (.tuple (cutP xs none (some (j : Int))))) z = _
            rw [cutP_take]
          have hs2 : ∀ z : Sto, sliM (.p (.tuple xs)) (some ((j : Int) + 1)) none z = .ok (.p (.tuple (xs.drop (j + 1)))) z := fun z => by
            show Out.ok (D.p (.tuple (cutP xs (some ((j : Int) + 1)) none))) z = _
            rw [show (j : Int) + 1 = ((j + 1 : Nat) : Int) by omega, cutP_drop]
          have hget : ∀ z : Sto, opSubs (.p (.tuple xs)) (.p (.int (j : Int))) z = .ok (.p xs[j]) z := fun z => subs_t (atI_nn (by omega) (by simp [hj]))
          simp [hs1, hget]
          refine ih (hxs _ (List.getElem_mem hj)) t2 (by omega) (by omega) fun d S3 hd t3 => ?_
          have ha1 : ∀ z : Sto, opAddX (.p (.tuple (xs.take j))) (.p (.tuple [d])) z = .ok (.p (.tuple (xs.take j ++ [d]))) z := fun z => addX_t (by simp [LIM]; omega)
          have ha2 : ∀ z : Sto, opAddX (.p (.tuple (xs.take j ++ [d]))) (.p (.tuple (xs.drop (j + 1)))) z = .ok (.p (.tuple (xs.take j ++ [d] ++ xs.drop (j + 1)))) z := fun z => addX_t (by simp [LIM]; omega)
          refine wp_of mk1 ?_
          refine wp_of (ha1 S3) ?_
          simp [hs2]
          refine wp_of (by simpa using ha2 S3) ?_
          refine ⟨t3.1, q _ S3 ⟨by simp; omega, fun y hyy => ?_⟩ (t3.mono (by omega))⟩
          simp at hyy
          rcases hyy with hyy | rfl | hyy
          · exact (hxs y (List.mem_of_mem_take hyy)).sn.up (by omega)
          · exact hd.up (by omega)
          · exact (hxs y (List.mem_of_mem_drop hyy)).sn.up (by omega)
        · simp [e0, hg]
          exact tl (by omega) t1
    | _ => simp [isT]; exact tl (by omega) h
end
end K02
namespace K02
open PySem L2 DL
open Tm
variable {P : Nat → Addr} {S : Sto} {N : List Str}
theorem leaf_all2 : (wholes.all fun i => wholeB (.int i)) = true ∧ (texts.all fun s => textB (.str s)) = true := by
  refine ⟨?_, ?_⟩ <;> decide +kernel
theorem okL_leaf (hN : ∀ n ∈ N, Wd n) {w : Str} {d : PyData} (h : okL N w d) : leafB w d = true := by
  rcases h with ⟨rfl, n, hn, rfl⟩ | ⟨rfl, i, hi, rfl⟩ | ⟨rfl, s, hs, rfl⟩
  · simp [leafB, (hN n hn).nm]
  · have := List.all_eq_true.mp leaf_all2.1 i hi
    simp [leafB, this]
  · have := List.all_eq_true.mp leaf_all2.2 s hs
    simp [leafB, this]
theorem names_X (hN : ∀ n ∈ N, Wd n) {xs : List Str} (h : okX N xs) : namesB (nms xs) = true := by
  have h1 : (xs.map PyData.str).all nameB = true := List.all_eq_true.mpr fun y hy => by
    obtain ⟨x, hx, rfl⟩ := List.mem_map.mp hy
    exact (hN x (h.1 x hx)).nm
  have h2 : lnS (xs.map .str) = xs.length := by
    match xs, h with
    | [], _ => rfl
    | [a], _ => simp [lnS, strsP, SS.dedS, SS.stepS]
    | [a, b], h =>
      have hab : a ≠ b := by have := h.2.1; simp at this; exact this
      simp [lnS, strsP, SS.dedS, SS.stepS, hab]
    | _ :: _ :: _ :: _, h => exact absurd h.2.2 (by simp)
  simp only [namesB, nms, Bool.and_eq_true, decide_eq_true_eq]
  exact ⟨h1, by rw [h2]; simp⟩
theorem termB_py (hN : ∀ n ∈ N, Wd n) : ∀ {t : Tm}, t.gd N → ∀ {n : Nat}, t.dep ≤ n → termB n t.py = true
  | .lf w d, h, n, hn => by
    obtain ⟨n, rfl⟩ : ∃ j, n = j + 1 := ⟨n - 1, by simp [dep] at hn; omega⟩
    exact okL_leaf hN h
  | .ho, h, n, hn => by
    obtain ⟨n, rfl⟩ : ∃ j, n = j + 1 := ⟨n - 1, by simp [dep] at hn; omega⟩
    rfl
  | .us f x, h, n, hn => by
    simp only [dep] at hn
    obtain ⟨n, rfl⟩ : ∃ j, n = j + 1 := ⟨n - 1, by omega⟩
    simp [py, termB, termB_py hN h.1 (n := n) (by omega), termB_py hN h.2 (n := n) (by omega)]
  | .gv m b, h, n, hn => by
    simp only [dep] at hn
    obtain ⟨n, rfl⟩ : ∃ j, n = j + 1 := ⟨n - 1, by omega⟩
    simp [py, termB, (hN m h.1).nm, termB_py hN h.2 (n := n) (by omega)]
  | .l1 m b e, h, n, hn => by
    simp only [dep] at hn
    obtain ⟨n, rfl⟩ : ∃ j, n = j + 1 := ⟨n - 1, by omega⟩
    have hx := names_X hN (xs := [m]) ⟨by simpa using h.1, by simp, by simp⟩
    simp only [nms, List.map_cons, List.map_nil] at hx
    simp [py, termB, bindB, isTup2, fstP, sndP, hx, termB_py hN h.2.1 (n := n) (by omega), termB_py hN h.2.2 (n := n) (by omega)]
  | .l2 m b m' b' e, h, n, hn => by
    simp only [dep] at hn
    obtain ⟨n, rfl⟩ : ∃ j, n = j + 1 := ⟨n - 1, by omega⟩
    have hx := names_X hN (xs := [m, m']) ⟨by simp [h.1, h.2.2.1], by simp [h.2.2.2.2.2], by simp⟩
    simp only [nms, List.map_cons, List.map_nil] at hx
    simp [py, termB, bindB, isTup2, fstP, sndP, hx, termB_py hN h.2.1 (n := n) (by omega), termB_py hN h.2.2.2.1 (n := n) (by omega), termB_py hN h.2.2.2.2.1 (n := n) (by omega)]
  | .m1 s c xs a, h, n, hn => by
    simp only [dep] at hn
    obtain ⟨n, rfl⟩ : ∃ j, n = j + 1 := ⟨n - 1, by omega⟩
    simp [py, termB, armsB, armHd, isTup3, fstP, sndP, trdP, names_X hN h.2.2.1, (hN c h.2.1).nm, termB_py hN h.1 (n := n) (by omega), termB_py hN h.2.2.2 (n := n) (by omega)]
  | .m2 s c xs a c' xs' a', h, n, hn => by
    simp only [dep] at hn
    obtain ⟨n, rfl⟩ : ∃ j, n = j + 1 := ⟨n - 1, by omega⟩
    simp [py, termB, armsB, armHd, isTup3, fstP, sndP, trdP, names_X hN h.2.2.1, names_X hN h.2.2.2.2.2.1, (hN c h.2.1).nm, (hN c' h.2.2.2.2.1).nm, termB_py hN h.1 (n := n) (by omega), termB_py hN h.2.2.2.1 (n := n) (by omega), termB_py hN h.2.2.2.2.2.2 (n := n) (by omega)]
theorem at1_int {t : Tm} {i : Nat} : at1 t (.int (i : Nat)) = (t.pb[i]?).map (·.1) := by simp [at1]
theorem walk_cons {t : Tm} {x : PyData} {r : List PyData} : walk t (x :: r) = match at1 t x with
    | some u => walk u r
    | none => none := rfl
theorem ixs_get {α : Type} : ∀ {l : List α} {j i : Nat} {x : α}, l[i]? = some x → (j + i, x) ∈ ixs j l
  | [], _, _, _, h => by simp at h
  | y :: r, j, 0, x, h => by simp at h; subst h; simp [ixs]
  | y :: r, j, i + 1, x, h => by
    have := ixs_get (l := r) (j := j + 1) (i := i) (x := x) (by simpa using h)
    rw [ixs]
    exact List.mem_cons_of_mem _ (by rw [show j + (i + 1) = j + 1 + i by omega]; exact this)
theorem spS_mem {p : List Nat} {l : List (Nat × (Tm × List Str))} {q : Spt} : q ∈ spS p l ↔ ∃ i u o, (i, (u, o)) ∈ l ∧ q ∈ sp (p ++ [i]) u := by
  unfold spS
  rw [List.mem_flatMap]
  constructor
  · rintro ⟨⟨i, u, o⟩, h1, h2⟩; exact ⟨i, u, o, h1, h2⟩
  · rintro ⟨i, u, o, h1, h2⟩; exact ⟨(i, u, o), h1, h2⟩
theorem sp_to : ∀ (m : Nat) {t : Tm} {p : List Nat} {q : Spt}, t.dep ≤ m → q ∈ sp p t → ∃ r : List Nat, q.1 = p ++ r ∧ walk t (pth r) = some q.2 ∧ r.length + 1 ≤ m ∧ ∀ i ∈ r, i < 3
  | 0, t, _, _, h, _ => by have := dep_pos t; omega
  | m + 1, t, p, q, h, hq => by
    rw [spS_eq] at hq
    rcases List.mem_cons.mp hq with rfl | hq
    · exact ⟨[], by simp, rfl, by simp, by simp⟩
    · obtain ⟨i, u, o, hi, hu⟩ := spS_mem.mp hq
      have hb := bds hi
      simp only at hb
      have hd := pb_dep (List.mem_of_getElem? hb)
      obtain ⟨r, h1, h2, h3, h4⟩ := sp_to m (by omega) hu
      refine ⟨i :: r, by rw [h1]; simp, ?_, by simp; omega, fun j hj => ?_⟩
      · show walk t (.int (i : Nat) :: pth r) = _
        rw [walk_cons, at1_int, hb]
        exact h2
      · rcases List.mem_cons.mp hj with rfl | hj
        · have := (List.getElem?_eq_some_iff.mp hb).1
          have := pb_len t
          omega
        · exact h4 j hj
theorem sp_from : ∀ {xs : List PyData} {t u : Tm} {p : List Nat}, walk t xs = some u → ∃ r : List Nat, xs = pth r ∧ (p ++ r, u) ∈ sp p t
  | [], t, u, p, h => by
    simp [walk] at h
    subst h
    exact ⟨[], rfl, by rw [spS_eq]; simp⟩
  | x :: xs, t, u, p, h => by
    rw [walk_cons] at h
    cases ha : at1 t x with
    | none => rw [ha] at h; cases h
    | some v =>
      rw [ha] at h
      cases x <;> simp [at1] at ha
      rename_i i
      obtain ⟨h0, o, ho⟩ := ha
      obtain ⟨r, e, hr⟩ := sp_from (p := p ++ [i.toNat]) h
      refine ⟨i.toNat :: r, by rw [e]; simp [pth]; omega, ?_⟩
      rw [spS_eq]
      refine List.mem_cons_of_mem _ (spS_mem.mpr ⟨i.toNat, v, o, ?_, by simpa using hr⟩)
      have := ixs_get (l := t.pb) (j := 0) ho
      simpa using this
theorem placed_sp {t : Tm} {q : Spt} (h : q ∈ sp [] t) : placed t (tp q.1) = some q.2 := by
  obtain ⟨r, h1, h2, _, _⟩ := sp_to _ (Nat.le_refl _) h
  simp at h1
  rw [h1]
  exact h2
theorem placed_from {t u : Tm} {c : PyData} (h : placed t c = some u) : ∃ r, c = tp r ∧ (r, u) ∈ sp [] t := by
  cases c <;> simp [placed] at h
  obtain ⟨r, e, hr⟩ := sp_from (p := []) h
  exact ⟨r, by rw [e]; rfl, by simpa using hr⟩
structure Rp (d : PyData) (w : Nat) : Prop where
  show_ : d.showable = true
  dep : d.depth ≤ 30
  wt : wt d ≤ w
theorem Rp.ok {d : PyData} {w : Nat} (h : Rp d w) (hw : w ≤ 1000000) : reprM [.p d] S = .ok (.p (.str d.shown)) S := repr_ok h.show_ (by have := h.dep; omega) (by have := h.wt; omega)
theorem Rp.list {xs : List PyData} {w : Nat} (h : ∀ d ∈ xs, d.showable = true ∧ d.depth ≤ 29) (hw : wtAll xs ≤ w) : Rp (.list xs) (w + 4) := by
  refine ⟨?_, ?_, ?_⟩
  · simp only [PyData.showable]; exact showAll fun d hd => (h d hd).1
  · have := depAll fun d hd => (h d hd).2
    simp only [PyData.depth]; omega
  · simp only [DL.wt]; omega
theorem Rp.tup {xs : List PyData} {w : Nat} (h : ∀ d ∈ xs, d.showable = true ∧ d.depth ≤ 29) (hw : wtAll xs ≤ w) : Rp (.tuple xs) (w + 4) := by
  refine ⟨?_, ?_, ?_⟩
  · simp only [PyData.showable]; exact showAll fun d hd => (h d hd).1
  · have := depAll fun d hd => (h d hd).2
    simp only [PyData.depth]; omega
  · simp only [DL.wt]; omega
theorem wt_dig {i : Nat} (h : i < 3) : wt (.int (i : Nat)) = 1 := by
  match i, h with
  | 0, _ => simp only [wt]; decide +kernel
  | 1, _ => simp only [wt]; decide +kernel
  | 2, _ => simp only [wt]; decide +kernel
theorem sh_dig {i : Nat} (h : i < 3) : (PyData.int (i : Nat)).showable = true := by
  match i, h with
  | 0, _ => decide +kernel
  | 1, _ => decide +kernel
  | 2, _ => decide +kernel
theorem Rp.mono {d : PyData} {v w : Nat} (h : Rp d v) (hw : v ≤ w) : Rp d w := ⟨h.show_, h.dep, Nat.le_trans h.wt hw⟩
theorem tp_rp {r : List Nat} (h : ∀ i ∈ r, i < 3) (hl : r.length ≤ 8) : Rp (tp r) 40 := by
  refine (Rp.tup (w := 24) (fun d hd => ?_) ?_).mono (by decide)
  · obtain ⟨i, hi, rfl⟩ := List.mem_map.mp hd
    exact ⟨sh_dig (h i hi), by simp [PyData.depth]⟩
  · have := wtAll_le (xs := pth r) (m := 3) fun d hd => by
      obtain ⟨i, hi, rfl⟩ := List.mem_map.mp hd
      have := wt_dig (h i hi)
      omega
    simp [pth] at this
    simp only [pth]
    omega
theorem wtAll_app : ∀ {a b : List PyData}, wtAll (a ++ b) = wtAll a + wtAll b
  | [], b => by simp [wtAll]
  | x :: a, b => by
    have := wtAll_app (a := a) (b := b)
    simp only [List.cons_append, wtAll, this]
    omega
def GG : Nat → Nat
  | 0 => 0
  | m + 1 => 3 ^ (m + 1) + 3 * GG m
theorem wt_sp (hN : ∀ n ∈ N, Wd n) : ∀ (m : Nat) {t : Tm} {p : List Nat}, t.gd N → t.dep ≤ m → wtAll ((sp p t).map fun q => q.2.py) ≤ 302 * GG m
  | 0, t, _, _, h => by have := dep_pos t; omega
  | m + 1, t, p, hg, h => by
    rw [spS_eq, List.map_cons]
    have h1 := wt_py hN hg
    have h2 := nd_le h
    have h3 := nd_pos t
    have go : ∀ (l : List (Nat × (Tm × List Str))), (∀ q ∈ l, q.2.1.gd N ∧ q.2.1.dep ≤ m) → wtAll ((spS p l).map fun q => q.2.py) ≤ l.length * (302 * GG m) := fun l => by
      induction l with
      | nil => intro _; simp [spS, wtAll]
      | cons a l ih =>
        intro hl
        have e : spS p (a :: l) = sp (p ++ [a.1]) a.2.1 ++ spS p l := by simp [spS]
        have ha := hl a (by simp)
        have i1 := wt_sp hN m (p := p ++ [a.1]) ha.1 ha.2
        have i2 := ih fun q hq => hl q (by simp [hq])
        rw [e, List.map_append, wtAll_app, List.length_cons, Nat.succ_mul]
        omega
    have h4 := go (ixs 0 t.pb) fun q hq => by
      obtain ⟨i, u, o⟩ := q
      have hb := bds hq
      simp only at hb
      have hm := List.mem_of_getElem? hb
      have hd := pb_dep hm
      exact ⟨(pb_gd hg hm).1, by simp only; omega⟩
    have h5 : (ixs 0 t.pb).length ≤ 3 := by rw [ixs_len]; exact pb_len t
    have h6 : (ixs 0 t.pb).length * (302 * GG m) ≤ 3 * (302 * GG m) := Nat.mul_le_mul_right _ h5
    have h7 : 302 * GG (m + 1) = 302 * 3 ^ (m + 1) + 3 * (302 * GG m) := by simp only [GG]; omega
    simp only [wtAll]
    omega
theorem GG5 : 302 * GG 5 ≤ 400000 := by decide
theorem sp_rp (hN : ∀ n ∈ N, Wd n) {t : Tm} (h : okT N t) {q : Spt} (hq : q ∈ sp [] t) : Rp (tp q.1) 40 := by
  obtain ⟨r, h1, h2, h3, h4⟩ := sp_to 5 h.2 hq
  simp at h1
  rw [h1]
  exact tp_rp h4 (by omega)
theorem sp_gd : ∀ (m : Nat) {t : Tm} {p : List Nat} {q : Spt}, t.gd N → t.dep ≤ m → q ∈ sp p t → q.2.gd N ∧ q.2.dep ≤ m
  | 0, t, _, _, _, h, _ => by have := dep_pos t; omega
  | m + 1, t, p, q, hg, h, hq => by
    rw [spS_eq] at hq
    rcases List.mem_cons.mp hq with rfl | hq
    · exact ⟨hg, h⟩
    · obtain ⟨i, u, o, hi, hu⟩ := spS_mem.mp hq
      have hb := bds hi
      have hm := List.mem_of_getElem? hb
      have hd := pb_dep hm
      have := sp_gd m (pb_gd hg hm).1 (by omega) hu
      exact ⟨this.1, by omega⟩
theorem rp_places (hN : ∀ n ∈ N, Wd n) {t : Tm} (h : okT N t) : Rp (.list ((sp [] t).map fun q => tp q.1)) 10000 := by
  refine (Rp.list (w := 42 * 121) (fun d hd => ?_) ?_).mono (by decide)
  · obtain ⟨q, hq, rfl⟩ := List.mem_map.mp hd
    have := sp_rp hN h hq
    exact ⟨this.show_, by have := (tp_d q.1).2; omega⟩
  · have := wtAll_le (xs := (sp [] t).map fun q => tp q.1) (m := 42) fun d hd => by
      obtain ⟨q, hq, rfl⟩ := List.mem_map.mp hd
      have := (sp_rp hN h hq).wt
      omega
    rw [List.length_map, sp_nd] at this
    have hn := nd_121 h
    have : 42 * t.nd ≤ 42 * 121 := Nat.mul_le_mul_left _ hn
    omega
theorem rp_parts (hN : ∀ n ∈ N, Wd n) {t : Tm} (h : okT N t) : Rp (.list ((sp [] t).map fun q => q.2.py)) 500000 := by
  refine (Rp.list (w := 400000) (fun d hd => ?_) ?_).mono (by decide)
  · obtain ⟨q, hq, rfl⟩ := List.mem_map.mp hd
    have hg := sp_gd 5 h.1 h.2 hq
    exact ⟨py_show hN hg.1, by have := py_dep hN hg.1; have := hg.2; omega⟩
  · exact Nat.le_trans (wt_sp hN 5 h.1 h.2) GG5
theorem dedR_mem : ∀ (xs l : List Str), l.Nodup → (xs.foldl SS.stepR l).Nodup ∧ ∀ y ∈ xs.foldl SS.stepR l, y ∈ xs ∨ y ∈ l
  | [], l, h => ⟨h, fun y hy => .inr hy⟩
  | x :: r, l, h => by
    have hn : (SS.stepR l x).Nodup := by
      unfold SS.stepR
      split
      · exact h
      · rename_i hx; exact List.nodup_cons.mpr ⟨hx, h⟩
    obtain ⟨h1, h2⟩ := dedR_mem r (SS.stepR l x) hn
    refine ⟨h1, fun y hy => ?_⟩
    rcases h2 y hy with h3 | h3
    · exact .inl (by simp [h3])
    · unfold SS.stepR at h3
      split at h3
      · exact .inr h3
      · rcases List.mem_cons.mp h3 with rfl | h3
        · exact .inl (by simp)
        · exact .inr h3
theorem nodup_le : ∀ {l M : List Str}, l.Nodup → (∀ x ∈ l, x ∈ M) → l.length ≤ M.length
  | [], M, _, _ => by simp
  | x :: r, M, h, hs => by
    have hx := hs x (by simp)
    obtain ⟨hxr, hr⟩ := List.nodup_cons.mp h
    have := nodup_le (l := r) (M := M.erase x) hr fun y hy => (List.mem_erase_of_ne (fun z => hxr (by rw [← z]; exact hy))).mpr (hs y (by simp [hy]))
    rw [List.length_erase_of_mem hx] at this
    have := List.length_pos_of_mem hx
    simp
    omega
theorem strsP_map : ∀ xs : List Str, strsP (xs.map .str) = some xs
  | [] => rfl
  | x :: r => by simp [strsP, strsP_map r]
def frs (t : Tm) : List Str := sortS (SS.dedR (fr [] t))
theorem frs_ok (hN : Names N) {t : Tm} (h : okT N t) : (SS.dedR (fr [] t)).length ≤ 4 ∧ ∀ x ∈ frs t, x ∈ N := by
  obtain ⟨h1, h2⟩ := dedR_mem (fr [] t) [] (by simp)
  have hs : ∀ x ∈ SS.dedR (fr [] t), x ∈ N := fun x hx => by
    rcases h2 x hx with h3 | h3
    · exact fr_mem h.1 h3
    · simp at h3
  refine ⟨by rw [← hN.len]; exact nodup_le h1 hs, fun x hx => hs x ((sortS_perm _).subset hx)⟩
theorem sortset_ok (hN : Names N) {t : Tm} (h : okT N t) : sortSetM (.p (.list ((fr [] t).map .str))) S = .ok (.p (.list ((frs t).map .str))) S := by
  have h1 := (frs_ok hN h).1
  have h2 := fr_len (t := t) (h := [])
  have h3 := nd_121 h
  have c : (fr [] t).length ≤ 1000 ∧ (SS.dedR (fr [] t)).length < 64 := ⟨by omega, by omega⟩
  simp only [sortSetM, lstOf, sortSetD, strsP_map]
  rw [if_pos c]
  rfl
theorem rp_frs (hN : Names N) {t : Tm} (h : okT N t) : Rp (.tuple ((frs t).map .str)) 200 := by
  have h1 := (frs_ok hN h).1
  have hl : (frs t).length ≤ 4 := by rw [frs, (sortS_perm _).length_eq]; exact h1
  refine (Rp.tup (w := 22 * 4) (fun d hd => ?_) ?_).mono (by decide)
  · obtain ⟨x, hx, rfl⟩ := List.mem_map.mp hd
    exact ⟨rfl, by simp [PyData.depth]⟩
  · have := wtAll_le (xs := (frs t).map .str) (m := 22) fun d hd => by
      obtain ⟨x, hx, rfl⟩ := List.mem_map.mp hd
      have := (hN.wd x ((frs_ok hN h).2 x hx)).wt
      omega
    rw [List.length_map] at this
    have : 22 * (frs t).length ≤ 22 * 4 := Nat.mul_le_mul_left _ hl
    omega
theorem F_fn (k : Nat) : F P (k + 3) .f_free_names = runF 1 (b_f_free_names (F P (k + 2))) := rfl
theorem fn_ok (hN : Names N) {k : Nat} (hk : 21 ≤ k) {t : Tm} (h : okT N t) : F P k .f_free_names [.p t.py] S = .ok (.p (.tuple ((frs t).map .str))) S := by
  obtain ⟨k, rfl⟩ := k3 (k := k) (by omega)
  rw [F_fn]
  refine run_ret (m := 1) ?_
  show b_f_free_names (F P (k + 2)) [some (.p t.py)] S = _
  unfold b_f_free_names
  have hu := used_ok (P := P) (S := S) (k := k + 2) (by omega) h
  simp [mk0, hu, sortset_ok hN h, tupX]
theorem F_os (k : Nat) : F P (k + 3) .f_is_outside_l = runF 3 (b_f_is_outside_l (F P (k + 2))) := rfl
theorem os_ok {k : Nat} (hk : 9 ≤ k) {t : Tm} {c : PyData} (h : okT N t) (hp : placed t c = none) (hr : ∀ z : Sto, reprM [.p c] z = .ok (.p (.str c.shown)) z) : F P k .f_is_outside_l [.p t.py, .p c] S = .ok (.p (.bool true)) S := by
  obtain ⟨k, rfl⟩ := k3 (k := k) (by omega)
  rw [F_os]
  refine run_ret (m := 3) ?_
  show b_f_is_outside_l (F P (k + 2)) [some (.p t.py), some (.p c), none] S = _
  unfold b_f_is_outside_l f_is_outside_l_1
  have hn := pa_none (P := P) (S := S) (k := k + 2) (by omega) (gd_wk h.1) hp
  have hx : cutX S.length (Out.err (Oot c) S : Out D) = .err (Oot c) S := by simp [cutX]
  have hb : (sExpr (eCallX 2 (F P (k + 2) .f_part_at) (aCons (eVar 0) (aCons (eVar 1) aNil)))) [some (.p t.py), some (.p c), none] S = some (.exc (Oot c) [some (.p t.py), some (.p c), none], S) := by
    simp [hn, hx]
  have ht : (sTry "OutOfTerm" 2 (sExpr (eCallX 2 (F P (k + 2) .f_part_at) (aCons (eVar 0) (aCons (eVar 1) aNil)))) (fun a dd => (eAnd (e2 (opEqZ false) (eA reprM (aCons (eXf a dd 2 "place") aNil)) (eA reprM (aCons (eVar 1) aNil))) (eXi a dd 2 true)))) [some (.p t.py), some (.p c), none] S = some (.ret (.p (.bool true)), S) := by
    unfold sTry
    rw [hb]
    simp [exRet, eXf, eXi, xn, hr]
  rw [sSeq_, ht]
end K02
namespace K02
open PySem L2 DL
open Tm
variable {P : Nat → Addr} {S : Sto} {N : List Str}
abbrev rho (a x2 : Option D) (N : List Str) (t : Tm) (x6 x7 x8 x9 : Option D) : Ev := [a, some (.ob 0), x2, some (.p (.list (N.map .str))), some (.p t.py), some (.p (.list ((sp [] t).map spy))), x6, x7, x8, x9]
section
variable {cs : List PyData} {n : Int} {k : Nat} {a x2 x6 x7 x8 x9 : Option D} {R : Fl → Sto → Prop} {t : Tm}
theorem eqS {s : Str} : opEqZ true (.p (.str s)) (.p (.str s)) S = .ok (.p (.bool false)) S := by simp
/-- is the value as a place of the term, or refused -/
structure XOk (x : PyData) : Prop where
  show_ : x.showable = true
  dep : x.depth ≤ 60
  wt : wt x ≤ 1000000
theorem XOk.repr {d : PyData} (h : XOk d) : reprM [.p d] S = .ok (.p (.str d.shown)) S := repr_ok h.show_ h.dep h.wt
theorem OddOk.x {d : PyData} (h : OddOk d) : XOk d := ⟨h.show_, h.dep, h.wt⟩
theorem Rp.x {d : PyData} {w : Nat} (h : Rp d w) (hw : w ≤ 1000000) : XOk d := ⟨h.show_, by have := h.dep; omega, Nat.le_trans h.wt hw⟩
theorem eLc_on {α : Type} {f : FI} {g : FG} {e : FE} {vs : List Nat} {ρ : Ev} (p h : α → PyData) {xs : List α} (hf : f ρ S = .ok (xs.map fun x => D.p (p x)) S) (hl : xs.length ≤ 1000)
    (H : ∀ x ∈ xs, ∃ ρ1, g (.p (p x)) (wipeD ρ vs) S = some (ρ1, S) ∧ e ρ1 S = .ok (.p (h x)) S) : eLc f g tYesD e vs finL ρ S = .ok (.p (.list (xs.map h))) S := by
  unfold eLc
  rw [hf]
  simp only [Out.bind_ok, List.length_map]
  rw [if_pos (LIMn hl), lcD_on p h H]
  rfl
theorem iSp {ρ : Ev} {xs : List Spt} (h : ρ[5]? = some (some (.p (.list (xs.map spy))))) (hl : xs.length ≤ 1000) : iSeq (eVar 5) ρ S = .ok (xs.map fun q => D.p (spy q)) S := by
  have e : eVar 5 ρ S = .ok (.p (.list (xs.map spy))) S := by unfold eVar; rw [h]
  have hlL : (xs.map spy).length ≤ LIM := by rw [List.length_map]; exact LIMn hl
  simp [-List.map_map, -List.length_map, e, hlL]
  simp
theorem sp_1000 (h : okT N t) : (sp [] t).length ≤ 1000 := by rw [sp_nd]; have := nd_121 h; omega
set_option maxHeartbeats 2000000 in
theorem l1_wp (hN : Names N) (h : okT N t) {x : PyData} (hx : XOk x) (hk : 9 ≤ k) {r2 : Fn → List D → M D} (q : R (.next (rho a x2 N t (some (.p x)) x7 x8 x9)) S) :
    wpS (f_law_1 (F P k) r2 (rho a x2 N t (some (.p x)) x7 x8 x9) S) R := by
  unfold f_law_1
  have hcomp : eLc (iSeq (eVar 5)) (gTupD 2 (gConss (gN 8) (gConss (gN 9) gNils))) tYesD (eA reprM (aCons (eVar 8) aNil)) [8, 9] finL (rho a x2 N t (some (.p x)) x7 x8 x9) S = .ok (.p (.list ((sp [] t).map fun q => .str (tp q.1).shown))) S :=
    eLc_on spy (fun q => .str (tp q.1).shown) (iSp rfl (sp_1000 h)) (sp_1000 h) fun q hq => ⟨[a, some (.ob 0), x2, some (.p (.list (N.map .str))), some (.p t.py), some (.p (.list ((sp [] t).map spy))), some (.p x), x7, some (.p (tp q.1)), some (.p q.2.py)], rfl, by
      have := (sp_rp hN.wd h hq).ok (S := S) (by decide)
      simp [this]⟩
  have hin : opInX true (.p (.str x.shown)) (.p (.list ((sp [] t).map fun q => .str (tp q.1).shown))) S = .ok (.p (.bool (!decide (x.shown ∈ (sp [] t).map fun q => (tp q.1).shown)))) S := by
    have e : ((sp [] t).map fun q => PyData.str (tp q.1).shown) = ((sp [] t).map fun q => (tp q.1).shown).map PyData.str := by simp
    rw [e, inX_l rfl flatStrs, inP_str]
    simp
  have htest : (tC2 (opInX true) (eA reprM (aCons (eVar 6) aNil)) (eLc (iSeq (eVar 5)) (gTupD 2 (gConss (gN 8) (gConss (gN 9) gNils))) tYesD (eA reprM (aCons (eVar 8) aNil)) [8, 9] finL)) (rho a x2 N t (some (.p x)) x7 x8 x9) S = .ok (!decide (x.shown ∈ (sp [] t).map fun q => (tp q.1).shown)) S := by
    have hr : eA reprM (aCons (eVar 6) aNil) (rho a x2 N t (some (.p x)) x7 x8 x9) S = .ok (.p (.str x.shown)) S := by simp [hx.repr]
    unfold tC2 e2
    rw [hr]
    simp only [Out.bind_ok]
    rw [hcomp]
    simp only [Out.bind_ok]
    rw [hin]
    rfl
  have hcond : (tAndD (tC2 (opInX true) (eA reprM (aCons (eVar 6) aNil)) (eLc (iSeq (eVar 5)) (gTupD 2 (gConss (gN 8) (gConss (gN 9) gNils))) tYesD (eA reprM (aCons (eVar 8) aNil)) [8, 9] finL)) (tNotD (tVal (eCallX 2 (F P k .f_is_outside_l) (aCons (eVar 4) (aCons (eVar 6) aNil)))))) (rho a x2 N t (some (.p x)) x7 x8 x9) S = .ok false S := by
    unfold tAndD
    rw [htest]
    by_cases hm : x.shown ∈ (sp [] t).map fun q => (tp q.1).shown
    · simp [hm]
    · have hp : placed t x = none := by
        cases hp : placed t x with
        | none => rfl
        | some u =>
          obtain ⟨r, rfl, hr⟩ := placed_from hp
          exact absurd (List.mem_map.mpr ⟨(r, u), hr, rfl⟩) hm
      have ho := os_ok (P := P) (S := S) (k := k) hk h hp fun z => hx.repr
      simp [hm, ho, cut1]
  unfold sIf
  rw [hcond]
  simp
  exact q
def abcs : List PyData := [.str "in", .str (rep 9 97), .str (rep 201 97), .int (10 ^ 30 + 1), .bool true]
theorem abcs_all : abcs.all (snB 6) = true := by decide +kernel
theorem rep_9 : opMulX (.p (.str "a")) (.p (.int 9)) S = .ok (.p (.str (rep 9 97))) S := by
  have h1 : (Str.ofString "a").length ≤ 1000 := by decide +kernel
  have h2 : repS "a" 9 = rep 9 97 := by decide +kernel
  simp [opMulX, h1, h2]
theorem rep_201 : opMulX (.p (.str "a")) (.p (.int 201)) S = .ok (.p (.str (rep 201 97))) S := by
  have h1 : (Str.ofString "a").length ≤ 1000 := by decide +kernel
  have h2 : repS "a" 201 = rep 201 97 := by decide +kernel
  simp [opMulX, h1, h2]
theorem reprB {b : Bool} : reprM [.p (.bool b)] S = .ok (.p (.str (PyData.bool b).shown)) S := repr_ok rfl (by simp [PyData.depth]) (by cases b <;> decide +kernel)
set_option maxHeartbeats 4000000 in
theorem l2_wp (hc : Cells cs) (hN : Names N) (h : okT N t) (ht : Tape cs 0 1 n S) (hn : n ≤ 10000000) (hk : 100 ≤ k) {r2 : Fn → List D → M D} (q : ∀ S' y, Tape cs 0 1 (n + 40) S' → R (.next (rho a x2 N t y x7 x8 x9)) S') :
    wpS (f_law_2 (F P k) r2 (rho a x2 N t x6 x7 x8 x9) S) R := by
  unfold f_law_2
  have e1 : ∀ z : Sto, opPow (.p (.int 10)) (.p (.int 30)) z = .ok (.p (.int (10 ^ 30))) z := fun z => rfl
  have hpw : (10 : Int) ^ 30 = 1000000000000000000000000000000 := rfl
  have e2 : ∀ z : Sto, opAddX (.p (.int (10 ^ 30))) (.p (.int 1)) z = .ok (.p (.int (10 ^ 30 + 1))) z := fun z => rfl
  rw [hpw] at e1 e2
  simp [-List.map_map]
  refine odd_wp hc ht (by omega) (by omega) fun o1 S1 ho1 t1 _ => ?_
  try simp [-List.map_map]
  refine odd_wp hc t1 (by omega) (by omega) fun o2 S2 ho2 t2 _ => ?_
  obtain ⟨n0, r, hNr⟩ : ∃ n0 r, N = n0 :: r := by
    have := hN.len
    cases N with
    | nil => simp at this
    | cons n0 r => exact ⟨n0, r, rfl⟩
  have hn0 : Wd n0 := hN.wd n0 (by rw [hNr]; simp)
  have e3 : ∀ z : Sto, opSubs (.p (.list (N.map .str))) (.p (.int 0)) z = .ok (.p (.str n0)) z := fun z => by rw [hNr]; exact subs_l (atI_nn (by decide) rfl)
  have hmk : ∀ z : Sto, mkLst [.p o1, .p o2, .p (.str "in"), .p (.str (rep 9 97)), .p (.str (rep 201 97)), .p (.int (1000000000000000000000000000000 + 1)), .p (.bool true), .p (.str n0), .p (.tuple [])] z = .ok (.p (.list (o1 :: o2 :: (abcs ++ [.str n0, .tuple []])))) z := fun z => by simp [mkLst, LIM, pys, abcs]
  simp only [Int.reduceAdd] at hmk e2
  simp [-List.map_map, rep_9, rep_201, e1, e2, e3, mk0, hmk]
  have hsm : Somes (o1 :: o2 :: (abcs ++ [.str n0, .tuple []])) := by
    refine ⟨by simp, by simp [abcs], fun y hy => ?_⟩
    simp only [List.mem_cons, List.mem_append, List.not_mem_nil, or_false] at hy
    rcases hy with rfl | rfl | hy | rfl | rfl
    · exact (odd_ok ho1).sn
    · exact (odd_ok ho2).sn
    · exact snB_of (List.all_eq_true.mp abcs_all y hy)
    · exact hn0.sok
    · exact ⟨by simp, by simp⟩
  have hsq : Sq 15 t.py := py_sq hN.wd h.1 (by have := h.2; omega)
  have hb : bcost 15 = 34 := rfl
  refine bent_wp hc hsm 15 hsq t2 (by omega) (by omega) fun d S3 hd t3 => ?_
  have i1 := term_ok (P := P) 21 (k := k) (S := S3) hd (by omega)
  have i2 := one_ok (P := P) 21 (k := k) (S := S3) hd (by omega)
  simp [-List.map_map, i1, i2, cut1, reprB]
  exact q S3 _ (t3.mono (by omega))
set_option maxHeartbeats 1000000 in
theorem l3_wp (hc : Cells cs) (hN : Names N) (h : okT N t) (ht : Tape cs 0 1 n S) (hn : n ≤ 2000000) (hk : 100 ≤ k) {r2 : Fn → List D → M D} (q : ∀ S' y6 y7, Tape cs 0 1 (n + 400) S' → R (.next (rho a x2 N t y6 y7 x8 x9)) S') :
    wpS (f_law_3 (F P k) r2 (rho a x2 N t x6 x7 x8 x9) S) R := by
  unfold f_law_3
  simp [-List.map_map, range_ok (j := 8) (by decide) (by decide)]
  refine forD_wp (fun j ρ S' => (∃ y6 y7, ρ = rho a x2 N t y6 y7 x8 x9) ∧ Tape cs 0 1 (n + 40 * j) S') (j := 0) ⟨⟨_, _, rfl⟩, by simpa using ht⟩ ?_ ?_
  · rintro i d ρ S' hd ⟨⟨y6, y7, rfl⟩, t0⟩
    have hi : i < 8 := by
      have := (List.getElem?_eq_some_iff.mp hd).1
      simpa using this
    show wpS (f_law_2 (F P k) r2 (rho a x2 N t y6 (some d) x8 x9) S') _
    refine l2_wp hc hN h t0 (by omega) hk fun S2 y t2 => ?_
    exact ⟨⟨_, _, rfl⟩, t2.mono (by omega)⟩
  · rintro ρ S' ⟨⟨y6, y7, rfl⟩, t0⟩
    exact q S' _ _ (t0.mono (by simp))
def z30 : List PyData := List.replicate 30 (.int 0)
def sevens : List PyData := [.tuple [.int 0, .bool true], .list [.int 0], .tuple z30, .tuple [.str "0"], .tuple [.int (-1)]]
def xB (d : PyData) : Bool := d.showable && decide (d.depth ≤ 60) && decide (wt d ≤ 1000000)
theorem xB_of {d : PyData} (h : xB d = true) : XOk d := by
  simp only [xB, Bool.and_eq_true, decide_eq_true_eq] at h
  exact ⟨h.1.1, h.1.2, h.2⟩
theorem sevens_all : sevens.all xB = true := by decide +kernel
theorem t30 : opMulT (.p (.tuple [.int 0])) (.p (.int 30)) S = .ok (.p (.tuple z30)) S := rfl
theorem neg1 : opNeg (.p (.int 1)) S = .ok (.p (.int (-1))) S := rfl
set_option maxHeartbeats 4000000 in
theorem l4_wp (hc : Cells cs) (hN : Names N) (h : okT N t) (ht : Tape cs 0 1 n S) (hn : n ≤ 1000000) (hk : 100 ≤ k) {r2 : Fn → List D → M D} (q : ∀ S' y6 y7, Tape cs 0 1 (n + 410) S' → R (.next (rho a x2 N t y6 y7 x8 x9)) S') :
    wpS (f_law_4 (F P k) r2 (rho a x2 N t x6 x7 x8 x9) S) R := by
  unfold f_law_4
  simp only [wpS_seq]
  simp [-List.map_map]
  refine odd_wp hc ht (by omega) (by omega) fun o1 S1 ho1 t1 _ => ?_
  try simp [-List.map_map]
  refine pk_wp hc t1 (by omega) (by omega) (by rw [spS_eq]; simp) (by have := sp_1000 h; simp; omega) fun d S2 hd t2 _ => ?_
  obtain ⟨s, hs, rfl⟩ := List.mem_map.mp hd
  have e0 : ∀ z : Sto, opSubs (.p (spy s)) (.p (.int 0)) z = .ok (.p (tp s.1)) z := fun z => subs_t rfl
  simp [-List.map_map, e0]
  refine dr_wp hc t2 (by omega) (by omega) (by decide) (by decide) fun g S3 g0 g1 t3 _ => ?_
  obtain ⟨j, rfl⟩ : ∃ j : Nat, g = j := ⟨g.toNat, by omega⟩
  obtain ⟨r, hr1, hr2, hr3, hr4⟩ := sp_to 5 h.2 hs
  simp at hr1
  have hadd : ∀ z : Sto, opAddX (.p (tp s.1)) (.p (.tuple [.int (j : Nat)])) z = .ok (.p (tp (s.1 ++ [j]))) z := fun z => addTp (by rw [hr1]; omega)
  have hmk : ∀ z : Sto, mkLst [.p o1, .p (tp (s.1 ++ [j])), .p (.tuple [.int 0, .bool true]), .p (.list [.int 0]), .p (.tuple z30), .p (.tuple [.str "0"]), .p (.tuple [.int (-1)])] z = .ok (.p (.list (o1 :: tp (s.1 ++ [j]) :: sevens))) z := fun z => by simp [mkLst, LIM, pys, sevens]
  have hml : ∀ z : Sto, mkLst [.p (.int 0)] z = .ok (.p (.list [.int 0])) z := fun z => by simp [mkLst, LIM, pys]
  simp [-List.map_map, -wpS_forD, mk1, mk2, hadd, hml, t30, neg1, hmk, LIM]
  have hxs : ∀ x ∈ o1 :: tp (s.1 ++ [j]) :: sevens, XOk x := fun x hx => by
    rcases List.mem_cons.mp hx with rfl | hx
    · exact (odd_ok ho1).x
    · rcases List.mem_cons.mp hx with rfl | hx
      · refine (tp_rp (r := s.1 ++ [j]) (fun i hi => ?_) (by rw [hr1]; simp; omega)).x (by decide)
        rcases List.mem_append.mp hi with hi | hi
        · rw [hr1] at hi; exact hr4 i hi
        · simp at hi; omega
      · exact xB_of (List.all_eq_true.mp sevens_all x hx)
  have hsv : (sevens.length : Nat) = 5 := rfl
  try simp [-List.map_map, -wpS_forD, hsv]
  have hm : (D.p o1 :: D.p (tp (s.1 ++ [j])) :: sevens.map D.p) = (o1 :: tp (s.1 ++ [j]) :: sevens).map D.p := rfl
  rw [hm]
  refine forD_wp (fun i ρ S' => (∃ y6, ρ = rho a x2 N t y6 x7 x8 x9) ∧ S' = S3) (j := 0) ⟨⟨_, rfl⟩, rfl⟩ ?_ ?_
  · rintro i d ρ S' hd ⟨⟨y6, rfl⟩, rfl⟩
    rw [List.getElem?_map] at hd
    cases hx : (o1 :: tp (s.1 ++ [j]) :: sevens)[i]? with
    | none => rw [hx] at hd; cases hd
    | some x =>
      rw [hx] at hd
      simp at hd
      subst hd
      show wpS (f_law_1 (F P k) r2 (rho a x2 N t (some (.p x)) x7 x8 x9) S') _
      refine l1_wp hN h (hxs x (List.mem_of_getElem? hx)) (by omega) ?_
      exact ⟨⟨_, rfl⟩, rfl⟩
  · rintro ρ S' ⟨⟨y6, rfl⟩, rfl⟩
    refine l3_wp hc hN h t3 (by omega) hk fun S4 y6 y7 t4 => ?_
    exact q S4 _ _ (t4.mono (by omega))
theorem eqRep {f g : FE} {ρ : Ev} {d : PyData} (h1 : f ρ S = .ok (.p d) S) (h2 : g ρ S = .ok (.p d) S) (hr : reprM [.p d] S = .ok (.p (.str d.shown)) S) : (tC2 (opEqZ true) (eA reprM (aCons f aNil)) (eA reprM (aCons g aNil))) ρ S = .ok false S := by
  unfold tC2 e2 eA aCons aNil
  simp only [h1, h2, Out.bind_ok, hr, eqS]
set_option maxHeartbeats 4000000 in
theorem l5_wp (hc : Cells cs) (hN : Names N) (h : okT N t) (ht : Tape cs 0 1 n S) (hn : n ≤ 1000000) (hk : 100 ≤ k) {r2 : Fn → List D → M D} (q : ∀ S' y6 y7, Tape cs 0 1 (n + 410) S' → R (.next (rho a x2 N t y6 y7 x8 x9)) S') :
    wpS (f_law_5 (F P k) r2 (rho a x2 N t x6 x7 x8 x9) S) R := by
  unfold f_law_5
  have i1 := fn_ok (P := P) (S := S) hN (k := k) (by omega) h
  have i2 := free_ok (P := P) (S := S) (k := k) (by omega) h
  have i3 := sortset_ok (S := S) hN h
  have i5 : ∀ {xs : List Str}, tupleXM [.p (.list (xs.map .str))] S = .ok (.p (.tuple (xs.map .str))) S := rfl
  have j1 : eCallX 1 (F P k .f_free_names) (aCons (eVar 4) aNil) (rho a x2 N t x6 x7 x8 x9) S = .ok (.p (.tuple ((frs t).map .str))) S := by
    simp [-List.map_map, i1, cut1]
  have j2 : (eA tupleXM (aCons (e1 sortSetM (eCallX 2 (F P k .f_free_l) (aCons (eVar 4) (aCons (eA mkTup aNil) aNil)))) aNil)) (rho a x2 N t x6 x7 x8 x9) S = .ok (.p (.tuple ((frs t).map .str))) S := by
    simp [-List.map_map, mk0, i2, i3, i5, cut1]
  have ht1 := eqRep j1 j2 ((rp_frs hN h).ok (S := S) (by decide))
  rw [wpS_seq]
  unfold sIf
  rw [ht1]
  simp only [wpS_st, wp_ok]
  exact l4_wp hc hN h ht hn hk q
set_option maxHeartbeats 4000000 in
theorem l6_wp (hc : Cells cs) (hN : Names N) (h : okT N t) (ht : Tape cs 0 1 n S) (hn : n ≤ 1000000) (hk : 100 ≤ k) {r2 : Fn → List D → M D} (q : ∀ S' y6 y7, Tape cs 0 1 (n + 410) S' → R (.next (rho a x2 N t y6 y7 x8 x9)) S') :
    wpS (f_law_6 (F P k) r2 (rho a x2 N t x6 x7 x8 x9) S) R := by
  unfold f_law_6
  have c1 : eLc (iSeq (eVar 5)) (gTupD 2 (gConss (gN 8) (gConss (gN 9) gNils))) tYesD (eCallX 2 (F P k .f_part_at) (aCons (eVar 4) (aCons (eVar 8) aNil))) [8, 9] finL (rho a x2 N t x6 x7 x8 x9) S = .ok (.p (.list ((sp [] t).map fun q => q.2.py))) S :=
    eLc_on spy (fun q => q.2.py) (iSp rfl (sp_1000 h)) (sp_1000 h) fun q hq => ⟨[a, some (.ob 0), x2, some (.p (.list (N.map .str))), some (.p t.py), some (.p (.list ((sp [] t).map spy))), x6, x7, some (.p (tp q.1)), some (.p q.2.py)], rfl, by
      have := pa_some (P := P) (S := S) (k := k) (by omega) (gd_wk h.1) (placed_sp hq)
      simp [this, cut1]⟩
  have c2 : eLc (iSeq (eVar 5)) (gTupD 2 (gConss (gN 8) (gConss (gN 9) gNils))) tYesD (eVar 9) [8, 9] finL (rho a x2 N t x6 x7 x8 x9) S = .ok (.p (.list ((sp [] t).map fun q => q.2.py))) S :=
    eLc_on spy (fun q => q.2.py) (iSp rfl (sp_1000 h)) (sp_1000 h) fun q hq => ⟨[a, some (.ob 0), x2, some (.p (.list (N.map .str))), some (.p t.py), some (.p (.list ((sp [] t).map spy))), x6, x7, some (.p (tp q.1)), some (.p q.2.py)], rfl, by simp⟩
  have ht1 := eqRep c1 c2 ((rp_parts hN.wd h).ok (S := S) (by decide))
  rw [wpS_seq]
  unfold sIf
  rw [ht1]
  simp only [wpS_st, wp_ok]
  exact l5_wp hc hN h ht hn hk q
def f7b (r r2 : Fn → List D → M D) : FS :=
    (sSeq (sIf (tOrD (tC2 (opNotB) (eCallX 1 (r .f_is_term) (aCons (eVar 4) aNil)) (eC (.p (.bool true)))) (tC2 (opEqZ true) (eA reprM (aCons (eListG 1 (r2 .f_places) (aCons (eVar 4) aNil)) aNil)) (eA reprM (aCons (eLc (iSeq (eVar 5)) (gTupD 2 (gConss (gN 8) (gConss (gN 9) gNils))) tYesD (eVar 8) [8, 9] finL) aNil)))) (sRet (eC (.p (.bool false)))) sNext)
    (f_law_6 r r2))
theorem f7_eq (r r2 : Fn → List D → M D) : f_law_7 r r2 =
    (sSeq (sSet 3 (eCallX 2 (r .f_words_l) (aCons (eVar 1) (aCons (eC (.p (.int 4))) aNil))))
    (sSeq (sSet 4 (eCallX 3 (r .f_term_l) (aCons (eVar 1) (aCons (eVar 3) (aCons (e2 opAddX (eC (.p (.int 1))) (eCallX 2 (r .f_draw_l) (aCons (eVar 1) (aCons (eC (.p (.int 4))) aNil)))) aNil)))))
    (sSeq (sSet 5 (eCallX 2 (r .f_spots_l) (aCons (eVar 4) (aCons (eA mkTup aNil) aNil))))
    (f7b r r2))))  := rfl
set_option maxHeartbeats 4000000 in
theorem l7b_wp (hc : Cells cs) (hN : Names N) (h : okT N t) (ht : Tape cs 0 1 n S) (hn : n ≤ 1000000) (hk : 100 ≤ k) (q : ∀ S' y6 y7, Tape cs 0 1 (n + 410) S' → R (.next (rho a x2 N t y6 y7 x8 x9)) S') :
    wpS (f7b (F P (k + 2)) (F P k) (rho a x2 N t x6 x7 x8 x9) S) R := by
  unfold f7b
  have i1 := term_ok (P := P) 15 (k := k + 2) (S := S) (py_sq hN.wd h.1 (m := 15) (by have := h.2; omega)).sn (by omega)
  rw [termB_py hN.wd h.1 (by have := h.2; omega)] at i1
  have c0 : eListG 1 (F P k .f_places) (aCons (eVar 4) aNil) (rho a x2 N t x6 x7 x8 x9) S = .ok (.p (.list ((sp [] t).map fun q => tp q.1))) S := pls_ok hN.wd (by omega) h (by simp [aCons, aNil])
  have c2 : eLc (iSeq (eVar 5)) (gTupD 2 (gConss (gN 8) (gConss (gN 9) gNils))) tYesD (eVar 8) [8, 9] finL (rho a x2 N t x6 x7 x8 x9) S = .ok (.p (.list ((sp [] t).map fun q => tp q.1))) S :=
    eLc_on spy (fun q => tp q.1) (iSp rfl (sp_1000 h)) (sp_1000 h) fun q hq => ⟨[a, some (.ob 0), x2, some (.p (.list (N.map .str))), some (.p t.py), some (.p (.list ((sp [] t).map spy))), x6, x7, some (.p (tp q.1)), some (.p q.2.py)], rfl, by simp⟩
  have ht1 := eqRep c0 c2 ((rp_places hN.wd h).ok (S := S) (by decide))
  have hnb : (tC2 opNotB (eCallX 1 (F P (k + 2) .f_is_term) (aCons (eVar 4) aNil)) (eC (.p (.bool true)))) (rho a x2 N t x6 x7 x8 x9) S = .ok false S := by
    have hnb : opNotB (.p (.bool true)) (.p (.bool true)) S = .ok (.p (.bool false)) S := rfl
    simp [-List.map_map, i1, cut1, hnb]
  rw [wpS_seq]
  unfold sIf tOrD
  rw [hnb]
  simp only [Out.bind_ok, Bool.false_eq_true, if_false]
  rw [ht1]
  simp only [wpS_st, wp_ok]
  exact l6_wp hc hN h ht hn (by omega) q
set_option maxHeartbeats 4000000 in
theorem l7_wp (hc : Cells cs) {x3 x4 x5 : Option D} (ht : Tape cs 0 1 n S) (hn : n ≤ 500000) (hk : 110 ≤ k) (q : ∀ S' y3 y4 y5 y6 y7, Tape cs 0 1 (n + 2000) S' → R (.next [a, some (.ob 0), x2, y3, y4, y5, y6, y7, x8, x9]) S') :
    wpS (f_law_7 (F P (k + 2)) (F P k) [a, some (.ob 0), x2, x3, x4, x5, x6, x7, x8, x9] S) R := by
  rw [f7_eq]
  simp [-List.map_map]
  refine words_wp hc ht (by omega) (by omega) fun N S1 hN t1 => ?_
  try simp [-List.map_map]
  refine dr_wp hc t1 (by omega) (by omega) (by decide) (by decide) fun g S2 g0 g1 t2 _ => ?_
  obtain ⟨d, hd⟩ : ∃ d : Nat, 1 + g = (d : Int) := ⟨(1 + g).toNat, by omega⟩
  have hd4 : d ≤ 4 := by omega
  simp [-List.map_map, hd]
  have hcd : cst d ≤ 966 := by
    match d, hd4 with
    | 0, _ => decide
    | 1, _ => decide
    | 2, _ => decide
    | 3, _ => decide
    | 4, _ => decide
  have hcp := cst_pos d
  refine tm_wp hc hN d t2 (by omega) (by omega) (by omega) fun t S3 hg t3 => ?_
  have h : okT N t := ⟨hg.1, by have := hg.2; omega⟩
  have i0 := spots_ok (P := P) (S := S3) (k := k + 2) (by omega) h
  simp [-List.map_map, mk0, i0, cut1]
  refine l7b_wp hc hN h t3 (by omega) (by omega) fun S4 y6 y7 t4 => ?_
  exact q S4 _ _ _ _ _ (t4.mono (by omega))
end
end K02
namespace K02
open PySem L2 DL
variable {P : Nat → Addr} {S : Sto}
def TOP : Nat := 150
theorem F_begin (k : Nat) : F P (k + 3) .f_begin_l = runF 1 beginB := rfl
theorem F_law (k : Nat) : F P (k + 3) .f_law = runF 10 (b_f_law (F P (k + 2)) (F P k)) := rfl
set_option maxHeartbeats 4000000 in
theorem law_wp {ns : List Int} (hl : ns.length ≤ 63) {cs : List PyData} (hc : Cells cs) {k : Nat} (hk : 120 ≤ k) (eb : F P (k + 2) .f_begin_l [.ro (nums ns)] [] = .ok (.ob 0) [.dic (tpd cs 0 0)]) : wp (runF 10 (b_f_law (F P (k + 2)) (F P k)) [.ro (nums ns)] []) (fun d s => d = .p (.bool true)) noX := by
  rw [wp_run]
  show wpS (b_f_law (F P (k + 2)) (F P k) [some (.ro (nums ns)), none, none, none, none, none, none, none, none, none] []) _
  unfold b_f_law
  have hlen : (nums ns).length = ns.length := by simp [nums]
  simp only [wpS_seq]
  simp [eb, cutX]
  refine wp_of (a := .p (.int (ns.length : Nat))) (s := [MO.dic (tpd cs 0 0)]) (by simp [lenM, seqOf, hlen]) ?_
  obtain ⟨m, hm, hm2⟩ : ∃ m : Nat, m ≤ 5 ∧ ∀ z : Sto, min2M [.p (.int 5), .p (.int (ns.length : Nat))] z = .ok (.p (.int (m : Nat))) z := by
    by_cases h5 : ns.length < 5
    · refine ⟨ns.length, by omega, fun z => ?_⟩
      have h6 : ((ns.length : Int) < 5) := by omega
      simp [min2M, h6]
    · refine ⟨5, by omega, fun z => ?_⟩
      have h6 : ¬ ((ns.length : Int) < 5) := by omega
      simp [min2M, h6]
  refine wp_of (hm2 _) ?_
  refine wp_of (a := .p (.int (5 + (m : Nat)))) (s := [MO.dic (tpd cs 0 0)]) (by simp) ?_
  refine wp_of (range_ok (by omega) (by omega)) ?_
  refine forD_wp (fun j ρ S' => (∃ x2 x3 x4 x5 x6 x7 x8 x9, ρ = [some (.ro (nums ns)), some (.ob 0), x2, x3, x4, x5, x6, x7, x8, x9]) ∧ Tape cs 0 1 (2000 * j) S') (j := 0) ⟨⟨_, _, _, _, _, _, _, _, rfl⟩, ⟨rfl, 0, 0, by simp, by simp, rfl⟩⟩ ?_ ?_
  · rintro i d ρ S' hd ⟨⟨x2, x3, x4, x5, x6, x7, x8, x9, rfl⟩, t0⟩
    have hi : i < 10 := by
      have := (List.getElem?_eq_some_iff.mp hd).1
      simp at this
      omega
    show wpS (f_law_7 (F P (k + 2)) (F P k) [some (.ro (nums ns)), some (.ob 0), some d, x3, x4, x5, x6, x7, x8, x9] S') _
    refine l7_wp hc t0 (by omega) (by omega) fun S2 y3 y4 y5 y6 y7 t2 => ?_
    exact ⟨⟨_, _, _, _, _, _, _, _, rfl⟩, t2.mono (by omega)⟩
  · rintro ρ S' ⟨⟨x2, x3, x4, x5, x6, x7, x8, x9, rfl⟩, t0⟩
    unfold f_law_8
    simp
theorem holds : ∀ ns : List Int, ns.length ≤ 63 → ∃ S', F (fun _ => 0) TOP .f_law [.ro (nums ns)] [] = .ok (.p (.bool true)) S' := by
  intro ns hl
  obtain ⟨cs, hc, e0⟩ := begin_at ns []
  have h := law_wp (P := fun _ => 0) (ns := ns) hl hc (k := 147) (by decide) (by rw [show (147 + 2 : Nat) = 146 + 3 from rfl, F_begin]; exact e0)
  obtain ⟨a, s, e, rfl⟩ := wp_ex h
  refine ⟨s, ?_⟩
  show F (fun _ => 0) (147 + 3) .f_law [.ro (nums ns)] [] = _
  rw [F_law]
  exact e
end K02
namespace K02
open PySem L2 DL PySem.Spec PyProof.Rows LamX
def top (i : Nat) : Stmt := PySem.Challenge.pw_leastneeds_k02_terms_and_places.main.body.getD i (.Pass ⟨0, 0, 0, 0⟩)
def inCls (s : Stmt) (j : Nat) : Stmt := match s with
  | .ClassDef _ _ _ b _ _ _ _ _ _ _ => b.getD j (.Pass ⟨0, 0, 0, 0⟩)
  | s => s
abbrev s_f_is_word : Stmt := top 6
abbrev s_f_is_name : Stmt := top 7
abbrev s_f_is_whole : Stmt := top 11
abbrev s_f_is_text : Stmt := top 12
abbrev s_f_are_names : Stmt := top 13
abbrev s_f_are_bindings : Stmt := top 14
abbrev s_f_are_arms : Stmt := top 15
abbrev s_f_is_term : Stmt := top 16
abbrev s_f_parts_of_term : Stmt := top 17
abbrev s_f_places : Stmt := top 18
abbrev s_f_part_at : Stmt := top 19
abbrev s_f_bound_for : Stmt := top 20
abbrev s_f_used_names : Stmt := top 21
abbrev s_f_free_names : Stmt := top 22
abbrev s_f_begin_l : Stmt := top 24
abbrev s_f_draw_l : Stmt := top 25
abbrev s_f_pick_l : Stmt := top 26
abbrev s_f_shuffled_l : Stmt := top 27
abbrev s_f_odd_l : Stmt := top 28
abbrev s_f_words_l : Stmt := top 29
abbrev s_f_term_l : Stmt := top 30
abbrev s_f_parts_l : Stmt := top 31
abbrev s_f_spots_l : Stmt := top 32
abbrev s_f_free_l : Stmt := top 33
abbrev s_f_is_named_l : Stmt := top 34
abbrev s_f_are_named_l : Stmt := top 35
abbrev s_f_is_leaf_l : Stmt := top 36
abbrev s_f_is_one_l : Stmt := top 37
abbrev s_f_bent_l : Stmt := top 38
abbrev s_f_is_outside_l : Stmt := top 39
abbrev s_f_law : Stmt := top 40
abbrev si_OutOfTerm : Stmt := inCls (top 1) 0
structure Tops (K : PySem.W.Frag) (mg : Str → Option Value) (w : World) (ad : Fn → Addr) (fd : Fn → FuncData) : Prop where
  x_OutOfTerm : ∃ C fI fd, XAll K mg "OutOfTerm" "LookupError" "LookupError.__new__" "LookupError.__init__" "place" "place" si_OutOfTerm C fI fd ∧ PySem.W.kitOne K (.ref C) (.type "LookupError") = some true
  kp_f_is_word : PySem.W.keepIn K (.ref (ad .f_is_word)) = true
  fn_f_is_word : Fun K "is_word" "is_word" s_f_is_word (ad .f_is_word) (fd .f_is_word)
  m_f_is_word : mg "is_word" = some (.ref (ad .f_is_word))
  b_f_is_word : Binds K (fd .f_is_word) ["value"] []
  kp_f_is_name : PySem.W.keepIn K (.ref (ad .f_is_name)) = true
  fn_f_is_name : Fun K "is_name" "is_name" s_f_is_name (ad .f_is_name) (fd .f_is_name)
  m_f_is_name : mg "is_name" = some (.ref (ad .f_is_name))
  b_f_is_name : Binds K (fd .f_is_name) ["value"] []
  kp_f_is_whole : PySem.W.keepIn K (.ref (ad .f_is_whole)) = true
  fn_f_is_whole : Fun K "is_whole" "is_whole" s_f_is_whole (ad .f_is_whole) (fd .f_is_whole)
  m_f_is_whole : mg "is_whole" = some (.ref (ad .f_is_whole))
  b_f_is_whole : Binds K (fd .f_is_whole) ["value"] []
  kp_f_is_text : PySem.W.keepIn K (.ref (ad .f_is_text)) = true
  fn_f_is_text : Fun K "is_text" "is_text" s_f_is_text (ad .f_is_text) (fd .f_is_text)
  m_f_is_text : mg "is_text" = some (.ref (ad .f_is_text))
  b_f_is_text : Binds K (fd .f_is_text) ["value"] []
  kp_f_are_names : PySem.W.keepIn K (.ref (ad .f_are_names)) = true
  fn_f_are_names : Fun K "are_names" "are_names" s_f_are_names (ad .f_are_names) (fd .f_are_names)
  m_f_are_names : mg "are_names" = some (.ref (ad .f_are_names))
  b_f_are_names : Binds K (fd .f_are_names) ["value"] []
  kp_f_are_bindings : PySem.W.keepIn K (.ref (ad .f_are_bindings)) = true
  fn_f_are_bindings : Fun K "are_bindings" "are_bindings" s_f_are_bindings (ad .f_are_bindings) (fd .f_are_bindings)
  m_f_are_bindings : mg "are_bindings" = some (.ref (ad .f_are_bindings))
  b_f_are_bindings : Binds K (fd .f_are_bindings) ["value"] []
  kp_f_are_arms : PySem.W.keepIn K (.ref (ad .f_are_arms)) = true
  fn_f_are_arms : Fun K "are_arms" "are_arms" s_f_are_arms (ad .f_are_arms) (fd .f_are_arms)
  m_f_are_arms : mg "are_arms" = some (.ref (ad .f_are_arms))
  b_f_are_arms : Binds K (fd .f_are_arms) ["value"] []
  kp_f_is_term : PySem.W.keepIn K (.ref (ad .f_is_term)) = true
  fn_f_is_term : Fun K "is_term" "is_term" s_f_is_term (ad .f_is_term) (fd .f_is_term)
  m_f_is_term : mg "is_term" = some (.ref (ad .f_is_term))
  b_f_is_term : Binds K (fd .f_is_term) ["value"] []
  kp_f_parts_of_term : PySem.W.keepIn K (.ref (ad .f_parts_of_term)) = true
  fn_f_parts_of_term : Fun K "parts_of_term" "parts_of_term" s_f_parts_of_term (ad .f_parts_of_term) (fd .f_parts_of_term)
  m_f_parts_of_term : mg "parts_of_term" = some (.ref (ad .f_parts_of_term))
  b_f_parts_of_term : Binds K (fd .f_parts_of_term) ["term"] []
  kp_f_places : PySem.W.keepIn K (.ref (ad .f_places)) = true
  fn_f_places : Fun K "places" "places" s_f_places (ad .f_places) (fd .f_places)
  m_f_places : mg "places" = some (.ref (ad .f_places))
  b_f_places : Binds K (fd .f_places) ["term"] []
  kp_f_part_at : PySem.W.keepIn K (.ref (ad .f_part_at)) = true
  fn_f_part_at : Fun K "part_at" "part_at" s_f_part_at (ad .f_part_at) (fd .f_part_at)
  m_f_part_at : mg "part_at" = some (.ref (ad .f_part_at))
  b_f_part_at : Binds K (fd .f_part_at) ["term", "place"] []
  kp_f_bound_for : PySem.W.keepIn K (.ref (ad .f_bound_for)) = true
  fn_f_bound_for : Fun K "bound_for" "bound_for" s_f_bound_for (ad .f_bound_for) (fd .f_bound_for)
  m_f_bound_for : mg "bound_for" = some (.ref (ad .f_bound_for))
  b_f_bound_for : Binds K (fd .f_bound_for) ["term", "number"] []
  kp_f_used_names : PySem.W.keepIn K (.ref (ad .f_used_names)) = true
  fn_f_used_names : Fun K "used_names" "used_names" s_f_used_names (ad .f_used_names) (fd .f_used_names)
  m_f_used_names : mg "used_names" = some (.ref (ad .f_used_names))
  b_f_used_names : Binds K (fd .f_used_names) ["term", "hidden"] []
  kp_f_free_names : PySem.W.keepIn K (.ref (ad .f_free_names)) = true
  fn_f_free_names : Fun K "free_names" "free_names" s_f_free_names (ad .f_free_names) (fd .f_free_names)
  m_f_free_names : mg "free_names" = some (.ref (ad .f_free_names))
  b_f_free_names : Binds K (fd .f_free_names) ["term"] []
  kp_f_begin_l : PySem.W.keepIn K (.ref (ad .f_begin_l)) = true
  fn_f_begin_l : Fun K "_law_begin" "_law_begin" s_f_begin_l (ad .f_begin_l) (fd .f_begin_l)
  m_f_begin_l : mg "_law_begin" = some (.ref (ad .f_begin_l))
  b_f_begin_l : Binds K (fd .f_begin_l) ["_law_script"] []
  kp_f_draw_l : PySem.W.keepIn K (.ref (ad .f_draw_l)) = true
  fn_f_draw_l : Fun K "_law_draw" "_law_draw" s_f_draw_l (ad .f_draw_l) (fd .f_draw_l)
  m_f_draw_l : mg "_law_draw" = some (.ref (ad .f_draw_l))
  b_f_draw_l : Binds K (fd .f_draw_l) ["_law_tape", "_law_many"] []
  kp_f_pick_l : PySem.W.keepIn K (.ref (ad .f_pick_l)) = true
  fn_f_pick_l : Fun K "_law_pick" "_law_pick" s_f_pick_l (ad .f_pick_l) (fd .f_pick_l)
  m_f_pick_l : mg "_law_pick" = some (.ref (ad .f_pick_l))
  b_f_pick_l : Binds K (fd .f_pick_l) ["_law_tape", "_law_items"] []
  kp_f_shuffled_l : PySem.W.keepIn K (.ref (ad .f_shuffled_l)) = true
  fn_f_shuffled_l : Fun K "_law_shuffled" "_law_shuffled" s_f_shuffled_l (ad .f_shuffled_l) (fd .f_shuffled_l)
  m_f_shuffled_l : mg "_law_shuffled" = some (.ref (ad .f_shuffled_l))
  b_f_shuffled_l : Binds K (fd .f_shuffled_l) ["_law_tape", "_law_items"] []
  kp_f_odd_l : PySem.W.keepIn K (.ref (ad .f_odd_l)) = true
  fn_f_odd_l : Fun K "_law_odd" "_law_odd" s_f_odd_l (ad .f_odd_l) (fd .f_odd_l)
  m_f_odd_l : mg "_law_odd" = some (.ref (ad .f_odd_l))
  b_f_odd_l : Binds K (fd .f_odd_l) ["_law_tape"] []
  kp_f_words_l : PySem.W.keepIn K (.ref (ad .f_words_l)) = true
  fn_f_words_l : Fun K "_law_words" "_law_words" s_f_words_l (ad .f_words_l) (fd .f_words_l)
  m_f_words_l : mg "_law_words" = some (.ref (ad .f_words_l))
  b_f_words_l : Binds K (fd .f_words_l) ["_law_tape", "_law_many"] []
  kp_f_term_l : PySem.W.keepIn K (.ref (ad .f_term_l)) = true
  fn_f_term_l : Fun K "_law_term" "_law_term" s_f_term_l (ad .f_term_l) (fd .f_term_l)
  m_f_term_l : mg "_law_term" = some (.ref (ad .f_term_l))
  b_f_term_l : Binds K (fd .f_term_l) ["_law_tape", "_law_names", "_law_deep"] []
  kp_f_parts_l : PySem.W.keepIn K (.ref (ad .f_parts_l)) = true
  fn_f_parts_l : Fun K "_law_parts" "_law_parts" s_f_parts_l (ad .f_parts_l) (fd .f_parts_l)
  m_f_parts_l : mg "_law_parts" = some (.ref (ad .f_parts_l))
  b_f_parts_l : Binds K (fd .f_parts_l) ["_law_term_here"] []
  kp_f_spots_l : PySem.W.keepIn K (.ref (ad .f_spots_l)) = true
  fn_f_spots_l : Fun K "_law_spots" "_law_spots" s_f_spots_l (ad .f_spots_l) (fd .f_spots_l)
  m_f_spots_l : mg "_law_spots" = some (.ref (ad .f_spots_l))
  b_f_spots_l : Binds K (fd .f_spots_l) ["_law_term_here", "_law_spot"] []
  kp_f_free_l : PySem.W.keepIn K (.ref (ad .f_free_l)) = true
  fn_f_free_l : Fun K "_law_free" "_law_free" s_f_free_l (ad .f_free_l) (fd .f_free_l)
  m_f_free_l : mg "_law_free" = some (.ref (ad .f_free_l))
  b_f_free_l : Binds K (fd .f_free_l) ["_law_term_here", "_law_hidden"] []
  kp_f_is_named_l : PySem.W.keepIn K (.ref (ad .f_is_named_l)) = true
  fn_f_is_named_l : Fun K "_law_is_named" "_law_is_named" s_f_is_named_l (ad .f_is_named_l) (fd .f_is_named_l)
  m_f_is_named_l : mg "_law_is_named" = some (.ref (ad .f_is_named_l))
  b_f_is_named_l : Binds K (fd .f_is_named_l) ["_law_x"] []
  kp_f_are_named_l : PySem.W.keepIn K (.ref (ad .f_are_named_l)) = true
  fn_f_are_named_l : Fun K "_law_are_named" "_law_are_named" s_f_are_named_l (ad .f_are_named_l) (fd .f_are_named_l)
  m_f_are_named_l : mg "_law_are_named" = some (.ref (ad .f_are_named_l))
  b_f_are_named_l : Binds K (fd .f_are_named_l) ["_law_x"] []
  kp_f_is_leaf_l : PySem.W.keepIn K (.ref (ad .f_is_leaf_l)) = true
  fn_f_is_leaf_l : Fun K "_law_is_leaf" "_law_is_leaf" s_f_is_leaf_l (ad .f_is_leaf_l) (fd .f_is_leaf_l)
  m_f_is_leaf_l : mg "_law_is_leaf" = some (.ref (ad .f_is_leaf_l))
  b_f_is_leaf_l : Binds K (fd .f_is_leaf_l) ["_law_x"] []
  kp_f_is_one_l : PySem.W.keepIn K (.ref (ad .f_is_one_l)) = true
  fn_f_is_one_l : Fun K "_law_is_one" "_law_is_one" s_f_is_one_l (ad .f_is_one_l) (fd .f_is_one_l)
  m_f_is_one_l : mg "_law_is_one" = some (.ref (ad .f_is_one_l))
  b_f_is_one_l : Binds K (fd .f_is_one_l) ["_law_x"] []
  kp_f_bent_l : PySem.W.keepIn K (.ref (ad .f_bent_l)) = true
  fn_f_bent_l : Fun K "_law_bent" "_law_bent" s_f_bent_l (ad .f_bent_l) (fd .f_bent_l)
  m_f_bent_l : mg "_law_bent" = some (.ref (ad .f_bent_l))
  b_f_bent_l : Binds K (fd .f_bent_l) ["_law_tape", "_law_x", "_law_some"] []
  kp_f_is_outside_l : PySem.W.keepIn K (.ref (ad .f_is_outside_l)) = true
  fn_f_is_outside_l : Fun K "_law_is_outside" "_law_is_outside" s_f_is_outside_l (ad .f_is_outside_l) (fd .f_is_outside_l)
  m_f_is_outside_l : mg "_law_is_outside" = some (.ref (ad .f_is_outside_l))
  b_f_is_outside_l : Binds K (fd .f_is_outside_l) ["_law_term_here", "_law_x"] []
  kp_f_law : PySem.W.keepIn K (.ref (ad .f_law)) = true
  fn_f_law : Fun K "law" "law" s_f_law (ad .f_law) (fd .f_law)
  m_f_law : mg "law" = some (.ref (ad .f_law))
  b_f_law : Binds K (fd .f_law) ["_law_script"] []
  b_LookupError : mg "LookupError" = none
  b_abs : mg "abs" = none
  b_all : mg "all" = none
  b_bool : mg "bool" = none
  b_enumerate : mg "enumerate" = none
  b_int : mg "int" = none
  b_isinstance : mg "isinstance" = none
  b_len : mg "len" = none
  b_list : mg "list" = none
  b_min : mg "min" = none
  b_ord : mg "ord" = none
  b_range : mg "range" = none
  b_repr : mg "repr" = none
  b_set : mg "set" = none
  b_sorted : mg "sorted" = none
  b_str : mg "str" = none
  b_sum : mg "sum" = none
  b_tuple : mg "tuple" = none
  g_BOUND : GlobIs K mg "BOUND" g_BOUND
  g_LETTERS : GlobIs K mg "LETTERS" g_LETTERS
  g_LONGEST : GlobIs K mg "LONGEST" g_LONGEST
  g_MOST_CHARACTERS : GlobIs K mg "MOST_CHARACTERS" g_MOST_CHARACTERS
  g_WORDS : GlobIs K mg "WORDS" g_WORDS
structure Rk (P : Program) (w : World) (K : PySem.W.Frag) (mg : Str → Option Value) (base : Heap) (ad : Fn → Addr) (fd : Fn → FuncData) (k : Nat) (r : Fn → List D → M D) : Prop where
  f_is_word : FnX P w K mg base k (ad .f_is_word) (fd .f_is_word) ["value"] (spX K 1 (r .f_is_word))
  f_is_name : FnX P w K mg base k (ad .f_is_name) (fd .f_is_name) ["value"] (spX K 1 (r .f_is_name))
  f_is_whole : FnX P w K mg base k (ad .f_is_whole) (fd .f_is_whole) ["value"] (spX K 1 (r .f_is_whole))
  f_is_text : FnX P w K mg base k (ad .f_is_text) (fd .f_is_text) ["value"] (spX K 1 (r .f_is_text))
  f_are_names : FnX P w K mg base k (ad .f_are_names) (fd .f_are_names) ["value"] (spX K 1 (r .f_are_names))
  f_are_bindings : FnX P w K mg base k (ad .f_are_bindings) (fd .f_are_bindings) ["value"] (spX K 1 (r .f_are_bindings))
  f_are_arms : FnX P w K mg base k (ad .f_are_arms) (fd .f_are_arms) ["value"] (spX K 1 (r .f_are_arms))
  f_is_term : FnX P w K mg base k (ad .f_is_term) (fd .f_is_term) ["value"] (spX K 1 (r .f_is_term))
  f_parts_of_term : FnOk P w K mg base (L2.CX P w) k (ad .f_parts_of_term) (fd .f_parts_of_term) ["term"] (spX K 1 (r .f_parts_of_term))
  f_places : GP P w K mg base k (ad .f_places) (fd .f_places) ["term"] 1 (r .f_places)
  f_part_at : FnX P w K mg base k (ad .f_part_at) (fd .f_part_at) ["term", "place"] (spX K 2 (r .f_part_at))
  f_bound_for : FnX P w K mg base k (ad .f_bound_for) (fd .f_bound_for) ["term", "number"] (spX K 2 (r .f_bound_for))
  f_used_names : FnX P w K mg base k (ad .f_used_names) (fd .f_used_names) ["term", "hidden"] (spX K 2 (r .f_used_names))
  f_free_names : FnX P w K mg base k (ad .f_free_names) (fd .f_free_names) ["term"] (spX K 1 (r .f_free_names))
  f_begin_l : FnX P w K mg base k (ad .f_begin_l) (fd .f_begin_l) ["_law_script"] (spX K 1 (r .f_begin_l))
  f_draw_l : FnX P w K mg base k (ad .f_draw_l) (fd .f_draw_l) ["_law_tape", "_law_many"] (spX K 2 (r .f_draw_l))
  f_pick_l : FnX P w K mg base k (ad .f_pick_l) (fd .f_pick_l) ["_law_tape", "_law_items"] (spX K 2 (r .f_pick_l))
  f_shuffled_l : FnX P w K mg base k (ad .f_shuffled_l) (fd .f_shuffled_l) ["_law_tape", "_law_items"] (spX K 2 (r .f_shuffled_l))
  f_odd_l : FnX P w K mg base k (ad .f_odd_l) (fd .f_odd_l) ["_law_tape"] (spX K 1 (r .f_odd_l))
  f_words_l : FnX P w K mg base k (ad .f_words_l) (fd .f_words_l) ["_law_tape", "_law_many"] (spX K 2 (r .f_words_l))
  f_term_l : FnX P w K mg base k (ad .f_term_l) (fd .f_term_l) ["_law_tape", "_law_names", "_law_deep"] (spX K 3 (r .f_term_l))
  f_parts_l : FnX P w K mg base k (ad .f_parts_l) (fd .f_parts_l) ["_law_term_here"] (spX K 1 (r .f_parts_l))
  f_spots_l : FnX P w K mg base k (ad .f_spots_l) (fd .f_spots_l) ["_law_term_here", "_law_spot"] (spX K 2 (r .f_spots_l))
  f_free_l : FnX P w K mg base k (ad .f_free_l) (fd .f_free_l) ["_law_term_here", "_law_hidden"] (spX K 2 (r .f_free_l))
  f_is_named_l : FnX P w K mg base k (ad .f_is_named_l) (fd .f_is_named_l) ["_law_x"] (spX K 1 (r .f_is_named_l))
  f_are_named_l : FnX P w K mg base k (ad .f_are_named_l) (fd .f_are_named_l) ["_law_x"] (spX K 1 (r .f_are_named_l))
  f_is_leaf_l : FnX P w K mg base k (ad .f_is_leaf_l) (fd .f_is_leaf_l) ["_law_x"] (spX K 1 (r .f_is_leaf_l))
  f_is_one_l : FnX P w K mg base k (ad .f_is_one_l) (fd .f_is_one_l) ["_law_x"] (spX K 1 (r .f_is_one_l))
  f_bent_l : FnX P w K mg base k (ad .f_bent_l) (fd .f_bent_l) ["_law_tape", "_law_x", "_law_some"] (spX K 3 (r .f_bent_l))
  f_is_outside_l : FnX P w K mg base k (ad .f_is_outside_l) (fd .f_is_outside_l) ["_law_term_here", "_law_x"] (spX K 2 (r .f_is_outside_l))
  f_law : FnX P w K mg base k (ad .f_law) (fd .f_law) ["_law_script"] (spX K 1 (r .f_law))
section
variable {P : Program} {w : World} {K : PySem.W.Frag} {mg : Str → Option Value} {base : Heap} {ad : Fn → Addr} {fd : Fn → FuncData} {k : Nat} {r r2 : Fn → List D → M D}
theorem sci_OutOfTerm : FnScope ["self", "place"] ["self", "place"] (defScope si_OutOfTerm) := ⟨rfl, rfl, rfl, by decide +kernel, rfl, by decide +kernel, by decide +kernel⟩
theorem fi_OutOfTerm {C fI : Addr} {fd : FuncData} (X : XAll K mg "OutOfTerm" "LookupError" "LookupError.__new__" "LookupError.__init__" "place" "place" si_OutOfTerm C fI fd) : FnOk P w K mg base L2.CX0 1 fI fd ["self", "place"] (spInit C "place") :=
  init_fn (fun env => rfl) xb_LookupError X.cls X.fn sci_OutOfTerm rfl rfl X.mB X.vV (Or.inl rfl) (Or.inl rfl) rfl rfl
theorem sc_f_is_word : FnScope ["value", "sign"] ["value"] (defScope s_f_is_word) := ⟨rfl, rfl, rfl, by decide +kernel, rfl, by decide +kernel, by decide +kernel⟩
theorem sc_f_is_name : FnScope ["value"] ["value"] (defScope s_f_is_name) := ⟨rfl, rfl, rfl, by decide +kernel, rfl, by decide +kernel, by decide +kernel⟩
theorem sc_f_is_whole : FnScope ["value"] ["value"] (defScope s_f_is_whole) := ⟨rfl, rfl, rfl, by decide +kernel, rfl, by decide +kernel, by decide +kernel⟩
theorem sc_f_is_text : FnScope ["value", "sign"] ["value"] (defScope s_f_is_text) := ⟨rfl, rfl, rfl, by decide +kernel, rfl, by decide +kernel, by decide +kernel⟩
theorem sc_f_are_names : FnScope ["value", "name"] ["value"] (defScope s_f_are_names) := ⟨rfl, rfl, rfl, by decide +kernel, rfl, by decide +kernel, by decide +kernel⟩
theorem sc_f_are_bindings : FnScope ["value", "one"] ["value"] (defScope s_f_are_bindings) := ⟨rfl, rfl, rfl, by decide +kernel, rfl, by decide +kernel, by decide +kernel⟩
theorem sc_f_are_arms : FnScope ["value", "arm"] ["value"] (defScope s_f_are_arms) := ⟨rfl, rfl, rfl, by decide +kernel, rfl, by decide +kernel, by decide +kernel⟩
theorem sc_f_is_term : FnScope ["value", "forms", "word", "first", "second"] ["value"] (defScope s_f_is_term) := ⟨rfl, rfl, rfl, by decide +kernel, rfl, by decide +kernel, by decide +kernel⟩
theorem sc_f_parts_of_term : FnScope ["term", "word", "name", "bound", "constructor", "names", "body"] ["term"] (defScope s_f_parts_of_term) := ⟨rfl, rfl, rfl, by decide +kernel, rfl, by decide +kernel, by decide +kernel⟩
theorem sc_f_places : GScope ["term", "waiting", "below", "place", "here", "number", "part"] ["term"] (defScope s_f_places) := ⟨rfl, rfl, rfl, by decide +kernel, rfl, by decide +kernel, by decide +kernel⟩
theorem sc_f_part_at : FnScope ["term", "place", "here", "number", "parts"] ["term", "place"] (defScope s_f_part_at) := ⟨rfl, rfl, rfl, by decide +kernel, rfl, by decide +kernel, by decide +kernel⟩
theorem sc_f_bound_for : FnScope ["term", "number", "name", "bound"] ["term", "number"] (defScope s_f_bound_for) := ⟨rfl, rfl, rfl, by decide +kernel, rfl, by decide +kernel, by decide +kernel⟩
theorem sc_f_used_names : FnScope ["term", "hidden", "found", "number", "part"] ["term", "hidden"] (defScope s_f_used_names) := ⟨rfl, rfl, rfl, by decide +kernel, rfl, by decide +kernel, by decide +kernel⟩
theorem sc_f_free_names : FnScope ["term"] ["term"] (defScope s_f_free_names) := ⟨rfl, rfl, rfl, by decide +kernel, rfl, by decide +kernel, by decide +kernel⟩
theorem sc_f_begin_l : FnScope ["_law_script"] ["_law_script"] (defScope s_f_begin_l) := ⟨rfl, rfl, rfl, by decide +kernel, rfl, by decide +kernel, by decide +kernel⟩
theorem sc_f_draw_l : FnScope ["_law_tape", "_law_many", "_law_got", "_law_spot", "_law_size", "_law_cell"] ["_law_tape", "_law_many"] (defScope s_f_draw_l) := ⟨rfl, rfl, rfl, by decide +kernel, rfl, by decide +kernel, by decide +kernel⟩
theorem sc_f_pick_l : FnScope ["_law_tape", "_law_items"] ["_law_tape", "_law_items"] (defScope s_f_pick_l) := ⟨rfl, rfl, rfl, by decide +kernel, rfl, by decide +kernel, by decide +kernel⟩
theorem sc_f_shuffled_l : FnScope ["_law_tape", "_law_items", "_law_left", "_law_found"] ["_law_tape", "_law_items"] (defScope s_f_shuffled_l) := ⟨rfl, rfl, rfl, by decide +kernel, rfl, by decide +kernel, by decide +kernel⟩
theorem sc_f_odd_l : FnScope ["_law_tape", "_law_some"] ["_law_tape"] (defScope s_f_odd_l) := ⟨rfl, rfl, rfl, by decide +kernel, rfl, by decide +kernel, by decide +kernel⟩
theorem sc_f_words_l : FnScope ["_law_tape", "_law_many", "_law_letters", "_law_is_behind", "_law_rest", "_law_first", "_law_k", "_law_letter"] ["_law_tape", "_law_many"] (defScope s_f_words_l) := ⟨rfl, rfl, rfl, by decide +kernel, rfl, by decide +kernel, by decide +kernel⟩
theorem sc_f_term_l : FnScope ["_law_tape", "_law_names", "_law_deep", "_law_way", "_law_own", "_law_arms", "_law_some", "_law_k", "_law_name"] ["_law_tape", "_law_names", "_law_deep"] (defScope s_f_term_l) := ⟨rfl, rfl, rfl, by decide +kernel, rfl, by decide +kernel, by decide +kernel⟩
theorem sc_f_parts_l : FnScope ["_law_term_here", "_law_own", "_law_arm", "_law_name", "_law_one"] ["_law_term_here"] (defScope s_f_parts_l) := ⟨rfl, rfl, rfl, by decide +kernel, rfl, by decide +kernel, by decide +kernel⟩
theorem sc_f_spots_l : FnScope ["_law_term_here", "_law_spot", "_law_found", "_law_k", "_law_pair"] ["_law_term_here", "_law_spot"] (defScope s_f_spots_l) := ⟨rfl, rfl, rfl, by decide +kernel, rfl, by decide +kernel, by decide +kernel⟩
theorem sc_f_free_l : FnScope ["_law_term_here", "_law_hidden", "_law_part", "_law_own"] ["_law_term_here", "_law_hidden"] (defScope s_f_free_l) := ⟨rfl, rfl, rfl, by decide +kernel, rfl, by decide +kernel, by decide +kernel⟩
theorem sc_f_is_named_l : FnScope ["_law_x", "_law_words_here", "_law_sign"] ["_law_x"] (defScope s_f_is_named_l) := ⟨rfl, rfl, rfl, by decide +kernel, rfl, by decide +kernel, by decide +kernel⟩
theorem sc_f_are_named_l : FnScope ["_law_x", "_law_y"] ["_law_x"] (defScope s_f_are_named_l) := ⟨rfl, rfl, rfl, by decide +kernel, rfl, by decide +kernel, by decide +kernel⟩
theorem sc_f_is_leaf_l : FnScope ["_law_x", "_law_sign"] ["_law_x"] (defScope s_f_is_leaf_l) := ⟨rfl, rfl, rfl, by decide +kernel, rfl, by decide +kernel, by decide +kernel⟩
theorem sc_f_is_one_l : FnScope ["_law_x", "_law_rows", "_law_size", "_law_row"] ["_law_x"] (defScope s_f_is_one_l) := ⟨rfl, rfl, rfl, by decide +kernel, rfl, by decide +kernel, by decide +kernel⟩
theorem sc_f_bent_l : FnScope ["_law_tape", "_law_x", "_law_some", "_law_way", "_law_at"] ["_law_tape", "_law_x", "_law_some"] (defScope s_f_bent_l) := ⟨rfl, rfl, rfl, by decide +kernel, rfl, by decide +kernel, by decide +kernel⟩
theorem sc_f_is_outside_l : FnScope ["_law_term_here", "_law_x", "e"] ["_law_term_here", "_law_x"] (defScope s_f_is_outside_l) := ⟨rfl, rfl, rfl, by decide +kernel, rfl, by decide +kernel, by decide +kernel⟩
theorem sc_f_law : FnScope ["_law_script", "_law_tape", "_law_turn", "_law_names", "_law_term_here", "_law_spots_here", "_law_x", "_law_again", "_law_spot", "_law_part"] ["_law_script"] (defScope s_f_law) := ⟨rfl, rfl, rfl, by decide +kernel, rfl, by decide +kernel, by decide +kernel⟩
set_option maxHeartbeats 4000000 in
theorem ok_f_is_word (T : Tops K mg w ad fd ) (R : Rk P w K mg base ad fd (k + 2) r) : FnX P w K mg base (k + 3) (ad .f_is_word) (fd .f_is_word) ["value"] (spX K 1 (runF 2 (b_f_is_word r))) := by
  refine fnX_data T.fn_f_is_word sc_f_is_word rfl rfl _ fun cdv A outer s H E C po => ?_
  unfold b_f_is_word f_is_word_1
  exact (dss_cons (ds_if (dt_bool (dw_or (dt_not (dt_val (de_isi .str rfl T.b_isinstance rfl T.b_str rfl (de_var 0)))) (dt_or1 (dt_not (dt_leXleX de_int (de_len rfl T.b_len (da_cons (de_var 0) da_nil)) (de_globD rfl T.g_LONGEST)))))) (dss_one (ds_ret de_bl)) dss_nil)
    (dss_one (ds_ret (de_all rfl rfl T.b_all (da_cons (de_lc (own := [("sign", 1)]) finL_ok rfl sc_f_is_word.nd (di_seq (de_var 0)) (blkOk_by (by show blkC ["value", "sign"] (defScope s_f_is_word) _ _ = true; decide +kernel)) (fun _ _ _ _ _ => (dg_name (i := 1) sc_f_is_word.nd rfl (by first | exact Or.inl rfl | exact Or.inr rfl) (by decide))) (fun _ _ _ _ _ => dts_nil) (fun _ _ _ _ _ => (de_inX C.blk.u65 (de_var 1) (de_globD rfl T.g_LETTERS)))) da_nil)))))
set_option maxHeartbeats 4000000 in
theorem ok_f_is_name (T : Tops K mg w ad fd ) (R : Rk P w K mg base ad fd (k + 2) r) : FnX P w K mg base (k + 3) (ad .f_is_name) (fd .f_is_name) ["value"] (spX K 1 (runF 1 (b_f_is_name r))) := by
  refine fnX_data T.fn_f_is_name sc_f_is_name rfl rfl _ fun cdv A outer s H E C po => ?_
  unfold b_f_is_name
  exact (dss_one (ds_ret (de_and (de_callX R.f_is_word C rfl T.m_f_is_word T.kp_f_is_word T.b_f_is_word (da_cons (de_var 0) da_nil)) (de_one (de_notInX C.u65 (de_var 0) (de_globD rfl T.g_WORDS))))))
set_option maxHeartbeats 4000000 in
theorem ok_f_is_whole (T : Tops K mg w ad fd ) (R : Rk P w K mg base ad fd (k + 2) r) : FnX P w K mg base (k + 3) (ad .f_is_whole) (fd .f_is_whole) ["value"] (spX K 1 (runF 1 (b_f_is_whole r))) := by
  refine fnX_data T.fn_f_is_whole sc_f_is_whole rfl rfl _ fun cdv A outer s H E C po => ?_
  unfold b_f_is_whole
  exact (dss_one (ds_ret (de_and (de_isi .int rfl T.b_isinstance rfl T.b_int rfl (de_var 0)) (de_and (de_not (de_isi .bool rfl T.b_isinstance rfl T.b_bool rfl (de_var 0))) (de_one (de_leXleX (de_neg (de_globD rfl T.g_BOUND)) (de_var 0) (de_globD rfl T.g_BOUND)))))))
set_option maxHeartbeats 4000000 in
theorem ok_f_is_text (T : Tops K mg w ad fd ) (R : Rk P w K mg base ad fd (k + 2) r) : FnX P w K mg base (k + 3) (ad .f_is_text) (fd .f_is_text) ["value"] (spX K 1 (runF 2 (b_f_is_text r))) := by
  refine fnX_data T.fn_f_is_text sc_f_is_text rfl rfl _ fun cdv A outer s H E C po => ?_
  unfold b_f_is_text f_is_text_1
  exact (dss_cons (ds_if (dt_bool (dw_or (dt_not (dt_val (de_isi .str rfl T.b_isinstance rfl T.b_str rfl (de_var 0)))) (dt_or1 (dt_gt  (de_len rfl T.b_len (da_cons (de_var 0) da_nil)) (de_globD rfl T.g_MOST_CHARACTERS))))) (dss_one (ds_ret de_bl)) dss_nil)
    (dss_one (ds_ret (de_all rfl rfl T.b_all (da_cons (de_lc (own := [("sign", 1)]) finL_ok rfl sc_f_is_text.nd (di_seq (de_var 0)) (blkOk_by (by show blkC ["value", "sign"] (defScope s_f_is_text) _ _ = true; decide +kernel)) (fun _ _ _ _ _ => (dg_name (i := 1) sc_f_is_text.nd rfl (by first | exact Or.inl rfl | exact Or.inr rfl) (by decide))) (fun _ _ _ _ _ => dts_nil) (fun _ _ _ _ _ => (de_and (de_leXleX de_str (de_var 1) de_str) (de_one (de_neZ C.blk.u65 (de_ord rfl T.b_ord (da_cons (de_var 1) da_nil)) de_int))))) da_nil)))))
set_option maxHeartbeats 4000000 in
theorem ok_f_are_names (T : Tops K mg w ad fd ) (R : Rk P w K mg base ad fd (k + 2) r) : FnX P w K mg base (k + 3) (ad .f_are_names) (fd .f_are_names) ["value"] (spX K 1 (runF 2 (b_f_are_names r))) := by
  refine fnX_data T.fn_f_are_names sc_f_are_names rfl rfl _ fun cdv A outer s H E C po => ?_
  unfold b_f_are_names f_are_names_1
  exact (dss_cons (ds_if (dt_bool (dw_or (dt_not (dt_val (de_isi .tuple rfl T.b_isinstance rfl T.b_tuple rfl (de_var 0)))) (dt_or1 (dt_not (dt_val (de_all rfl rfl T.b_all (da_cons (de_lc (own := [("name", 1)]) finL_ok rfl sc_f_are_names.nd (di_seq (de_var 0)) (blkOk_by (by show blkC ["value", "name"] (defScope s_f_are_names) _ _ = true; decide +kernel)) (fun _ _ _ _ _ => (dg_name (i := 1) sc_f_are_names.nd rfl (by first | exact Or.inl rfl | exact Or.inr rfl) (by decide))) (fun _ _ _ _ _ => dts_nil) (fun _ _ _ _ _ => (de_callX R.f_is_name C.blk rfl T.m_f_is_name T.kp_f_is_name T.b_f_is_name (da_cons (de_var 1) da_nil)))) da_nil))))))) (dss_one (ds_ret de_bl)) dss_nil)
    (dss_one (ds_ret (de_eqZ C.u65 (de_lenSet rfl rfl T.b_len rfl T.b_set (de_var 0)) (de_len rfl T.b_len (da_cons (de_var 0) da_nil))))))
set_option maxHeartbeats 4000000 in
theorem ok_f_are_bindings (T : Tops K mg w ad fd ) (R : Rk P w K mg base ad fd (k + 2) r) : FnX P w K mg base (k + 3) (ad .f_are_bindings) (fd .f_are_bindings) ["value"] (spX K 1 (runF 2 (b_f_are_bindings r))) := by
  refine fnX_data T.fn_f_are_bindings sc_f_are_bindings rfl rfl _ fun cdv A outer s H E C po => ?_
  unfold b_f_are_bindings f_are_bindings_2 f_are_bindings_1
  exact (dss_cons (ds_if (dt_bool (dw_or (dt_not (dt_val (de_isi .tuple rfl T.b_isinstance rfl T.b_tuple rfl (de_var 0)))) (dt_or1 (dt_eqZ C.u65 (de_var 0) (de_tup da_nil))))) (dss_one (ds_ret de_bl)) dss_nil)
    (dss_cons (ds_if (dt_not (dt_val (de_all rfl rfl T.b_all (da_cons (de_lc (own := [("one", 1)]) finL_ok rfl sc_f_are_bindings.nd (di_seq (de_var 0)) (blkOk_by (by show blkC ["value", "one"] (defScope s_f_are_bindings) _ _ = true; decide +kernel)) (fun _ _ _ _ _ => (dg_name (i := 1) sc_f_are_bindings.nd rfl (by first | exact Or.inl rfl | exact Or.inr rfl) (by decide))) (fun _ _ _ _ _ => dts_nil) (fun _ _ _ _ _ => (de_and (de_isi .tuple rfl T.b_isinstance rfl T.b_tuple rfl (de_var 1)) (de_one (de_eqZ C.blk.u65 (de_len rfl T.b_len (da_cons (de_var 1) da_nil)) de_int))))) da_nil)))) (dss_one (ds_ret de_bl)) dss_nil)
    (dss_one (ds_ret (de_and (de_callX R.f_are_names C rfl T.m_f_are_names T.kp_f_are_names T.b_f_are_names (da_cons (de_tupleX rfl rfl T.b_tuple (da_cons (de_lc (own := [("one", 1)]) finL_ok rfl sc_f_are_bindings.nd (di_seq (de_var 0)) (blkOk_by (by show blkC ["value", "one"] (defScope s_f_are_bindings) _ _ = true; decide +kernel)) (fun _ _ _ _ _ => (dg_name (i := 1) sc_f_are_bindings.nd rfl (by first | exact Or.inl rfl | exact Or.inr rfl) (by decide))) (fun _ _ _ _ _ => dts_nil) (fun _ _ _ _ _ => (de_subs C.blk.u1 (de_var 1) de_int))) da_nil)) da_nil)) (de_one (de_all rfl rfl T.b_all (da_cons (de_lc (own := [("one", 1)]) finL_ok rfl sc_f_are_bindings.nd (di_seq (de_var 0)) (blkOk_by (by show blkC ["value", "one"] (defScope s_f_are_bindings) _ _ = true; decide +kernel)) (fun _ _ _ _ _ => (dg_name (i := 1) sc_f_are_bindings.nd rfl (by first | exact Or.inl rfl | exact Or.inr rfl) (by decide))) (fun _ _ _ _ _ => dts_nil) (fun _ _ _ _ _ => (de_callX R.f_is_term C.blk rfl T.m_f_is_term T.kp_f_is_term T.b_f_is_term (da_cons (de_subs C.blk.u1 (de_var 1) de_int) da_nil)))) da_nil))))))))
set_option maxHeartbeats 4000000 in
theorem ok_f_are_arms (T : Tops K mg w ad fd ) (R : Rk P w K mg base ad fd (k + 2) r) : FnX P w K mg base (k + 3) (ad .f_are_arms) (fd .f_are_arms) ["value"] (spX K 1 (runF 2 (b_f_are_arms r))) := by
  refine fnX_data T.fn_f_are_arms sc_f_are_arms rfl rfl _ fun cdv A outer s H E C po => ?_
  unfold b_f_are_arms f_are_arms_3 f_are_arms_2 f_are_arms_1
  exact (dss_cons (ds_if (dt_bool (dw_or (dt_not (dt_val (de_isi .tuple rfl T.b_isinstance rfl T.b_tuple rfl (de_var 0)))) (dt_or1 (dt_eqZ C.u65 (de_var 0) (de_tup da_nil))))) (dss_one (ds_ret de_bl)) dss_nil)
    (dss_cons (ds_for (vs := [1]) po rfl (di_seq (de_var 0)) (dg_name (i := 1) sc_f_are_arms.nd rfl (by first | exact Or.inl rfl | exact Or.inr rfl) (by decide)) (dss_one (ds_if (dt_bool (dw_or (dt_not (dt_val (de_isi .tuple rfl T.b_isinstance rfl T.b_tuple rfl (de_var 1)))) (dw_or (dt_neZ C.u65 (de_len rfl T.b_len (da_cons (de_var 1) da_nil)) de_int) (dw_or (dt_not (dt_val (de_callX R.f_is_name C rfl T.m_f_is_name T.kp_f_is_name T.b_f_is_name (da_cons (de_subs C.u1 (de_var 1) de_int) da_nil)))) (dt_or1 (dt_not (dt_val (de_callX R.f_are_names C rfl T.m_f_are_names T.kp_f_are_names T.b_f_are_names (da_cons (de_subs C.u1 (de_var 1) de_int) da_nil))))))))) (dss_one (ds_ret de_bl)) dss_nil)))
    (dss_one (ds_ret (de_all rfl rfl T.b_all (da_cons (de_lc (own := [("arm", 1)]) finL_ok rfl sc_f_are_arms.nd (di_seq (de_var 0)) (blkOk_by (by show blkC ["value", "arm"] (defScope s_f_are_arms) _ _ = true; decide +kernel)) (fun _ _ _ _ _ => (dg_name (i := 1) sc_f_are_arms.nd rfl (by first | exact Or.inl rfl | exact Or.inr rfl) (by decide))) (fun _ _ _ _ _ => dts_nil) (fun _ _ _ _ _ => (de_callX R.f_is_term C.blk rfl T.m_f_is_term T.kp_f_is_term T.b_f_is_term (da_cons (de_subs C.blk.u1 (de_var 1) de_int) da_nil)))) da_nil))))))
set_option maxHeartbeats 4000000 in
theorem ok_f_is_term (T : Tops K mg w ad fd ) (R : Rk P w K mg base ad fd (k + 2) r) : FnX P w K mg base (k + 3) (ad .f_is_term) (fd .f_is_term) ["value"] (spX K 1 (runF 5 (b_f_is_term r))) := by
  refine fnX_data T.fn_f_is_term sc_f_is_term rfl rfl _ fun cdv A outer s H E C po => ?_
  unfold b_f_is_term f_is_term_7 f_is_term_6 f_is_term_5 f_is_term_4 f_is_term_3 f_is_term_2 f_is_term_1
  exact (dss_cons (ds_if (dt_bool (dw_or (dt_not (dt_val (de_isi .tuple rfl T.b_isinstance rfl T.b_tuple rfl (de_var 0)))) (dw_or (dt_eqZ C.u65 (de_var 0) (de_tup da_nil)) (dt_or1 (dt_not (dt_val (de_isi .str rfl T.b_isinstance rfl T.b_str rfl (de_subs C.u1 (de_var 0) de_int)))))))) (dss_one (ds_ret de_bl)) dss_nil)
    (dss_cons (ds_if (dt_eqZ C.u65 (de_len rfl T.b_len (da_cons (de_var 0) da_nil)) de_int) (dss_one (ds_ret (de_eqZ C.u65 (de_subs C.u1 (de_var 0) de_int) de_str))) dss_nil)
    (dss_cons (ds_if (dt_eqZ C.u65 (de_len rfl T.b_len (da_cons (de_var 0) da_nil)) de_int) (dss_forms (i := 1) C (.cons pe_str (R.f_is_name.toP T.b_f_is_name) rfl T.m_f_is_name T.kp_f_is_name rfl (.cons pe_str (R.f_is_whole.toP T.b_f_is_whole) rfl T.m_f_is_whole T.kp_f_is_whole rfl (.cons pe_str (R.f_is_text.toP T.b_f_is_text) rfl T.m_f_is_text T.kp_f_is_text rfl .nil))) (de_subs C.u1 (de_var 0) de_int) (de_subs C.u1 (de_var 0) de_int) (de_subs C.u1 (de_var 0) de_int) sc_f_is_term.nd rfl (by first | exact Or.inl rfl | exact Or.inr rfl)) dss_nil)
    (dss_cons (ds_if (dt_neZ C.u65 (de_len rfl T.b_len (da_cons (de_var 0) da_nil)) de_int) (dss_one (ds_ret de_bl)) dss_nil)
    (dss_cons (ds_asg (vs := [2, 3, 4]) (de_var 0) (dg_tup rfl (dgs_cons (dg_name (i := 2) sc_f_is_term.nd rfl (by first | exact Or.inl rfl | exact Or.inr rfl) (by decide)) (dgs_cons (dg_name (i := 3) sc_f_is_term.nd rfl (by first | exact Or.inl rfl | exact Or.inr rfl) (by decide)) (dgs_cons (dg_name (i := 4) sc_f_is_term.nd rfl (by first | exact Or.inl rfl | exact Or.inr rfl) (by decide)) dgs_nil)))))
    (dss_cons (ds_if (dt_eqZ C.u65 (de_var 2) de_str) (dss_one (ds_ret (de_and (de_callX R.f_is_term C rfl T.m_f_is_term T.kp_f_is_term T.b_f_is_term (da_cons (de_var 3) da_nil)) (de_one (de_callX R.f_is_term C rfl T.m_f_is_term T.kp_f_is_term T.b_f_is_term (da_cons (de_var 4) da_nil)))))) dss_nil)
    (dss_cons (ds_if (dt_eqZ C.u65 (de_var 2) de_str) (dss_one (ds_ret (de_and (de_callX R.f_is_name C rfl T.m_f_is_name T.kp_f_is_name T.b_f_is_name (da_cons (de_var 3) da_nil)) (de_one (de_callX R.f_is_term C rfl T.m_f_is_term T.kp_f_is_term T.b_f_is_term (da_cons (de_var 4) da_nil)))))) dss_nil)
    (dss_cons (ds_if (dt_eqZ C.u65 (de_var 2) de_str) (dss_one (ds_ret (de_and (de_callX R.f_are_bindings C rfl T.m_f_are_bindings T.kp_f_are_bindings T.b_f_are_bindings (da_cons (de_var 3) da_nil)) (de_one (de_callX R.f_is_term C rfl T.m_f_is_term T.kp_f_is_term T.b_f_is_term (da_cons (de_var 4) da_nil)))))) dss_nil)
    (dss_one (ds_ret (de_and (de_eqZ C.u65 (de_var 2) de_str) (de_and (de_callX R.f_is_term C rfl T.m_f_is_term T.kp_f_is_term T.b_f_is_term (da_cons (de_var 3) da_nil)) (de_one (de_callX R.f_are_arms C rfl T.m_f_are_arms T.kp_f_are_arms T.b_f_are_arms (da_cons (de_var 4) da_nil)))))))))))))))
set_option maxHeartbeats 4000000 in
theorem ok_f_parts_of_term (T : Tops K mg w ad fd ) (R : Rk P w K mg base ad fd (k + 2) r) : FnOk P w K mg base (L2.CX P w) (k + 3) (ad .f_parts_of_term) (fd .f_parts_of_term) ["term"] (spX K 1 (runF 7 (b_f_parts_of_term r))) := by
  refine fnOk_data T.fn_f_parts_of_term sc_f_parts_of_term rfl rfl _ fun cdv A outer s H E C po => ?_
  unfold b_f_parts_of_term f_parts_of_term_3 f_parts_of_term_2 f_parts_of_term_1
  exact (dss_cons (ds_set (i := 1) sc_f_parts_of_term.nd rfl (by first | exact Or.inl rfl | exact Or.inr rfl) (de_subs C.u1 (de_var 0) de_int))
    (dss_cons (ds_if (dt_eqZ C.u65 (de_var 1) de_str) (dss_one (ds_ret (de_lst (da_cons (de_subs C.u1 (de_var 0) de_int) (da_cons (de_subs C.u1 (de_var 0) de_int) da_nil))))) dss_nil)
    (dss_cons (ds_if (dt_eqZ C.u65 (de_var 1) de_str) (dss_one (ds_ret (de_lst (da_cons (de_subs C.u1 (de_var 0) de_int) da_nil)))) dss_nil)
    (dss_cons (ds_if (dt_eqZ C.u65 (de_var 1) de_str) (dss_one (ds_ret (de_addX (de_lc (own := [("name", 2), ("bound", 3)]) finL_ok rfl sc_f_parts_of_term.nd (di_seq (de_subs C.u1 (de_var 0) de_int)) (blkOk_by (by show blkC ["term", "word", "name", "bound", "constructor", "names", "body"] (defScope s_f_parts_of_term) _ _ = true; decide +kernel)) (fun _ _ _ _ _ => (dg_tup rfl (dgs_cons (dg_name (i := 2) sc_f_parts_of_term.nd rfl (by first | exact Or.inl rfl | exact Or.inr rfl) (by decide)) (dgs_cons (dg_name (i := 3) sc_f_parts_of_term.nd rfl (by first | exact Or.inl rfl | exact Or.inr rfl) (by decide)) dgs_nil)))) (fun _ _ _ _ _ => dts_nil) (fun _ _ _ _ _ => (de_var 3))) (de_lst (da_cons (de_subs C.u1 (de_var 0) de_int) da_nil))))) dss_nil)
    (dss_one (ds_ret (de_if (dt_eqZ C.u65 (de_var 1) de_str) (de_addX (de_lst (da_cons (de_subs C.u1 (de_var 0) de_int) da_nil)) (de_lc (own := [("constructor", 4), ("names", 5), ("body", 6)]) finL_ok rfl sc_f_parts_of_term.nd (di_seq (de_subs C.u1 (de_var 0) de_int)) (blkOk_by (by show blkC ["term", "word", "name", "bound", "constructor", "names", "body"] (defScope s_f_parts_of_term) _ _ = true; decide +kernel)) (fun _ _ _ _ _ => (dg_tup rfl (dgs_cons (dg_name (i := 4) sc_f_parts_of_term.nd rfl (by first | exact Or.inl rfl | exact Or.inr rfl) (by decide)) (dgs_cons (dg_name (i := 5) sc_f_parts_of_term.nd rfl (by first | exact Or.inl rfl | exact Or.inr rfl) (by decide)) (dgs_cons (dg_name (i := 6) sc_f_parts_of_term.nd rfl (by first | exact Or.inl rfl | exact Or.inr rfl) (by decide)) dgs_nil))))) (fun _ _ _ _ _ => dts_nil) (fun _ _ _ _ _ => (de_var 6)))) (de_lst da_nil))))))))
set_option maxHeartbeats 4000000 in
theorem ok_f_places (T : Tops K mg w ad fd ) (R : Rk P w K mg base ad fd (k + 2) r) (R2 : Rk P w K mg base ad fd k r2) : GP P w K mg base (k + 3) (ad .f_places) (fd .f_places) ["term"] 1 (b_f_places r r2) := by
  refine .inl ⟨k + 1, by omega, ?_⟩
  unfold b_f_places
  refine gfn_data (wpos := _) T.fn_f_places sc_f_places rfl rfl rfl _ _ _ _ _ _ fun cdv A outer s H E pn C po => ?_
  exact ⟨(ds_set (i := 1) sc_f_places.nd rfl (by first | exact Or.inl rfl | exact Or.inr rfl) (de_lstM (da_cons (de_tup (da_cons (de_tup da_nil) (da_cons (de_var 0) da_nil))) da_nil))), (dt_neZ C.u65 (de_var 1) (de_lst da_nil)), (ds_asg (vs := [3, 4]) (de_pop (de_var 1)) (dg_tup rfl (dgs_cons (dg_name (i := 3) sc_f_places.nd rfl (by first | exact Or.inl rfl | exact Or.inr rfl) (by decide)) (dgs_cons (dg_name (i := 4) sc_f_places.nd rfl (by first | exact Or.inl rfl | exact Or.inr rfl) (by decide)) dgs_nil)))), (de_var 3), (dss_cons (ds_setLc (i := 2) (own := [("number", 5), ("part", 6)]) finL_ok rfl sc_f_places.nd rfl rfl (sw_true rfl rfl rfl rfl) (di_enumX rfl T.b_enumerate (da_cons (de_callO R2.f_parts_of_term C rfl T.m_f_parts_of_term T.kp_f_parts_of_term T.b_f_parts_of_term (da_cons (de_var 4) da_nil)) da_nil)) (blkOk_by (by show blkC ["term", "waiting", "below", "place", "here", "number", "part"] (defScope s_f_places) _ _ = true; decide +kernel)) (fun _ _ _ _ _ => (dg_tup rfl (dgs_cons (dg_name (i := 5) sc_f_places.nd rfl (by first | exact Or.inl rfl | exact Or.inr rfl) (by decide)) (dgs_cons (dg_name (i := 6) sc_f_places.nd rfl (by first | exact Or.inl rfl | exact Or.inr rfl) (by decide)) dgs_nil)))) (fun _ _ _ _ _ => dts_nil) (fun _ _ _ _ _ => (de_tup (da_cons (de_addX (de_var 3) (de_tup (da_cons (de_var 5) da_nil))) (da_cons (de_var 6) da_nil)))))
    (dss_one (ds_expr (de_extend (de_var 1) (da_cons (de_rev (de_var 2)) da_nil)))))⟩
set_option maxHeartbeats 4000000 in
theorem ok_f_part_at (T : Tops K mg w ad fd ) (R : Rk P w K mg base ad fd (k + 2) r) : FnX P w K mg base (k + 3) (ad .f_part_at) (fd .f_part_at) ["term", "place"] (spX K 2 (runF 5 (b_f_part_at r))) := by
  obtain ⟨C_OutOfTerm, fI_OutOfTerm, fd_OutOfTerm, X_OutOfTerm, kx_OutOfTerm⟩ := T.x_OutOfTerm
  refine fnX_data T.fn_f_part_at sc_f_part_at rfl rfl _ fun cdv A outer s H E C po => ?_
  unfold b_f_part_at f_part_at_4 f_part_at_3 f_part_at_2 f_part_at_1
  exact (dss_cons (ds_if (dt_not (dt_val (de_isi .tuple rfl T.b_isinstance rfl T.b_tuple rfl (de_var 1)))) (dss_one (ds_raise xb_LookupError X_OutOfTerm.cls X_OutOfTerm.hcl X_OutOfTerm.iC X_OutOfTerm.tI ((fi_OutOfTerm X_OutOfTerm).mono (Nat.succ_le_succ (Nat.zero_le _))) X_OutOfTerm.b C rfl X_OutOfTerm.m rfl (de_var 1))) dss_nil)
    (dss_cons (ds_set (i := 2) sc_f_part_at.nd rfl (by first | exact Or.inl rfl | exact Or.inr rfl) (de_var 0))
    (dss_cons (ds_for (vs := [3]) po rfl (di_seq (de_var 1)) (dg_name (i := 3) sc_f_part_at.nd rfl (by first | exact Or.inl rfl | exact Or.inr rfl) (by decide)) (dss_cons (ds_set (i := 4) sc_f_part_at.nd rfl (by first | exact Or.inl rfl | exact Or.inr rfl) (de_callX (toX R.f_parts_of_term) C rfl T.m_f_parts_of_term T.kp_f_parts_of_term T.b_f_parts_of_term (da_cons (de_var 2) da_nil)))
    (dss_cons (ds_if (dt_bool (dw_or (dt_not (dt_val (de_isi .int rfl T.b_isinstance rfl T.b_int rfl (de_var 3)))) (dw_or (dt_val (de_isi .bool rfl T.b_isinstance rfl T.b_bool rfl (de_var 3))) (dt_or1 (dt_not (dt_leXlt de_int (de_var 3) (de_len rfl T.b_len (da_cons (de_var 4) da_nil)))))))) (dss_one (ds_raise xb_LookupError X_OutOfTerm.cls X_OutOfTerm.hcl X_OutOfTerm.iC X_OutOfTerm.tI ((fi_OutOfTerm X_OutOfTerm).mono (Nat.succ_le_succ (Nat.zero_le _))) X_OutOfTerm.b C rfl X_OutOfTerm.m rfl (de_var 1))) dss_nil)
    (dss_one (ds_set (i := 2) sc_f_part_at.nd rfl (by first | exact Or.inl rfl | exact Or.inr rfl) (de_subs C.u1 (de_var 4) (de_var 3)))))))
    (dss_one (ds_ret (de_var 2))))))
set_option maxHeartbeats 4000000 in
theorem ok_f_bound_for (T : Tops K mg w ad fd ) (R : Rk P w K mg base ad fd (k + 2) r) : FnX P w K mg base (k + 3) (ad .f_bound_for) (fd .f_bound_for) ["term", "number"] (spX K 2 (runF 4 (b_f_bound_for r))) := by
  refine fnX_data T.fn_f_bound_for sc_f_bound_for rfl rfl _ fun cdv A outer s H E C po => ?_
  unfold b_f_bound_for f_bound_for_2 f_bound_for_1
  exact (dss_cons (ds_if (dt_eqZ C.u65 (de_subs C.u1 (de_var 0) de_int) de_str) (dss_one (ds_ret (de_tup (da_cons (de_subs C.u1 (de_var 0) de_int) da_nil)))) dss_nil)
    (dss_cons (ds_if (dt_eqZ C.u65 (de_subs C.u1 (de_var 0) de_int) de_str) (dss_one (ds_ret (de_tupleX rfl rfl T.b_tuple (da_cons (de_lc (own := [("name", 2), ("bound", 3)]) finL_ok rfl sc_f_bound_for.nd (di_seq (de_subs C.u1 (de_var 0) de_int)) (blkOk_by (by show blkC ["term", "number", "name", "bound"] (defScope s_f_bound_for) _ _ = true; decide +kernel)) (fun _ _ _ _ _ => (dg_tup rfl (dgs_cons (dg_name (i := 2) sc_f_bound_for.nd rfl (by first | exact Or.inl rfl | exact Or.inr rfl) (by decide)) (dgs_cons (dg_name (i := 3) sc_f_bound_for.nd rfl (by first | exact Or.inl rfl | exact Or.inr rfl) (by decide)) dgs_nil)))) (fun _ _ _ _ _ => dts_nil) (fun _ _ _ _ _ => (de_var 2))) da_nil)))) dss_nil)
    (dss_one (ds_ret (de_if (dt_bool (dw_and (dt_eqZ C.u65 (de_subs C.u1 (de_var 0) de_int) de_str) (dt_and1 (dt_gt  (de_var 1) de_int)))) (de_subs C.u1 (de_subs C.u1 (de_subs C.u1 (de_var 0) de_int) (de_sub (de_var 1) de_int)) de_int) (de_tup da_nil))))))
set_option maxHeartbeats 4000000 in
theorem ok_f_used_names (T : Tops K mg w ad fd ) (R : Rk P w K mg base ad fd (k + 2) r) : FnX P w K mg base (k + 3) (ad .f_used_names) (fd .f_used_names) ["term", "hidden"] (spX K 2 (runF 5 (b_f_used_names r))) := by
  refine fnX_data T.fn_f_used_names sc_f_used_names rfl rfl _ fun cdv A outer s H E C po => ?_
  unfold b_f_used_names f_used_names_3 f_used_names_2 f_used_names_1
  exact (dss_cons (ds_if (dt_eqZ C.u65 (de_subs C.u1 (de_var 0) de_int) de_str) (dss_one (ds_ret (de_if (dt_notInX C.u65 (de_subs C.u1 (de_var 0) de_int) (de_var 1)) (de_lst (da_cons (de_subs C.u1 (de_var 0) de_int) da_nil)) (de_lst da_nil)))) dss_nil)
    (dss_cons (ds_set (i := 2) sc_f_used_names.nd rfl (by first | exact Or.inl rfl | exact Or.inr rfl) (de_lstM da_nil))
    (dss_cons (ds_for (vs := [3, 4]) po rfl (di_enumX rfl T.b_enumerate (da_cons (de_callX (toX R.f_parts_of_term) C rfl T.m_f_parts_of_term T.kp_f_parts_of_term T.b_f_parts_of_term (da_cons (de_var 0) da_nil)) da_nil)) (dg_tup rfl (dgs_cons (dg_name (i := 3) sc_f_used_names.nd rfl (by first | exact Or.inl rfl | exact Or.inr rfl) (by decide)) (dgs_cons (dg_name (i := 4) sc_f_used_names.nd rfl (by first | exact Or.inl rfl | exact Or.inr rfl) (by decide)) dgs_nil))) (dss_one (ds_expr (de_extend (de_var 2) (da_cons (de_callX R.f_used_names C rfl T.m_f_used_names T.kp_f_used_names T.b_f_used_names (da_cons (de_var 4) (da_cons (de_addX (de_var 1) (de_callX R.f_bound_for C rfl T.m_f_bound_for T.kp_f_bound_for T.b_f_bound_for (da_cons (de_var 0) (da_cons (de_var 3) da_nil)))) da_nil))) da_nil)))))
    (dss_one (ds_ret (de_ice (de_var 2)))))))
set_option maxHeartbeats 4000000 in
theorem ok_f_free_names (T : Tops K mg w ad fd ) (R : Rk P w K mg base ad fd (k + 2) r) : FnX P w K mg base (k + 3) (ad .f_free_names) (fd .f_free_names) ["term"] (spX K 1 (runF 1 (b_f_free_names r))) := by
  refine fnX_data T.fn_f_free_names sc_f_free_names rfl rfl _ fun cdv A outer s H E C po => ?_
  unfold b_f_free_names
  exact (dss_one (ds_ret (de_tupleX rfl rfl T.b_tuple (da_cons (de_sortSet rfl rfl T.b_sorted rfl T.b_set (de_callX R.f_used_names C rfl T.m_f_used_names T.kp_f_used_names T.b_f_used_names (da_cons (de_var 0) (da_cons (de_tup da_nil) da_nil)))) da_nil))))
set_option maxHeartbeats 4000000 in
theorem ok_f_begin_l (T : Tops K mg w ad fd ) (R : Rk P w K mg base ad fd (k + 2) r) : FnX P w K mg base (k + 3) (ad .f_begin_l) (fd .f_begin_l) ["_law_script"] (spX K 1 (runF 1 (b_f_begin_l r))) := by
  refine fnX_data T.fn_f_begin_l sc_f_begin_l rfl rfl _ fun cdv A outer s H E C po => ?_
  unfold b_f_begin_l
  exact (dss_one (ds_ret (de_dispM (.cons de_str (de_or (de_slice (de_var 0) do_none (do_some de_int)) (de_one (de_lst (da_cons de_int da_nil)))) (.cons de_str de_int (.cons de_str de_int .nil))))))
set_option maxHeartbeats 4000000 in
theorem ok_f_draw_l (T : Tops K mg w ad fd ) (R : Rk P w K mg base ad fd (k + 2) r) : FnX P w K mg base (k + 3) (ad .f_draw_l) (fd .f_draw_l) ["_law_tape", "_law_many"] (spX K 2 (runF 6 (b_f_draw_l r))) := by
  refine fnX_data T.fn_f_draw_l sc_f_draw_l rfl rfl _ fun cdv A outer s H E C po => ?_
  unfold b_f_draw_l f_draw_l_1
  exact (dss_cons (ds_if (dt_lt  (de_subs C.u1 (de_var 0) de_str) (de_var 1)) (dss_cons (ds_par (i := 3) (j := 4) rfl sc_f_draw_l.nd rfl rfl (by decide) rfl rfl (da_cons (de_subs C.u1 (de_var 0) de_str) (da_cons (de_len rfl T.b_len (da_cons (de_subs C.u1 (de_var 0) de_str) da_nil)) da_nil)))
    (dss_cons (ds_asgTT (vs := [5]) rfl (da_cons (de_subs C.u1 (de_subs C.u1 (de_var 0) de_str) (de_mod (de_int1 rfl T.b_int (da_cons (de_var 3) da_nil)) (de_var 4))) (da_cons (de_add (de_var 3) de_int) da_nil)) (dgs_cons (dg_name (i := 5) sc_f_draw_l.nd rfl (by first | exact Or.inl rfl | exact Or.inr rfl) (by decide)) (dgs_cons (dg_sub (W := W0) C.u1 (de_var 0) de_str) dgs_nil)) (hd := (lenCons (lenCons lenNil))))
    (dss_cons (ds_asg (vs := []) (de_mod (de_int1 rfl T.b_int (da_cons (de_pow (de_add (de_add (de_mod (de_int1 rfl T.b_int (da_cons (de_var 5) da_nil)) de_int) (de_mulX de_int (de_var 3))) de_int) de_int) da_nil)) (de_add (de_pow de_int de_int) de_int)) (dg_sub (W := W0) C.u1 (de_var 0) de_str))
    (dss_one (ds_if (dt_bool (dw_and (dt_ge  (de_var 5) (de_pow de_int de_int)) (dt_and1 (dt_lt  (de_var 3) (de_var 4))))) (dss_one (ds_asg (vs := []) (de_sub (de_var 5) (de_pow de_int de_int)) (dg_sub (W := W0) C.u1 (de_var 0) de_str))) dss_nil))))) dss_nil)
    (dss_cons (ds_asgTT (vs := [2]) rfl (da_cons (de_mod (de_int1 rfl T.b_int (da_cons (de_subs C.u1 (de_var 0) de_str) da_nil)) (de_var 1)) (da_cons (de_divX (de_subs C.u1 (de_var 0) de_str) (de_var 1)) da_nil)) (dgs_cons (dg_name (i := 2) sc_f_draw_l.nd rfl (by first | exact Or.inl rfl | exact Or.inr rfl) (by decide)) (dgs_cons (dg_sub (W := W0) C.u1 (de_var 0) de_str) dgs_nil)) (hd := (lenCons (lenCons lenNil))))
    (dss_one (ds_ret (de_var 2)))))
set_option maxHeartbeats 4000000 in
theorem ok_f_pick_l (T : Tops K mg w ad fd ) (R : Rk P w K mg base ad fd (k + 2) r) : FnX P w K mg base (k + 3) (ad .f_pick_l) (fd .f_pick_l) ["_law_tape", "_law_items"] (spX K 2 (runF 2 (b_f_pick_l r))) := by
  refine fnX_data T.fn_f_pick_l sc_f_pick_l rfl rfl _ fun cdv A outer s H E C po => ?_
  unfold b_f_pick_l
  exact (dss_one (ds_ret (de_subs C.u1 (de_var 1) (de_callX R.f_draw_l C rfl T.m_f_draw_l T.kp_f_draw_l T.b_f_draw_l (da_cons (de_var 0) (da_cons (de_len rfl T.b_len (da_cons (de_var 1) da_nil)) da_nil))))))
set_option maxHeartbeats 4000000 in
theorem ok_f_shuffled_l (T : Tops K mg w ad fd ) (R : Rk P w K mg base ad fd (k + 2) r) : FnX P w K mg base (k + 3) (ad .f_shuffled_l) (fd .f_shuffled_l) ["_law_tape", "_law_items"] (spX K 2 (runF 4 (b_f_shuffled_l r))) := by
  refine fnX_data T.fn_f_shuffled_l sc_f_shuffled_l rfl rfl _ fun cdv A outer s H E C po => ?_
  unfold b_f_shuffled_l f_shuffled_l_2 f_shuffled_l_1
  exact (dss_cons (ds_par (i := 2) (j := 3) rfl sc_f_shuffled_l.nd rfl rfl (by decide) rfl rfl (da_cons (de_listXM rfl rfl T.b_list (da_cons (de_var 1) da_nil)) (da_cons (de_lstM da_nil) da_nil)))
    (dss_cons (ds_while 1000 po (dt_neZ C.u65 (de_var 2) (de_lst da_nil)) (dss_one (ds_expr (de_append (de_var 3) (da_cons (de_popAt (de_var 2) (da_cons (de_callX R.f_draw_l C rfl T.m_f_draw_l T.kp_f_draw_l T.b_f_draw_l (da_cons (de_var 0) (da_cons (de_len rfl T.b_len (da_cons (de_var 2) da_nil)) da_nil))) da_nil)) da_nil)))))
    (dss_one (ds_ret (de_ice (de_var 3))))))
set_option maxHeartbeats 4000000 in
theorem ok_f_odd_l (T : Tops K mg w ad fd ) (R : Rk P w K mg base ad fd (k + 2) r) : FnX P w K mg base (k + 3) (ad .f_odd_l) (fd .f_odd_l) ["_law_tape"] (spX K 1 (runF 2 (b_f_odd_l r))) := by
  refine fnX_data T.fn_f_odd_l sc_f_odd_l rfl rfl _ fun cdv A outer s H E C po => ?_
  unfold b_f_odd_l
  exact (dss_cons (ds_set (i := 1) sc_f_odd_l.nd rfl (by first | exact Or.inl rfl | exact Or.inr rfl) (de_lst (da_cons de_non (da_cons de_bl (da_cons de_bl (da_cons de_int (da_cons de_int (da_cons (de_neg de_int) (da_cons de_int (da_cons (de_pow de_int de_int) (da_cons de_str (da_cons de_str (da_cons de_str (da_cons de_str (da_cons de_str (da_cons de_str (da_cons de_str (da_cons (de_tup da_nil) (da_cons (de_lst da_nil) (da_cons de_dnewL (da_cons (de_tup (da_cons de_str da_nil)) da_nil)))))))))))))))))))))
    (dss_cons (ds_set (i := 1) sc_f_odd_l.nd rfl (by first | exact Or.inl rfl | exact Or.inr rfl) (de_addX (de_var 1) (de_lst (da_cons (de_lst (da_cons de_str da_nil)) (da_cons (de_tup (da_cons de_int da_nil)) (da_cons (de_tup (da_cons de_int (da_cons de_int da_nil))) (da_cons (de_lst (da_cons de_int da_nil)) (da_cons (de_tup (da_cons (de_tup (da_cons de_str da_nil)) da_nil)) (da_cons (de_dispL (.cons de_str de_int .nil)) (da_cons (de_tup (da_cons de_str (da_cons de_str da_nil))) (da_cons (de_tup (da_cons de_str (da_cons de_str da_nil))) (da_cons (de_tup (da_cons de_str (da_cons de_str da_nil))) (da_cons (de_tup (da_cons de_non da_nil)) da_nil)))))))))))))
    (dss_cons (ds_set (i := 1) sc_f_odd_l.nd rfl (by first | exact Or.inl rfl | exact Or.inr rfl) (de_addX (de_var 1) (de_lst (da_cons (de_tup (da_cons de_str (da_cons (de_tup (da_cons de_str (da_cons de_str da_nil))) da_nil))) (da_cons (de_tup (da_cons de_str (da_cons de_int da_nil))) (da_cons de_str (da_cons (de_tup (da_cons de_int (da_cons de_int da_nil))) (da_cons (de_tup (da_cons de_str (da_cons de_bl da_nil))) (da_cons (de_lst (da_cons (de_tup da_nil) da_nil)) (da_cons de_int (da_cons (de_tup (da_cons de_str (da_cons (de_tup da_nil) da_nil))) da_nil)))))))))))
    (dss_one (ds_ret (de_callX R.f_pick_l C rfl T.m_f_pick_l T.kp_f_pick_l T.b_f_pick_l (da_cons (de_var 0) (da_cons (de_addX (de_var 1) (de_lst (da_cons (de_tup (da_cons de_str (da_cons de_int (da_cons (de_tup da_nil) da_nil)))) (da_cons (de_tup (da_cons de_str (da_cons de_str (da_cons (de_tup da_nil) da_nil)))) (da_cons (de_tup (da_cons de_str (da_cons de_int da_nil))) (da_cons (de_tup (da_cons de_str da_nil)) (da_cons (de_tup (da_cons de_str (da_cons de_str da_nil))) (da_cons de_dnewL da_nil)))))))) da_nil))))))))
set_option maxHeartbeats 4000000 in
theorem ok_f_words_l (T : Tops K mg w ad fd ) (R : Rk P w K mg base ad fd (k + 2) r) : FnX P w K mg base (k + 3) (ad .f_words_l) (fd .f_words_l) ["_law_tape", "_law_many"] (spX K 2 (runF 8 (b_f_words_l r))) := by
  refine fnX_data T.fn_f_words_l sc_f_words_l rfl rfl _ fun cdv A outer s H E C po => ?_
  unfold b_f_words_l
  exact (dss_cons (ds_asgTT (vs := [4, 5]) rfl (da_cons (de_callX R.f_pick_l C rfl T.m_f_pick_l T.kp_f_pick_l T.b_f_pick_l (da_cons (de_var 0) (da_cons (de_lst (da_cons de_str (da_cons de_str (da_cons de_str (da_cons de_str (da_cons de_str (da_cons de_str da_nil))))))) da_nil))) (da_cons (de_callX R.f_draw_l C rfl T.m_f_draw_l T.kp_f_draw_l T.b_f_draw_l (da_cons (de_var 0) (da_cons de_int da_nil))) da_nil)) (dgs_cons (dg_name (i := 4) sc_f_words_l.nd rfl (by first | exact Or.inl rfl | exact Or.inr rfl) (by decide)) (dgs_cons (dg_name (i := 5) sc_f_words_l.nd rfl (by first | exact Or.inl rfl | exact Or.inr rfl) (by decide)) dgs_nil)) (hd := (lenCons (lenCons lenNil))))
    (dss_cons (ds_setLc (i := 2) (own := [("_law_k", 6)]) finL_ok rfl sc_f_words_l.nd rfl rfl (sw_true rfl rfl rfl rfl) (di_range rfl T.b_range (da_cons (de_var 1) da_nil)) (blkOk_by (by show blkC ["_law_tape", "_law_many", "_law_letters", "_law_is_behind", "_law_rest", "_law_first", "_law_k", "_law_letter"] (defScope s_f_words_l) _ _ = true; decide +kernel)) (fun _ _ _ _ _ => (dg_name (i := 6) sc_f_words_l.nd rfl (by first | exact Or.inl rfl | exact Or.inr rfl) (by decide))) (fun _ _ _ _ _ => dts_nil) (fun _ _ _ _ _ => (de_subs C.blk.u1 de_str (de_mod (de_intT rfl T.b_int (da_cons (de_addX (de_var 5) (de_mulX de_int (de_var 6))) da_nil)) de_int))))
    (dss_cons (ds_set (i := 3) sc_f_words_l.nd rfl (by first | exact Or.inl rfl | exact Or.inr rfl) (de_eqZ C.u65 (de_callX R.f_draw_l C rfl T.m_f_draw_l T.kp_f_draw_l T.b_f_draw_l (da_cons (de_var 0) (da_cons de_int da_nil))) de_int))
    (dss_one (ds_ret (de_lc (own := [("_law_letter", 7)]) finL_ok rfl sc_f_words_l.nd (di_seq (de_var 2)) (blkOk_by (by show blkC ["_law_tape", "_law_many", "_law_letters", "_law_is_behind", "_law_rest", "_law_first", "_law_k", "_law_letter"] (defScope s_f_words_l) _ _ = true; decide +kernel)) (fun _ _ _ _ _ => (dg_name (i := 7) sc_f_words_l.nd rfl (by first | exact Or.inl rfl | exact Or.inr rfl) (by decide))) (fun _ _ _ _ _ => dts_nil) (fun _ _ _ _ _ => (de_if (dt_val (de_var 3)) (de_addX (de_var 4) (de_var 7)) (de_addX (de_var 7) (de_var 4))))))))))
set_option maxHeartbeats 4000000 in
theorem ok_f_term_l (T : Tops K mg w ad fd ) (R : Rk P w K mg base ad fd (k + 2) r) : FnX P w K mg base (k + 3) (ad .f_term_l) (fd .f_term_l) ["_law_tape", "_law_names", "_law_deep"] (spX K 3 (runF 9 (b_f_term_l r))) := by
  refine fnX_data T.fn_f_term_l sc_f_term_l rfl rfl _ fun cdv A outer s H E C po => ?_
  unfold b_f_term_l f_term_l_4 f_term_l_3 f_term_l_2 f_term_l_1
  exact (dss_cons (ds_set (i := 3) sc_f_term_l.nd rfl (by first | exact Or.inl rfl | exact Or.inr rfl) (de_if (dt_gt  (de_var 2) de_int) (de_callX R.f_draw_l C rfl T.m_f_draw_l T.kp_f_draw_l T.b_f_draw_l (da_cons (de_var 0) (da_cons de_int da_nil))) (de_callX R.f_draw_l C rfl T.m_f_draw_l T.kp_f_draw_l T.b_f_draw_l (da_cons (de_var 0) (da_cons de_int da_nil)))))
    (dss_cons (ds_if (dt_lt  (de_var 3) de_int) (dss_cons (ds_set (i := 6) sc_f_term_l.nd rfl (by first | exact Or.inl rfl | exact Or.inr rfl) (de_lst (da_cons (de_tup (da_cons de_str (da_cons (de_callX R.f_pick_l C rfl T.m_f_pick_l T.kp_f_pick_l T.b_f_pick_l (da_cons (de_var 0) (da_cons (de_lst (da_cons de_int (da_cons (de_neg (de_pow de_int de_int)) (da_cons (de_pow de_int de_int) (da_cons de_int da_nil))))) da_nil))) da_nil))) (da_cons (de_tup (da_cons de_str (da_cons (de_callX R.f_pick_l C rfl T.m_f_pick_l T.kp_f_pick_l T.b_f_pick_l (da_cons (de_var 0) (da_cons (de_lst (da_cons de_str (da_cons (de_mulX de_str de_int) (da_cons de_str da_nil)))) da_nil))) da_nil))) da_nil))))
    (dss_one (ds_ret (de_callX R.f_pick_l C rfl T.m_f_pick_l T.kp_f_pick_l T.b_f_pick_l (da_cons (de_var 0) (da_cons (de_addX (de_addX (de_lst (da_cons (de_tup (da_cons de_str (da_cons (de_callX R.f_pick_l C rfl T.m_f_pick_l T.kp_f_pick_l T.b_f_pick_l (da_cons (de_var 0) (da_cons (de_var 1) da_nil))) da_nil))) (da_cons (de_tup (da_cons de_str (da_cons (de_callX R.f_pick_l C rfl T.m_f_pick_l T.kp_f_pick_l T.b_f_pick_l (da_cons (de_var 0) (da_cons (de_var 1) da_nil))) da_nil))) da_nil))) (de_var 6)) (de_lst (da_cons (de_tup (da_cons de_str da_nil)) da_nil))) da_nil)))))) dss_nil)
    (dss_cons (ds_if (dt_eqZ C.u65 (de_var 3) de_int) (dss_one (ds_ret (de_tup (da_cons de_str (da_cons (de_callX R.f_term_l C rfl T.m_f_term_l T.kp_f_term_l T.b_f_term_l (da_cons (de_var 0) (da_cons (de_var 1) (da_cons (de_sub (de_var 2) de_int) da_nil)))) (da_cons (de_callX R.f_term_l C rfl T.m_f_term_l T.kp_f_term_l T.b_f_term_l (da_cons (de_var 0) (da_cons (de_var 1) (da_cons (de_sub (de_var 2) de_int) da_nil)))) da_nil)))))) dss_nil)
    (dss_cons (ds_if (dt_eqZ C.u65 (de_var 3) de_int) (dss_one (ds_ret (de_tup (da_cons de_str (da_cons (de_callX R.f_pick_l C rfl T.m_f_pick_l T.kp_f_pick_l T.b_f_pick_l (da_cons (de_var 0) (da_cons (de_var 1) da_nil))) (da_cons (de_callX R.f_term_l C rfl T.m_f_term_l T.kp_f_term_l T.b_f_term_l (da_cons (de_var 0) (da_cons (de_var 1) (da_cons (de_sub (de_var 2) de_int) da_nil)))) da_nil)))))) dss_nil)
    (dss_cons (ds_set (i := 4) sc_f_term_l.nd rfl (by first | exact Or.inl rfl | exact Or.inr rfl) (de_tupleX rfl rfl T.b_tuple (da_cons (de_slice (de_callX R.f_shuffled_l C rfl T.m_f_shuffled_l T.kp_f_shuffled_l T.b_f_shuffled_l (da_cons (de_var 0) (da_cons (de_var 1) da_nil))) do_none (do_some (de_addX de_int (de_callX R.f_draw_l C rfl T.m_f_draw_l T.kp_f_draw_l T.b_f_draw_l (da_cons (de_var 0) (da_cons de_int da_nil)))))) da_nil)))
    (dss_cons (ds_if (dt_eqZ C.u65 (de_var 3) de_int) (dss_one (ds_ret (de_tup (da_cons de_str (da_cons (de_tupleX rfl rfl T.b_tuple (da_cons (de_lc (own := [("_law_name", 8)]) finL_ok rfl sc_f_term_l.nd (di_seq (de_var 4)) (blkOk_by (by show blkC ["_law_tape", "_law_names", "_law_deep", "_law_way", "_law_own", "_law_arms", "_law_some", "_law_k", "_law_name"] (defScope s_f_term_l) _ _ = true; decide +kernel)) (fun _ _ _ _ _ => (dg_name (i := 8) sc_f_term_l.nd rfl (by first | exact Or.inl rfl | exact Or.inr rfl) (by decide))) (fun _ _ _ _ _ => dts_nil) (fun _ _ _ _ _ => (de_tup (da_cons (de_var 8) (da_cons (de_callX R.f_term_l C.blk rfl T.m_f_term_l T.kp_f_term_l T.b_f_term_l (da_cons (de_var 0) (da_cons (de_var 1) (da_cons (de_sub (de_var 2) de_int) da_nil)))) da_nil))))) da_nil)) (da_cons (de_callX R.f_term_l C rfl T.m_f_term_l T.kp_f_term_l T.b_f_term_l (da_cons (de_var 0) (da_cons (de_var 1) (da_cons (de_sub (de_var 2) de_int) da_nil)))) da_nil)))))) dss_nil)
    (dss_cons (ds_setLc (i := 5) (own := [("_law_k", 7)]) finL_ok rfl sc_f_term_l.nd rfl rfl (sw_true rfl rfl rfl rfl) (di_range rfl T.b_range (da_cons (de_addX de_int (de_callX R.f_draw_l C rfl T.m_f_draw_l T.kp_f_draw_l T.b_f_draw_l (da_cons (de_var 0) (da_cons de_int da_nil)))) da_nil)) (blkOk_by (by show blkC ["_law_tape", "_law_names", "_law_deep", "_law_way", "_law_own", "_law_arms", "_law_some", "_law_k", "_law_name"] (defScope s_f_term_l) _ _ = true; decide +kernel)) (fun _ _ _ _ _ => (dg_name (i := 7) sc_f_term_l.nd rfl (by first | exact Or.inl rfl | exact Or.inr rfl) (by decide))) (fun _ _ _ _ _ => dts_nil) (fun _ _ _ _ _ => (de_tup (da_cons (de_callX R.f_pick_l C.blk rfl T.m_f_pick_l T.kp_f_pick_l T.b_f_pick_l (da_cons (de_var 0) (da_cons (de_var 1) da_nil))) (da_cons (de_slice (de_var 4) do_none (do_some (de_callX R.f_draw_l C.blk rfl T.m_f_draw_l T.kp_f_draw_l T.b_f_draw_l (da_cons (de_var 0) (da_cons de_int da_nil))))) (da_cons (de_callX R.f_term_l C.blk rfl T.m_f_term_l T.kp_f_term_l T.b_f_term_l (da_cons (de_var 0) (da_cons (de_var 1) (da_cons (de_sub (de_var 2) de_int) da_nil)))) da_nil))))))
    (dss_one (ds_ret (de_tup (da_cons de_str (da_cons (de_callX R.f_term_l C rfl T.m_f_term_l T.kp_f_term_l T.b_f_term_l (da_cons (de_var 0) (da_cons (de_var 1) (da_cons (de_sub (de_var 2) de_int) da_nil)))) (da_cons (de_tupleX rfl rfl T.b_tuple (da_cons (de_var 5) da_nil)) da_nil)))))))))))))
set_option maxHeartbeats 4000000 in
theorem ok_f_parts_l (T : Tops K mg w ad fd ) (R : Rk P w K mg base ad fd (k + 2) r) : FnX P w K mg base (k + 3) (ad .f_parts_l) (fd .f_parts_l) ["_law_term_here"] (spX K 1 (runF 5 (b_f_parts_l r))) := by
  refine fnX_data T.fn_f_parts_l sc_f_parts_l rfl rfl _ fun cdv A outer s H E C po => ?_
  unfold b_f_parts_l f_parts_l_3 f_parts_l_2 f_parts_l_1
  exact (dss_cons (ds_if (dt_eqZ C.u65 (de_subs C.u1 (de_var 0) de_int) de_str) (dss_one (ds_ret (de_lst (da_cons (de_tup (da_cons (de_subs C.u1 (de_var 0) de_int) (da_cons (de_tup da_nil) da_nil))) (da_cons (de_tup (da_cons (de_subs C.u1 (de_var 0) de_int) (da_cons (de_tup da_nil) da_nil))) da_nil))))) dss_nil)
    (dss_cons (ds_if (dt_eqZ C.u65 (de_subs C.u1 (de_var 0) de_int) de_str) (dss_one (ds_ret (de_lst (da_cons (de_tup (da_cons (de_subs C.u1 (de_var 0) de_int) (da_cons (de_tup (da_cons (de_subs C.u1 (de_var 0) de_int) da_nil)) da_nil))) da_nil)))) dss_nil)
    (dss_cons (ds_if (dt_eqZ C.u65 (de_subs C.u1 (de_var 0) de_int) de_str) (dss_cons (ds_set (i := 1) sc_f_parts_l.nd rfl (by first | exact Or.inl rfl | exact Or.inr rfl) (de_tupleX rfl rfl T.b_tuple (da_cons (de_lc (own := [("_law_name", 3), ("_law_one", 4)]) finL_ok rfl sc_f_parts_l.nd (di_seq (de_subs C.u1 (de_var 0) de_int)) (blkOk_by (by show blkC ["_law_term_here", "_law_own", "_law_arm", "_law_name", "_law_one"] (defScope s_f_parts_l) _ _ = true; decide +kernel)) (fun _ _ _ _ _ => (dg_tup rfl (dgs_cons (dg_name (i := 3) sc_f_parts_l.nd rfl (by first | exact Or.inl rfl | exact Or.inr rfl) (by decide)) (dgs_cons (dg_name (i := 4) sc_f_parts_l.nd rfl (by first | exact Or.inl rfl | exact Or.inr rfl) (by decide)) dgs_nil)))) (fun _ _ _ _ _ => dts_nil) (fun _ _ _ _ _ => (de_var 3))) da_nil)))
    (dss_one (ds_ret (de_addX (de_lc (own := [("_law_name", 3), ("_law_one", 4)]) finL_ok rfl sc_f_parts_l.nd (di_seq (de_subs C.u1 (de_var 0) de_int)) (blkOk_by (by show blkC ["_law_term_here", "_law_own", "_law_arm", "_law_name", "_law_one"] (defScope s_f_parts_l) _ _ = true; decide +kernel)) (fun _ _ _ _ _ => (dg_tup rfl (dgs_cons (dg_name (i := 3) sc_f_parts_l.nd rfl (by first | exact Or.inl rfl | exact Or.inr rfl) (by decide)) (dgs_cons (dg_name (i := 4) sc_f_parts_l.nd rfl (by first | exact Or.inl rfl | exact Or.inr rfl) (by decide)) dgs_nil)))) (fun _ _ _ _ _ => dts_nil) (fun _ _ _ _ _ => (de_tup (da_cons (de_var 4) (da_cons (de_var 1) da_nil))))) (de_lst (da_cons (de_tup (da_cons (de_subs C.u1 (de_var 0) de_int) (da_cons (de_var 1) da_nil))) da_nil)))))) dss_nil)
    (dss_one (ds_ret (de_if (dt_eqZ C.u65 (de_subs C.u1 (de_var 0) de_int) de_str) (de_addX (de_lst (da_cons (de_tup (da_cons (de_subs C.u1 (de_var 0) de_int) (da_cons (de_tup da_nil) da_nil))) da_nil)) (de_lc (own := [("_law_arm", 2)]) finL_ok rfl sc_f_parts_l.nd (di_seq (de_subs C.u1 (de_var 0) de_int)) (blkOk_by (by show blkC ["_law_term_here", "_law_own", "_law_arm", "_law_name", "_law_one"] (defScope s_f_parts_l) _ _ = true; decide +kernel)) (fun _ _ _ _ _ => (dg_name (i := 2) sc_f_parts_l.nd rfl (by first | exact Or.inl rfl | exact Or.inr rfl) (by decide))) (fun _ _ _ _ _ => dts_nil) (fun _ _ _ _ _ => (de_tup (da_cons (de_subs C.blk.u1 (de_var 2) de_int) (da_cons (de_subs C.blk.u1 (de_var 2) de_int) da_nil)))))) (de_lst da_nil)))))))
set_option maxHeartbeats 4000000 in
theorem ok_f_spots_l (T : Tops K mg w ad fd ) (R : Rk P w K mg base ad fd (k + 2) r) : FnX P w K mg base (k + 3) (ad .f_spots_l) (fd .f_spots_l) ["_law_term_here", "_law_spot"] (spX K 2 (runF 5 (b_f_spots_l r))) := by
  refine fnX_data T.fn_f_spots_l sc_f_spots_l rfl rfl _ fun cdv A outer s H E C po => ?_
  unfold b_f_spots_l f_spots_l_2 f_spots_l_1
  exact (dss_cons (ds_set (i := 2) sc_f_spots_l.nd rfl (by first | exact Or.inl rfl | exact Or.inr rfl) (de_lst (da_cons (de_tup (da_cons (de_var 1) (da_cons (de_var 0) da_nil))) da_nil)))
    (dss_cons (ds_for (vs := [3, 4]) po rfl (di_enumX rfl T.b_enumerate (da_cons (de_callX R.f_parts_l C rfl T.m_f_parts_l T.kp_f_parts_l T.b_f_parts_l (da_cons (de_var 0) da_nil)) da_nil)) (dg_tup rfl (dgs_cons (dg_name (i := 3) sc_f_spots_l.nd rfl (by first | exact Or.inl rfl | exact Or.inr rfl) (by decide)) (dgs_cons (dg_name (i := 4) sc_f_spots_l.nd rfl (by first | exact Or.inl rfl | exact Or.inr rfl) (by decide)) dgs_nil))) (dss_one (ds_set (i := 2) sc_f_spots_l.nd rfl (by first | exact Or.inl rfl | exact Or.inr rfl) (de_addX (de_var 2) (de_callX R.f_spots_l C rfl T.m_f_spots_l T.kp_f_spots_l T.b_f_spots_l (da_cons (de_subs C.u1 (de_var 4) de_int) (da_cons (de_addX (de_var 1) (de_tup (da_cons (de_var 3) da_nil))) da_nil)))))))
    (dss_one (ds_ret (de_var 2)))))
set_option maxHeartbeats 4000000 in
theorem ok_f_free_l (T : Tops K mg w ad fd ) (R : Rk P w K mg base ad fd (k + 2) r) : FnX P w K mg base (k + 3) (ad .f_free_l) (fd .f_free_l) ["_law_term_here", "_law_hidden"] (spX K 2 (runF 4 (b_f_free_l r))) := by
  refine fnX_data T.fn_f_free_l sc_f_free_l rfl rfl _ fun cdv A outer s H E C po => ?_
  unfold b_f_free_l f_free_l_1
  exact (dss_cons (ds_if (dt_eqZ C.u65 (de_subs C.u1 (de_var 0) de_int) de_str) (dss_one (ds_ret (de_if (dt_inX C.u65 (de_subs C.u1 (de_var 0) de_int) (de_var 1)) (de_lst da_nil) (de_lst (da_cons (de_subs C.u1 (de_var 0) de_int) da_nil))))) dss_nil)
    (dss_one (ds_ret (de_sumL rfl rfl T.b_sum (da_cons (de_lc (own := [("_law_part", 2), ("_law_own", 3)]) finL_ok rfl sc_f_free_l.nd (di_seq (de_callX R.f_parts_l C rfl T.m_f_parts_l T.kp_f_parts_l T.b_f_parts_l (da_cons (de_var 0) da_nil))) (blkOk_by (by show blkC ["_law_term_here", "_law_hidden", "_law_part", "_law_own"] (defScope s_f_free_l) _ _ = true; decide +kernel)) (fun _ _ _ _ _ => (dg_tup rfl (dgs_cons (dg_name (i := 2) sc_f_free_l.nd rfl (by first | exact Or.inl rfl | exact Or.inr rfl) (by decide)) (dgs_cons (dg_name (i := 3) sc_f_free_l.nd rfl (by first | exact Or.inl rfl | exact Or.inr rfl) (by decide)) dgs_nil)))) (fun _ _ _ _ _ => dts_nil) (fun _ _ _ _ _ => (de_callX R.f_free_l C.blk rfl T.m_f_free_l T.kp_f_free_l T.b_f_free_l (da_cons (de_var 2) (da_cons (de_addX (de_var 1) (de_var 3)) da_nil))))) (da_cons (de_lst da_nil) da_nil))))))
set_option maxHeartbeats 4000000 in
theorem ok_f_is_named_l (T : Tops K mg w ad fd ) (R : Rk P w K mg base ad fd (k + 2) r) : FnX P w K mg base (k + 3) (ad .f_is_named_l) (fd .f_is_named_l) ["_law_x"] (spX K 1 (runF 3 (b_f_is_named_l r))) := by
  refine fnX_data T.fn_f_is_named_l sc_f_is_named_l rfl rfl _ fun cdv A outer s H E C po => ?_
  unfold b_f_is_named_l f_is_named_l_1
  exact (dss_cons (ds_set (i := 1) sc_f_is_named_l.nd rfl (by first | exact Or.inl rfl | exact Or.inr rfl) (de_lst (da_cons de_str (da_cons de_str (da_cons de_str (da_cons de_str (da_cons de_str (da_cons de_str (da_cons de_str (da_cons de_str (da_cons de_str (da_cons de_str (da_cons de_str (da_cons de_str da_nil))))))))))))))
    (dss_cons (ds_if (dt_bool (dw_or (dt_not (dt_val (de_isi .str rfl T.b_isinstance rfl T.b_str rfl (de_var 0)))) (dt_or1 (dt_inX C.u65 (de_var 0) (de_addX (de_var 1) (de_lst (da_cons de_str (da_cons de_str (da_cons de_str (da_cons de_str (da_cons de_str da_nil))))))))))) (dss_one (ds_ret de_bl)) dss_nil)
    (dss_one (ds_ret (de_and (de_leXleX de_int (de_len rfl T.b_len (da_cons (de_var 0) da_nil)) de_int) (de_one (de_eqE (Nat.lt_of_le_of_lt (Nat.le_add_right _ _) C.u65) (de_lc (own := [("_law_sign", 2)]) finL_ok rfl sc_f_is_named_l.nd (di_seq (de_var 0)) (blkOk_by (by show blkC ["_law_x", "_law_words_here", "_law_sign"] (defScope s_f_is_named_l) _ _ = true; decide +kernel)) (fun _ _ _ _ _ => (dg_name (i := 2) sc_f_is_named_l.nd rfl (by first | exact Or.inl rfl | exact Or.inr rfl) (by decide))) (fun _ _ _ _ _ => (dts_one (dt_notInX C.blk.u65 (de_var 2) de_str))) (fun _ _ _ _ _ => (de_var 2))) (de_lst da_nil))))))))
set_option maxHeartbeats 4000000 in
theorem ok_f_are_named_l (T : Tops K mg w ad fd ) (R : Rk P w K mg base ad fd (k + 2) r) : FnX P w K mg base (k + 3) (ad .f_are_named_l) (fd .f_are_named_l) ["_law_x"] (spX K 1 (runF 2 (b_f_are_named_l r))) := by
  refine fnX_data T.fn_f_are_named_l sc_f_are_named_l rfl rfl _ fun cdv A outer s H E C po => ?_
  unfold b_f_are_named_l
  exact (dss_one (ds_ret (de_and (de_isi .tuple rfl T.b_isinstance rfl T.b_tuple rfl (de_var 0)) (de_and (de_eqE (Nat.lt_of_le_of_lt (Nat.le_add_right _ _) C.u65) (de_lc (own := [("_law_y", 1)]) finL_ok rfl sc_f_are_named_l.nd (di_seq (de_var 0)) (blkOk_by (by show blkC ["_law_x", "_law_y"] (defScope s_f_are_named_l) _ _ = true; decide +kernel)) (fun _ _ _ _ _ => (dg_name (i := 1) sc_f_are_named_l.nd rfl (by first | exact Or.inl rfl | exact Or.inr rfl) (by decide))) (fun _ _ _ _ _ => (dts_one (dt_not (dt_val (de_callX R.f_is_named_l C.blk rfl T.m_f_is_named_l T.kp_f_is_named_l T.b_f_is_named_l (da_cons (de_var 1) da_nil)))))) (fun _ _ _ _ _ => (de_var 1))) (de_lst da_nil)) (de_one (de_eqZ C.u65 (de_lenSet rfl rfl T.b_len rfl T.b_set (de_var 0)) (de_len rfl T.b_len (da_cons (de_var 0) da_nil))))))))
set_option maxHeartbeats 4000000 in
theorem ok_f_is_leaf_l (T : Tops K mg w ad fd ) (R : Rk P w K mg base ad fd (k + 2) r) : FnX P w K mg base (k + 3) (ad .f_is_leaf_l) (fd .f_is_leaf_l) ["_law_x"] (spX K 1 (runF 2 (b_f_is_leaf_l r))) := by
  refine fnX_data T.fn_f_is_leaf_l sc_f_is_leaf_l rfl rfl _ fun cdv A outer s H E C po => ?_
  unfold b_f_is_leaf_l f_is_leaf_l_3 f_is_leaf_l_2 f_is_leaf_l_1
  exact (dss_cons (ds_if (dt_eqZ C.u65 (de_subs C.u1 (de_var 0) de_int) de_str) (dss_one (ds_ret (de_callX R.f_is_named_l C rfl T.m_f_is_named_l T.kp_f_is_named_l T.b_f_is_named_l (da_cons (de_subs C.u1 (de_var 0) de_int) da_nil)))) dss_nil)
    (dss_cons (ds_if (dt_eqZ C.u65 (de_subs C.u1 (de_var 0) de_int) de_str) (dss_one (ds_ret (de_and (de_isi .int rfl T.b_isinstance rfl T.b_int rfl (de_subs C.u1 (de_var 0) de_int)) (de_and (de_not (de_isi .bool rfl T.b_isinstance rfl T.b_bool rfl (de_subs C.u1 (de_var 0) de_int))) (de_one (de_leX  (de_abs rfl T.b_abs (da_cons (de_subs C.u1 (de_var 0) de_int) da_nil)) (de_pow de_int de_int))))))) dss_nil)
    (dss_cons (ds_if (dt_bool (dw_or (dt_neZ C.u65 (de_subs C.u1 (de_var 0) de_int) de_str) (dw_or (dt_not (dt_val (de_isi .str rfl T.b_isinstance rfl T.b_str rfl (de_subs C.u1 (de_var 0) de_int)))) (dt_or1 (dt_gt  (de_len rfl T.b_len (da_cons (de_subs C.u1 (de_var 0) de_int) da_nil)) de_int))))) (dss_one (ds_ret de_bl)) dss_nil)
    (dss_one (ds_ret (de_eqE (Nat.lt_of_le_of_lt (Nat.le_add_right _ _) C.u65) (de_lc (own := [("_law_sign", 1)]) finL_ok rfl sc_f_is_leaf_l.nd (di_seq (de_subs C.u1 (de_var 0) de_int)) (blkOk_by (by show blkC ["_law_x", "_law_sign"] (defScope s_f_is_leaf_l) _ _ = true; decide +kernel)) (fun _ _ _ _ _ => (dg_name (i := 1) sc_f_is_leaf_l.nd rfl (by first | exact Or.inl rfl | exact Or.inr rfl) (by decide))) (fun _ _ _ _ _ => (dts_one (dt_bool (dw_or (dt_not (dt_leXleX de_str (de_var 1) de_str)) (dt_or1 (dt_eqZ C.blk.u65 (de_ord rfl T.b_ord (da_cons (de_var 1) da_nil)) de_int)))))) (fun _ _ _ _ _ => (de_var 1))) (de_lst da_nil)))))))
set_option maxHeartbeats 4000000 in
theorem ok_f_is_one_l (T : Tops K mg w ad fd ) (R : Rk P w K mg base ad fd (k + 2) r) : FnX P w K mg base (k + 3) (ad .f_is_one_l) (fd .f_is_one_l) ["_law_x"] (spX K 1 (runF 4 (b_f_is_one_l r))) := by
  refine fnX_data T.fn_f_is_one_l sc_f_is_one_l rfl rfl _ fun cdv A outer s H E C po => ?_
  unfold b_f_is_one_l f_is_one_l_8 f_is_one_l_7 f_is_one_l_6 f_is_one_l_5 f_is_one_l_4 f_is_one_l_3 f_is_one_l_2 f_is_one_l_1
  exact (dss_cons (ds_if (dt_bool (dw_or (dt_not (dt_val (de_isi .tuple rfl T.b_isinstance rfl T.b_tuple rfl (de_var 0)))) (dw_or (dt_eqZ C.u65 (de_var 0) (de_tup da_nil)) (dw_or (dt_not (dt_val (de_isi .str rfl T.b_isinstance rfl T.b_str rfl (de_subs C.u1 (de_var 0) de_int)))) (dt_or1 (dt_gt  (de_len rfl T.b_len (da_cons (de_var 0) da_nil)) de_int)))))) (dss_one (ds_ret de_bl)) dss_nil)
    (dss_cons (ds_if (dt_lt  (de_len rfl T.b_len (da_cons (de_var 0) da_nil)) de_int) (dss_one (ds_ret (de_if (dt_eqZ C.u65 (de_len rfl T.b_len (da_cons (de_var 0) da_nil)) de_int) (de_eqZ C.u65 (de_var 0) (de_tup (da_cons de_str da_nil))) (de_callX R.f_is_leaf_l C rfl T.m_f_is_leaf_l T.kp_f_is_leaf_l T.b_f_is_leaf_l (da_cons (de_var 0) da_nil))))) dss_nil)
    (dss_cons (ds_if (dt_inX C.u65 (de_subs C.u1 (de_var 0) de_int) (de_tup (da_cons de_str (da_cons de_str da_nil)))) (dss_one (ds_ret (de_and (de_callX R.f_is_one_l C rfl T.m_f_is_one_l T.kp_f_is_one_l T.b_f_is_one_l (da_cons (de_subs C.u1 (de_var 0) de_int) da_nil)) (de_one (de_if (dt_eqZ C.u65 (de_subs C.u1 (de_var 0) de_int) de_str) (de_callX R.f_is_one_l C rfl T.m_f_is_one_l T.kp_f_is_one_l T.b_f_is_one_l (da_cons (de_subs C.u1 (de_var 0) de_int) da_nil)) (de_callX R.f_is_named_l C rfl T.m_f_is_named_l T.kp_f_is_named_l T.b_f_is_named_l (da_cons (de_subs C.u1 (de_var 0) de_int) da_nil))))))) dss_nil)
    (dss_cons (ds_set (i := 1) sc_f_is_one_l.nd rfl (by first | exact Or.inl rfl | exact Or.inr rfl) (de_if (dt_eqZ C.u65 (de_subs C.u1 (de_var 0) de_int) de_str) (de_subs C.u1 (de_var 0) de_int) (de_subs C.u1 (de_var 0) de_int)))
    (dss_cons (ds_if (dt_bool (dw_or (dt_notInX C.u65 (de_subs C.u1 (de_var 0) de_int) (de_tup (da_cons de_str (da_cons de_str da_nil)))) (dw_or (dt_not (dt_val (de_isi .tuple rfl T.b_isinstance rfl T.b_tuple rfl (de_var 1)))) (dt_or1 (dt_eqZ C.u65 (de_var 1) (de_tup da_nil)))))) (dss_one (ds_ret de_bl)) dss_nil)
    (dss_cons (ds_set (i := 2) sc_f_is_one_l.nd rfl (by first | exact Or.inl rfl | exact Or.inr rfl) (de_if (dt_eqZ C.u65 (de_subs C.u1 (de_var 0) de_int) de_str) de_int de_int))
    (dss_cons (ds_for (vs := [3]) po rfl (di_seq (de_var 1)) (dg_name (i := 3) sc_f_is_one_l.nd rfl (by first | exact Or.inl rfl | exact Or.inr rfl) (by decide)) (dss_cons (ds_if (dt_bool (dw_or (dt_not (dt_val (de_isi .tuple rfl T.b_isinstance rfl T.b_tuple rfl (de_var 3)))) (dw_or (dt_neZ C.u65 (de_len rfl T.b_len (da_cons (de_var 3) da_nil)) (de_var 2)) (dw_or (dt_not (dt_val (de_callX R.f_is_named_l C rfl T.m_f_is_named_l T.kp_f_is_named_l T.b_f_is_named_l (da_cons (de_subs C.u1 (de_var 3) de_int) da_nil)))) (dt_or1 (dt_not (dt_val (de_callX R.f_is_one_l C rfl T.m_f_is_one_l T.kp_f_is_one_l T.b_f_is_one_l (da_cons (de_subs C.u1 (de_var 3) (de_sub (de_var 2) de_int)) da_nil))))))))) (dss_one (ds_ret de_bl)) dss_nil)
    (dss_one (ds_if (dt_bool (dw_and (dt_eqZ C.u65 (de_var 2) de_int) (dt_and1 (dt_not (dt_val (de_callX R.f_are_named_l C rfl T.m_f_are_named_l T.kp_f_are_named_l T.b_f_are_named_l (da_cons (de_subs C.u1 (de_var 3) de_int) da_nil))))))) (dss_one (ds_ret de_bl)) dss_nil))))
    (dss_cons (ds_if (dt_eqZ C.u65 (de_var 2) de_int) (dss_one (ds_ret (de_and (de_callX R.f_are_named_l C rfl T.m_f_are_named_l T.kp_f_are_named_l T.b_f_are_named_l (da_cons (de_tupleX rfl rfl T.b_tuple (da_cons (de_lc (own := [("_law_row", 3)]) finL_ok rfl sc_f_is_one_l.nd (di_seq (de_var 1)) (blkOk_by (by show blkC ["_law_x", "_law_rows", "_law_size", "_law_row"] (defScope s_f_is_one_l) _ _ = true; decide +kernel)) (fun _ _ _ _ _ => (dg_name (i := 3) sc_f_is_one_l.nd rfl (by first | exact Or.inl rfl | exact Or.inr rfl) (by decide))) (fun _ _ _ _ _ => dts_nil) (fun _ _ _ _ _ => (de_subs C.blk.u1 (de_var 3) de_int))) da_nil)) da_nil)) (de_one (de_callX R.f_is_one_l C rfl T.m_f_is_one_l T.kp_f_is_one_l T.b_f_is_one_l (da_cons (de_subs C.u1 (de_var 0) de_int) da_nil)))))) dss_nil)
    (dss_one (ds_ret (de_callX R.f_is_one_l C rfl T.m_f_is_one_l T.kp_f_is_one_l T.b_f_is_one_l (da_cons (de_subs C.u1 (de_var 0) de_int) da_nil))))))))))))
set_option maxHeartbeats 4000000 in
theorem ok_f_bent_l (T : Tops K mg w ad fd ) (R : Rk P w K mg base ad fd (k + 2) r) : FnX P w K mg base (k + 3) (ad .f_bent_l) (fd .f_bent_l) ["_law_tape", "_law_x", "_law_some"] (spX K 3 (runF 5 (b_f_bent_l r))) := by
  refine fnX_data T.fn_f_bent_l sc_f_bent_l rfl rfl _ fun cdv A outer s H E C po => ?_
  unfold b_f_bent_l f_bent_l_2 f_bent_l_1
  exact (dss_cons (ds_if (dt_bool (dw_and (dt_val (de_isi .tuple rfl T.b_isinstance rfl T.b_tuple rfl (de_var 1))) (dw_and (dt_neZ C.u65 (de_var 1) (de_tup da_nil)) (dt_and1 (dt_gt  (de_callX R.f_draw_l C rfl T.m_f_draw_l T.kp_f_draw_l T.b_f_draw_l (da_cons (de_var 0) (da_cons de_int da_nil))) de_int))))) (dss_cons (ds_set (i := 4) sc_f_bent_l.nd rfl (by first | exact Or.inl rfl | exact Or.inr rfl) (de_callX R.f_draw_l C rfl T.m_f_draw_l T.kp_f_draw_l T.b_f_draw_l (da_cons (de_var 0) (da_cons (de_len rfl T.b_len (da_cons (de_var 1) da_nil)) da_nil))))
    (dss_one (ds_ret (de_addX (de_addX (de_slice (de_var 1) do_none (do_some (de_var 4))) (de_tup (da_cons (de_callX R.f_bent_l C rfl T.m_f_bent_l T.kp_f_bent_l T.b_f_bent_l (da_cons (de_var 0) (da_cons (de_subs C.u1 (de_var 1) (de_var 4)) (da_cons (de_var 2) da_nil)))) da_nil))) (de_slice (de_var 1) (do_some (de_addX (de_var 4) de_int)) do_none))))) dss_nil)
    (dss_cons (ds_set (i := 3) sc_f_bent_l.nd rfl (by first | exact Or.inl rfl | exact Or.inr rfl) (de_callX R.f_draw_l C rfl T.m_f_draw_l T.kp_f_draw_l T.b_f_draw_l (da_cons (de_var 0) (da_cons de_int da_nil))))
    (dss_cons (ds_if (dt_bool (dw_and (dt_val (de_isi .tuple rfl T.b_isinstance rfl T.b_tuple rfl (de_var 1))) (dt_and1 (dt_gt  (de_var 3) de_int)))) (dss_one (ds_ret (de_subs C.u1 (de_lst (da_cons (de_listX rfl rfl T.b_list (da_cons (de_var 1) da_nil)) (da_cons (de_slice (de_var 1) do_none (do_some (de_neg de_int))) (da_cons (de_addX (de_var 1) (de_slice (de_var 1) do_none (do_some de_int))) da_nil)))) (de_sub (de_var 3) de_int)))) dss_nil)
    (dss_one (ds_ret (de_callX R.f_pick_l C rfl T.m_f_pick_l T.kp_f_pick_l T.b_f_pick_l (da_cons (de_var 0) (da_cons (de_var 2) da_nil))))))))
set_option maxHeartbeats 4000000 in
theorem ok_f_is_outside_l (T : Tops K mg w ad fd ) (R : Rk P w K mg base ad fd (k + 2) r) : FnX P w K mg base (k + 3) (ad .f_is_outside_l) (fd .f_is_outside_l) ["_law_term_here", "_law_x"] (spX K 2 (runF 3 (b_f_is_outside_l r))) := by
  obtain ⟨C_OutOfTerm, fI_OutOfTerm, fd_OutOfTerm, X_OutOfTerm, kx_OutOfTerm⟩ := T.x_OutOfTerm
  refine fnX_data T.fn_f_is_outside_l sc_f_is_outside_l rfl rfl _ fun cdv A outer s H E C po => ?_
  unfold b_f_is_outside_l f_is_outside_l_1
  exact (dss_cons (ds_try (i := 2) sc_f_is_outside_l.nd rfl rfl ⟨rfl, by decide, Or.inl X_OutOfTerm.m⟩ X_OutOfTerm.hcl X_OutOfTerm.em C.tk (by intro a dd x ρ S; simp only [eA, aCons, aNil, eC, e2, e1, eAnd, eOr, eVar, List.getElem?_set, eXf_par (a := a) (dd := dd), eXi_par (a := a) (dd := dd)] <;> rfl) (fun W_ pn xe tk_ _ => (dss_one (ds_expr (de_callX R.f_part_at (Ctx.tr C tk_) rfl T.m_f_part_at T.kp_f_part_at T.b_f_part_at (da_cons (de_var 0) (da_cons (de_var 1) da_nil)))))) (fun a oe dd pn hz hf => (de_and (de_eqZ (Ctx.su C).u65 (de_repr (Ctx.su C).hgd (Ctx.su C).u64 rfl T.b_repr (da_cons (de_xf (i := 2) X_OutOfTerm.xf X_OutOfTerm.cls.fld hz hf rfl (Or.inl rfl)) da_nil)) (de_repr (Ctx.su C).hgd (Ctx.su C).u64 rfl T.b_repr (da_cons (de_var 1) da_nil))) (de_one (de_xi (i := 2) X_OutOfTerm.ex kx_OutOfTerm hz hf rfl (Or.inl rfl) rfl T.b_isinstance rfl T.b_LookupError PyProof.Rows.Boot.«LookupError»)))))
    (dss_one (ds_ret de_bl)))
set_option maxHeartbeats 4000000 in
theorem ok_f_law (T : Tops K mg w ad fd ) (R : Rk P w K mg base ad fd (k + 2) r) (R2 : Rk P w K mg base ad fd k r2) : FnX P w K mg base (k + 3) (ad .f_law) (fd .f_law) ["_law_script"] (spX K 1 (runF 10 (b_f_law r r2))) := by
  refine fnX_data T.fn_f_law sc_f_law rfl rfl _ fun cdv A outer s H E C po => ?_
  unfold b_f_law f_law_8 f_law_7 f_law_6 f_law_5 f_law_4 f_law_3 f_law_2 f_law_1
  exact (dss_cons (ds_set (i := 1) sc_f_law.nd rfl (by first | exact Or.inl rfl | exact Or.inr rfl) (de_callX R.f_begin_l C rfl T.m_f_begin_l T.kp_f_begin_l T.b_f_begin_l (da_cons (de_var 0) da_nil)))
    (dss_cons (ds_for (vs := [2]) po rfl (di_range rfl T.b_range (da_cons (de_addX de_int (de_min2 rfl rfl T.b_min (da_cons de_int (da_cons (de_len rfl T.b_len (da_cons (de_var 0) da_nil)) da_nil)))) da_nil)) (dg_name (i := 2) sc_f_law.nd rfl (by first | exact Or.inl rfl | exact Or.inr rfl) (by decide)) (dss_cons (ds_set (i := 3) sc_f_law.nd rfl (by first | exact Or.inl rfl | exact Or.inr rfl) (de_callX R.f_words_l C rfl T.m_f_words_l T.kp_f_words_l T.b_f_words_l (da_cons (de_var 1) (da_cons de_int da_nil))))
    (dss_cons (ds_set (i := 4) sc_f_law.nd rfl (by first | exact Or.inl rfl | exact Or.inr rfl) (de_callX R.f_term_l C rfl T.m_f_term_l T.kp_f_term_l T.b_f_term_l (da_cons (de_var 1) (da_cons (de_var 3) (da_cons (de_addX de_int (de_callX R.f_draw_l C rfl T.m_f_draw_l T.kp_f_draw_l T.b_f_draw_l (da_cons (de_var 1) (da_cons de_int da_nil)))) da_nil)))))
    (dss_cons (ds_set (i := 5) sc_f_law.nd rfl (by first | exact Or.inl rfl | exact Or.inr rfl) (de_callX R.f_spots_l C rfl T.m_f_spots_l T.kp_f_spots_l T.b_f_spots_l (da_cons (de_var 4) (da_cons (de_tup da_nil) da_nil))))
    (dss_cons (ds_if (dt_bool (dw_or (dt_notB  (de_callX R.f_is_term C rfl T.m_f_is_term T.kp_f_is_term T.b_f_is_term (da_cons (de_var 4) da_nil)) de_bl) (dt_or1 (dt_neZ C.u65 (de_repr C.hgd C.u64 rfl T.b_repr (da_cons (de_listG R2.f_places C.hr rfl T.b_list rfl T.m_f_places T.kp_f_places T.b_f_places (da_cons (de_var 4) da_nil)) da_nil)) (de_repr C.hgd C.u64 rfl T.b_repr (da_cons (de_lc (own := [("_law_spot", 8), ("_law_part", 9)]) finL_ok rfl sc_f_law.nd (di_seq (de_var 5)) (blkOk_by (by show blkC ["_law_script", "_law_tape", "_law_turn", "_law_names", "_law_term_here", "_law_spots_here", "_law_x", "_law_again", "_law_spot", "_law_part"] (defScope s_f_law) _ _ = true; decide +kernel)) (fun _ _ _ _ _ => (dg_tup rfl (dgs_cons (dg_name (i := 8) sc_f_law.nd rfl (by first | exact Or.inl rfl | exact Or.inr rfl) (by decide)) (dgs_cons (dg_name (i := 9) sc_f_law.nd rfl (by first | exact Or.inl rfl | exact Or.inr rfl) (by decide)) dgs_nil)))) (fun _ _ _ _ _ => dts_nil) (fun _ _ _ _ _ => (de_var 8))) da_nil)))))) (dss_one (ds_ret de_bl)) dss_nil)
    (dss_cons (ds_if (dt_neZ C.u65 (de_repr C.hgd C.u64 rfl T.b_repr (da_cons (de_lc (own := [("_law_spot", 8), ("_law_part", 9)]) finL_ok rfl sc_f_law.nd (di_seq (de_var 5)) (blkOk_by (by show blkC ["_law_script", "_law_tape", "_law_turn", "_law_names", "_law_term_here", "_law_spots_here", "_law_x", "_law_again", "_law_spot", "_law_part"] (defScope s_f_law) _ _ = true; decide +kernel)) (fun _ _ _ _ _ => (dg_tup rfl (dgs_cons (dg_name (i := 8) sc_f_law.nd rfl (by first | exact Or.inl rfl | exact Or.inr rfl) (by decide)) (dgs_cons (dg_name (i := 9) sc_f_law.nd rfl (by first | exact Or.inl rfl | exact Or.inr rfl) (by decide)) dgs_nil)))) (fun _ _ _ _ _ => dts_nil) (fun _ _ _ _ _ => (de_callX R.f_part_at C.blk rfl T.m_f_part_at T.kp_f_part_at T.b_f_part_at (da_cons (de_var 4) (da_cons (de_var 8) da_nil))))) da_nil)) (de_repr C.hgd C.u64 rfl T.b_repr (da_cons (de_lc (own := [("_law_spot", 8), ("_law_part", 9)]) finL_ok rfl sc_f_law.nd (di_seq (de_var 5)) (blkOk_by (by show blkC ["_law_script", "_law_tape", "_law_turn", "_law_names", "_law_term_here", "_law_spots_here", "_law_x", "_law_again", "_law_spot", "_law_part"] (defScope s_f_law) _ _ = true; decide +kernel)) (fun _ _ _ _ _ => (dg_tup rfl (dgs_cons (dg_name (i := 8) sc_f_law.nd rfl (by first | exact Or.inl rfl | exact Or.inr rfl) (by decide)) (dgs_cons (dg_name (i := 9) sc_f_law.nd rfl (by first | exact Or.inl rfl | exact Or.inr rfl) (by decide)) dgs_nil)))) (fun _ _ _ _ _ => dts_nil) (fun _ _ _ _ _ => (de_var 9))) da_nil))) (dss_one (ds_ret de_bl)) dss_nil)
    (dss_cons (ds_if (dt_neZ C.u65 (de_repr C.hgd C.u64 rfl T.b_repr (da_cons (de_callX R.f_free_names C rfl T.m_f_free_names T.kp_f_free_names T.b_f_free_names (da_cons (de_var 4) da_nil)) da_nil)) (de_repr C.hgd C.u64 rfl T.b_repr (da_cons (de_tupleX rfl rfl T.b_tuple (da_cons (de_sortSet rfl rfl T.b_sorted rfl T.b_set (de_callX R.f_free_l C rfl T.m_f_free_l T.kp_f_free_l T.b_f_free_l (da_cons (de_var 4) (da_cons (de_tup da_nil) da_nil)))) da_nil)) da_nil))) (dss_one (ds_ret de_bl)) dss_nil)
    (dss_cons (ds_for (vs := [6]) po rfl (di_seq (de_lst (da_cons (de_callX R.f_odd_l C rfl T.m_f_odd_l T.kp_f_odd_l T.b_f_odd_l (da_cons (de_var 1) da_nil)) (da_cons (de_addX (de_subs C.u1 (de_callX R.f_pick_l C rfl T.m_f_pick_l T.kp_f_pick_l T.b_f_pick_l (da_cons (de_var 1) (da_cons (de_var 5) da_nil))) de_int) (de_tup (da_cons (de_callX R.f_draw_l C rfl T.m_f_draw_l T.kp_f_draw_l T.b_f_draw_l (da_cons (de_var 1) (da_cons de_int da_nil))) da_nil))) (da_cons (de_tup (da_cons de_int (da_cons de_bl da_nil))) (da_cons (de_lst (da_cons de_int da_nil)) (da_cons (de_mulT (de_tup (da_cons de_int da_nil)) de_int) (da_cons (de_tup (da_cons de_str da_nil)) (da_cons (de_tup (da_cons (de_neg de_int) da_nil)) da_nil))))))))) (dg_name (i := 6) sc_f_law.nd rfl (by first | exact Or.inl rfl | exact Or.inr rfl) (by decide)) (dss_one (ds_if (dt_bool (dw_and (dt_notInX C.u65 (de_repr C.hgd C.u64 rfl T.b_repr (da_cons (de_var 6) da_nil)) (de_lc (own := [("_law_spot", 8), ("_law_part", 9)]) finL_ok rfl sc_f_law.nd (di_seq (de_var 5)) (blkOk_by (by show blkC ["_law_script", "_law_tape", "_law_turn", "_law_names", "_law_term_here", "_law_spots_here", "_law_x", "_law_again", "_law_spot", "_law_part"] (defScope s_f_law) _ _ = true; decide +kernel)) (fun _ _ _ _ _ => (dg_tup rfl (dgs_cons (dg_name (i := 8) sc_f_law.nd rfl (by first | exact Or.inl rfl | exact Or.inr rfl) (by decide)) (dgs_cons (dg_name (i := 9) sc_f_law.nd rfl (by first | exact Or.inl rfl | exact Or.inr rfl) (by decide)) dgs_nil)))) (fun _ _ _ _ _ => dts_nil) (fun _ _ _ _ _ => (de_repr C.blk.hgd C.blk.u64 rfl T.b_repr (da_cons (de_var 8) da_nil))))) (dt_and1 (dt_not (dt_val (de_callX R.f_is_outside_l C rfl T.m_f_is_outside_l T.kp_f_is_outside_l T.b_f_is_outside_l (da_cons (de_var 4) (da_cons (de_var 6) da_nil)))))))) (dss_one (ds_ret de_bl)) dss_nil)))
    (dss_one (ds_for (vs := [7]) po rfl (di_range rfl T.b_range (da_cons de_int da_nil)) (dg_name (i := 7) sc_f_law.nd rfl (by first | exact Or.inl rfl | exact Or.inr rfl) (by decide)) (dss_cons (ds_set (i := 6) sc_f_law.nd rfl (by first | exact Or.inl rfl | exact Or.inr rfl) (de_callX R.f_bent_l C rfl T.m_f_bent_l T.kp_f_bent_l T.b_f_bent_l (da_cons (de_var 1) (da_cons (de_var 4) (da_cons (de_lst (da_cons (de_callX R.f_odd_l C rfl T.m_f_odd_l T.kp_f_odd_l T.b_f_odd_l (da_cons (de_var 1) da_nil)) (da_cons (de_callX R.f_odd_l C rfl T.m_f_odd_l T.kp_f_odd_l T.b_f_odd_l (da_cons (de_var 1) da_nil)) (da_cons de_str (da_cons (de_mulX de_str de_int) (da_cons (de_mulX de_str de_int) (da_cons (de_addX (de_pow de_int de_int) de_int) (da_cons de_bl (da_cons (de_subs C.u1 (de_var 3) de_int) (da_cons (de_tup da_nil) da_nil)))))))))) da_nil)))))
    (dss_one (ds_if (dt_neZ C.u65 (de_repr C.hgd C.u64 rfl T.b_repr (da_cons (de_callX R.f_is_term C rfl T.m_f_is_term T.kp_f_is_term T.b_f_is_term (da_cons (de_var 6) da_nil)) da_nil)) (de_repr C.hgd C.u64 rfl T.b_repr (da_cons (de_callX R.f_is_one_l C rfl T.m_f_is_one_l T.kp_f_is_one_l T.b_f_is_one_l (da_cons (de_var 6) da_nil)) da_nil))) (dss_one (ds_ret de_bl)) dss_nil)))))))))))))
    (dss_one (ds_ret de_bl))))
theorem all_ok (T : Tops K mg w ad fd ) : ∀ k, Rk P w K mg base ad fd k (F (fun _ => 0) k)
  | 0 => ⟨fnX_none, fnX_none, fnX_none, fnX_none, fnX_none, fnX_none, fnX_none, fnX_none, fnOk_none, .inr rfl, fnX_none, fnX_none, fnX_none, fnX_none, fnX_none, fnX_none, fnX_none, fnX_none, fnX_none, fnX_none, fnX_none, fnX_none, fnX_none, fnX_none, fnX_none, fnX_none, fnX_none, fnX_none, fnX_none, fnX_none, fnX_none⟩
  | 1 => ⟨fnX_none, fnX_none, fnX_none, fnX_none, fnX_none, fnX_none, fnX_none, fnX_none, fnOk_none, .inr rfl, fnX_none, fnX_none, fnX_none, fnX_none, fnX_none, fnX_none, fnX_none, fnX_none, fnX_none, fnX_none, fnX_none, fnX_none, fnX_none, fnX_none, fnX_none, fnX_none, fnX_none, fnX_none, fnX_none, fnX_none, fnX_none⟩
  | 2 => ⟨fnX_none, fnX_none, fnX_none, fnX_none, fnX_none, fnX_none, fnX_none, fnX_none, fnOk_none, .inr rfl, fnX_none, fnX_none, fnX_none, fnX_none, fnX_none, fnX_none, fnX_none, fnX_none, fnX_none, fnX_none, fnX_none, fnX_none, fnX_none, fnX_none, fnX_none, fnX_none, fnX_none, fnX_none, fnX_none, fnX_none, fnX_none⟩
  | k + 3 => by
    have R := all_ok T  (k + 2)
    have R2 := all_ok T  k
    exact ⟨ok_f_is_word T R, ok_f_is_name T R, ok_f_is_whole T R, ok_f_is_text T R, ok_f_are_names T R, ok_f_are_bindings T R, ok_f_are_arms T R, ok_f_is_term T R, ok_f_parts_of_term T R, ok_f_places T R R2, ok_f_part_at T R, ok_f_bound_for T R, ok_f_used_names T R, ok_f_free_names T R, ok_f_begin_l T R, ok_f_draw_l T R, ok_f_pick_l T R, ok_f_shuffled_l T R, ok_f_odd_l T R, ok_f_words_l T R, ok_f_term_l T R, ok_f_parts_l T R, ok_f_spots_l T R, ok_f_free_l T R, ok_f_is_named_l T R, ok_f_are_named_l T R, ok_f_is_leaf_l T R, ok_f_is_one_l T R, ok_f_bent_l T R, ok_f_is_outside_l T R, ok_f_law T R R2⟩
end
end K02
namespace K02
open PySem L2 DL PySem.Spec PyProof.Rows LamX
set_option maxHeartbeats 0 in
theorem all_mk {l : PySem.W.OpenLaw} {w : World} {k : Nat} {K : PySem.W.Frag} {h : Heap} {mg : Str → Option Value} {fa : Addr} (X : K.In h) (G : h.Ns mainGlobals mg) (hfa : mg "law" = some (.ref fa))
    {f0 : Addr} {od0 an0 : Option Addr} {sl0 : Array (Option Value)} {oc0 kV0 dc0 pm0 cd0 ct0 : Value}
    {f1 : Addr} {od1 an1 : Option Addr} {sl1 : Array (Option Value)} {oc1 kV1 dc1 pm1 cd1 ct1 : Value}
    {f2 : Addr} {od2 an2 : Option Addr} {sl2 : Array (Option Value)} {oc2 kV2 dc2 pm2 cd2 ct2 : Value}
    {f3 : Addr} {od3 an3 : Option Addr} {sl3 : Array (Option Value)} {oc3 kV3 dc3 pm3 cd3 ct3 : Value}
    {f4 : Addr} {od4 an4 : Option Addr} {sl4 : Array (Option Value)} {oc4 kV4 dc4 pm4 cd4 ct4 : Value}
    {f5 : Addr} {od5 an5 : Option Addr} {sl5 : Array (Option Value)} {oc5 kV5 dc5 pm5 cd5 ct5 : Value}
    {f6 : Addr} {od6 an6 : Option Addr} {sl6 : Array (Option Value)} {oc6 kV6 dc6 pm6 cd6 ct6 : Value}
    {f7 : Addr} {od7 an7 : Option Addr} {sl7 : Array (Option Value)} {oc7 kV7 dc7 pm7 cd7 ct7 : Value}
    {f8 : Addr} {od8 an8 : Option Addr} {sl8 : Array (Option Value)} {oc8 kV8 dc8 pm8 cd8 ct8 : Value}
    {f9 : Addr} {od9 an9 : Option Addr} {sl9 : Array (Option Value)} {oc9 kV9 dc9 pm9 cd9 ct9 : Value}
    {f10 : Addr} {od10 an10 : Option Addr} {sl10 : Array (Option Value)} {oc10 kV10 dc10 pm10 cd10 ct10 : Value}
    {f11 : Addr} {od11 an11 : Option Addr} {sl11 : Array (Option Value)} {oc11 kV11 dc11 pm11 cd11 ct11 : Value}
    {f12 : Addr} {od12 an12 : Option Addr} {sl12 : Array (Option Value)} {oc12 kV12 dc12 pm12 cd12 ct12 : Value}
    {f13 : Addr} {od13 an13 : Option Addr} {sl13 : Array (Option Value)} {oc13 kV13 dc13 pm13 cd13 ct13 : Value}
    {f14 : Addr} {od14 an14 : Option Addr} {sl14 : Array (Option Value)} {oc14 kV14 dc14 pm14 cd14 ct14 : Value}
    {f15 : Addr} {od15 an15 : Option Addr} {sl15 : Array (Option Value)} {oc15 kV15 dc15 pm15 cd15 ct15 : Value}
    {f16 : Addr} {od16 an16 : Option Addr} {sl16 : Array (Option Value)} {oc16 kV16 dc16 pm16 cd16 ct16 : Value}
    {f17 : Addr} {od17 an17 : Option Addr} {sl17 : Array (Option Value)} {oc17 kV17 dc17 pm17 cd17 ct17 : Value}
    {f18 : Addr} {od18 an18 : Option Addr} {sl18 : Array (Option Value)} {oc18 kV18 dc18 pm18 cd18 ct18 : Value}
    {f19 : Addr} {od19 an19 : Option Addr} {sl19 : Array (Option Value)} {oc19 kV19 dc19 pm19 cd19 ct19 : Value}
    {f20 : Addr} {od20 an20 : Option Addr} {sl20 : Array (Option Value)} {oc20 kV20 dc20 pm20 cd20 ct20 : Value}
    {f21 : Addr} {od21 an21 : Option Addr} {sl21 : Array (Option Value)} {oc21 kV21 dc21 pm21 cd21 ct21 : Value}
    {f22 : Addr} {od22 an22 : Option Addr} {sl22 : Array (Option Value)} {oc22 kV22 dc22 pm22 cd22 ct22 : Value}
    {f23 : Addr} {od23 an23 : Option Addr} {sl23 : Array (Option Value)} {oc23 kV23 dc23 pm23 cd23 ct23 : Value}
    {f24 : Addr} {od24 an24 : Option Addr} {sl24 : Array (Option Value)} {oc24 kV24 dc24 pm24 cd24 ct24 : Value}
    {f25 : Addr} {od25 an25 : Option Addr} {sl25 : Array (Option Value)} {oc25 kV25 dc25 pm25 cd25 ct25 : Value}
    {f26 : Addr} {od26 an26 : Option Addr} {sl26 : Array (Option Value)} {oc26 kV26 dc26 pm26 cd26 ct26 : Value}
    {f27 : Addr} {od27 an27 : Option Addr} {sl27 : Array (Option Value)} {oc27 kV27 dc27 pm27 cd27 ct27 : Value}
    {f28 : Addr} {od28 an28 : Option Addr} {sl28 : Array (Option Value)} {oc28 kV28 dc28 pm28 cd28 ct28 : Value}
    {f29 : Addr} {od29 an29 : Option Addr} {sl29 : Array (Option Value)} {oc29 kV29 dc29 pm29 cd29 ct29 : Value}
    {f30 : Addr} {od30 an30 : Option Addr} {sl30 : Array (Option Value)} {oc30 kV30 dc30 pm30 cd30 ct30 : Value}
    {C_OutOfTerm fI_OutOfTerm : Addr} {nm_OutOfTerm q_OutOfTerm : Str} {N_OutOfTerm : Addr} {bs_OutOfTerm : List Value} {sn_OutOfTerm : List Str} {su_OutOfTerm : List Value} {ab_OutOfTerm : Bool} {col_OutOfTerm : Option Bool} {dd_OutOfTerm odI_OutOfTerm anI_OutOfTerm : Option Addr} {k0_OutOfTerm k1_OutOfTerm k2_OutOfTerm k3_OutOfTerm k5_OutOfTerm : Option Value} {slI_OutOfTerm : Array (Option Value)} {ocI_OutOfTerm kVI_OutOfTerm dcI_OutOfTerm pmI_OutOfTerm cdI_OutOfTerm ctI_OutOfTerm : Value}
    {t_BOUND : Nat}
    {t_LETTERS : Nat}
    {t_LONGEST : Nat}
    {t_MOST_CHARACTERS : Nat}
    {a_WORDS : Addr} {d_WORDS : Option Addr} {its_WORDS : Array Value} {n_WORDS : Nat} {sl_WORDS : Array (Option Value)} {ps_WORDS : List (PyData × V)}
    (a0 : PySem.W.nsIn K mainGlobals "is_word" = some (some (.ref f0)))
    (l0 : K.lookup f0 = some ⟨oc0, od0, .func (PySem.W.fnOf "is_word" "is_word" (defArgs s_f_is_word) (defBody s_f_is_word) (defScope s_f_is_word) .none kV0 dc0 pm0 an0 cd0 ct0), sl0⟩)
    (c0 : PySem.W.codeIn K cd0 "is_word" = true)
    (k0 : PySem.W.keepIn K (.ref f0) = true)
    (a1 : PySem.W.nsIn K mainGlobals "is_name" = some (some (.ref f1)))
    (l1 : K.lookup f1 = some ⟨oc1, od1, .func (PySem.W.fnOf "is_name" "is_name" (defArgs s_f_is_name) (defBody s_f_is_name) (defScope s_f_is_name) .none kV1 dc1 pm1 an1 cd1 ct1), sl1⟩)
    (c1 : PySem.W.codeIn K cd1 "is_name" = true)
    (k1 : PySem.W.keepIn K (.ref f1) = true)
    (a2 : PySem.W.nsIn K mainGlobals "is_whole" = some (some (.ref f2)))
    (l2 : K.lookup f2 = some ⟨oc2, od2, .func (PySem.W.fnOf "is_whole" "is_whole" (defArgs s_f_is_whole) (defBody s_f_is_whole) (defScope s_f_is_whole) .none kV2 dc2 pm2 an2 cd2 ct2), sl2⟩)
    (c2 : PySem.W.codeIn K cd2 "is_whole" = true)
    (k2 : PySem.W.keepIn K (.ref f2) = true)
    (a3 : PySem.W.nsIn K mainGlobals "is_text" = some (some (.ref f3)))
    (l3 : K.lookup f3 = some ⟨oc3, od3, .func (PySem.W.fnOf "is_text" "is_text" (defArgs s_f_is_text) (defBody s_f_is_text) (defScope s_f_is_text) .none kV3 dc3 pm3 an3 cd3 ct3), sl3⟩)
    (c3 : PySem.W.codeIn K cd3 "is_text" = true)
    (k3 : PySem.W.keepIn K (.ref f3) = true)
    (a4 : PySem.W.nsIn K mainGlobals "are_names" = some (some (.ref f4)))
    (l4 : K.lookup f4 = some ⟨oc4, od4, .func (PySem.W.fnOf "are_names" "are_names" (defArgs s_f_are_names) (defBody s_f_are_names) (defScope s_f_are_names) .none kV4 dc4 pm4 an4 cd4 ct4), sl4⟩)
    (c4 : PySem.W.codeIn K cd4 "are_names" = true)
    (k4 : PySem.W.keepIn K (.ref f4) = true)
    (a5 : PySem.W.nsIn K mainGlobals "are_bindings" = some (some (.ref f5)))
    (l5 : K.lookup f5 = some ⟨oc5, od5, .func (PySem.W.fnOf "are_bindings" "are_bindings" (defArgs s_f_are_bindings) (defBody s_f_are_bindings) (defScope s_f_are_bindings) .none kV5 dc5 pm5 an5 cd5 ct5), sl5⟩)
    (c5 : PySem.W.codeIn K cd5 "are_bindings" = true)
    (k5 : PySem.W.keepIn K (.ref f5) = true)
    (a6 : PySem.W.nsIn K mainGlobals "are_arms" = some (some (.ref f6)))
    (l6 : K.lookup f6 = some ⟨oc6, od6, .func (PySem.W.fnOf "are_arms" "are_arms" (defArgs s_f_are_arms) (defBody s_f_are_arms) (defScope s_f_are_arms) .none kV6 dc6 pm6 an6 cd6 ct6), sl6⟩)
    (c6 : PySem.W.codeIn K cd6 "are_arms" = true)
    (k6 : PySem.W.keepIn K (.ref f6) = true)
    (a7 : PySem.W.nsIn K mainGlobals "is_term" = some (some (.ref f7)))
    (l7 : K.lookup f7 = some ⟨oc7, od7, .func (PySem.W.fnOf "is_term" "is_term" (defArgs s_f_is_term) (defBody s_f_is_term) (defScope s_f_is_term) .none kV7 dc7 pm7 an7 cd7 ct7), sl7⟩)
    (c7 : PySem.W.codeIn K cd7 "is_term" = true)
    (k7 : PySem.W.keepIn K (.ref f7) = true)
    (a8 : PySem.W.nsIn K mainGlobals "parts_of_term" = some (some (.ref f8)))
    (l8 : K.lookup f8 = some ⟨oc8, od8, .func (PySem.W.fnOf "parts_of_term" "parts_of_term" (defArgs s_f_parts_of_term) (defBody s_f_parts_of_term) (defScope s_f_parts_of_term) .none kV8 dc8 pm8 an8 cd8 ct8), sl8⟩)
    (c8 : PySem.W.codeIn K cd8 "parts_of_term" = true)
    (k8 : PySem.W.keepIn K (.ref f8) = true)
    (a9 : PySem.W.nsIn K mainGlobals "places" = some (some (.ref f9)))
    (l9 : K.lookup f9 = some ⟨oc9, od9, .func (PySem.W.fnOf "places" "places" (defArgs s_f_places) (defBody s_f_places) (defScope s_f_places) .none kV9 dc9 pm9 an9 cd9 ct9), sl9⟩)
    (c9 : PySem.W.codeIn K cd9 "places" = true)
    (k9 : PySem.W.keepIn K (.ref f9) = true)
    (a10 : PySem.W.nsIn K mainGlobals "part_at" = some (some (.ref f10)))
    (l10 : K.lookup f10 = some ⟨oc10, od10, .func (PySem.W.fnOf "part_at" "part_at" (defArgs s_f_part_at) (defBody s_f_part_at) (defScope s_f_part_at) .none kV10 dc10 pm10 an10 cd10 ct10), sl10⟩)
    (c10 : PySem.W.codeIn K cd10 "part_at" = true)
    (k10 : PySem.W.keepIn K (.ref f10) = true)
    (a11 : PySem.W.nsIn K mainGlobals "bound_for" = some (some (.ref f11)))
    (l11 : K.lookup f11 = some ⟨oc11, od11, .func (PySem.W.fnOf "bound_for" "bound_for" (defArgs s_f_bound_for) (defBody s_f_bound_for) (defScope s_f_bound_for) .none kV11 dc11 pm11 an11 cd11 ct11), sl11⟩)
    (c11 : PySem.W.codeIn K cd11 "bound_for" = true)
    (k11 : PySem.W.keepIn K (.ref f11) = true)
    (a12 : PySem.W.nsIn K mainGlobals "used_names" = some (some (.ref f12)))
    (l12 : K.lookup f12 = some ⟨oc12, od12, .func (PySem.W.fnOf "used_names" "used_names" (defArgs s_f_used_names) (defBody s_f_used_names) (defScope s_f_used_names) .none kV12 dc12 pm12 an12 cd12 ct12), sl12⟩)
    (c12 : PySem.W.codeIn K cd12 "used_names" = true)
    (k12 : PySem.W.keepIn K (.ref f12) = true)
    (a13 : PySem.W.nsIn K mainGlobals "free_names" = some (some (.ref f13)))
    (l13 : K.lookup f13 = some ⟨oc13, od13, .func (PySem.W.fnOf "free_names" "free_names" (defArgs s_f_free_names) (defBody s_f_free_names) (defScope s_f_free_names) .none kV13 dc13 pm13 an13 cd13 ct13), sl13⟩)
    (c13 : PySem.W.codeIn K cd13 "free_names" = true)
    (k13 : PySem.W.keepIn K (.ref f13) = true)
    (a14 : PySem.W.nsIn K mainGlobals "_law_begin" = some (some (.ref f14)))
    (l14 : K.lookup f14 = some ⟨oc14, od14, .func (PySem.W.fnOf "_law_begin" "_law_begin" (defArgs s_f_begin_l) (defBody s_f_begin_l) (defScope s_f_begin_l) .none kV14 dc14 pm14 an14 cd14 ct14), sl14⟩)
    (c14 : PySem.W.codeIn K cd14 "_law_begin" = true)
    (k14 : PySem.W.keepIn K (.ref f14) = true)
    (a15 : PySem.W.nsIn K mainGlobals "_law_draw" = some (some (.ref f15)))
    (l15 : K.lookup f15 = some ⟨oc15, od15, .func (PySem.W.fnOf "_law_draw" "_law_draw" (defArgs s_f_draw_l) (defBody s_f_draw_l) (defScope s_f_draw_l) .none kV15 dc15 pm15 an15 cd15 ct15), sl15⟩)
    (c15 : PySem.W.codeIn K cd15 "_law_draw" = true)
    (k15 : PySem.W.keepIn K (.ref f15) = true)
    (a16 : PySem.W.nsIn K mainGlobals "_law_pick" = some (some (.ref f16)))
    (l16 : K.lookup f16 = some ⟨oc16, od16, .func (PySem.W.fnOf "_law_pick" "_law_pick" (defArgs s_f_pick_l) (defBody s_f_pick_l) (defScope s_f_pick_l) .none kV16 dc16 pm16 an16 cd16 ct16), sl16⟩)
    (c16 : PySem.W.codeIn K cd16 "_law_pick" = true)
    (k16 : PySem.W.keepIn K (.ref f16) = true)
    (a17 : PySem.W.nsIn K mainGlobals "_law_shuffled" = some (some (.ref f17)))
    (l17 : K.lookup f17 = some ⟨oc17, od17, .func (PySem.W.fnOf "_law_shuffled" "_law_shuffled" (defArgs s_f_shuffled_l) (defBody s_f_shuffled_l) (defScope s_f_shuffled_l) .none kV17 dc17 pm17 an17 cd17 ct17), sl17⟩)
    (c17 : PySem.W.codeIn K cd17 "_law_shuffled" = true)
    (k17 : PySem.W.keepIn K (.ref f17) = true)
    (a18 : PySem.W.nsIn K mainGlobals "_law_odd" = some (some (.ref f18)))
    (l18 : K.lookup f18 = some ⟨oc18, od18, .func (PySem.W.fnOf "_law_odd" "_law_odd" (defArgs s_f_odd_l) (defBody s_f_odd_l) (defScope s_f_odd_l) .none kV18 dc18 pm18 an18 cd18 ct18), sl18⟩)
    (c18 : PySem.W.codeIn K cd18 "_law_odd" = true)
    (k18 : PySem.W.keepIn K (.ref f18) = true)
    (a19 : PySem.W.nsIn K mainGlobals "_law_words" = some (some (.ref f19)))
    (l19 : K.lookup f19 = some ⟨oc19, od19, .func (PySem.W.fnOf "_law_words" "_law_words" (defArgs s_f_words_l) (defBody s_f_words_l) (defScope s_f_words_l) .none kV19 dc19 pm19 an19 cd19 ct19), sl19⟩)
    (c19 : PySem.W.codeIn K cd19 "_law_words" = true)
    (k19 : PySem.W.keepIn K (.ref f19) = true)
    (a20 : PySem.W.nsIn K mainGlobals "_law_term" = some (some (.ref f20)))
    (l20 : K.lookup f20 = some ⟨oc20, od20, .func (PySem.W.fnOf "_law_term" "_law_term" (defArgs s_f_term_l) (defBody s_f_term_l) (defScope s_f_term_l) .none kV20 dc20 pm20 an20 cd20 ct20), sl20⟩)
    (c20 : PySem.W.codeIn K cd20 "_law_term" = true)
    (k20 : PySem.W.keepIn K (.ref f20) = true)
    (a21 : PySem.W.nsIn K mainGlobals "_law_parts" = some (some (.ref f21)))
    (l21 : K.lookup f21 = some ⟨oc21, od21, .func (PySem.W.fnOf "_law_parts" "_law_parts" (defArgs s_f_parts_l) (defBody s_f_parts_l) (defScope s_f_parts_l) .none kV21 dc21 pm21 an21 cd21 ct21), sl21⟩)
    (c21 : PySem.W.codeIn K cd21 "_law_parts" = true)
    (k21 : PySem.W.keepIn K (.ref f21) = true)
    (a22 : PySem.W.nsIn K mainGlobals "_law_spots" = some (some (.ref f22)))
    (l22 : K.lookup f22 = some ⟨oc22, od22, .func (PySem.W.fnOf "_law_spots" "_law_spots" (defArgs s_f_spots_l) (defBody s_f_spots_l) (defScope s_f_spots_l) .none kV22 dc22 pm22 an22 cd22 ct22), sl22⟩)
    (c22 : PySem.W.codeIn K cd22 "_law_spots" = true)
    (k22 : PySem.W.keepIn K (.ref f22) = true)
    (a23 : PySem.W.nsIn K mainGlobals "_law_free" = some (some (.ref f23)))
    (l23 : K.lookup f23 = some ⟨oc23, od23, .func (PySem.W.fnOf "_law_free" "_law_free" (defArgs s_f_free_l) (defBody s_f_free_l) (defScope s_f_free_l) .none kV23 dc23 pm23 an23 cd23 ct23), sl23⟩)
    (c23 : PySem.W.codeIn K cd23 "_law_free" = true)
    (k23 : PySem.W.keepIn K (.ref f23) = true)
    (a24 : PySem.W.nsIn K mainGlobals "_law_is_named" = some (some (.ref f24)))
    (l24 : K.lookup f24 = some ⟨oc24, od24, .func (PySem.W.fnOf "_law_is_named" "_law_is_named" (defArgs s_f_is_named_l) (defBody s_f_is_named_l) (defScope s_f_is_named_l) .none kV24 dc24 pm24 an24 cd24 ct24), sl24⟩)
    (c24 : PySem.W.codeIn K cd24 "_law_is_named" = true)
    (k24 : PySem.W.keepIn K (.ref f24) = true)
    (a25 : PySem.W.nsIn K mainGlobals "_law_are_named" = some (some (.ref f25)))
    (l25 : K.lookup f25 = some ⟨oc25, od25, .func (PySem.W.fnOf "_law_are_named" "_law_are_named" (defArgs s_f_are_named_l) (defBody s_f_are_named_l) (defScope s_f_are_named_l) .none kV25 dc25 pm25 an25 cd25 ct25), sl25⟩)
    (c25 : PySem.W.codeIn K cd25 "_law_are_named" = true)
    (k25 : PySem.W.keepIn K (.ref f25) = true)
    (a26 : PySem.W.nsIn K mainGlobals "_law_is_leaf" = some (some (.ref f26)))
    (l26 : K.lookup f26 = some ⟨oc26, od26, .func (PySem.W.fnOf "_law_is_leaf" "_law_is_leaf" (defArgs s_f_is_leaf_l) (defBody s_f_is_leaf_l) (defScope s_f_is_leaf_l) .none kV26 dc26 pm26 an26 cd26 ct26), sl26⟩)
    (c26 : PySem.W.codeIn K cd26 "_law_is_leaf" = true)
    (k26 : PySem.W.keepIn K (.ref f26) = true)
    (a27 : PySem.W.nsIn K mainGlobals "_law_is_one" = some (some (.ref f27)))
    (l27 : K.lookup f27 = some ⟨oc27, od27, .func (PySem.W.fnOf "_law_is_one" "_law_is_one" (defArgs s_f_is_one_l) (defBody s_f_is_one_l) (defScope s_f_is_one_l) .none kV27 dc27 pm27 an27 cd27 ct27), sl27⟩)
    (c27 : PySem.W.codeIn K cd27 "_law_is_one" = true)
    (k27 : PySem.W.keepIn K (.ref f27) = true)
    (a28 : PySem.W.nsIn K mainGlobals "_law_bent" = some (some (.ref f28)))
    (l28 : K.lookup f28 = some ⟨oc28, od28, .func (PySem.W.fnOf "_law_bent" "_law_bent" (defArgs s_f_bent_l) (defBody s_f_bent_l) (defScope s_f_bent_l) .none kV28 dc28 pm28 an28 cd28 ct28), sl28⟩)
    (c28 : PySem.W.codeIn K cd28 "_law_bent" = true)
    (k28 : PySem.W.keepIn K (.ref f28) = true)
    (a29 : PySem.W.nsIn K mainGlobals "_law_is_outside" = some (some (.ref f29)))
    (l29 : K.lookup f29 = some ⟨oc29, od29, .func (PySem.W.fnOf "_law_is_outside" "_law_is_outside" (defArgs s_f_is_outside_l) (defBody s_f_is_outside_l) (defScope s_f_is_outside_l) .none kV29 dc29 pm29 an29 cd29 ct29), sl29⟩)
    (c29 : PySem.W.codeIn K cd29 "_law_is_outside" = true)
    (k29 : PySem.W.keepIn K (.ref f29) = true)
    (a30 : PySem.W.nsIn K mainGlobals "law" = some (some (.ref f30)))
    (l30 : K.lookup f30 = some ⟨oc30, od30, .func (PySem.W.fnOf "law" "law" (defArgs s_f_law) (defBody s_f_law) (defScope s_f_law) .none kV30 dc30 pm30 an30 cd30 ct30), sl30⟩)
    (c30 : PySem.W.codeIn K cd30 "law" = true)
    (k30 : PySem.W.keepIn K (.ref f30) = true)
    (xa_OutOfTerm : PySem.W.nsIn K mainGlobals "OutOfTerm" = some (some (.ref C_OutOfTerm)))
    (xl_OutOfTerm : K.lookup C_OutOfTerm = some (excClassObj nm_OutOfTerm q_OutOfTerm C_OutOfTerm N_OutOfTerm bs_OutOfTerm (bmOf "LookupError") true sn_OutOfTerm su_OutOfTerm ab_OutOfTerm col_OutOfTerm dd_OutOfTerm k0_OutOfTerm k1_OutOfTerm k2_OutOfTerm k3_OutOfTerm k5_OutOfTerm "LookupError.__new__"))
    (xs_OutOfTerm : PySem.W.findIn K (.ref C_OutOfTerm) "__setattr__" = some (some (.builtin "object.__setattr__")))
    (xe_OutOfTerm : PySem.W.subIn K (.ref C_OutOfTerm) (.type "BaseException") = some true)
    (xt_OutOfTerm : PySem.W.typeIn K (.ref C_OutOfTerm) = some (.type "type"))
    (xk_OutOfTerm : PySem.W.keepIn K (.ref C_OutOfTerm) = true)
    (xf_OutOfTerm : PySem.W.findIn K (.ref C_OutOfTerm) "place" = some none)
    (xi_OutOfTerm : PySem.W.findIn K (.ref C_OutOfTerm) "__init__" = some (some (.ref fI_OutOfTerm)))
    (xj_OutOfTerm : PySem.W.typeIn K (.ref fI_OutOfTerm) = some (.type "function"))
    (xm_OutOfTerm : K.lookup fI_OutOfTerm = some ⟨ocI_OutOfTerm, odI_OutOfTerm, .func (PySem.W.fnOf "__init__" ("OutOfTerm" ++ ".__init__") (defArgs si_OutOfTerm) (defBody si_OutOfTerm) (defScope si_OutOfTerm) .none kVI_OutOfTerm dcI_OutOfTerm pmI_OutOfTerm anI_OutOfTerm cdI_OutOfTerm ctI_OutOfTerm), slI_OutOfTerm⟩)
    (xn_OutOfTerm : PySem.W.codeIn K cdI_OutOfTerm ("OutOfTerm" ++ ".__init__") = true)
    (xo_OutOfTerm : PySem.W.keepIn K (.ref fI_OutOfTerm) = true)
    (xp_OutOfTerm : PySem.W.nsIn K mainGlobals "LookupError" = some none)
    (xq_OutOfTerm : PySem.W.findCls K (.type "LookupError") (.type "type") "__init__" = some (.val (.builtin "LookupError.__init__")))
    (xr1_OutOfTerm : PySem.W.findIn K (.ref C_OutOfTerm) "__getattribute__" = some (some (.builtin "BaseException.__getattribute__")))
    (xr2_OutOfTerm : PySem.W.findIn K (.ref C_OutOfTerm) "__getattr__" = some none)
    (xr3_OutOfTerm : PySem.W.hasDictIn K C_OutOfTerm = true)
    (xu_OutOfTerm : PySem.W.findIn K (.ref C_OutOfTerm) "__class__" = some (some (.builtin "object.__class__")))
    (xv_OutOfTerm : PySem.W.specialIn K (.builtin "object.__class__") "__get__" = some (some (.builtin "getset_descriptor.__get__")))
    (xw_OutOfTerm : PySem.W.takesIn K (.builtin "object.__class__") = some true)
    (xx_OutOfTerm : PySem.W.mroIn K C_OutOfTerm (.type "object") = some true)
    (xy_OutOfTerm : PySem.W.subIn K (.ref C_OutOfTerm) (.ref C_OutOfTerm) = some true)
    (xz_OutOfTerm : PySem.W.subIn K (.ref C_OutOfTerm) (.type "LookupError") = some true)
    (z_LookupError : PySem.W.nsIn K mainGlobals "LookupError" = some none)
    (z_abs : PySem.W.nsIn K mainGlobals "abs" = some none)
    (z_all : PySem.W.nsIn K mainGlobals "all" = some none)
    (z_bool : PySem.W.nsIn K mainGlobals "bool" = some none)
    (z_enumerate : PySem.W.nsIn K mainGlobals "enumerate" = some none)
    (z_int : PySem.W.nsIn K mainGlobals "int" = some none)
    (z_isinstance : PySem.W.nsIn K mainGlobals "isinstance" = some none)
    (z_len : PySem.W.nsIn K mainGlobals "len" = some none)
    (z_list : PySem.W.nsIn K mainGlobals "list" = some none)
    (z_min : PySem.W.nsIn K mainGlobals "min" = some none)
    (z_ord : PySem.W.nsIn K mainGlobals "ord" = some none)
    (z_range : PySem.W.nsIn K mainGlobals "range" = some none)
    (z_repr : PySem.W.nsIn K mainGlobals "repr" = some none)
    (z_set : PySem.W.nsIn K mainGlobals "set" = some none)
    (z_sorted : PySem.W.nsIn K mainGlobals "sorted" = some none)
    (z_str : PySem.W.nsIn K mainGlobals "str" = some none)
    (z_sum : PySem.W.nsIn K mainGlobals "sum" = some none)
    (z_tuple : PySem.W.nsIn K mainGlobals "tuple" = some none)
    (e_BOUND : PySem.W.nsIn K mainGlobals "BOUND" = some (some (.int 1000000000000000000000000000000 t_BOUND)))
    (e_LETTERS : PySem.W.nsIn K mainGlobals "LETTERS" = some (some (.str "abcdefghijklmnopqrstuvwxyz" t_LETTERS)))
    (e_LONGEST : PySem.W.nsIn K mainGlobals "LONGEST" = some (some (.int 8 t_LONGEST)))
    (e_MOST_CHARACTERS : PySem.W.nsIn K mainGlobals "MOST_CHARACTERS" = some (some (.int 200 t_MOST_CHARACTERS)))
    (e_WORDS : PySem.W.nsIn K mainGlobals "WORDS" = some (some (.ref a_WORDS)))
    (l_WORDS : K.lookup a_WORDS = some ⟨.type "tuple", d_WORDS, .seq its_WORDS n_WORDS, sl_WORDS⟩)
    (q_WORDS : flats its_WORDS.toList = some ps_WORDS)
    (h_WORDS : its_WORDS.size ≤ 1000)
    (x_WORDS : PyData.tuple (ps_WORDS.map (·.1)) = g_WORDS) :
    ∃ fd : FuncData, (∀ (s : Shared) (u : Value), BindsTo s fd ⟨[u], []⟩ [("_law_script", u)]) ∧ ∀ base : Heap, K.In base → base.Ns mainGlobals mg → FnX l.prog w K mg base k fa fd ["_law_script"] (spX K 1 (F (fun _ => 0) k .f_law)) := by
  have e := (PySem.W.mg_of X G a30).symm.trans hfa
  obtain rfl : f30 = fa := by injection e with e; injection e
  have FI_OutOfTerm := fun_mk (st := si_OutOfTerm) xm_OutOfTerm xn_OutOfTerm xo_OutOfTerm
  have BI_OutOfTerm := FI_OutOfTerm.binds (ps := ["self", "place"]) fun _ _ _ _ _ _ us hl => match us, hl with | [_, _], _ => rfl
  have xfc_OutOfTerm : XfC K C_OutOfTerm := ⟨xr1_OutOfTerm, xr2_OutOfTerm, xe_OutOfTerm, xr3_OutOfTerm⟩
  have F0 := fun_mk (st := s_f_is_word) l0 c0 k0
  have B0 := F0.binds (ps := ["value"]) fun _ _ _ _ _ _ us hl => match us, hl with | [_], _ => rfl
  have F1 := fun_mk (st := s_f_is_name) l1 c1 k1
  have B1 := F1.binds (ps := ["value"]) fun _ _ _ _ _ _ us hl => match us, hl with | [_], _ => rfl
  have F2 := fun_mk (st := s_f_is_whole) l2 c2 k2
  have B2 := F2.binds (ps := ["value"]) fun _ _ _ _ _ _ us hl => match us, hl with | [_], _ => rfl
  have F3 := fun_mk (st := s_f_is_text) l3 c3 k3
  have B3 := F3.binds (ps := ["value"]) fun _ _ _ _ _ _ us hl => match us, hl with | [_], _ => rfl
  have F4 := fun_mk (st := s_f_are_names) l4 c4 k4
  have B4 := F4.binds (ps := ["value"]) fun _ _ _ _ _ _ us hl => match us, hl with | [_], _ => rfl
  have F5 := fun_mk (st := s_f_are_bindings) l5 c5 k5
  have B5 := F5.binds (ps := ["value"]) fun _ _ _ _ _ _ us hl => match us, hl with | [_], _ => rfl
  have F6 := fun_mk (st := s_f_are_arms) l6 c6 k6
  have B6 := F6.binds (ps := ["value"]) fun _ _ _ _ _ _ us hl => match us, hl with | [_], _ => rfl
  have F7 := fun_mk (st := s_f_is_term) l7 c7 k7
  have B7 := F7.binds (ps := ["value"]) fun _ _ _ _ _ _ us hl => match us, hl with | [_], _ => rfl
  have F8 := fun_mk (st := s_f_parts_of_term) l8 c8 k8
  have B8 := F8.binds (ps := ["term"]) fun _ _ _ _ _ _ us hl => match us, hl with | [_], _ => rfl
  have F9 := fun_mk (st := s_f_places) l9 c9 k9
  have B9 := F9.binds (ps := ["term"]) fun _ _ _ _ _ _ us hl => match us, hl with | [_], _ => rfl
  have F10 := fun_mk (st := s_f_part_at) l10 c10 k10
  have B10 := F10.binds (ps := ["term", "place"]) fun _ _ _ _ _ _ us hl => match us, hl with | [_, _], _ => rfl
  have F11 := fun_mk (st := s_f_bound_for) l11 c11 k11
  have B11 := F11.binds (ps := ["term", "number"]) fun _ _ _ _ _ _ us hl => match us, hl with | [_, _], _ => rfl
  have F12 := fun_mk (st := s_f_used_names) l12 c12 k12
  have B12 := F12.binds (ps := ["term", "hidden"]) fun _ _ _ _ _ _ us hl => match us, hl with | [_, _], _ => rfl
  have F13 := fun_mk (st := s_f_free_names) l13 c13 k13
  have B13 := F13.binds (ps := ["term"]) fun _ _ _ _ _ _ us hl => match us, hl with | [_], _ => rfl
  have F14 := fun_mk (st := s_f_begin_l) l14 c14 k14
  have B14 := F14.binds (ps := ["_law_script"]) fun _ _ _ _ _ _ us hl => match us, hl with | [_], _ => rfl
  have F15 := fun_mk (st := s_f_draw_l) l15 c15 k15
  have B15 := F15.binds (ps := ["_law_tape", "_law_many"]) fun _ _ _ _ _ _ us hl => match us, hl with | [_, _], _ => rfl
  have F16 := fun_mk (st := s_f_pick_l) l16 c16 k16
  have B16 := F16.binds (ps := ["_law_tape", "_law_items"]) fun _ _ _ _ _ _ us hl => match us, hl with | [_, _], _ => rfl
  have F17 := fun_mk (st := s_f_shuffled_l) l17 c17 k17
  have B17 := F17.binds (ps := ["_law_tape", "_law_items"]) fun _ _ _ _ _ _ us hl => match us, hl with | [_, _], _ => rfl
  have F18 := fun_mk (st := s_f_odd_l) l18 c18 k18
  have B18 := F18.binds (ps := ["_law_tape"]) fun _ _ _ _ _ _ us hl => match us, hl with | [_], _ => rfl
  have F19 := fun_mk (st := s_f_words_l) l19 c19 k19
  have B19 := F19.binds (ps := ["_law_tape", "_law_many"]) fun _ _ _ _ _ _ us hl => match us, hl with | [_, _], _ => rfl
  have F20 := fun_mk (st := s_f_term_l) l20 c20 k20
  have B20 := F20.binds (ps := ["_law_tape", "_law_names", "_law_deep"]) fun _ _ _ _ _ _ us hl => match us, hl with | [_, _, _], _ => rfl
  have F21 := fun_mk (st := s_f_parts_l) l21 c21 k21
  have B21 := F21.binds (ps := ["_law_term_here"]) fun _ _ _ _ _ _ us hl => match us, hl with | [_], _ => rfl
  have F22 := fun_mk (st := s_f_spots_l) l22 c22 k22
  have B22 := F22.binds (ps := ["_law_term_here", "_law_spot"]) fun _ _ _ _ _ _ us hl => match us, hl with | [_, _], _ => rfl
  have F23 := fun_mk (st := s_f_free_l) l23 c23 k23
  have B23 := F23.binds (ps := ["_law_term_here", "_law_hidden"]) fun _ _ _ _ _ _ us hl => match us, hl with | [_, _], _ => rfl
  have F24 := fun_mk (st := s_f_is_named_l) l24 c24 k24
  have B24 := F24.binds (ps := ["_law_x"]) fun _ _ _ _ _ _ us hl => match us, hl with | [_], _ => rfl
  have F25 := fun_mk (st := s_f_are_named_l) l25 c25 k25
  have B25 := F25.binds (ps := ["_law_x"]) fun _ _ _ _ _ _ us hl => match us, hl with | [_], _ => rfl
  have F26 := fun_mk (st := s_f_is_leaf_l) l26 c26 k26
  have B26 := F26.binds (ps := ["_law_x"]) fun _ _ _ _ _ _ us hl => match us, hl with | [_], _ => rfl
  have F27 := fun_mk (st := s_f_is_one_l) l27 c27 k27
  have B27 := F27.binds (ps := ["_law_x"]) fun _ _ _ _ _ _ us hl => match us, hl with | [_], _ => rfl
  have F28 := fun_mk (st := s_f_bent_l) l28 c28 k28
  have B28 := F28.binds (ps := ["_law_tape", "_law_x", "_law_some"]) fun _ _ _ _ _ _ us hl => match us, hl with | [_, _, _], _ => rfl
  have F29 := fun_mk (st := s_f_is_outside_l) l29 c29 k29
  have B29 := F29.binds (ps := ["_law_term_here", "_law_x"]) fun _ _ _ _ _ _ us hl => match us, hl with | [_, _], _ => rfl
  have F30 := fun_mk (st := s_f_law) l30 c30 k30
  have B30 := F30.binds (ps := ["_law_script"]) fun _ _ _ _ _ _ us hl => match us, hl with | [_], _ => rfl
  have T : Tops K mg w (fun i => match i with | .f_is_word => f0 | .f_is_name => f1 | .f_is_whole => f2 | .f_is_text => f3 | .f_are_names => f4 | .f_are_bindings => f5 | .f_are_arms => f6 | .f_is_term => f7 | .f_parts_of_term => f8 | .f_places => f9 | .f_part_at => f10 | .f_bound_for => f11 | .f_used_names => f12 | .f_free_names => f13 | .f_begin_l => f14 | .f_draw_l => f15 | .f_pick_l => f16 | .f_shuffled_l => f17 | .f_odd_l => f18 | .f_words_l => f19 | .f_term_l => f20 | .f_parts_l => f21 | .f_spots_l => f22 | .f_free_l => f23 | .f_is_named_l => f24 | .f_are_named_l => f25 | .f_is_leaf_l => f26 | .f_is_one_l => f27 | .f_bent_l => f28 | .f_is_outside_l => f29 | .f_law => f30) (fun i => match i with | .f_is_word => PySem.W.fnOf "is_word" "is_word" (defArgs s_f_is_word) (defBody s_f_is_word) (defScope s_f_is_word) .none kV0 dc0 pm0 an0 cd0 ct0 | .f_is_name => PySem.W.fnOf "is_name" "is_name" (defArgs s_f_is_name) (defBody s_f_is_name) (defScope s_f_is_name) .none kV1 dc1 pm1 an1 cd1 ct1 | .f_is_whole => PySem.W.fnOf "is_whole" "is_whole" (defArgs s_f_is_whole) (defBody s_f_is_whole) (defScope s_f_is_whole) .none kV2 dc2 pm2 an2 cd2 ct2 | .f_is_text => PySem.W.fnOf "is_text" "is_text" (defArgs s_f_is_text) (defBody s_f_is_text) (defScope s_f_is_text) .none kV3 dc3 pm3 an3 cd3 ct3 | .f_are_names => PySem.W.fnOf "are_names" "are_names" (defArgs s_f_are_names) (defBody s_f_are_names) (defScope s_f_are_names) .none kV4 dc4 pm4 an4 cd4 ct4 | .f_are_bindings => PySem.W.fnOf "are_bindings" "are_bindings" (defArgs s_f_are_bindings) (defBody s_f_are_bindings) (defScope s_f_are_bindings) .none kV5 dc5 pm5 an5 cd5 ct5 | .f_are_arms => PySem.W.fnOf "are_arms" "are_arms" (defArgs s_f_are_arms) (defBody s_f_are_arms) (defScope s_f_are_arms) .none kV6 dc6 pm6 an6 cd6 ct6 | .f_is_term => PySem.W.fnOf "is_term" "is_term" (defArgs s_f_is_term) (defBody s_f_is_term) (defScope s_f_is_term) .none kV7 dc7 pm7 an7 cd7 ct7 | .f_parts_of_term => PySem.W.fnOf "parts_of_term" "parts_of_term" (defArgs s_f_parts_of_term) (defBody s_f_parts_of_term) (defScope s_f_parts_of_term) .none kV8 dc8 pm8 an8 cd8 ct8 | .f_places => PySem.W.fnOf "places" "places" (defArgs s_f_places) (defBody s_f_places) (defScope s_f_places) .none kV9 dc9 pm9 an9 cd9 ct9 | .f_part_at => PySem.W.fnOf "part_at" "part_at" (defArgs s_f_part_at) (defBody s_f_part_at) (defScope s_f_part_at) .none kV10 dc10 pm10 an10 cd10 ct10 | .f_bound_for => PySem.W.fnOf "bound_for" "bound_for" (defArgs s_f_bound_for) (defBody s_f_bound_for) (defScope s_f_bound_for) .none kV11 dc11 pm11 an11 cd11 ct11 | .f_used_names => PySem.W.fnOf "used_names" "used_names" (defArgs s_f_used_names) (defBody s_f_used_names) (defScope s_f_used_names) .none kV12 dc12 pm12 an12 cd12 ct12 | .f_free_names => PySem.W.fnOf "free_names" "free_names" (defArgs s_f_free_names) (defBody s_f_free_names) (defScope s_f_free_names) .none kV13 dc13 pm13 an13 cd13 ct13 | .f_begin_l => PySem.W.fnOf "_law_begin" "_law_begin" (defArgs s_f_begin_l) (defBody s_f_begin_l) (defScope s_f_begin_l) .none kV14 dc14 pm14 an14 cd14 ct14 | .f_draw_l => PySem.W.fnOf "_law_draw" "_law_draw" (defArgs s_f_draw_l) (defBody s_f_draw_l) (defScope s_f_draw_l) .none kV15 dc15 pm15 an15 cd15 ct15 | .f_pick_l => PySem.W.fnOf "_law_pick" "_law_pick" (defArgs s_f_pick_l) (defBody s_f_pick_l) (defScope s_f_pick_l) .none kV16 dc16 pm16 an16 cd16 ct16 | .f_shuffled_l => PySem.W.fnOf "_law_shuffled" "_law_shuffled" (defArgs s_f_shuffled_l) (defBody s_f_shuffled_l) (defScope s_f_shuffled_l) .none kV17 dc17 pm17 an17 cd17 ct17 | .f_odd_l => PySem.W.fnOf "_law_odd" "_law_odd" (defArgs s_f_odd_l) (defBody s_f_odd_l) (defScope s_f_odd_l) .none kV18 dc18 pm18 an18 cd18 ct18 | .f_words_l => PySem.W.fnOf "_law_words" "_law_words" (defArgs s_f_words_l) (defBody s_f_words_l) (defScope s_f_words_l) .none kV19 dc19 pm19 an19 cd19 ct19 | .f_term_l => PySem.W.fnOf "_law_term" "_law_term" (defArgs s_f_term_l) (defBody s_f_term_l) (defScope s_f_term_l) .none kV20 dc20 pm20 an20 cd20 ct20 | .f_parts_l => PySem.W.fnOf "_law_parts" "_law_parts" (defArgs s_f_parts_l) (defBody s_f_parts_l) (defScope s_f_parts_l) .none kV21 dc21 pm21 an21 cd21 ct21 | .f_spots_l => PySem.W.fnOf "_law_spots" "_law_spots" (defArgs s_f_spots_l) (defBody s_f_spots_l) (defScope s_f_spots_l) .none kV22 dc22 pm22 an22 cd22 ct22 | .f_free_l => PySem.W.fnOf "_law_free" "_law_free" (defArgs s_f_free_l) (defBody s_f_free_l) (defScope s_f_free_l) .none kV23 dc23 pm23 an23 cd23 ct23 | .f_is_named_l => PySem.W.fnOf "_law_is_named" "_law_is_named" (defArgs s_f_is_named_l) (defBody s_f_is_named_l) (defScope s_f_is_named_l) .none kV24 dc24 pm24 an24 cd24 ct24 | .f_are_named_l => PySem.W.fnOf "_law_are_named" "_law_are_named" (defArgs s_f_are_named_l) (defBody s_f_are_named_l) (defScope s_f_are_named_l) .none kV25 dc25 pm25 an25 cd25 ct25 | .f_is_leaf_l => PySem.W.fnOf "_law_is_leaf" "_law_is_leaf" (defArgs s_f_is_leaf_l) (defBody s_f_is_leaf_l) (defScope s_f_is_leaf_l) .none kV26 dc26 pm26 an26 cd26 ct26 | .f_is_one_l => PySem.W.fnOf "_law_is_one" "_law_is_one" (defArgs s_f_is_one_l) (defBody s_f_is_one_l) (defScope s_f_is_one_l) .none kV27 dc27 pm27 an27 cd27 ct27 | .f_bent_l => PySem.W.fnOf "_law_bent" "_law_bent" (defArgs s_f_bent_l) (defBody s_f_bent_l) (defScope s_f_bent_l) .none kV28 dc28 pm28 an28 cd28 ct28 | .f_is_outside_l => PySem.W.fnOf "_law_is_outside" "_law_is_outside" (defArgs s_f_is_outside_l) (defBody s_f_is_outside_l) (defScope s_f_is_outside_l) .none kV29 dc29 pm29 an29 cd29 ct29 | .f_law => PySem.W.fnOf "law" "law" (defArgs s_f_law) (defBody s_f_law) (defScope s_f_law) .none kV30 dc30 pm30 an30 cd30 ct30)  := ⟨⟨C_OutOfTerm, fI_OutOfTerm, _, ⟨⟨⟨nm_OutOfTerm, q_OutOfTerm, N_OutOfTerm, bs_OutOfTerm, sn_OutOfTerm, su_OutOfTerm, ab_OutOfTerm, col_OutOfTerm, dd_OutOfTerm, k0_OutOfTerm, k1_OutOfTerm, k2_OutOfTerm, k3_OutOfTerm, k5_OutOfTerm, xl_OutOfTerm⟩, xs_OutOfTerm, xe_OutOfTerm, xt_OutOfTerm, xk_OutOfTerm, xf_OutOfTerm⟩, clsOf_of xa_OutOfTerm, PySem.W.mg_of X G xa_OutOfTerm, xi_OutOfTerm, xj_OutOfTerm, FI_OutOfTerm, BI_OutOfTerm, PySem.W.mg_none_of X G xp_OutOfTerm, xq_OutOfTerm, xfc_OutOfTerm, ⟨xfc_OutOfTerm.ga, xfc_OutOfTerm.gg, xe_OutOfTerm, xfc_OutOfTerm.hdC, xu_OutOfTerm, xv_OutOfTerm, xw_OutOfTerm, xx_OutOfTerm⟩, PySem.W.exm_ref xe_OutOfTerm xr3_OutOfTerm xt_OutOfTerm xy_OutOfTerm⟩, kit_of (by decide +kernel) xz_OutOfTerm⟩, k0, F0, PySem.W.mg_of X G a0, B0, k1, F1, PySem.W.mg_of X G a1, B1, k2, F2, PySem.W.mg_of X G a2, B2, k3, F3, PySem.W.mg_of X G a3, B3, k4, F4, PySem.W.mg_of X G a4, B4, k5, F5, PySem.W.mg_of X G a5, B5, k6, F6, PySem.W.mg_of X G a6, B6, k7, F7, PySem.W.mg_of X G a7, B7, k8, F8, PySem.W.mg_of X G a8, B8, k9, F9, PySem.W.mg_of X G a9, B9, k10, F10, PySem.W.mg_of X G a10, B10, k11, F11, PySem.W.mg_of X G a11, B11, k12, F12, PySem.W.mg_of X G a12, B12, k13, F13, PySem.W.mg_of X G a13, B13, k14, F14, PySem.W.mg_of X G a14, B14, k15, F15, PySem.W.mg_of X G a15, B15, k16, F16, PySem.W.mg_of X G a16, B16, k17, F17, PySem.W.mg_of X G a17, B17, k18, F18, PySem.W.mg_of X G a18, B18, k19, F19, PySem.W.mg_of X G a19, B19, k20, F20, PySem.W.mg_of X G a20, B20, k21, F21, PySem.W.mg_of X G a21, B21, k22, F22, PySem.W.mg_of X G a22, B22, k23, F23, PySem.W.mg_of X G a23, B23, k24, F24, PySem.W.mg_of X G a24, B24, k25, F25, PySem.W.mg_of X G a25, B25, k26, F26, PySem.W.mg_of X G a26, B26, k27, F27, PySem.W.mg_of X G a27, B27, k28, F28, PySem.W.mg_of X G a28, B28, k29, F29, PySem.W.mg_of X G a29, B29, k30, F30, PySem.W.mg_of X G a30, B30, PySem.W.mg_none_of X G z_LookupError, PySem.W.mg_none_of X G z_abs, PySem.W.mg_none_of X G z_all, PySem.W.mg_none_of X G z_bool, PySem.W.mg_none_of X G z_enumerate, PySem.W.mg_none_of X G z_int, PySem.W.mg_none_of X G z_isinstance, PySem.W.mg_none_of X G z_len, PySem.W.mg_none_of X G z_list, PySem.W.mg_none_of X G z_min, PySem.W.mg_none_of X G z_ord, PySem.W.mg_none_of X G z_range, PySem.W.mg_none_of X G z_repr, PySem.W.mg_none_of X G z_set, PySem.W.mg_none_of X G z_sorted, PySem.W.mg_none_of X G z_str, PySem.W.mg_none_of X G z_sum, PySem.W.mg_none_of X G z_tuple, (glob_flat X G e_BOUND rfl), (glob_flat X G e_LETTERS rfl), (glob_flat X G e_LONGEST rfl), (glob_flat X G e_MOST_CHARACTERS rfl), (glob_tup X G e_WORDS l_WORDS rfl rfl q_WORDS h_WORDS x_WORDS)⟩
  exact ⟨_, fun s v => .of_eq rfl, fun base _ _ => (all_ok T k).f_law⟩
end K02
open PySem PySem.W PyProof.Rows
set_option maxRecDepth 100000 in
set_option maxHeartbeats 0 in
theorem PySem.Challenge.cw_leastneeds_k02_terms_and_places_holds : PySem.Challenge.rw_leastneeds_k02_terms_and_places.Holds := by
  w_on; o_law; k_headL; (case hw => w_witness2)
  k_fill
  refine DL.walkX_data (k := K02.TOP) (x := "_law_script") (g := K02.F (fun _ => 0) K02.TOP .f_law) (l := PySem.Challenge.rw_leastneeds_k02_terms_and_places) rfl rfl ⟨rfl, by decide, by decide⟩ (fun w h Y => PySem.W.kIn_of Y) ?F K02.holds
  case F =>
    intro w mg fa h KX G hmg
    refine' K02.all_mk KX G hmg ?a0 ?l0 ?c0 ?k0 ?a1 ?l1 ?c1 ?k1 ?a2 ?l2 ?c2 ?k2 ?a3 ?l3 ?c3 ?k3 ?a4 ?l4 ?c4 ?k4 ?a5 ?l5 ?c5 ?k5 ?a6 ?l6 ?c6 ?k6 ?a7 ?l7 ?c7 ?k7 ?a8 ?l8 ?c8 ?k8 ?a9 ?l9 ?c9 ?k9 ?a10 ?l10 ?c10 ?k10 ?a11 ?l11 ?c11 ?k11 ?a12 ?l12 ?c12 ?k12 ?a13 ?l13 ?c13 ?k13 ?a14 ?l14 ?c14 ?k14 ?a15 ?l15 ?c15 ?k15 ?a16 ?l16 ?c16 ?k16 ?a17 ?l17 ?c17 ?k17 ?a18 ?l18 ?c18 ?k18 ?a19 ?l19 ?c19 ?k19 ?a20 ?l20 ?c20 ?k20 ?a21 ?l21 ?c21 ?k21 ?a22 ?l22 ?c22 ?k22 ?a23 ?l23 ?c23 ?k23 ?a24 ?l24 ?c24 ?k24 ?a25 ?l25 ?c25 ?k25 ?a26 ?l26 ?c26 ?k26 ?a27 ?l27 ?c27 ?k27 ?a28 ?l28 ?c28 ?k28 ?a29 ?l29 ?c29 ?k29 ?a30 ?l30 ?c30 ?k30 ?xa_OutOfTerm ?xl_OutOfTerm ?xs_OutOfTerm ?xe_OutOfTerm ?xt_OutOfTerm ?xk_OutOfTerm ?xf_OutOfTerm ?xi_OutOfTerm ?xj_OutOfTerm ?xm_OutOfTerm ?xn_OutOfTerm ?xo_OutOfTerm ?xp_OutOfTerm ?xq_OutOfTerm ?xr1_OutOfTerm ?xr2_OutOfTerm ?xr3_OutOfTerm ?xu_OutOfTerm ?xv_OutOfTerm ?xw_OutOfTerm ?xx_OutOfTerm ?xy_OutOfTerm ?xz_OutOfTerm ?z_LookupError ?z_abs ?z_all ?z_bool ?z_enumerate ?z_int ?z_isinstance ?z_len ?z_list ?z_min ?z_ord ?z_range ?z_repr ?z_set ?z_sorted ?z_str ?z_sum ?z_tuple ?e_BOUND ?e_LETTERS ?e_LONGEST ?e_MOST_CHARACTERS ?e_WORDS ?l_WORDS ?q_WORDS ?h_WORDS ?x_WORDS
    (case a0 => as_aux_lemma => k_is)
    (case l0 => as_aux_lemma => k_is)
    (case c0 => as_aux_lemma => k_is)
    (case k0 => as_aux_lemma => k_is)
    (case a1 => as_aux_lemma => k_is)
    (case l1 => as_aux_lemma => k_is)
    (case c1 => as_aux_lemma => k_is)
    (case k1 => as_aux_lemma => k_is)
    (case a2 => as_aux_lemma => k_is)
    (case l2 => as_aux_lemma => k_is)
    (case c2 => as_aux_lemma => k_is)
    (case k2 => as_aux_lemma => k_is)
    (case a3 => as_aux_lemma => k_is)
    (case l3 => as_aux_lemma => k_is)
    (case c3 => as_aux_lemma => k_is)
    (case k3 => as_aux_lemma => k_is)
    (case a4 => as_aux_lemma => k_is)
    (case l4 => as_aux_lemma => k_is)
    (case c4 => as_aux_lemma => k_is)
    (case k4 => as_aux_lemma => k_is)
    (case a5 => as_aux_lemma => k_is)
    (case l5 => as_aux_lemma => k_is)
    (case c5 => as_aux_lemma => k_is)
    (case k5 => as_aux_lemma => k_is)
    (case a6 => as_aux_lemma => k_is)
    (case l6 => as_aux_lemma => k_is)
    (case c6 => as_aux_lemma => k_is)
    (case k6 => as_aux_lemma => k_is)
    (case a7 => as_aux_lemma => k_is)
    (case l7 => as_aux_lemma => k_is)
    (case c7 => as_aux_lemma => k_is)
    (case k7 => as_aux_lemma => k_is)
    (case a8 => as_aux_lemma => k_is)
    (case l8 => as_aux_lemma => k_is)
    (case c8 => as_aux_lemma => k_is)
    (case k8 => as_aux_lemma => k_is)
    (case a9 => as_aux_lemma => k_is)
    (case l9 => as_aux_lemma => k_is)
    (case c9 => as_aux_lemma => k_is)
    (case k9 => as_aux_lemma => k_is)
    (case a10 => as_aux_lemma => k_is)
    (case l10 => as_aux_lemma => k_is)
    (case c10 => as_aux_lemma => k_is)
    (case k10 => as_aux_lemma => k_is)
    (case a11 => as_aux_lemma => k_is)
    (case l11 => as_aux_lemma => k_is)
    (case c11 => as_aux_lemma => k_is)
    (case k11 => as_aux_lemma => k_is)
    (case a12 => as_aux_lemma => k_is)
    (case l12 => as_aux_lemma => k_is)
    (case c12 => as_aux_lemma => k_is)
    (case k12 => as_aux_lemma => k_is)
    (case a13 => as_aux_lemma => k_is)
    (case l13 => as_aux_lemma => k_is)
    (case c13 => as_aux_lemma => k_is)
    (case k13 => as_aux_lemma => k_is)
    (case a14 => as_aux_lemma => k_is)
    (case l14 => as_aux_lemma => k_is)
    (case c14 => as_aux_lemma => k_is)
    (case k14 => as_aux_lemma => k_is)
    (case a15 => as_aux_lemma => k_is)
    (case l15 => as_aux_lemma => k_is)
    (case c15 => as_aux_lemma => k_is)
    (case k15 => as_aux_lemma => k_is)
    (case a16 => as_aux_lemma => k_is)
    (case l16 => as_aux_lemma => k_is)
    (case c16 => as_aux_lemma => k_is)
    (case k16 => as_aux_lemma => k_is)
    (case a17 => as_aux_lemma => k_is)
    (case l17 => as_aux_lemma => k_is)
    (case c17 => as_aux_lemma => k_is)
    (case k17 => as_aux_lemma => k_is)
    (case a18 => as_aux_lemma => k_is)
    (case l18 => as_aux_lemma => k_is)
    (case c18 => as_aux_lemma => k_is)
    (case k18 => as_aux_lemma => k_is)
    (case a19 => as_aux_lemma => k_is)
    (case l19 => as_aux_lemma => k_is)
    (case c19 => as_aux_lemma => k_is)
    (case k19 => as_aux_lemma => k_is)
    (case a20 => as_aux_lemma => k_is)
    (case l20 => as_aux_lemma => k_is)
    (case c20 => as_aux_lemma => k_is)
    (case k20 => as_aux_lemma => k_is)
    (case a21 => as_aux_lemma => k_is)
    (case l21 => as_aux_lemma => k_is)
    (case c21 => as_aux_lemma => k_is)
    (case k21 => as_aux_lemma => k_is)
    (case a22 => as_aux_lemma => k_is)
    (case l22 => as_aux_lemma => k_is)
    (case c22 => as_aux_lemma => k_is)
    (case k22 => as_aux_lemma => k_is)
    (case a23 => as_aux_lemma => k_is)
    (case l23 => as_aux_lemma => k_is)
    (case c23 => as_aux_lemma => k_is)
    (case k23 => as_aux_lemma => k_is)
    (case a24 => as_aux_lemma => k_is)
    (case l24 => as_aux_lemma => k_is)
    (case c24 => as_aux_lemma => k_is)
    (case k24 => as_aux_lemma => k_is)
    (case a25 => as_aux_lemma => k_is)
    (case l25 => as_aux_lemma => k_is)
    (case c25 => as_aux_lemma => k_is)
    (case k25 => as_aux_lemma => k_is)
    (case a26 => as_aux_lemma => k_is)
    (case l26 => as_aux_lemma => k_is)
    (case c26 => as_aux_lemma => k_is)
    (case k26 => as_aux_lemma => k_is)
    (case a27 => as_aux_lemma => k_is)
    (case l27 => as_aux_lemma => k_is)
    (case c27 => as_aux_lemma => k_is)
    (case k27 => as_aux_lemma => k_is)
    (case a28 => as_aux_lemma => k_is)
    (case l28 => as_aux_lemma => k_is)
    (case c28 => as_aux_lemma => k_is)
    (case k28 => as_aux_lemma => k_is)
    (case a29 => as_aux_lemma => k_is)
    (case l29 => as_aux_lemma => k_is)
    (case c29 => as_aux_lemma => k_is)
    (case k29 => as_aux_lemma => k_is)
    (case a30 => as_aux_lemma => k_is)
    (case l30 => as_aux_lemma => k_is)
    (case c30 => as_aux_lemma => k_is)
    (case k30 => as_aux_lemma => k_is)
    (case xa_OutOfTerm => as_aux_lemma => k_is)
    (case xl_OutOfTerm => as_aux_lemma => k_is)
    (case xs_OutOfTerm => as_aux_lemma => k_is)
    (case xe_OutOfTerm => as_aux_lemma => k_is)
    (case xt_OutOfTerm => as_aux_lemma => k_is)
    (case xk_OutOfTerm => as_aux_lemma => k_is)
    (case xf_OutOfTerm => as_aux_lemma => k_is)
    (case xi_OutOfTerm => as_aux_lemma => k_is)
    (case xj_OutOfTerm => as_aux_lemma => k_is)
    (case xm_OutOfTerm => as_aux_lemma => k_is)
    (case xn_OutOfTerm => as_aux_lemma => k_is)
    (case xo_OutOfTerm => as_aux_lemma => k_is)
    (case xp_OutOfTerm => as_aux_lemma => k_is)
    (case xq_OutOfTerm => as_aux_lemma => k_is)
    (case xr1_OutOfTerm => as_aux_lemma => k_is)
    (case xr2_OutOfTerm => as_aux_lemma => k_is)
    (case xr3_OutOfTerm => as_aux_lemma => k_is)
    (case xu_OutOfTerm => as_aux_lemma => k_is)
    (case xv_OutOfTerm => as_aux_lemma => k_is)
    (case xw_OutOfTerm => as_aux_lemma => k_is)
    (case xx_OutOfTerm => as_aux_lemma => k_is)
    (case xy_OutOfTerm => as_aux_lemma => k_is)
    (case xz_OutOfTerm => as_aux_lemma => k_is)
    (case z_LookupError => as_aux_lemma => k_is)
    (case z_abs => as_aux_lemma => k_is)
    (case z_all => as_aux_lemma => k_is)
    (case z_bool => as_aux_lemma => k_is)
    (case z_enumerate => as_aux_lemma => k_is)
    (case z_int => as_aux_lemma => k_is)
    (case z_isinstance => as_aux_lemma => k_is)
    (case z_len => as_aux_lemma => k_is)
    (case z_list => as_aux_lemma => k_is)
    (case z_min => as_aux_lemma => k_is)
    (case z_ord => as_aux_lemma => k_is)
    (case z_range => as_aux_lemma => k_is)
    (case z_repr => as_aux_lemma => k_is)
    (case z_set => as_aux_lemma => k_is)
    (case z_sorted => as_aux_lemma => k_is)
    (case z_str => as_aux_lemma => k_is)
    (case z_sum => as_aux_lemma => k_is)
    (case z_tuple => as_aux_lemma => k_is)
    (case e_BOUND => as_aux_lemma => k_is)
    (case e_LETTERS => as_aux_lemma => k_is)
    (case e_LONGEST => as_aux_lemma => k_is)
    (case e_MOST_CHARACTERS => as_aux_lemma => k_is)
    (case e_WORDS => as_aux_lemma => k_is)
    (case l_WORDS => as_aux_lemma => k_is)
    (case q_WORDS => rfl)
    (case h_WORDS => decide)
    (case x_WORDS => rfl)
#print axioms PySem.Challenge.cw_leastneeds_k02_terms_and_places_holds
