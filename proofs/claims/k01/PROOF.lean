import PyProof.Rows.All
import Wide.All
import OpenK.AllK
import Wide.FinOn
import KE.HD2
import HandS.ForMost
import HandS.Exc
import HandS.WordsExc
import HandS.Lambda
import HandS.ExcInit
import HandS.ExcIs
import HandS.TupAny
import HandS.Flow
import HandS.Style
import HandS.SetKeys
import HandS.More
import HandS.TryOnly
import HandS.Zip
import HandS.IsInst
import HandS.FStr
import HandS.ExcField
import HandS.Text
import HandS.Deep
import HandS.Wide
import HandS.DictComp
import HandS.Star
import HandS.ClsMeth
import PyProof.RulesMatch
import KE.GoesEnum
import KE.GoesZip
import KE.GoesMore
import KE.KDictZip
import HandS.Conv
import HandS.Rev
import KE.KDictSum
import KE.KDictList
import KE.KExcInit
import HandS.EndOwn
import HandS.Iter
import HandS.Defaults
import KE.OsRunLaw
import PySem.Challenge.RW_leastneeds_k01_errors
set_option Elab.async false
set_option linter.all false
set_option maxRecDepth 100000
namespace DL
open PySem L2
/-- an exception: its class by its name in the module, its fields (where it has an own dict) -/
structure Exn where
  nm : Str
  fs : Option (List (Str × PyData))
/-- any other thing; a caught exception with the place of its dict -/
structure Xv where
  v : V
  o : Option (Addr × Exn)
/-- a value: plain data, a mutable object of the store, a list that is only read (the script), any other thing -/
inductive D where
  | p (x : PyData)
  | ob (i : Nat)
  | ro (xs : List PyData)
  | ext (v : Xv)
/-- a mutable object -/
inductive MO where
  | dead
  | lst (xs : List PyData)
  | dic (kvs : List (Key × PyData))
  | tab (P : Addr) (q : Str)
  | ins (nm : Str) (fs : List (Str × PyData))
abbrev Sto := List MO
/-- the ghost: where the objects of the store stand; what is frozen -/
structure Gh where
  ι : List Addr
  φ : List (Addr × HO)
def Holds (φ : List (Addr × HO)) (H : Hp) : Prop := ∀ p ∈ φ, H p.1 = some p.2
/-- a frozen list, a frozen dict -/
def FL (φ : List (Addr × HO)) (a : Addr) (vs : List V) : Prop := ∀ H : Hp, Holds φ H → H a = some (.lst vs)
def RL (K : PySem.W.Frag) (φ : List (Addr × HO)) (a : Addr) (vs : List V) : Prop := ∀ H : Hp, Holds φ H → SqL K H a vs
def FD (φ : List (Addr × HO)) (a : Addr) (ws : List (Key × V)) : Prop := ∃ o : Obj, ∀ H : Hp, Holds φ H → H a = some (.frz o (.dK ws))
theorem FL.mono {φ φ' : List (Addr × HO)} {a : Addr} {vs : List V} (h : FL φ a vs) (s : ∀ p ∈ φ, p ∈ φ') : FL φ' a vs := fun H q => h H fun p hp => q p (s p hp)
theorem RL.mono {K : PySem.W.Frag} {φ φ' : List (Addr × HO)} {a : Addr} {vs : List V} (h : RL K φ a vs) (s : ∀ p ∈ φ, p ∈ φ') : RL K φ' a vs := fun H q => h H fun p hp => q p (s p hp)
theorem FD.mono {φ φ' : List (Addr × HO)} {a : Addr} {vs : List (Key × V)} (h : FD φ a vs) (s : ∀ p ∈ φ, p ∈ φ') : FD φ' a vs := let ⟨o, h⟩ := h; ⟨o, fun H q => h H fun p hp => q p (s p hp)⟩
def clsOf (K : PySem.W.Frag) (n : Str) : Value := ((PySem.W.nsIn K mainGlobals n).getD none).getD .none
/-- no int of this size is ever shown -/
def hugeI : Int := 10 ^ 4400
def insF (fs : List (Str × PyData)) : List (PyData × PyData) := fs.map fun p => (.str p.1, p.2)
def insD (nm : Str) (fs : List (Str × PyData)) : PyData := .dict ((.tuple [.str nm, .int hugeI], .none) :: insF fs)
/-- no built-in type of data -/
def NotT (K : PySem.W.Frag) (C : Addr) : Prop := ∀ T ∈ ["str", "tuple", "int", "bool", "list", "dict"], PySem.W.kitOne K (.ref C) (.type T) = some false
/-- what is known of a plain class -/
structure PlC (K : PySem.W.Frag) (C : Addr) : Prop where
  cl : Cls K C
  ha : PySem.W.findIn K (.ref C) "__class__" = some (some (.builtin "object.__class__"))
  hn : PySem.W.specialIn K (.builtin "object.__class__") "__get__" = some (some (.builtin "getset_descriptor.__get__"))
  ht : PySem.W.takesIn K (.builtin "object.__class__") = some true
  hm : PySem.W.mroIn K C (.type "object") = some true
  no : NotT K C
/-- what is known of an exception's class -/
structure ExC (K : PySem.W.Frag) (C : Addr) : Prop where
  ex : ExcC K C
  no : NotT K C
/-- a frozen instance at a -/
inductive InsAt (K : PySem.W.Frag) (φ : List (Addr × HO)) (a C : Addr) : List (Str × V) → Prop
  | pl {dx : Addr} {ws : List (Str × V)} : (a, HO.ins C dx ws) ∈ φ → PlC K C → (∀ p ∈ ws, NoAttr K C p.1) → InsAt K φ a C ws
  | ex {dx : Addr} {ws : List (Str × V)} : (a, exo a C (some dx)) ∈ φ → (dx, exd dx ws) ∈ φ → ExC K C → (∀ p ∈ ws, NoAttr K C p.1) → InsAt K φ a C ws
  | ex0 : (a, exo a C none) ∈ φ → ExC K C → InsAt K φ a C []
theorem InsAt.mono {K : PySem.W.Frag} {φ φ' : List (Addr × HO)} {a C : Addr} {ws : List (Str × V)} (h : InsAt K φ a C ws) (s : ∀ p ∈ φ, p ∈ φ') : InsAt K φ' a C ws := by
  cases h with
  | pl h c n => exact .pl (s _ h) c n
  | ex h1 h2 c n => exact .ex (s _ h1) (s _ h2) c n
  | ex0 h c => exact .ex0 (s _ h) c
def keyPy : Key → PyData
  | .inl i => .int i
  | .inr x => .str x
mutual
/-- plain data at a value -/
inductive Dn (K : PySem.W.Frag) (φ : List (Addr × HO)) (H : Hp) : PyData → V → Prop
  | non : Dn K φ H .none .non
  | bl (b : Bool) : Dn K φ H (.bool b) (.bl b)
  | int (i : Int) : Dn K φ H (.int i) (.int i)
  | str (x : Str) : Dn K φ H (.str x) (.str x)
  | lst {a : Addr} {vs : List V} {ds : List PyData} : FL φ a vs → DnAll K φ H ds vs → Dn K φ H (.list ds) (.ref a)
  | tup {a : Addr} {vs : List V} {ds : List PyData} : SqT K H a vs → DnAll K φ H ds vs → Dn K φ H (.tuple ds) (.ref a)
  | dic {a : Addr} {ws : List (Key × V)} {kvs : List (PyData × PyData)} : FD φ a ws → kvs.map (·.1) = ws.map (fun p => keyPy p.1) → DnAll K φ H (kvs.map (·.2)) (ws.map (·.2)) → Dn K φ H (.dict kvs) (.ref a)
  | ins {a C : Addr} {nm : Str} {ws : List (Str × V)} {kvs : List (PyData × PyData)} : InsAt K φ a C ws → clsOf K nm = .ref C → kvs.map (·.1) = ws.map (fun p => PyData.str p.1) → DnAll K φ H (kvs.map (·.2)) (ws.map (·.2)) → Dn K φ H (.dict ((.tuple [.str nm, .int hugeI], .none) :: kvs)) (.ref a)
inductive DnAll (K : PySem.W.Frag) (φ : List (Addr × HO)) (H : Hp) : List PyData → List V → Prop
  | nil : DnAll K φ H [] []
  | cons {d : PyData} {ds : List PyData} {v : V} {vs : List V} : Dn K φ H d v → DnAll K φ H ds vs → DnAll K φ H (d :: ds) (v :: vs)
end
def ExO (K : PySem.W.Frag) (φ : List (Addr × HO)) (H : Hp) (dd : Addr) (x : Exn) : Prop := ∃ fs ws, x.fs = some fs ∧ (dd, HO.xd ws) ∈ φ ∧ fs.map (·.1) = ws.map (·.1) ∧ DnAll K φ H (fs.map (·.2)) (ws.map (·.2))
def Den (K : PySem.W.Frag) (H : Hp) (G : Gh) : D → V → Prop
  | .p x, v => Dn K G.φ H x v
  | .ob i, v => ∃ a, v = .ref a ∧ G.ι[i]? = some a
  | .ro xs, v => ∃ a vs, v = .ref a ∧ RL K G.φ a vs ∧ DnAll K G.φ H xs vs
  | .ext u, v => v = u.v ∧ ∀ p, u.o = some p → ExO K G.φ H p.1 p.2
inductive DenL (K : PySem.W.Frag) (H : Hp) (G : Gh) : List D → List V → Prop
  | nil : DenL K H G [] []
  | cons {d : D} {ds : List D} {v : V} {vs : List V} : Den K H G d v → DenL K H G ds vs → DenL K H G (d :: ds) (v :: vs)
theorem DnAll.length {K : PySem.W.Frag} {φ : List (Addr × HO)} {H : Hp} : ∀ {ds : List PyData} {vs : List V}, DnAll K φ H ds vs → ds.length = vs.length
  | _, _, .nil => rfl
  | _, _, .cons _ t => by rw [List.length_cons, List.length_cons, t.length]
theorem DenL.length {K : PySem.W.Frag} {G : Gh} {H : Hp} : ∀ {ds : List D} {vs : List V}, DenL K H G ds vs → ds.length = vs.length
  | _, _, .nil => rfl
  | _, _, .cons _ t => by rw [List.length_cons, List.length_cons, t.length]
theorem DnAll.get {K : PySem.W.Frag} {φ : List (Addr × HO)} {H : Hp} : ∀ {ds : List PyData} {vs : List V} {i : Nat} {d : PyData}, DnAll K φ H ds vs → ds[i]? = some d → ∃ v, vs[i]? = some v ∧ Dn K φ H d v
  | _, _, _, _, .nil, e => by simp at e
  | _, _, 0, _, .cons r _, e => by simp at e; subst e; exact ⟨_, rfl, r⟩
  | _, _, i + 1, d, .cons _ t, e => by
    obtain ⟨v, h1, h2⟩ := DnAll.get (i := i) (d := d) t (by simpa using e)
    exact ⟨v, by simpa using h1, h2⟩
theorem DnAll.getV {K : PySem.W.Frag} {φ : List (Addr × HO)} {H : Hp} : ∀ {ds : List PyData} {vs : List V} {i : Nat} {v : V}, DnAll K φ H ds vs → vs[i]? = some v → ∃ d, ds[i]? = some d ∧ Dn K φ H d v
  | _, _, _, _, .nil, e => by simp at e
  | _, _, 0, _, .cons r _, e => by simp at e; subst e; exact ⟨_, rfl, r⟩
  | _, _, i + 1, d, .cons _ t, e => by
    obtain ⟨v, h1, h2⟩ := DnAll.getV (i := i) (v := d) t (by simpa using e)
    exact ⟨v, by simpa using h1, h2⟩
theorem DnAll.append {K : PySem.W.Frag} {φ : List (Addr × HO)} {H : Hp} : ∀ {ds es : List PyData} {vs us : List V}, DnAll K φ H ds vs → DnAll K φ H es us → DnAll K φ H (ds ++ es) (vs ++ us)
  | _, _, _, _, .nil, s => s
  | _, _, _, _, .cons r t, s => .cons r (t.append s)
theorem DnAll.set {K : PySem.W.Frag} {φ : List (Addr × HO)} {H : Hp} {d : PyData} {v : V} (h : Dn K φ H d v) : ∀ {ds : List PyData} {vs : List V} (i : Nat), DnAll K φ H ds vs → DnAll K φ H (ds.set i d) (vs.set i v)
  | _, _, _, .nil => .nil
  | _, _, 0, .cons _ t => .cons h t
  | _, _, i + 1, .cons r t => .cons r (DnAll.set h i t)
theorem DnAll.take {K : PySem.W.Frag} {φ : List (Addr × HO)} {H : Hp} : ∀ {ds : List PyData} {vs : List V} (n : Nat), DnAll K φ H ds vs → DnAll K φ H (ds.take n) (vs.take n)
  | _, _, 0, _ => .nil
  | _, _, _ + 1, .nil => .nil
  | _, _, n + 1, .cons r t => .cons r (DnAll.take n t)
theorem DnAll.drop {K : PySem.W.Frag} {φ : List (Addr × HO)} {H : Hp} : ∀ {ds : List PyData} {vs : List V} (n : Nat), DnAll K φ H ds vs → DnAll K φ H (ds.drop n) (vs.drop n)
  | _, _, 0, r => r
  | _, _, _ + 1, .nil => .nil
  | _, _, n + 1, .cons _ t => DnAll.drop n t
theorem DnAll.reverse {K : PySem.W.Frag} {φ : List (Addr × HO)} {H : Hp} : ∀ {ds : List PyData} {vs : List V}, DnAll K φ H ds vs → DnAll K φ H ds.reverse vs.reverse
  | _, _, .nil => .nil
  | _, _, .cons r t => by
    rw [List.reverse_cons, List.reverse_cons]
    exact t.reverse.append (.cons r .nil)
def Live (G : Gh) (S : Sto) (b : Addr) : Prop := ∃ (i : Nat) (o : MO), G.ι[i]? = some b ∧ S[i]? = some o ∧ o ≠ .dead
def OkO (K : PySem.W.Frag) (H : Hp) (φ : List (Addr × HO)) (a : Addr) : MO → Prop
  | .dead => H a ≠ none
  | .lst xs => ∃ vs, H a = some (.lst vs) ∧ DnAll K φ H xs vs
  | .dic kvs => ∃ ws : List (Key × V), H a = some (.dK ws) ∧ kvs.map (·.1) = ws.map (·.1) ∧ DnAll K φ H (kvs.map (·.2)) (ws.map (·.2))
  | .tab P q => a = P ∧ ∃ ps : Array Value, H a = some (.tbl ps) ∧ TriplesOk ps.toList ∧ ∀ (pos : Pos) (cv : Value), codeAmong pos ps.toList = some cv → ∃ c, cv = .ref c ∧ (c, LamX.CodeO c q) ∈ φ
  | .ins nm fs => ∃ C dx ws, clsOf K nm = .ref C ∧ PlC K C ∧ (∀ p ∈ ws, NoAttr K C p.1) ∧ H a = some (.ins C dx ws) ∧ fs.map (·.1) = ws.map (·.1) ∧ DnAll K φ H (fs.map (·.2)) (ws.map (·.2))
structure Rep (K : PySem.W.Frag) (H : Hp) (G : Gh) (S : Sto) : Prop where
  len : G.ι.length = S.length
  nd : G.ι.Nodup
  ok : ∀ (i : Nat) (a : Addr) (o : MO), G.ι[i]? = some a → S[i]? = some o → OkO K H G.φ a o
  phi : Holds G.φ H
  pnl : ∀ p ∈ G.φ, ¬ Live G S p.1
structure Ext (H : Hp) (G : Gh) (S : Sto) (H' : Hp) (G' : Gh) (S' : Sto) : Prop where
  pre : ∀ (i : Nat) (a : Addr), G.ι[i]? = some a → G'.ι[i]? = some a
  phi : ∀ p ∈ G.φ, p ∈ G'.φ
  frame : ∀ b o, H b = some o → ¬ Live G S b → H' b = some o
  fresh : ∀ b, Live G' S' b → Live G S b ∨ H b = none
  iot : ∀ b, b ∈ G'.ι → b ∈ G.ι ∨ H b = none
  phf : ∀ p ∈ G'.φ, p ∈ G.φ ∨ H p.1 = none ∨ Live G S p.1
section
variable {K : PySem.W.Frag} {H H1 H2 : Hp} {G G1 G2 : Gh} {S S1 S2 : Sto}
theorem Ext.refl : Ext H G S H G S := ⟨fun _ _ h => h, fun _ h => h, fun _ _ h _ => h, fun _ h => .inl h, fun _ h => .inl h, fun _ h => .inl h⟩
theorem Ext.back (a : Ext H G S H1 G1 S1) {c : Addr} (q : H1 c = none) : Live G S c ∨ H c = none := by
  by_cases l : Live G S c
  · exact .inl l
  · cases e : H c with
    | none => exact .inr rfl
    | some o => rw [a.frame c o e l] at q; cases q
theorem Live.mem {c : Addr} (l : Live G S c) : c ∈ G.ι := by
  obtain ⟨i, o, h, _⟩ := l
  exact List.mem_of_getElem? h
theorem Ext.trans (a : Ext H G S H1 G1 S1) (b : Ext H1 G1 S1 H2 G2 S2) : Ext H G S H2 G2 S2 := by
  refine ⟨fun i x h => b.pre i x (a.pre i x h), fun p h => b.phi p (a.phi p h), fun c o h n => ?_, fun c h => ?_, fun c h => ?_, fun p h => ?_⟩
  · refine b.frame c o (a.frame c o h n) fun l => ?_
    rcases a.fresh c l with q | q
    · exact n q
    · rw [h] at q; cases q
  · rcases b.fresh c h with q | q
    · exact a.fresh c q
    · exact a.back q
  · rcases b.iot c h with q | q
    · exact a.iot c q
    · rcases a.back q with q | q
      · exact .inl q.mem
      · exact .inr q
  · rcases b.phf p h with q | q | q
    · exact a.phf p q
    · rcases a.back q with q | q
      · exact .inr (.inr q)
      · exact .inr (.inl q)
    · rcases a.fresh _ q with q | q
      · exact .inr (.inr q)
      · exact .inr (.inl q)
/-- what stands at a live place is a list or a dict -/
theorem Rep.live (r : Rep K H G S) {b : Addr} (l : Live G S b) : (∃ vs, H b = some (.lst vs)) ∨ (∃ ws, H b = some (.dK ws)) ∨ (∃ ps, H b = some (.tbl ps)) ∨ ∃ C dx ws, H b = some (.ins C dx ws) := by
  obtain ⟨i, o, h1, h2, h3⟩ := l
  have q := r.ok i b o h1 h2
  cases o with
  | dead => exact absurd rfl h3
  | lst xs => obtain ⟨vs, e, _⟩ := q; exact .inl ⟨vs, e⟩
  | dic kvs => obtain ⟨ws, e, _⟩ := q; exact .inr (.inl ⟨ws, e⟩)
  | tab P t => obtain ⟨_, ps, e, _⟩ := q; exact .inr (.inr (.inl ⟨ps, e⟩))
  | ins nm fs => obtain ⟨C, dx, ws, _, _, _, e, _⟩ := q; exact .inr (.inr (.inr ⟨C, dx, ws, e⟩))
theorem Rep.notLive {b : Addr} {o : HO} (r : Rep K H G S) (e : H b = some o) (h1 : ∀ vs, o ≠ .lst vs) (h2 : ∀ ws, o ≠ .dK ws) (h3 : ∀ ps, o ≠ .tbl ps) (h4 : ∀ C dx ws, o ≠ .ins C dx ws) : ¬ Live G S b := fun l => by
  rcases r.live l with ⟨vs, q⟩ | ⟨ws, q⟩ | ⟨ps, q⟩ | ⟨C, dx, ws, q⟩
  · rw [e] at q; cases q; exact h1 vs rfl
  · rw [e] at q; cases q; exact h2 ws rfl
  · rw [e] at q; cases q; exact h3 ps rfl
  · rw [e] at q; cases q; exact h4 C dx ws rfl
theorem Rep.tr (r : Rep K H G S) {b : Addr} (h : b ∈ G.ι) : H b ≠ none := by
  obtain ⟨i, hi, e⟩ := List.getElem_of_mem h
  have hS : i < S.length := by rw [← r.len]; exact hi
  have q := r.ok i b S[i] (by rw [List.getElem?_eq_getElem hi, e]) (by rw [List.getElem?_eq_getElem hS])
  intro z
  cases o : S[i] with
  | dead => rw [o] at q; exact q z
  | lst xs => rw [o] at q; obtain ⟨vs, e, _⟩ := q; rw [z] at e; cases e
  | dic kvs => rw [o] at q; obtain ⟨ws, e, _⟩ := q; rw [z] at e; cases e
  | tab P t => rw [o] at q; obtain ⟨_, ps, e, _⟩ := q; rw [z] at e; cases e
  | ins nm fs => rw [o] at q; obtain ⟨C, dx, ws, _, _, _, e, _⟩ := q; rw [z] at e; cases e
theorem Ext.tup (r : Rep K H G S) (x : Ext H G S H1 G1 S1) {a : Addr} {vs : List V} (h : SqT K H a vs) : SqT K H1 a vs := by
  rcases h with (h | ⟨o, h⟩) | h
  · exact .inl (.inl (x.frame _ _ h (r.notLive h (fun _ z => nomatch z) (fun _ z => nomatch z) (fun _ z => nomatch z) fun _ _ _ z => nomatch z)))
  · exact .inl (.inr ⟨o, x.frame _ _ h (r.notLive h (fun _ z => nomatch z) (fun _ z => nomatch z) (fun _ z => nomatch z) fun _ _ _ z => nomatch z)⟩)
  · exact .inr h
end
mutual
theorem Dn.mono {K : PySem.W.Frag} {φ φ' : List (Addr × HO)} {H H' : Hp} (hs : ∀ p ∈ φ, p ∈ φ') (ht : ∀ a vs, SqT K H a vs → SqT K H' a vs) : ∀ {d : PyData} {v : V}, Dn K φ H d v → Dn K φ' H' d v
  | _, _, .non => .non
  | _, _, .bl b => .bl b
  | _, _, .int i => .int i
  | _, _, .str x => .str x
  | _, _, .lst h t => .lst (h.mono hs) (DnAll.mono hs ht t)
  | _, _, .tup h t => .tup (ht _ _ h) (DnAll.mono hs ht t)
  | _, _, .dic h e t => .dic (h.mono hs) e (DnAll.mono hs ht t)
  | _, _, .ins h c e t => .ins (h.mono hs) c e (DnAll.mono hs ht t)
theorem DnAll.mono {K : PySem.W.Frag} {φ φ' : List (Addr × HO)} {H H' : Hp} (hs : ∀ p ∈ φ, p ∈ φ') (ht : ∀ a vs, SqT K H a vs → SqT K H' a vs) : ∀ {ds : List PyData} {vs : List V}, DnAll K φ H ds vs → DnAll K φ' H' ds vs
  | _, _, .nil => .nil
  | _, _, .cons h t => .cons (Dn.mono hs ht h) (DnAll.mono hs ht t)
end
section
variable {K : PySem.W.Frag} {H H1 H2 : Hp} {G G1 G2 : Gh} {S S1 S2 : Sto}
theorem Ext.dn (r : Rep K H G S) (x : Ext H G S H1 G1 S1) {d : PyData} {v : V} (h : Dn K G.φ H d v) : Dn K G1.φ H1 d v := h.mono x.phi fun _ _ => x.tup r
theorem Ext.dnAll (r : Rep K H G S) (x : Ext H G S H1 G1 S1) {ds : List PyData} {vs : List V} (h : DnAll K G.φ H ds vs) : DnAll K G1.φ H1 ds vs := h.mono x.phi fun _ _ => x.tup r
theorem Ext.den (r : Rep K H G S) (x : Ext H G S H1 G1 S1) : ∀ {d : D} {v : V}, Den K H G d v → Den K H1 G1 d v
  | .p _, _, h => x.dn r h
  | .ob _, _, ⟨a, e, h⟩ => ⟨a, e, x.pre _ _ h⟩
  | .ro _, _, ⟨a, vs, e, h, t⟩ => ⟨a, vs, e, h.mono x.phi, x.dnAll r t⟩
  | .ext _, _, h => ⟨h.1, fun p hp => let ⟨fs, ws, e1, e2, e3, e4⟩ := h.2 p hp; ⟨fs, ws, e1, x.phi _ e2, e3, x.dnAll r e4⟩⟩
theorem Ext.denL (r : Rep K H G S) (x : Ext H G S H1 G1 S1) : ∀ {ds : List D} {vs : List V}, DenL K H G ds vs → DenL K H1 G1 ds vs
  | _, _, .nil => .nil
  | _, _, .cons h t => .cons (x.den r h) (x.denL r t)
end
abbrev Ev := List (Option D)
def RelO (K : PySem.W.Frag) (H : Hp) (G : Gh) : Option D → Option V → Prop
  | none, _ => True
  | some d, some v => Den K H G d v
  | some _, none => False
inductive RelS (K : PySem.W.Frag) (H : Hp) (G : Gh) : Ev → St → Prop
  | nil : RelS K H G [] []
  | cons {d : Option D} {ds : Ev} {v : Option V} {vs : St} : RelO K H G d v → RelS K H G ds vs → RelS K H G (d :: ds) (v :: vs)
section
variable {K : PySem.W.Frag} {H H1 : Hp} {G G1 : Gh} {S S1 : Sto}
theorem RelS.length : ∀ {ρ : Ev} {σ : St}, RelS K H G ρ σ → ρ.length = σ.length
  | _, _, .nil => rfl
  | _, _, .cons _ t => by rw [List.length_cons, List.length_cons, t.length]
theorem Ext.relS (r : Rep K H G S) (x : Ext H G S H1 G1 S1) : ∀ {ρ : Ev} {σ : St}, RelS K H G ρ σ → RelS K H1 G1 ρ σ
  | _, _, .nil => .nil
  | _, _, .cons (d := d) (v := v) h t => .cons (by
      cases d with
      | none => trivial
      | some d => cases v with
        | none => exact h
        | some v => exact x.den r h) (x.relS r t)
theorem RelS.get : ∀ {ρ : Ev} {σ : St} {i : Nat} {d : D}, RelS K H G ρ σ → ρ[i]? = some (some d) → ∃ v, σ[i]? = some (some v) ∧ Den K H G d v
  | _, _, _, _, .nil, e => by simp at e
  | _, _, 0, d, .cons (v := v) h _, e => by
    simp at e; subst e
    cases v with
    | none => exact False.elim h
    | some v => exact ⟨v, rfl, h⟩
  | _, _, i + 1, d, .cons _ t, e => by
    obtain ⟨v, h1, h2⟩ := RelS.get (i := i) (d := d) t (by simpa using e)
    exact ⟨v, by simpa using h1, h2⟩
theorem RelS.set {d : D} {v : V} (h : Den K H G d v) : ∀ {ρ : Ev} {σ : St} (i : Nat), RelS K H G ρ σ → RelS K H G (ρ.set i (some d)) (σ.set i (some v))
  | _, _, _, .nil => .nil
  | _, _, 0, .cons _ t => .cons h t
  | _, _, i + 1, .cons r t => .cons r (RelS.set h i t)
theorem RelS.setNone {w : Option V} : ∀ {ρ : Ev} {σ : St} (i : Nat), RelS K H G ρ σ → RelS K H G (ρ.set i none) (σ.set i w)
  | _, _, _, .nil => .nil
  | _, _, 0, .cons _ t => .cons trivial t
  | _, _, i + 1, .cons r t => .cons r (RelS.setNone i t)
theorem RelS.ofArgs : ∀ {ds : List D} {vs : List V} (n : Nat), DenL K H G ds vs → RelS K H G (ds.map some ++ List.replicate n none) (vs.map some ++ List.replicate n none)
  | _, _, 0, .nil => .nil
  | _, _, n + 1, .nil => by
    rw [List.replicate_succ, List.replicate_succ]
    exact .cons trivial (RelS.ofArgs (ds := []) (vs := []) n .nil)
  | _, _, n, .cons h t => .cons h (RelS.ofArgs n t)
end
def ExnAt (K : PySem.W.Frag) (H : Hp) (G : Gh) (x : Exn) (d : Option Addr) : Prop :=
  match x.fs with
  | none => d = none
  | some fs => ∃ a ws, d = some a ∧ (a, HO.xd ws) ∈ G.φ ∧ fs.map (·.1) = ws.map (·.1) ∧ DnAll K G.φ H (fs.map (·.2)) (ws.map (·.2))
inductive Out (α : Type) where
  | ok (a : α) (s : Sto)
  | err (x : Exn) (s : Sto)
  | bad
abbrev M (α : Type) := Sto → Out α
def Out.bind {α β : Type} : Out α → (α → M β) → Out β
  | .ok a s, k => k a s
  | .err x s, _ => .err x s
  | .bad, _ => .bad
@[simp] theorem Out.bind_ok {α β : Type} (a : α) (s : Sto) (k : α → M β) : (Out.ok a s).bind k = k a s := rfl
@[simp] theorem Out.bind_err {α β : Type} (x : Exn) (s : Sto) (k : α → M β) : (Out.err x s : Out α).bind k = .err x s := rfl
@[simp] theorem Out.bind_bad {α β : Type} (k : α → M β) : (Out.bad : Out α).bind k = .bad := rfl
abbrev FE := Ev → M D
abbrev FT := Ev → M Bool
abbrev FA := Ev → M (List D)
inductive Fl where
  | next (ρ : Ev)
  | ret (d : D)
  | brk (ρ : Ev)
  | cont (ρ : Ev)
  | exc (x : Exn) (ρ : Ev)
abbrev FS := Ev → Sto → Option (Fl × Sto)
def Aft {α : Type} (K : PySem.W.Frag) (W : WX) (σ : St) (H : Hp) (G : Gh) (S : Sto) (o : Out α) (P : α → Hp → Gh → Sto → Prop) : Prop :=
  match o with
  | .ok a S' => ∀ H' G', Ext H G S H' G' S' → Rep K H' G' S' → P a H' G' S'
  | .err x S' => ∀ H' G' d, Ext H G S H' G' S' → Rep K H' G' S' → ExnAt K H' G' x d → W (clsOf K x.nm) d σ H'
  | .bad => False
theorem Aft.bind {α β : Type} {K : PySem.W.Frag} {W : WX} {σ : St} {H : Hp} {G : Gh} {S : Sto} {o : Out α} {k : α → M β} {P : β → Hp → Gh → Sto → Prop} (h : Aft K W σ H G S (o.bind k) P) :
    Aft K W σ H G S o fun a H1 G1 S1 => Aft K W σ H1 G1 S1 (k a S1) P := by
  cases o with
  | ok a S1 =>
    intro H1 G1 x1 r1
    have h' : Aft K W σ H G S (k a S1) P := h
    show Aft K W σ H1 G1 S1 (k a S1) P
    cases e : k a S1 with
    | ok b S2 =>
      rw [e] at h'
      exact fun H2 G2 x2 r2 => h' H2 G2 (x1.trans x2) r2
    | err x S2 =>
      rw [e] at h'
      exact fun H2 G2 d x2 r2 z => h' H2 G2 d (x1.trans x2) r2 z
    | bad => rw [e] at h'; exact h'
  | err x S1 => exact h
  | bad => exact h
theorem Aft.mono {α : Type} {K : PySem.W.Frag} {W : WX} {σ : St} {H : Hp} {G : Gh} {S : Sto} {o : Out α} {P P' : α → Hp → Gh → Sto → Prop} (h : Aft K W σ H G S o P) (f : ∀ a H' G' S', Ext H G S H' G' S' → Rep K H' G' S' → P a H' G' S' → P' a H' G' S') :
    Aft K W σ H G S o P' := by
  cases o with
  | ok a S1 => exact fun H1 G1 x1 r1 => f a H1 G1 S1 x1 r1 (h H1 G1 x1 r1)
  | err x S1 => exact h
  | bad => exact h
/-- the outcome is known -/
theorem Aft.here {α : Type} {K : PySem.W.Frag} {W : WX} {σ : St} {H : Hp} {G : Gh} {S : Sto} {a : α} {S' : Sto} {P : α → Hp → Gh → Sto → Prop} (h : Aft K W σ H G S (.ok a S') P) {H' : Hp} {G' : Gh} (x : Ext H G S H' G' S') (r : Rep K H' G' S') : P a H' G' S' := h H' G' x r
def AftS (K : PySem.W.Frag) (W : WX) (E : Ends) (H : Hp) (G : Gh) (S : Sto) (o : Option (Fl × Sto)) : Prop :=
  match o with
  | none => False
  | some (.next ρ', S') => ∀ H' G' σ', Ext H G S H' G' S' → Rep K H' G' S' → RelS K H' G' ρ' σ' → E.nx σ' H'
  | some (.ret d, S') => ∀ H' G' v, Ext H G S H' G' S' → Rep K H' G' S' → Den K H' G' d v → E.rt v H'
  | some (.brk ρ', S') => ∀ H' G' σ', Ext H G S H' G' S' → Rep K H' G' S' → RelS K H' G' ρ' σ' → E.bk σ' H'
  | some (.cont ρ', S') => ∀ H' G' σ', Ext H G S H' G' S' → Rep K H' G' S' → RelS K H' G' ρ' σ' → E.ct σ' H'
  | some (.exc x ρ', S') => ∀ H' G' σ' d, Ext H G S H' G' S' → Rep K H' G' S' → RelS K H' G' ρ' σ' → ExnAt K H' G' x d → W (clsOf K x.nm) d σ' H'
theorem AftS.ext {K : PySem.W.Frag} {W : WX} {E : Ends} {H H1 : Hp} {G G1 : Gh} {S S1 : Sto} {o : Option (Fl × Sto)} (h : AftS K W E H G S o) (x : Ext H G S H1 G1 S1) : AftS K W E H1 G1 S1 o := by
  match o with
  | none => exact h
  | some (.next ρ', S') => exact fun H' G' σ' x' => h H' G' σ' (x.trans x')
  | some (.ret d, S') => exact fun H' G' v x' => h H' G' v (x.trans x')
  | some (.brk ρ', S') => exact fun H' G' σ' x' => h H' G' σ' (x.trans x')
  | some (.cont ρ', S') => exact fun H' G' σ' x' => h H' G' σ' (x.trans x')
  | some (.exc y ρ', S') => exact fun H' G' σ' d x' => h H' G' σ' d (x.trans x')
def rd (K : PySem.W.Frag) (W : WX) (f : FE) : TE := fun σ H Q => ∃ G S ρ, RelS K H G ρ σ ∧ Rep K H G S ∧ Aft K W σ H G S (f ρ S) fun d H' G' _ => ∀ v, Den K H' G' d v → Q v H'
def rdT (K : PySem.W.Frag) (W : WX) (f : FT) : TT := fun σ H Q => ∃ G S ρ, RelS K H G ρ σ ∧ Rep K H G S ∧ Aft K W σ H G S (f ρ S) fun b H' _ _ => Q b H'
def rdA (K : PySem.W.Frag) (W : WX) (f : FA) : TA := fun σ H Q => ∃ G S ρ, RelS K H G ρ σ ∧ Rep K H G S ∧ Aft K W σ H G S (f ρ S) fun ds H' G' _ => ∀ vs, DenL K H' G' ds vs → Q vs H'
def rdS (K : PySem.W.Frag) (W : WX) (f : FS) : TS := fun E σ H => ∃ G S ρ, RelS K H G ρ σ ∧ Rep K H G S ∧ AftS K W E H G S (f ρ S)
structure DE (X : Cx) (W : WX) (e : Expr) (f : FE) : Prop where
  run : PE X e (rd X.K W f)
structure DT (X : Cx) (W : WX) (e : Expr) (f : FT) : Prop where
  run : PT X e (rdT X.K W f)
structure DA (X : Cx) (W : WX) (es : List Expr) (f : FA) : Prop where
  run : PA X es (rdA X.K W f)
structure DS (X : Cx) (W : WX) (st : Stmt) (f : FS) : Prop where
  run : PS X st (rdS X.K W f)
structure DSs (X : Cx) (W : WX) (sts : List Stmt) (f : FS) : Prop where
  run : PSs X sts (rdS X.K W f)
section
variable {X : Cx}
theorem PE.imp {e : Expr} {t t' : TE} (h : PE X e t) (i : ∀ σ H Q, t' σ H Q → t σ H Q) : PE X e t' := ⟨fun pins s σ H Q I q => h.run pins s σ H Q I (i σ H Q q)⟩
theorem PT.imp {e : Expr} {t t' : TT} (h : PT X e t) (i : ∀ σ H Q, t' σ H Q → t σ H Q) : PT X e t' := ⟨fun pins s σ H Q I q => h.run pins s σ H Q I (i σ H Q q)⟩
theorem PA.imp {es : List Expr} {t t' : TA} (h : PA X es t) (i : ∀ σ H Q, t' σ H Q → t σ H Q) : PA X es t' := ⟨fun pos pins s σ H Q I q => h.run pos pins s σ H Q I (i σ H Q q)⟩
theorem PS.imp {st : Stmt} {t t' : TS} (h : PS X st t) (i : ∀ D σ H, t' D σ H → t D σ H) : PS X st t' := ⟨fun pins s σ H D I q => h.run pins s σ H D I (i D σ H q)⟩
theorem PSs.imp {sts : List Stmt} {t t' : TS} (h : PSs X sts t) (i : ∀ D σ H, t' D σ H → t D σ H) : PSs X sts t' := ⟨fun pins s σ H D I q => h.run pins s σ H D I (i D σ H q)⟩
end
section
variable {K : PySem.W.Frag} {H : Hp} {G : Gh} {S : Sto}
theorem Rep.notIn (r : Rep K H G S) {p : Addr} (hp : H p = none) : p ∉ G.ι := fun h => r.tr h hp
theorem Rep.notPhi (r : Rep K H G S) {p : Addr} (hp : H p = none) : ∀ q ∈ G.φ, q.1 ≠ p := fun q hq e => by
  have := r.phi q hq
  rw [e, hp] at this; cases this
/-- a new object that is not tracked by the ghost -/
theorem Ext.other (r : Rep K H G S) {p : Addr} {o : HO} (hp : H p = none) : Ext H G S (upd H p o) G S :=
  ⟨fun _ _ h => h, fun _ h => h, fun b u h _ => by rw [upd_ne (ne_of_none h hp)]; exact h, fun b l => .inl l, fun _ h => .inl h, fun _ h => .inl h⟩
theorem OkO.ext {H' : Hp} {φ' : List (Addr × HO)} {a : Addr} {o : MO} (hs : ∀ p ∈ G.φ, p ∈ φ') (ht : ∀ a vs, SqT K H a vs → SqT K H' a vs) (e : ∀ u, H a = some u → H' a = some u) (h : OkO K H G.φ a o) : OkO K H' φ' a o := by
  cases o with
  | dead =>
    intro z
    cases q : H a with
    | none => exact h q
    | some u => rw [e u q] at z; cases z
  | lst xs => obtain ⟨vs, q, t⟩ := h; exact ⟨vs, e _ q, t.mono hs ht⟩
  | dic kvs => obtain ⟨ws, q, k, t⟩ := h; exact ⟨ws, e _ q, k, t.mono hs ht⟩
  | tab P u =>
    obtain ⟨ea, ps, q, k, t⟩ := h
    exact ⟨ea, ps, e _ q, k, fun pos cv hc => let ⟨c, e1, e2⟩ := t pos cv hc; ⟨c, e1, hs _ e2⟩⟩
  | ins nm fs => obtain ⟨C, dx, ws, c, pc, na, q, k, t⟩ := h; exact ⟨C, dx, ws, c, pc, na, e _ q, k, t.mono hs ht⟩
theorem Rep.other (r : Rep K H G S) {p : Addr} {o : HO} (hp : H p = none) : Rep K (upd H p o) G S := by
  have x := Ext.other (o := o) r hp
  have nn : ∀ {b : Addr} {u : HO}, H b = some u → upd H p o b = some u := fun h => by rw [upd_ne (ne_of_none h hp)]; exact h
  exact ⟨r.len, r.nd, fun i a m h1 h2 => OkO.ext (fun _ h => h) (fun _ _ => x.tup r) (fun u => nn) (r.ok i a m h1 h2), fun q hq => nn (r.phi q hq), r.pnl⟩
/-- a new frozen object -/
theorem Ext.froz (r : Rep K H G S) {p : Addr} {o : HO} (hp : H p = none) : Ext H G S (upd H p o) ⟨G.ι, (p, o) :: G.φ⟩ S :=
  ⟨fun _ _ h => h, fun _ h => List.mem_cons_of_mem _ h, fun b u h _ => by rw [upd_ne (ne_of_none h hp)]; exact h, fun b l => .inl l, fun _ h => .inl h, fun q h => by
    rcases List.mem_cons.mp h with e | h
    · rw [e]; exact .inr (.inl hp)
    · exact .inl h⟩
theorem Rep.froz (r : Rep K H G S) {p : Addr} {o : HO} (hp : H p = none) : Rep K (upd H p o) ⟨G.ι, (p, o) :: G.φ⟩ S := by
  have x := Ext.froz (o := o) r hp
  have nn : ∀ {b : Addr} {u : HO}, H b = some u → upd H p o b = some u := fun h => by rw [upd_ne (ne_of_none h hp)]; exact h
  refine ⟨r.len, r.nd, fun i a m h1 h2 => OkO.ext (G := G) (fun _ h => List.mem_cons_of_mem _ h) (fun _ _ => x.tup r) (fun u => nn) (r.ok i a m h1 h2), fun q hq => ?_, fun q hq => ?_⟩
  · rcases List.mem_cons.mp hq with e | hq
    · subst e; exact upd_same
    · exact nn (r.phi q hq)
  · rcases List.mem_cons.mp hq with e | hq
    · subst e
      rintro ⟨i, m, h1, _, _⟩
      exact r.notIn hp (List.mem_of_getElem? h1)
    · exact r.pnl q hq
/-- a new mutable object -/
def Gh.add (G : Gh) (p : Addr) : Gh := ⟨G.ι ++ [p], G.φ⟩
theorem Gh.add_last (r : Rep K H G S) (p : Addr) : (G.add p).ι[S.length]? = some p := by
  show (G.ι ++ [p])[S.length]? = _
  rw [← r.len]; simp
theorem Live.add {p b : Addr} {m : MO} (r : Rep K H G S) (l : Live (G.add p) (S ++ [m]) b) : Live G S b ∨ b = p := by
  obtain ⟨i, o, h1, h2, h3⟩ := l
  have h1 : (G.ι ++ [p])[i]? = some b := h1
  by_cases hi : i < S.length
  · rw [List.getElem?_append_left (by rw [r.len]; exact hi)] at h1
    rw [List.getElem?_append_left hi] at h2
    exact .inl ⟨i, o, h1, h2, h3⟩
  · rw [List.getElem?_append_right (by rw [r.len]; omega)] at h1
    have : b ∈ [p] := List.mem_of_getElem? h1
    exact .inr (by simpa using this)
theorem Ext.new (r : Rep K H G S) {p : Addr} {o : HO} (m : MO) (hp : H p = none) : Ext H G S (upd H p o) (G.add p) (S ++ [m]) := by
  refine ⟨fun i a h => ?_, fun _ h => h, fun b u h _ => by rw [upd_ne (ne_of_none h hp)]; exact h, fun b l => ?_, fun b h => ?_, fun _ h => .inl h⟩
  · show (G.ι ++ [p])[i]? = some a
    rw [List.getElem?_append_left (List.getElem?_eq_some_iff.mp h).1]; exact h
  · rcases Live.add r l with q | q
    · exact .inl q
    · rw [q]; exact .inr hp
  · rcases List.mem_append.mp (show b ∈ G.ι ++ [p] from h) with q | q
    · exact .inl q
    · have e : b = p := by simpa using q
      rw [e]; exact .inr hp
theorem Rep.new (r : Rep K H G S) {p : Addr} {o : HO} {m : MO} (hp : H p = none) (h : OkO K (upd H p o) G.φ p m) : Rep K (upd H p o) (G.add p) (S ++ [m]) := by
  have x := Ext.new (o := o) r m hp
  have nn : ∀ {b : Addr} {u : HO}, H b = some u → upd H p o b = some u := fun h => by rw [upd_ne (ne_of_none h hp)]; exact h
  refine ⟨?_, ?_, fun i a mo h1 h2 => ?_, fun q hq => nn (r.phi q hq), fun q hq l => ?_⟩
  · show (G.ι ++ [p]).length = (S ++ [m]).length
    rw [List.length_append, List.length_append, r.len]; rfl
  · show (G.ι ++ [p]).Nodup
    rw [List.nodup_append]
    refine ⟨r.nd, by simp, fun a ha b hb => ?_⟩
    have e : b = p := by simpa using hb
    subst e
    intro z; subst z; exact r.notIn hp ha
  · have h1 : (G.ι ++ [p])[i]? = some a := h1
    by_cases hi : i < S.length
    · rw [List.getElem?_append_left (by rw [r.len]; exact hi)] at h1
      rw [List.getElem?_append_left hi] at h2
      exact OkO.ext (G := G) (fun _ h => h) (fun _ _ => x.tup r) (fun u => nn) (r.ok i a mo h1 h2)
    · have hl : i < (S ++ [m]).length := (List.getElem?_eq_some_iff.mp h2).1
      rw [List.length_append] at hl
      have e : i = S.length := by have : i < S.length + 1 := hl; omega
      subst e
      rw [← r.len] at h1
      simp at h1 h2
      subst h1 h2
      exact h
  · rcases Live.add r l with z | z
    · exact r.pnl q hq z
    · exact r.notPhi hp q hq z
/-- a mutable object is changed -/
theorem Live.set {i : Nat} {m m' : MO} {b : Addr} (hm : S[i]? = some m) (hl : m ≠ .dead) (l : Live G (S.set i m') b) : Live G S b := by
  obtain ⟨j, o, h1, h2, h3⟩ := l
  by_cases e : i = j
  · subst e
    exact ⟨i, m, h1, hm, hl⟩
  · rw [List.getElem?_set_ne e] at h2
    exact ⟨j, o, h1, h2, h3⟩
theorem Ext.chg (r : Rep K H G S) {i : Nat} {a : Addr} {m m' : MO} {o : HO} (ha : G.ι[i]? = some a) (hm : S[i]? = some m) (hl : m ≠ .dead) : Ext H G S (upd H a o) G (S.set i m') := by
  refine ⟨fun _ _ h => h, fun _ h => h, fun b u h n => ?_, fun b l => .inl (Live.set hm hl l), fun _ h => .inl h, fun _ h => .inl h⟩
  rw [upd_ne (fun z => n ⟨i, m, by rw [z]; exact ha, hm, hl⟩)]; exact h
theorem Rep.chg (r : Rep K H G S) {i : Nat} {a : Addr} {m m' : MO} {o : HO} (ha : G.ι[i]? = some a) (hm : S[i]? = some m) (hl : m ≠ .dead) (h : OkO K (upd H a o) G.φ a m') : Rep K (upd H a o) G (S.set i m') := by
  have x := Ext.chg (o := o) (m' := m') r ha hm hl
  refine ⟨by rw [List.length_set]; exact r.len, r.nd, fun j b mo h1 h2 => ?_, fun q hq => x.frame _ _ (r.phi q hq) (r.pnl q hq), fun q hq l => r.pnl q hq (Live.set hm hl l)⟩
  by_cases e : i = j
  · subst e
    rw [ha] at h1; cases h1
    have hlt : i < S.length := (List.getElem?_eq_some_iff.mp hm).1
    rw [List.getElem?_set_self hlt] at h2
    cases h2
    exact h
  · rw [List.getElem?_set_ne e] at h2
    have hne : b ≠ a := fun z => e (nodup_ix' r.nd ha (by rw [← z]; exact h1))
    exact OkO.ext (G := G) (fun _ h => h) (fun _ _ => x.tup r) (fun u hu => by rw [upd_ne hne]; exact hu) (r.ok j b mo h1 h2)
  where
  nodup_ix' {l : List Addr} (hN : l.Nodup) {i j : Nat} {x : Addr} (a : l[i]? = some x) (b : l[j]? = some x) : i = j := by
    obtain ⟨h1, e1⟩ := List.getElem?_eq_some_iff.mp a
    obtain ⟨h2, e2⟩ := List.getElem?_eq_some_iff.mp b
    exact (List.getElem_inj hN).mp (e1.trans e2.symm)
/-- a mutable object is frozen -/
theorem Ext.ice {i : Nat} {a : Addr} {m : MO} {o : HO} (ha : G.ι[i]? = some a) (hm : S[i]? = some m) (hl : m ≠ .dead) : Ext H G S H ⟨G.ι, (a, o) :: G.φ⟩ (S.set i .dead) :=
  ⟨fun _ _ h => h, fun _ h => List.mem_cons_of_mem _ h, fun b u h _ => h, fun b l => .inl (by
    obtain ⟨j, u, h1, h2, h3⟩ := l
    exact Live.set hm hl ⟨j, u, h1, h2, h3⟩), fun _ h => .inl h, fun q h => by
      rcases List.mem_cons.mp h with e | h
      · rw [e]; exact .inr (.inr ⟨i, m, ha, hm, hl⟩)
      · exact .inl h⟩
theorem Rep.ice (r : Rep K H G S) {i : Nat} {a : Addr} {m : MO} {o : HO} (ha : G.ι[i]? = some a) (hm : S[i]? = some m) (hl : m ≠ .dead) (ho : H a = some o) : Rep K H ⟨G.ι, (a, o) :: G.φ⟩ (S.set i .dead) := by
  have hlt : i < S.length := (List.getElem?_eq_some_iff.mp hm).1
  refine ⟨by rw [List.length_set]; exact r.len, r.nd, fun j b mo h1 h2 => ?_, fun q hq => ?_, fun q hq l => ?_⟩
  · by_cases e : i = j
    · subst e
      rw [List.getElem?_set_self hlt] at h2
      cases h2
      have h1 : G.ι[i]? = some b := h1
      rw [ha] at h1; cases h1
      show H a ≠ none
      rw [ho]; exact fun z => nomatch z
    · rw [List.getElem?_set_ne e] at h2
      exact OkO.ext (G := G) (fun _ h => List.mem_cons_of_mem _ h) (fun _ _ h => h) (fun _ h => h) (r.ok j b mo h1 h2)
  · rcases List.mem_cons.mp hq with e | hq
    · subst e; exact ho
    · exact r.phi q hq
  · rcases List.mem_cons.mp hq with e | hq
    · subst e
      obtain ⟨j, u, h1, h2, h3⟩ := l
      have h1 : G.ι[j]? = some a := h1
      by_cases e : i = j
      · subst e
        rw [List.getElem?_set_self hlt] at h2
        cases h2
        exact h3 rfl
      · exact e (Rep.chg.nodup_ix' r.nd ha h1)
    · obtain ⟨j, u, h1, h2, h3⟩ := l
      exact r.pnl q hq (Live.set hm hl ⟨j, u, h1, h2, h3⟩)
/-- the later objects of the store are forgotten -/
theorem Live.cut {n : Nat} {b : Addr} (l : Live ⟨G.ι.take n, G.φ⟩ (S.take n) b) : Live G S b := by
  obtain ⟨i, o, h1, h2, h3⟩ := l
  have h1 : (G.ι.take n)[i]? = some b := h1
  rw [List.getElem?_take] at h1 h2
  by_cases hi : i < n
  · rw [if_pos hi] at h1 h2
    exact ⟨i, o, h1, h2, h3⟩
  · rw [if_neg hi] at h1; cases h1
theorem Rep.cut (r : Rep K H G S) (n : Nat) : Rep K H ⟨G.ι.take n, G.φ⟩ (S.take n) := by
  refine ⟨by rw [List.length_take, List.length_take, r.len], r.nd.sublist (List.take_sublist _ _), fun i a o h1 h2 => ?_, r.phi, fun q hq l => r.pnl q hq l.cut⟩
  have h1 : (G.ι.take n)[i]? = some a := h1
  rw [List.getElem?_take] at h1 h2
  by_cases hi : i < n
  · rw [if_pos hi] at h1 h2
    exact r.ok i a o h1 h2
  · rw [if_neg hi] at h1; cases h1
theorem Ext.cut {H1 : Hp} {G1 : Gh} {S1 : Sto} (r : Rep K H G S) (x : Ext H G S H1 G1 S1) : Ext H G S H1 ⟨G1.ι.take S.length, G1.φ⟩ (S1.take S.length) := by
  refine ⟨fun i a h => ?_, x.phi, x.frame, fun b l => x.fresh b l.cut, fun b h => x.iot b (List.mem_of_mem_take h), x.phf⟩
  have hi : i < S.length := by rw [← r.len]; exact (List.getElem?_eq_some_iff.mp h).1
  show (G1.ι.take S.length)[i]? = some a
  rw [List.getElem?_take, if_pos hi]
  exact x.pre i a h
end
end DL
namespace DL
open PySem L2
def LIM : Nat := 1000000
theorem LIM_le : LIM ≤ sizeLine := by unfold LIM; rw [sizeLine_eq]; decide
theorem LIM_lt : LIM < sizeLine := by unfold LIM; rw [sizeLine_eq]; decide
def pys : List D → Option (List PyData)
  | [] => some []
  | .p x :: r => match pys r with
    | some xs => some (x :: xs)
    | none => none
  | _ :: _ => none
section
variable {K : PySem.W.Frag} {H : Hp} {G : Gh} {S : Sto}
theorem pys_den : ∀ {ds : List D} {xs : List PyData} {vs : List V}, pys ds = some xs → DenL K H G ds vs → DnAll K G.φ H xs vs
  | [], xs, _, e, .nil => by cases e; exact .nil
  | .p x :: r, xs, _, e, .cons h t => by
    simp only [pys] at e
    cases q : pys r with
    | none => rw [q] at e; cases e
    | some ys =>
      rw [q] at e; cases e
      exact .cons h (pys_den q t)
  | .ob _ :: _, _, _, e, _ => by cases e
  | .ro _ :: _, _, _, e, _ => by cases e
  | .ext _ :: _, _, _, e, _ => by cases e
end
abbrev QD (K : PySem.W.Frag) (Q : VK) : D → Hp → Gh → Sto → Prop := fun d H' G' _ => ∀ v, Den K H' G' d v → Q v H'
section
variable {K : PySem.W.Frag} {W : WX} {σ : St} {H : Hp} {G : Gh} {S : Sto} {Q : VK} {p : Addr}
theorem Aft.ret {d : D} {v : V} (h : Aft K W σ H G S (.ok d S) (QD K Q)) (r : Rep K H G S) (dv : Den K H G d v) : Q v H := h H G Ext.refl r v dv
theorem Aft.newTup {xs : List PyData} {vs : List V} (h : Aft K W σ H G S (.ok (.p (.tuple xs)) S) (QD K Q)) (r : Rep K H G S) (t : DnAll K G.φ H xs vs) (hp : H p = none) : Q (.ref p) (upd H p (.tup vs)) :=
  h _ G (Ext.other r hp) (Rep.other r hp) _ (Dn.tup (SqT.of upd_same) ((Ext.other r hp).dnAll r t))
theorem Aft.newLst {xs : List PyData} {vs : List V} (h : Aft K W σ H G S (.ok (.p (.list xs)) S) (QD K Q)) (r : Rep K H G S) (t : DnAll K G.φ H xs vs) (hp : H p = none) : Q (.ref p) (upd H p (.lst vs)) :=
  h _ _ (Ext.froz r hp) (Rep.froz r hp) _ (Dn.lst (fun _ q => q _ List.mem_cons_self) ((Ext.froz r hp).dnAll r t))
theorem Aft.newLstM {xs : List PyData} {vs : List V} (h : Aft K W σ H G S (.ok (.ob S.length) (S ++ [.lst xs])) (QD K Q)) (r : Rep K H G S) (t : DnAll K G.φ H xs vs) (hp : H p = none) : Q (.ref p) (upd H p (.lst vs)) :=
  h _ _ (Ext.new r _ hp) (Rep.new r hp ⟨vs, upd_same, (Ext.new r (.lst xs) hp).dnAll r t⟩) _ ⟨p, rfl, Gh.add_last r p⟩
def pyKv (kvs : List (Key × PyData)) : List (PyData × PyData) := kvs.map fun p => (keyPy p.1, p.2)
theorem pyKv_keys (kvs : List (Key × PyData)) : (pyKv kvs).map (·.1) = kvs.map (fun p => keyPy p.1) := by simp [pyKv]
theorem pyKv_vals (kvs : List (Key × PyData)) : (pyKv kvs).map (·.2) = kvs.map (·.2) := by simp [pyKv]
theorem Dn.dicOf {φ : List (Addr × HO)} {a : Addr} {kvs : List (Key × PyData)} {ws : List (Key × V)} (f : FD φ a ws) (e : kvs.map (·.1) = ws.map (·.1)) (t : DnAll K φ H (kvs.map (·.2)) (ws.map (·.2))) : Dn K φ H (.dict (pyKv kvs)) (.ref a) := by
  refine .dic f ?_ (by rw [pyKv_vals]; exact t)
  rw [pyKv_keys]
  have := congrArg (List.map keyPy) e
  simpa [List.map_map, Function.comp_def] using this
theorem Aft.newDic {kvs : List (Key × PyData)} {ws : List (Key × V)} (h : Aft K W σ H G S (.ok (.p (.dict (pyKv kvs))) S) (QD K Q)) (r : Rep K H G S) (e : kvs.map (·.1) = ws.map (·.1)) (t : DnAll K G.φ H (kvs.map (·.2)) (ws.map (·.2))) (hp : H p = none) (od : Obj) : Q (.ref p) (upd H p (.frz od (.dK ws))) :=
  h _ _ (Ext.froz r hp) (Rep.froz r hp) _ (Dn.dicOf ⟨od, fun _ q => q _ List.mem_cons_self⟩ e ((Ext.froz r hp).dnAll r t))
theorem upd_twice {H : Hp} {p : Addr} {a b : HO} : upd (upd H p a) p b = upd H p b := by
  funext c
  by_cases h : c = p
  · rw [h, upd_same, upd_same]
  · rw [upd_ne h, upd_ne h, upd_ne h]
/-- what is told behind a step in which a thing may be locked -/
def Lk (Q : VK) : VK := fun v H => Q v H ∨ ∃ d u, H d = some u ∧ Mut (some u) ∧ ∀ od, Q v (upd H d (.frz od u))
theorem Lk.of {Q : VK} {v : V} {H : Hp} (h : Q v H) : Lk Q v H := .inl h
theorem Aft.newDicL {kvs : List (Key × PyData)} {ws : List (Key × V)} (h : Aft K W σ H G S (.ok (.p (.dict (pyKv kvs))) S) (QD K Q)) (r : Rep K H G S) (e : kvs.map (·.1) = ws.map (·.1)) (t : DnAll K G.φ H (kvs.map (·.2)) (ws.map (·.2))) (hp : H p = none) : Lk Q (.ref p) (upd H p (.dK ws)) :=
  .inr ⟨p, .dK ws, upd_same, trivial, fun od => by rw [upd_twice]; exact h.newDic r e t hp od⟩
theorem PE.lk {X : Cx} {e : Expr} {t : TE} (h : PE X e t) : PE X e (fun σ H Q => t σ H (Lk Q)) := by
  refine ⟨fun pins s σ H Q I hw => thn (h.run pins s σ H _ I hw) fun v s1 ⟨x, H1, I1, r, q⟩ => ?_⟩
  rcases q with q | ⟨d, u, hd, mu, q⟩
  · exact ⟨x, H1, I1, r, q⟩
  · obtain ⟨od, I2⟩ := I1.lock hd mu
    exact ⟨x, _, I2, r, q od⟩
end
def eVar (i : Nat) : FE := fun ρ S => match ρ[i]? with
  | some (some d) => .ok d S
  | _ => .bad
def eC (d : D) : FE := fun _ S => .ok d S
section
variable {X : Cx} {W : WX}
theorem de_var (i : Nat) {x : Str} {pos : Pos} (hN : X.N[i]? = some x := by rfl) (hv : Vis X.env.scope x := by first | exact Or.inl rfl | exact Or.inr (Or.inl rfl) | exact Or.inr (Or.inr rfl)) (hd : (x == ("__debug__" : Str)) = false := by decide)
    (hcd : (x == ("__classdict__" : Str)) = false := by decide) : DE X W (.Name x pos) (eVar i) := by
  refine ⟨PE.imp (pe_var hN hv hd hcd) fun σ H Q ⟨G, S, ρ, rs, rp, h⟩ => ?_⟩
  unfold eVar at h
  split at h
  · rename_i d e
    obtain ⟨v, h1, h2⟩ := rs.get e
    exact ⟨v, h1, h.ret rp h2⟩
  · exact h.elim
theorem de_int {i : Int} {j pos} : DE X W (.Constant (.int i) j pos) (eC (.p (.int i))) := ⟨PE.imp pe_int fun σ H Q ⟨G, S, ρ, rs, rp, h⟩ => Aft.ret h rp (.int i)⟩
theorem de_bl {b : Bool} {j pos} : DE X W (.Constant (.bool b) j pos) (eC (.p (.bool b))) := ⟨PE.imp pe_bl fun σ H Q ⟨G, S, ρ, rs, rp, h⟩ => Aft.ret h rp (.bl b)⟩
theorem de_non {j pos} : DE X W (.Constant .none j pos) (eC (.p .none)) := ⟨PE.imp pe_non fun σ H Q ⟨G, S, ρ, rs, rp, h⟩ => Aft.ret h rp .non⟩
theorem de_str {x : Str} {j pos} : DE X W (.Constant (.str x) j pos) (eC (.p (.str x))) := ⟨PE.imp pe_str fun σ H Q ⟨G, S, ρ, rs, rp, h⟩ => Aft.ret h rp (.str x)⟩
end
def aNil : FA := fun _ S => .ok [] S
def aCons (f : FE) (g : FA) : FA := fun ρ S => (f ρ S).bind fun d S1 => (g ρ S1).bind fun ds S2 => .ok (d :: ds) S2
def mkTup : List D → M D := fun ds S => match pys ds with
  | some xs => if xs.length ≤ LIM then .ok (.p (.tuple xs)) S else .bad
  | none => .bad
def mkLst : List D → M D := fun ds S => match pys ds with
  | some xs => if xs.length ≤ LIM then .ok (.p (.list xs)) S else .bad
  | none => .bad
def mkLstM : List D → M D := fun ds S => match pys ds with
  | some xs => if xs.length ≤ LIM then .ok (.ob S.length) (S ++ [.lst xs]) else .bad
  | none => .bad
def eA (g : List D → M D) (f : FA) : FE := fun ρ S => (f ρ S).bind g
section
variable {X : Cx} {W : WX} {e : Expr} {es : List Expr} {f : FE} {g : FA} {pos : Pos}
theorem da_nil : DA X W [] aNil := ⟨PA.imp pa_nil fun σ H Q ⟨G, S, ρ, rs, rp, h⟩ => h H G Ext.refl rp _ .nil⟩
theorem da_cons (he : DE X W e f) (hr : DA X W es g) (hs : starEach (e :: es) X.env = (false, eval e X.env) :: starEach es X.env := by rfl) : DA X W (e :: es) (aCons f g) := by
  refine ⟨PA.imp (pa_cons he.run hr.run hs) fun σ H Q ⟨G, S, ρ, rs, rp, h⟩ => ?_⟩
  refine ⟨G, S, ρ, rs, rp, (Aft.bind h).mono fun d H1 G1 S1 x1 r1 h1 v dv => ?_⟩
  refine ⟨G1, S1, ρ, x1.relS rp rs, r1, (Aft.bind h1).mono fun ds H2 G2 S2 x2 r2 h2 vs dvs => ?_⟩
  exact h2 H2 G2 Ext.refl r2 _ (.cons (x2.den r1 dv) dvs)
theorem de_tup {k} (h : DA X W es g) : DE X W (.Tuple es k pos) (eA mkTup g) := by
  refine ⟨PE.imp (pe_tup h.run) fun σ H Q ⟨G, S, ρ, rs, rp, h⟩ => ?_⟩
  refine ⟨G, S, ρ, rs, rp, (Aft.bind h).mono fun ds H1 G1 S1 x1 r1 h1 vs dvs => ?_⟩
  unfold mkTup at h1
  split at h1
  · rename_i xs e
    have t := pys_den e dvs
    by_cases hl : xs.length ≤ LIM
    · rw [if_pos hl] at h1
      exact ⟨by rw [← t.length]; exact Nat.le_trans hl LIM_le, fun p hp => h1.newTup r1 t hp⟩
    · rw [if_neg hl] at h1; exact h1.elim
  · exact h1.elim
theorem de_lst (h : DA X W es g) : DE X W (.List es pos) (eA mkLst g) := by
  refine ⟨PE.imp (pe_lst h.run) fun σ H Q ⟨G, S, ρ, rs, rp, h⟩ => ?_⟩
  refine ⟨G, S, ρ, rs, rp, (Aft.bind h).mono fun ds H1 G1 S1 x1 r1 h1 vs dvs => ?_⟩
  unfold mkLst at h1
  split at h1
  · rename_i xs e
    have t := pys_den e dvs
    by_cases hl : xs.length ≤ LIM
    · rw [if_pos hl] at h1
      exact ⟨by rw [← t.length]; exact Nat.le_trans hl LIM_le, fun p hp => h1.newLst r1 t hp⟩
    · rw [if_neg hl] at h1; exact h1.elim
  · exact h1.elim
theorem de_lstM (h : DA X W es g) : DE X W (.List es pos) (eA mkLstM g) := by
  refine ⟨PE.imp (pe_lst h.run) fun σ H Q ⟨G, S, ρ, rs, rp, h⟩ => ?_⟩
  refine ⟨G, S, ρ, rs, rp, (Aft.bind h).mono fun ds H1 G1 S1 x1 r1 h1 vs dvs => ?_⟩
  unfold mkLstM at h1
  split at h1
  · rename_i xs e
    have t := pys_den e dvs
    by_cases hl : xs.length ≤ LIM
    · rw [if_pos hl] at h1
      exact ⟨by rw [← t.length]; exact Nat.le_trans hl LIM_le, fun p hp => h1.newLstM r1 t hp⟩
    · rw [if_neg hl] at h1; exact h1.elim
  · exact h1.elim
end
/-- the data's operation g is what the reading r asks -/
def Sim2 (K : PySem.W.Frag) (r : R2) (g : D → D → M D) : Prop :=
  ∀ (W : WX) (σ : St) (H : Hp) (G : Gh) (S : Sto) (x y : D) (v w : V) (Q : VK), Rep K H G S → Den K H G x v → Den K H G y w → Aft K W σ H G S (g x y S) (QD K Q) → r v w H Q
def Sim1 (K : PySem.W.Frag) (r : V → Hp → VK → Prop) (g : D → M D) : Prop :=
  ∀ (W : WX) (σ : St) (H : Hp) (G : Gh) (S : Sto) (x : D) (v : V) (Q : VK), Rep K H G S → Den K H G x v → Aft K W σ H G S (g x S) (QD K Q) → r v H Q
def SimA (K : PySem.W.Frag) (r : List V → Hp → VK → Prop) (g : List D → M D) : Prop :=
  ∀ (W : WX) (σ : St) (H : Hp) (G : Gh) (S : Sto) (xs : List D) (vs : List V) (Q : VK), Rep K H G S → DenL K H G xs vs → Aft K W σ H G S (g xs S) (QD K Q) → r vs H Q
def e2 (g : D → D → M D) (a b : FE) : FE := fun ρ S => (a ρ S).bind fun x S1 => (b ρ S1).bind fun y S2 => g x y S2
def e1 (g : D → M D) (a : FE) : FE := fun ρ S => (a ρ S).bind g
section
variable {X : Cx} {W : WX} {a b : Expr} {f h : FE} {pos : Pos}
theorem sim_op {r : R2} {g : D → D → M D} (m : Sim2 X.K r g) {σ : St} {H : Hp} {Q : VK} (q : rd X.K W (e2 g f h) σ H Q) : tOp r (rd X.K W f) (rd X.K W h) σ H Q := by
  obtain ⟨G, S, ρ, rs, rp, q⟩ := q
  refine ⟨G, S, ρ, rs, rp, (Aft.bind q).mono fun x H1 G1 S1 x1 r1 q1 v dv => ?_⟩
  refine ⟨G1, S1, ρ, x1.relS rp rs, r1, (Aft.bind q1).mono fun y H2 G2 S2 x2 r2 q2 w dw => ?_⟩
  exact m W σ H2 G2 S2 x y v w Q r2 (x2.den r1 dv) dw q2
theorem de_bin {op : Operator} {r : R2} {g : D → D → M D} (o : OpR X (binaryOp op) r) (m : Sim2 X.K r g) (ha : DE X W a f) (hb : DE X W b h) : DE X W (.BinOp a op b pos) (e2 g f h) :=
  ⟨PE.imp (pe_op o ha.run hb.run) fun _ _ _ q => sim_op m q⟩
theorem de_cmp {op : CmpOp} {r : R2} {g : D → D → M D} (o : OpR X (compareOp op) r) (m : Sim2 X.K r g) (ha : DE X W a f) (hb : DE X W b h) (hm : behindInMarks op b = false) : DE X W (.Compare a [op] [b] pos) (e2 g f h) :=
  ⟨PE.imp (pe_cmpR o ha.run hb.run hm) fun _ _ _ q => sim_op m q⟩
theorem de_ix {r : R2} {g : D → D → M D} (o : IxR X r) (m : Sim2 X.K r g) (ha : DE X W a f) (hb : DE X W b h) (hs : PlainIx b) : DE X W (.Subscript a b pos) (e2 g f h) :=
  ⟨PE.imp (pe_ix o ha.run hb.run hs) fun _ _ _ q => sim_op m q⟩
theorem de_un {op : UnaryOp} {r : V → Hp → VK → Prop} {g : D → M D} (o : UnR X (unaryOp op) r) (m : Sim1 X.K r g) (ha : DE X W a f) : DE X W (.UnaryOp op a pos) (e1 g f) := by
  refine ⟨PE.imp (pe_un o ha.run) fun σ H Q ⟨G, S, ρ, rs, rp, q⟩ => ?_⟩
  exact ⟨G, S, ρ, rs, rp, (Aft.bind q).mono fun x H1 G1 S1 x1 r1 q1 v dv => m W σ H1 G1 S1 x v Q r1 dv q1⟩
end
def opI (C : Int → Int → Bool) (g : Int → Int → Int) : D → D → M D := fun x y S => match x, y with
  | .p (.int i), .p (.int j) => if C i j then .ok (.p (.int (g i j))) S else .bad
  | _, _ => .bad
def opC (g : Int → Int → Bool) : D → D → M D := fun x y S => match x, y with
  | .p (.int i), .p (.int j) => .ok (.p (.bool (g i j))) S
  | _, _ => .bad
section
variable {K : PySem.W.Frag} {H : Hp} {G : Gh}
theorem den_int {i : Int} {v : V} (h : Den K H G (.p (.int i)) v) : v = .int i := by cases h; rfl
theorem den_str {i : Str} {v : V} (h : Den K H G (.p (.str i)) v) : v = .str i := by cases h; rfl
theorem den_bool {i : Bool} {v : V} (h : Den K H G (.p (.bool i)) v) : v = .bl i := by cases h; rfl
theorem den_none {v : V} (h : Den K H G (.p .none) v) : v = .non := by cases h; rfl
theorem den_tup {xs : List PyData} {v : V} (h : Den K H G (.p (.tuple xs)) v) : ∃ a vs, v = .ref a ∧ SqT K H a vs ∧ DnAll K G.φ H xs vs := by
  cases h with
  | tup h t => exact ⟨_, _, rfl, h, t⟩
theorem den_lst {xs : List PyData} {v : V} (h : Den K H G (.p (.list xs)) v) : ∃ a vs, v = .ref a ∧ FL G.φ a vs ∧ DnAll K G.φ H xs vs := by
  cases h with
  | lst h t => exact ⟨_, _, rfl, h, t⟩
theorem den_dic {kvs : List (PyData × PyData)} {v : V} (h : Den K H G (.p (.dict kvs)) v) (hk : ∀ ks x r, kvs ≠ (.tuple ks, x) :: r) : ∃ a ws, v = .ref a ∧ FD G.φ a ws ∧ kvs.map (·.1) = ws.map (fun p => keyPy p.1) ∧ DnAll K G.φ H (kvs.map (·.2)) (ws.map (·.2)) := by
  cases h with
  | dic h e t => exact ⟨_, _, rfl, h, e, t⟩
  | ins _ _ _ _ => exact absurd rfl (hk _ _ _)
theorem sim_int {C : Int → Int → Bool} {P : Int → Int → Prop} {g : Int → Int → Int} (hC : ∀ i j, C i j = true → P i j) : Sim2 K (rI P fun i j => .int (g i j)) (opI C g) := by
  intro W σ H G S x y v w Q rp dx dy q
  unfold opI at q
  split at q
  · rename_i i j
    by_cases hc : C i j = true
    · rw [if_pos hc] at q
      exact ⟨i, j, den_int dx, den_int dy, hC i j hc, q.ret rp (.int _)⟩
    · rw [if_neg hc] at q; exact q.elim
  · exact q.elim
theorem sim_int0 {g : Int → Int → Int} : Sim2 K (rI0 fun i j => .int (g i j)) (opI (fun _ _ => true) g) := by
  intro W σ H G S x y v w Q rp dx dy q
  unfold opI at q
  split at q
  · rename_i i j
    exact ⟨i, j, den_int dx, den_int dy, q.ret rp (.int _)⟩
  · exact q.elim
theorem sim_cmp {g : Int → Int → Bool} : Sim2 K (rI0 fun i j => .bl (g i j)) (opC g) := by
  intro W σ H G S x y v w Q rp dx dy q
  unfold opC at q
  split at q
  · rename_i i j
    exact ⟨i, j, den_int dx, den_int dy, q.ret rp (.bl _)⟩
  · exact q.elim
end
def opSub : D → D → M D := opI (fun _ _ => true) fun i j => i - j
def opMod : D → D → M D := opI (fun _ j => decide (0 < j)) fun i j => i % j
def opPow : D → D → M D := opI (fun i j => decide (0 ≤ j) && (decide (j ≤ 1000000) && decide (i.natAbs < 2 ^ 64))) fun i j => i ^ j.toNat
def opLt : D → D → M D := opC fun i j => decide (i < j)
def opLe : D → D → M D := opC fun i j => decide (i ≤ j)
def opGt : D → D → M D := opC fun i j => decide (j < i)
def opGe : D → D → M D := opC fun i j => decide (j ≤ i)
section
variable {X : Cx} {W : WX} {a b : Expr} {f h : FE} {pos : Pos}
theorem de_sub (ha : DE X W a f) (hb : DE X W b h) : DE X W (.BinOp a .Sub b pos) (e2 opSub f h) := de_bin op_sub sim_int0 ha hb
theorem de_mod (ha : DE X W a f) (hb : DE X W b h) : DE X W (.BinOp a .Mod b pos) (e2 opMod f h) := de_bin op_mod (sim_int fun i j q => of_decide_eq_true q) ha hb
theorem de_pow (ha : DE X W a f) (hb : DE X W b h) : DE X W (.BinOp a .Pow b pos) (e2 opPow f h) := de_bin op_pow (sim_int fun i j q => by
  rw [Bool.and_eq_true, Bool.and_eq_true, decide_eq_true_iff, decide_eq_true_iff, decide_eq_true_iff] at q; exact q) ha hb
def opNeg : D → M D := fun x S => match x with
  | .p (.int i) => .ok (.p (.int (-i))) S
  | _ => .bad
theorem de_neg (ha : DE X W a f) : DE X W (.UnaryOp .USub a pos) (e1 opNeg f) := de_un un_neg (fun W σ H G S x v Q rp dx q => by
  unfold opNeg at q
  split at q
  · rename_i i
    exact ⟨i, den_int dx, q.ret rp (.int _)⟩
  · exact q.elim) ha
/-- + of ints, texts, lists, tuples -/
def opAdd : D → D → M D := fun x y S => match x, y with
  | .p (.int i), .p (.int j) => .ok (.p (.int (i + j))) S
  | .p (.str i), .p (.str j) => if i.length + j.length ≤ LIM then .ok (.p (.str (i ++ j))) S else .bad
  | .p (.list i), .p (.list j) => if i.length + j.length ≤ LIM then .ok (.p (.list (i ++ j))) S else .bad
  | .p (.tuple i), .p (.tuple j) => if i.length + j.length ≤ LIM then .ok (.p (.tuple (i ++ j))) S else .bad
  | _, _ => .bad
def rAddD (K : PySem.W.Frag) : R2 := fun x y H Q => rI0 (fun i j => .int (i + j)) x y H Q ∨ (∃ i j, x = .str i ∧ y = .str j ∧ i.length + j.length ≤ sizeLine ∧ Q (.str (i ++ j)) H) ∨ rCat x y H Q ∨ rCatA K x y H Q
theorem DnAll.nil_iff {K : PySem.W.Frag} {φ : List (Addr × HO)} {H : Hp} {ds : List PyData} {vs : List V} (h : DnAll K φ H ds vs) : vs = [] ↔ ds = [] := by
  cases h <;> simp
theorem sim_add {K : PySem.W.Frag} : Sim2 K (rAddD K) opAdd := by
  intro W σ H G S x y v w Q rp dx dy q
  unfold opAdd at q
  split at q
  · rename_i i j
    exact .inl ⟨i, j, den_int dx, den_int dy, q.ret rp (.int _)⟩
  · rename_i i j
    by_cases hc : i.length + j.length ≤ LIM
    · rw [if_pos hc] at q
      exact .inr (.inl ⟨i, j, den_str dx, den_str dy, Nat.le_trans hc LIM_le, q.ret rp (.str _)⟩)
    · rw [if_neg hc] at q; exact q.elim
  · rename_i i j
    by_cases hc : i.length + j.length ≤ LIM
    · rw [if_pos hc] at q
      obtain ⟨a, vs, rfl, fa, ta⟩ := den_lst dx
      obtain ⟨b, ws, rfl, fb, tb⟩ := den_lst dy
      exact .inr (.inr (.inl ⟨a, b, vs, ws, rfl, rfl, fa H rp.phi, fb H rp.phi, by rw [← ta.length, ← tb.length]; exact Nat.le_trans hc LIM_le, fun p hp => q.newLst rp (ta.append tb) hp⟩))
    · rw [if_neg hc] at q; exact q.elim
  · rename_i i j
    by_cases hc : i.length + j.length ≤ LIM
    · rw [if_pos hc] at q
      obtain ⟨a, vs, rfl, fa, ta⟩ := den_tup dx
      obtain ⟨b, ws, rfl, fb, tb⟩ := den_tup dy
      refine .inr (.inr (.inr ⟨a, b, vs, ws, rfl, rfl, fa, fb, by rw [← ta.length, ← tb.length]; exact Nat.le_trans hc LIM_le, fun e => ?_, fun _ e => ?_, fun _ _ p hp => q.newTup rp (ta.append tb) hp⟩))
      · have e' := ta.nil_iff.mp e
        rw [e', List.nil_append] at q
        exact q.ret rp dy
      · have e' := tb.nil_iff.mp e
        rw [e', List.append_nil] at q
        exact q.ret rp dx
    · rw [if_neg hc] at q; exact q.elim
  · exact q.elim
theorem de_add (ha : DE X W a f) (hb : DE X W b h) : DE X W (.BinOp a .Add b pos) (e2 opAdd f h) :=
  de_bin (op_add.or (op_add_str.or (op_cat.or op_catA))) sim_add ha hb
end
def val (S : Sto) : D → Option PyData
  | .p x => some x
  | .ob i => match S[i]? with
    | some (.lst xs) => some (.list xs)
    | _ => none
  | _ => none
def opEq (neg : Bool) : D → D → M D := fun x y S => match val S x, val S y with
  | some a, some b => if SeqAt.shaped a && SeqAt.shaped b then .ok (.p (.bool (if neg then !PyData.eqv a b else PyData.eqv a b))) S else .bad
  | _, _ => .bad
mutual
theorem Dn.dp {K : PySem.W.Frag} {φ : List (Addr × HO)} {H : Hp} (ph : L2.Hp → Prop := fun _ => True) (hφ : Holds φ H) : ∀ {d : PyData} {v : V}, d.canLay0 = true → Dn K φ H d v → Dp K H v d
  | _, _, _, .non => .non
  | _, _, _, .bl b => .bl b
  | _, _, _, .int i => .int i
  | _, _, _, .str x => .str x
  | _, _, h, .lst f t => .lst (SqL.of (f H hφ)) (DnAll.dp ph hφ (by simpa only [PyData.canLay0] using h) t)
  | _, _, h, .tup f t => .tup f (DnAll.dp ph hφ (by simpa only [PyData.canLay0] using h) t)
  | _, _, h, .dic _ _ _ => by simp only [PyData.canLay0] at h; cases h
  | _, _, h, .ins _ _ _ _ => by simp only [PyData.canLay0] at h; cases h
theorem DnAll.dp {K : PySem.W.Frag} {φ : List (Addr × HO)} {H : Hp} (ph : L2.Hp → Prop := fun _ => True) (hφ : Holds φ H) : ∀ {ds : List PyData} {vs : List V}, PyData.canLayAll0 ds = true → DnAll K φ H ds vs → DpAll K H vs ds
  | _, _, _, .nil => .nil
  | _, _, h, .cons a t => by
    simp only [PyData.canLayAll0, Bool.and_eq_true] at h
    exact .cons (Dn.dp ph hφ h.1 a) (DnAll.dp ph hφ h.2 t)
end
theorem val_dp {K : PySem.W.Frag} {H : Hp} {G : Gh} {S : Sto} (rp : Rep K H G S) {d : D} {v : V} {a : PyData} (e : val S d = some a) (hs : SeqAt.shaped a = true) (h : Den K H G d v) : Dp K H v a := by
  have hc := SeqAt.canLay_of_shaped hs
  cases d with
  | p x => cases e; exact Dn.dp (fun _ => True) rp.phi hc h
  | ob i =>
    simp only [val] at e
    split at e
    · rename_i xs ei
      cases e
      obtain ⟨ad, rfl, ha⟩ := h
      obtain ⟨vs, e1, t⟩ := rp.ok i ad _ ha ei
      exact .lst (SqL.of e1) (DnAll.dp (fun _ => True) rp.phi (by simpa only [PyData.canLay0] using hc) t)
    · cases e
  | ro _ => cases e
  | ext _ => cases e
section
variable {X : Cx} {W : WX} {a b : Expr} {f h : FE} {pos : Pos}
theorem sim_eq {K : PySem.W.Frag} : Sim2 K (rEqD K) (opEq false) := by
  intro W σ H G S x y v w Q rp dx dy q
  unfold opEq at q
  split at q
  · rename_i a b ea eb
    by_cases hc : (SeqAt.shaped a && SeqAt.shaped b) = true
    · rw [if_pos hc] at q
      rw [Bool.and_eq_true] at hc
      exact ⟨a, b, val_dp rp ea hc.1 dx, val_dp rp eb hc.2 dy, hc.1, hc.2, q.ret rp (.bl _)⟩
    · rw [if_neg hc] at q; exact q.elim
  · exact q.elim
theorem sim_ne {K : PySem.W.Frag} : Sim2 K (rNeD K) (opEq true) := by
  intro W σ H G S x y v w Q rp dx dy q
  unfold opEq at q
  split at q
  · rename_i a b ea eb
    by_cases hc : (SeqAt.shaped a && SeqAt.shaped b) = true
    · rw [if_pos hc] at q
      rw [Bool.and_eq_true] at hc
      exact ⟨a, b, val_dp rp ea hc.1 dx, val_dp rp eb hc.2 dy, hc.1, hc.2, q.ret rp (.bl _)⟩
    · rw [if_neg hc] at q; exact q.elim
  · exact q.elim
end
end DL
namespace DL
open PySem L2
def pyKey : PyData → Option Key
  | .int i => some (.inl i)
  | .str x => some (.inr x)
  | _ => none
theorem pyKey_keyPy (k : Key) : pyKey (keyPy k) = some k := by cases k <;> rfl
theorem keyPy_of {d : PyData} {k : Key} (h : pyKey d = some k) : d = keyPy k := by
  cases d <;> first | (cases h; rfl) | cases h
def unKv : List (PyData × PyData) → Option (List (Key × PyData))
  | [] => some []
  | (k, d) :: r => match pyKey k, unKv r with
    | some k', some r' => some ((k', d) :: r')
    | _, _ => none
@[simp] theorem unKv_pyKv : ∀ kvs : List (Key × PyData), unKv (pyKv kvs) = some kvs
  | [] => rfl
  | (k, d) :: r => by
    show unKv ((keyPy k, d) :: pyKv r) = _
    simp only [unKv, pyKey_keyPy, unKv_pyKv r]
theorem unKv_eq : ∀ {l : List (PyData × PyData)} {kvs : List (Key × PyData)}, unKv l = some kvs → l = pyKv kvs
  | [], kvs, h => by cases h; rfl
  | (k, d) :: r, kvs, h => by
    simp only [unKv] at h
    split at h
    · rename_i k' r' e1 e2
      cases h
      rw [unKv_eq e2, keyPy_of e1]; rfl
    · cases h
theorem unKv_noT {l : List (PyData × PyData)} {kvs : List (Key × PyData)} (h : unKv l = some kvs) : ∀ ks x r, l ≠ (.tuple ks, x) :: r := fun ks x r e => by
  subst e
  simp [unKv, pyKey] at h
def valD (kvs : List (Key × PyData)) (k : Key) : Option PyData := (kvs.find? fun kv => decide (kv.1 = k)).map (·.2)
def putD (kvs : List (Key × PyData)) (k : Key) (d : PyData) : List (Key × PyData) :=
  if (kvs.any fun kv => decide (kv.1 = k)) = true then kvs.map (fun kv => if kv.1 = k then (kv.1, d) else kv) else kvs ++ [(k, d)]
section
variable {K : PySem.W.Frag} {φ : List (Addr × HO)} {H : Hp}
structure KvR (K : PySem.W.Frag) (φ : List (Addr × HO)) (H : Hp) (kvs : List (Key × PyData)) (ws : List (Key × V)) : Prop where
  ks : kvs.map (·.1) = ws.map (·.1)
  vs : DnAll K φ H (kvs.map (·.2)) (ws.map (·.2))
theorem KvR.nil : KvR K φ H [] [] := ⟨rfl, .nil⟩
theorem KvR.cons {k : Key} {d : PyData} {v : V} {kvs : List (Key × PyData)} {ws : List (Key × V)} (h : Dn K φ H d v) (t : KvR K φ H kvs ws) : KvR K φ H ((k, d) :: kvs) ((k, v) :: ws) := ⟨by simp [t.ks], .cons h t.vs⟩
theorem KvR.inv {p : Key × PyData} {kvs : List (Key × PyData)} {l : List (Key × V)} (r : KvR K φ H (p :: kvs) l) : ∃ v ws, l = (p.1, v) :: ws ∧ Dn K φ H p.2 v ∧ KvR K φ H kvs ws := by
  obtain ⟨e, t⟩ := r
  cases l with
  | nil => simp at e
  | cons q ws =>
    simp only [List.map_cons, List.cons.injEq] at e
    cases t with
    | cons h t => exact ⟨q.2, ws, by rw [e.1], h, ⟨e.2, t⟩⟩
theorem KvR.nil_inv {l : List (Key × V)} (r : KvR K φ H [] l) : l = [] := by
  have := r.ks
  simpa using this
theorem KvR.length {kvs : List (Key × PyData)} {ws : List (Key × V)} (r : KvR K φ H kvs ws) : kvs.length = ws.length := by
  have := congrArg List.length r.ks
  simpa using this
theorem KvR.val {k : Key} : ∀ {kvs : List (Key × PyData)} {ws : List (Key × V)}, KvR K φ H kvs ws → (∀ d, valD kvs k = some d → ∃ v, valV ws k = some v ∧ Dn K φ H d v) ∧ (valD kvs k = none → valV ws k = none)
  | [], _, r => by
    rw [r.nil_inv]
    exact ⟨fun d e => (by cases e), fun _ => rfl⟩
  | p :: kvs, _, r => by
    obtain ⟨v, ws, rfl, h, t⟩ := r.inv
    have ih := KvR.val (k := k) t
    by_cases e : p.1 = k
    · have e1 : valD (p :: kvs) k = some p.2 := by simp [valD, List.find?_cons, e]
      have e2 : valV ((p.1, v) :: ws) k = some v := by simp [valV, List.find?_cons, e]
      rw [e1, e2]
      exact ⟨fun d q => by cases q; exact ⟨v, rfl, h⟩, fun q => by cases q⟩
    · have e1 : valD (p :: kvs) k = valD kvs k := by simp [valD, List.find?_cons, e]
      have e2 : valV ((p.1, v) :: ws) k = valV ws k := by simp [valV, List.find?_cons, e]
      rw [e1, e2]; exact ih
theorem KvR.mapPut {k : Key} {d : PyData} {v : V} (h : Dn K φ H d v) : ∀ {kvs : List (Key × PyData)} {ws : List (Key × V)}, KvR K φ H kvs ws → KvR K φ H (kvs.map fun kv => if kv.1 = k then (kv.1, d) else kv) (ws.map fun kv => if kv.1 = k then (kv.1, v) else kv)
  | [], _, r => by rw [r.nil_inv]; exact .nil
  | p :: kvs, _, r => by
    obtain ⟨u, ws, rfl, hu, t⟩ := r.inv
    rw [List.map_cons, List.map_cons]
    by_cases e : p.1 = k
    · rw [if_pos e, if_pos e]; exact .cons h (KvR.mapPut h t)
    · rw [if_neg e, if_neg e]; exact .cons hu (KvR.mapPut h t)
theorem KvR.snoc {k : Key} {d : PyData} {v : V} (h : Dn K φ H d v) : ∀ {kvs : List (Key × PyData)} {ws : List (Key × V)}, KvR K φ H kvs ws → KvR K φ H (kvs ++ [(k, d)]) (ws ++ [(k, v)])
  | [], _, r => by rw [r.nil_inv]; exact .cons h .nil
  | p :: kvs, _, r => by
    obtain ⟨u, ws, rfl, hu, t⟩ := r.inv
    exact .cons hu (KvR.snoc h t)
theorem KvR.any {k : Key} : ∀ {kvs : List (Key × PyData)} {ws : List (Key × V)}, KvR K φ H kvs ws → (kvs.any fun kv => decide (kv.1 = k)) = (ws.any fun kv => decide (kv.1 = k))
  | [], _, r => by rw [r.nil_inv]; rfl
  | p :: kvs, _, r => by
    obtain ⟨u, ws, rfl, hu, t⟩ := r.inv
    rw [List.any_cons, List.any_cons, KvR.any t]
theorem KvR.put {k : Key} {d : PyData} {v : V} {kvs : List (Key × PyData)} {ws : List (Key × V)} (r : KvR K φ H kvs ws) (h : Dn K φ H d v) : KvR K φ H (putD kvs k d) (putK ws k v) := by
  unfold putD putK
  rw [r.any]
  split
  · exact r.mapPut h
  · exact r.snoc h
end
def dicOf (S : Sto) : D → Option (List (Key × PyData))
  | .p (.dict l) => unKv l
  | .ob i => match S[i]? with
    | some (.dic kvs) => some kvs
    | _ => none
  | _ => none
def lstOf (S : Sto) : D → Option (List PyData)
  | .p (.list l) => some l
  | .ob i => match S[i]? with
    | some (.lst l) => some l
    | _ => none
  | _ => none
/-- lists (also the script) and tuples -/
def seqOf (S : Sto) : D → Option (List PyData)
  | .p (.list l) => some l
  | .p (.tuple l) => some l
  | .ro l => some l
  | .ob i => match S[i]? with
    | some (.lst l) => some l
    | _ => none
  | _ => none
section
variable {K : PySem.W.Frag} {H : Hp} {G : Gh} {S : Sto}
theorem dicOf_den (rp : Rep K H G S) {d : D} {v : V} {kvs : List (Key × PyData)} (e : dicOf S d = some kvs) (h : Den K H G d v) : ∃ a ws, v = .ref a ∧ Rd H a (.dK ws) ∧ KvR K G.φ H kvs ws := by
  cases d with
  | p x =>
    cases x with
    | dict l =>
      obtain ⟨a, ws, rfl, f, ek, t⟩ := den_dic h (unKv_noT (show unKv l = some kvs from e))
      have el := unKv_eq (show unKv l = some kvs from e)
      subst el
      refine ⟨a, ws, rfl, .inr ⟨f.choose, f.choose_spec H rp.phi⟩, ?_, by rw [pyKv_vals] at t; exact t⟩
      rw [pyKv_keys] at ek
      have q := congrArg (List.map pyKey) ek
      simp only [List.map_map, Function.comp_def, pyKey_keyPy] at q
      have q2 := congrArg (List.filterMap id) q
      simpa [List.filterMap_map, Function.comp_def] using q2
    | _ => cases e
  | ob i =>
    simp only [dicOf] at e
    split at e
    · rename_i ks ei
      cases e
      obtain ⟨a, rfl, ha⟩ := h
      obtain ⟨ws, e1, e2, t⟩ := rp.ok i a _ ha ei
      exact ⟨a, ws, rfl, .inl e1, e2, t⟩
    · cases e
  | ro _ => cases e
  | ext _ => cases e
theorem lstOf_den (rp : Rep K H G S) {d : D} {v : V} {xs : List PyData} (e : lstOf S d = some xs) (h : Den K H G d v) : ∃ a vs, v = .ref a ∧ H a = some (.lst vs) ∧ DnAll K G.φ H xs vs := by
  cases d with
  | p x =>
    cases x with
    | list l =>
      cases e
      obtain ⟨a, vs, rfl, f, t⟩ := den_lst h
      exact ⟨a, vs, rfl, f H rp.phi, t⟩
    | _ => cases e
  | ob i =>
    simp only [lstOf] at e
    split at e
    · rename_i ks ei
      cases e
      obtain ⟨a, rfl, ha⟩ := h
      obtain ⟨vs, e1, t⟩ := rp.ok i a _ ha ei
      exact ⟨a, vs, rfl, e1, t⟩
    · cases e
  | ro _ => cases e
  | ext _ => cases e
theorem seqOf_den (rp : Rep K H G S) {d : D} {v : V} {xs : List PyData} (e : seqOf S d = some xs) (h : Den K H G d v) : ∃ a vs, v = .ref a ∧ (SqL K H a vs ∨ SqT K H a vs) ∧ DnAll K G.φ H xs vs := by
  cases d with
  | p x =>
    cases x with
    | list l =>
      cases e
      obtain ⟨a, vs, rfl, f, t⟩ := den_lst h
      exact ⟨a, vs, rfl, .inl (SqL.of (f H rp.phi)), t⟩
    | tuple l =>
      cases e
      obtain ⟨a, vs, rfl, f, t⟩ := den_tup h
      exact ⟨a, vs, rfl, .inr f, t⟩
    | _ => cases e
  | ob i =>
    simp only [seqOf] at e
    split at e
    · rename_i ks ei
      cases e
      obtain ⟨a, rfl, ha⟩ := h
      obtain ⟨vs, e1, t⟩ := rp.ok i a _ ha ei
      exact ⟨a, vs, rfl, .inl (SqL.of e1), t⟩
    · cases e
  | ro l =>
    cases e
    obtain ⟨a, vs, rfl, f, t⟩ := h
    exact ⟨a, vs, rfl, .inl (f H rp.phi), t⟩
  | ext _ => cases e
end
theorem atI_dn {K : PySem.W.Frag} {φ : List (Addr × HO)} {H : Hp} {xs : List PyData} {vs : List V} {i : Int} {d : PyData} (t : DnAll K φ H xs vs) (e : atI xs i = some d) : ∃ v, atI vs i = some v ∧ Dn K φ H d v := by
  unfold atI at e ⊢
  rw [← t.length]
  cases q : ixN xs.length i with
  | none => rw [q] at e; cases e
  | some j =>
    rw [q] at e
    exact t.get e
def opSubs : D → D → M D := fun x y S => match y with
  | .p (.int i) => match x with
    | .p (.str z) => if z.length ≤ LIM then (match atI z.cps.toList i with
      | some c => .ok (.p (.str ⟨#[c]⟩)) S
      | none => .bad) else .bad
    | x => match seqOf S x with
      | some xs => (match atI xs i with
        | some d => .ok (.p d) S
        | none => .bad)
      | none => match dicOf S x with
        | some kvs => (match valD kvs (.inl i) with
          | some d => .ok (.p d) S
          | none => .bad)
        | none => .bad
  | .p (.str k) => match dicOf S x with
    | some kvs => (match valD kvs (.inr k) with
      | some d => .ok (.p d) S
      | none => .bad)
    | none => .bad
  | _ => .bad
def rIxDic : R2 := fun x y H Q => ∃ a v, x = .ref a ∧ DGet H a y (some v) ∧ Q v H
section
variable {X : Cx} {W : WX} {a b : Expr} {f h : FE} {pos : Pos}
theorem ix_dic (hu : X.A.units + 1 < cLine) : IxR X rIxDic := by
  intro value slice pins s σ H x y v u Q I rx ry q hs
  obtain ⟨a, w, rfl, g, q⟩ := q
  cases rx
  exact PyProof.Rows.tail_any (dict_typeIs I g) PySem.F.slot_dict_getitem.lookup (d_getItem hu I g ry fun w' s3 I3 rw' => ⟨w, H, I3, rw', q⟩) hs
theorem sim_subs {K : PySem.W.Frag} : Sim2 K (fun x y H Q => rIx K x y H Q ∨ rIxDic x y H Q) opSubs := by
  intro W σ H G S x y v w Q rp dx dy q
  unfold opSubs at q
  split at q
  · rename_i i
    obtain rfl := den_int dy
    split at q
    · rename_i z
      obtain rfl := den_str dx
      by_cases hz : z.length ≤ LIM
      · rw [if_pos hz] at q
        split at q
        · rename_i c e
          exact .inl (.inr (.inr ⟨z, i, c, rfl, rfl, Nat.le_trans hz LIM_le, e, q.ret rp (.str _)⟩))
        · exact q.elim
      · rw [if_neg hz] at q; exact q.elim
    · split at q
      · rename_i xs es
        obtain ⟨a, vs, rfl, hq, t⟩ := seqOf_den rp es dx
        split at q
        · rename_i d e
          obtain ⟨v, e1, dv⟩ := atI_dn t e
          rcases hq with hq | hq
          · exact .inl (.inl ⟨a, vs, i, v, rfl, rfl, hq, e1, q.ret rp dv⟩)
          · exact .inl (.inr (.inl ⟨a, vs, i, v, rfl, rfl, hq, e1, q.ret rp dv⟩))
        · exact q.elim
      · split at q
        · rename_i kvs es
          obtain ⟨a, ws, rfl, hH, r⟩ := dicOf_den rp es dx
          split at q
          · rename_i d e
            obtain ⟨v, e1, dv⟩ := (r.val (k := .inl i)).1 d e
            refine .inr ⟨a, v, rfl, ?_, q.ret rp dv⟩
            rw [← e1]; exact .inl ⟨ws, Sum.inl i, hH, rfl, rfl⟩
          · exact q.elim
        · exact q.elim
  · rename_i k
    obtain rfl := den_str dy
    split at q
    · rename_i kvs es
      obtain ⟨a, ws, rfl, hH, r⟩ := dicOf_den rp es dx
      split at q
      · rename_i d e
        obtain ⟨v, e1, dv⟩ := (r.val (k := .inr k)).1 d e
        refine .inr ⟨a, v, rfl, ?_, q.ret rp dv⟩
        rw [← e1]; exact .inl ⟨ws, Sum.inr k, hH, rfl, rfl⟩
      · exact q.elim
    · exact q.elim
  · exact q.elim
theorem de_subs (hu : X.A.units + 1 < cLine) (ha : DE X W a f) (hb : DE X W b h) (hs : PlainIx b := by exact fun _ _ => rfl) : DE X W (.Subscript a b pos) (e2 opSubs f h) :=
  de_ix (ix_seq.or (ix_dic hu)) sim_subs ha hb hs
def flatP : PyData → Bool
  | .none => true
  | .bool _ => true
  | .int _ => true
  | .str _ => true
  | _ => false
def eqP : PyData → PyData → Bool
  | .none, .none => true
  | .bool a, .bool b => a == b
  | .bool a, .int b => (if a then 1 else 0) == b
  | .int a, .bool b => a == (if b then 1 else 0)
  | .int a, .int b => a == b
  | .str a, .str b => a == b
  | _, _ => false
def inP (x : PyData) (xs : List PyData) : Bool := xs.any fun y => eqP y x
/-- a text within a text -/
def inStr (i j : Str) : Bool := !(Builtin.Str.occurrences j i 0 j.length 1).isEmpty
def opIn (neg : Bool) : D → D → M D := fun x y S => match x with
  | .p a => match y, a with
    | .p (.str j), .str i => .ok (.p (.bool (if neg then !inStr i j else inStr i j))) S
    | y, a => match seqOf S y with
      | some xs => if flatP a && xs.all flatP then .ok (.p (.bool (if neg then !inP a xs else inP a xs))) S else .bad
      | none => match dicOf S y, pyKey a with
        | some kvs, some k => .ok (.p (.bool (if neg then !(valD kvs k).isSome else (valD kvs k).isSome))) S
        | _, _ => .bad
  | _ => .bad
end
def tru (S : Sto) : D → Option Bool
  | .p .none => some false
  | .p (.bool b) => some b
  | .p (.int i) => some (i != 0)
  | .p (.str x) => if x.length ≤ LIM then some ((x.length : Int) != 0) else none
  | .p (.list xs) => some (!xs.isEmpty)
  | .p (.tuple xs) => some (!xs.isEmpty)
  | .p (.dict _) => none
  | .ro xs => some (!xs.isEmpty)
  | .ob i => match S[i]? with
    | some (.lst l) => some (!l.isEmpty)
    | some (.dic l) => some (!l.isEmpty)
    | _ => none
  | .ext _ => none
theorem DnAll.isEmpty {K : PySem.W.Frag} {φ : List (Addr × HO)} {H : Hp} {ds : List PyData} {vs : List V} (h : DnAll K φ H ds vs) : vs.isEmpty = ds.isEmpty := by cases h <;> rfl
theorem KvR.isEmpty {K : PySem.W.Frag} {φ : List (Addr × HO)} {H : Hp} {ds : List (Key × PyData)} {vs : List (Key × V)} (h : KvR K φ H ds vs) : vs.isEmpty = ds.isEmpty := by
  have := h.length
  cases ds <;> cases vs <;> first | rfl | (simp at this)
theorem tru_den {K : PySem.W.Frag} {H : Hp} {G : Gh} {S : Sto} (rp : Rep K H G S) {d : D} {v : V} {b : Bool} (e : tru S d = some b) (h : Den K H G d v) : TruV K v H b := by
  cases d with
  | p x =>
    cases x with
    | none => cases e; rw [den_none h]; rfl
    | bool c => cases e; rw [den_bool h]; rfl
    | int i => cases e; rw [den_int h]; rfl
    | str z =>
      simp only [tru] at e
      by_cases hz : z.length ≤ LIM
      · rw [if_pos hz] at e; cases e; rw [den_str h]; exact ⟨Nat.le_trans hz LIM_le, rfl⟩
      · rw [if_neg hz] at e; cases e
    | list l =>
      cases e
      obtain ⟨a, vs, rfl, f, t⟩ := den_lst h
      exact .inl ⟨vs, SqL.of (f H rp.phi), by rw [t.isEmpty]⟩
    | tuple l =>
      cases e
      obtain ⟨a, vs, rfl, f, t⟩ := den_tup h
      exact .inr (.inl ⟨vs, f, by rw [t.isEmpty]⟩)
    | dict l => cases e
  | ro l =>
    cases e
    obtain ⟨a, vs, rfl, f, t⟩ := h
    exact .inl ⟨vs, f H rp.phi, by rw [t.isEmpty]⟩
  | ob i =>
    obtain ⟨a, rfl, ha⟩ := h
    simp only [tru] at e
    split at e
    · rename_i l ei
      cases e
      obtain ⟨vs, e1, t⟩ := rp.ok i a _ ha ei
      exact .inl ⟨vs, SqL.of e1, by rw [t.isEmpty]⟩
    · rename_i l ei
      cases e
      obtain ⟨ws, e1, e2, t⟩ := rp.ok i a _ ha ei
      exact .inr (.inr ⟨ws, e1, by rw [KvR.isEmpty ⟨e2, t⟩]⟩)
    · cases e
  | ext _ => cases e
def truM : D → M Bool := fun d S => match tru S d with
  | some b => .ok b S
  | none => .bad
def tVal (f : FE) : FT := fun ρ S => (f ρ S).bind truM
def tAndD (f g : FT) : FT := fun ρ S => (f ρ S).bind fun b S1 => if b = true then g ρ S1 else .ok false S1
def tOrD (f g : FT) : FT := fun ρ S => (f ρ S).bind fun b S1 => if b = true then .ok true S1 else g ρ S1
def tNotD (f : FT) : FT := fun ρ S => (f ρ S).bind fun b S1 => .ok (!b) S1
def eIf (t : FT) (f g : FE) : FE := fun ρ S => (t ρ S).bind fun b S1 => if b = true then f ρ S1 else g ρ S1
def eAnd (f g : FE) : FE := fun ρ S => (f ρ S).bind fun d S1 => (truM d S1).bind fun b S2 => if b = true then g ρ S2 else .ok d S2
def eOr (f g : FE) : FE := fun ρ S => (f ρ S).bind fun d S1 => (truM d S1).bind fun b S2 => if b = true then .ok d S2 else g ρ S2
def eNot (f : FE) : FE := fun ρ S => (f ρ S).bind fun d S1 => (truM d S1).bind fun b S2 => .ok (.p (.bool (!b))) S2
section
variable {X : Cx} {W : WX} {a b c : Expr} {rest : List Expr} {f g : FE} {t u : FT} {pos : Pos}
theorem dt_val (ha : DE X W a f) (he : ∀ whole, isTrue a X.env whole = (do let v ← whole; standAt a.pos; holding [v] (truthy v)) := by intro _; rfl) : DT X W a (tVal f) := by
  refine ⟨PT.imp (pt_truth ha.run he) fun σ H Q ⟨G, S, ρ, rs, rp, q⟩ => ?_⟩
  refine ⟨G, S, ρ, rs, rp, (Aft.bind q).mono fun d H1 G1 S1 x1 r1 q1 v dv => ?_⟩
  unfold truM at q1
  split at q1
  · rename_i b e
    exact ⟨b, tru_den r1 e dv, q1 H1 G1 Ext.refl r1⟩
  · exact q1.elim
/-- a comparison as a test -/
theorem dt_cmp {op : CmpOp} {r : R2} {g2 : D → D → M D} (o : OpR X (compareOp op) r) (m : Sim2 X.K r g2) (ha : DE X W a f) (hb : DE X W b g) (hm : behindInMarks op b = false) : DT X W (.Compare a [op] [b] pos) (fun ρ S => (e2 g2 f g ρ S).bind fun d S1 => match d with | .p (.bool c) => .ok c S1 | _ => .bad) := by
  refine ⟨PT.imp (pt_cmpR o ha.run hb.run hm) fun σ H Q ⟨G, S, ρ, rs, rp, q⟩ => ?_⟩
  refine sim_op m ⟨G, S, ρ, rs, rp, (Aft.bind q).mono fun d H1 G1 S1 x1 r1 q1 v dv => ?_⟩
  split at q1
  · rename_i c
    exact ⟨c, den_bool dv, q1 H1 G1 Ext.refl r1⟩
  · exact q1.elim
theorem dt_and1 (ha : DT X W a t) : PW X (.BoolOp .And [a] pos) (rdT X.K W t) := pw_and1 ha.run
theorem dt_or1 (ha : DT X W a t) : PW X (.BoolOp .Or [a] pos) (rdT X.K W t) := pw_or1 ha.run
theorem PW.imp {e : Expr} {t t' : TT} (h : PW X e t) (i : ∀ σ H Q, t' σ H Q → t σ H Q) : PW X e t' := ⟨fun wh pins s σ H Q I q => h.run wh pins s σ H Q I (i σ H Q q)⟩
theorem dw_and (ha : DT X W a t) (hb : PW X (.BoolOp .And (b :: rest) pos) (rdT X.K W u)) : PW X (.BoolOp .And (a :: b :: rest) pos) (rdT X.K W (tAndD t u)) := by
  refine PW.imp (pw_and ha.run hb) fun σ H Q ⟨G, S, ρ, rs, rp, q⟩ => ?_
  refine ⟨G, S, ρ, rs, rp, (Aft.bind q).mono fun c H1 G1 S1 x1 r1 q1 => ?_⟩
  cases c with
  | true => exact ⟨G1, S1, ρ, x1.relS rp rs, r1, q1⟩
  | false => exact q1 H1 G1 Ext.refl r1
theorem dw_or (ha : DT X W a t) (hb : PW X (.BoolOp .Or (b :: rest) pos) (rdT X.K W u)) : PW X (.BoolOp .Or (a :: b :: rest) pos) (rdT X.K W (tOrD t u)) := by
  refine PW.imp (pw_or ha.run hb) fun σ H Q ⟨G, S, ρ, rs, rp, q⟩ => ?_
  refine ⟨G, S, ρ, rs, rp, (Aft.bind q).mono fun c H1 G1 S1 x1 r1 q1 => ?_⟩
  cases c with
  | false => exact ⟨G1, S1, ρ, x1.relS rp rs, r1, q1⟩
  | true => exact q1 H1 G1 Ext.refl r1
theorem dt_bool (h : PW X a (rdT X.K W t)) : DT X W a t := ⟨h.pt⟩
theorem de_one {op} (h : DE X W a f) : DE X W (.BoolOp op [a] pos) f := ⟨pe_one h.run⟩
theorem de_or (ha : DE X W a f) (hb : DE X W (.BoolOp .Or (b :: rest) pos) g) : DE X W (.BoolOp .Or (a :: b :: rest) pos) (eOr f g) := by
  refine ⟨PE.imp (pe_orT ha.run hb.run) fun σ H Q ⟨G, S, ρ, rs, rp, q⟩ => ?_⟩
  refine ⟨G, S, ρ, rs, rp, (Aft.bind q).mono fun d H1 G1 S1 x1 r1 q1 v dv => ?_⟩
  unfold truM at q1
  split at q1
  · rename_i b e
    refine ⟨b, tru_den r1 e dv, ?_⟩
    cases b with
    | false => exact ⟨G1, S1, ρ, x1.relS rp rs, r1, q1⟩
    | true => exact Aft.ret q1 r1 dv
  · exact q1.elim
/-- the test of a comparison, by the comparison's data -/
def tC2 (g2 : D → D → M D) (f g : FE) : FT := fun ρ S => (e2 g2 f g ρ S).bind fun d S1 => match d with | .p (.bool c) => .ok c S1 | _ => .bad
theorem dt_lt (ha : DE X W a f) (hb : DE X W b g) : DT X W (.Compare a [.Lt] [b] pos) (tC2 opLt f g) := dt_cmp op_lt sim_cmp ha hb (nomark _)
theorem dt_ge (ha : DE X W a f) (hb : DE X W b g) : DT X W (.Compare a [.GtE] [b] pos) (tC2 opGe f g) := dt_cmp op_ge sim_cmp ha hb (nomark _)
end
end DL
namespace DL
open PySem L2
def Out.st {α : Type} (o : Out α) (ρ : Ev) (k : α → Sto → Option (Fl × Sto)) : Option (Fl × Sto) :=
  match o with
  | .ok a s => k a s
  | .err x s => some (.exc x ρ, s)
  | .bad => none
@[simp] theorem Out.st_ok {α : Type} (a : α) (s : Sto) (ρ : Ev) (k : α → Sto → Option (Fl × Sto)) : (Out.ok a s).st ρ k = k a s := rfl
@[simp] theorem Out.st_err {α : Type} (x : Exn) (s : Sto) (ρ : Ev) (k : α → Sto → Option (Fl × Sto)) : (Out.err x s : Out α).st ρ k = some (.exc x ρ, s) := rfl
@[simp] theorem Out.st_bad {α : Type} (ρ : Ev) (k : α → Sto → Option (Fl × Sto)) : (Out.bad : Out α).st ρ k = none := rfl
section
variable {K : PySem.W.Frag} {W : WX} {E : Ends} {H : Hp} {G : Gh} {S : Sto} {σ : St} {ρ : Ev}
theorem AftS.st {α : Type} {o : Out α} {k : α → Sto → Option (Fl × Sto)} (h : AftS K W E H G S (o.st ρ k)) (rs : RelS K H G ρ σ) (rp : Rep K H G S) : Aft K W σ H G S o fun a H1 G1 S1 => AftS K W E H1 G1 S1 (k a S1) := by
  cases o with
  | ok a S1 => exact fun H1 G1 x1 _ => AftS.ext (show AftS K W E H G S (k a S1) from h) x1
  | err x S1 => exact fun H1 G1 d x1 r1 e => h H1 G1 σ d x1 r1 (x1.relS rp rs) e
  | bad => exact h
theorem AftS.next {ρ' : Ev} {S' : Sto} (h : AftS K W E H G S (some (.next ρ', S'))) {H' : Hp} {G' : Gh} {σ' : St} (x : Ext H G S H' G' S') (r : Rep K H' G' S') (s : RelS K H' G' ρ' σ') : E.nx σ' H' := h H' G' σ' x r s
end
def sNext : FS := fun ρ S => some (.next ρ, S)
def sSeq (f g : FS) : FS := fun ρ S => match f ρ S with
  | some (.next ρ', S') => g ρ' S'
  | o => o
def sExpr (f : FE) : FS := fun ρ S => (f ρ S).st ρ fun _ S1 => some (.next ρ, S1)
def sRet (f : FE) : FS := fun ρ S => (f ρ S).st ρ fun d S1 => some (.ret d, S1)
def sSet (i : Nat) (f : FE) : FS := fun ρ S => (f ρ S).st ρ fun d S1 => some (.next (ρ.set i (some d)), S1)
def sIf (t : FT) (f g : FS) : FS := fun ρ S => (t ρ S).st ρ fun b S1 => if b = true then f ρ S1 else g ρ S1
section
variable {X : Cx} {W : WX} {e c : Expr} {st : Stmt} {sts as bs : List Stmt} {f : FE} {g h : FS} {t : FT} {pos : Pos}
theorem dss_nil : DSs X W [] sNext := ⟨PSs.imp pss_nil fun E σ H ⟨G, S, ρ, rs, rp, q⟩ => AftS.next q Ext.refl rp rs⟩
theorem AftS.seq {K : PySem.W.Frag} {E : Ends} {H : Hp} {G : Gh} {S : Sto} {ρ : Ev} (q : AftS K W E H G S (sSeq g h ρ S)) (rp : Rep K H G S) : AftS K W { E with nx := rdS K W h E } H G S (g ρ S) := by
  unfold sSeq at q
  cases eo : g ρ S with
  | none => rw [eo] at q; exact q
  | some p =>
    obtain ⟨fl, S1⟩ := p
    rw [eo] at q
    cases fl with
    | next ρ1 => exact fun H1 G1 σ1 x1 r1 s1 => ⟨G1, S1, ρ1, s1, r1, AftS.ext q x1⟩
    | ret d => exact q
    | brk ρ1 => exact q
    | cont ρ1 => exact q
    | exc x ρ1 => exact q
theorem dss_cons (h1 : DS X W st g) (h2 : DSs X W sts h) : DSs X W (st :: sts) (sSeq g h) :=
  ⟨PSs.imp (pss_cons h1.run h2.run) fun E σ H ⟨G, S, ρ, rs, rp, q⟩ => ⟨G, S, ρ, rs, rp, AftS.seq q rp⟩⟩
theorem dss_one (h1 : DS X W st g) : DSs X W [st] g := ⟨pss_one h1.run⟩
theorem ds_expr (he : DE X W e f) (hs : swapsWith e none pos.line X.env = pure false := by rfl) : DS X W (.Expr e pos) (sExpr f) :=
  ⟨PS.imp (ps_expr he.run hs) fun E σ H ⟨G, S, ρ, rs, rp, q⟩ => ⟨G, S, ρ, rs, rp, (AftS.st q rs rp).mono fun d H1 G1 S1 x1 r1 q1 v dv => AftS.next q1 Ext.refl r1 (x1.relS rp rs)⟩⟩
theorem ds_ret (he : DE X W e f) : DS X W (.Return (some e) pos) (sRet f) :=
  ⟨PS.imp (ps_ret he.run) fun E σ H ⟨G, S, ρ, rs, rp, q⟩ => ⟨G, S, ρ, rs, rp, (AftS.st q rs rp).mono fun d H1 G1 S1 x1 r1 q1 v dv => q1 H1 G1 v Ext.refl r1 dv⟩⟩
theorem ds_set {i : Nat} {x : Str} {pos' : Pos} (hN : X.N.Nodup) (hi : X.N[i]? = some x) (hx : Loc X.env.scope x) (he : DE X W e f) (hs : swapsWith e (some (.Name x pos')) pos.line X.env = pure false := by rfl)
    (hf : X.fn x = true ∨ X.env.scope.names.lookup x = some .local := by first | exact .inl rfl | exact .inr rfl | assumption) : DS X W (.Assign [.Name x pos'] e pos) (sSet i f) :=
  ⟨PS.imp (ps_set hN hi hx he.run hs hf) fun E σ H ⟨G, S, ρ, rs, rp, q⟩ => ⟨G, S, ρ, rs, rp, (AftS.st q rs rp).mono fun d H1 G1 S1 x1 r1 q1 v dv => AftS.next q1 Ext.refl r1 ((x1.relS rp rs).set dv i)⟩⟩
theorem ds_if (hc : DT X W c t) (ha : DSs X W as g) (hb : DSs X W bs h) : DS X W (.If c as bs pos) (sIf t g h) := by
  refine ⟨PS.imp (ps_if hc.run ha.run hb.run) fun E σ H ⟨G, S, ρ, rs, rp, q⟩ => ⟨G, S, ρ, rs, rp, (AftS.st q rs rp).mono fun b H1 G1 S1 x1 r1 q1 => ?_⟩⟩
  cases b with
  | true => exact ⟨G1, S1, ρ, x1.relS rp rs, r1, q1⟩
  | false => exact ⟨G1, S1, ρ, x1.relS rp rs, r1, q1⟩
def iceD (d : D) (S : Sto) : D × Sto := match d with
  | .ob j => match S[j]? with
    | some (.lst xs) => (.p (.list xs), S.set j .dead)
    | some (.dic kvs) => (.p (.dict (pyKv kvs)), S.set j .dead)
    | some (.ins nm fs) => (.p (insD nm fs), S.set j .dead)
    | _ => (d, S)
  | _ => (d, S)
theorem ice_den {K : PySem.W.Frag} {H : Hp} {G : Gh} {S : Sto} {d : D} {v : V} (rp : Rep K H G S) (dv : Den K H G d v) : (∃ G', Ext H G S H G' (iceD d S).2 ∧ Rep K H G' (iceD d S).2 ∧ Den K H G' (iceD d S).1 v) ∨ ∃ a ws, H a = some (.dK ws) ∧ ∀ od, ∃ G', Ext H G S (upd H a (.frz od (.dK ws))) G' (iceD d S).2 ∧ Rep K (upd H a (.frz od (.dK ws))) G' (iceD d S).2 ∧ Den K (upd H a (.frz od (.dK ws))) G' (iceD d S).1 v := by
  unfold iceD
  cases d with
  | p x => exact .inl ⟨G, Ext.refl, rp, dv⟩
  | ro x => exact .inl ⟨G, Ext.refl, rp, dv⟩
  | ext x => exact .inl ⟨G, Ext.refl, rp, dv⟩
  | ob j =>
    obtain ⟨a, rfl, ha⟩ := id dv
    cases e : S[j]? with
    | none => simp only [e]; exact .inl ⟨G, Ext.refl, rp, dv⟩
    | some m =>
      cases m with
      | dead => simp only [e]; exact .inl ⟨G, Ext.refl, rp, dv⟩
      | tab P q => simp only [e]; exact .inl ⟨G, Ext.refl, rp, dv⟩
      | lst xs =>
        simp only [e]
        obtain ⟨vs, e1, t⟩ := rp.ok j a _ ha e
        exact .inl ⟨⟨G.ι, (a, .lst vs) :: G.φ⟩, Ext.ice ha e (fun z => nomatch z), rp.ice ha e (fun z => nomatch z) e1, Dn.lst (fun _ q => q _ List.mem_cons_self) (t.mono (fun _ h => List.mem_cons_of_mem _ h) fun _ _ h => h)⟩
      | ins nm fs =>
        simp only [e]
        obtain ⟨C, dx, ws, c, pc, na, e1, e2, t⟩ := rp.ok j a _ ha e
        refine .inl ⟨⟨G.ι, (a, .ins C dx ws) :: G.φ⟩, Ext.ice ha e (fun z => nomatch z), rp.ice ha e (fun z => nomatch z) e1, Dn.ins (.pl List.mem_cons_self pc na) c ?_ ?_⟩
        · simpa [insF, List.map_map, Function.comp_def] using congrArg (List.map PyData.str) e2
        · have e3 : (insF fs).map (·.2) = fs.map (·.2) := by simp [insF]
          rw [e3]
          exact t.mono (fun _ h => List.mem_cons_of_mem _ h) fun _ _ h => h
      | dic kvs =>
        simp only [e]
        obtain ⟨ws, e1, e2, t⟩ := rp.ok j a _ ha e
        refine .inr ⟨a, ws, e1, fun od => ?_⟩
        have x1 := Ext.chg (o := .frz od (.dK ws)) (m' := .dic kvs) rp ha e (fun z => nomatch z)
        have xt : ∀ b vs, SqT K H b vs → SqT K (upd H a (.frz od (.dK ws))) b vs := fun b vs => x1.tup rp
        have hlt : j < S.length := (List.getElem?_eq_some_iff.mp e).1
        have r1 : Rep K (upd H a (.frz od (.dK ws))) G (S.set j .dead) := rp.chg ha e (fun z => nomatch z) (by show upd H a _ a ≠ none; rw [upd_same]; exact fun z => nomatch z)
        have x2 : Ext H G S (upd H a (.frz od (.dK ws))) ⟨G.ι, (a, .frz od (.dK ws)) :: G.φ⟩ (S.set j .dead) := by
          have y := Ext.chg (o := .frz od (.dK ws)) (m' := .dead) rp ha e (fun z => nomatch z)
          exact ⟨y.pre, fun _ h => List.mem_cons_of_mem _ h, y.frame, y.fresh, y.iot, fun q h => by
            rcases List.mem_cons.mp h with e' | h
            · rw [e']; exact .inr (.inr ⟨j, _, ha, e, fun z => nomatch z⟩)
            · exact .inl h⟩
        have nl : ¬ Live G (S.set j .dead) a := fun ⟨i, u, h1, h2, h3⟩ => by
          by_cases ei : j = i
          · subst ei
            rw [List.getElem?_set_self hlt] at h2
            cases h2
            exact h3 rfl
          · exact ei (Rep.chg.nodup_ix' rp.nd ha h1)
        refine ⟨⟨G.ι, (a, .frz od (.dK ws)) :: G.φ⟩, x2, ⟨r1.len, r1.nd, fun i b mo h1 h2 => OkO.ext (G := G) (fun _ h => List.mem_cons_of_mem _ h) (fun _ _ h => h) (fun _ h => h) (r1.ok i b mo h1 h2), fun q hq => ?_, fun q hq l => ?_⟩, Dn.dicOf ⟨od, fun _ q => q _ List.mem_cons_self⟩ e2 (t.mono (fun _ h => List.mem_cons_of_mem _ h) xt)⟩
        · rcases List.mem_cons.mp hq with e' | hq
          · subst e'; exact upd_same
          · exact r1.phi q hq
        · rcases List.mem_cons.mp hq with e' | hq
          · subst e'; exact nl l
          · exact r1.pnl q hq l
/-- an expression's value frozen -/
def eIce (f : FE) : FE := fun ρ S => (f ρ S).bind fun d S1 => .ok (iceD d S1).1 (iceD d S1).2
theorem de_ice (he : DE X W e f) : DE X W e (eIce f) := by
  refine ⟨PE.imp (PE.lk he.run) fun σ H Q ⟨G, S, ρ, rs, rp, q⟩ => ⟨G, S, ρ, rs, rp, (Aft.bind q).mono fun d H1 G1 S1 x1 r1 q1 v dv => ?_⟩⟩
  rcases ice_den r1 dv with ⟨G', x, r, dv'⟩ | ⟨a, ws, ha, h⟩
  · exact .inl (q1 H1 G' x r v dv')
  · refine .inr ⟨a, .dK ws, ha, trivial, fun od => ?_⟩
    obtain ⟨G', x, r, dv'⟩ := h od
    exact q1 _ G' x r v dv'
end
abbrev FG := D → Ev → Sto → Option (Ev × Sto)
abbrev FGs := List D → Ev → Sto → Option (Ev × Sto)
def AftG (K : PySem.W.Frag) (H : Hp) (G : Gh) (S : Sto) (o : Option (Ev × Sto)) (P : Ev → Hp → Gh → Sto → Prop) : Prop :=
  match o with
  | none => False
  | some (ρ', S') => ∀ H' G', Ext H G S H' G' S' → Rep K H' G' S' → P ρ' H' G' S'
def rdG (K : PySem.W.Frag) (vs : List Nat) (g : FG) : TG := fun v σ H Q => ∃ G S ρ d, RelS K H G ρ σ ∧ Rep K H G S ∧ Den K H G d v ∧ AftG K H G S (g d ρ S) fun ρ' H' G' _ => ∀ σ', RelS K H' G' ρ' σ' → wipe σ' vs = wipe σ vs → Q σ' H'
def rdGs (K : PySem.W.Frag) (vs : List Nat) (g : FGs) : TGs := fun us σ H Q => ∃ G S ρ ds, RelS K H G ρ σ ∧ Rep K H G S ∧ DenL K H G ds us ∧ AftG K H G S (g ds ρ S) fun ρ' H' G' _ => ∀ σ', RelS K H' G' ρ' σ' → wipe σ' vs = wipe σ vs → Q σ' H'
/-- the target stores in the places vs alone -/
structure DG (X : Cx) (vs : List Nat) (tg : Expr) (g : FG) : Prop where
  run : PG X tg (rdG X.K vs g)
structure DGs (X : Cx) (vs : List Nat) (tgs : List Expr) (g : FGs) : Prop where
  run : PGs X tgs (rdGs X.K vs g)
theorem PG.imp {X : Cx} {tg : Expr} {t t' : TG} (h : PG X tg t) (i : ∀ v σ H Q, t' v σ H Q → t v σ H Q) : PG X tg t' := ⟨fun pins s σ H v u Q I r q => h.run pins s σ H v u Q I r (i v σ H Q q)⟩
theorem PGs.imp {X : Cx} {tg : List Expr} {t t' : TGs} (h : PGs X tg t) (i : ∀ v σ H Q, t' v σ H Q → t v σ H Q) : PGs X tg t' := ⟨fun pins s σ H v u Q I r q => h.run pins s σ H v u Q I r (i v σ H Q q)⟩
theorem wipe_set (σ : St) (i : Nat) (x : Option V) : ∀ vs : List Nat, i ∈ vs → wipe (σ.set i x) vs = wipe σ vs
  | [], h => by cases h
  | v :: vs, h => by
    show (wipe (σ.set i x) vs).set v none = (wipe σ vs).set v none
    by_cases hv : i ∈ vs
    · rw [wipe_set σ i x vs hv]
    · have e : i = v := by rcases List.mem_cons.mp h with e | e; exact e; exact absurd e hv
      subst e
      have : ∀ (l : List Nat), i ∉ l → wipe (σ.set i x) l = (wipe σ l).set i x := by
        intro l
        induction l with
        | nil => intro _; rfl
        | cons a l ih =>
          intro hl
          show (wipe (σ.set i x) l).set a none = ((wipe σ l).set a none).set i x
          rw [ih (fun z => hl (List.mem_cons_of_mem _ z)), List.set_comm _ _ (fun z => hl (by rw [z]; exact List.mem_cons_self))]
      rw [this vs hv, List.set_set]
theorem wipe_wipe (σ : St) (vs : List Nat) : wipe (wipe σ vs) vs = wipe σ vs := by
  have : ∀ (l vs : List Nat), (∀ a ∈ l, a ∈ vs) → wipe (wipe σ l) vs = wipe σ vs := by
    intro l
    induction l with
    | nil => intro vs _; rfl
    | cons a l ih =>
      intro vs h
      show wipe ((wipe σ l).set a none) vs = wipe σ vs
      rw [wipe_set _ a none vs (h a List.mem_cons_self)]
      exact ih vs fun b hb => h b (List.mem_cons_of_mem _ hb)
  exact this vs vs fun _ h => h
def gN (i : Nat) : FG := fun d ρ S => some (ρ.set i (some d), S)
def gNils : FGs := fun ds ρ S => match ds with
  | [] => some (ρ, S)
  | _ => none
def gConss (g : FG) (h : FGs) : FGs := fun ds ρ S => match ds with
  | d :: r => match g d ρ S with
    | some (ρ1, S1) => h r ρ1 S1
    | none => none
  | [] => none
/-- a tuple (list) of n things is taken apart -/
def gTupD (n : Nat) (h : FGs) : FG := fun d ρ S => match d with
  | .p (.tuple xs) => if xs.length = n then h (xs.map .p) ρ S else none
  | _ => none
theorem DnAll.denL {K : PySem.W.Frag} {G : Gh} {H : Hp} : ∀ {ds : List PyData} {vs : List V}, DnAll K G.φ H ds vs → DenL K H G (ds.map .p) vs
  | _, _, .nil => .nil
  | _, _, .cons h t => .cons h t.denL
theorem AftG.ext {K : PySem.W.Frag} {H H1 : Hp} {G G1 : Gh} {S S1 : Sto} {o : Option (Ev × Sto)} {P : Ev → Hp → Gh → Sto → Prop} (h : AftG K H G S o P) (x : Ext H G S H1 G1 S1) : AftG K H1 G1 S1 o P := by
  match o with
  | none => exact h
  | some (ρ', S') => exact fun H' G' x' => h H' G' (x.trans x')
theorem AftG.mono {K : PySem.W.Frag} {H : Hp} {G : Gh} {S : Sto} {o : Option (Ev × Sto)} {P P' : Ev → Hp → Gh → Sto → Prop} (h : AftG K H G S o P) (f : ∀ ρ' H' G' S', Ext H G S H' G' S' → Rep K H' G' S' → P ρ' H' G' S' → P' ρ' H' G' S') : AftG K H G S o P' := by
  match o with
  | none => exact h
  | some (ρ', S') => exact fun H' G' x' r => f ρ' H' G' S' x' r (h H' G' x' r)
/-- o[i] = v of a list, of a dict -/
def setD : D → D → D → Sto → Option Sto := fun o i v S => match o, v with
  | .ob j, .p d => match S[j]?, i with
    | some (.lst xs), .p (.int k) => match ixN xs.length k with
      | some n => some (S.set j (.lst (xs.set n d)))
      | none => none
    | some (.dic kvs), .p k => match pyKey k with
      | some k' => if kvs.length < LIM then some (S.set j (.dic (putD kvs k' d))) else none
      | none => none
    | _, _ => none
  | _, _ => none
def gSubD (f h : FE) : FG := fun d ρ S => match f ρ S with
  | .ok o S1 => match h ρ S1 with
    | .ok i S2 => match setD o i d S2 with
      | some S3 => some (ρ, S3)
      | none => none
    | _ => none
  | _ => none
def rSetD : V → V → V → Hp → (Hp → Prop) → Prop := fun o i v H Q => rSetL o i v H Q ∨ ∃ a H', o = .ref a ∧ DPut H a i v H' ∧ Q H'
section
variable {X : Cx} {W : WX} {e : Expr} {es : List Expr} {f : FE} {g : FG} {h : FGs} {pos : Pos} {vs : List Nat}
theorem dg_name {i : Nat} {x : Str} (hN : X.N.Nodup) (hi : X.N[i]? = some x) (hx : Loc X.env.scope x) (hv : i ∈ vs) (hf : X.fn x = true ∨ X.env.scope.names.lookup x = some .local := by first | exact .inl rfl | exact .inr rfl | assumption) : DG X vs (.Name x pos) (gN i) :=
  ⟨PG.imp (pg_name hN hi hx hf) fun v σ H Q ⟨G, S, ρ, d, rs, rp, dv, q⟩ => q H G Ext.refl rp _ (rs.set dv i) (wipe_set σ i _ vs hv)⟩
theorem dgs_nil : DGs X vs [] gNils := by
  refine ⟨PGs.imp pgs_nil fun us σ H Q ⟨G, S, ρ, ds, rs, rp, dv, q⟩ => ?_⟩
  cases dv with
  | nil => exact ⟨rfl, q H G Ext.refl rp σ rs rfl⟩
  | cons _ _ => exact q.elim
theorem dgs_cons (h1 : DG X vs e g) (h2 : DGs X vs es h) (hs : (assignEach (e :: es) X.env).map (·.2) = assign e X.env :: (assignEach es X.env).map (·.2) := by rfl) : DGs X vs (e :: es) (gConss g h) := by
  refine ⟨PGs.imp (pgs_cons h1.run h2.run hs) fun us σ H Q ⟨G, S, ρ, ds, rs, rp, dv, q⟩ => ?_⟩
  cases dv with
  | nil => exact q.elim
  | cons d1 d2 =>
    rename_i d ds v us _x
    refine ⟨_, _, rfl, G, S, ρ, d, rs, rp, d1, ?_⟩
    have q : AftG X.K H G S (match g d ρ S with | some (ρ1, S1) => h ds ρ1 S1 | none => none) _ := q
    cases eg : g d ρ S with
    | none => rw [eg] at q; exact q
    | some p =>
      obtain ⟨ρ1, S1⟩ := p
      rw [eg] at q
      exact fun H1 G1 x1 r1 σ1 rs1 w1 => ⟨G1, S1, ρ1, ds, rs1, r1, x1.denL rp d2, (q.ext x1).mono fun ρ2 H2 G2 S2 x2 r2 q2 σ2 rs2 w2 => q2 σ2 rs2 (w2.trans w1)⟩
theorem dg_tup {n k : Nat} (hc : X.calm = true) (hg : DGs X vs es h) (hn : (assignEach es X.env).length = n := by rfl) (hst : (assignEach es X.env).findIdx? (·.1) = none := by rfl) : DG X vs (.Tuple es k pos) (gTupD n h) := by
  refine ⟨PG.imp (pg_tup hc hg.run hn hst) fun v σ H Q ⟨G, S, ρ, d, rs, rp, dv, q⟩ => ?_⟩
  unfold gTupD at q
  split at q
  · rename_i xs
    by_cases hl : xs.length = n
    · rw [if_pos hl] at q
      obtain ⟨a, us, rfl, hq, t⟩ := den_tup dv
      exact ⟨a, us, rfl, hq, by rw [← t.length]; exact hl, G, S, ρ, _, rs, rp, t.denL, q⟩
    · rw [if_neg hl] at q; exact q.elim
  · exact q.elim
theorem set_D (hu : X.A.units + 1 < cLine) : PSet X rSetD := by
  intro pins s σ H o i v ov iv u Q I ro ri rv q
  rcases q with q | ⟨a, H', rfl, g, q⟩
  · exact set_list pins s σ H o i v ov iv u Q I ro ri rv q
  · cases ro
    exact d_setItem hu I g ri rv fun s' I' => ⟨H', I', q⟩
theorem setD_den {K : PySem.W.Frag} {H : Hp} {G : Gh} {S S' : Sto} {o i d : D} {ov iv v : V} (rp : Rep K H G S) (e : setD o i d S = some S') (ho : Den K H G o ov) (hi : Den K H G i iv) (hd : Den K H G d v) {Q : Hp → Prop}
    (q : ∀ H', Ext H G S H' G S' → Rep K H' G S' → Q H') : rSetD ov iv v H Q := by
  unfold setD at e
  split at e
  · rename_i j x
    obtain ⟨a, rfl, ha⟩ := ho
    split at e
    · rename_i xs k em
      obtain rfl := den_int hi
      obtain ⟨us, e1, t⟩ := rp.ok j a _ ha em
      split at e
      · rename_i n en
        cases e
        refine .inl ⟨a, us, k, n, rfl, rfl, e1, by rw [← t.length]; exact en, ?_⟩
        have x := Ext.chg (o := .lst (us.set n v)) (m' := .lst (xs.set n x)) rp ha em (fun z => nomatch z)
        exact q _ x (rp.chg ha em (fun z => nomatch z) ⟨_, upd_same, x.dnAll rp (t.set hd n)⟩)
      · cases e
    · rename_i kvs k em
      obtain ⟨ws, e1, e2, t⟩ := rp.ok j a _ ha em
      have r : KvR K G.φ H kvs ws := ⟨e2, t⟩
      split at e
      · rename_i k' ek
        by_cases hl : kvs.length < LIM
        · rw [if_pos hl] at e
          cases e
          have ea := keyPy_of ek
          subst ea
          have ev : iv = kV k' := by
            cases k' with
            | inl i => exact den_int hi
            | inr z => exact den_str hi
          subst ev
          refine .inr ⟨a, _, rfl, DPut.k e1 (by rw [← r.length]; exact Nat.lt_trans hl LIM_lt), ?_⟩
          have rr := r.put (k := k') hd
          have x := Ext.chg (o := .dK (putK ws k' v)) (m' := .dic (putD kvs k' x)) rp ha em (fun z => nomatch z)
          exact q _ x (rp.chg ha em (fun z => nomatch z) ⟨_, upd_same, rr.ks, x.dnAll rp rr.vs⟩)
        · rw [if_neg hl] at e; cases e
      · cases e
    · cases e
  · cases e
theorem Aft.of_ok {α : Type} {K : PySem.W.Frag} {σ : St} {H : Hp} {G : Gh} {S : Sto} {o : Out α} {a : α} {S' : Sto} {P : α → Hp → Gh → Sto → Prop} (e : o = .ok a S') (h : ∀ H' G', Ext H G S H' G' S' → Rep K H' G' S' → P a H' G' S') : Aft K W σ H G S o P := by
  rw [e]; exact h
theorem dg_sub {o i : Expr} {fo fi : FE} (hu : X.A.units + 1 < cLine) (ho : DE X W o fo) (hi : DE X W i fi) (ha : ∀ v, assign (.Subscript o i pos) X.env v = (do
      let ov ← holding [v] (eval o X.env)
      let iv ← holding [v, ov] (eval i X.env)
      standAt pos
      holding [v, ov, iv] (setItem ov iv v)
      release [v, ov, iv] []) := by intro _; rfl) : DG X vs (.Subscript o i pos) (gSubD fo fi) := by
  refine ⟨PG.imp (pg_sub ho.run hi.run (set_D hu) ha) fun v σ H Q ⟨G, S, ρ, d, rs, rp, dv, q⟩ => ?_⟩
  unfold gSubD at q
  split at q
  · rename_i od S1 e1
    split at q
    · rename_i id S2 e2
      split at q
      · rename_i S3 e3
        refine ⟨G, S, ρ, rs, rp, Aft.of_ok e1 fun H1 G1 x1 r1 ov dov => ?_⟩
        refine ⟨G1, S1, ρ, x1.relS rp rs, r1, Aft.of_ok e2 fun H2 G2 x2 r2 iv div => ?_⟩
        refine setD_den r2 e3 (x2.den r1 dov) div ((x1.trans x2).den rp dv) fun H3 x3 r3 => ?_
        exact q H3 G2 ((x1.trans x2).trans x3) r3 σ (((x1.trans x2).trans x3).relS rp rs) rfl
      · exact q.elim
    · exact q.elim
  · exact q.elim
end
def sAsg (f : FE) (g : FG) : FS := fun ρ S => (f ρ S).st ρ fun d S1 => match g d ρ S1 with
  | some (ρ', S2) => some (.next ρ', S2)
  | none => none
def sAsgs (f : FA) (g : FGs) : FS := fun ρ S => (f ρ S).st ρ fun ds S1 => match g ds ρ S1 with
  | some (ρ', S2) => some (.next ρ', S2)
  | none => none
section
variable {X : Cx} {W : WX} {e tg : Expr} {es ts : List Expr} {f : FE} {fa : FA} {g : FG} {h : FGs} {pos : Pos} {vs : List Nat}
theorem AftS.tgt {K : PySem.W.Frag} {E : Ends} {H : Hp} {G : Gh} {S : Sto} {σ : St} {o : Option (Ev × Sto)} (q : AftS K W E H G S (match o with | some (ρ', S2) => some (.next ρ', S2) | none => none)) :
    AftG K H G S o fun ρ' H' G' _ => ∀ σ', RelS K H' G' ρ' σ' → wipe σ' vs = wipe σ vs → E.nx σ' H' := by
  match o with
  | none => exact q
  | some (ρ', S') => exact fun H' G' x r σ' rs _ => AftS.next q x r rs
theorem ds_asg (he : DE X W e f) (hg : DG X vs tg g) (hs : swapsWithSole [tg] e pos.line X.env = pure false := by rfl) (hw : swappedStores [tg] e X.env = pure none := by rfl)
    (h1 : (assignEach [tg] X.env).map (·.2) = [assign tg X.env] := by rfl) : DS X W (.Assign [tg] e pos) (sAsg f g) := by
  refine ⟨PS.imp (ps_asg he.run hg.run hs hw h1) fun E σ H ⟨G, S, ρ, rs, rp, q⟩ => ⟨G, S, ρ, rs, rp, (AftS.st q rs rp).mono fun d H1 G1 S1 x1 r1 q1 v dv => ?_⟩⟩
  exact ⟨G1, S1, ρ, d, x1.relS rp rs, r1, dv, AftS.tgt q1⟩
/-- (a, b, ..) = (x, y, ..), by a tuple that is taken apart at once -/
theorem ds_asgTT {n k k' : Nat} {p1 p2 : Pos} (hc : X.calm = true) (ha : DA X W es fa) (hg : DGs X vs ts h) (hl : ts.length = es.length := by rfl) (hn : (assignEach ts X.env).length = n := by rfl) (hst : (assignEach ts X.env).findIdx? (·.1) = none := by rfl)
    (hd : ∀ (ds : List D) ρ S ρ' S', h ds ρ S = some (ρ', S') → ds.length = n) (h100 : n ≤ 100 := by decide)
    (hs : swapsWithSole [.Tuple ts k p1] (.Tuple es k' p2) pos.line X.env = pure false := by rfl) (hw : swappedStores [.Tuple ts k p1] (.Tuple es k' p2) X.env = pure none := by rfl)
    (h1 : (assignEach [.Tuple ts k p1] X.env).map (·.2) = [assign (.Tuple ts k p1) X.env] := by rfl) : DS X W (.Assign [.Tuple ts k p1] (.Tuple es k' p2) pos) (sAsgs fa h) := by
  refine ⟨PS.imp (ps_asg (pe_tup ha.run) (pg_tup hc hg.run hn hst) hs hw h1) fun E σ H ⟨G, S, ρ, rs, rp, q⟩ => ⟨G, S, ρ, rs, rp, (AftS.st q rs rp).mono fun ds H1 G1 S1 x1 r1 q1 us dv => ?_⟩⟩
  cases eo : h ds ρ S1 with
  | none => rw [eo] at q1; exact q1.elim
  | some p =>
    obtain ⟨ρ', S2⟩ := p
    have hlen := hd ds ρ S1 ρ' S2 eo
    have hul : us.length = n := by rw [← dv.length]; exact hlen
    refine ⟨by rw [hul]; exact Nat.le_trans h100 (Nat.le_trans (by decide) LIM_le), fun p hp => ⟨p, us, rfl, SqT.of upd_same, hul, ?_⟩⟩
    have x2 := Ext.other (o := .tup us) r1 hp
    have r2 := Rep.other (o := .tup us) r1 hp
    refine ⟨G1, S1, ρ, ds, x2.relS r1 (x1.relS rp rs), r2, x2.denL r1 dv, ?_⟩
    exact (AftS.tgt q1).ext x2
end
end DL
namespace DL
open PySem L2
def W0 : WX := fun _ _ _ _ => False
/-- no exception may come out of it -/
def noErr {α : Type} : Out α → Out α
  | .ok a s => .ok a s
  | _ => .bad
@[simp] theorem noErr_ok {α : Type} (a : α) (s : Sto) : noErr (.ok a s) = .ok a s := rfl
section
variable {X : Cx} {W : WX} {a b : Expr} {fa : FA} {pos : Pos}
theorem lenNil : ∀ (ds : List D) ρ S ρ' S', gNils ds ρ S = some (ρ', S') → ds.length = 0 := by
  intro ds ρ S ρ' S' h
  cases ds with
  | nil => rfl
  | cons _ _ => cases h
theorem lenCons {g : FG} {h : FGs} {n : Nat} (i : ∀ (ds : List D) ρ S ρ' S', h ds ρ S = some (ρ', S') → ds.length = n) : ∀ (ds : List D) ρ S ρ' S', gConss g h ds ρ S = some (ρ', S') → ds.length = n + 1 := by
  intro ds ρ S ρ' S' q
  cases ds with
  | nil => cases q
  | cons d r =>
    simp only [gConss] at q
    split at q
    · rename_i ρ1 S1 e
      rw [List.length_cons, i r ρ1 S1 ρ' S' q]
    · cases q
theorem ds_par {i j : Nat} {x y : Str} {px py pt : Pos} {kt k2 pt2} (hc : X.calm = true) (hN : X.N.Nodup) (hi : X.N[i]? = some x) (hj : X.N[j]? = some y) (hij : i ≠ j)
    (hx : X.env.scope.names.lookup x = some .local) (hy : X.env.scope.names.lookup y = some .local) (ha : DA X W [a, b] fa)
    (hw : swappedStores [.Tuple [.Name x px, .Name y py] kt pt] (.Tuple [a, b] k2 pt2) X.env = pure (some [x, y]) := by rfl)
    (hs : swapsWithSole [.Tuple [.Name x px, .Name y py] kt pt] (.Tuple [a, b] k2 pt2) pos.line X.env = pure false := by rfl) :
    DS X W (.Assign [.Tuple [.Name x px, .Name y py] kt pt] (.Tuple [a, b] k2 pt2) pos) (sAsgs fa (gConss (gN i) (gConss (gN j) gNils))) := by
  refine ⟨PS.imp (ps_par hc hN hi hj hij hx hy ha.run hw hs) fun E σ H ⟨G, S, ρ, rs, rp, q⟩ => ⟨G, S, ρ, rs, rp, (AftS.st q rs rp).mono fun ds H1 G1 S1 x1 r1 q1 us dv => ?_⟩⟩
  cases dv with
  | nil => exact q1.elim
  | cons d1 t1 =>
    cases t1 with
    | nil => exact q1.elim
    | cons d2 t2 =>
      cases t2 with
      | nil => exact ⟨_, _, rfl, AftS.next q1 Ext.refl r1 (((x1.relS rp rs).set d1 i).set d2 j)⟩
      | cons _ _ => exact q1.elim
end
structure Gives (K : PySem.W.Frag) (J : It) (H0 : Hp) (G0 : Gh) (S0 : Sto) (ds : List D) : Prop where
  go : ∀ (H : Hp) (G : Gh) (S : Sto), Ext H0 G0 S0 H G S → Rep K H G S → ∀ (i : Nat), i < ds.length → J.go i H
  yld : ∀ (H : Hp) (G : Gh) (S : Sto), Ext H0 G0 S0 H G S → Rep K H G S → ∀ (i : Nat) (d : D), ds[i]? = some d → ∀ x H', J.yld i H x H' → Ext H G S H' G S ∧ Rep K H' G S ∧ Den K H' G d x ∧ (H' = H ∨ ∃ T o, H T = none ∧ H' = upd H T o)
  stop : ∀ (H : Hp) (G : Gh) (S : Sto), Ext H0 G0 S0 H G S → Rep K H G S → J.stop ds.length H
abbrev FI := Ev → M (List D)
def rdI (K : PySem.W.Frag) (W : WX) (f : FI) : TI := fun σ H R => ∃ G S ρ, RelS K H G ρ σ ∧ Rep K H G S ∧ Aft K W σ H G S (f ρ S) fun ds H' G' S' => ∀ J, Gives K J H' G' S' ds → R J H'
structure DI (X : Cx) (W : WX) (tg iter : Expr) (f : FI) : Prop where
  run : PI X tg iter (rdI X.K W f)
theorem PI.imp {X : Cx} {tg iter : Expr} {t t' : TI} (h : PI X tg iter t) (i : ∀ σ H R, t' σ H R → t σ H R) : PI X tg iter t' := ⟨fun pins s σ H R I q => h.run pins s σ H R I (i σ H R q)⟩
/-- a list that stays, a tuple -/
theorem gives_list {K : PySem.W.Frag} {H : Hp} {G : Gh} {S : Sto} {a : Addr} {vs : List V} {xs : List PyData} (rp : Rep K H G S) (f : RL K G.φ a vs) (t : DnAll K G.φ H xs vs) : Gives K (Itl K a) H G S (xs.map .p) where
  go := fun H1 G1 S1 x r i hi => by
    rw [List.length_map, t.length] at hi
    exact ⟨vs, vs[i], (f.mono x.phi) H1 r.phi, by simp [hi]⟩
  yld := fun H1 G1 S1 x r i d e v H' y => by
    obtain ⟨e1, y⟩ := y
    subst e1
    have e2 := y vs ((f.mono x.phi) _ r.phi)
    obtain ⟨d', ed, dn⟩ := (x.dnAll rp t).getV e2
    rw [List.getElem?_map, ed] at e
    cases e
    exact ⟨Ext.refl, r, dn, .inl rfl⟩
  stop := fun H1 G1 S1 x r => by
    rw [List.length_map, t.length]
    exact ⟨vs, (f.mono x.phi) H1 r.phi, Nat.le_refl _⟩
theorem gives_tup {K : PySem.W.Frag} {H : Hp} {G : Gh} {S : Sto} {a : Addr} {vs : List V} {xs : List PyData} (rp : Rep K H G S) (f : SqT K H a vs) (t : DnAll K G.φ H xs vs) : Gives K (Itt K a) H G S (xs.map .p) where
  go := fun H1 G1 S1 x r i hi => by
    rw [List.length_map, t.length] at hi
    exact ⟨vs, vs[i], x.tup rp f, by simp [hi]⟩
  yld := fun H1 G1 S1 x r i d e v H' y => by
    obtain ⟨e1, y⟩ := y
    subst e1
    have e2 := y vs (x.tup rp f)
    obtain ⟨d', ed, dn⟩ := (x.dnAll rp t).getV e2
    rw [List.getElem?_map, ed] at e
    cases e
    exact ⟨Ext.refl, r, dn, .inl rfl⟩
  stop := fun H1 G1 S1 x r => by
    rw [List.length_map, t.length]
    exact ⟨vs, x.tup rp f, Nat.le_refl _⟩
theorem gives_range {K : PySem.W.Frag} {H : Hp} {G : Gh} {S : Sto} {lo : Int} {n : Nat} : Gives K (Itr lo n) H G S ((List.range n).map fun i : Nat => D.p (.int (lo + (i : Int)))) where
  go := fun H1 G1 S1 x r i hi => by simpa [Itr] using hi
  yld := fun H1 G1 S1 x r i d e v H' y => by
    obtain ⟨e1, e2⟩ := y
    subst e1 e2
    rw [List.getElem?_map] at e
    by_cases hi : i < n
    · rw [List.getElem?_range hi] at e
      cases e
      exact ⟨Ext.refl, r, .int _, .inl rfl⟩
    · rw [List.getElem?_eq_none (by simpa using hi)] at e; cases e
  stop := fun H1 G1 S1 x r => by simp [Itr]
theorem gives_str {K : PySem.W.Frag} {H : Hp} {G : Gh} {S : Sto} {z : Str} : Gives K (Its z) H G S (z.cps.toList.map fun c => D.p (.str ⟨#[c]⟩)) where
  go := fun H1 G1 S1 x r i hi => by simpa [Its] using hi
  yld := fun H1 G1 S1 x r i d e v H' y => by
    obtain ⟨e1, c, e2, e3⟩ := y
    subst e1 e3
    rw [List.getElem?_map, Array.getElem?_toList, e2] at e
    cases e
    exact ⟨Ext.refl, r, .str _, .inl rfl⟩
  stop := fun H1 G1 S1 x r => by simp [Its]
/-- x in (a list, a tuple, a text) -/
def itM : D → M (List D) := fun d S => match d with
  | .p (.list xs) => .ok (xs.map .p) S
  | .ro xs => .ok (xs.map .p) S
  | .p (.tuple xs) => .ok (xs.map .p) S
  | .p (.str z) => .ok (z.cps.toList.map fun c => D.p (.str ⟨#[c]⟩)) S
  | _ => .bad
def iSeq (f : FE) : FI := fun ρ S => (f ρ S).bind itM
def rangeM : List D → M (List D) := fun ds S => match ds with
  | [.p (.int j)] => if -1000000 ≤ j ∧ j ≤ 1000000 then .ok ((List.range j.toNat).map fun i : Nat => D.p (.int (0 + (i : Int)))) S else .bad
  | _ => .bad
def iRange (f : FA) : FI := fun ρ S => (f ρ S).bind rangeM
section
variable {X : Cx} {W : WX} {l tg : Expr} {f : FE} {pos : Pos}
/-- whatever is walked: a list, a tuple, a text -/
theorem pi_any {t : TE} (hl : PE X l t) : PI X tg l (fun σ H R => t σ H fun x H1 => (∃ a, x = .ref a ∧ (∃ xs, SqL X.K H1 a xs) ∧ R (Itl X.K a) H1) ∨ (∃ a, x = .ref a ∧ (∃ xs, SqT X.K H1 a xs) ∧ R (Itt X.K a) H1) ∨ ∃ z, x = .str z ∧ R (Its z) H1) := by
  refine ⟨fun pins s σ H R I h => ?_⟩
  refine thn (hl.run pins s σ H _ I h) fun v s1 ⟨x, H1, I1, r1, q1⟩ => ?_
  rcases q1 with ⟨a, rfl, ⟨xs, hq⟩, q⟩ | ⟨a, rfl, ⟨xs, hq⟩, q⟩ | ⟨z, rfl, q⟩
  · cases r1
    obtain ⟨its, rv, p, hz⟩ := I1.list hq
    refine wpAny_pyIter_list p.isList ⟨s1.heap.objs.size, [s1.heap.objs.size], _, _, H1, rfl, I1.kept (t' := s1.toks) fun b o e => Heap.get?_push_of_some _ e, turn_list a _, ⟨_, Heap.get?_push_size _ rfl, rfl, rfl⟩, fun b hb => ?_, q⟩
    obtain rfl : b = s1.heap.objs.size := by simpa using hb
    exact I1.fpOk (Nat.le_refl _) (I1.hok.fresh (Nat.le_refl _))
  · cases r1
    obtain ⟨its, rv, p, hz⟩ := I1.tuple hq
    refine wpAny_pyIter_tuple (show s1.heap.IsTuple a its.toArray from p) ⟨s1.heap.objs.size, [s1.heap.objs.size], _, _, H1, rfl, I1.kept (t' := s1.toks) fun b o e => Heap.get?_push_of_some _ e, turn_tuple a _, ⟨_, Heap.get?_push_size _ rfl, rfl, rfl⟩, fun b hb => ?_, q⟩
    obtain rfl : b = s1.heap.objs.size := by simpa using hb
    exact I1.fpOk (Nat.le_refl _) (I1.hok.fresh (Nat.le_refl _))
  · obtain ⟨t, rfl⟩ := r1
    cases ha : z.cps.all (· < 128)
    · exact wpAny_pyIter_wide ha (pi_one (tk := s1.toks) I1 _ (turn_str _ z t "str_iterator" (.inr rfl)) ⟨_, Heap.get?_push_size _ rfl, rfl, rfl⟩ q)
    · exact wpAny_pyIter_ascii ha (pi_one (tk := s1.toks) I1 _ (turn_str _ z t "str_ascii_iterator" (.inl rfl)) ⟨_, Heap.get?_push_size _ rfl, rfl, rfl⟩ q)
theorem di_seq (he : DE X W l f) : DI X W tg l (iSeq f) := by
  refine ⟨PI.imp (pi_any he.run) fun σ H R ⟨G, S, ρ, rs, rp, q⟩ => ⟨G, S, ρ, rs, rp, (Aft.bind q).mono fun d H1 G1 S1 x1 r1 q1 v dv => ?_⟩⟩
  unfold itM at q1
  split at q1
  · obtain ⟨a, vs, rfl, fl, t⟩ := den_lst dv
    exact .inl ⟨a, rfl, ⟨vs, SqL.of (fl H1 r1.phi)⟩, q1 H1 G1 Ext.refl r1 _ (gives_list r1 (fun H' h' => SqL.of (fl H' h')) t)⟩
  · obtain ⟨a, vs, rfl, fl, t⟩ := dv
    exact .inl ⟨a, rfl, ⟨vs, fl H1 r1.phi⟩, q1 H1 G1 Ext.refl r1 _ (gives_list r1 fl t)⟩
  · obtain ⟨a, vs, rfl, fl, t⟩ := den_tup dv
    exact .inr (.inl ⟨a, rfl, ⟨vs, fl⟩, q1 H1 G1 Ext.refl r1 _ (gives_tup r1 fl t)⟩)
  · rename_i z
    obtain rfl := den_str dv
    exact .inr (.inr ⟨z, rfl, q1 H1 G1 Ext.refl r1 _ gives_str⟩)
  · exact q1.elim
end
section
variable {X : Cx} {W : WX} {a tg : Expr} {f : FE} {p pos : Pos}
theorem di_range {fa : FA} (hg : Gl X "range") (hm : X.mg "range" = none) (ha : DA X W [a] fa) (hs : starEach [a] X.env = [(false, eval a X.env)] := by rfl) : DI X W tg (.Call (.Name "range" p) [a] [] pos) (iRange fa) := by
  refine ⟨PI.imp (pi_range1 hg hm ha.run hs) fun σ H R ⟨G, S, ρ, rs, rp, q⟩ => ⟨G, S, ρ, rs, rp, (Aft.bind q).mono fun ds H1 G1 S1 x1 r1 q1 vs dv => ?_⟩⟩
  unfold rangeM at q1
  split at q1
  · rename_i j
    cases dv with
    | cons dv t =>
      cases t
      obtain rfl := den_int dv
      by_cases hj : -1000000 ≤ j ∧ j ≤ 1000000
      · rw [if_pos hj] at q1
        exact ⟨j, rfl, by omega, by omega, q1 H1 G1 Ext.refl r1 _ gives_range⟩
      · rw [if_neg hj] at q1; exact q1.elim
  · exact q1.elim
def zipP : List PyData → List PyData → List D
  | x :: xs, y :: ys => .p (.tuple [x, y]) :: zipP xs ys
  | _, _ => []
theorem zipP_len : ∀ (xs ys : List PyData), (zipP xs ys).length = min xs.length ys.length
  | [], _ => by simp [zipP]
  | _ :: _, [] => by simp [zipP]
  | x :: xs, y :: ys => by simp only [zipP, List.length_cons, zipP_len xs ys]; omega
theorem zipP_get : ∀ (xs ys : List PyData) (i : Nat) (d : D), (zipP xs ys)[i]? = some d → ∃ x y, xs[i]? = some x ∧ ys[i]? = some y ∧ d = .p (.tuple [x, y])
  | [], _, i, d, h => by simp [zipP] at h
  | _ :: _, [], i, d, h => by simp [zipP] at h
  | x :: xs, y :: ys, 0, d, h => by simp [zipP] at h; exact ⟨x, y, rfl, rfl, h.symm⟩
  | x :: xs, y :: ys, i + 1, d, h => by
    obtain ⟨x', y', h1, h2, h3⟩ := zipP_get xs ys i d (by simpa [zipP] using h)
    exact ⟨x', y', by simpa using h1, by simpa using h2, h3⟩
def enumP (n : Nat) : List PyData → List D
  | x :: xs => .p (.tuple [.int (n : Nat), x]) :: enumP (n + 1) xs
  | [] => []
def iA (g : List D → M (List D)) (fa : FA) : FI := fun ρ S => (fa ρ S).bind g
theorem pair_new {K : PySem.W.Frag} {H : Hp} {G : Gh} {S : Sto} {T : Addr} {x y : PyData} {v w : V} (r : Rep K H G S) (hT : H T = none) (h1 : Dn K G.φ H x v) (h2 : Dn K G.φ H y w) : Ext H G S (upd H T (.tup [v, w])) G S ∧ Rep K (upd H T (.tup [v, w])) G S ∧ Den K (upd H T (.tup [v, w])) G (.p (.tuple [x, y])) (.ref T) := by
  have e := Ext.other (o := .tup [v, w]) r hT
  exact ⟨e, Rep.other r hT, Dn.tup (SqT.of upd_same) (.cons (e.dn r h1) (.cons (e.dn r h2) .nil))⟩
end
def forD (g : FG) (b : FS) : List D → FS
  | [] => fun ρ S => some (.next ρ, S)
  | d :: r => fun ρ S => match g d ρ S with
    | none => none
    | some (ρ1, S1) => match b ρ1 S1 with
      | some (.next ρ2, S2) => forD g b r ρ2 S2
      | some (.cont ρ2, S2) => forD g b r ρ2 S2
      | some (.brk ρ2, S2) => some (.next ρ2, S2)
      | o => o
def sFor (f : FI) (g : FG) (b : FS) : FS := fun ρ S => (f ρ S).st ρ fun ds S1 => forD g b ds ρ S1
section
variable {X : Cx} {W : WX} {tg iter : Expr} {body : List Stmt} {f : FI} {g : FG} {b : FS} {pos : Pos} {vs : List Nat}
theorem ds_for (hp : PassesOwn (model X.prog X.w) X.A X.env X.xe) (hc : X.calm = true) (hi : DI X W tg iter f) (hg : DG X vs tg g) (hb : DSs X W body b) (hs : ∀ x, foldedSetIterable iter X.env x = pure x := by intro _; rfl) : DS X W (.For tg iter body [] pos) (sFor f g b) := by
  refine ⟨PS.imp (ps_for hp hc hi.run hg.run hb.run hs) fun E σ H ⟨G, S, ρ, rs, rp, q⟩ => ⟨G, S, ρ, rs, rp, (AftS.st q rs rp).mono fun ds H1 G1 S1 x1 r1 q1 J gv => ?_⟩⟩
  refine ⟨fun i m σ H => ∃ G S ρ, m = ds.length - i ∧ i ≤ ds.length ∧ Ext H1 G1 S1 H G S ∧ RelS X.K H G ρ σ ∧ Rep X.K H G S ∧ AftS X.K W E H G S (forD g b (ds.drop i) ρ S),
    ⟨ds.length, G1, S1, ρ, by simp, Nat.zero_le _, Ext.refl, x1.relS rp rs, r1, by simpa using q1⟩, ?_⟩
  rintro i m σ H ⟨G, S, ρ, rfl, hi, x, rs, rp, q⟩
  by_cases hlt : i < ds.length
  · refine .inr ⟨gv.go H G S x rp i hlt, fun σ' H' => ∃ G' S' ρ', Ext H1 G1 S1 H' G' S' ∧ RelS X.K H' G' ρ' σ' ∧ Rep X.K H' G' S' ∧ AftS X.K W E H' G' S' (forD g b (ds.drop (i + 1)) ρ' S'),
      fun σ' H' ⟨G', S', ρ', x', rs', rp', q'⟩ => ⟨ds.length - (i + 1), by omega, G', S', ρ', rfl, hlt, x', rs', rp', q'⟩, fun v H' y => ?_⟩
    obtain ⟨ex, rp', dv, _⟩ := gv.yld H G S x rp i ds[i] (by simp [hlt]) v H' y
    refine ⟨G, S, ρ, ds[i], ex.relS rp rs, rp', dv, ?_⟩
    rw [List.drop_eq_getElem_cons hlt] at q
    have q : AftS X.K W E H G S (match g ds[i] ρ S with
      | none => none
      | some (ρ1, S1) => match b ρ1 S1 with
        | some (.next ρ2, S2) => forD g b (ds.drop (i + 1)) ρ2 S2
        | some (.cont ρ2, S2) => forD g b (ds.drop (i + 1)) ρ2 S2
        | some (.brk ρ2, S2) => some (.next ρ2, S2)
        | o => o) := q
    cases eg : g ds[i] ρ S with
    | none => rw [eg] at q; exact q.elim
    | some pr =>
      obtain ⟨ρ1, S2⟩ := pr
      rw [eg] at q
      refine fun H2 G2 x2 r2 σ2 rs2 _ => ⟨G2, S2, ρ1, rs2, r2, ?_⟩
      have xx := ex.trans x2
      have q := AftS.ext q xx
      simp only at q
      cases eb : b ρ1 S2 with
      | none => rw [eb] at q; exact q
      | some pb =>
        obtain ⟨fl, S3⟩ := pb
        rw [eb] at q
        cases fl with
        | next ρ2 => exact fun H3 G3 σ3 x3 r3 s3 => ⟨G3, S3, ρ2, (x.trans xx).trans x3, s3, r3, AftS.ext q x3⟩
        | cont ρ2 => exact fun H3 G3 σ3 x3 r3 s3 => ⟨G3, S3, ρ2, (x.trans xx).trans x3, s3, r3, AftS.ext q x3⟩
        | brk ρ2 => exact q
        | ret d => exact q
        | exc y ρ2 => exact q
  · have e : i = ds.length := by omega
    subst e
    rw [List.drop_length] at q
    exact .inl ⟨gv.stop H G S x rp, AftS.next q Ext.refl rp rs⟩
end
end DL
namespace DL
open PySem L2
structure Beside (H : Hp) (G : Gh) (D : Addr) (o : HO) : Prop where
  at_ : H D = some o
  ι : D ∉ G.ι
  φ : ∀ p ∈ G.φ, p.1 ≠ D
section
variable {K : PySem.W.Frag} {H H1 : Hp} {G G1 : Gh} {S S1 : Sto} {D : Addr} {o : HO}
theorem Beside.ext (b : Beside H G D o) (x : Ext H G S H1 G1 S1) : Beside H1 G1 D o := by
  have nl : ¬ Live G S D := fun l => b.ι l.mem
  refine ⟨x.frame D o b.at_ nl, fun h => ?_, fun p hp e => ?_⟩
  · rcases x.iot D h with q | q
    · exact b.ι q
    · rw [b.at_] at q; cases q
  · rcases x.phf p hp with q | q | q
    · exact b.φ p q e
    · rw [e, b.at_] at q; cases q
    · rw [e] at q; exact nl q
theorem Rep.aside (r : Rep K H G S) {xs ys : List V} (b : Beside H G D (.lst xs)) : Rep K (upd H D (.lst ys)) G S := by
  have ht : ∀ a vs, SqT K H a vs → SqT K (upd H D (.lst ys)) a vs := fun a vs h => by
    rcases h with (h | ⟨u, h⟩) | h
    · exact .inl (.inl (by rw [upd_ne (ne_of h b.at_ (fun z => nomatch z))]; exact h))
    · exact .inl (.inr ⟨u, by rw [upd_ne (ne_of h b.at_ (fun z => nomatch z))]; exact h⟩)
    · exact .inr h
  refine ⟨r.len, r.nd, fun i a m h1 h2 => OkO.ext (G := G) (fun _ h => h) ht (fun u hu => ?_) (r.ok i a m h1 h2), fun p hp => ?_, r.pnl⟩
  · rw [upd_ne (fun z => b.ι (by rw [← z]; exact List.mem_of_getElem? h1))]; exact hu
  · rw [upd_ne (b.φ p hp)]; exact r.phi p hp
theorem dn_aside {φ : List (Addr × HO)} {xs ys : List V} (e : H D = some (.lst xs)) {ds : List PyData} {vs : List V} (t : DnAll K φ H ds vs) : DnAll K φ (upd H D (.lst ys)) ds vs :=
  t.mono (fun _ h => h) fun a vs h => by
    rcases h with (h | ⟨u, h⟩) | h
    · exact .inl (.inl (by rw [upd_ne (ne_of h e (fun z => nomatch z))]; exact h))
    · exact .inl (.inr ⟨u, by rw [upd_ne (ne_of h e (fun z => nomatch z))]; exact h⟩)
    · exact .inr h
theorem Ext.aside {H0 : Hp} {G0 : Gh} {S0 : Sto} {u : HO} (x : Ext H0 G0 S0 H G S) (h0 : H0 D = none) : Ext H0 G0 S0 (upd H D u) G S :=
  ⟨x.pre, x.phi, fun b o h n => by rw [upd_ne (ne_of_none h h0)]; exact x.frame b o h n, x.fresh, x.iot, x.phf⟩
/-- it is frozen at last -/
theorem Ext.iceD {H0 : Hp} {G0 : Gh} {S0 : Sto} (x : Ext H0 G0 S0 H G S) (h0 : H0 D = none) : Ext H0 G0 S0 H ⟨G.ι, (D, o) :: G.φ⟩ S :=
  ⟨x.pre, fun p hp => List.mem_cons_of_mem _ (x.phi p hp), x.frame, x.fresh, x.iot, fun p hp => by
    rcases List.mem_cons.mp hp with e | hp
    · rw [e]; exact .inr (.inl h0)
    · exact x.phf p hp⟩
theorem Rep.iceD (r : Rep K H G S) (b : Beside H G D o) : Rep K H ⟨G.ι, (D, o) :: G.φ⟩ S := by
  refine ⟨r.len, r.nd, fun i a m h1 h2 => OkO.ext (G := G) (fun _ h => List.mem_cons_of_mem _ h) (fun _ _ h => h) (fun _ h => h) (r.ok i a m h1 h2), fun p hp => ?_, fun p hp => ?_⟩
  · rcases List.mem_cons.mp hp with e | hp
    · rw [e]; exact b.at_
    · exact r.phi p hp
  · rcases List.mem_cons.mp hp with e | hp
    · rw [e]; exact fun l => b.ι (Live.mem l)
    · exact r.pnl p hp
end
def wipeD (ρ : Ev) : List Nat → Ev
  | [] => ρ
  | v :: vs => (wipeD ρ vs).set v none
theorem RelS.wipe {K : PySem.W.Frag} {H : Hp} {G : Gh} {ρ : Ev} {σ : St} (r : RelS K H G ρ σ) : ∀ vs : List Nat, RelS K H G (wipeD ρ vs) (L2.wipe σ vs)
  | [] => r
  | v :: vs => (r.wipe vs).setNone v
def lcD (g : FG) (t : FT) (e : FE) (ρ : Ev) : List D → M (List PyData)
  | [] => fun S => .ok [] S
  | d :: r => fun S => match g d ρ S with
    | none => .bad
    | some (ρ1, S1) => (t ρ1 S1).bind fun b S2 => if b = true then (e ρ1 S2).bind (fun y S3 => match y with
        | .p v => (lcD g t e ρ r S3).bind fun vs S4 => .ok (v :: vs) S4
        | _ => .bad) else lcD g t e ρ r S2
def eLc (f : FI) (g : FG) (t : FT) (e : FE) (vs : List Nat) (fin : List PyData → M D) : FE := fun ρ S => (f ρ S).bind fun ds S1 => if ds.length ≤ LIM then (noErr (lcD g t e (wipeD ρ vs) ds S1)).bind fin else .bad
def finL : List PyData → M D := fun ys S => .ok (.p (.list ys)) S
def tYesD : FT := fun _ S => .ok true S
/-- how the new list is handed on -/
def FinOk (fin : List PyData → M D) : Prop := ∀ (K : PySem.W.Frag) (W : WX) (σ : St) (H0 H : Hp) (G0 G : Gh) (S0 S : Sto) (ys : List PyData) (vs : List V) (D : Addr) (Q : VK),
  Ext H0 G0 S0 H G S → H0 D = none → Rep K H G S → Beside H G D (.lst vs) → DnAll K G.φ H ys vs → (∀ (S' : Sto) (d : DL.D), fin ys S = .ok d S' → ∀ H' G', Ext H0 G0 S0 H' G' S' → Rep K H' G' S' → ∀ v, Den K H' G' d v → Q v H') → Q (.ref D) H
theorem finL_ok : FinOk finL := fun K W σ H0 H G0 G S0 S ys vs D Q x h0 r b t q =>
  q S _ rfl H _ (x.iceD h0) (r.iceD b) _ (Dn.lst (fun _ q => q _ List.mem_cons_self) (t.mono (fun _ h => List.mem_cons_of_mem _ h) fun _ _ h => h))
section
variable {X : Cx} {W : WX}
/-- the reading of a comprehension, by data -/
theorem lc_read {f : FI} {g : FG} {t : FT} {e : FE} {vs : List Nat} {fin : List PyData → M D} (fo : FinOk fin) {σ : St} {H : Hp} {Q : VK} (q : rd X.K W (eLc f g t e vs fin) σ H Q) :
    tLc (rdI X.K W f) (rdG X.K vs g) (rdT X.K W0 t) (rd X.K W0 e) vs σ H Q := by
  obtain ⟨G, S, ρ, rs, rp, q⟩ := q
  refine ⟨G, S, ρ, rs, rp, (Aft.bind q).mono fun ds H1 G1 S1 x1 r1 q1 J gv Da hDa => ?_⟩
  by_cases hl : ds.length ≤ LIM
  · simp only [if_pos hl] at q1
    cases eo : lcD g t e (wipeD ρ vs) ds S1 with
    | bad => rw [eo] at q1; exact q1.elim
    | err x s => rw [eo] at q1; exact q1.elim
    | ok ys Sn =>
      rw [eo] at q1
      have q2 : Aft X.K W σ H1 G1 S1 (fin ys Sn) (QD X.K Q) := q1
      have rs1 : RelS X.K H1 G1 (wipeD ρ vs) (wipe σ vs) := (x1.relS rp rs).wipe vs
      have b0 : Beside (upd H1 Da (.lst [])) G1 Da (.lst []) := ⟨upd_same, r1.notIn hDa, r1.notPhi hDa⟩
      refine ⟨fun i m H => ∃ G S accV accD rest, m = ds.length - i ∧ i ≤ ds.length ∧ Ext H1 G1 S1 H G S ∧ Rep X.K H G S ∧ Beside H G Da (.lst accV) ∧ DnAll X.K G.φ H accD accV ∧ accV.length ≤ i ∧ lcD g t e (wipeD ρ vs) (ds.drop i) S = .ok rest Sn ∧ ys = accD ++ rest,
        ⟨ds.length, G1, S1, [], [], ys, by simp, Nat.zero_le _, Ext.other r1 hDa, Rep.other r1 hDa, b0, .nil, Nat.le_refl _, by simpa using eo, rfl⟩, ?_⟩
      rintro i m H ⟨G, S, accV, accD, rest, rfl, hi, x, r, b, ta, hlen, el, rfl⟩
      by_cases hlt : i < ds.length
      · refine .inr ⟨gv.go H G S x r i hlt, fun H' => ∃ G' S' accV' accD' rest', Ext H1 G1 S1 H' G' S' ∧ Rep X.K H' G' S' ∧ Beside H' G' Da (.lst accV') ∧ DnAll X.K G'.φ H' accD' accV' ∧ accV'.length ≤ i + 1 ∧ lcD g t e (wipeD ρ vs) (ds.drop (i + 1)) S' = .ok rest' Sn ∧ accD ++ rest = accD' ++ rest',
          fun H' ⟨G', S', accV', accD', rest', h1, h2, h3, h4, h5, h6, h7⟩ => ⟨ds.length - (i + 1), by omega, G', S', accV', accD', rest', rfl, hlt, h1, h2, h3, h4, h5, h6, h7⟩, fun v H' y => ?_⟩
        obtain ⟨ex, rp', dv, _⟩ := gv.yld H G S x r i ds[i] (by simp [hlt]) v H' y
        rw [List.drop_eq_getElem_cons hlt] at el
        unfold lcD at el
        split at el
        · cases el
        · rename_i ρ1 S2 eg
          refine ⟨G, S, wipeD ρ vs, ds[i], (x.trans ex).relS r1 rs1, rp', dv, ?_⟩
          rw [eg]
          refine fun H2 G2 x2 r2 σ2 rs2 w2 => ⟨by rw [w2, wipe_wipe], ?_⟩
          have xa := x.trans (ex.trans x2)
          cases et : t ρ1 S2 with
          | bad => rw [et] at el; cases el
          | err _ _ => rw [et] at el; cases el
          | ok bb S3 =>
            rw [et] at el
            refine ⟨G2, S2, ρ1, rs2, r2, Aft.of_ok et fun H3 G3 x3 r3 => ?_⟩
            have xb := xa.trans x3
            have b3 := b.ext ((ex.trans x2).trans x3)
            have ta3 : DnAll X.K G3.φ H3 accD accV := ((ex.trans x2).trans x3).dnAll r ta
            cases bb with
            | false =>
              refine L2.iteF ?_
              simp only [Out.bind_ok, if_neg Bool.false_ne_true] at el
              exact ⟨G3, S3, accV, accD, rest, xb, r3, b3, ta3, by omega, el, rfl⟩
            | true =>
              refine L2.iteT ?_
              simp only [Out.bind_ok, if_pos] at el
              cases ee : e ρ1 S3 with
              | bad => rw [ee] at el; cases el
              | err _ _ => rw [ee] at el; cases el
              | ok yd S4 =>
                rw [ee] at el
                refine ⟨G3, S3, ρ1, x3.relS r2 rs2, r3, Aft.of_ok ee fun H4 G4 x4 r4 w dw => ?_⟩
                have b4 := b3.ext x4
                cases yd with
                | p pv =>
                  simp only [Out.bind_ok] at el
                  cases er : lcD g t e (wipeD ρ vs) (ds.drop (i + 1)) S4 with
                  | bad => rw [er] at el; cases el
                  | err _ _ => rw [er] at el; cases el
                  | ok vs' S5 =>
                    rw [er] at el
                    have el : Out.ok (pv :: vs') S5 = Out.ok rest Sn := el
                    cases el
                    refine ⟨accV, b4.at_, Nat.lt_of_le_of_lt hlen (Nat.lt_of_lt_of_le hlt (Nat.le_trans hl LIM_le)), G4, S4, accV ++ [w], accD ++ [pv], vs', (xb.trans x4).aside hDa, r4.aside b4, ⟨upd_same, b4.ι, b4.φ⟩, ?_, by rw [List.length_append, List.length_singleton]; omega, er, by rw [List.append_assoc]; rfl⟩
                    exact (dn_aside b4.at_ (x4.dnAll r3 ta3)).append (dn_aside b4.at_ (.cons dw .nil))
                | ob _ => cases el
                | ro _ => cases el
                | ext _ => cases el
      · have e : i = ds.length := by omega
        subst e
        rw [List.drop_length] at el
        unfold lcD at el
        cases el
        rw [List.append_nil] at q2
        refine .inl ⟨gv.stop H G _ x r, fo X.K W σ H1 H G1 G S1 _ accD accV Da Q x hDa r b ta fun S' d ef H' G' x' r' v dv => ?_⟩
        rw [ef] at q2
        exact q2 H' G' x' r' v dv
  · simp only [if_neg hl] at q1; exact q1.elim
theorem PTs.imp {ifs : List Expr} {t t' : TT} (h : PTs X ifs t) (i : ∀ σ H Q, t' σ H Q → t σ H Q) : PTs X ifs t' := ⟨fun pins s σ H Q I q => h.run pins s σ H Q I (i σ H Q q)⟩
variable {elt tg iter : Expr} {ifs : List Expr} {scope : Scope} {own : List (Str × Nat)} {pos spos : Pos} {f : FI} {g : FG} {t : FT} {e : FE} {fin : List PyData → M D}
theorem dts_nil : PTs X [] (rdT X.K W tYesD) := PTs.imp pts_nil fun σ H Q ⟨G, S, ρ, rs, rp, q⟩ => q H G Ext.refl rp
theorem dts_one {c : Expr} (h : DT X W c t) : PTs X [c] (rdT X.K W t) := pts_one h.run
theorem de_lc (fo : FinOk fin) (hc : X.calm = true) (hN : X.N.Nodup) (hi : DI X W tg iter f) (ok : BlkOk X.N X.env.scope scope own)
    (hg : ∀ (s : Shared) (H : Hp) (C : Addr) (cl : List (Str × Addr)) (fp : List Addr), DG (X.blk s H scope (compEnvC scope cl C X.env) fp) (own.map (·.2)) tg g)
    (ht : ∀ (s : Shared) (H : Hp) (C : Addr) (cl : List (Str × Addr)) (fp : List Addr), PTs (X.blk s H scope (compEnvC scope cl C X.env) fp) ifs (rdT X.K W0 t))
    (he : ∀ (s : Shared) (H : Hp) (C : Addr) (cl : List (Str × Addr)) (fp : List Addr), DE (X.blk s H scope (compEnvC scope cl C X.env) fp) W0 elt e) (hs : ∀ x, foldedSetIterable iter X.env x = pure x := by intro _; rfl) :
    DE X W (.ListComp elt [⟨tg, iter, ifs, 0⟩] scope pos) (eLc f g t e (own.map (·.2)) fin) :=
  ⟨PE.imp (pe_lc (g := rdG X.K (own.map (·.2)) g) (te := rd X.K W0 e) hc hN hi.run ok (fun s H C cl fp => (hg s H C cl fp).run) ht (fun s H C cl fp => (he s H C cl fp).run) hs) fun _ _ _ q => lc_read fo q⟩
theorem ds_setLc {i : Nat} {y : Str} {py : Pos} (fo : FinOk fin) (hc : X.calm = true) (hN : X.N.Nodup) (hy : X.N[i]? = some y) (hyl : X.env.scope.names.lookup y = some .local)
    (hsw : swapsWith (.ListComp elt [⟨tg, iter, ifs, 0⟩] scope pos) (some (.Name y py)) spos.line X.env = pure true) (hi : DI X W tg iter f) (ok : BlkOk X.N X.env.scope scope own)
    (hg : ∀ (s : Shared) (H : Hp) (C : Addr) (cl : List (Str × Addr)) (fp : List Addr), DG (X.blk s H scope (compEnvC scope cl C X.env) fp) (own.map (·.2)) tg g)
    (ht : ∀ (s : Shared) (H : Hp) (C : Addr) (cl : List (Str × Addr)) (fp : List Addr), PTs (X.blk s H scope (compEnvC scope cl C X.env) fp) ifs (rdT X.K W0 t))
    (he : ∀ (s : Shared) (H : Hp) (C : Addr) (cl : List (Str × Addr)) (fp : List Addr), DE (X.blk s H scope (compEnvC scope cl C X.env) fp) W0 elt e) (hs : ∀ x, foldedSetIterable iter X.env x = pure x := by intro _; rfl) :
    DS X W (.Assign [.Name y py] (.ListComp elt [⟨tg, iter, ifs, 0⟩] scope pos) spos) (sSet i (eLc f g t e (own.map (·.2)) fin)) := by
  refine ⟨PS.imp (ps_setLc (g := rdG X.K (own.map (·.2)) g) (te := rd X.K W0 e) hc hN hy hyl hsw hi.run ok (fun s H C cl fp => (hg s H C cl fp).run) ht (fun s H C cl fp => (he s H C cl fp).run) hs) fun E σ H ⟨G, S, ρ, rs, rp, q⟩ => ?_⟩
  exact lc_read fo ⟨G, S, ρ, rs, rp, (AftS.st q rs rp).mono fun d H1 G1 S1 x1 r1 q1 v dv => AftS.next q1 Ext.refl r1 ((x1.relS rp rs).set dv i)⟩
end
end DL
namespace DL
open PySem L2 PySem.Spec PyProof.Rows
/-- the later objects of the store are forgotten when a def is left -/
def cutD (n : Nat) : Out D → Out D
  | .ok (.ob i) s => if i < n then .ok (.ob i) (s.take n) else .ok (.ob i) s
  | .ok d s => .ok d (s.take n)
  | o => o
def runF (m : Nat) (body : FS) : List D → M D := fun ds S => match body (ds.map some ++ List.replicate (m - ds.length) none) S with
  | some (.ret d, s) => .ok d s
  | some (.next _, s) => .ok (.p .none) s
  | some (.exc x _, s) => .err x s
  | _ => .bad
theorem den_cut {K : PySem.W.Frag} {H : Hp} {G : Gh} {n : Nat} {d : D} {v : V} (h : Den K H G d v) (hi : ∀ i, d = .ob i → i < n) : Den K H ⟨G.ι.take n, G.φ⟩ d v := by
  cases d with
  | p x => exact h
  | ob i =>
    obtain ⟨a, rfl, ha⟩ := h
    exact ⟨a, rfl, by show (G.ι.take n)[i]? = some a; rw [List.getElem?_take, if_pos (hi i rfl)]; exact ha⟩
  | ro xs => exact h
  | ext u => exact h
def eCall (n : Nat) (g : List D → M D) (fa : FA) : FE := fun ρ S => (fa ρ S).bind fun ds S1 => if ds.length = n then noErr (cutD S1.length (g ds S1)) else .bad
def nums (ns : List Int) : List PyData := ns.map .int
theorem nums_dn {K : PySem.W.Frag} {φ : List (Addr × HO)} {H : Hp} : ∀ ns : List Int, DnAll K φ H (nums ns) (ns.map V.int)
  | [] => .nil
  | n :: ns => .cons (.int n) (nums_dn ns)
end DL
namespace DL
open PySem L2 PySem.Spec PyProof.Rows
mutual
inductive RD (h : Heap) : Value → PyData → Prop
  | none : RD h .none .none
  | bool (b) : RD h (.bool b) (.bool b)
  | int (i t) : RD h (.int i t) (.int i)
  | str (x t) : RD h (.str x t) (.str x)
  | list {a o vs n xs} : h.get? a = some o → o.cls = .type "list" → o.data = .seq vs n → RDs h vs.toList xs → RD h (.ref a) (.list xs)
  | tuple {a o vs n xs} : h.get? a = some o → o.cls = .type "tuple" → o.data = .seq vs n → RDs h vs.toList xs → RD h (.ref a) (.tuple xs)
  | dict {a o es n kvs} : h.get? a = some o → o.cls = .type "dict" → o.data = .dict es n → (a == sysModules) = false → RDs h (es.toList.map (·.key)) (kvs.map (·.1)) → RDs h (es.toList.map (·.val)) (kvs.map (·.2)) → RD h (.ref a) (.dict kvs)
inductive RDs (h : Heap) : List Value → List PyData → Prop
  | nil : RDs h [] []
  | cons {v vs d ds} : RD h v d → RDs h vs ds → RDs h (v :: vs) (d :: ds)
end
mutual
theorem RD.reads {h : Heap} : ∀ {v : Value} {d : PyData}, RD h v d → ∃ as, Reads h v d as
  | _, _, .none => ⟨_, .none⟩
  | _, _, .bool b => ⟨_, .bool b⟩
  | _, _, .int i t => ⟨_, .int i t⟩
  | _, _, .str x t => ⟨_, .str x t⟩
  | _, _, .list h1 h2 h3 h4 => let ⟨as, r⟩ := h4.reads; ⟨_, .list h1 h2 h3 r⟩
  | _, _, .tuple h1 h2 h3 h4 => let ⟨as, r⟩ := h4.reads; ⟨_, .tuple h1 h2 h3 r⟩
  | _, _, .dict h1 h2 h3 _ h4 h5 => let ⟨as, r⟩ := h4.reads; let ⟨bs, r'⟩ := h5.reads; ⟨_, .dict h1 h2 h3 r r'⟩
theorem RDs.reads {h : Heap} : ∀ {vs : List Value} {ds : List PyData}, RDs h vs ds → ∃ as, ReadsAll h vs ds as
  | _, _, .nil => ⟨_, .nil⟩
  | _, _, .cons a b => let ⟨as, r⟩ := a.reads; let ⟨bs, r'⟩ := b.reads; ⟨_, .cons r r'⟩
end
section
variable {prog : Program} {w : World} {h₀ : Heap}
mutual
theorem RD.reprK : ∀ {v : Value} {d : PyData}, RD h₀ v d → d.showable = true → d.shown.length ≤ sizeLine → ∃ bs, ReadAtMost h₀ d.depth bs ∧ ReprK prog w bs h₀ d.depth v d.shown
  | _, _, .none, _, _ => ⟨[], (fun _ h => nomatch h), by simp only [PyData.shown]; exact .of_is ReprIs.none _ _ _⟩
  | _, _, .bool b, _, _ => ⟨[], (fun _ h => nomatch h), by simp only [PyData.shown]; exact .of_is (ReprIs.bool b) _ _ _⟩
  | _, _, .int i t, hs, _ => ⟨[], (fun _ h => nomatch h), by simp only [PyData.shown]; exact .of_is (ReprIs.int t (by simpa [PyData.showable] using hs)) _ _ _⟩
  | _, _, .str x t, _, hz => ⟨[], (fun _ h => nomatch h), by simp only [PyData.shown]; exact .of_is (ReprIs.str x t (by simpa only [PyData.shown] using hz)) _ _ _⟩
  | _, _, .list (a := a) (vs := vs) (xs := xs) h1 h2 h3 h4, hs, hz => by
    simp only [PyData.shown] at hz
    obtain ⟨bs, hb, hk⟩ := RDs.reprK h4 (by simpa [PyData.showable] using hs) fun t ht => Nat.le_trans (listText_mem_le ht) hz
    obtain ⟨as, rr⟩ := h4.reads
    have r := Reads.list h1 h2 h3 rr
    refine ⟨a :: bs, ReadAtMost.cons r (by simp only [PyData.depth]; omega) hb, ?_⟩
    have hna := not_mem_of_deeper r (by simp only [PyData.depth]; omega) hb
    simp only [PyData.depth, PyData.shown]
    obtain ⟨l⟩ := vs
    cases l with
    | nil =>
      cases (show RDs h₀ [] xs from h4)
      simp only [PyData.shownAll, listText_nil]
      exact ReprK.listEmpty h1 h2 h3
    | cons x l => exact ReprK.list h1 h2 h3 hna (by simpa using hk.length_eq) fun i y e => hk.item i y (by simpa using e)
  | _, _, .tuple (a := a) (xs := xs) h1 h2 h3 h4, hs, hz => by
    simp only [PyData.shown] at hz
    obtain ⟨bs, hb, hk⟩ := RDs.reprK h4 (by simpa [PyData.showable] using hs) fun t ht => Nat.le_trans (tupleText_mem_le ht) hz
    obtain ⟨as, rr⟩ := h4.reads
    have r := Reads.tuple h1 h2 h3 rr
    refine ⟨a :: bs, ReadAtMost.cons r (by simp only [PyData.depth]; omega) hb, ?_⟩
    have hna := not_mem_of_deeper r (by simp only [PyData.depth]; omega) hb
    simp only [PyData.depth, PyData.shown]
    exact ReprK.tuple h1 h2 h3 hna hk
  | _, _, .dict (a := a) (es := es) (kvs := kvs) h1 h2 h3 hsys h4 h5, hs, hz => by
    simp only [PyData.shown] at hz
    obtain ⟨hs1, hs2⟩ := PyData.showableKv_split kvs (by simpa [PyData.showable] using hs)
    have z1 : ∀ t ∈ PyData.shownAll (kvs.map (·.1)), t.length ≤ sizeLine := fun t ht => by
      obtain ⟨p, hp, hl⟩ := PyData.shownKv_key_le kvs t ht
      exact Nat.le_trans hl (Nat.le_trans (dictText_mem_le hp) hz)
    have z2 : ∀ t ∈ PyData.shownAll (kvs.map (·.2)), t.length ≤ sizeLine := fun t ht => by
      obtain ⟨p, hp, hl⟩ := PyData.shownKv_val_le kvs t ht
      exact Nat.le_trans hl (Nat.le_trans (dictText_mem_le hp) hz)
    obtain ⟨b1, hb1, k1⟩ := RDs.reprK h4 hs1 z1
    obtain ⟨b2, hb2, k2⟩ := RDs.reprK h5 hs2 z2
    obtain ⟨as, r1⟩ := h4.reads
    obtain ⟨cs, r2⟩ := h5.reads
    have r := Reads.dict h1 h2 h3 r1 r2
    have hb : ReadAtMost h₀ (PyData.depthKv kvs) (b1 ++ b2) := (hb1.mono (PyData.depthAll_keys_le kvs)).append (hb2.mono (PyData.depthAll_vals_le kvs))
    refine ⟨a :: (b1 ++ b2), ReadAtMost.cons r (by simp only [PyData.depth]; omega) hb, ?_⟩
    have hna := not_mem_of_deeper r (by simp only [PyData.depth]; omega) hb
    simp only [PyData.depth, PyData.shown, PyData.shownKv_eq]
    exact ReprK.dict h1 h2 h3 hsys hna (ReprEntriesK.of_two es.toList _ _ (k1.more_le (fun b hb => List.mem_append_left _ hb) (PyData.depthAll_keys_le kvs)) (k2.more_le (fun b hb => List.mem_append_right _ hb) (PyData.depthAll_vals_le kvs)))
theorem RDs.reprK : ∀ {vs : List Value} {ds : List PyData}, RDs h₀ vs ds → PyData.showableAll ds = true → (∀ t ∈ PyData.shownAll ds, t.length ≤ sizeLine) → ∃ bs, ReadAtMost h₀ (PyData.depthAll ds) bs ∧ ReprAllK prog w bs h₀ (PyData.depthAll ds) vs (PyData.shownAll ds)
  | _, _, .nil, _, _ => ⟨[], (fun _ h => nomatch h), by simp only [PyData.shownAll]; exact .nil⟩
  | _, _, .cons (d := d) (ds := ds) r rs, hs, hz => by
    simp only [PyData.showableAll, Bool.and_eq_true] at hs
    simp only [PyData.shownAll] at hz
    obtain ⟨b1, hb1, k1⟩ := RD.reprK r hs.1 (hz _ List.mem_cons_self)
    obtain ⟨b2, hb2, k2⟩ := RDs.reprK rs hs.2 fun t ht => hz t (List.mem_cons_of_mem _ ht)
    simp only [PyData.depthAll, PyData.shownAll]
    exact ⟨b1 ++ b2, (hb1.mono (Nat.le_max_left _ _)).append (hb2.mono (Nat.le_max_right _ _)), .cons ((k1.more fun b hb => List.mem_append_left _ hb).level_le (Nat.le_max_left _ _)) (k2.more_le (fun b hb => List.mem_append_right _ hb) (Nat.le_max_right _ _))⟩
end
theorem repr_RD {v : Value} {d : PyData} {A : Around} {E : Value → Shared → Prop} {s : Shared} {Q : Value → Shared → Prop} (r : RD s.heap v d) (hs : d.showable = true) (hz : d.shown.length ≤ sizeLine) (hg : A.guards = some []) (hu : A.units + (d.depth + 1) < cLine)
    (hQ : ∀ h' u tk, (∀ b o, s.heap.get? b = some o → h'.get? b = some o) → Q (.str d.shown u) { s with heap := h', toks := tk }) : wpAny (model prog w) A (call (.builtin "repr") [v]) Q E s := by
  have hu1 : A.in1.units + d.depth < cLine := by show A.units + 1 + d.depth < cLine; omega
  cases r with
  | none => exact PySem.P.repr_of_none (by simpa only [PyData.shown] using hQ s.heap s.toks (s.toks + 1) fun _ _ e => e)
  | bool b => exact PySem.P.repr_of_bool (by simpa only [PyData.shown] using hQ s.heap s.toks (s.toks + 1) fun _ _ e => e)
  | int i t => exact PySem.P.repr_of_int (by simpa [PyData.showable] using hs) (by simpa only [PyData.shown] using hQ s.heap s.toks (s.toks + 1) fun _ _ e => e)
  | str x t => exact PySem.P.repr_of_str (by simpa only [PyData.shown] using hQ s.heap s.toks (s.toks + 1) fun _ _ e => e) (by simpa only [PyData.shown] using hz)
  | list h1 h2 h3 h4 =>
    rename_i a o vs n xs
    simp only [PyData.shown] at hz hQ
    obtain ⟨bs, hb, hk⟩ := RDs.reprK (prog := prog) (w := w) h4 (by simpa [PyData.showable] using hs) fun t ht => Nat.le_trans (listText_mem_le ht) hz
    obtain ⟨as, rr⟩ := h4.reads
    have hna := not_mem_of_deeper (Reads.list h1 h2 h3 rr) (by simp only [PyData.depth]; omega) hb
    simp only [PyData.depth] at hu1
    refine call_repr_slot (by omega) ⟨o, h1, h2⟩ F.slot_list_repr.toG ?_
    obtain ⟨l⟩ := vs
    cases l with
    | nil =>
      cases (show RDs s.heap [] xs from h4)
      simp only [PyData.shownAll, listText_nil] at hQ
      exact call_list_repr_empty ⟨o, h1, h2⟩ h1 h3 ⟨_, _, rfl, hQ s.heap _ _ fun _ _ e => e⟩
    | cons x l => exact call_list_reprK h1 h2 h3 hna (by simpa using hk.length_eq) (fun i y e => hk.item i y (by simpa using e)) hg (fun b _ => Clear.nil b) hu1 (fun _ _ e => e) (fun h' u tk hk => ⟨_, _, rfl, hQ h' u tk hk⟩) hz
  | tuple h1 h2 h3 h4 =>
    rename_i a o vs n xs
    simp only [PyData.shown] at hz hQ
    obtain ⟨bs, hb, hk⟩ := RDs.reprK (prog := prog) (w := w) h4 (by simpa [PyData.showable] using hs) fun t ht => Nat.le_trans (tupleText_mem_le ht) hz
    obtain ⟨as, rr⟩ := h4.reads
    have hna := not_mem_of_deeper (Reads.tuple h1 h2 h3 rr) (by simp only [PyData.depth]; omega) hb
    simp only [PyData.depth] at hu1
    exact call_repr_slot (by omega) ⟨o, h1, h2⟩ F.slot_tuple_repr (call_tuple_reprK h1 h2 h3 hna hk hg (fun b _ => Clear.nil b) hu1 (fun _ _ e => e) (fun h' u tk hk => ⟨_, _, rfl, hQ h' u tk hk⟩) hz)
  | dict h1 h2 h3 hsys h4 h5 =>
    rename_i a o es n kvs
    simp only [PyData.shown] at hz hQ
    obtain ⟨hs1, hs2⟩ := PyData.showableKv_split kvs (by simpa [PyData.showable] using hs)
    have z1 : ∀ t ∈ PyData.shownAll (kvs.map (·.1)), t.length ≤ sizeLine := fun t ht => by
      obtain ⟨p, hp, hl⟩ := PyData.shownKv_key_le kvs t ht
      exact Nat.le_trans hl (Nat.le_trans (dictText_mem_le hp) hz)
    have z2 : ∀ t ∈ PyData.shownAll (kvs.map (·.2)), t.length ≤ sizeLine := fun t ht => by
      obtain ⟨p, hp, hl⟩ := PyData.shownKv_val_le kvs t ht
      exact Nat.le_trans hl (Nat.le_trans (dictText_mem_le hp) hz)
    obtain ⟨b1, hb1, k1⟩ := RDs.reprK (prog := prog) (w := w) h4 hs1 z1
    obtain ⟨b2, hb2, k2⟩ := RDs.reprK (prog := prog) (w := w) h5 hs2 z2
    obtain ⟨as, r1⟩ := h4.reads
    obtain ⟨cs, r2⟩ := h5.reads
    have hb : ReadAtMost s.heap (PyData.depthKv kvs) (b1 ++ b2) := (hb1.mono (PyData.depthAll_keys_le kvs)).append (hb2.mono (PyData.depthAll_vals_le kvs))
    have hna := not_mem_of_deeper (Reads.dict h1 h2 h3 r1 r2) (by simp only [PyData.depth]; omega) hb
    simp only [PyData.depth] at hu1
    rw [PyData.shownKv_eq] at hz hQ
    exact call_repr_slot (by omega) ⟨o, h1, h2⟩ F.slot_dict_repr (call_dict_reprK h1 h2 h3 hsys hna (ReprEntriesK.of_two es.toList _ _
      (k1.more_le (fun b hb => List.mem_append_left _ hb) (PyData.depthAll_keys_le kvs)) (k2.more_le (fun b hb => List.mem_append_right _ hb) (PyData.depthAll_vals_le kvs))) hg (fun b _ => Clear.nil b) hu1 (fun _ _ e => e) (fun h' u tk hk => ⟨_, _, rfl, hQ h' u tk hk⟩) hz)
end
end DL
namespace PySem.W
open PySem PySem.Spec PySem.Calls PyProof.Rows
section
variable {prog : Program} {w : World} {A : Around} {E : Value → Shared → Prop} {s : Shared} {K : Frag} {x D : Addr} {ox : Obj}
theorem kin_classD {od : Obj} {Q : Option Value → Shared → Prop} (hga : findIn K (.ref D) "__getattribute__" = some (some (.builtin "BaseException.__getattribute__"))) (hgt : findIn K (.ref D) "__getattr__" = some none) (hsub : subIn K (.ref D) (.type "BaseException") = some true)
    (hdct : hasDictIn K D = true) (ha : findIn K (.ref D) "__class__" = some (some (.builtin "object.__class__")))
    (hn : specialIn K (.builtin "object.__class__") "__get__" = some (some (.builtin "getset_descriptor.__get__"))) (htk : takesIn K (.builtin "object.__class__") = some true) (hm : mroIn K D (.type "object") = some true)
    (X : K.In s.heap) (I : InstAt s.heap x ox D (some od)) (h : Q (some (.ref D)) { s with toks := s.toks + 1 }) : wpAny (model prog w) A (getAttr? (.ref x) "__class__") Q E s := by
  have hf : findObj K D (some od) "__class__" = some (.bind (.builtin "getset_descriptor.__get__") (.builtin "object.__class__")) := findObj_data (by obtain ⟨cd, hc, _⟩ := any_some hdct; rw [hc]; rfl) ha hn htk
  obtain ⟨hp, g, d, t, os⟩ := s
  have L0 := I.type (M := model prog w)
  have L1 := looks_findIn (M := model prog w) X hga
  have L2 := looks_findIn (M := model prog w) X hgt
  have L3 := looks_find (M := model prog w) X I hf
  have sub : Looks (model prog w) hp (isInstance (.ref x) (.type "BaseException")) true := L0.andThen (looks_subIn X hsub)
  have hx0 : (false && onTheHeap (Value.builtin "BaseException.__getattribute__")) = false := rfl
  have hx2 : (Value.builtin "BaseException.__getattribute__" == Value.builtin "object.__getattribute__") = false := by decide +kernel
  have hx1 : (onTheHeap (Value.ref D) && Value.builtin "BaseException.__getattribute__" == Value.builtin "object.__getattribute__") = false := by rw [hx2]; rfl
  unfold getAttr? getAttrBy? getAttrBy
  refine wpAny_bind (wpAny_mkText (wpAny_bind (wpAny_attempt (wpAny_holding (wpAny_bind (L0.at (wpAny_bind (L1.at ?_))))))))
  show wpAny _ _ (if (onTheHeap (Value.ref D) && Value.builtin "BaseException.__getattribute__" == Value.builtin "object.__getattribute__") = true then _ else _) _ _ _
  rw [hx1, if_neg Bool.false_ne_true]
  unfold getAttrByItsOwn hookBefore
  refine wpAny_bind ?_
  rw [if_pos (show onTheHeap (Value.ref D) = true from rfl)]
  refine L2.at ?_
  refine wpAny_bind (wpAny_attempt (wpAny_holding ?_))
  unfold callGetattribute
  rw [hx0, if_neg Bool.false_ne_true]
  unfold boundAndCalled
  rw [PySem.F.excAttr_ValueError.ga.bind (.ref x)]
  refine wpAny_bind (wpAny_pure ?_)
  show wpAny _ _ (call (.builtin "BaseException.__getattribute__") [.ref x, .str "__class__" t]) _ _ _
  refine wpAny_call (codeAny_call_builtin PySem.F.excAttr_ValueError.ga.plain PySem.F.entry_bexc_ga ?_)
  refine @check_slot (model prog w) _ _ ⟨hp, g, d, t + 1, os⟩ "BaseException.__getattribute__" "BaseException" "__getattribute__" (.ref x) [.str "__class__" t] [] _ (by decide +kernel) (by decide +kernel) sub (PySem.F.args_bexc_ga (.ref x) (.str "__class__" t)) ?_
  unfold Builtin.«object.__getattribute__»
  refine wpAny_bind (wpAny_of_eq (a := ((Value.ref x : Value), [Value.str "__class__" t])) (by first | rfl | (simp only [slotArgs]; rfl)) ?_)
  refine wpAny_bind (wpAny_pure (wpAny_bind (L0.at (wpAny_bind (L3.at ?_)))))
  show wpAny _ _ (holding [Value.builtin "object.__class__"] (call (.builtin "getset_descriptor.__get__") [.builtin "object.__class__", .ref x, .ref D]) >>= ret) _ _ _
  refine wpAny_bind (wpAny_holding (wpAny_call (class_get (s := ⟨hp, g, d, t + 1, os⟩) (ox := ox) (od := some od) X I hm ?_)))
  refine wpAny_pure ?_
  show wpAny _ _ (handedOut (.ref D)) _ _ _
  rw [handedOut_of (v := .ref D) rfl]
  first
    | exact wpAny_pure (wpAny_pure h)
    | exact wpAny_pure h
    | exact wpAny_pure (wpAny_bind (wpAny_pure (wpAny_pure h)))
theorem kitx_excD (hga : findIn K (.ref D) "__getattribute__" = some (some (.builtin "BaseException.__getattribute__"))) (hgt : findIn K (.ref D) "__getattr__" = some none) (hsub : subIn K (.ref D) (.type "BaseException") = some true) (hdct : hasDictIn K D = true) (ha : findIn K (.ref D) "__class__" = some (some (.builtin "object.__class__")))
    (hn : specialIn K (.builtin "object.__class__") "__get__" = some (some (.builtin "getset_descriptor.__get__"))) (htk : takesIn K (.builtin "object.__class__") = some true) (hm : mroIn K D (.type "object") = some true) :
    KitX K (.ref x) (.ref D) (fun h => ∃ od, InstAt h x ox D (some od)) where
  ty := fun _ _ _ I => I.choose_spec.type
  it := fun _ _ X _ => by
    obtain ⟨cdD, hcD, _⟩ := any_some hdct
    unfold clsIn at hcD
    split at hcD
    · rename_i c' d' cd' sl' ho
      intro A' Q' E' s' k q
      unfold isType loadHead
      exact wpAny_bind (wpAny_loadPart (k _ _ (X _ _ ho)) (wpAny_pure q))
    · cases hcD
  ne := fun h tp dd its n sl X htp => by
    obtain ⟨cdD, hcD, _⟩ := any_some hdct
    refine Bool.eq_false_iff.mpr fun q => ?_
    have e : D = tp := Value.ref.inj (beq_iff_eq.mp q)
    subst e
    unfold clsIn at hcD
    split at hcD
    · rename_i c' d' cd' sl' ho
      have z := (X _ _ ho).symm.trans htp
      cases z
    · cases hcD
  ca := fun X I k => kin_classD hga hgt hsub hdct ha hn htk hm X I.choose_spec k
end
end PySem.W
namespace DL
open PySem L2 PySem.Spec PyProof.Rows
section
variable {X : Cx} {W : WX} {x : Str} {p pos : Pos} {e : Expr} {es : List Expr} {fa : FA} {id T : String} {r : List V → Hp → VK → Prop} {g : List D → M D}
theorem sim_A (m : SimA X.K r g) {σ : L2.St} {H : Hp} {Q : VK} (q : rd X.K W (eA g fa) σ H Q) : tCB r (rdA X.K W fa) σ H Q := by
  obtain ⟨G, S, ρ, rs, rp, q⟩ := q
  exact ⟨G, S, ρ, rs, rp, (Aft.bind q).mono fun ds H1 G1 S1 x1 r1 q1 vs dv => m W σ H1 G1 S1 ds vs Q r1 dv q1⟩
theorem de_callB (hc : CallR X (.builtin id) r) (m : SimA X.K r g) (hg : Gl X x) (hm : X.mg x = none) (hv : bootBuiltins x = some (.builtin id)) (ha : DA X W (e :: es) fa) (hn : x ≠ "__name__" := by decide) (hdb : (x == ("__debug__" : Str)) = false := by decide)
    (he : starEach (e :: es) X.env = (false, eval e X.env) :: starEach es X.env := by rfl) (hpl : (backTo pos (starEach es X.env)).any (·.1) = false := by rfl) : DE X W (.Call (.Name x p) (e :: es) [] pos) (eA g fa) :=
  ⟨PE.imp (pe_callB hc hg hm hv ha.run hn hdb he hpl) fun _ _ _ q => sim_A m q⟩
theorem de_callTy (hc : CallR X (.type T) r) (m : SimA X.K r g) (hg : Gl X x) (hm : X.mg x = none) (hv : bootBuiltins x = some (.type T)) (ha : DA X W (e :: es) fa) (hn : x ≠ "__name__" := by decide) (hdb : (x == ("__debug__" : Str)) = false := by decide)
    (he : starEach (e :: es) X.env = (false, eval e X.env) :: starEach es X.env := by rfl) (hpl : (backTo pos (starEach es X.env)).any (·.1) = false := by rfl) : DE X W (.Call (.Name x p) (e :: es) [] pos) (eA g fa) :=
  ⟨PE.imp (pe_callTy hc hg hm hv ha.run hn hdb he hpl) fun _ _ _ q => sim_A m q⟩
end
section
variable {K : PySem.W.Frag} {H : Hp} {G : Gh}
theorem denL1 {d : D} {vs : List V} (h : DenL K H G [d] vs) : ∃ v, vs = [v] ∧ Den K H G d v := by
  cases h with
  | cons h t => cases t; exact ⟨_, rfl, h⟩
theorem denL2 {d e : D} {vs : List V} (h : DenL K H G [d, e] vs) : ∃ v w, vs = [v, w] ∧ Den K H G d v ∧ Den K H G e w := by
  cases h with
  | cons h t => cases t with
    | cons h2 t => cases t; exact ⟨_, _, rfl, h, h2⟩
end
def lenM : List D → M D := fun ds S => match ds with
  | [d] => match d with
    | .p (.str z) => if z.length ≤ LIM then .ok (.p (.int z.length)) S else .bad
    | d => match seqOf S d with
      | some xs => .ok (.p (.int xs.length)) S
      | none => match dicOf S d with
        | some kvs => .ok (.p (.int kvs.length)) S
        | none => .bad
  | _ => .bad
def rLen (K : PySem.W.Frag) : List V → Hp → VK → Prop := fun xs H Q => (∃ p ys, xs = [.ref p] ∧ (SqL K H p ys ∨ SqT K H p ys) ∧ Q (.int ys.length) H) ∨ (∃ z, xs = [.str z] ∧ z.length ≤ sizeLine ∧ Q (.int z.length) H) ∨ ∃ a kvs, xs = [V.ref a] ∧ Rd H a (.dK kvs) ∧ Q (.int kvs.length) H
theorem sim_len {K : PySem.W.Frag} : SimA K (rLen K) lenM := by
  intro W σ H G S xs vs Q rp dv q
  unfold lenM at q
  split at q
  · rename_i d
    obtain ⟨v, rfl, dv1⟩ := denL1 dv
    replace dv := dv1
    split at q
    · rename_i z
      by_cases hz : z.length ≤ LIM
      · rw [if_pos hz] at q
        rw [den_str dv]
        exact .inr (.inl ⟨z, rfl, Nat.le_trans hz LIM_le, q.ret rp (.int _)⟩)
      · rw [if_neg hz] at q; exact q.elim
    · split at q
      · rename_i xs es
        obtain ⟨a, us, rfl, hq, t⟩ := seqOf_den rp es dv
        refine .inl ⟨a, us, rfl, hq, ?_⟩
        rw [← t.length]
        exact q.ret rp (.int _)
      · split at q
        · rename_i kvs es
          obtain ⟨a, ws, rfl, hH, r⟩ := dicOf_den rp es dv
          refine .inr (.inr ⟨a, ws, rfl, hH, ?_⟩)
          rw [← r.length]
          exact q.ret rp (.int _)
        · exact q.elim
  · exact q.elim
section
variable {X : Cx} {W : WX} {p pos : Pos} {e : Expr} {fa : FA}
theorem call_lenRd : CallR X (.builtin "len") (fun xs H Q => ∃ a kvs, xs = [V.ref a] ∧ Rd H a (.dK kvs) ∧ Q (.int kvs.length) H) := by
  intro pins s σ H vs us Q I r h
  obtain ⟨a, kvs, rfl, e, q⟩ := h
  rw [Vals.ref1 r]
  exact d_len I e fun t s' I' => ⟨.int _, H, I', ⟨t, rfl⟩, q⟩
theorem de_len (hg : Gl X "len") (hm : X.mg "len" = none) (ha : DA X W [e] fa) (he : starEach [e] X.env = (false, eval e X.env) :: starEach [] X.env := by rfl) : DE X W (.Call (.Name "len" p) [e] [] pos) (eA lenM fa) :=
  de_callB (call_len_seq.or (call_len_str.or call_lenRd)) sim_len hg hm PySem.boot_len ha (by decide) (by decide) he
def intM : List D → M D := fun ds S => match ds with
  | [.p (.int i)] => .ok (.p (.int i)) S
  | [.p (.bool b)] => .ok (.p (.int (if b then 1 else 0))) S
  | _ => .bad
theorem de_int1 (hg : Gl X "int") (hm : X.mg "int" = none) (ha : DA X W [e] fa) (he : starEach [e] X.env = (false, eval e X.env) :: starEach [] X.env := by rfl) : DE X W (.Call (.Name "int" p) [e] [] pos) (eA intM fa) :=
  de_callTy (r := fun xs H Q => (∃ i, xs = [.int i] ∧ Q (.int i) H) ∨ ∃ k, xs = [.bl k] ∧ Q (.int (if k then 1 else 0)) H) call_int1 (by
    intro W σ H G S xs vs Q rp dv q
    unfold intM at q
    split at q
    · rename_i i
      obtain ⟨v, rfl, dv1⟩ := denL1 dv
      replace dv := dv1
      rw [den_int dv]
      exact .inl ⟨i, rfl, q.ret rp (.int _)⟩
    · rename_i b
      obtain ⟨v, rfl, dv1⟩ := denL1 dv
      replace dv := dv1
      rw [den_bool dv]
      exact .inr ⟨b, rfl, q.ret rp (.int _)⟩
    · exact q.elim) hg hm (by decide +kernel) ha (by decide) (by decide) he
def tupleM : List D → M D := fun ds S => match ds with
  | [.p (.tuple xs)] => .ok (.p (.tuple xs)) S
  | [d] => match lstOf S d with
    | some xs => .ok (.p (.tuple xs)) S
    | none => .bad
  | _ => .bad
def reprM : List D → M D := fun ds S => match ds with
  | [.p d] => if d.showable && (decide (d.depth ≤ 60) && decide (d.shown.length ≤ LIM)) then .ok (.p (.str d.shown)) S else .bad
  | _ => .bad
def rRepr (K : PySem.W.Frag) : List V → Hp → VK → Prop := fun xs H Q => ∃ v d φ, xs = [v] ∧ Holds φ H ∧ Dn K φ H d v ∧ d.showable = true ∧ d.depth ≤ 60 ∧ d.shown.length ≤ LIM ∧ Q (.str d.shown) H
theorem pairs_keys {P : Program} {w : World} {h : Heap} : ∀ {es : List DictEntry} {kvs : List (Key × Value)} {ds : List PyData} {ws : List (Key × V)}, Pairs (mixKind P w) es kvs → KV ws kvs → ds = ws.map (fun p => keyPy p.1) → RDs h (es.map (·.key)) ds
  | _, _, _, _, .nil, r, e => by
    cases r
    subst e
    exact .nil
  | _, _, _, _, .cons (e := en) hk hv t, r, e => by
    cases r with
    | cons r1 r2 =>
      rename_i pw ws
      subst e
      refine .cons ?_ (pairs_keys t r2 rfl)
      have hk : keyIs _ en.key = true := hk
      rw [← r1.1] at hk
      rcases keyIs_shape hk with ⟨i, tk, e1, e2⟩ | ⟨z, tk, e1, e2⟩
      · show RD h en.key (keyPy pw.1)
        rw [e2, e1]; exact .int i tk
      · show RD h en.key (keyPy pw.1)
        rw [e2, e1]; exact .str z tk
theorem pairs_vals {P : Program} {w : World} : ∀ {es : List DictEntry} {kvs : List (Key × Value)} {ws : List (Key × V)}, Pairs (mixKind P w) es kvs → KV ws kvs → Vals (ws.map (·.2)) (es.map (·.val))
  | _, _, _, .nil, r => by cases r; exact .nil
  | _, _, _, .cons hk hv t, r => by
    cases r with
    | cons r1 r2 => exact .cons (by rw [← hv] at r1; exact r1.2) (pairs_vals t r2)
theorem huge_noshow : PyData.showable (.int hugeI) = false := by
  simp only [PyData.showable, hugeI]
  decide +kernel
theorem insK_noshow (nm : Str) (kvs : List (PyData × PyData)) : PyData.showable (.dict ((.tuple [.str nm, .int hugeI], .none) :: kvs)) = false := by
  have h := huge_noshow
  simp only [PyData.showable, PyData.showableKv, PyData.showableAll] at h ⊢
  rw [h]; simp
mutual
theorem Dn.rd {φ : List (Addr × HO)} {pins : List (Addr × Obj)} {σ : L2.St} {H : Hp} {s : Shared} (I : Inv X pins σ H s) (hφ : Holds φ H) : ∀ {d : PyData} {v : V} {u : Value}, d.showable = true → Dn X.K φ H d v → RelV v u → RD s.heap u d
  | _, _, _, _, .non, r => by cases r; exact .none
  | _, _, _, _, .bl b, r => by cases r; exact .bool b
  | _, _, _, _, .int i, r => by obtain ⟨t, rfl⟩ := r; exact .int i t
  | _, _, _, _, .str x, r => by obtain ⟨t, rfl⟩ := r; exact .str x t
  | _, _, _, hs, .lst f t, r => by
    cases r
    obtain ⟨its, n, rv, e, _⟩ := I.lst (f H hφ)
    exact .list e rfl rfl (DnAll.rd I hφ (by simpa [PyData.showable] using hs) t (by simpa using rv))
  | _, _, _, hs, .tup f t, r => by
    cases r
    obtain ⟨its, rv, ⟨o, e, c, n, dd⟩, _⟩ := I.tuple f
    exact .tuple e c dd (DnAll.rd I hφ (by simpa [PyData.showable] using hs) t (by simpa using rv))
  | _, _, _, hs, .dic (ws := ws) f ek t, r => by
    cases r
    obtain ⟨_, hsys, vs, rel, o, es, ep, e, ex, dd, _, pr, _⟩ := dk_rd I.hok (.inr ⟨f.choose, f.choose_spec H hφ⟩)
    exact .dict e ex.1 dd hsys (pairs_keys pr rel ek) (DnAll.rd I hφ (PyData.showableKv_split _ (by simpa [PyData.showable] using hs)).2 t (pairs_vals pr rel))
  | _, _, _, hs, .ins _ _ _ _, r => by rw [insK_noshow] at hs; cases hs
theorem DnAll.rd {φ : List (Addr × HO)} {pins : List (Addr × Obj)} {σ : L2.St} {H : Hp} {s : Shared} (I : Inv X pins σ H s) (hφ : Holds φ H) : ∀ {ds : List PyData} {vs : List V} {us : List Value}, PyData.showableAll ds = true → DnAll X.K φ H ds vs → Vals vs us → RDs s.heap us ds
  | _, _, _, _, .nil, r => by cases r; exact .nil
  | _, _, _, hs, .cons h t, r => by
    simp only [PyData.showableAll, Bool.and_eq_true] at hs
    cases r with
    | cons r1 r2 => exact .cons (Dn.rd I hφ hs.1 h r1) (DnAll.rd I hφ hs.2 t r2)
end
theorem call_reprD (hgd : X.A.guards = some []) (hu : X.A.units + 64 < cLine) : CallR X (.builtin "repr") (rRepr X.K) := by
  intro pins s σ H xs us Q I r q
  obtain ⟨v, d, φ, rfl, hφ, dn, hs, hd, hz, q⟩ := q
  obtain ⟨u, rfl, rv⟩ := vals1 r
  exact repr_RD (Dn.rd I hφ hs dn rv) hs (Nat.le_trans hz LIM_le) hgd (by omega) fun h' t tk hk => ⟨.str d.shown, H, I.kept hk, ⟨t, rfl⟩, q⟩
theorem de_repr (hgd : X.A.guards = some []) (hu : X.A.units + 64 < cLine) (hg : Gl X "repr") (hm : X.mg "repr" = none) (ha : DA X W [e] fa) (he : starEach [e] X.env = (false, eval e X.env) :: starEach [] X.env := by rfl) : DE X W (.Call (.Name "repr" p) [e] [] pos) (eA reprM fa) :=
  de_callB (call_reprD hgd hu) (by
    intro W σ H G S xs vs Q rp dv q
    unfold reprM at q
    split at q
    · rename_i d
      obtain ⟨v, rfl, dv1⟩ := denL1 dv
      by_cases hc : (d.showable && (decide (d.depth ≤ 60) && decide (d.shown.length ≤ LIM))) = true
      · rw [if_pos hc] at q
        simp only [Bool.and_eq_true, decide_eq_true_eq] at hc
        exact ⟨v, d, G.φ, rfl, rp.phi, dv1, hc.1, hc.2.1, hc.2.2, q.ret rp (.str _)⟩
      · rw [if_neg hc] at q; exact q.elim
    · exact q.elim) hg hm (by decide +kernel) ha (by decide) (by decide) he
end
inductive Tg where
  | str | tuple | int | bool | list | dict
def Tg.nm : Tg → String
  | .str => "str" | .tuple => "tuple" | .int => "int" | .bool => "bool" | .list => "list" | .dict => "dict"
/-- an instance's pairs -/
def insL : List (PyData × PyData) → Bool
  | (.tuple _, _) :: _ => true
  | _ => false
def insX : PyData → Bool
  | .dict l => insL l
  | _ => false
def isT : Tg → PyData → Bool
  | .str, .str _ => true
  | .tuple, .tuple _ => true
  | .int, .int _ => true
  | .int, .bool _ => true
  | .bool, .bool _ => true
  | .list, .list _ => true
  | .dict, .dict l => !insL l
  | _, _ => false
def isiM (T : Tg) : D → M D := fun d S => match d with
  | .p x => .ok (.p (.bool (isT T x))) S
  | _ => .bad
def tyP : PyData → String
  | .none => "NoneType" | .bool _ => "bool" | .int _ => "int" | .str _ => "str" | .list _ => "list" | .tuple _ => "tuple" | .dict _ => "dict"
theorem Tg.mem (T : Tg) : T.nm ∈ ["str", "tuple", "int", "bool", "list", "dict"] := by cases T <;> decide
theorem keys_noT {kvs : List (PyData × PyData)} {ws : List (Key × V)} (e : kvs.map (·.1) = ws.map (fun p => keyPy p.1)) : insL kvs = false := by
  cases kvs with
  | nil => rfl
  | cons p r =>
    obtain ⟨k, x⟩ := p
    cases ws with
    | nil => cases e
    | cons q ws =>
      obtain ⟨e1, _⟩ := List.cons.inj (show k :: r.map (·.1) = keyPy q.1 :: ws.map (fun p => keyPy p.1) from e)
      subst e1
      obtain ⟨qk, qv⟩ := q
      cases qk <;> rfl
/-- an instance's type, for isinstance -/
theorem kit_ins {X : Cx} {pins : List (Addr × Obj)} {σ : L2.St} {H : Hp} {s : Shared} {φ : List (Addr × HO)} {a C : Addr} {ws : List (Str × V)} (I : Inv X pins σ H s) (hφ : Holds φ H) (h : InsAt X.K φ a C ws) : NotT X.K C ∧ ∃ P : Heap → Prop, PySem.W.KitX X.K (.ref a) (.ref C) P ∧ P s.heap := by
  cases h with
  | pl h c _ =>
    obtain ⟨P, k, p, _⟩ := L2.kit_of (x := .ref a) I rfl (TyX.base (TyOf.ins (hφ _ h) c.cl c.ha c.hn c.ht c.hm))
    exact ⟨c.no, P, k, p⟩
  | ex h1 h2 c na =>
    rename_i dx
    obtain ⟨t1, ho⟩ := exo_at I.hok (hφ _ h1)
    obtain ⟨mA, hns, _⟩ := exd_at I.hok (hφ _ h2)
    obtain ⟨od, es, ep, hod, _⟩ := hns
    exact ⟨c.no, _, PySem.W.kitx_excD (ox := { cls := .ref C, dict := some dx, data := .fields #[.ref t1, .none, .none, .none, .bool false, .none] }) c.ex.hg c.ex.hk c.ex.hs c.ex.hd c.ex.ha c.ex.hn c.ex.ht c.ex.hm, od, ⟨ho, rfl, rfl, hod⟩⟩
  | ex0 h c =>
    obtain ⟨t1, ho⟩ := exo_at I.hok (hφ _ h)
    exact ⟨c.no, _, PySem.W.handS_kitx_exc (ox := { cls := .ref C, dict := none, data := .fields #[.ref t1, .none, .none, .none, .bool false, .none] }) c.ex.hg c.ex.hk c.ex.hs c.ex.hd c.ex.ha c.ex.hn c.ex.ht c.ex.hm, ⟨ho, rfl, rfl, trivial⟩⟩
theorem ty_dn {K : PySem.W.Frag} {H : Hp} {φ : List (Addr × HO)} (hφ : Holds φ H) {x : PyData} {v : V} (h : Dn K φ H x v) : (insX x = false ∧ TyX K H v (.type (tyP x))) ∨ ∃ a C nm ws kvs, v = .ref a ∧ x = .dict ((.tuple [.str nm, .int hugeI], .none) :: kvs) ∧ InsAt K φ a C ws ∧ clsOf K nm = .ref C ∧ kvs.map (·.1) = ws.map (fun p => PyData.str p.1) ∧ DnAll K φ H (kvs.map (·.2)) (ws.map (·.2)) := by
  cases h with
  | non => exact .inl ⟨rfl, .base .non⟩
  | bl b => exact .inl ⟨rfl, .base (.bl b)⟩
  | int i => exact .inl ⟨rfl, .base (.int i)⟩
  | str z => exact .inl ⟨rfl, .base (.str z)⟩
  | lst f t => exact .inl ⟨rfl, .base (.lst (f H hφ))⟩
  | tup f t =>
    refine .inl ⟨rfl, ?_⟩
    rcases f with (f | ⟨o, f⟩) | ⟨o, its, n, k1, k2, _⟩
    · exact .base (.tup f)
    · exact .fTuple f
    · exact .kTuple k1 k2
  | dic f e t => exact .inl ⟨keys_noT e, .fDict (f.choose_spec H hφ)⟩
  | ins f c e t => exact .inr ⟨_, _, _, _, _, rfl, rfl, f, c, e, t⟩
def rdO (K : PySem.W.Frag) (W : WX) (f : Ev → M (Option Int)) : TO := fun σ H Q => ∃ G S ρ, RelS K H G ρ σ ∧ Rep K H G S ∧ Aft K W σ H G S (f ρ S) fun o H' _ _ => Q o H'
def oNone : Ev → M (Option Int) := fun _ S => .ok none S
def oInt : D → M (Option Int) := fun d S => match d with
  | .p (.int i) => .ok (some i) S
  | _ => .bad
def oSome (f : FE) : Ev → M (Option Int) := fun ρ S => (f ρ S).bind oInt
/-- a list, also the script -/
def rlOf (S : Sto) : D → Option (List PyData)
  | .p (.list l) => some l
  | .ro l => some l
  | .ob i => match S[i]? with
    | some (.lst l) => some l
    | _ => none
  | _ => none
theorem rlOf_den {K : PySem.W.Frag} {H : Hp} {G : Gh} {S : Sto} (rp : Rep K H G S) {d : D} {v : V} {xs : List PyData} (e : rlOf S d = some xs) (h : Den K H G d v) : ∃ a vs, v = .ref a ∧ SqL K H a vs ∧ DnAll K G.φ H xs vs := by
  cases d with
  | p x =>
    cases x with
    | list l =>
      cases e
      obtain ⟨a, vs, rfl, f, t⟩ := den_lst h
      exact ⟨a, vs, rfl, SqL.of (f H rp.phi), t⟩
    | _ => cases e
  | ob i =>
    simp only [rlOf] at e
    split at e
    · rename_i ks ei
      cases e
      obtain ⟨a, rfl, ha⟩ := h
      obtain ⟨vs, e1, t⟩ := rp.ok i a _ ha ei
      exact ⟨a, vs, rfl, SqL.of e1, t⟩
    · cases e
  | ro l =>
    cases e
    obtain ⟨a, vs, rfl, f, t⟩ := h
    exact ⟨a, vs, rfl, f H rp.phi, t⟩
  | ext _ => cases e
def cutP (xs : List PyData) (lo hi : Option Int) : List PyData := (xs.drop (HT.sIx xs.length 0 lo)).take (HT.sIx xs.length xs.length hi - HT.sIx xs.length 0 lo)
theorem cut_dn {K : PySem.W.Frag} {φ : List (Addr × HO)} {H : Hp} {xs : List PyData} {vs : List V} {lo hi : Option Int} (t : DnAll K φ H xs vs) : DnAll K φ H (cutP xs lo hi) (cutV vs lo hi) := by
  unfold cutP cutV
  rw [t.length]
  exact (t.drop _).take _
def sliM : D → Option Int → Option Int → M D := fun d lo hi S => match d with
  | .p (.tuple xs) => .ok (.p (.tuple (cutP xs lo hi))) S
  | .p (.str z) => if z.length ≤ LIM then .ok (.p (.str (cutS z lo hi))) S else .bad
  | d => match rlOf S d with
    | some xs => .ok (.p (.list (cutP xs lo hi))) S
    | none => .bad
def eSli (f : FE) (lo hi : Ev → M (Option Int)) : FE := fun ρ S => (f ρ S).bind fun d S1 => (lo ρ S1).bind fun l S2 => (hi ρ S2).bind fun u S3 => sliM d l u S3
theorem cut_whole {xs : List PyData} {lo hi : Option Int} (h : HT.sIx xs.length 0 lo = 0 ∧ HT.sIx xs.length xs.length hi = xs.length) : cutP xs lo hi = xs := by
  unfold cutP
  rw [h.1, h.2]; simp
section
variable {X : Cx} {W : WX} {p2 pos : Pos} {e : Expr} {lo hi : Option Expr} {f : FE} {l u : Ev → M (Option Int)}
theorem do_none : PO X none (rdO X.K W oNone) := ⟨fun pins s σ H Q I ⟨G, S, ρ, rs, rp, q⟩ => po_none.run pins s σ H Q I (q H G Ext.refl rp)⟩
theorem do_some (h : DE X W e f) : PO X (some e) (rdO X.K W (oSome f)) := by
  refine ⟨fun pins s σ H Q I ⟨G, S, ρ, rs, rp, q⟩ => (po_some h.run).run pins s σ H Q I ⟨G, S, ρ, rs, rp, (Aft.bind q).mono fun d H1 G1 S1 x1 r1 q1 v dv => ?_⟩⟩
  unfold oInt at q1
  split at q1
  · rename_i i
    exact ⟨i, den_int dv, q1 H1 G1 Ext.refl r1⟩
  · exact q1.elim
theorem de_slice (he : DE X W e f) (hl : PO X lo (rdO X.K W l)) (hu : PO X hi (rdO X.K W u)) : DE X W (.Subscript e (.Slice lo hi none p2) pos) (eSli f l u) := by
  refine ⟨PE.imp (pe_slice (sl_list.or (sl_tupA.or sl_str)) he.run hl hu) fun σ H Q ⟨G, S, ρ, rs, rp, q⟩ => ?_⟩
  refine ⟨G, S, ρ, rs, rp, (Aft.bind q).mono fun d H1 G1 S1 x1 r1 q1 v dv => ?_⟩
  refine ⟨G1, S1, ρ, x1.relS rp rs, r1, (Aft.bind q1).mono fun lv H2 G2 S2 x2 r2 q2 => ?_⟩
  refine ⟨G2, S2, ρ, x2.relS r1 (x1.relS rp rs), r2, (Aft.bind q2).mono fun uv H3 G3 S3 x3 r3 q3 => ?_⟩
  have dv3 := (x2.trans x3).den r1 dv
  clear dv
  unfold sliM at q3
  split at q3
  · obtain ⟨a, vs, rfl, hq, t⟩ := den_tup dv3
    refine .inr (.inl ⟨a, vs, rfl, hq, fun hw => ?_, fun _ p hp => q3.newTup r3 (cut_dn t) hp⟩)
    rw [← t.length] at hw
    rw [cut_whole hw] at q3
    exact q3.ret r3 dv3
  · rename_i z
    by_cases hz : z.length ≤ LIM
    · rw [if_pos hz] at q3
      exact .inr (.inr ⟨z, den_str dv3, Nat.le_trans hz LIM_le, q3.ret r3 (.str _)⟩)
    · rw [if_neg hz] at q3; exact q3.elim
  · split at q3
    · rename_i xs es
      obtain ⟨a, vs, rfl, hq, t⟩ := rlOf_den r3 es dv3
      exact .inl ⟨a, vs, rfl, hq, fun p hp => q3.newLst r3 (cut_dn t) hp⟩
    · exact q3.elim
end
end DL
namespace DL
open PySem L2 PySem.Spec PyProof.Rows
def pairsD : List (FE × FE) → Ev → M (List (Key × PyData))
  | [] => fun _ S => .ok [] S
  | (fk, fv) :: r => fun ρ S => (fk ρ S).bind fun k S1 => (fv ρ S1).bind fun v S2 => (pairsD r ρ S2).bind fun kvs S3 => match k, v with
    | .p kd, .p vd => (match pyKey kd with
      | some key => .ok ((key, vd) :: kvs) S3
      | none => .bad)
    | _, _ => .bad
def mergeD (kvs : List (Key × PyData)) : List (Key × PyData) := kvs.foldl (fun acc kv => putD acc kv.1 kv.2) []
def finDL : List (Key × PyData) → M D := fun kvs S => .ok (.p (.dict (pyKv kvs))) S
def finDM : List (Key × PyData) → M D := fun kvs S => .ok (.ob S.length) (S ++ [.dic kvs])
def eDisp (fs : List (FE × FE)) (fin : List (Key × PyData) → M D) : FE := fun ρ S => (pairsD fs ρ S).bind fun kvs S1 => if kvs.length ≤ 15 then fin (mergeD kvs) S1 else .bad
inductive DPs (X : Cx) (W : WX) (pos : Pos) : List (Option Expr) → List Expr → List (FE × FE) → Prop where
  | nil : DPs X W pos [] [] []
  | cons {k v : Expr} {ks : List (Option Expr)} {vs : List Expr} {fk fv : FE} {fs : List (FE × FE)} (hk : DE X W k fk) (hv : DE X W v fv) (hr : DPs X W pos ks vs fs) : DPs X W pos (some k :: ks) (v :: vs) ((fk, fv) :: fs)
section
variable {K : PySem.W.Frag} {φ : List (Addr × HO)} {H H1 : Hp} {G G1 : Gh} {S S1 : Sto} {D : Addr} {o : HO}
theorem KvR.mono {φ' : List (Addr × HO)} {H' : Hp} {kvs : List (Key × PyData)} {ws : List (Key × V)} (r : KvR K φ H kvs ws) (hs : ∀ p ∈ φ, p ∈ φ') (ht : ∀ a vs, SqT K H a vs → SqT K H' a vs) : KvR K φ' H' kvs ws := ⟨r.ks, r.vs.mono hs ht⟩
theorem KvR.merge : ∀ {kvs : List (Key × PyData)} {ws : List (Key × V)} {acc : List (Key × PyData)} {bcc : List (Key × V)}, KvR K φ H kvs ws → KvR K φ H acc bcc → KvR K φ H (kvs.foldl (fun acc kv => putD acc kv.1 kv.2) acc) (ws.foldl (fun acc kv => putK acc kv.1 kv.2) bcc)
  | [], _, _, _, r, b => by rw [r.nil_inv]; exact b
  | p :: kvs, _, _, _, r, b => by
    obtain ⟨v, ws, rfl, h, t⟩ := r.inv
    rw [List.foldl_cons, List.foldl_cons]
    exact KvR.merge t (b.put h)
theorem tup_aside {u : HO} (e : H D = some o) (h1 : ∀ xs, o ≠ .tup xs) (h2 : ∀ ob v, o ≠ .frz ob v) : ∀ a vs, SqT K H a vs → SqT K (upd H D u) a vs := fun a vs h => by
  rcases h with (h | ⟨ob, h⟩) | h
  · exact .inl (.inl (by rw [upd_ne (ne_of h e (fun z => h1 _ z.symm))]; exact h))
  · exact .inl (.inr ⟨ob, by rw [upd_ne (ne_of h e (fun z => h2 _ _ z.symm))]; exact h⟩)
  · exact .inr h
theorem Rep.asideD {u : HO} (r : Rep K H G S) (b : Beside H G D o) (h1 : ∀ xs, o ≠ .tup xs) (h2 : ∀ ob v, o ≠ .frz ob v) : Rep K (upd H D u) G S := by
  refine ⟨r.len, r.nd, fun i a m g1 g2 => OkO.ext (G := G) (fun _ h => h) (tup_aside b.at_ h1 h2) (fun v hv => ?_) (r.ok i a m g1 g2), fun p hp => ?_, r.pnl⟩
  · rw [upd_ne (fun z => b.ι (by rw [← z]; exact List.mem_of_getElem? g1))]; exact hv
  · rw [upd_ne (b.φ p hp)]; exact r.phi p hp
end
section
variable {X : Cx} {W : WX} {pos : Pos} {keys : List (Option Expr)} {values : List Expr} {fs : List (FE × FE)}
theorem DPs.run (h : DPs X W pos keys values fs) : PPs X pos keys values (fs.map fun p => (rd X.K W p.1, rd X.K W p.2)) := by
  induction h with
  | nil => exact pps_nil
  | cons hk hv hr ih => exact pps_cons hk.run hv.run ih
theorem pairs_read {K : PySem.W.Frag} : ∀ (fs : List (FE × FE)) {σ : L2.St} {H : Hp} {G : Gh} {S : Sto} {ρ : Ev} {R : List (V × V) → Hp → Prop}, RelS K H G ρ σ → Rep K H G S →
    Aft K W σ H G S (pairsD fs ρ S) (fun kvs H' G' _ => ∀ ws, KvR K G'.φ H' kvs ws → R (ws.map fun kv => (kV kv.1, kv.2)) H') → tPairs (fs.map fun p => (rd K W p.1, rd K W p.2)) σ H R
  | [], σ, H, G, S, ρ, R, rs, rp, q => q H G Ext.refl rp [] .nil
  | (fk, fv) :: r, σ, H, G, S, ρ, R, rs, rp, q => by
    refine ⟨G, S, ρ, rs, rp, (Aft.bind q).mono fun k H1 G1 S1 x1 r1 q1 kv dk => ?_⟩
    refine ⟨G1, S1, ρ, x1.relS rp rs, r1, (Aft.bind q1).mono fun v H2 G2 S2 x2 r2 q2 vv dv => ?_⟩
    refine pairs_read r (x2.relS r1 (x1.relS rp rs)) r2 ((Aft.bind q2).mono fun kvs H3 G3 S3 x3 r3 q3 ws kr => ?_)
    have dk3 := (x2.trans x3).den r1 dk
    have dv3 := x3.den r2 dv
    split at q3
    · split at q3
      · rename_i kd vd key ek
        have ekd := keyPy_of ek
        subst ekd
        have ev : kv = kV key := by
          cases key with
          | inl i => exact den_int dk3
          | inr z => exact den_str dk3
        subst ev
        exact q3 H3 G3 Ext.refl r3 ((key, vv) :: ws) (kr.cons dv3)
      · exact q3.elim
    · exact q3.elim
theorem de_dispL (h : DPs X W pos keys values fs) (hall : keys.all (·.isSome) = true := by rfl) (hl : keys.length = values.length := by rfl) (h0 : keys ≠ [] := by exact (fun z => nomatch z)) (h15 : keys.length ≤ 15 := by decide) : DE X W (.Dict keys values pos) (eDisp fs finDL) := by
  refine ⟨PE.imp (PE.lk (pe_disp h.run hall hl h0 h15)) fun σ H Q ⟨G, S, ρ, rs, rp, q⟩ p hp => ?_⟩
  have x0 := Ext.other (o := .dK []) rp hp
  have r0 := Rep.other (o := .dK []) rp hp
  have b0 : Beside (upd H p (.dK [])) G p (.dK []) := ⟨upd_same, rp.notIn hp, rp.notPhi hp⟩
  refine pairs_read fs (x0.relS rp rs) r0 ?_
  have q' := Aft.bind q
  cases eo : pairsD fs ρ S with
  | bad => rw [eo] at q'; exact q'
  | err x s => rw [eo] at q'; exact fun H1 G1 d x1 r1 e => q' H1 G1 d (x0.trans x1) r1 e
  | ok kvs S1 =>
    rw [eo] at q'
    intro H1 G1 x1 r1 ws kr
    have b1 := b0.ext x1
    have q1 := q' H1 G1 (x0.trans x1) r1
    by_cases hk : kvs.length ≤ 15
    · simp only [if_pos hk] at q1
      refine ⟨b1.at_, ws, rfl, by rw [← kr.length]; exact hk, ?_⟩
      have nt : ∀ xs, HO.dK [] ≠ .tup xs := fun _ z => nomatch z
      have nf : ∀ ob v, HO.dK [] ≠ .frz ob v := fun _ _ z => nomatch z
      refine .inr ⟨p, .dK (mergeK [] ws), upd_same, trivial, fun od => ?_⟩
      rw [upd_twice]
      have b2 : Beside (upd H1 p (.frz od (.dK (mergeK [] ws)))) G1 p (.frz od (.dK (mergeK [] ws))) := ⟨upd_same, b1.ι, b1.φ⟩
      have r2 : Rep X.K (upd H1 p (.frz od (.dK (mergeK [] ws)))) G1 S1 := r1.asideD b1 nt nf
      have kr2 : KvR X.K G1.φ (upd H1 p (.frz od (.dK (mergeK [] ws)))) (mergeD kvs) (mergeK [] ws) := (kr.merge .nil).mono (fun _ h => h) (tup_aside b1.at_ nt nf)
      have xx : Ext H G S (upd H1 p (.frz od (.dK (mergeK [] ws)))) ⟨G1.ι, (p, .frz od (.dK (mergeK [] ws))) :: G1.φ⟩ S1 := ((x0.trans x1).aside hp).iceD hp
      have q2 := q'
      have fin : Aft X.K W σ H G S (.ok (.p (.dict (pyKv (mergeD kvs)))) S1) (QD X.K Q) := fun H9 G9 x9 r9 => by
        have := q' H9 G9 x9 r9
        simp only [if_pos hk] at this
        exact this H9 G9 Ext.refl r9
      exact fin _ _ xx (r2.iceD b2) _ (Dn.dicOf ⟨od, fun _ z => z _ List.mem_cons_self⟩ kr2.ks (kr2.vs.mono (fun _ h => List.mem_cons_of_mem _ h) fun _ _ h => h))
    · simp only [if_neg hk] at q1; exact q1.elim
theorem de_dispM (h : DPs X W pos keys values fs) (hall : keys.all (·.isSome) = true := by rfl) (hl : keys.length = values.length := by rfl) (h0 : keys ≠ [] := by exact (fun z => nomatch z)) (h15 : keys.length ≤ 15 := by decide) : DE X W (.Dict keys values pos) (eDisp fs finDM) := by
  refine ⟨PE.imp (pe_disp h.run hall hl h0 h15) fun σ H Q ⟨G, S, ρ, rs, rp, q⟩ p hp => ?_⟩
  have x0 := Ext.other (o := .dK []) rp hp
  have r0 := Rep.other (o := .dK []) rp hp
  have b0 : Beside (upd H p (.dK [])) G p (.dK []) := ⟨upd_same, rp.notIn hp, rp.notPhi hp⟩
  refine pairs_read fs (x0.relS rp rs) r0 ?_
  have q' := Aft.bind q
  cases eo : pairsD fs ρ S with
  | bad => rw [eo] at q'; exact q'
  | err x s => rw [eo] at q'; exact fun H1 G1 d x1 r1 e => q' H1 G1 d (x0.trans x1) r1 e
  | ok kvs S1 =>
    rw [eo] at q'
    intro H1 G1 x1 r1 ws kr
    have b1 := b0.ext x1
    have q1 := q' H1 G1 (x0.trans x1) r1
    by_cases hk : kvs.length ≤ 15
    · refine ⟨b1.at_, ws, rfl, by rw [← kr.length]; exact hk, ?_⟩
      have nt : ∀ xs, HO.dK [] ≠ .tup xs := fun _ z => nomatch z
      have nf : ∀ ob v, HO.dK [] ≠ .frz ob v := fun _ _ z => nomatch z
      have r2 : Rep X.K (upd H1 p (.dK (mergeK [] ws))) G1 S1 := r1.asideD b1 nt nf
      have kr2 : KvR X.K G1.φ (upd H1 p (.dK (mergeK [] ws))) (mergeD kvs) (mergeK [] ws) := (kr.merge .nil).mono (fun _ h => h) (tup_aside b1.at_ nt nf)
      have x2 : Ext H G S (upd H1 p (.dK (mergeK [] ws))) G1 S1 := (x0.trans x1).aside hp
      have fin : Aft X.K W σ H G S (.ok (.ob S1.length) (S1 ++ [.dic (mergeD kvs)])) (QD X.K Q) := by
        have q'' := Aft.bind q
        rw [eo] at q''
        intro H9 G9 x9 r9
        simp only [eDisp] at q
        rw [eo] at q
        simp only [Out.bind_ok, if_pos hk] at q
        exact q H9 G9 x9 r9
      refine fin _ (G1.add p) ?_ ?_ _ (show Den X.K _ (G1.add p) (.ob S1.length) (.ref p) from ⟨p, rfl, Gh.add_last r1 p⟩)
      · refine ⟨fun i a h => ?_, x2.phi, x2.frame, fun c l => ?_, fun c h => ?_, x2.phf⟩
        · have h := x2.pre i a h
          show (G1.ι ++ [p])[i]? = some a
          rw [List.getElem?_append_left (List.getElem?_eq_some_iff.mp h).1]; exact h
        · rcases Live.add r1 l with z | z
          · exact x2.fresh c z
          · rw [z]; exact .inr hp
        · rcases List.mem_append.mp (show c ∈ G1.ι ++ [p] from h) with z | z
          · exact x2.iot c z
          · have e : c = p := by simpa using z
            rw [e]; exact .inr hp
      · refine ⟨?_, ?_, fun i a mo h1 h2 => ?_, r2.phi, fun z hz l => ?_⟩
        · show (G1.ι ++ [p]).length = (S1 ++ [MO.dic (mergeD kvs)]).length
          rw [List.length_append, List.length_append, r1.len]; rfl
        · show (G1.ι ++ [p]).Nodup
          rw [List.nodup_append]
          refine ⟨r1.nd, by simp, fun a ha c hc => ?_⟩
          have e : c = p := by simpa using hc
          subst e
          intro z; subst z; exact b1.ι ha
        · have h1 : (G1.ι ++ [p])[i]? = some a := h1
          by_cases hi : i < S1.length
          · rw [List.getElem?_append_left (by rw [r1.len]; exact hi)] at h1
            rw [List.getElem?_append_left hi] at h2
            exact r2.ok i a mo h1 h2
          · have hl : i < (S1 ++ [MO.dic (mergeD kvs)]).length := (List.getElem?_eq_some_iff.mp h2).1
            rw [List.length_append] at hl
            have e : i = S1.length := by have : i < S1.length + 1 := hl; omega
            subst e
            rw [← r1.len] at h1
            simp at h1 h2
            subst h1 h2
            exact ⟨_, upd_same, kr2.ks, kr2.vs⟩
        · rcases Live.add r1 l with y | y
          · exact r2.pnl z hz y
          · exact b1.φ z hz y
    · simp only [if_neg hk] at q1; exact q1.elim
theorem de_dnewL : DE X W (.Dict [] [] pos) (fun _ S => .ok (.p (.dict [])) S) :=
  ⟨PE.imp (PE.lk pe_dnewK) fun σ H Q ⟨G, S, ρ, rs, rp, q⟩ d hd => Aft.newDicL (kvs := []) (ws := []) q rp rfl .nil hd⟩
end
inductive DJ (X : Cx) (W : WX) : List Expr → List FE → Prop where
  | nil : DJ X W [] []
  | cons {e : Expr} {f : FE} {es : List Expr} {fs : List FE} (h : DE X W e f) (r : DJ X W es fs) : DJ X W (e :: es) (f :: fs)
section
variable {X : Cx} {W : WX} {pos apos : Pos} {o e : Expr} {f g : FE}
theorem DJ.run {es : List Expr} {fs : List FE} (h : DJ X W es fs) : PJ X es (fs.map (rd X.K W)) := by
  induction h with
  | nil => exact .nil
  | cons h r ih => exact .cons h.run ih
end
end DL
namespace DL
open PySem L2 PySem.Spec PyProof.Rows
def eChain (g g' : D → D → M D) (a b c : FE) : FE := fun ρ S => (a ρ S).bind fun x S1 => (b ρ S1).bind fun y S2 => (g x y S2).bind fun z S3 => match z with
  | .p (.bool true) => (c ρ S3).bind fun w S4 => g' y w S4
  | .p (.bool false) => .ok (.p (.bool false)) S3
  | _ => .bad
def boolM : D → M Bool := fun d S => match d with
  | .p (.bool c) => .ok c S
  | _ => .bad
def tChain (g g' : D → D → M D) (a b c : FE) : FT := fun ρ S => (eChain g g' a b c ρ S).bind boolM
def appendM : D → List D → M D := fun o ds S => match o, ds with
  | .ob i, [.p x] => match S[i]? with
    | some (.lst xs) => if xs.length < LIM then .ok (.p .none) (S.set i (.lst (xs ++ [x]))) else .bad
    | _ => .bad
  | _, _ => .bad
def extendM : D → List D → M D := fun o ds S => match o, ds with
  | .ob i, [l] => match S[i]?, lstOf S l with
    | some (.lst xs), some ys => if xs.length + ys.length ≤ LIM then .ok (.p .none) (S.set i (.lst (xs ++ ys))) else .bad
    | _, _ => .bad
  | _, _ => .bad
/-- o.m(..) of a list -/
def eLm (m : D → List D → M D) (f : FE) (fa : FA) : FE := fun ρ S => (f ρ S).bind fun o S1 => match rlOf S1 o with
  | some _ => (fa ρ S1).bind fun ds S2 => m o ds S2
  | none => .bad
def SimM (K : PySem.W.Frag) (r : V → List V → Hp → VK → Prop) (m : D → List D → M D) : Prop :=
  ∀ (W : WX) (σ : L2.St) (H : Hp) (G : Gh) (S : Sto) (o : D) (ds : List D) (v : V) (vs : List V) (Q : VK), Rep K H G S → Den K H G o v → DenL K H G ds vs → Aft K W σ H G S (m o ds S) (QD K Q) → r v vs H Q
section
variable {K : PySem.W.Frag}
theorem Aft.chgLst {W : WX} {σ : L2.St} {H : Hp} {G : Gh} {S : Sto} {Q : VK} {i : Nat} {a : Addr} {m : MO} {xs : List PyData} {vs : List V} {d : PyData} {v : V} (q : Aft K W σ H G S (.ok (.p d) (S.set i (.lst xs))) (QD K Q)) (rp : Rep K H G S) (ha : G.ι[i]? = some a) (hm : S[i]? = some m) (hl : m ≠ .dead) (t : DnAll K G.φ H xs vs) (dv : Dn K G.φ H d v) : Q v (upd H a (.lst vs)) := by
  have x := Ext.chg (o := .lst vs) (m' := .lst xs) rp ha hm hl
  exact q _ G x (rp.chg ha hm hl ⟨vs, upd_same, x.dnAll rp t⟩) v (x.dn rp dv)
theorem sim_append : SimM K rAppend appendM := by
  intro W σ H G S o ds v vs Q rp dv dvs q
  unfold appendM at q
  split at q
  · rename_i i x
    obtain ⟨a, rfl, ha⟩ := dv
    obtain ⟨u, rfl, du⟩ := denL1 dvs
    split at q
    · rename_i xs em
      obtain ⟨us, e1, t⟩ := rp.ok i a _ ha em
      by_cases hl : xs.length < LIM
      · rw [if_pos hl] at q
        exact ⟨a, us, u, rfl, rfl, e1, by rw [← t.length]; exact Nat.lt_trans hl LIM_lt, q.chgLst rp ha em (fun z => nomatch z) (t.append (.cons du .nil)) .non⟩
      · rw [if_neg hl] at q; exact q.elim
    · exact q.elim
  · exact q.elim
theorem sim_extend : SimM K rExtend extendM := by
  intro W σ H G S o ds v vs Q rp dv dvs q
  unfold extendM at q
  split at q
  · rename_i i l
    obtain ⟨a, rfl, ha⟩ := dv
    obtain ⟨u, rfl, du⟩ := denL1 dvs
    split at q
    · rename_i xs ys em el
      obtain ⟨us, e1, t⟩ := rp.ok i a _ ha em
      obtain ⟨b, ws, rfl, e2, t2⟩ := lstOf_den rp el du
      by_cases hl : xs.length + ys.length ≤ LIM
      · rw [if_pos hl] at q
        exact ⟨a, b, us, ws, rfl, rfl, e1, e2, by rw [← t.length, ← t2.length]; exact Nat.le_trans hl LIM_le, q.chgLst rp ha em (fun z => nomatch z) (t.append t2) .non⟩
      · rw [if_neg hl] at q; exact q.elim
    · exact q.elim
  · exact q.elim
end
section
variable {X : Cx} {W : WX} {o e : Expr} {es : List Expr} {f : FE} {fa : FA} {apos cpos : Pos} {r : V → List V → Hp → VK → Prop} {m : D → List D → M D}
theorem lm_read (sm : SimM X.K r m) {σ : L2.St} {H : Hp} {Q : VK} (q : rd X.K W (eLm m f fa) σ H Q) : tBM X.K "list" r (rd X.K W f) (rdA X.K W fa) σ H Q := by
  obtain ⟨G, S, ρ, rs, rp, q⟩ := q
  refine ⟨G, S, ρ, rs, rp, (Aft.bind q).mono fun od H1 G1 S1 x1 r1 q1 v dv => ?_⟩
  split at q1
  · rename_i xs eo
    obtain ⟨a, vs, rfl, hq, t⟩ := rlOf_den r1 eo dv
    refine ⟨.inl ⟨rfl, vs, hq⟩, G1, S1, ρ, x1.relS rp rs, r1, (Aft.bind q1).mono fun ds H2 G2 S2 x2 r2 q2 us dus => ?_⟩
    exact sm W σ H2 G2 S2 od ds _ us Q r2 (x2.den r1 dv) dus q2
  · exact q1.elim
theorem de_append (ho : DE X W o f) (ha : DA X W (e :: es) fa) (hbase : attributeBase o "append" X.env (eval o X.env) = eval o X.env := by rfl)
    (hfew : ((backTo cpos (starEach (e :: es) X.env)).all (fun x => !x.1) && (backToKw cpos (keywordEach [] X.env)).all (fun x => x.1.isSome)
      && decide ((e :: es).length + ([] : List Keyword).length + (if ([] : List Keyword).isEmpty then 0 else 1) < 30)) = true := by rfl)
    (hline : (apos.endLine == cpos.line) = true := by rfl) (hs : starEach (e :: es) X.env = (false, eval e X.env) :: starEach es X.env := by rfl) (hplain : (backTo cpos (starEach es X.env)).any (·.1) = false := by rfl) :
    DE X W (.Call (.Attribute o "append" apos) (e :: es) [] cpos) (eLm appendM f fa) :=
  ⟨PE.imp (pe_bm PySem.F.plainAttrs_list PySem.F.slot_list_append PySem.F.type_list_append mt_append ho.run ha.run hbase hfew hline hs hplain) fun _ _ _ q => lm_read sim_append q⟩
theorem de_extend (ho : DE X W o f) (ha : DA X W (e :: es) fa) (hbase : attributeBase o "extend" X.env (eval o X.env) = eval o X.env := by rfl)
    (hfew : ((backTo cpos (starEach (e :: es) X.env)).all (fun x => !x.1) && (backToKw cpos (keywordEach [] X.env)).all (fun x => x.1.isSome)
      && decide ((e :: es).length + ([] : List Keyword).length + (if ([] : List Keyword).isEmpty then 0 else 1) < 30)) = true := by rfl)
    (hline : (apos.endLine == cpos.line) = true := by rfl) (hs : starEach (e :: es) X.env = (false, eval e X.env) :: starEach es X.env := by rfl) (hplain : (backTo cpos (starEach es X.env)).any (·.1) = false := by rfl) :
    DE X W (.Call (.Attribute o "extend" apos) (e :: es) [] cpos) (eLm extendM f fa) :=
  ⟨PE.imp (pe_bm PySem.F.plainAttrs_list PySem.F.slot_list_extend PySem.F.type_list_extend mt_extend ho.run ha.run hbase hfew hline hs hplain) fun _ _ _ q => lm_read sim_extend q⟩
variable {g h : FE} {e2 : Expr}
end
end DL
namespace DL
open PySem L2 PySem.Spec PyProof.Rows
def opEqX (neg : Bool) : D → D → M D := fun x y S => match x, y with
  | .p (.str a), .p (.str b) => .ok (.p (.bool (if neg then !(a == b) else (a == b)))) S
  | .p (.int a), .p (.int b) => .ok (.p (.bool (if neg then !(a == b) else (a == b)))) S
  | .p (.bool a), .p (.bool b) => .ok (.p (.bool (if neg then !(a == b) else (a == b)))) S
  | .p (.tuple xs), .p (.tuple []) => .ok (.p (.bool (if neg then !xs.isEmpty else xs.isEmpty))) S
  | x, y => opEq neg x y S
def rT0 (K : PySem.W.Frag) (neg : Bool) : R2 := fun x y H Q => ∃ a b vs, x = .ref a ∧ y = .ref b ∧ SqT K H a vs ∧ SqT K H b [] ∧ Q (.bl (if neg then !vs.isEmpty else vs.isEmpty)) H
section
variable {X : Cx}
theorem op_eqT0 (hu : X.A.units < cLine) : OpR X (compareOp .Eq) (rT0 X.K false) := by
  intro pins s σ H x y v u Q I rx ry h
  obtain ⟨a, b, vs, rfl, rfl, ha, hb, q⟩ := h
  cases (show v = Value.ref a from rx)
  cases (show u = Value.ref b from ry)
  obtain ⟨its, r1, p1, _⟩ := I.tuple ha
  obtain ⟨jts, r2, p2, _⟩ := I.tuple hb
  cases r2
  have e1 : its.length = vs.length := r1.length.symm
  refine SeqAt.RcAt.tuples (e := fun _ => true) p1 p2 hu (fun j h1 h2 => absurd h2 (by simp)) X.prog X.w X.xe _ ?_
  refine ⟨.bl _, H, I, rfl, ?_⟩
  have e : vs.isEmpty = ((List.range (min its.toArray.size ([] : List Value).toArray.size)).all (fun _ => true) && its.toArray.size == ([] : List Value).toArray.size) := by
    cases vs <;> cases its <;> simp at e1 ⊢
  rw [← e]
  exact q
theorem op_neT0 (hu : X.A.units < cLine) : OpR X (compareOp .NotEq) (rT0 X.K true) := by
  intro pins s σ H x y v u Q I rx ry h
  obtain ⟨a, b, vs, rfl, rfl, ha, hb, q⟩ := h
  cases (show v = Value.ref a from rx)
  cases (show u = Value.ref b from ry)
  obtain ⟨its, r1, p1, _⟩ := I.tuple ha
  obtain ⟨jts, r2, p2, _⟩ := I.tuple hb
  cases r2
  have e1 : its.length = vs.length := r1.length.symm
  refine SeqAt.RcNeAt.tuples (e := fun _ => true) p1 p2 hu (fun j h1 h2 => absurd h2 (by simp)) X.prog X.w X.xe _ ?_
  refine ⟨.bl _, H, I, rfl, ?_⟩
  have e : vs.isEmpty = ((List.range (min its.toArray.size ([] : List Value).toArray.size)).all (fun _ => true) && its.toArray.size == ([] : List Value).toArray.size) := by
    cases vs <;> cases its <;> simp at e1 ⊢
  rw [← e]
  exact q
def rEqX (K : PySem.W.Frag) : R2 := fun x y H Q => rEq x y H Q ∨ rT0 K false x y H Q ∨ rEqD K x y H Q
def rNeX (K : PySem.W.Frag) : R2 := fun x y H Q => rNe x y H Q ∨ rT0 K true x y H Q ∨ rNeD K x y H Q
theorem op_eqX (hu : X.A.units + 64 < cLine) : OpR X (compareOp .Eq) (rEqX X.K) := by
  intro pins s σ H x y v u Q I rx ry h
  rcases h with h | h | h
  · exact op_eq pins s σ H x y v u Q I rx ry h
  · exact op_eqT0 (by omega) pins s σ H x y v u Q I rx ry h
  · exact op_eqD hu pins s σ H x y v u Q I rx ry h
theorem op_neX (hu : X.A.units + 64 < cLine) : OpR X (compareOp .NotEq) (rNeX X.K) := by
  intro pins s σ H x y v u Q I rx ry h
  rcases h with h | h | h
  · exact op_ne pins s σ H x y v u Q I rx ry h
  · exact op_neT0 (by omega) pins s σ H x y v u Q I rx ry h
  · exact op_neD hu pins s σ H x y v u Q I rx ry h
end
theorem DnAll.isE {K : PySem.W.Frag} {φ : List (Addr × HO)} {H : Hp} {ds : List PyData} {vs : List V} (h : DnAll K φ H ds vs) : ds.isEmpty = vs.isEmpty := by cases h <;> rfl
theorem sim_eqX {K : PySem.W.Frag} : Sim2 K (rEqX K) (opEqX false) := by
  intro W σ H G S x y v w Q rp dx dy q
  unfold opEqX at q
  split at q
  · rename_i a b
    obtain rfl := den_str dx; obtain rfl := den_str dy
    exact .inl ⟨rfl, by rw [dec_str]; exact q.ret rp (.bl _)⟩
  · rename_i a b
    obtain rfl := den_int dx; obtain rfl := den_int dy
    exact .inl ⟨rfl, by rw [dec_int]; exact q.ret rp (.bl _)⟩
  · rename_i a b
    obtain rfl := den_bool dx; obtain rfl := den_bool dy
    exact .inl ⟨rfl, by rw [dec_bl]; exact q.ret rp (.bl _)⟩
  · rename_i xs
    obtain ⟨a, vs, rfl, ha, t⟩ := den_tup dx
    obtain ⟨b, ws, rfl, hb, t2⟩ := den_tup dy
    cases t2
    refine .inr (.inl ⟨a, b, vs, rfl, rfl, ha, hb, ?_⟩)
    rw [t.isE] at q
    exact q.ret rp (.bl _)
  · exact .inr (.inr (sim_eq W σ H G S x y v w Q rp dx dy q))
theorem sim_neX {K : PySem.W.Frag} : Sim2 K (rNeX K) (opEqX true) := by
  intro W σ H G S x y v w Q rp dx dy q
  unfold opEqX at q
  split at q
  · rename_i a b
    obtain rfl := den_str dx; obtain rfl := den_str dy
    exact .inl ⟨rfl, by rw [dec_str]; exact q.ret rp (.bl _)⟩
  · rename_i a b
    obtain rfl := den_int dx; obtain rfl := den_int dy
    exact .inl ⟨rfl, by rw [dec_int]; exact q.ret rp (.bl _)⟩
  · rename_i a b
    obtain rfl := den_bool dx; obtain rfl := den_bool dy
    exact .inl ⟨rfl, by rw [dec_bl]; exact q.ret rp (.bl _)⟩
  · rename_i xs
    obtain ⟨a, vs, rfl, ha, t⟩ := den_tup dx
    obtain ⟨b, ws, rfl, hb, t2⟩ := den_tup dy
    cases t2
    refine .inr (.inl ⟨a, b, vs, rfl, rfl, ha, hb, ?_⟩)
    rw [t.isE] at q
    exact q.ret rp (.bl _)
  · exact .inr (.inr (sim_ne W σ H G S x y v w Q rp dx dy q))
end DL
namespace DL
open PySem L2
section
variable {ρ : Ev} {S : Sto} {f g h : FE} {fa : FA} {t u : FT} {a b c : FS} {d : D}
@[simp] theorem eC_ : eC d ρ S = .ok d S := rfl
@[simp] theorem aNil_ : aNil ρ S = .ok [] S := rfl
@[simp] theorem aCons_ : aCons f fa ρ S = (f ρ S).bind fun d S1 => (fa ρ S1).bind fun ds S2 => .ok (d :: ds) S2 := rfl
@[simp] theorem eA_ {m : List D → M D} : eA m fa ρ S = (fa ρ S).bind m := rfl
@[simp] theorem e2_ {m : D → D → M D} : e2 m f g ρ S = (f ρ S).bind fun x S1 => (g ρ S1).bind fun y S2 => m x y S2 := rfl
@[simp] theorem e1_ {m : D → M D} : e1 m f ρ S = (f ρ S).bind m := rfl
@[simp] theorem sNext_ : sNext ρ S = some (.next ρ, S) := rfl
theorem sSeq_ : sSeq a b ρ S = (match a ρ S with | some (.next ρ', S') => b ρ' S' | o => o) := rfl
theorem sSeq_next {ρ' : Ev} {S' : Sto} (e : a ρ S = some (.next ρ', S')) : sSeq a b ρ S = b ρ' S' := by unfold sSeq; rw [e]
@[simp] theorem sExpr_ : sExpr f ρ S = (f ρ S).st ρ fun _ S1 => some (.next ρ, S1) := rfl
@[simp] theorem sRet_ : sRet f ρ S = (f ρ S).st ρ fun d S1 => some (.ret d, S1) := rfl
@[simp] theorem sSet_ {i : Nat} : sSet i f ρ S = (f ρ S).st ρ fun d S1 => some (.next (ρ.set i (some d)), S1) := rfl
@[simp] theorem sIf_ : sIf t a b ρ S = (t ρ S).st ρ fun c S1 => if c = true then a ρ S1 else b ρ S1 := rfl
@[simp] theorem st_ok {α : Type} {x : α} {k : α → Sto → Option (Fl × Sto)} : (Out.ok x S).st ρ k = k x S := rfl
@[simp] theorem gN_ {i : Nat} : gN i d ρ S = some (ρ.set i (some d), S) := rfl
@[simp] theorem gNils_ : gNils [] ρ S = some (ρ, S) := rfl
@[simp] theorem gConss_ {x : FG} {y : FGs} {ds : List D} : gConss x y (d :: ds) ρ S = (match x d ρ S with | some (ρ1, S1) => y ds ρ1 S1 | none => none) := by
  unfold gConss; rfl
@[simp] theorem gSubD_ : gSubD f g d ρ S = (match f ρ S with
  | .ok o S1 => match g ρ S1 with
    | .ok i S2 => match setD o i d S2 with
      | some S3 => some (ρ, S3)
      | none => none
    | _ => none
  | _ => none) := rfl
@[simp] theorem sAsg_ {x : FG} : sAsg f x ρ S = (f ρ S).st ρ fun d S1 => match x d ρ S1 with
  | some (ρ', S2) => some (.next ρ', S2)
  | none => none := rfl
@[simp] theorem sAsgs_ {x : FGs} : sAsgs fa x ρ S = (fa ρ S).st ρ fun d S1 => match x d ρ S1 with
  | some (ρ', S2) => some (.next ρ', S2)
  | none => none := rfl
@[simp] theorem tVal_ : tVal f ρ S = (f ρ S).bind truM := rfl
@[simp] theorem tAnd_ : tAndD t u ρ S = (t ρ S).bind fun b S1 => if b = true then u ρ S1 else .ok false S1 := rfl
@[simp] theorem tOr_ : tOrD t u ρ S = (t ρ S).bind fun b S1 => if b = true then .ok true S1 else u ρ S1 := rfl
@[simp] theorem tNot_ : tNotD t ρ S = (t ρ S).bind fun b S1 => .ok (!b) S1 := rfl
@[simp] theorem eIf_ : eIf t f g ρ S = (t ρ S).bind fun b S1 => if b = true then f ρ S1 else g ρ S1 := rfl
@[simp] theorem eAnd_ : eAnd f g ρ S = (f ρ S).bind fun d S1 => (truM d S1).bind fun b S2 => if b = true then g ρ S2 else .ok d S2 := rfl
@[simp] theorem eOr_ : eOr f g ρ S = (f ρ S).bind fun d S1 => (truM d S1).bind fun b S2 => if b = true then .ok d S2 else g ρ S2 := rfl
@[simp] theorem eNot_ : eNot f ρ S = (f ρ S).bind fun d S1 => (truM d S1).bind fun b S2 => .ok (.p (.bool (!b))) S2 := rfl
@[simp] theorem tC2_ {m : D → D → M D} : tC2 m f g ρ S = (e2 m f g ρ S).bind fun d S1 => match d with | .p (.bool c) => .ok c S1 | _ => .bad := rfl
@[simp] theorem truM_b {b : Bool} : truM (.p (.bool b)) S = .ok b S := rfl
@[simp] theorem truM_l {xs : List PyData} : truM (.p (.list xs)) S = .ok (!xs.isEmpty) S := rfl
@[simp] theorem truM_t {xs : List PyData} : truM (.p (.tuple xs)) S = .ok (!xs.isEmpty) S := rfl
@[simp] theorem noErr_k {α : Type} {x : α} : noErr (.ok x S) = .ok x S := rfl
@[simp] theorem iSeq_ : iSeq f ρ S = (f ρ S).bind itM := rfl
@[simp] theorem iRange_ : iRange fa ρ S = (fa ρ S).bind rangeM := rfl
@[simp] theorem sFor_ {i : FI} {x : FG} : sFor i x a ρ S = (i ρ S).st ρ fun ds S1 => forD x a ds ρ S1 := rfl
@[simp] theorem oNone_ : oNone ρ S = .ok none S := rfl
@[simp] theorem oSome_ : oSome f ρ S = (f ρ S).bind oInt := rfl
@[simp] theorem oInt_ {i : Int} : oInt (.p (.int i)) S = .ok (some i) S := rfl
@[simp] theorem eSli_ {lo hi : Ev → M (Option Int)} : eSli f lo hi ρ S = (f ρ S).bind fun d S1 => (lo ρ S1).bind fun l S2 => (hi ρ S2).bind fun u S3 => sliM d l u S3 := rfl
@[simp] theorem tYes_ : tYesD ρ S = .ok true S := rfl
@[simp] theorem finL_ {ys : List PyData} : finL ys S = .ok (.p (.list ys)) S := rfl
@[simp] theorem tChain_ {m m' : D → D → M D} : tChain m m' f g h ρ S = (eChain m m' f g h ρ S).bind boolM := rfl
@[simp] theorem boolM_ {b : Bool} : boolM (.p (.bool b)) S = .ok b S := rfl
@[simp] theorem eChain_ {m m' : D → D → M D} : eChain m m' f g h ρ S = (f ρ S).bind fun x S1 => (g ρ S1).bind fun y S2 => (m x y S2).bind fun z S3 => match z with
  | .p (.bool true) => (h ρ S3).bind fun w S4 => m' y w S4
  | .p (.bool false) => .ok (.p (.bool false)) S3
  | _ => .bad := rfl
@[simp] theorem eCall_ {n : Nat} {m : List D → M D} : eCall n m fa ρ S = (fa ρ S).bind fun ds S1 => if ds.length = n then noErr (cutD S1.length (m ds S1)) else .bad := rfl
@[simp] theorem cutD_p {x : PyData} {n : Nat} : cutD n (.ok (.p x) S) = .ok (.p x) (S.take n) := rfl
end
@[simp] theorem eVar0 {d : D} {r : Ev} {S : Sto} : eVar 0 (some d :: r) S = .ok d S := rfl
@[simp] theorem eVarS {i : Nat} {d : Option D} {r : Ev} {S : Sto} : eVar (i + 1) (d :: r) S = eVar i r S := by unfold eVar; simp
@[simp] theorem pys_nil : pys [] = some [] := rfl
@[simp] theorem pys_cons {x : PyData} {r : List D} : pys (.p x :: r) = (pys r).map (x :: ·) := by
  simp only [pys]; cases pys r <;> rfl
@[simp] theorem opLt_i {i j : Int} {S : Sto} : opLt (.p (.int i)) (.p (.int j)) S = .ok (.p (.bool (decide (i < j)))) S := rfl
@[simp] theorem opLe_i {i j : Int} {S : Sto} : opLe (.p (.int i)) (.p (.int j)) S = .ok (.p (.bool (decide (i ≤ j)))) S := rfl
@[simp] theorem opGt_i {i j : Int} {S : Sto} : opGt (.p (.int i)) (.p (.int j)) S = .ok (.p (.bool (decide (j < i)))) S := rfl
@[simp] theorem opGe_i {i j : Int} {S : Sto} : opGe (.p (.int i)) (.p (.int j)) S = .ok (.p (.bool (decide (j ≤ i)))) S := rfl
@[simp] theorem opAdd_i {i j : Int} {S : Sto} : opAdd (.p (.int i)) (.p (.int j)) S = .ok (.p (.int (i + j))) S := rfl
@[simp] theorem opSub_i {i j : Int} {S : Sto} : opSub (.p (.int i)) (.p (.int j)) S = .ok (.p (.int (i - j))) S := rfl
@[simp] theorem opNeg_i {i : Int} {S : Sto} : opNeg (.p (.int i)) S = .ok (.p (.int (-i))) S := rfl
theorem opMod_i {i j : Int} {S : Sto} (h : 0 < j) : opMod (.p (.int i)) (.p (.int j)) S = .ok (.p (.int (i % j))) S := by simp [opMod, opI, h]
theorem opPow_i {i j : Int} {S : Sto} (h0 : 0 ≤ j) (h1 : j ≤ 1000000) (h2 : i.natAbs < 2 ^ 64) : opPow (.p (.int i)) (.p (.int j)) S = .ok (.p (.int (i ^ j.toNat))) S := by
  have h3 : i.natAbs < 18446744073709551616 := h2
  simp [opPow, opI, h0, h1, h3]
@[simp] theorem intM_i {i : Int} {S : Sto} : intM [.p (.int i)] S = .ok (.p (.int i)) S := rfl
@[simp] theorem lenM_l {xs : List PyData} {S : Sto} : lenM [.p (.list xs)] S = .ok (.p (.int xs.length)) S := rfl
@[simp] theorem lenM_t {xs : List PyData} {S : Sto} : lenM [.p (.tuple xs)] S = .ok (.p (.int xs.length)) S := rfl
theorem atI_ok {xs : List PyData} {i : Int} (h0 : 0 ≤ i) (h1 : i < xs.length) : ∃ d, atI xs i = some d ∧ d ∈ xs := by
  have hk : i.toNat < xs.length := by omega
  have ek : i = ((i.toNat : Nat) : Int) := by omega
  refine ⟨xs[i.toNat], ?_, List.getElem_mem hk⟩
  have q : atI xs ((i.toNat : Nat) : Int) = some xs[i.toNat] := atI_nat (by simp [hk])
  rw [← ek] at q
  exact q
theorem subs_l {xs : List PyData} {i : Int} {d : PyData} {S : Sto} (h : atI xs i = some d) : opSubs (.p (.list xs)) (.p (.int i)) S = .ok (.p d) S := by simp [opSubs, seqOf, h]
theorem subs_t {xs : List PyData} {i : Int} {d : PyData} {S : Sto} (h : atI xs i = some d) : opSubs (.p (.tuple xs)) (.p (.int i)) S = .ok (.p d) S := by simp [opSubs, seqOf, h]
def tpd (cs : List PyData) (p l : Int) : List (Key × PyData) := [(.inr "cells", .list cs), (.inr "place", .int p), (.inr "left", .int l)]
section
variable {cs : List PyData} {p l : Int} {S : Sto} {i : Nat}
theorem tp_cells (h : S[i]? = some (.dic (tpd cs p l))) : opSubs (.ob i) (.p (.str "cells")) S = .ok (.p (.list cs)) S := by
  have e : valD (tpd cs p l) (.inr "cells") = some (.list cs) := rfl
  simp only [opSubs, dicOf, h, e]
theorem tp_place (h : S[i]? = some (.dic (tpd cs p l))) : opSubs (.ob i) (.p (.str "place")) S = .ok (.p (.int p)) S := by
  have e : valD (tpd cs p l) (.inr "place") = some (.int p) := rfl
  simp only [opSubs, dicOf, h, e]
theorem tp_left (h : S[i]? = some (.dic (tpd cs p l))) : opSubs (.ob i) (.p (.str "left")) S = .ok (.p (.int l)) S := by
  have e : valD (tpd cs p l) (.inr "left") = some (.int l) := rfl
  simp only [opSubs, dicOf, h, e]
theorem tp_setL {l' : Int} (h : S[i]? = some (.dic (tpd cs p l))) : setD (.ob i) (.p (.str "left")) (.p (.int l')) S = some (S.set i (.dic (tpd cs p l'))) := by
  have e : putD (tpd cs p l) (.inr "left") (.int l') = tpd cs p l' := rfl
  have e2 : pyKey (.str "left") = some (.inr "left") := rfl
  have e3 : (tpd cs p l).length < LIM := by show 3 < LIM; decide
  simp only [setD, h, e2, e, if_pos e3]
theorem tp_setP {p' : Int} (h : S[i]? = some (.dic (tpd cs p l))) : setD (.ob i) (.p (.str "place")) (.p (.int p')) S = some (S.set i (.dic (tpd cs p' l))) := by
  have e : putD (tpd cs p l) (.inr "place") (.int p') = tpd cs p' l := rfl
  have e2 : pyKey (.str "place") = some (.inr "place") := rfl
  have e3 : (tpd cs p l).length < LIM := by show 3 < LIM; decide
  simp only [setD, h, e2, e, if_pos e3]
theorem tp_at {o : MO} (h : S[i]? = some (.dic (tpd cs p l))) : (S.set i o)[i]? = some o := by
  rw [List.getElem?_set_self]
  exact (List.getElem?_eq_some_iff.mp h).1
end
end DL
namespace DL
open PySem L2
theorem run_ret {m : Nat} {b : FS} {ds : List D} {S S' : Sto} {d : D} (e : b (ds.map some ++ List.replicate (m - ds.length) none) S = some (.ret d, S')) : runF m b ds S = .ok d S' := by unfold runF; rw [e]
@[simp] theorem cut_len {x : PyData} {S : Sto} : cutD S.length (.ok (.p x) S) = .ok (.p x) S := by simp
/-- a comprehension whose test and value leave the store as it is -/
theorem lcD_filter {g : FG} {t : FT} {e : FE} {ρ : Ev} {S : Sto} (c : D → Bool) (h : D → PyData) : ∀ {ds : List D}, (∀ d ∈ ds, ∃ ρ1, g d ρ S = some (ρ1, S) ∧ t ρ1 S = .ok (c d) S ∧ (c d = true → e ρ1 S = .ok (.p (h d)) S)) → lcD g t e ρ ds S = .ok ((ds.filter c).map h) S
  | [], _ => rfl
  | d :: r, H => by
    obtain ⟨ρ1, h1, h2, h3⟩ := H d List.mem_cons_self
    have ih := lcD_filter (ds := r) c h fun x hx => H x (List.mem_cons_of_mem _ hx)
    unfold lcD
    rw [h1]
    show (t ρ1 S).bind _ = _
    rw [h2]
    by_cases hc : c d = true
    · simp [hc, h3 hc, ih]
    · simp [hc, ih]
theorem lcD_map {g : FG} {e : FE} {ρ : Ev} {S : Sto} (h : D → PyData) {ds : List D} (H : ∀ d ∈ ds, ∃ ρ1, g d ρ S = some (ρ1, S) ∧ e ρ1 S = .ok (.p (h d)) S) : lcD g tYesD e ρ ds S = .ok (ds.map h) S := by
  have q := lcD_filter (t := tYesD) (e := e) (g := g) (ρ := ρ) (S := S) (fun _ => true) h (ds := ds) fun d hd => by
    obtain ⟨ρ1, h1, h2⟩ := H d hd
    exact ⟨ρ1, h1, rfl, fun _ => h2⟩
  rw [q, List.filter_eq_self.mpr fun _ _ => rfl]
@[simp] theorem eLc_ {f : FI} {g : FG} {t : FT} {e : FE} {vs : List Nat} {fin : List PyData → M D} {ρ : Ev} {S : Sto} : eLc f g t e vs fin ρ S = (f ρ S).bind fun ds S1 => if ds.length ≤ LIM then (noErr (lcD g t e (wipeD ρ vs) ds S1)).bind fin else .bad := rfl
@[simp] theorem itM_s {z : Str} {S : Sto} : itM (.p (.str z)) S = .ok (z.cps.toList.map fun c => D.p (.str ⟨#[c]⟩)) S := rfl
@[simp] theorem itM_l {xs : List PyData} {S : Sto} : itM (.p (.list xs)) S = .ok (xs.map .p) S := rfl
@[simp] theorem itM_t {xs : List PyData} {S : Sto} : itM (.p (.tuple xs)) S = .ok (xs.map .p) S := rfl
@[simp] theorem wipe1 {ρ : Ev} {v : Nat} : wipeD ρ [v] = ρ.set v none := rfl
@[simp] theorem isi_ {T : Tg} {x : PyData} {S : Sto} : isiM T (.p x) S = .ok (.p (.bool (isT T x))) S := rfl
@[simp] theorem in_ss {neg : Bool} {i j : Str} {S : Sto} : opIn neg (.p (.str i)) (.p (.str j)) S = .ok (.p (.bool (if neg then !inStr i j else inStr i j))) S := rfl
@[simp] theorem mkTup0 {S : Sto} : mkTup [] S = .ok (.p (.tuple [])) S := rfl
@[simp] theorem mkTup1 {S : Sto} {a : PyData} : mkTup [.p a] S = .ok (.p (.tuple [a])) S := rfl
@[simp] theorem mkTup2 {S : Sto} {a b : PyData} : mkTup [.p a, .p b] S = .ok (.p (.tuple [a, b])) S := rfl
@[simp] theorem mkTup3 {S : Sto} {a b c : PyData} : mkTup [.p a, .p b, .p c] S = .ok (.p (.tuple [a, b, c])) S := rfl
@[simp] theorem mkLst0 {S : Sto} : mkLst [] S = .ok (.p (.list [])) S := rfl
@[simp] theorem mkLst1 {S : Sto} {a : PyData} : mkLst [.p a] S = .ok (.p (.list [a])) S := rfl
@[simp] theorem mkLst2 {S : Sto} {a b : PyData} : mkLst [.p a, .p b] S = .ok (.p (.list [a, b])) S := rfl
@[simp] theorem mkLst3 {S : Sto} {a b c : PyData} : mkLst [.p a, .p b, .p c] S = .ok (.p (.list [a, b, c])) S := rfl
@[simp] theorem eqX_s {neg : Bool} {a b : Str} {S : Sto} : opEqX neg (.p (.str a)) (.p (.str b)) S = .ok (.p (.bool (if neg then !(a == b) else (a == b)))) S := rfl
@[simp] theorem eqX_i {neg : Bool} {a b : Int} {S : Sto} : opEqX neg (.p (.int a)) (.p (.int b)) S = .ok (.p (.bool (if neg then !(a == b) else (a == b)))) S := rfl
@[simp] theorem eqX_b {neg : Bool} {a b : Bool} {S : Sto} : opEqX neg (.p (.bool a)) (.p (.bool b)) S = .ok (.p (.bool (if neg then !(a == b) else (a == b)))) S := rfl
@[simp] theorem eqX_t0 {neg : Bool} {xs : List PyData} {S : Sto} : opEqX neg (.p (.tuple xs)) (.p (.tuple [])) S = .ok (.p (.bool (if neg then !xs.isEmpty else xs.isEmpty))) S := rfl
@[simp] theorem subs_t0 {a : PyData} {r : List PyData} {S : Sto} : opSubs (.p (.tuple (a :: r))) (.p (.int 0)) S = .ok (.p a) S := subs_t (by rw [show (0 : Int) = ((0 : Nat) : Int) from rfl]; exact atI_nat rfl)
@[simp] theorem subs_t1 {a b : PyData} {r : List PyData} {S : Sto} : opSubs (.p (.tuple (a :: b :: r))) (.p (.int 1)) S = .ok (.p b) S := subs_t (by rw [show (1 : Int) = ((1 : Nat) : Int) from rfl]; exact atI_nat rfl)
@[simp] theorem subs_t2 {a b c : PyData} {r : List PyData} {S : Sto} : opSubs (.p (.tuple (a :: b :: c :: r))) (.p (.int 2)) S = .ok (.p c) S := subs_t (by rw [show (2 : Int) = ((2 : Nat) : Int) from rfl]; exact atI_nat rfl)
@[simp] theorem subs_l0 {a : PyData} {r : List PyData} {S : Sto} : opSubs (.p (.list (a :: r))) (.p (.int 0)) S = .ok (.p a) S := subs_l (by rw [show (0 : Int) = ((0 : Nat) : Int) from rfl]; exact atI_nat rfl)
@[simp] theorem subs_l1 {a b : PyData} {r : List PyData} {S : Sto} : opSubs (.p (.list (a :: b :: r))) (.p (.int 1)) S = .ok (.p b) S := subs_l (by rw [show (1 : Int) = ((1 : Nat) : Int) from rfl]; exact atI_nat rfl)
@[simp] theorem subs_l2 {a b c : PyData} {r : List PyData} {S : Sto} : opSubs (.p (.list (a :: b :: c :: r))) (.p (.int 2)) S = .ok (.p c) S := subs_l (by rw [show (2 : Int) = ((2 : Nat) : Int) from rfl]; exact atI_nat rfl)
def Cells (cs : List PyData) : Prop := (∀ d ∈ cs, ∃ z, d = .int z) ∧ cs ≠ []
def Tape (cs : List PyData) (i L : Nat) (n : Int) (S : Sto) : Prop := S.length = L ∧ ∃ p l, 0 ≤ p ∧ p ≤ n ∧ S[i]? = some (.dic (tpd cs p l))
theorem Tape.mono {cs : List PyData} {i L : Nat} {n n' : Int} {S : Sto} (h : Tape cs i L n S) (hn : n ≤ n') : Tape cs i L n' S := by
  obtain ⟨a, p, l, b, c, d⟩ := h
  exact ⟨a, p, l, b, by omega, d⟩
end DL
namespace DL
open PySem L2
theorem cutP_mem {xs : List PyData} {lo hi : Option Int} {d : PyData} (h : d ∈ cutP xs lo hi) : d ∈ xs := List.mem_of_mem_drop (List.mem_of_mem_take h)
def beginB : FS := (sRet (eDisp [((eC (.p (.str "cells"))), (eOr (eSli (eVar 0) oNone (oSome (eC (.p (.int 63))))) (eA mkLst (aCons (eC (.p (.int 0))) aNil)))), ((eC (.p (.str "place"))), (eC (.p (.int 0)))), ((eC (.p (.str "left"))), (eC (.p (.int 0))))] finDM))
theorem begin_ok (ns : List Int) : ∃ cs, Cells cs ∧ runF 1 beginB [.ro (nums ns)] [] = .ok (.ob 0) [.dic (tpd cs 0 0)] := by
  have go : ∀ {v : PyData}, (eOr (eSli (eVar 0) oNone (oSome (eC (.p (.int 63))))) (eA mkLst (aCons (eC (.p (.int 0))) aNil))) [some (.ro (nums ns))] [] = .ok (.p v) [] → runF 1 beginB [.ro (nums ns)] [] = .ok (.ob 0) [.dic [(.inr "cells", v), (.inr "place", .int 0), (.inr "left", .int 0)]] := by
    intro v e
    refine run_ret ?_
    show beginB [some (.ro (nums ns))] [] = _
    unfold beginB
    have m : mergeD [(.inr "cells", v), (.inr "place", .int 0), (.inr "left", .int 0)] = [(.inr "cells", v), (.inr "place", .int 0), (.inr "left", .int 0)] := rfl
    simp only [sSeq_, sRet_, eDisp, pairsD, eC_, Out.bind_ok, e, pyKey, List.length_cons, List.length_nil]
    rw [if_pos (by decide), m]
    rfl
  have es : sliM (.ro (nums ns)) none (some 63) [] = .ok (.p (.list (cutP (nums ns) none (some 63)))) [] := rfl
  cases hx : cutP (nums ns) none (some 63) with
  | nil =>
    rw [hx] at es
    refine ⟨[.int 0], ⟨fun d hd => ⟨0, by simpa using hd⟩, by simp⟩, go ?_⟩
    simp [es]
  | cons a r =>
    rw [hx] at es
    refine ⟨a :: r, ⟨fun d hd => ?_, by simp⟩, go ?_⟩
    · have : d ∈ nums ns := cutP_mem (lo := none) (hi := some 63) (by rw [hx]; exact hd)
      obtain ⟨z, _, rfl⟩ := List.mem_map.mp this
      exact ⟨z, rfl⟩
    · simp [es]
end DL
namespace DL
open PySem L2
mutual
/-- a bound of the repr's length -/
def wt : PyData → Nat
  | .list xs => wtAll xs + 4
  | .tuple xs => wtAll xs + 4
  | .none => 4
  | .bool _ => 5
  | .int i => (PyData.int i).shown.length
  | .str x => (PyData.str x).shown.length
  | .dict kvs => (PyData.dict kvs).shown.length
def wtAll : List PyData → Nat
  | [] => 0
  | x :: xs => wt x + 2 + wtAll xs
end
theorem str_len_app (a b : Str) : (a ++ b).length = a.length + b.length := Str.length_append a b
theorem textFrom_le : ∀ (ts : List Str) (k : Nat) (acc : Str), (textFrom k acc ts).length ≤ acc.length + (ts.map fun t => t.length + 2).sum
  | [], k, acc => by show acc.length ≤ _; omega
  | t :: r, k, acc => by
    have q := textFrom_le r (k + 1) (acc ++ (if k > 0 then ", " else "" : String) ++ t)
    show (textFrom (k + 1) (acc ++ (if k > 0 then ", " else "" : String) ++ t) r).length ≤ _
    have e : (Str.ofString (if k > 0 then ", " else "" : String)).length ≤ 2 := by
      split
      · decide +kernel
      · decide +kernel
    rw [str_len_app, str_len_app] at q
    simp only [List.map_cons, List.sum_cons]
    omega
theorem join_le (ts : List Str) : (Str.join ", " ts).length ≤ (ts.map fun t => t.length + 2).sum := by
  have q := StrLaws.join_length_le ", " ts
  have e : (Str.ofString ", ").length = 2 := by decide +kernel
  rw [e] at q
  have : ∀ ts : List Str, (ts.map fun t => t.length + 2).sum = (ts.map (·.length)).sum + ts.length * 2 := fun ts => by
    induction ts with
    | nil => rfl
    | cons t r ih => simp only [List.map_cons, List.sum_cons, List.length_cons, ih]; omega
  rw [this]
  exact q
mutual
theorem shown_le : ∀ d : PyData, d.shown.length ≤ wt d
  | .none => by decide +kernel
  | .bool b => by cases b <;> decide +kernel
  | .int i => Nat.le_refl _
  | .str x => Nat.le_refl _
  | .dict kvs => Nat.le_refl _
  | .list xs => by
    have q := shownAll_le xs
    have t := textFrom_le (PyData.shownAll xs) 0 "["
    show (textFrom 0 (Str.ofString "[") (PyData.shownAll xs) ++ Str.ofString "]").length ≤ wtAll xs + 4
    rw [str_len_app]
    have e1 : (Str.ofString "[").length = 1 := by decide +kernel
    have e2 : (Str.ofString "]").length = 1 := by decide +kernel
    omega
  | .tuple xs => by
    have q := shownAll_le xs
    have t := join_le (PyData.shownAll xs)
    show (Str.ofString "(" ++ Str.join ", " (PyData.shownAll xs) ++ Str.ofString (if (PyData.shownAll xs).length == 1 then ",)" else ")" : String)).length ≤ wtAll xs + 4
    rw [str_len_app, str_len_app]
    have e1 : (Str.ofString "(").length = 1 := by decide +kernel
    have e2 : (Str.ofString (if (PyData.shownAll xs).length == 1 then ",)" else ")" : String)).length ≤ 2 := by
      split
      · decide +kernel
      · decide +kernel
    omega
theorem shownAll_le : ∀ xs : List PyData, ((PyData.shownAll xs).map fun t => t.length + 2).sum ≤ wtAll xs
  | [] => Nat.le_refl _
  | x :: xs => by
    have q1 := shown_le x
    have q2 := shownAll_le xs
    show (x.shown.length + 2) + ((PyData.shownAll xs).map fun t => t.length + 2).sum ≤ wt x + 2 + wtAll xs
    omega
end
theorem repr_ok {d : PyData} {S : Sto} (h1 : d.showable = true) (h2 : d.depth ≤ 60) (h3 : wt d ≤ 1000000) : reprM [.p d] S = .ok (.p (.str d.shown)) S := by
  have q := shown_le d
  have h4 : d.shown.length ≤ LIM := by unfold LIM; omega
  simp [reprM, h1, h2, h4]
end DL
namespace DL
open PySem L2 PySem.Spec PyProof.Rows
def repS (x : Str) (n : Int) : Str := if n < 1 then Str.empty else if (n == 1 || x.length == 0) = true then x else ⟨(List.replicate n.toNat x.cps).foldl (· ++ ·) #[]⟩
def opMulX : D → D → M D := fun x y S => match x, y with
  | .p (.int i), .p (.int j) => if i.natAbs.log2 + j.natAbs.log2 < 1000000 then .ok (.p (.int (i * j))) S else .bad
  | .p (.str z), .p (.int n) => if z.length ≤ 1000 ∧ -1000 ≤ n ∧ n ≤ 1000 then .ok (.p (.str (repS z n))) S else .bad
  | x, .p (.int n) => match lstOf S x with
    | some xs => if xs.length ≤ 1000 ∧ -1000 ≤ n ∧ n ≤ 1000 then .ok (.p (.list (List.replicate n.toNat xs).flatten)) S else .bad
    | none => .bad
  | _, _ => .bad
def rMulX : R2 := fun x y H Q => rI CMulW (fun i j => .int (i * j)) x y H Q ∨ rRep x y H Q ∨ ∃ z n, x = .str z ∧ y = .int n ∧ z.length ≤ 1000 ∧ -1000 ≤ n ∧ n ≤ 1000 ∧ Q (.str (repS z n)) H
theorem rep_size : ∀ (k : Nat) (x acc : Array Nat), ((List.replicate k x).foldl (· ++ ·) acc).size = acc.size + k * x.size
  | 0, x, acc => by simp
  | k + 1, x, acc => by
    rw [List.replicate_succ, List.foldl_cons, rep_size k x (acc ++ x), Array.size_append, Nat.succ_mul]
    omega
theorem rep_dn {K : PySem.W.Frag} {φ : List (Addr × HO)} {H : Hp} {xs : List PyData} {vs : List V} (t : DnAll K φ H xs vs) : ∀ k : Nat, DnAll K φ H (List.replicate k xs).flatten (List.replicate k vs).flatten
  | 0 => .nil
  | k + 1 => by
    rw [List.replicate_succ, List.replicate_succ, List.flatten_cons, List.flatten_cons]
    exact t.append (rep_dn t k)
section
variable {X : Cx}
theorem op_mulX1 : OpR X (binaryOp .Mult) rMulX := by
  intro pins s σ H x y v u Q I rx ry h
  rcases h with h | h | h
  · exact op_mulW pins s σ H x y v u Q I rx ry h
  · exact op_rep pins s σ H x y v u Q I rx ry h
  · obtain ⟨z, n, rfl, rfl, hz, h1, h2, q⟩ := h
    obtain ⟨t, rfl⟩ := rx
    obtain ⟨t', rfl⟩ := ry
    refine PySem.P.mul_str (by
      rw [decide_eq_false (show ¬ n < -(2 ^ 63 : Int) by omega), decide_eq_false (show ¬ n ≥ 2 ^ 63 by omega)]; rfl) (fun c1 c2 => ?_) (fun c1 c2 => ?_) ?_
    · have : (2 ^ 63 - 1 : Int) / n ≥ 1000 := by
        refine (Int.le_ediv_iff_mul_le (by omega)).mpr ?_
        omega
      omega
    · have hk : z.length * n.toNat ≤ 1000 * 1000 := Nat.mul_le_mul hz (by omega)
      show decide (z.length * n.toNat > sizeLine) = false
      exact decide_eq_false (by have := LIM_le; unfold LIM at this; omega)
    · by_cases c1 : n < 1
      · have q' : Q (.str Str.empty) H := by unfold repS at q; rw [if_pos c1] at q; exact q
        rw [if_pos c1]
        exact ⟨Nat.zero_le _, .str _, H, I.tok _, ⟨_, rfl⟩, q'⟩
      · by_cases c2 : (n == 1 || z.length == 0) = true
        · have q' : Q (.str z) H := by unfold repS at q; rw [if_neg c1, if_pos c2] at q; exact q
          rw [if_neg c1, if_pos c2]
          exact ⟨.str _, H, I, ⟨_, rfl⟩, q'⟩
        · have q' : Q (.str ⟨(List.replicate n.toNat z.cps).foldl (· ++ ·) #[]⟩) H := by unfold repS at q; rw [if_neg c1, if_neg c2] at q; exact q
          rw [if_neg c1, if_neg c2]
          refine ⟨?_, .str _, H, I.tok _, ⟨_, rfl⟩, q'⟩
          show ((List.replicate n.toNat z.cps).foldl (· ++ ·) #[]).size ≤ sizeLine
          rw [rep_size]
          have hk : n.toNat * z.cps.size ≤ 1000 * 1000 := Nat.mul_le_mul (by omega) hz
          have := LIM_le
          unfold LIM at this
          simp
          omega
end
theorem sim_mulX {K : PySem.W.Frag} : Sim2 K rMulX opMulX := by
  intro W σ H G S x y v w Q rp dx dy q
  unfold opMulX at q
  split at q
  · rename_i i j
    obtain rfl := den_int dx; obtain rfl := den_int dy
    by_cases c : i.natAbs.log2 + j.natAbs.log2 < 1000000
    · rw [if_pos c] at q
      exact .inl ⟨i, j, rfl, rfl, c, q.ret rp (.int _)⟩
    · rw [if_neg c] at q; exact q.elim
  · rename_i z n
    obtain rfl := den_str dx; obtain rfl := den_int dy
    by_cases c : z.length ≤ 1000 ∧ -1000 ≤ n ∧ n ≤ 1000
    · rw [if_pos c] at q
      exact .inr (.inr ⟨z, n, rfl, rfl, c.1, c.2.1, c.2.2, q.ret rp (.str _)⟩)
    · rw [if_neg c] at q; exact q.elim
  · rename_i x' n _ _
    obtain rfl := den_int dy
    split at q
    · rename_i xs ex
      obtain ⟨a, vs, rfl, hH, t⟩ := lstOf_den rp ex dx
      by_cases c : xs.length ≤ 1000 ∧ -1000 ≤ n ∧ n ≤ 1000
      · rw [if_pos c] at q
        refine .inr (.inl ⟨a, n, vs, rfl, rfl, hH, by omega, by omega, ?_, fun p hp => q.newLst rp (rep_dn t n.toNat) hp⟩)
        rw [← t.length]
        have hk : xs.length * n.toNat ≤ 1000 * 1000 := Nat.mul_le_mul c.1 (by omega)
        have := LIM_le
        unfold LIM at this
        omega
      · rw [if_neg c] at q; exact q.elim
    · exact q.elim
  · exact q.elim
def opDivX : D → D → M D := opI (fun _ j => decide (0 < j) && decide (j.natAbs.log2 < 9000)) fun i j => i / j
/-- <= of numbers, of texts -/
def opLeX : D → D → M D := fun x y S => match x, y with
  | .p (.int i), .p (.int j) => .ok (.p (.bool (decide (i ≤ j)))) S
  | .p (.str i), .p (.str j) => .ok (.p (.bool (!decide (j.cps.toList < i.cps.toList)))) S
  | _, _ => .bad
section
variable {X : Cx} {W : WX} {a b c : Expr} {f g h : FE} {pos : Pos}
theorem de_mulX (ha : DE X W a f) (hb : DE X W b h) : DE X W (.BinOp a .Mult b pos) (e2 opMulX f h) := de_bin op_mulX1 sim_mulX ha hb
theorem de_divX (ha : DE X W a f) (hb : DE X W b h) : DE X W (.BinOp a .FloorDiv b pos) (e2 opDivX f h) := de_bin op_fdivW (sim_int fun i j q => by
  simp only [Bool.and_eq_true, decide_eq_true_eq] at q
  exact q) ha hb
end
end DL
namespace DL
open PySem L2 PySem.Spec PyProof.Rows
def deepIn (neg : Bool) : D → D → M D := fun x y S => match val S x, val S y with
  | some d, some (.list ds) => if SeqAt.shaped d && SeqAt.shaped (.list ds) then .ok (.p (.bool (if neg then !(ds.any fun z => PyData.eqv z d) else ds.any fun z => PyData.eqv z d))) S else .bad
  | _, _ => .bad
def opInX (neg : Bool) : D → D → M D := fun x y S => match opIn neg x y S with
  | .bad => deepIn neg x y S
  | o => o
section
variable {X : Cx} {W : WX} {a b o e : Expr} {f g h : FE} {pos apos : Pos}
theorem hu65 {A : Around} {k : Nat} (hr : Room k A) : A.units + 65 < cLine := by have := hr.un; omega
end
end DL
namespace DL
open PySem L2
theorem lg {n k : Nat} (h : n < 2 ^ k) (hk : 0 < k) : n.log2 < k := by
  by_cases c : n = 0
  · subst c; simpa using hk
  · exact (Nat.log2_lt c).mpr h
@[simp] theorem opLeX_i {i j : Int} {S : Sto} : opLeX (.p (.int i)) (.p (.int j)) S = .ok (.p (.bool (decide (i ≤ j)))) S := rfl
@[simp] theorem opLeX_s {i j : Str} {S : Sto} : opLeX (.p (.str i)) (.p (.str j)) S = .ok (.p (.bool (!decide (j.cps.toList < i.cps.toList)))) S := rfl
theorem opMulX_i {i j : Int} {S : Sto} (h : i.natAbs.log2 + j.natAbs.log2 < 1000000) : opMulX (.p (.int i)) (.p (.int j)) S = .ok (.p (.int (i * j))) S := by simp [opMulX, h]
theorem opDivX_i {i j : Int} {S : Sto} (h : 0 < j) (h2 : j.natAbs.log2 < 9000) : opDivX (.p (.int i)) (.p (.int j)) S = .ok (.p (.int (i / j))) S := by simp [opDivX, opI, h, h2]
@[simp] theorem inX_ss {neg : Bool} {i j : Str} {S : Sto} : opInX neg (.p (.str i)) (.p (.str j)) S = .ok (.p (.bool (if neg then !inStr i j else inStr i j))) S := rfl
/-- the draw's constants: q, a, b, the power, the ten's power and what is added -/
structure DrC where
  q : Int
  a : Int
  b : Int
  e : Int
  t : Int
  z : Int
def DrC.ok (c : DrC) : Prop := 0 < c.q ∧ c.q ≤ 4294967296 ∧ 0 ≤ c.a ∧ c.a ≤ 100000 ∧ 0 ≤ c.b ∧ c.b ≤ 100000 ∧ 0 ≤ c.e ∧ c.e ≤ 1000 ∧ 0 ≤ c.t ∧ c.t ≤ 1000 ∧ 0 ≤ c.z
def drawA2 (c : DrC) : FS := (sSeq (sAsgs (aCons (e2 opSubs (eVar 0) (eC (.p (.str "place")))) (aCons (eA lenM (aCons (e2 opSubs (eVar 0) (eC (.p (.str "cells")))) aNil)) aNil)) (gConss (gN 3) (gConss (gN 4) gNils)))
    (sSeq (sAsgs (aCons (e2 opSubs (e2 opSubs (eVar 0) (eC (.p (.str "cells")))) (e2 opMod (eA intM (aCons (eVar 3) aNil)) (eVar 4))) (aCons (e2 opAdd (eVar 3) (eC (.p (.int 1)))) aNil)) (gConss (gN 5) (gConss (gSubD (eVar 0) (eC (.p (.str "place")))) gNils)))
    (sSeq (sAsg (e2 opMod (eA intM (aCons (e2 opPow (e2 opAdd (e2 opAdd (e2 opMod (eA intM (aCons (eVar 5) aNil)) (eC (.p (.int c.q)))) (e2 opMulX (eC (.p (.int c.a))) (eVar 3))) (eC (.p (.int c.b)))) (eC (.p (.int c.e)))) aNil)) (e2 opAdd (e2 opPow (eC (.p (.int 10))) (eC (.p (.int c.t)))) (eC (.p (.int c.z))))) (gSubD (eVar 0) (eC (.p (.str "left")))))
    (sIf (tAndD (tC2 (opGe) (eVar 5) (e2 opPow (eC (.p (.int 10))) (eC (.p (.int 18))))) (tC2 (opLt) (eVar 3) (eVar 4))) (sAsg (e2 opSub (eVar 5) (e2 opPow (eC (.p (.int 10))) (eC (.p (.int 18))))) (gSubD (eVar 0) (eC (.p (.str "left"))))) sNext))))
def drawB2 (c : DrC) : FS := (sSeq (sIf (tC2 (opLt) (e2 opSubs (eVar 0) (eC (.p (.str "left")))) (eVar 1)) (drawA2 c) sNext)
    (sSeq (sAsgs (aCons (e2 opMod (eA intM (aCons (e2 opSubs (eVar 0) (eC (.p (.str "left")))) aNil)) (eVar 1)) (aCons (e2 opDivX (e2 opSubs (eVar 0) (eC (.p (.str "left")))) (eVar 1)) aNil)) (gConss (gN 2) (gConss (gSubD (eVar 0) (eC (.p (.str "left")))) gNils)))
    (sRet (eVar 2))))
theorem drawA2_ok {c : DrC} (hc0 : c.ok) {cs : List PyData} {p l m : Int} {S : Sto} {i : Nat} (hc : ∀ d ∈ cs, ∃ z, d = .int z) (hne : cs ≠ []) (h : S[i]? = some (.dic (tpd cs p l))) (hp : 0 ≤ p) (hp2 : p ≤ 1000000000000) :
    ∃ x y z l', drawA2 c [some (.ob i), some (.p (.int m)), none, none, none, none] S = some (.next [some (.ob i), some (.p (.int m)), none, x, y, z], S.set i (.dic (tpd cs (p + 1) l'))) := by
  obtain ⟨h1, h2, h3, h4, h5, h6, h7, h8, h9, h10, h11⟩ := hc0
  have hl : 0 < cs.length := List.length_pos_iff.mpr hne
  obtain ⟨d, e1, hd⟩ := atI_ok (xs := cs) (i := p % (cs.length : Int)) (Int.emod_nonneg _ (by omega)) (Int.emod_lt_of_pos _ (by omega))
  obtain ⟨z, rfl⟩ := hc d hd
  have hS1 := tp_at (o := .dic (tpd cs (p + 1) l)) h
  have hap : c.a * p ≤ 100000 * 1000000000000 := Int.mul_le_mul h4 hp2 hp (by decide)
  have hap0 : 0 ≤ c.a * p := Int.mul_nonneg h3 hp
  have hb : (z % c.q + c.a * p + c.b).natAbs < 2 ^ 64 := by
    have a1 := Int.emod_nonneg z (show c.q ≠ 0 by omega)
    have a2 := Int.emod_lt_of_pos z h1
    have : (2 : Nat) ^ 64 = 18446744073709551616 := by decide
    omega
  have hz : (0 : Int) < 10 ^ c.t.toNat + c.z := by
    have : (0 : Int) < 10 ^ c.t.toNat := Int.pow_pos (by decide)
    omega
  have hlg : c.a.natAbs.log2 + p.natAbs.log2 < 1000000 := by
    have a1 := lg (n := c.a.natAbs) (k := 40) (by have : (2 : Nat) ^ 40 = 1099511627776 := by decide
                                                  omega) (by decide)
    have a2 := lg (n := p.natAbs) (k := 41) (by have : (2 : Nat) ^ 41 = 2199023255552 := by decide
                                                omega) (by decide)
    omega
  have k1 := fun S => opMod_i (i := z) (S := S) h1
  have k2 := fun S => opMulX_i (S := S) hlg
  have k3 := fun S => opPow_i (S := S) h7 (show c.e ≤ 1000000 by omega) hb
  have k4 := fun S => opPow_i (S := S) h9 (show c.t ≤ 1000000 by omega) (show (10 : Int).natAbs < 2 ^ 64 by decide)
  have k5 := fun x S => opMod_i (i := x) (S := S) hz
  have k6 := fun S => opPow_i (i := 10) (S := S) (show (0 : Int) ≤ 18 by decide) (by decide) (show (10 : Int).natAbs < 2 ^ 64 by decide)
  have hS2 : ∀ l2, (List.set S i (.dic (tpd cs (p + 1) l2)))[i]? = some (.dic (tpd cs (p + 1) l2)) := fun l2 => tp_at h
  unfold drawA2
  simp only [sSeq_, sAsgs_, aCons_, aNil_, e2_, eVarS, eVar0, eC_, Out.bind_ok, tp_place h, eA_, tp_cells h, lenM_l, st_ok, gConss_, gN_, gNils_, List.set_cons_succ, List.set_cons_zero, intM_i, opMod_i (show (0 : Int) < (cs.length : Int) by omega), subs_l e1, opAdd_i, gSubD_, tp_setP h, sAsg_, k1, k2, k3, k4, k5, tp_setL hS1, List.set_set]
  by_cases c1 : (10 : Int) ^ (18 : Int).toNat ≤ z
  · by_cases c2 : p < (cs.length : Int)
    · simp only [sIf_, tAnd_, tC2_, e2_, eVarS, eVar0, eC_, Out.bind_ok, k6, opGe_i, c1, decide_true, if_true, opLt_i, c2, st_ok, sAsg_, opSub_i, gSubD_, tp_setL (hS2 _), List.set_set]
      exact ⟨_, _, _, _, rfl⟩
    · simp only [sIf_, tAnd_, tC2_, e2_, eVarS, eVar0, eC_, Out.bind_ok, k6, opGe_i, c1, decide_true, if_true, opLt_i, c2, decide_false, Bool.false_eq_true, if_false, st_ok, sNext_]
      exact ⟨_, _, _, _, rfl⟩
  · simp only [sIf_, tAnd_, tC2_, e2_, eVarS, eVar0, eC_, Out.bind_ok, k6, opGe_i, c1, decide_false, Bool.false_eq_true, if_false, st_ok, sNext_]
    exact ⟨_, _, _, _, rfl⟩
theorem drawB2_ok {c : DrC} (hc0 : c.ok) {cs : List PyData} {p l m : Int} {S : Sto} {i : Nat} (hc : ∀ d ∈ cs, ∃ z, d = .int z) (hne : cs ≠ []) (h : S[i]? = some (.dic (tpd cs p l))) (hp : 0 ≤ p) (hp2 : p ≤ 1000000000000) (hm : 0 < m) (hm2 : m.natAbs.log2 < 9000) :
    ∃ g p' l', 0 ≤ g ∧ g < m ∧ 0 ≤ p' ∧ p' ≤ p + 1 ∧ runF 6 (drawB2 c) [.ob i, .p (.int m)] S = .ok (.p (.int g)) (S.set i (.dic (tpd cs p' l'))) := by
  have second : ∀ {x y z : Option D} {S : Sto} {p l : Int}, S[i]? = some (.dic (tpd cs p l)) → (sSeq (sAsgs (aCons (e2 opMod (eA intM (aCons (e2 opSubs (eVar 0) (eC (.p (.str "left")))) aNil)) (eVar 1)) (aCons (e2 opDivX (e2 opSubs (eVar 0) (eC (.p (.str "left")))) (eVar 1)) aNil)) (gConss (gN 2) (gConss (gSubD (eVar 0) (eC (.p (.str "left")))) gNils)))
      (sRet (eVar 2))) [some (.ob i), some (.p (.int m)), none, x, y, z] S = some (.ret (.p (.int (l % m))), S.set i (.dic (tpd cs p (l / m)))) := by
    intro x y z S p l h
    simp [sSeq_, tp_left h, opMod_i hm, opDivX_i hm hm2, tp_setL h]
  have g0 : ∀ l, 0 ≤ l % m := fun l => Int.emod_nonneg _ (by omega)
  have g1 : ∀ l, l % m < m := fun l => Int.emod_lt_of_pos _ hm
  by_cases cc : l < m
  · obtain ⟨x, y, z, l', e⟩ := drawA2_ok (m := m) hc0 hc hne h hp hp2
    have s2 := second (x := x) (y := y) (z := z) (tp_at (o := .dic (tpd cs (p + 1) l')) h)
    refine ⟨l' % m, p + 1, l' / m, g0 _, g1 _, by omega, by omega, run_ret ?_⟩
    show drawB2 c [some (.ob i), some (.p (.int m)), none, none, none, none] S = _
    unfold drawB2
    rw [sSeq_next (a := sIf _ _ _) (ρ' := [some (.ob i), some (.p (.int m)), none, x, y, z]) (S' := S.set i (.dic (tpd cs (p + 1) l'))) (by simp [sSeq_, tp_left h, cc, e]), s2, List.set_set]
  · refine ⟨l % m, p, l / m, g0 _, g1 _, by omega, by omega, run_ret ?_⟩
    show drawB2 c [some (.ob i), some (.p (.int m)), none, none, none, none] S = _
    unfold drawB2
    rw [sSeq_next (a := sIf _ _ _) (ρ' := [some (.ob i), some (.p (.int m)), none, none, none, none]) (S' := S) (by simp [sSeq_, tp_left h, cc]), second h]
end DL
namespace DL
open PySem L2
theorem range_ok {j : Int} {S : Sto} (h0 : 0 ≤ j) (h1 : j ≤ 1000000) : rangeM [.p (.int j)] S = .ok ((List.range j.toNat).map fun i : Nat => D.p (.int (0 + (i : Int)))) S := by
  unfold rangeM
  simp only
  rw [if_pos ⟨by omega, h1⟩]
end DL
namespace DL
open PySem L2
def wp {α : Type} (o : Out α) (Q : α → Sto → Prop) (X : Exn → Sto → Prop) : Prop := match o with
  | .ok a s => Q a s
  | .err x s => X x s
  | .bad => False
def wpS (o : Option (Fl × Sto)) (Q : Fl → Sto → Prop) : Prop := match o with
  | some (fl, s) => Q fl s
  | none => False
def wpG (o : Option (Ev × Sto)) (Q : Ev → Sto → Prop) : Prop := match o with
  | some (ρ, s) => Q ρ s
  | none => False
def noX : Exn → Sto → Prop := fun _ _ => False
def sq (b : FS) (Q : Fl → Sto → Prop) : Fl → Sto → Prop := fun fl s => match fl with
  | .next ρ => wpS (b ρ s) Q
  | .ret d => Q (.ret d) s
  | .brk ρ => Q (.brk ρ) s
  | .cont ρ => Q (.cont ρ) s
  | .exc x ρ => Q (.exc x ρ) s
def rn (Q : D → Sto → Prop) (X : Exn → Sto → Prop) : Fl → Sto → Prop := fun fl s => match fl with
  | .ret d => Q d s
  | .next _ => Q (.p .none) s
  | .exc x _ => X x s
  | _ => False
section
variable {α β : Type} {a : α} {s S : Sto} {Q : α → Sto → Prop} {X : Exn → Sto → Prop} {R : Fl → Sto → Prop} {ρ : Ev} {o : Out α} {k : α → M β} {Q' : β → Sto → Prop}
@[simp] theorem wp_ok : wp (.ok a s) Q X = Q a s := rfl
@[simp] theorem wp_err {x : Exn} : wp (.err x s : Out α) Q X = X x s := rfl
@[simp] theorem wp_bad : wp (.bad : Out α) Q X = False := rfl
@[simp ↓] theorem wp_bind : wp (o.bind k) Q' X = wp o (fun a s => wp (k a s) Q' X) X := by cases o <;> rfl
@[simp] theorem wp_noErr : wp (noErr o) Q X = wp o Q noX := by cases o <;> rfl
@[simp] theorem wpS_some {fl : Fl} : wpS (some (fl, s)) R = R fl s := rfl
@[simp ↓] theorem wpS_st {kk : α → Sto → Option (Fl × Sto)} : wpS (o.st ρ kk) R = wp o (fun a s => wpS (kk a s) R) (fun x s => R (.exc x ρ) s) := by cases o <;> rfl
@[simp ↓] theorem wpS_seq {a b : FS} : wpS (sSeq a b ρ S) R = wpS (a ρ S) (sq b R) := by
  unfold sSeq
  cases e : a ρ S with
  | none => rfl
  | some p =>
    obtain ⟨fl, s⟩ := p
    cases fl <;> rfl
@[simp] theorem sq_next {b : FS} : sq b R (.next ρ) s = wpS (b ρ s) R := rfl
@[simp] theorem sq_ret {b : FS} {d : D} : sq b R (.ret d) s = R (.ret d) s := rfl
@[simp] theorem sq_brk {b : FS} : sq b R (.brk ρ) s = R (.brk ρ) s := rfl
@[simp] theorem sq_cont {b : FS} : sq b R (.cont ρ) s = R (.cont ρ) s := rfl
@[simp] theorem sq_exc {b : FS} {x : Exn} : sq b R (.exc x ρ) s = R (.exc x ρ) s := rfl
@[simp] theorem rn_ret {Q : D → Sto → Prop} {d : D} : rn Q X (.ret d) s = Q d s := rfl
@[simp] theorem rn_next {Q : D → Sto → Prop} : rn Q X (.next ρ) s = Q (.p .none) s := rfl
@[simp] theorem rn_exc {Q : D → Sto → Prop} {x : Exn} : rn Q X (.exc x ρ) s = X x s := rfl
@[simp] theorem wpG_some {Q : Ev → Sto → Prop} : wpG (some (ρ, s)) Q = Q ρ s := rfl
@[simp] theorem wpG_none {Q : Ev → Sto → Prop} : wpG none Q = False := rfl
@[simp ↓] theorem wp_ite {c : Prop} [Decidable c] {x y : Out α} : wp (if c then x else y) Q X = if c then wp x Q X else wp y Q X := by split <;> rfl
@[simp ↓] theorem wpS_ite {c : Prop} [Decidable c] {x y : Option (Fl × Sto)} : wpS (if c then x else y) R = if c then wpS x R else wpS y R := by split <;> rfl
theorem wp_run {m : Nat} {b : FS} {ds : List D} {Q : D → Sto → Prop} : wp (runF m b ds S) Q X = wpS (b (ds.map some ++ List.replicate (m - ds.length) none) S) (rn Q X) := by
  unfold runF
  cases e : b (ds.map some ++ List.replicate (m - ds.length) none) S with
  | none => rfl
  | some p =>
    obtain ⟨fl, s⟩ := p
    cases fl <;> rfl
theorem wp_ex (h : wp o Q noX) : ∃ a s, o = .ok a s ∧ Q a s := by
  cases o with
  | ok b t => exact ⟨b, t, rfl, h⟩
  | err x t => exact h.elim
  | bad => exact h.elim
/-- a loop by its turns -/
theorem forD_wp {g : FG} {b : FS} (Inv : Nat → Ev → Sto → Prop) : ∀ {ds : List D} {j : Nat} {ρ : Ev} {S : Sto}, Inv j ρ S →
    (∀ i d ρ S, ds[i]? = some d → Inv (j + i) ρ S → wpG (g d ρ S) fun ρ1 S1 => wpS (b ρ1 S1) fun fl s => match fl with
      | .next ρ2 => Inv (j + i + 1) ρ2 s
      | .cont ρ2 => Inv (j + i + 1) ρ2 s
      | .brk ρ2 => R (.next ρ2) s
      | fl => R fl s) →
    (∀ ρ S, Inv (j + ds.length) ρ S → R (.next ρ) S) → wpS (forD g b ds ρ S) R
  | [], j, ρ, S, h, _, e => e ρ S h
  | d :: r, j, ρ, S, h, st, e => by
    have q := st 0 d ρ S rfl h
    unfold forD
    cases eg : g d ρ S with
    | none => rw [eg] at q; exact q
    | some p =>
      obtain ⟨ρ1, S1⟩ := p
      rw [eg] at q
      have q : wpS (b ρ1 S1) _ := q
      show wpS (match b ρ1 S1 with | some (.next ρ2, S2) => forD g b r ρ2 S2 | some (.cont ρ2, S2) => forD g b r ρ2 S2 | some (.brk ρ2, S2) => some (.next ρ2, S2) | o => o) R
      have more : ∀ ρ2 S2, Inv (j + 1) ρ2 S2 → wpS (forD g b r ρ2 S2) R := fun ρ2 S2 hi => forD_wp Inv (ds := r) (j := j + 1) hi (fun i x ρ S hx hi => by
        have q := st (i + 1) x ρ S (by simpa using hx) (by rw [show j + (i + 1) = j + 1 + i by omega]; exact hi)
        rw [show j + (i + 1) + 1 = j + 1 + i + 1 by omega] at q
        exact q) fun ρ S hi => e ρ S (by rw [List.length_cons, show j + (r.length + 1) = j + 1 + r.length by omega]; exact hi)
      cases eb : b ρ1 S1 with
      | none => rw [eb] at q; exact q
      | some p =>
        obtain ⟨fl, S2⟩ := p
        rw [eb] at q
        cases fl with
        | next ρ2 => exact more ρ2 S2 q
        | cont ρ2 => exact more ρ2 S2 q
        | brk ρ2 => exact q
        | ret d => exact q
        | exc x ρ2 => exact q
@[simp] theorem forD_nil {g : FG} {b : FS} : forD g b [] ρ S = some (.next ρ, S) := rfl
def fq (g : FG) (b : FS) (r : List D) (R : Fl → Sto → Prop) : Fl → Sto → Prop := fun fl s => match fl with
  | .next ρ2 => wpS (forD g b r ρ2 s) R
  | .cont ρ2 => wpS (forD g b r ρ2 s) R
  | .brk ρ2 => R (.next ρ2) s
  | .ret d => R (.ret d) s
  | .exc x ρ2 => R (.exc x ρ2) s
section
variable {g : FG} {b : FS} {r : List D}
@[simp] theorem fq_next : fq g b r R (.next ρ) s = wpS (forD g b r ρ s) R := rfl
@[simp] theorem fq_cont : fq g b r R (.cont ρ) s = wpS (forD g b r ρ s) R := rfl
@[simp] theorem fq_brk : fq g b r R (.brk ρ) s = R (.next ρ) s := rfl
@[simp] theorem fq_ret {d : D} : fq g b r R (.ret d) s = R (.ret d) s := rfl
@[simp] theorem fq_exc {x : Exn} : fq g b r R (.exc x ρ) s = R (.exc x ρ) s := rfl
end
@[simp] theorem wpS_forD {g : FG} {b : FS} {d : D} {r : List D} : wpS (forD g b (d :: r) ρ S) R = wpG (g d ρ S) fun ρ1 S1 => wpS (b ρ1 S1) (fq g b r R) := by
  conv => lhs; unfold forD
  cases eg : g d ρ S with
  | none => rfl
  | some p =>
    obtain ⟨ρ1, S1⟩ := p
    show wpS (match b ρ1 S1 with | some (.next ρ2, S2) => forD g b r ρ2 S2 | some (.cont ρ2, S2) => forD g b r ρ2 S2 | some (.brk ρ2, S2) => some (.next ρ2, S2) | o => o) R = wpS (b ρ1 S1) _
    cases eb : b ρ1 S1 with
    | none => rfl
    | some p =>
      obtain ⟨fl, S2⟩ := p
      cases fl <;> rfl
end
@[simp] theorem tupleM_l {xs : List PyData} {S : Sto} : tupleM [.p (.list xs)] S = .ok (.p (.tuple xs)) S := rfl
@[simp] theorem tupleM_t {xs : List PyData} {S : Sto} : tupleM [.p (.tuple xs)] S = .ok (.p (.tuple xs)) S := rfl
end DL
namespace DL
open PySem L2 PySem.Spec PyProof.Rows
def eqKv (ka kb : List (Key × PyData)) : Bool := ka.length == kb.length && ka.all fun p => match valD kb p.1 with
  | some y => PyData.eqv p.2 y
  | none => false
def shKv (ka : List (Key × PyData)) : Bool := ka.all fun p => SeqAt.shaped p.2
def opEqZ (neg : Bool) : D → D → M D := fun x y S => match dicOf S x, dicOf S y with
  | some ka, some kb => if shKv ka && shKv kb then .ok (.p (.bool (if neg then !eqKv ka kb else eqKv ka kb))) S else .bad
  | _, _ => opEqX neg x y S
def DpKv (K : PySem.W.Frag) (H : Hp) (ka : List (Key × PyData)) (wa : List (Key × V)) : Prop := ka.map (·.1) = wa.map (·.1) ∧ DpAll K H (wa.map (·.2)) (ka.map (·.2)) ∧ shKv ka = true
def rEqKv (K : PySem.W.Frag) (neg : Bool) : R2 := fun x y H Q => ∃ a b ka kb wa wb, x = .ref a ∧ y = .ref b ∧ Rd H a (.dK wa) ∧ Rd H b (.dK wb) ∧ DpKv K H ka wa ∧ DpKv K H kb wb ∧ Q (.bl (if neg then !eqKv ka kb else eqKv ka kb)) H
theorem DpKv.inv {K : PySem.W.Frag} {H : Hp} {p : Key × PyData} {ka : List (Key × PyData)} {l : List (Key × V)} (r : DpKv K H (p :: ka) l) : ∃ v wa, l = (p.1, v) :: wa ∧ Dp K H v p.2 ∧ SeqAt.shaped p.2 = true ∧ DpKv K H ka wa := by
  obtain ⟨e, t, s⟩ := r
  cases l with
  | nil => simp at e
  | cons q wa =>
    simp only [List.map_cons, List.cons.injEq] at e
    simp only [shKv, List.all_cons, Bool.and_eq_true] at s
    cases t with
    | cons h t => exact ⟨q.2, wa, by rw [e.1], h, s.1, e.2, t, s.2⟩
theorem DpKv.val {K : PySem.W.Frag} {H : Hp} {k : Key} : ∀ {ka : List (Key × PyData)} {wa : List (Key × V)}, DpKv K H ka wa → (∀ d, valD ka k = some d → ∃ v, valV wa k = some v ∧ Dp K H v d ∧ SeqAt.shaped d = true) ∧ (valD ka k = none → valV wa k = none)
  | [], wa, r => by
    have : wa = [] := by have := r.1; simpa using this
    subst this
    exact ⟨fun d e => (by cases e), fun _ => rfl⟩
  | p :: ka, _, r => by
    obtain ⟨v, ws, rfl, h, sh, t⟩ := r.inv
    have ih := DpKv.val (k := k) t
    by_cases e : p.1 = k
    · have e1 : valD (p :: ka) k = some p.2 := by simp [valD, List.find?_cons, e]
      have e2 : valV ((p.1, v) :: ws) k = some v := by simp [valV, List.find?_cons, e]
      rw [e1, e2]
      exact ⟨fun d q => by cases q; exact ⟨v, rfl, h, sh⟩, fun q => by cases q⟩
    · have e1 : valD (p :: ka) k = valD ka k := by simp [valD, List.find?_cons, e]
      have e2 : valV ((p.1, v) :: ws) k = valV ws k := by simp [valV, List.find?_cons, e]
      rw [e1, e2]
      exact ih
section
variable {X : Cx}
theorem hits_kv {pins : List (Addr × Obj)} {σ : L2.St} {H : Hp} {s : Shared} {A : Around} (I : L2.Inv X pins σ H s) (hu : A.in1.units + 64 < cLine) {kb : List (Key × PyData)} {wb : List (Key × V)} {vb : List (Key × Value)} (rb : KV wb vb) (db : DpKv X.K H kb wb) :
    ∀ {ka : List (Key × PyData)} {wa : List (Key × V)} {va : List (Key × Value)}, KV wa va → DpKv X.K H ka wa → PySem.W.KeqHits A.in1 s vb va (ka.all fun p => match valD kb p.1 with | some y => PyData.eqv p.2 y | none => false)
  | [], wa, va, ra, da => by
    have : wa = [] := by have := da.1; simpa using this
    subst this
    cases ra
    exact .nil
  | p :: ka, _, va, ra, da => by
    obtain ⟨v, wa, rfl, h, sh, t⟩ := da.inv
    cases ra with
    | @cons _ q _ qs h1 t1 =>
      obtain ⟨k, u⟩ := q
      obtain ⟨hk, hr⟩ := h1
      have hk : p.1 = k := hk
      subst hk
      have ih := hits_kv I hu rb db t1 t
      rw [List.all_cons]
      cases e : valD kb p.1 with
      | none =>
        have z : L2.RelO (valV wb p.1) (valueAt vb p.1) := rb.val p.1
        rw [(db.val (k := p.1)).2 e] at z
        have z' : valueAt vb p.1 = none := by cases hz : valueAt vb p.1 with | none => rfl | some y => rw [hz] at z; exact z.elim
        exact .miss z'
      | some d =>
        obtain ⟨y, ey, dy, sy⟩ := (db.val (k := p.1)).1 d e
        have z : L2.RelO (valV wb p.1) (valueAt vb p.1) := rb.val p.1
        rw [ey] at z
        obtain ⟨yv, hy, ry⟩ := z.some_of
        obtain ⟨as, r1⟩ := Dp.reads I p.2 v u h hr
        obtain ⟨bs, r2⟩ := Dp.reads I d y yv dy ry
        exact .hit hy (PySem.W.keq_at r1 r2 sh sy hu) ih
theorem op_eqKv (hu : X.A.units + 65 < cLine) : OpR X (compareOp .Eq) (rEqKv X.K false) := by
  intro pins s σ H x y v u Q I rx ry h
  obtain ⟨a, b, ka, kb, wa, wb, rfl, rfl, ea, eb, da, db, q⟩ := h
  obtain rfl : v = Value.ref a := rx
  obtain rfl : u = Value.ref b := ry
  obtain ⟨_, ya, va, ra, dda⟩ := (show ObjOk X.prog X.w H s.heap a (.dK wa) from ea.ok I.hok)
  obtain ⟨_, yb, vb, rb, ddb⟩ := (show ObjOk X.prog X.w H s.heap b (.dK wb) from eb.ok I.hok)
  have l1 : ka.length = va.length := by rw [← ra.length]; have := congrArg List.length da.1; simpa using this
  have l2 : kb.length = vb.length := by rw [← rb.length]; have := congrArg List.length db.1; simpa using this
  refine PySem.W.keq_eq (knd := mixKind X.prog X.w) ya yb dda ddb (by omega) (fun _ => hits_kv I (by show X.A.units + 1 + 64 < cLine; omega) rb db ra da) ⟨.bl _, H, I, rfl, ?_⟩
  rw [← l1, ← l2]
  exact q
theorem op_neKv (hu : X.A.units + 65 < cLine) : OpR X (compareOp .NotEq) (rEqKv X.K true) := by
  intro pins s σ H x y v u Q I rx ry h
  obtain ⟨a, b, ka, kb, wa, wb, rfl, rfl, ea, eb, da, db, q⟩ := h
  obtain rfl : v = Value.ref a := rx
  obtain rfl : u = Value.ref b := ry
  obtain ⟨_, ya, va, ra, dda⟩ := (show ObjOk X.prog X.w H s.heap a (.dK wa) from ea.ok I.hok)
  obtain ⟨_, yb, vb, rb, ddb⟩ := (show ObjOk X.prog X.w H s.heap b (.dK wb) from eb.ok I.hok)
  have l1 : ka.length = va.length := by rw [← ra.length]; have := congrArg List.length da.1; simpa using this
  have l2 : kb.length = vb.length := by rw [← rb.length]; have := congrArg List.length db.1; simpa using this
  refine PySem.W.keq_ne (knd := mixKind X.prog X.w) ya yb dda ddb (by omega) (fun _ => hits_kv I (by show X.A.units + 1 + 64 < cLine; omega) rb db ra da) ⟨.bl _, H, I, rfl, ?_⟩
  rw [← l1, ← l2]
  exact q
end
theorem shKv_lay : ∀ {ka : List (Key × PyData)}, shKv ka = true → PyData.canLayAll0 (ka.map (·.2)) = true
  | [], _ => rfl
  | p :: ka, h => by
    simp only [shKv, List.all_cons, Bool.and_eq_true] at h
    show (PyData.canLay0 p.2 && PyData.canLayAll0 (ka.map (·.2))) = true
    rw [SeqAt.canLay_of_shaped h.1, shKv_lay (ka := ka) h.2]
    rfl
theorem dpKv_of {K : PySem.W.Frag} {H : Hp} {G : Gh} {S : Sto} (rp : Rep K H G S) {ka : List (Key × PyData)} {wa : List (Key × V)} (r : KvR K G.φ H ka wa) (sh : shKv ka = true) : DpKv K H ka wa :=
  ⟨r.ks, DnAll.dp (fun _ => True) rp.phi (shKv_lay sh) r.vs, sh⟩
def rEqZ (K : PySem.W.Frag) : R2 := fun x y H Q => rEqX K x y H Q ∨ rEqKv K false x y H Q
def rNeZ (K : PySem.W.Frag) : R2 := fun x y H Q => rNeX K x y H Q ∨ rEqKv K true x y H Q
theorem sim_eqZ {K : PySem.W.Frag} : Sim2 K (rEqZ K) (opEqZ false) := by
  intro W σ H G S x y v w Q rp dx dy q
  unfold opEqZ at q
  split at q
  · rename_i ka kb e1 e2
    by_cases c : (shKv ka && shKv kb) = true
    · rw [if_pos c] at q
      rw [Bool.and_eq_true] at c
      obtain ⟨a, wa, rfl, ha, ra⟩ := dicOf_den rp e1 dx
      obtain ⟨b, wb, rfl, hb, rb⟩ := dicOf_den rp e2 dy
      exact .inr ⟨a, b, ka, kb, wa, wb, rfl, rfl, ha, hb, dpKv_of rp ra c.1, dpKv_of rp rb c.2, q.ret rp (.bl _)⟩
    · rw [if_neg c] at q; exact q.elim
  · exact .inl (sim_eqX W σ H G S x y v w Q rp dx dy q)
theorem sim_neZ {K : PySem.W.Frag} : Sim2 K (rNeZ K) (opEqZ true) := by
  intro W σ H G S x y v w Q rp dx dy q
  unfold opEqZ at q
  split at q
  · rename_i ka kb e1 e2
    by_cases c : (shKv ka && shKv kb) = true
    · rw [if_pos c] at q
      rw [Bool.and_eq_true] at c
      obtain ⟨a, wa, rfl, ha, ra⟩ := dicOf_den rp e1 dx
      obtain ⟨b, wb, rfl, hb, rb⟩ := dicOf_den rp e2 dy
      exact .inr ⟨a, b, ka, kb, wa, wb, rfl, rfl, ha, hb, dpKv_of rp ra c.1, dpKv_of rp rb c.2, q.ret rp (.bl _)⟩
    · rw [if_neg c] at q; exact q.elim
  · exact .inl (sim_neX W σ H G S x y v w Q rp dx dy q)
section
variable {X : Cx} {W : WX} {a b : Expr} {f h : FE} {pos : Pos}
theorem op_eqZ (hu : X.A.units + 65 < cLine) : OpR X (compareOp .Eq) (rEqZ X.K) := by
  intro pins s σ H x y v u Q I rx ry h
  rcases h with h | h
  · exact op_eqX (by omega) pins s σ H x y v u Q I rx ry h
  · exact op_eqKv hu pins s σ H x y v u Q I rx ry h
theorem op_neZ (hu : X.A.units + 65 < cLine) : OpR X (compareOp .NotEq) (rNeZ X.K) := by
  intro pins s σ H x y v u Q I rx ry h
  rcases h with h | h
  · exact op_neX (by omega) pins s σ H x y v u Q I rx ry h
  · exact op_neKv hu pins s σ H x y v u Q I rx ry h
theorem de_eqZ (hu : X.A.units + 65 < cLine) (ha : DE X W a f) (hb : DE X W b h) : DE X W (.Compare a [.Eq] [b] pos) (e2 (opEqZ false) f h) := de_cmp (op_eqZ hu) sim_eqZ ha hb (nomark _)
theorem dt_neZ (hu : X.A.units + 65 < cLine) (ha : DE X W a f) (hb : DE X W b h) : DT X W (.Compare a [.NotEq] [b] pos) (tC2 (opEqZ true) f h) := dt_cmp (op_neZ hu) sim_neZ ha hb (nomark _)
end
end DL
namespace DL
open PySem L2 PySem.Spec PyProof.Rows
structure FnX (P : Program) (w : World) (K : PySem.W.Frag) (mg : Str → Option Value) (base : Heap) (k : Nat) (f : Addr) (fd : FuncData) (ps : List Str) (sp : Sp) : Prop where
  len : ∀ vs H Q E, sp vs H Q E → vs.length = ps.length
  run : ∀ (A : Around) (outer : List Env) (s : Shared) (H : Hp) (args : Args) (us : List Value) (vs : List V) (Q : VK) (E : XK), Room k A → A.guards = some [] → Env0 P w K mg base A outer s H → BindsTo s fd args (ps.zip us) → Vals vs us → sp vs H Q E →
    codeAny (model P w) A (.call (.ref f) args) (CR (L2.CX P w) outer P w H s Q E) s
/-- .. called by position -/
structure FnP (P : Program) (w : World) (K : PySem.W.Frag) (mg : Str → Option Value) (base : Heap) (k : Nat) (f : Addr) (sp : Sp) : Prop where
  run : ∀ (A : Around) (outer : List Env) (s : Shared) (H : Hp) (us : List Value) (vs : List V) (Q : VK) (E : XK), Room k A → A.guards = some [] → Env0 P w K mg base A outer s H → Vals vs us → sp vs H Q E →
    codeAny (model P w) A (.call (.ref f) ⟨us, []⟩) (CR (L2.CX P w) outer P w H s Q E) s
theorem FnX.toP {P : Program} {w : World} {K : PySem.W.Frag} {mg : Str → Option Value} {base : Heap} {k : Nat} {f : Addr} {fd : FuncData} {ps : List Str} {sp : Sp} (F : FnX P w K mg base k f fd ps sp) (hb : Binds K fd ps []) : FnP P w K mg base k f sp := by
  refine ⟨fun A outer s H us vs Q E hr hgd e0 r h => ?_⟩
  have hl : us.length = ps.length := by rw [← r.length]; exact F.len _ _ _ _ h
  have KX : K.In s.heap := e0.mod.kin.keeps fun b o e => (e0.bs b o e).1
  have hbs := hb s us KX (by simpa using hl)
  rw [List.append_nil] at hbs
  exact F.run A outer s H ⟨us, []⟩ us vs Q E hr hgd e0 hbs r h
theorem fnX_of {P : Program} {w : World} {K : PySem.W.Frag} {mg : Str → Option Value} {base : Heap} {x qual : Str} {st : Stmt} {f : Addr} {fd : FuncData} {N ps : List Str} {k : Nat} {sp : Sp} (F : Fun K x qual st f fd) (Sc : FnScope N ps (defScope st)) (len : ∀ vs H Q E, sp vs H Q E → vs.length = ps.length)
    (hbody : ∀ (cdv : Value) (A : Around) (outer : List Env) (s : Shared) (H : Hp) (vs : List V) (Q : VK) (E : XK), Room k (A.deeper (envOfC qual (defScope st) s.heap.objs.size f cdv)) → A.guards = some [] → sp vs H Q E →
      ∃ t, PSs (cxOf (L2.CX P w) P w K mg base N qual (defScope st) f cdv A outer s H E) (defBody st) t ∧ t { nx := fun _ H' => Q .non H', rt := Q } (start N vs) H) : FnX P w K mg base (k + 1) f fd ps sp := by
  obtain ⟨oc, od, kV, doc, pm, an, cdv, ct, osl, rfl, lk, hcd⟩ := F.ex
  refine ⟨len, fun A outer s H args us vs Q E hr hgd e0 hb r hsp => ?_⟩
  have hl := len _ _ _ _ hsp
  have keepB : ∀ b o, base.get? b = some o → s.heap.get? b = some o := fun b o e => (e0.bs b o e).1
  have KX : K.In s.heap := e0.mod.kin.keeps keepB
  have lim : s.heap.NoLimit := e0.mod.nolimit.keeps keepB
  obtain ⟨t, ht, hq⟩ := hbody cdv A outer s H vs Q E (hr.deeper _) hgd hsp
  refine codeAny_call_function hr.depth (KX _ _ lk) rfl Sc.co Sc.gen rfl (PySem.W.codeRec_of KX hcd) (hb _ _ _ _ ?_)
  refine wpAny_newFunctionEnv_cells Sc.kind (fun y hy => ?_) fun env he s1 xx => ?_
  · obtain ⟨n, v⟩ := y
    rcases Sc.par n (List.of_mem_zip hy).1 with q | q
    · exact .inl q
    · exact .inr ⟨q, PySem.W.cellsFrom_some _ _ _ (.inl q)⟩
  subst he
  refine ⟨lim.keeps xx.toInCall.keep, codeAny_func ?_⟩
  have I := inv_start (CX := L2.CX P w) (E := E) Sc hr.hd e0 hl r xx
  refine wpAny_mono (ht.run [] s1 (start N vs) H _ I hq) (fun fl s' hs => ?_) fun e s' hs => hs
  cases fl with
  | ret u =>
    obtain ⟨v, σ', H', J, rv, q⟩ := hs
    exact ⟨v, H', J.os, J.bare, J.base, J.hok, rv, q⟩
  | next =>
    obtain ⟨σ', H', J, q⟩ := hs
    exact ⟨.non, H', J.os, J.bare, J.base, J.hok, rfl, q⟩
  | brk =>
    obtain ⟨_, _, _, q⟩ := hs
    exact False.elim q
  | cont =>
    obtain ⟨_, _, _, q⟩ := hs
    exact False.elim q
/-- the later objects are forgotten when a def is left -/
def cutX (n : Nat) : Out D → Out D
  | .ok (.ob i) s => if i < n then .ok (.ob i) (s.take n) else .ok (.ob i) s
  | .ok d s => .ok d (s.take n)
  | .err x s => .err x (s.take n)
  | .bad => .bad
abbrev WE (E : XK) : WX := fun c d _ H => E c d H
def spX (K : PySem.W.Frag) (n : Nat) (g : List D → M D) : Sp := fun vs H Q E => ∃ G S ds, ds.length = n ∧ DenL K H G ds vs ∧ Rep K H G S ∧ Aft K (WE E) [] H G S (cutX S.length (g ds S)) (QD K Q)
theorem exn_cut {K : PySem.W.Frag} {H : Hp} {G : Gh} {n : Nat} {x : Exn} {d : Option Addr} (h : ExnAt K H G x d) : ExnAt K H ⟨G.ι.take n, G.φ⟩ x d := h
theorem Aft.uncutX {K : PySem.W.Frag} {W : WX} {H : Hp} {G : Gh} {S S' : Sto} {d : D} {Q : VK} (rp : Rep K H G S) (q : Aft K W [] H G S (cutX S.length (.ok d S')) (QD K Q)) {H' : Hp} {G' : Gh} {v : V} (x : Ext H G S H' G' S') (r : Rep K H' G' S') (dv : Den K H' G' d v) : Q v H' := by
  have fin : (∀ i, d = .ob i → i < S.length) → Aft K W [] H G S (.ok d (S'.take S.length)) (QD K Q) → Q v H' := fun hi q => q H' _ (x.cut rp) (r.cut _) v (den_cut dv hi)
  cases d with
  | p y => exact fin (fun i e => nomatch e) q
  | ro y => exact fin (fun i e => nomatch e) q
  | ext y => exact fin (fun i e => nomatch e) q
  | ob i =>
    by_cases hi : i < S.length
    · have q : Aft K W [] H G S (if i < S.length then .ok (.ob i) (S'.take S.length) else .ok (.ob i) S') (QD K Q) := q
      rw [if_pos hi] at q
      exact fin (fun j e => by cases e; exact hi) q
    · have q : Aft K W [] H G S (if i < S.length then .ok (.ob i) (S'.take S.length) else .ok (.ob i) S') (QD K Q) := q
      rw [if_neg hi] at q
      exact q H' G' x r v dv
/-- what stands behind a body, from what is wanted of the def -/
theorem body_read {K : PySem.W.Frag} {H : Hp} {G : Gh} {S : Sto} {Q : VK} {E : XK} {m : Nat} {ds : List D} {body : FS} (rp : Rep K H G S) (q : Aft K (WE E) [] H G S (cutX S.length (runF m body ds S)) (QD K Q)) :
    AftS K (WE E) { nx := fun _ H' => Q .non H', rt := Q } H G S (body (ds.map some ++ List.replicate (m - ds.length) none) S) := by
  unfold runF at q
  cases eo : body (ds.map some ++ List.replicate (m - ds.length) none) S with
  | none => rw [eo] at q; exact q
  | some pr =>
    obtain ⟨fl, S'⟩ := pr
    rw [eo] at q
    cases fl with
    | ret d => exact fun H' G' v x r dv => Aft.uncutX rp q x r dv
    | next ρ' => exact fun H' G' σ' x r rs => Aft.uncutX (d := .p .none) rp q x r .non
    | brk ρ' => exact q.elim
    | cont ρ' => exact q.elim
    | exc y ρ' => exact fun H' G' σ' d x r rs e => q H' ⟨G'.ι.take S.length, G'.φ⟩ d (x.cut rp) (r.cut _) (exn_cut e)
/-- the things a body's derivation may use -/
structure Ctx (X : Cx) (W : WX) (k : Nat) : Prop where
  hr : Room k X.A
  hgd : X.A.guards = some []
  tk : Takes X W
theorem Ctx.blk {X : Cx} {W : WX} {k : Nat} (C : Ctx X W k) {s : Shared} {H : Hp} {sc : Scope} {env : Env} {fp : List Addr} : Ctx (X.blk s H sc env fp) W0 k := ⟨C.hr, C.hgd, takes0⟩
theorem Ctx.u1 {X : Cx} {W : WX} {k : Nat} (C : Ctx X W k) : X.A.units + 1 < cLine := hu_of C.hr
theorem Ctx.u64 {X : Cx} {W : WX} {k : Nat} (C : Ctx X W k) : X.A.units + 64 < cLine := C.hr.units
theorem Ctx.u65 {X : Cx} {W : WX} {k : Nat} (C : Ctx X W k) : X.A.units + 65 < cLine := hu65 C.hr
/-- a loop lets exceptions on -/
abbrev Po (X : Cx) : Prop := PassesOwn (model X.prog X.w) X.A X.env X.xe
theorem fnX_data {P : Program} {w : World} {K : PySem.W.Frag} {mg : Str → Option Value} {base : Heap} {x qual : Str} {st : Stmt} {f : Addr} {fd : FuncData} {N ps : List Str} {k m n : Nat} (F : Fun K x qual st f fd) (Sc : FnScope N ps (defScope st)) (hm : N.length = m) (hn : ps.length = n) (body : FS)
    (hb : ∀ (cdv : Value) (A : Around) (outer : List Env) (s : Shared) (H : Hp) (E : XK), Ctx (cxOf (L2.CX P w) P w K mg base N qual (defScope st) f cdv A outer s H E) (WE E) k → Po (cxOf (L2.CX P w) P w K mg base N qual (defScope st) f cdv A outer s H E) → DSs (cxOf (L2.CX P w) P w K mg base N qual (defScope st) f cdv A outer s H E) (WE E) (defBody st) body) :
    FnX P w K mg base (k + 1) f fd ps (spX K n (runF m body)) := by
  subst hm hn
  refine fnX_of F Sc (fun vs H Q E ⟨G, S, ds, hl, dl, _⟩ => by rw [← dl.length]; exact hl) fun cdv A outer s H vs Q E hr hgd ⟨G, S, ds, hl, dl, rp, q⟩ => ?_
  refine ⟨_, (hb cdv A outer s H E ⟨hr, hgd, takes_of rfl rfl rfl rfl⟩ (passes_of rfl)).run, G, S, ds.map some ++ List.replicate (N.length - ds.length) none, ?_, rp, body_read rp q⟩
  rw [dl.length]
  exact RelS.ofArgs (N.length - vs.length) dl
theorem fnX_none {P : Program} {w : World} {K : PySem.W.Frag} {mg : Str → Option Value} {base : Heap} {f : Addr} {fd : FuncData} {ps : List Str} {k n : Nat} : FnX P w K mg base k f fd ps (spX K n fun _ _ => .bad) :=
  ⟨fun vs H Q E ⟨_, _, _, _, _, _, q⟩ => q.elim, fun _ _ _ _ _ _ _ _ _ _ _ _ _ _ ⟨_, _, _, _, _, _, q⟩ => q.elim⟩
def eCallX (n : Nat) (g : List D → M D) (fa : FA) : FE := fun ρ S => (fa ρ S).bind fun ds S1 => if ds.length = n then cutX S1.length (g ds S1) else .bad
section
variable {X : Cx} {W : WX} {k n : Nat} {f : Addr} {fd : FuncData} {ps : List Str} {sp : Sp} {x : Str} {p pos : Pos} {e : Expr} {es : List Expr} {fa : FA} {g : List D → M D}
theorem run_fnP {pins : List (Addr × Obj)} {σ : L2.St} {H : Hp} {s : Shared} {Q : VK} {us : List Value} {vs : List V} (F : FnP X.prog X.w X.K X.mg X.base k f sp) (C : Ctx X W k)
    (I : L2.Inv X pins σ H s) (r : Vals vs us) (h : sp vs H Q fun c d H' => W c d σ H') : wpAny (model X.prog X.w) X.A (call (.ref f) us) (EP X pins σ Q) X.xe s := by
  refine wpAny_call (codeAny_mono (F.run X.A X.stack s H us vs Q _ C.hr C.hgd I.env0 r h) fun res s' hq => ?_)
  match res, hq with
  | .error e, hq => exact C.tk e s' (XE.of_call I (fun cls d H' h => h) hq)
  | .ok (.ret u), hq => exact I.after hq
  | .ok .next, hq => exact False.elim hq
  | .ok .brk, hq => exact False.elim hq
  | .ok .cont, hq => exact False.elim hq
theorem callX_read {σ : L2.St} {H : Hp} {Q : VK} (q : rd X.K W (eCallX n g fa) σ H Q) : rdA X.K W fa σ H fun vs H1 => spX X.K n g vs H1 Q fun c d H' => W c d σ H' := by
  obtain ⟨G, S, ρ, rs, rp, q⟩ := q
  refine ⟨G, S, ρ, rs, rp, (Aft.bind q).mono fun ds H1 G1 S1 x1 r1 q1 vs dv => ?_⟩
  by_cases hl : ds.length = n
  · simp only [if_pos hl] at q1
    refine ⟨G1, S1, ds, hl, dv, r1, ?_⟩
    cases eo : cutX S1.length (g ds S1) with
    | ok a S2 => rw [eo] at q1; exact q1
    | err y S2 => rw [eo] at q1; exact q1
    | bad => rw [eo] at q1; exact q1
  · simp only [if_neg hl] at q1; exact q1.elim
theorem de_callP (F : FnP X.prog X.w X.K X.mg X.base k f sp) (hsp : ∀ vs H Q E, spX X.K n g vs H Q E → sp vs H Q E) (C : Ctx X W k) (hg : Gl X x) (hm : X.mg x = some (.ref f)) (hk : PySem.W.keepIn X.K (.ref f) = true)
    (ha : DA X W (e :: es) fa) (hdb : (x == ("__debug__" : Str)) = false := by decide) (he : starEach (e :: es) X.env = (false, eval e X.env) :: starEach es X.env := by rfl) (hpl : (backTo pos (starEach es X.env)).any (·.1) = false := by rfl) :
    DE X W (.Call (.Name x p) (e :: es) [] pos) (eCallX n g fa) := by
  refine ⟨⟨fun pins s σ H Q I h => wpAny_Call_Name_kw (ld_glob I hg hm ?_ hdb)⟩⟩
  refine PySem.W.callWith_K (h₀ := X.base) I.ok.mod.kin hk (thn (ha.run.run pos pins s σ H _ I (callX_read h)) fun us s1 ⟨vs, H1, I1, r, q⟩ => ⟨I1.kIn, run_fnP F C I1 r (hsp _ _ _ _ q)⟩) he hpl
/-- a def with parameters only -/
theorem de_callX (F : FnX X.prog X.w X.K X.mg X.base k f fd ps (spX X.K n g)) (C : Ctx X W k) (hg : Gl X x) (hm : X.mg x = some (.ref f)) (hk : PySem.W.keepIn X.K (.ref f) = true) (hb : Binds X.K fd ps [])
    (ha : DA X W (e :: es) fa) (hdb : (x == ("__debug__" : Str)) = false := by decide) (he : starEach (e :: es) X.env = (false, eval e X.env) :: starEach es X.env := by rfl) (hpl : (backTo pos (starEach es X.env)).any (·.1) = false := by rfl) :
    DE X W (.Call (.Name x p) (e :: es) [] pos) (eCallX n g fa) := de_callP (F.toP hb) (fun _ _ _ _ h => h) C hg hm hk ha hdb he hpl
end
theorem law_goX {P : Program} {w : World} {K : PySem.W.Frag} {mg mb : Str → Option Value} {k : Nat} {fa a : Addr} {fd : FuncData} {x : Str} {sp : Sp} {s₁ : Shared} {vs : List Value} {ns : List Int}
    (KX : K.In s₁.heap) (hns : s₁.heap.Ns mainGlobals mg) (hb : s₁.heap.Ns builtinsNs mb) (hbb : ∀ x : Str, x ≠ "__name__" → mb x = bootBuiltins x) (hlim : s₁.heap.NoLimit) (hg : s₁.gens = #[])
    (ha : s₁.heap.get? a = some { cls := .type "list", data := .seq vs.toArray }) (hi : IntsAre vs ns) (hl : ns.length ≤ sizeLine) (hr : Room k callerA)
    (F : ∀ base : Heap, K.In base → base.Ns mainGlobals mg → FnX P w K mg base k fa fd [x] sp) (hbind : ∀ (s : Shared) (u : Value), BindsTo s fd ⟨[u], []⟩ [(x, u)])
    (hsp : ∀ H : Hp, Only H → SqL K H a (ns.map V.int) → sp [.ref a] H (fun v _ => v = .bl true) fun _ _ _ => False) :
    codeAny (model P w) callerA (.call (.ref fa) ⟨[.ref a], []⟩) (fun r s' => r = .ok (.ret (.bool true)) ∧ OldK s₁.heap s'.heap ∧ s'.os = s₁.os ∧ AllBare s'.gens) s₁ := by
  have rv := vals_ints hi
  have lenV := hi.length
  have main : ∀ H : Hp, Only H → SqL K H a (ns.map V.int) → HOk P w H s₁.heap → (∀ b, H b ≠ none → b = a) → (H a ≠ none → K.lookup a = none) →
      codeAny (model P w) callerA (.call (.ref fa) ⟨[.ref a], []⟩) (fun r s' => r = .ok (.ret (.bool true)) ∧ OldK s₁.heap s'.heap ∧ s'.os = s₁.os ∧ AllBare s'.gens) s₁ := by
    intro H hO hS hok hA hK
    have free : ∀ {b : Addr} {o : Obj} {es : Array DictEntry} {ep : Nat}, s₁.heap.get? b = some o → o.data = .dict es ep → H b = none := fun {b o es ep} e d => by
      by_cases q : H b = none
      · exact q
      · have e' := hA b q
        subst e'
        rw [ha] at e; cases e
        cases (show Data.seq vs.toArray _ = Data.dict es ep from d)
    have nsK : ∀ {b : Addr} {m : Str → Option Value}, s₁.heap.Ns b m → (hidT s₁.heap H).Ns b m := fun ⟨o, es, ep, e, d, r⟩ => ⟨o, es, ep, hidT_get e (free e d), d, r⟩
    have hKb : K.In (hidT s₁.heap H) := fun b o e => hidT_get (KX b o e) (by
      by_cases q : H b = none
      · exact q
      · have e' := hA b q
        subst e'
        rw [hK q] at e; cases e)
    obtain ⟨mc, l1, l2⟩ := id hlim
    have hM : Mod K mg (hidT s₁.heap H) := ⟨hKb, nsK hns, ⟨mb, nsK hb, hbb⟩, ⟨mc, nsK l1, l2⟩⟩
    have e0 : Env0 P w K mg (hidT s₁.heap H) callerA [] s₁ H := ⟨rfl, hM, fun b o e => of_hidT e, Nat.le_of_eq (hidT_size _ _), trivial, fun b hb => absurd (show b ∈ ([] : List Addr) from hb) (by simp), hok, .of_eq hg⟩
    refine codeAny_mono ((F _ hKb (nsK hns)).run callerA [] s₁ H ⟨[.ref a], []⟩ [.ref a] [.ref a] _ _ hr rfl e0 (hbind s₁ (.ref a)) (.cons rfl .nil) (hsp H hO hS)) fun r s' h => ?_
    match r, h with
    | .error e, h =>
      obtain ⟨_, _, _, _, _, _, _, _, _, _, _, _, z⟩ := (show L2.CX P w [] H s₁ (fun _ _ _ => False) e s' from h)
      exact z.elim
    | .ok .next, h => exact False.elim h
    | .ok .brk, h => exact False.elim h
    | .ok .cont, h => exact False.elim h
    | .ok (.ret u), h =>
      obtain ⟨v, H', os, bare, un, hok', r', q⟩ := h
      have q' : v = .bl true := q
      subst q'
      obtain rfl : u = Value.bool true := r'
      refine ⟨rfl, OldK.of_keep fun b o e => ?_, os, bare⟩
      rcases hO b with z | ⟨ob, xs, z⟩
      · exact un.keep b o e z (fun y => absurd (show b ∈ ([] : List Addr) from y) (by simp)) (by simp)
      · obtain ⟨e1, _⟩ := hok b _ z
        obtain ⟨e2, _⟩ := hok' b _ (un.frzs b ob _ z)
        rw [e] at e1; cases e1
        exact e2
  cases hk : K.lookup a with
  | some o =>
    have e := KX a o hk
    rw [ha] at e
    cases e
    refine main (fun _ => none) (fun _ => .inl rfl) (.inr ⟨_, vs.toArray, _, hk, rfl, rfl, rfl, by rw [List.size_toArray, lenV]; exact hl, by simpa using rv⟩) (fun b u z => by cases (show (none : Option HO) = some u from z)) (fun b z => absurd rfl z) fun z => absurd rfl z
  | none =>
    refine main (upd (fun _ => none) a (.frz { cls := .type "list", data := .seq vs.toArray } (.lst (ns.map V.int)))) (fun b => ?_) (.inl (.inr ⟨{ cls := .type "list", data := .seq vs.toArray }, upd_same⟩)) (fun b u z => ?_) (fun b z => ?_) fun _ => hk
    · by_cases hb : b = a
      · subst hb; exact .inr ⟨_, _, upd_same⟩
      · rw [upd_ne hb]; exact .inl rfl
    · by_cases hb : b = a
      · subst hb
        rw [upd_same] at z; cases z
        exact ⟨ha, by rw [List.length_map]; exact hl, vs, _, rv, ha⟩
      · rw [upd_ne hb] at z; cases z
    · by_cases hb : b = a
      · exact hb
      · rw [upd_ne hb] at z; exact absurd rfl z
theorem law_spX {K : PySem.W.Frag} {g : List D → M D} {ns : List Int} {a : Addr} {H : Hp} (h : ∃ S', g [.ro (nums ns)] [] = .ok (.p (.bool true)) S') (hO : Only H) (hS : SqL K H a (ns.map V.int)) : spX K 1 g [.ref a] H (fun v _ => v = .bl true) fun _ _ _ => False := by
  obtain ⟨S', e⟩ := h
  have fin : ∀ (φ : List (Addr × HO)), Holds φ H → RL K φ a (ns.map V.int) → spX K 1 g [.ref a] H (fun v _ => v = .bl true) fun _ _ _ => False := fun φ hφ hr => by
    refine ⟨⟨[], φ⟩, [], [.ro (nums ns)], rfl, .cons ⟨a, _, rfl, hr, nums_dn ns⟩ .nil, ⟨rfl, List.nodup_nil, fun i b o h => by simp at h, hφ, fun p _ l => ?_⟩, ?_⟩
    · obtain ⟨i, o, h, _⟩ := l
      simp at h
    · rw [e]
      exact fun H' G' x r v dv => den_bool dv
  rcases hS with (h | ⟨o, h⟩) | h
  · exact fin [(a, .lst (ns.map V.int))] (fun p hp => by obtain rfl := List.mem_singleton.mp hp; exact h) fun H' q => SqL.of (q _ (List.mem_singleton.mpr rfl))
  · exact fin [(a, .frz o (.lst (ns.map V.int)))] (fun p hp => by obtain rfl := List.mem_singleton.mp hp; exact h) fun H' q => .inl (.inr ⟨o, q _ (List.mem_singleton.mpr rfl)⟩)
  · exact fin [] (fun p hp => by cases hp) fun H' _ => .inr h
theorem walkX_data {l : PySem.W.OpenLaw} {k : Nat} {q : Program} {loose : List Str} {XP : (Str → Option Value) → Heap → Prop} {YP : World → Heap → Prop} {d : DefRec} {K : Params → PySem.W.Frag} {x : Str} {g : List D → M D}
    (hn : l.most = some 63) (hdf : d.params.defaults = []) (hr : Room k callerA) (hY : ∀ (w : World) (h : Heap), YP w h → (K w.params).In h)
    (F : ∀ (w : World) (mg : Str → Option Value) (fa : Addr) (h : Heap), (K w.params).In h → h.Ns mainGlobals mg → mg d.name = some (.ref fa) →
      ∃ fd : FuncData, (∀ (s : Shared) (u : Value), BindsTo s fd ⟨[u], []⟩ [(x, u)]) ∧ ∀ base : Heap, (K w.params).In base → base.Ns mainGlobals mg → FnX l.prog w (K w.params) mg base k fa fd [x] (spX (K w.params) 1 g))
    (hg : ∀ ns : List Int, ns.length ≤ 63 → ∃ S', g [.ro (nums ns)] [] = .ok (.p (.bool true)) S') : PySem.W.WalkO q loose XP YP l.row.toRowW d [] (fun f vs => PySem.call f vs) := by
  refine Att.attach_call hn hdf fun w s₀ s₁ mg mb fa o pm cd doc a vs ns G Y ho hd hcd hmg hobj hints hlen hgn => ?_
  have KX := hY w _ Y
  obtain ⟨fd, hb, hF⟩ := F w mg fa _ KX G.T.g hmg
  exact law_goX KX G.T.g G.T.b G.T.builtins G.T.nolimit hgn hobj hints (Nat.le_trans hlen (by decide)) hr hF hb fun H hO hS => law_spX (hg ns hlen) hO hS
end DL
namespace DL
open PySem L2 PySem.Spec PyProof.Rows
inductive Arm where
  | texts (xs : List Str)
  | any
def armB (x : Str) : Arm → Bool
  | .texts xs => xs.contains x
  | .any => true
def armGo (x : Str) : List (Arm × FS) → FS
  | [] => sNext
  | (a, b) :: r => if armB x a then b else armGo x r
def sMatch (f : FE) (arms : List (Arm × FS)) : FS := fun ρ S => (f ρ S).st ρ fun d S1 => match d with
  | .p (.str x) => armGo x arms ρ S1
  | _ => none
def max2M : List D → M D := fun ds S => match ds with
  | [.p (.int i), .p (.int j)] => .ok (.p (.int (if j > i then j else i))) S
  | _ => .bad
def min2M : List D → M D := fun ds S => match ds with
  | [.p (.int i), .p (.int j)] => .ok (.p (.int (if j < i then j else i))) S
  | _ => .bad
section
variable {X : Cx} {W : WX} {e e' : Expr} {fa : FA} {p pos : Pos}
theorem de_min2 (hc : X.calm = true) (hg : Gl X "min") (hm : X.mg "min" = none) (ha : DA X W [e, e'] fa) (he : starEach [e, e'] X.env = (false, eval e X.env) :: starEach [e'] X.env := by rfl) (hpl : (backTo pos (starEach [e'] X.env)).any (·.1) = false := by rfl) : DE X W (.Call (.Name "min" p) [e, e'] [] pos) (eA min2M fa) :=
  de_callB (call_min2 hc) (fun W σ H G S ds vs Q rp dv q => by
    unfold min2M at q
    split at q
    · rename_i i j
      obtain ⟨u, v, rfl, d1, d2⟩ := denL2 dv
      obtain rfl := den_int d1
      obtain rfl := den_int d2
      exact ⟨i, j, rfl, q.ret rp (.int _)⟩
    · exact q.elim) hg hm rfl ha (he := he) (hpl := hpl)
end
end DL
namespace DL
open PySem L2
section
variable {ρ : Ev} {S : Sto} {f g h : FE} {fa : FA} {n : Nat} {Q : D → Sto → Prop} {X : Exn → Sto → Prop}
@[simp] theorem eCallX_ {m : List D → M D} : eCallX n m fa ρ S = (fa ρ S).bind fun ds S1 => if ds.length = n then cutX S1.length (m ds S1) else .bad := rfl
@[simp] theorem cutX_p {x : PyData} : cutX n (.ok (.p x) S) = .ok (.p x) (S.take n) := rfl
@[simp] theorem cutX_err {x : Exn} : cutX n (.err x S) = .err x (S.take n) := rfl
theorem cutX_same {x : PyData} {S' : Sto} (h : S'.length = S.length) : cutX S.length (.ok (.p x) S') = .ok (.p x) S' := by rw [← h]; simp
/-- a def's end where the store keeps its length -/
theorem wp_cutXS {o : Out D} (h : wp o (fun d s => s.length = n ∧ Q d s) (fun x s => s.length = n ∧ X x s)) : wp (cutX n o) Q X := by
  cases o with
  | ok d s =>
    obtain ⟨rfl, q⟩ := h
    cases d with
    | ob i =>
      show wp (if i < s.length then Out.ok (D.ob i) (s.take s.length) else .ok (.ob i) s) Q X
      rw [List.take_of_length_le (Nat.le_refl _)]
      split <;> exact q
    | p x => show Q _ (s.take s.length); rw [List.take_of_length_le (Nat.le_refl _)]; exact q
    | ro x => show Q _ (s.take s.length); rw [List.take_of_length_le (Nat.le_refl _)]; exact q
    | ext x => show Q _ (s.take s.length); rw [List.take_of_length_le (Nat.le_refl _)]; exact q
  | err x s =>
    obtain ⟨rfl, q⟩ := h
    show X x (s.take s.length)
    rw [List.take_of_length_le (Nat.le_refl _)]; exact q
  | bad => exact h
@[simp] theorem eqZ_s {neg : Bool} {a b : Str} : opEqZ neg (.p (.str a)) (.p (.str b)) S = .ok (.p (.bool (if neg then !(a == b) else (a == b)))) S := rfl
@[simp] theorem eqZ_i {neg : Bool} {a b : Int} : opEqZ neg (.p (.int a)) (.p (.int b)) S = .ok (.p (.bool (if neg then !(a == b) else (a == b)))) S := rfl
@[simp] theorem eqZ_b {neg : Bool} {a b : Bool} : opEqZ neg (.p (.bool a)) (.p (.bool b)) S = .ok (.p (.bool (if neg then !(a == b) else (a == b)))) S := rfl
@[simp] theorem eqZ_t0 {neg : Bool} {xs : List PyData} : opEqZ neg (.p (.tuple xs)) (.p (.tuple [])) S = .ok (.p (.bool (if neg then !xs.isEmpty else xs.isEmpty))) S := rfl
@[simp] theorem sMatch_ {arms : List (Arm × FS)} : sMatch f arms ρ S = (f ρ S).st ρ fun d S1 => match d with
  | .p (.str x) => armGo x arms ρ S1
  | _ => none := rfl
@[simp] theorem armGo_nil {x : Str} : armGo x [] ρ S = some (.next ρ, S) := rfl
@[simp] theorem eIce_ : eIce f ρ S = (f ρ S).bind fun d S1 => .ok (iceD d S1).1 (iceD d S1).2 := rfl
@[simp] theorem iceD_p {x : PyData} : iceD (.p x) S = (.p x, S) := rfl
theorem iceD_l {i : Nat} {xs : List PyData} (h : S[i]? = some (.lst xs)) : iceD (.ob i) S = (.p (.list xs), S.set i .dead) := by simp [iceD, h]
@[simp] theorem max2_ {i j : Int} : max2M [.p (.int i), .p (.int j)] S = .ok (.p (.int (if j > i then j else i))) S := rfl
@[simp] theorem min2_ {i j : Int} : min2M [.p (.int i), .p (.int j)] S = .ok (.p (.int (if j < i then j else i))) S := rfl
@[simp] theorem mkLstM0 : mkLstM [] S = .ok (.ob S.length) (S ++ [.lst []]) := rfl
@[simp] theorem iA_ {m : List D → M (List D)} : iA m fa ρ S = (fa ρ S).bind m := rfl
end
section
variable {c : DrC} {cs : List PyData} {i L : Nat} {n m : Int} {S : Sto} {Q : D → Sto → Prop} {X : Exn → Sto → Prop}
def pickBX (dr : List D → M D) : FS := (sRet (e2 opSubs (eVar 1) (eCallX 2 dr (aCons (eVar 0) (aCons (eA lenM (aCons (eVar 1) aNil)) aNil)))))
end
end DL
namespace DL
open PySem L2 PySem.Spec PyProof.Rows
def enumXM : List D → M (List D) := fun ds S => match ds with
  | [.p (.list xs)] => .ok (enumP 0 xs) S
  | [.p (.tuple xs)] => .ok (enumP 0 xs) S
  | _ => .bad
@[simp] theorem enumXM_t {xs : List PyData} {S : Sto} : enumXM [.p (.tuple xs)] S = .ok (enumP 0 xs) S := rfl
@[simp] theorem enumXM_l {xs : List PyData} {S : Sto} : enumXM [.p (.list xs)] S = .ok (enumP 0 xs) S := rfl
end DL
namespace DL
open PySem L2
def opAddX : D → D → M D := fun x y S => match lstOf S x, lstOf S y with
  | some xs, some ys => if xs.length + ys.length ≤ LIM then .ok (.p (.list (xs ++ ys))) S else .bad
  | _, _ => opAdd x y S
theorem sim_addX {K : PySem.W.Frag} : Sim2 K (rAddD K) opAddX := by
  intro W σ H G S x y v w Q rp dx dy q
  unfold opAddX at q
  split at q
  · rename_i xs ys e1 e2
    obtain ⟨a, vs, rfl, ha, ta⟩ := lstOf_den rp e1 dx
    obtain ⟨b, ws, rfl, hb, tb⟩ := lstOf_den rp e2 dy
    by_cases c : xs.length + ys.length ≤ LIM
    · rw [if_pos c] at q
      exact .inr (.inr (.inl ⟨a, b, vs, ws, rfl, rfl, ha, hb, by rw [← ta.length, ← tb.length]; exact Nat.le_trans c LIM_le, fun p hp => q.newLst rp (ta.append tb) hp⟩))
    · rw [if_neg c] at q; exact q.elim
  · exact sim_add W σ H G S x y v w Q rp dx dy q
theorem de_addX {X : Cx} {W : WX} {a b : Expr} {f h : FE} {pos : Pos} (ha : DE X W a f) (hb : DE X W b h) : DE X W (.BinOp a .Add b pos) (e2 opAddX f h) :=
  de_bin (op_add.or (op_add_str.or (op_cat.or op_catA))) sim_addX ha hb
@[simp] theorem opAddX_i {i j : Int} {S : Sto} : opAddX (.p (.int i)) (.p (.int j)) S = .ok (.p (.int (i + j))) S := rfl
theorem addX_l {i j : List PyData} {S : Sto} (h : i.length + j.length ≤ LIM) : opAddX (.p (.list i)) (.p (.list j)) S = .ok (.p (.list (i ++ j))) S := by simp [opAddX, lstOf, h]
/-- but for the object i the store is as before -/
def Oth (i : Nat) (S S' : Sto) : Prop := ∀ j, j ≠ i → S'[j]? = S[j]?
theorem Oth.refl {i : Nat} {S : Sto} : Oth i S S := fun _ _ => rfl
theorem Oth.trans {i : Nat} {S S1 S2 : Sto} (a : Oth i S S1) (b : Oth i S1 S2) : Oth i S S2 := fun j hj => (b j hj).trans (a j hj)
section
variable {c : DrC} {cs : List PyData} {i L : Nat} {n m : Int} {S : Sto} {Q : D → Sto → Prop} {X : Exn → Sto → Prop}
theorem drawK_ok (hc0 : c.ok) (hc : Cells cs) (h : Tape cs i L n S) (hn : n ≤ 1000000000000) (hm : 0 < m) (hm2 : m.natAbs.log2 < 9000) :
    ∃ g S', runF 6 (drawB2 c) [.ob i, .p (.int m)] S = .ok (.p (.int g)) S' ∧ 0 ≤ g ∧ g < m ∧ Tape cs i L (n + 1) S' ∧ Oth i S S' := by
  obtain ⟨hl, p, l, h0, h1, hS⟩ := h
  obtain ⟨g, p', l', a, b, c', d, e⟩ := drawB2_ok hc0 hc.1 hc.2 hS h0 (by omega) hm hm2
  refine ⟨g, _, e, a, b, ⟨by rw [List.length_set]; exact hl, p', l', c', by omega, tp_at hS⟩, fun j hj => ?_⟩
  rw [List.getElem?_set_ne (Ne.symm hj)]
theorem drawK_wp (hc0 : c.ok) (hc : Cells cs) (h : Tape cs i L n S) (hn : n ≤ 1000000000000) (hm : 0 < m) (hm2 : m.natAbs.log2 < 9000)
    (q : ∀ g S', 0 ≤ g → g < m → Tape cs i L (n + 1) S' → Oth i S S' → Q (.p (.int g)) S') : wp (cutX S.length (runF 6 (drawB2 c) [.ob i, .p (.int m)] S)) Q X := by
  obtain ⟨g, S', e, a, b, c, o⟩ := drawK_ok hc0 hc h hn hm hm2
  rw [e, cutX_same (c.1.trans h.1.symm)]
  exact q g S' a b c o
theorem pickK_wp (hc0 : c.ok) {xs : List PyData} (hc : Cells cs) (h : Tape cs i L n S) (hn : n ≤ 1000000000000) (hx : xs ≠ []) (hx2 : xs.length < 1000000)
    (q : ∀ d S', d ∈ xs → Tape cs i L (n + 1) S' → Oth i S S' → Q (.p d) S') : wp (cutX S.length (runF 2 (pickBX (runF 6 (drawB2 c))) [.ob i, .p (.list xs)] S)) Q X := by
  have hl : 0 < xs.length := List.length_pos_iff.mpr hx
  refine wp_cutXS ?_
  rw [wp_run]
  show wpS (pickBX (runF 6 (drawB2 c)) [some (.ob i), some (.p (.list xs))] S) _
  unfold pickBX
  simp
  refine drawK_wp hc0 hc h hn (by omega) (by
    have := lg (n := ((xs.length : Int)).natAbs) (k := 40) (by have : (2 : Nat) ^ 40 = 1099511627776 := by decide
                                                               omega) (by decide)
    omega) fun g S' g0 g1 t o => ?_
  obtain ⟨d, e2, hd⟩ := atI_ok g0 g1
  simp [subs_l e2]
  exact ⟨t.1.trans h.1.symm, q d S' hd t o⟩
end
section
variable {ρ : Ev} {S : Sto} {i : Nat} {xs ys : List PyData} {y : PyData} {m : D → List D → M D} {f : FE} {fa : FA}
@[simp] theorem eLm_ : eLm m f fa ρ S = (f ρ S).bind fun o S1 => match rlOf S1 o with
  | some _ => (fa ρ S1).bind fun ds S2 => m o ds S2
  | none => .bad := rfl
theorem rlOf_ob (h : S[i]? = some (.lst xs)) : rlOf S (.ob i) = some xs := by simp [rlOf, h]
theorem append_ok (h : S[i]? = some (.lst xs)) (hl : xs.length < 1000000) : appendM (.ob i) [.p y] S = .ok (.p .none) (S.set i (.lst (xs ++ [y]))) := by simp [appendM, h, LIM, hl]
theorem extend_ok (h : S[i]? = some (.lst xs)) (hl : xs.length + ys.length ≤ 1000000) : extendM (.ob i) [.p (.list ys)] S = .ok (.p .none) (S.set i (.lst (xs ++ ys))) := by simp [extendM, h, lstOf, LIM, hl]
theorem Tape.set {cs : List PyData} {t L : Nat} {n : Int} {o : MO} (h : Tape cs t L n S) (hi : i ≠ t) : Tape cs t L n (S.set i o) := by
  obtain ⟨a, p, l, b, c, d⟩ := h
  exact ⟨by rw [List.length_set]; exact a, p, l, b, c, by rw [List.getElem?_set_ne hi]; exact d⟩
theorem Tape.cut {cs : List PyData} {t L L' : Nat} {n : Int} (h : Tape cs t L' n S) (ht : t < L) (hl : L ≤ L') : Tape cs t L n (S.take L) := by
  obtain ⟨a, p, l, b, c, d⟩ := h
  exact ⟨by rw [List.length_take, a]; omega, p, l, b, c, by rw [List.getElem?_take, if_pos ht]; exact d⟩
end
end DL
namespace DL
open PySem L2 PySem.Spec PyProof.Rows
/-- the zip at z, as it stands at any turn -/
abbrev IsZ (h : Heap) (z TI TO : Addr) (f0 : Value) (f : Bool) : Prop :=
  h.get? z = some { cls := .type "zip", dict := none, data := .fields #[f0, .bool f, .bool false, .ref TI, .ref TO], slots := #[] }
def ZSt (h : Heap) (z TI TO : Addr) : Prop := ∃ f0 f, IsZ h z TI TO f0 f ∧ (f0 = .none ∨ ∃ T : Addr, f0 = rawInt T)
section
variable {prog : Program} {w : World} {A : Around} {E : Value → Shared → Prop} {s : Shared} {z TI TO i1 i2 : Addr} {fp1 fp2 : List Addr} {n1 n2 i : Nat} {P1 P2 : Nat → Value → Prop} {St1 St2 : Nat → Heap → Prop} {a1 a2 : Value} {f0 : Value} {f : Bool}
theorem isFree_zip {Q : Bool → Shared → Prop} (hz : IsZ s.heap z TI TO f0 f) (hf : f0 = .none ∨ ∃ T : Addr, f0 = rawInt T) (h1 : Q true s)
    (h2 : ∀ h', IsZ h' z TI TO f0 true → Heap.SameBut z s.heap h' → Q false { s with heap := h' }) : wpAny (model prog w) A (Builtin.SmallTypes.ownedTupleIsFree (.ref z)) Q E s := by
  unfold Builtin.SmallTypes.ownedTupleIsFree
  refine wpAny_bind (wpAny_field hz rfl (x := f0) rfl ?_)
  rcases hf with rfl | ⟨T, rfl⟩
  · exact wpAny_pure h1
  · show wpAny _ _ (loadIfAlive ((T : Int).toNat) >>= _) _ _ _
    rw [Int.toNat_natCast]
    refine wpAny_bind ?_
    intro a b c
    revert a b c
    change wpAny (model prog w) A (loadIfAlive T) _ E s
    cases hT : s.heap.get? T with
    | none =>
      have : wpAny (model prog w) A (loadIfAlive T) (fun o s' => o = none ∧ s' = s) E s := fun _ _ _ => ⟨hT, rfl⟩
      refine wpAny_mono this (fun o s' ⟨e1, e2⟩ => ?_) (fun _ _ h => h)
      subst e1 e2
      exact wpAny_pure h1
    | some oT =>
      refine PySem.W.kdx_alive hT ?_
      simp only [Option.isNone_some, Bool.false_eq_true, if_false]
      refine wpAny_bind (wpAny_field hz rfl (x := .bool f) rfl ?_)
      cases f with
      | true =>
        rw [if_neg (show ¬ ((Value.bool true != Value.bool true) = true) from Bool.false_ne_true)]
        exact wpAny_pure (h2 s.heap hz (Heap.SameBut.refl _ _))
      | false =>
        rw [if_pos (show (Value.bool false != Value.bool true) = true from rfl)]
        exact wpAny_bind (wpAny_setField_rec hz (by simp) fun h₁ hz₁ hs₁ => wpAny_pure (h2 h₁ hz₁ hs₁))
theorem zipX_next_item {Q : Value → Shared → Prop} (S : ZipSep2 z TI TO i1 i2 fp1 fp2) (D1 : Draws prog w A i1 fp1 n1 P1 St1) (D2 : Draws prog w A i2 fp2 n2 P2 St2)
    (hzs : ZSt s.heap z TI TO) (hTI : IsTupOf2 s.heap TI (.ref i1) (.ref i2)) (hTO : IsTupOf2 s.heap TO a1 a2) (st1 : St1 i s.heap) (st2 : St2 i s.heap) (hlt1 : i < n1) (hlt2 : i < n2)
    (hQ : ∀ x1 x2 h' tk, P1 i x1 → P2 i x2 → ZSt h' z TI TO → (∃ b1 b2, IsTupOf2 h' TO b1 b2) → St1 (i + 1) h' → St2 (i + 1) h' → IsTupOf2 h' s.heap.objs.size x1 x2 → h'.objs.size = s.heap.objs.size + 1 →
      (∀ c o, c ≠ z → c ≠ TO → c ≠ i1 → c ≠ i2 → s.heap.get? c = some o → h'.get? c = some o) → Q (.ref s.heap.objs.size) { s with heap := h', toks := tk }) :
    wpAny (model prog w) A (Builtin.«zip.__next__» ⟨[.ref z], []⟩) (fun fin s' => ∃ v, fin = .done (.ret v) ∧ Q v s') E s := by
  obtain ⟨hp, g, d, tk0, os⟩ := s
  obtain ⟨f0, f, hz, hf⟩ := hzs
  show wpAny _ _ (field (.ref z) 2 >>= _) _ _ _
  refine wpAny_bind (wpAny_field hz rfl (x := .bool false) rfl ?_)
  show wpAny _ _ (field (.ref z) 3 >>= _) _ _ _
  refine wpAny_bind (wpAny_field hz rfl (x := .ref TI) rfl ?_)
  refine wpAny_bind (wpAny_seqItems hTI rfl ?_)
  show wpAny _ _ (Builtin.SmallTypes.ownedTupleIsFree (.ref z) >>= _) _ _ _
  refine wpAny_bind (isFree_zip hz hf ?_ fun h₁ hz₁ hs₁ => ?_)
  · simp only [if_true]
    refine wpAny_bind (wpAny_rule ?_)
    refine wpAny_bind (wpAny_field hz rfl (x := .ref TO) rfl ?_)
    refine wpAny_bind (wpAny_setField_rec hz (by simp) fun g0 hz0 hs0 => ?_)
    replace hz0 : IsZ g0 z TI TO .ellipsis f := hz0
    replace hs0 : Heap.SameBut z hp g0 := hs0
    refine wpAny_bind ?_
    simp only [List.zipIdx_cons, List.zipIdx_nil, List.forIn_cons, List.forIn_nil]
    refine wpAny_bind (wpAny_bind (wpAny_onRaise ?_))
    show wpAny _ _ (Builtin.SmallTypes.nextOf (.ref i1) >>= _) _ _ ⟨g0, g, d, tk0, os⟩
    refine wpAny_bind (D1.item i _ _ _ hlt1 (D1.over st1 hs0 S.zf1) fun x1 p1 tk1 hx1 sn1 hp1 => wpAny_pure ?_)
    replace hp1 : Heap.SameBut i1 g0 p1 := hp1
    have hU1 : IsTupOf2 p1 TO a1 a2 := hp1.extBut _ _ S.Ti1 (hs0.extBut _ _ S.TOz hTO)
    refine wpAny_bind (wpAny_seqItems (s := ⟨p1, g, d, tk1, os⟩) hU1 rfl ?_)
    refine wpAny_bind (updateSeq_IsTupOf2 (s := ⟨p1, g, d, tk1, os⟩) hU1 fun g1 hT1 hs1 => ?_)
    replace hT1 : IsTupOf2 g1 TO x1 a2 := hT1
    replace hs1 : Heap.SameBut TO p1 g1 := hs1
    refine wpAny_bind (wpAny_letGo (wpAny_pure ?_))
    refine wpAny_bind (wpAny_bind (wpAny_onRaise ?_))
    show wpAny _ _ (Builtin.SmallTypes.nextOf (.ref i2) >>= _) _ _ ⟨g1, g, d, tk1, os⟩
    refine wpAny_bind (D2.item i _ _ _ hlt2 (D2.over (D2.over (D2.over st2 hs0 S.zf2) hp1 S.sep1_2) hs1 S.Tf2) fun x2 p2 tk2 hx2 sn2 hp2 => wpAny_pure ?_)
    replace hp2 : Heap.SameBut i2 g1 p2 := hp2
    have hU2 : IsTupOf2 p2 TO x1 a2 := hp2.extBut _ _ S.Ti2 hT1
    refine wpAny_bind (wpAny_seqItems (s := ⟨p2, g, d, tk2, os⟩) hU2 rfl ?_)
    refine wpAny_bind (updateSeq_IsTupOf2 (s := ⟨p2, g, d, tk2, os⟩) hU2 fun g2 hT2 hs2 => ?_)
    replace hT2 : IsTupOf2 g2 TO x1 x2 := hT2
    replace hs2 : Heap.SameBut TO p2 g2 := hs2
    refine wpAny_bind (wpAny_letGo (wpAny_pure (wpAny_pure ?_)))
    refine wpAny_bind (wpAny_seqItems (s := ⟨g2, g, d, tk2, os⟩) hT2 rfl ?_)
    refine wpAny_bind (wpAny_newTuple ?_)
    have hsz : g2.objs.size = hp.objs.size := by rw [hs2.1, hp2.1, hs1.1, hp1.1, hs0.1]
    have hzz : IsZ g2 z TI TO .ellipsis f := (hs2.extBut _ _ S.TOz.symm (hp2.extBut _ _ S.zi2 (hs1.extBut _ _ S.TOz.symm (hp1.extBut _ _ S.zi1 hz0))))
    have hkk : ∀ c o, c ≠ z → c ≠ TO → c ≠ i1 → c ≠ i2 → hp.get? c = some o → g2.get? c = some o := fun c o cz cT c1 c2 e =>
      (hs2.extBut _ _ cT (hp2.extBut _ _ c2 (hs1.extBut _ _ cT (hp1.extBut _ _ c1 (hs0.extBut _ _ cz e)))))
    have hj1 : St1 (i + 1) g2 := (D1.over (D1.over (D1.over sn1 hs1 S.Tf1) hp2 S.sep2_1) hs2 S.Tf1)
    have hj2 : St2 (i + 1) g2 := (D2.over sn2 hs2 S.Tf2)
    have hzlt : z < g2.objs.size := Heap.lt_size hzz
    show wpAny _ _ (Builtin.SmallTypes.ownedTupleHandOut (.ref z) (.ref g2.objs.size) >>= _) _ _ ⟨g2.push { cls := .type "tuple", data := .seq #[x1, x2] }, g, d, tk2, os⟩
    refine wpAny_bind ?_
    unfold Builtin.SmallTypes.ownedTupleHandOut
    have hz₆ : IsZ (g2.push { cls := .type "tuple", data := .seq #[x1, x2] }) z TI TO .ellipsis f := Heap.get?_push_of_some _ hzz
    refine wpAny_bind (wpAny_setField_rec hz₆ (by simp) fun h₇ hz₇ hs₇ => ?_)
    replace hz₇ : IsZ h₇ z TI TO (rawInt g2.objs.size) f := hz₇
    refine wpAny_setField_rec hz₇ (by simp) fun h₈ hz₈ hs₈ => ?_
    replace hz₈ : IsZ h₈ z TI TO (rawInt g2.objs.size) false := hz₈
    replace hs₇ : Heap.SameBut z (g2.push { cls := .type "tuple", data := .seq #[x1, x2] }) h₇ := hs₇
    replace hs₈ : Heap.SameBut z h₇ h₈ := hs₈
    have up : ∀ c o, c ≠ z → g2.get? c = some o → h₈.get? c = some o := fun c o c1 e => hs₈.extBut _ _ c1 (hs₇.extBut _ _ c1 (Heap.get?_push_of_some _ e))
    have hT₈ : IsTupOf2 h₈ g2.objs.size x1 x2 := hs₈.extBut _ _ (Nat.ne_of_gt hzlt) (hs₇.extBut _ _ (Nat.ne_of_gt hzlt) (Heap.get?_push_size _ rfl))
    have hz8 : h₈.objs.size = g2.objs.size + 1 := by rw [hs₈.1, hs₇.1, Heap.size_push]
    rw [hsz] at hz₈ hT₈ hz8
    refine wpAny_pure ⟨_, rfl, ?_⟩
    show Q (.ref g2.objs.size) ⟨h₈, g, d, tk2, os⟩
    rw [hsz]
    exact hQ x1 x2 h₈ tk2 hx1 hx2 ⟨_, _, hz₈, .inr ⟨_, rfl⟩⟩ ⟨_, _, up _ _ S.TOz hT2⟩ (D1.frame _ _ _ hj1 fun b hb o e => up b o (fun q => S.zf1 (q ▸ hb)) e) (D2.frame _ _ _ hj2 fun b hb o e => up b o (fun q => S.zf2 (q ▸ hb)) e) hT₈ hz8 fun c o cz cT c1 c2 e => up c o cz (hkk c o cz cT c1 c2 e)
  · replace hs₁ : Heap.SameBut z hp h₁ := hs₁
    simp only [Bool.false_eq_true, if_false]
    refine wpAny_bind ?_
    rw [← Array.forIn_toList]
    simp only [List.forIn_cons, List.forIn_nil]
    refine wpAny_bind (wpAny_bind (wpAny_holding ?_))
    show wpAny _ _ (Builtin.SmallTypes.nextOf (.ref i1) >>= _) _ _ ⟨h₁, g, d, tk0, os⟩
    refine wpAny_bind (D1.item i _ _ _ hlt1 (D1.over st1 hs₁ S.zf1) fun x1 p1 tk1 hx1 sn1 hp1 => wpAny_pure ?_)
    replace hp1 : Heap.SameBut i1 h₁ p1 := hp1
    refine wpAny_pure ?_
    refine wpAny_bind (wpAny_bind (wpAny_holding ?_))
    show wpAny _ _ (Builtin.SmallTypes.nextOf (.ref i2) >>= _) _ _ ⟨p1, g, d, tk1, os⟩
    refine wpAny_bind (D2.item i _ _ _ hlt2 (D2.over (D2.over st2 hs₁ S.zf2) hp1 S.sep1_2) fun x2 p2 tk2 hx2 sn2 hp2 => wpAny_pure ?_)
    replace hp2 : Heap.SameBut i2 p1 p2 := hp2
    refine wpAny_pure (wpAny_pure ?_)
    show wpAny _ _ (newTuple [x1, x2] >>= _) _ _ _
    refine wpAny_bind (wpAny_newTuple ?_)
    have hsz : p2.objs.size = hp.objs.size := by rw [hp2.1, hp1.1, hs₁.1]
    have hz3 : IsZ p2 z TI TO f0 true := hp2.extBut _ _ S.zi2 (hp1.extBut _ _ S.zi1 hz₁)
    have hk : ∀ c o, c ≠ z → c ≠ i1 → c ≠ i2 → hp.get? c = some o → p2.get? c = some o := fun c o c1 c2 c3 e => hp2.extBut _ _ c3 (hp1.extBut _ _ c2 (hs₁.extBut _ _ c1 e))
    have hj1 : St1 (i + 1) p2 := D1.over sn1 hp2 S.sep2_1
    refine wpAny_pure ⟨_, rfl, ?_⟩
    have hpp : IsTupOf2 (p2.push { cls := .type "tuple", data := .seq #[x1, x2] }) p2.objs.size x1 x2 := Heap.get?_push_size _ rfl
    have hz4 : (p2.push { cls := .type "tuple", data := .seq #[x1, x2] }).objs.size = p2.objs.size + 1 := Heap.size_push ..
    show Q (.ref p2.objs.size) ⟨p2.push _, g, d, tk2, os⟩
    rw [hsz] at hpp hz4 ⊢
    exact hQ x1 x2 _ tk2 hx1 hx2 ⟨_, _, Heap.get?_push_of_some _ hz3, hf⟩ ⟨a1, a2, Heap.get?_push_of_some _ (hk _ _ S.TOz S.Ti1 S.Ti2 hTO)⟩ (D1.frame _ _ _ hj1 fun b _ o e => Heap.get?_push_of_some _ e) (D2.frame _ _ _ sn2 fun b _ o e => Heap.get?_push_of_some _ e) hpp hz4 fun c o c1 _ c2 c3 e => Heap.get?_push_of_some _ (hk c o c1 c2 c3 e)
theorem zipX_next_end {Q : Fin → Shared → Prop} (S : ZipSep2 z TI TO i1 i2 fp1 fp2) (D1 : Draws prog w A i1 fp1 n1 P1 St1) (D2 : Draws prog w A i2 fp2 n2 P2 St2)
    (hzs : ZSt s.heap z TI TO) (hTI : IsTupOf2 s.heap TI (.ref i1) (.ref i2)) (hTO : IsTupOf2 s.heap TO a1 a2) (st1 : St1 i s.heap) (st2 : St2 i s.heap) (hle1 : i ≤ n1) (hle2 : i ≤ n2) (hend : i = n1 ∨ i = n2)
    (hE : ∀ h' tk e, (∀ c o, c ≠ z → c ≠ TO → c ≠ i1 → c ≠ i2 → s.heap.get? c = some o → h'.get? c = some o) → (∃ o, h'.get? e = some o ∧ o.cls = .type "StopIteration") → E (.ref e) { s with heap := h', toks := tk }) :
    wpAny (model prog w) A (Builtin.«zip.__next__» ⟨[.ref z], []⟩) Q E s := by
  obtain ⟨hp, g, d, tk0, os⟩ := s
  obtain ⟨f0, f, hz, hf⟩ := hzs
  show wpAny _ _ (field (.ref z) 2 >>= _) _ _ _
  refine wpAny_bind (wpAny_field hz rfl (x := .bool false) rfl ?_)
  show wpAny _ _ (field (.ref z) 3 >>= _) _ _ _
  refine wpAny_bind (wpAny_field hz rfl (x := .ref TI) rfl ?_)
  refine wpAny_bind (wpAny_seqItems hTI rfl ?_)
  show wpAny _ _ (Builtin.SmallTypes.ownedTupleIsFree (.ref z) >>= _) _ _ _
  refine wpAny_bind (isFree_zip hz hf ?_ fun h₁ hz₁ hs₁ => ?_)
  · simp only [if_true]
    refine wpAny_bind (wpAny_rule ?_)
    refine wpAny_bind (wpAny_field hz rfl (x := .ref TO) rfl ?_)
    refine wpAny_bind (wpAny_setField_rec hz (by simp) fun g0 hz0 hs0 => ?_)
    replace hz0 : IsZ g0 z TI TO .ellipsis f := hz0
    replace hs0 : Heap.SameBut z hp g0 := hs0
    refine wpAny_bind ?_
    simp only [List.zipIdx_cons, List.zipIdx_nil, List.forIn_cons, List.forIn_nil]
    refine wpAny_bind (wpAny_bind (wpAny_onRaise ?_))
    show wpAny _ _ (Builtin.SmallTypes.nextOf (.ref i1) >>= _) _ _ ⟨g0, g, d, tk0, os⟩
    by_cases hlt1 : i < n1
    · refine wpAny_bind (D1.item i _ _ _ hlt1 (D1.over st1 hs0 S.zf1) fun x1 p1 tk1 hx1 sn1 hp1 => wpAny_pure ?_)
      replace hp1 : Heap.SameBut i1 g0 p1 := hp1
      have hU1 : IsTupOf2 p1 TO a1 a2 := hp1.extBut _ _ S.Ti1 (hs0.extBut _ _ S.TOz hTO)
      refine wpAny_bind (wpAny_seqItems (s := ⟨p1, g, d, tk1, os⟩) hU1 rfl ?_)
      refine wpAny_bind (updateSeq_IsTupOf2 (s := ⟨p1, g, d, tk1, os⟩) hU1 fun g1 hT1 hs1 => ?_)
      replace hT1 : IsTupOf2 g1 TO x1 a2 := hT1
      replace hs1 : Heap.SameBut TO p1 g1 := hs1
      refine wpAny_bind (wpAny_letGo (wpAny_pure ?_))
      have hi2 : i = n2 := by omega
      refine wpAny_bind (wpAny_bind (wpAny_onRaise ?_))
      show wpAny _ _ (Builtin.SmallTypes.nextOf (.ref i2) >>= _) _ _ ⟨g1, g, d, tk1, os⟩
      refine wpAny_bind (D2.done ⟨g1, g, d, tk1, os⟩ _ _ (by rw [← hi2]; exact (D2.over (D2.over (D2.over st2 hs0 S.zf2) hp1 S.sep1_2) hs1 S.Tf2)) fun q e hq he => ?_)
      replace hq : Heap.ExtBut i2 g1 q := hq
      obtain ⟨oe, hoe, hce⟩ := he
      replace hoe : q.get? e = some oe := hoe
      have hzq : IsZ q z TI TO .ellipsis f := hq _ _ S.zi2 (hs1.extBut _ _ S.TOz.symm (hp1.extBut _ _ S.zi1 hz0))
      have hez : e ≠ z := fun x => by subst x; rw [hzq] at hoe; cases hoe; simp at hce
      refine wpAny_setField_rec (s := ⟨q, g, d, tk1, os⟩) hzq (by simp) fun q' _ hq' => ?_
      replace hq' : Heap.SameBut z q q' := hq'
      exact hE q' tk1 e (fun c o cz cT c1 c2 x => hq'.extBut _ _ cz (hq _ _ c2 (hs1.extBut _ _ cT (hp1.extBut _ _ c1 (hs0.extBut _ _ cz x))))) ⟨oe, hq'.extBut _ _ hez hoe, hce⟩
    · have hi1 : i = n1 := by omega
      refine wpAny_bind (D1.done ⟨g0, g, d, tk0, os⟩ _ _ (by rw [← hi1]; exact (D1.over st1 hs0 S.zf1)) fun q e hq he => ?_)
      replace hq : Heap.ExtBut i1 g0 q := hq
      obtain ⟨oe, hoe, hce⟩ := he
      replace hoe : q.get? e = some oe := hoe
      have hzq : IsZ q z TI TO .ellipsis f := hq _ _ S.zi1 hz0
      have hez : e ≠ z := fun x => by subst x; rw [hzq] at hoe; cases hoe; simp at hce
      refine wpAny_setField_rec (s := ⟨q, g, d, tk0, os⟩) hzq (by simp) fun q' _ hq' => ?_
      replace hq' : Heap.SameBut z q q' := hq'
      exact hE q' tk0 e (fun c o cz cT c1 c2 x => hq'.extBut _ _ cz (hq _ _ c1 (hs0.extBut _ _ cz x))) ⟨oe, hq'.extBut _ _ hez hoe, hce⟩
  · replace hs₁ : Heap.SameBut z hp h₁ := hs₁
    simp only [Bool.false_eq_true, if_false]
    refine wpAny_bind ?_
    rw [← Array.forIn_toList]
    simp only [List.forIn_cons, List.forIn_nil]
    refine wpAny_bind (wpAny_bind (wpAny_holding ?_))
    show wpAny _ _ (Builtin.SmallTypes.nextOf (.ref i1) >>= _) _ _ ⟨h₁, g, d, tk0, os⟩
    by_cases hlt1 : i < n1
    · refine wpAny_bind (D1.item i _ _ _ hlt1 (D1.over st1 hs₁ S.zf1) fun x1 p1 tk1 hx1 sn1 hp1 => wpAny_pure ?_)
      replace hp1 : Heap.SameBut i1 h₁ p1 := hp1
      refine wpAny_pure ?_
      have hi2 : i = n2 := by omega
      refine wpAny_bind (wpAny_bind (wpAny_holding ?_))
      show wpAny _ _ (Builtin.SmallTypes.nextOf (.ref i2) >>= _) _ _ ⟨p1, g, d, tk1, os⟩
      refine wpAny_bind (D2.done ⟨p1, g, d, tk1, os⟩ _ _ (by rw [← hi2]; exact (D2.over (D2.over st2 hs₁ S.zf2) hp1 S.sep1_2)) fun q e hq he => ?_)
      replace hq : Heap.ExtBut i2 p1 q := hq
      exact hE q tk1 e (fun c o cz cT c1 c2 x => hq _ _ c2 (hp1.extBut _ _ c1 (hs₁.extBut _ _ cz x))) he
    · have hi1 : i = n1 := by omega
      refine wpAny_bind (D1.done ⟨h₁, g, d, tk0, os⟩ _ _ (by rw [← hi1]; exact (D1.over st1 hs₁ S.zf1)) fun q e hq he => ?_)
      replace hq : Heap.ExtBut i1 h₁ q := hq
      exact hE q tk0 e (fun c o cz cT c1 c2 x => hq _ _ c1 (hs₁.extBut _ _ cz x)) he
theorem pyNext_zipX_item {Q : Option Value → Shared → Prop} (S : ZipSep2 z TI TO i1 i2 fp1 fp2) (D1 : Draws prog w A.in1 i1 fp1 n1 P1 St1) (D2 : Draws prog w A.in1 i2 fp2 n2 P2 St2)
    (hz : ZSt s.heap z TI TO) (hTI : IsTupOf2 s.heap TI (.ref i1) (.ref i2)) (hTO : IsTupOf2 s.heap TO a1 a2) (st1 : St1 i s.heap) (st2 : St2 i s.heap) (hlt1 : i < n1) (hlt2 : i < n2)
    (hQ : ∀ x1 x2 h' tk, P1 i x1 → P2 i x2 → ZSt h' z TI TO → (∃ b1 b2, IsTupOf2 h' TO b1 b2) → St1 (i + 1) h' → St2 (i + 1) h' → IsTupOf2 h' s.heap.objs.size x1 x2 → h'.objs.size = s.heap.objs.size + 1 →
      (∀ c o, c ≠ z → c ≠ TO → c ≠ i1 → c ≠ i2 → s.heap.get? c = some o → h'.get? c = some o) → Q (some (.ref s.heap.objs.size)) { s with heap := h', toks := tk }) :
    wpAny (model prog w) A (pyNext (.ref z)) Q E s := by
  have hT : s.TypeIs (.ref z) "zip" := by obtain ⟨f0, f, e, _⟩ := hz; exact ⟨_, e, rfl⟩
  unfold pyNext
  exact wpAny_bind (wpAny_attempt (wpAny_callSpecial?_slot (name := Str.ofString "__next__") hT F.slot_zip_next
    (wpAny_call_entry F.slot_zip_next hT F.entry_zip_next
      (zipX_next_item S D1 D2 hz hTI hTO st1 st2 hlt1 hlt2 fun x1 x2 h' tk y1 y2 b1 b2 d1 d2 b5 b6 b7 => wpAny_pure (hQ x1 x2 h' tk y1 y2 b1 b2 d1 d2 b5 b6 b7)) (F.args_zip_next_1 _))))
theorem pyNext_zipX_end {Q : Option Value → Shared → Prop} (S : ZipSep2 z TI TO i1 i2 fp1 fp2) (D1 : Draws prog w A.in1 i1 fp1 n1 P1 St1) (D2 : Draws prog w A.in1 i2 fp2 n2 P2 St2)
    (hz : ZSt s.heap z TI TO) (hTI : IsTupOf2 s.heap TI (.ref i1) (.ref i2)) (hTO : IsTupOf2 s.heap TO a1 a2) (st1 : St1 i s.heap) (st2 : St2 i s.heap) (hle1 : i ≤ n1) (hle2 : i ≤ n2) (hend : i = n1 ∨ i = n2)
    (hQ : ∀ h' tk, (∀ c o, c ≠ z → c ≠ TO → c ≠ i1 → c ≠ i2 → s.heap.get? c = some o → h'.get? c = some o) → Q none { s with heap := h', toks := tk }) : wpAny (model prog w) A (pyNext (.ref z)) Q E s := by
  have hT : s.TypeIs (.ref z) "zip" := by obtain ⟨f0, f, e, _⟩ := hz; exact ⟨_, e, rfl⟩
  unfold pyNext
  refine wpAny_bind (wpAny_attempt (wpAny_callSpecial?_slot (name := Str.ofString "__next__") hT F.slot_zip_next
    (wpAny_call_entry F.slot_zip_next hT F.entry_zip_next (zipX_next_end S D1 D2 hz hTI hTO st1 st2 hle1 hle2 hend fun h' tk e hk he => ?_) (F.args_zip_next_1 _))))
  obtain ⟨o, ho, hc⟩ := he
  refine wpAny_bind (wpAny_isInstance (T := "StopIteration") (b := true) ⟨o, ho, hc⟩ isSubtype_stop ?_)
  exact wpAny_pure (hQ _ _ hk)
theorem letGo_zipX {tg : Expr} {u : Value} {Q : Unit → Shared → Prop} (hz : ZSt s.heap z TI TO) (hQ : ∀ h', ZSt h' z TI TO → Heap.SameBut z s.heap h' → Q () { s with heap := h' }) :
    wpAny (model prog w) A (letOwnedTupleGo tg (.ref z) u) Q E s := by
  obtain ⟨f0, f, ho, hf⟩ := hz
  have h0 : Q () s := hQ s.heap ⟨f0, f, ho, hf⟩ (Heap.SameBut.refl _ _)
  unfold letOwnedTupleGo
  cases tg <;> first
    | exact wpAny_pure h0
    | (cases u <;> first
        | exact wpAny_pure h0
        | (rename_i T
           refine wpAny_bind (wpAny_load ho ?_)
           show wpAny _ _ (if (["enumerate", "zip", "dict_itemiterator", "dict_reverseitemiterator", "odict_iterator", "itertools.zip_longest", "itertools.pairwise"].contains "zip" && (#[f0, .bool f, .bool false, .ref TI, .ref TO] : Array Value)[0]? == some (rawInt T)) = true then _ else _) Q E s
           split
           · refine wpAny_bind (wpAny_rule ?_)
             show wpAny _ _ (setField (.ref z) 0 .none) Q E s
             exact wpAny_setField_rec ho (by simp) fun h' hz' hs' => hQ h' ⟨_, _, hz', .inl rfl⟩ hs'
           · exact wpAny_pure h0))
theorem pyIter_zipX {Q : Value → Shared → Prop} (hz : ZSt s.heap z TI TO) (h : Q (.ref z) s) : wpAny (model prog w) A (pyIter (.ref z)) Q E s := by
  have hT : s.TypeIs (.ref z) "zip" := by obtain ⟨f0, f, e, _⟩ := hz; exact ⟨_, e, rfl⟩
  refine wpAny_pyIter_slot hT F.slot_zip_iter (wpAny_call_entry F.slot_zip_iter hT F.entry_zip_iter ?_ (F.args_zip_iter_1 _))
  show wpAny _ _ (ret (.ref z)) _ _ s
  exact wpAny_pure ⟨_, rfl, "zip", _, hT, F.slot_zip_next.lookup, h⟩
end
/-- a list (true) or a tuple (false) -/
def SqX (K : PySem.W.Frag) : Bool → Hp → Addr → List V → Prop
  | true, H, a, xs => SqL K H a xs
  | false, H, a, xs => SqT K H a xs
def ItX : Bool → Heap → Addr → Addr → Nat → Prop
  | true, h, it, a, i => h.IsListIter it a i
  | false, h, it, a, i => h.IsTupleIter it a i
def IsX : Bool → Heap → Addr → Array Value → Prop
  | true, h, a, xs => h.IsList a xs
  | false, h, a, xs => h.IsTuple a xs
theorem ItX.at {b : Bool} {h h' : Heap} {it a : Addr} {i : Nat} (x : ItX b h it a i) (hk : ∀ o, h.get? it = some o → h'.get? it = some o) : ItX b h' it a i := by
  cases b
  · exact Heap.IsTupleIter.at (h := h) x hk
  · exact Heap.IsListIter.at (h := h) x hk
theorem ItX.obj {b : Bool} {h : Heap} {it a : Addr} {i : Nat} (x : ItX b h it a i) : ∃ o, h.get? it = some o ∧ ∀ v, o.data ≠ .cell v := by
  cases b
  · obtain ⟨o, e, _, d⟩ := x; exact ⟨o, e, fun v q => by rw [d] at q; cases q⟩
  · obtain ⟨o, e, _, d⟩ := x; exact ⟨o, e, fun v q => by rw [d] at q; cases q⟩
theorem draws_X {prog : Program} {w : World} {A : Around} (hh : A.handled = none) (b : Bool) (it l : Addr) (hne : l ≠ it) (items : Array Value) :
    Draws prog w A it [it, l] items.size (fun i v => items[i]? = some v) (fun i h => ItX b h it l i ∧ IsX b h l items) := by
  cases b
  · exact Draws.tuple hh it l hne items
  · exact Draws.list hh it l hne items
theorem inv_X {X : Cx} {pins : List (Addr × Obj)} {σ : L2.St} {H : Hp} {s : Shared} {b : Bool} {a : Addr} {xs : List V} (I : L2.Inv X pins σ H s) (hq : SqX X.K b H a xs) : ∃ its : List Value, Vals xs its ∧ IsX b s.heap a its.toArray ∧ a < s.heap.objs.size := by
  cases b
  · obtain ⟨its, rv, p, _⟩ := I.tuple hq
    exact ⟨its, rv, p, by obtain ⟨_, q, _⟩ := p; exact Heap.lt_size q⟩
  · obtain ⟨its, rv, p, _⟩ := I.list hq
    exact ⟨its, rv, p.isList, p.lt⟩
theorem inj_X {X : Cx} {pins : List (Addr × Obj)} {σ : L2.St} {H : Hp} {s : Shared} {b : Bool} {a : Addr} {xs ys : List V} (I : L2.Inv X pins σ H s) (h1 : SqX X.K b H a xs) (h2 : SqX X.K b H a ys) : xs = ys := by
  cases b
  · exact I.tuple_inj h1 h2
  · exact I.list_inj h1 h2
/-- the pairs of the two at a and b -/
def ItzX (K : PySem.W.Frag) (b1 b2 : Bool) (a b : Addr) : It :=
  ⟨fun i H => ∃ (xs ys : List V) (x y : V), SqX K b1 H a xs ∧ SqX K b2 H b ys ∧ xs[i]? = some x ∧ ys[i]? = some y,
    fun i H v H' => ∃ T x y, v = .ref T ∧ H T = none ∧ H' = upd H T (.tup [x, y]) ∧ (∀ xs, SqX K b1 H a xs → xs[i]? = some x) ∧ ∀ ys, SqX K b2 H b ys → ys[i]? = some y,
    fun i H => ∃ xs ys : List V, SqX K b1 H a xs ∧ SqX K b2 H b ys ∧ i = min xs.length ys.length⟩
theorem sep_of {z TI TO i1 i2 a b : Addr} (D : ZipApart z TI TO i1 i2 a b) : ZipSep2 z TI TO i1 i2 [i1, a] [i2, b] where
  TIz := D.TIz
  TOz := D.TOz
  TITO := D.TITO
  TIi1 := D.TIi1
  mem1 := by simp
  zf1 := by simp [D.i1z.symm, D.l1z.symm]
  Tf1 := by simp [D.TOi1, D.l1TO.symm]
  TIi2 := D.TIi2
  mem2 := by simp
  zf2 := by simp [D.i2z.symm, D.l2z.symm]
  Tf2 := by simp [D.TOi2, D.l2TO.symm]
  sep1_2 := by simp [D.i12, D.l2i1.symm]
  sep2_1 := by simp [D.i12.symm, D.l1i2.symm]
theorem turn_zipX {P : Program} {w : World} {K : PySem.W.Frag} {tg : Expr} {b1 b2 : Bool} {a b z TI TO i1 i2 : Addr} (D : ZipApart z TI TO i1 i2 a b) :
    Turn P w K tg (ItzX K b1 b2 a b) [z, TI, TO, i1, i2] z (fun i h => ZSt h z TI TO ∧ IsPair h TI (.ref i1) (.ref i2) ∧ (∃ x y, IsPair h TO x y) ∧ ItX b1 h i1 a i ∧ ItX b2 h i2 b i) where
  mem := by simp
  obj := fun i h st c hc => by
    obtain ⟨⟨f0, f, hz, _⟩, hTI, ⟨x, y, hTO⟩, h1, h2⟩ := st
    have e' : c = z ∨ c = TI ∨ c = TO ∨ c = i1 ∨ c = i2 := by simpa using hc
    rcases e' with q | q | q | q | q
    · rw [q]; exact ⟨_, hz, fun v q => nomatch q⟩
    · rw [q]; exact ⟨_, hTI, fun v q => nomatch q⟩
    · rw [q]; exact ⟨_, hTO, fun v q => nomatch q⟩
    · rw [q]; exact h1.obj
    · rw [q]; exact h2.obj
  keep := fun i h h' st k => by
    obtain ⟨⟨f0, f, hz, hf⟩, hTI, ⟨x, y, hTO⟩, h1, h2⟩ := st
    exact ⟨⟨f0, f, k z (by simp) _ hz, hf⟩, k TI (by simp) _ hTI, ⟨x, y, k TO (by simp) _ hTO⟩, h1.at fun o q => k i1 (by simp) o q, h2.at fun o q => k i2 (by simp) o q⟩
  item := by
    intro X hP hw hK hc i pins s σ H E I hf st hg
    subst hP hw hK
    obtain ⟨hz, hTI, ⟨x0, y0, hTO⟩, h1, h2⟩ := st
    obtain ⟨xs, ys, x, y, hqx, hqy, hx, hy⟩ := hg
    obtain ⟨its, rv, p, _⟩ := inv_X I hqx
    obtain ⟨its2, rv2, p2, _⟩ := inv_X I hqy
    obtain ⟨u, hu, ru⟩ := rv.get hx
    obtain ⟨u2, hu2, ru2⟩ := rv2.get hy
    have hzl : z < s.heap.objs.size := by obtain ⟨f0, f, e, _⟩ := hz; exact Heap.lt_size e
    have hl1 : i < its.toArray.size := by have := (List.getElem?_eq_some_iff.mp hu).1; simpa using this
    have hl2 : i < its2.toArray.size := by have := (List.getElem?_eq_some_iff.mp hu2).1; simpa using this
    refine pyNext_zipX_item (sep_of D) (draws_X (prog := X.prog) (w := X.w) (A := X.A.in1) (I.ok.hd hc) b1 i1 a D.l1i1 its.toArray) (draws_X (prog := X.prog) (w := X.w) (A := X.A.in1) (I.ok.hd hc) b2 i2 b D.l2i2 its2.toArray) hz hTI hTO ⟨h1, p⟩ ⟨h2, p2⟩ hl1 hl2 fun u' u2' h' tk e1 e2 z' TO' h1' h2' hT hsz hk => ?_
    have eu : u' = u := by
      have h2 : its.toArray[i]? = some u := by simpa using hu
      rw [h2] at e1; cases e1; rfl
    have eu2 : u2' = u2 := by
      have h2 : its2.toArray[i]? = some u2 := by simpa using hu2
      rw [h2] at e2; cases e2; rfl
    subst eu eu2
    refine ⟨_, rfl, letGo_zipX (s := { s with heap := h', toks := tk }) z' fun h'' z'' sb => ?_⟩
    have hT2 : h''.get? s.heap.objs.size = some { cls := .type "tuple", data := .seq #[u', u2'] } := (sb.2 _ (Nat.ne_of_gt hzl)).trans hT
    have new : ObjOk X.prog X.w (upd H s.heap.objs.size (.tup [x, y])) h'' s.heap.objs.size (.tup [x, y]) :=
      ⟨by show 2 ≤ sizeLine; decide, [u', u2'], .cons ru (.cons ru2 .nil), ⟨_, hT2, rfl, _, rfl⟩⟩
    have I1 : L2.Inv X pins σ (upd H s.heap.objs.size (.tup [x, y])) { s with heap := h'', toks := tk } :=
      I.turnedNew (t' := tk) (ch := [z, TI, TO, i1, i2]) (fun c o hb q => (sb.2 c (fun q' => hb (by simp [q']))).trans (hk c o (fun q' => hb (by simp [q'])) (fun q' => hb (by simp [q'])) (fun q' => hb (by simp [q'])) (fun q' => hb (by simp [q'])) q)) hf (Nat.le_refl _) new
    obtain ⟨b1', b2', TO'⟩ := TO'
    refine ⟨.ref s.heap.objs.size, _, I1, rfl, ⟨_, x, y, rfl, I.hok.fresh (Nat.le_refl _), rfl, fun l hl => by rw [inj_X I hl hqx]; exact hx, fun l hl => by rw [inj_X I hl hqy]; exact hy⟩, ⟨z'', ?_, ⟨b1', b2', ?_⟩, ?_, ?_⟩, fun c hcm => ?_⟩
    · exact (sb.2 _ D.TIz).trans (hk _ _ D.TIz D.TITO D.TIi1 D.TIi2 hTI)
    · exact (sb.2 _ D.TOz).trans TO'
    · exact h1'.1.at fun o q => (sb.2 _ D.i1z).trans q
    · exact h2'.1.at fun o q => (sb.2 _ D.i2z).trans q
    · have hlt : c < s.heap.objs.size := by
        have e' : c = z ∨ c = TI ∨ c = TO ∨ c = i1 ∨ c = i2 := by simpa using hcm
        rcases e' with q | q | q | q | q
        · rw [q]; exact hzl
        · rw [q]; exact Heap.lt_size hTI
        · rw [q]; exact Heap.lt_size hTO
        · rw [q]; obtain ⟨_, e1, _⟩ := h1.obj; exact Heap.lt_size e1
        · rw [q]; obtain ⟨_, e2, _⟩ := h2.obj; exact Heap.lt_size e2
      rw [upd_ne (Nat.ne_of_lt hlt)]
      exact (hf c hcm).1
  done := by
    intro X hP hw hK hc i pins s σ H E I hf st hg
    subst hP hw hK
    obtain ⟨hz, hTI, ⟨x0, y0, hTO⟩, h1, h2⟩ := st
    obtain ⟨xs, ys, hqx, hqy, hend⟩ := hg
    obtain ⟨its, rv, p, _⟩ := inv_X I hqx
    obtain ⟨its2, rv2, p2, _⟩ := inv_X I hqy
    have l1 := rv.length
    have l2 := rv2.length
    have g1 : i ≤ its.toArray.size := by simp; omega
    have g2 : i ≤ its2.toArray.size := by simp; omega
    have g3 : i = its.toArray.size ∨ i = its2.toArray.size := by simp; omega
    exact pyNext_zipX_end (sep_of D) (draws_X (prog := X.prog) (w := X.w) (A := X.A.in1) (I.ok.hd hc) b1 i1 a D.l1i1 its.toArray) (draws_X (prog := X.prog) (w := X.w) (A := X.A.in1) (I.ok.hd hc) b2 i2 b D.l2i2 its2.toArray) hz hTI hTO ⟨h1, p⟩ ⟨h2, p2⟩ g1 g2 g3 fun h' tk hk => ⟨rfl, I.turnedL (t' := tk) (ch := [z, TI, TO, i1, i2]) (fun c o hb q =>
      hk c o (fun q' => hb (by simp [q'])) (fun q' => hb (by simp [q'])) (fun q' => hb (by simp [q'])) (fun q' => hb (by simp [q'])) q) hf⟩
  self := fun A i s Q E st h => pyIter_zipX st.1 h
def objX : Bool → Addr → Obj
  | true, l => { cls := .type "list_iterator", data := .fields #[.ref l, .int 0 0] }
  | false, l => { cls := .type "tuple_iterator", data := .fields #[.ref l, .int 0 0] }
theorem begins_X (b : Bool) (l : Addr) (items : Array Value) : Begins (.ref l) (objX b l) fun h => IsX b h l items := by
  cases b
  · exact begins_tuple l items
  · exact begins_list l items
theorem itX_of {b : Bool} {h : Heap} {it l : Addr} (e : h.get? it = some (objX b l)) : ItX b h it l 0 := by
  cases b
  · exact ⟨_, e, rfl, rfl⟩
  · exact ⟨_, e, rfl, rfl⟩
def iZipX (K : PySem.W.Frag) (ta : TA) : TI := fun σ H R => ta σ H fun vs H1 => ∃ a b xs ys b1 b2, vs = [.ref a, .ref b] ∧ SqX K b1 H1 a xs ∧ SqX K b2 H1 b ys ∧ R (ItzX K b1 b2 a b) H1
theorem pi_zipX {X : Cx} {tg e e2 : Expr} {ta : TA} {p pos : Pos} (hg : Gl X "zip") (hm : X.mg "zip" = none) (ha : PA X [e, e2] ta)
    (hs : starEach [e, e2] X.env = (false, eval e X.env) :: starEach [e2] X.env := by rfl) (hpl : (backTo pos (starEach [e2] X.env)).any (·.1) = false := by rfl) :
    PI X tg (.Call (.Name "zip" p) [e, e2] [] pos) (iZipX X.K ta) := by
  refine ⟨fun pins s σ H R I h => ?_⟩
  refine Call_ (ld_blt I hg hm PyProof.Rows.boot_zip (PyProof.Rows.callWith_type1 (thn (ha.run pos pins s σ H _ I h) fun us s1 ⟨vs, H1, I1, r1, q1⟩ => ?_) hs hpl))
  obtain ⟨a, b, xs, ys, b1, b2, ex, hqx, hqy, q⟩ := q1
  subst ex
  cases r1 with
  | cons r rr =>
    cases rr with
    | cons r' rr =>
      cases rr
      cases r
      cases r'
      obtain ⟨its, rv, p1, la⟩ := inv_X I1 hqx
      obtain ⟨its2, rv2, p2, lb⟩ := inv_X I1 hqy
      refine zip_begins2 (begins_X b1 a its.toArray) (begins_X b2 b its2.toArray) p1 p2 fun h' hz hTI hTO h1 h2 hsz hk => pyIter_zipX ⟨_, _, hz, .inl rfl⟩ ?_
      have I2 : L2.Inv X pins σ H1 { s1 with heap := h' } := I1.kept (t' := s1.toks) hk
      refine ⟨s1.heap.objs.size + 4, [s1.heap.objs.size + 4, s1.heap.objs.size + 2, s1.heap.objs.size + 3, s1.heap.objs.size, s1.heap.objs.size + 1], _, _, H1, rfl, I2, turn_zipX (PySem.W.ktu_apart s1.heap.objs.size a b la lb), ⟨⟨_, _, hz, .inl rfl⟩, hTI, ⟨_, _, hTO⟩, itX_of h1, itX_of h2⟩, fun c hcm => ?_, q⟩
      have e' : c = s1.heap.objs.size + 4 ∨ c = s1.heap.objs.size + 2 ∨ c = s1.heap.objs.size + 3 ∨ c = s1.heap.objs.size ∨ c = s1.heap.objs.size + 1 := by simpa using hcm
      have hle : s1.heap.objs.size ≤ c := by
        rcases e' with z | z | z | z | z
        · rw [z]; exact Nat.le_add_right _ _
        · rw [z]; exact Nat.le_add_right _ _
        · rw [z]; exact Nat.le_add_right _ _
        · rw [z]; exact Nat.le_refl _
        · rw [z]; exact Nat.le_add_right _ _
      exact I1.fpOk hle (I1.hok.fresh hle)
/-- the items of a frozen list or of a tuple -/
def seqX : D → Option (Bool × List PyData)
  | .p (.list xs) => some (true, xs)
  | .p (.tuple xs) => some (false, xs)
  | _ => none
def SrcX (K : PySem.W.Frag) (H : Hp) (G : Gh) : Bool → Addr → List V → Prop
  | true, a, vs => FL G.φ a vs
  | false, a, vs => SqT K H a vs
theorem SrcX.sq {K : PySem.W.Frag} {H H1 : Hp} {G G1 : Gh} {S S1 : Sto} {b : Bool} {a : Addr} {vs : List V} (h : SrcX K H G b a vs) (rp : Rep K H G S) (x : Ext H G S H1 G1 S1) (r : Rep K H1 G1 S1) : SqX K b H1 a vs := by
  cases b
  · exact x.tup rp h
  · exact SqL.of ((FL.mono (h : FL G.φ a vs) x.phi) H1 r.phi)
theorem src_of {K : PySem.W.Frag} {H : Hp} {G : Gh} {d : D} {v : V} {b : Bool} {xs : List PyData} (e : seqX d = some (b, xs)) (dv : Den K H G d v) : ∃ a vs, v = .ref a ∧ SrcX K H G b a vs ∧ DnAll K G.φ H xs vs := by
  unfold seqX at e
  split at e
  · cases e
    obtain ⟨a, vs, rfl, fa, ta⟩ := den_lst dv
    exact ⟨a, vs, rfl, fa, ta⟩
  · cases e
    obtain ⟨a, vs, rfl, fa, ta⟩ := den_tup dv
    exact ⟨a, vs, rfl, fa, ta⟩
  · cases e
theorem gives_zipX {K : PySem.W.Frag} {H : Hp} {G : Gh} {S : Sto} {b1 b2 : Bool} {a b : Addr} {vs ws : List V} {xs ys : List PyData} (rp : Rep K H G S) (fa : SrcX K H G b1 a vs) (ta : DnAll K G.φ H xs vs) (fb : SrcX K H G b2 b ws) (tb : DnAll K G.φ H ys ws) : Gives K (ItzX K b1 b2 a b) H G S (zipP xs ys) where
  go := fun H1 G1 S1 x r i hi => by
    rw [zipP_len, ta.length, tb.length] at hi
    exact ⟨vs, ws, vs[i], ws[i], fa.sq rp x r, fb.sq rp x r, by simp, by simp⟩
  yld := fun H1 G1 S1 x r i d e v H' y => by
    obtain ⟨T, u, w, rfl, hT, rfl, y1, y2⟩ := y
    have e1 := y1 vs (fa.sq rp x r)
    have e2 := y2 ws (fb.sq rp x r)
    obtain ⟨d1, ed1, dn1⟩ := (x.dnAll rp ta).getV e1
    obtain ⟨d2, ed2, dn2⟩ := (x.dnAll rp tb).getV e2
    obtain ⟨x', y', h1, h2, rfl⟩ := zipP_get xs ys i d e
    rw [ed1] at h1; cases h1
    rw [ed2] at h2; cases h2
    obtain ⟨p1, p2, p3⟩ := pair_new r hT dn1 dn2
    exact ⟨p1, p2, p3, .inr ⟨T, _, hT, rfl⟩⟩
  stop := fun H1 G1 S1 x r => by
    rw [zipP_len, ta.length, tb.length]
    exact ⟨vs, ws, fa.sq rp x r, fb.sq rp x r, rfl⟩
def zipXM : List D → M (List D) := fun ds S => match ds with
  | [d, e] => match seqX d, seqX e with
    | some (_, xs), some (_, ys) => .ok (zipP xs ys) S
    | _, _ => .bad
  | _ => .bad
theorem di_zipX {X : Cx} {W : WX} {tg a b : Expr} {p pos : Pos} {fa : FA} (hg : Gl X "zip") (hm : X.mg "zip" = none) (ha : DA X W [a, b] fa) (hs : starEach [a, b] X.env = (false, eval a X.env) :: starEach [b] X.env := by rfl) (hpl : (backTo pos (starEach [b] X.env)).any (·.1) = false := by rfl) :
    DI X W tg (.Call (.Name "zip" p) [a, b] [] pos) (iA zipXM fa) := by
  refine ⟨PI.imp (pi_zipX hg hm ha.run hs hpl) fun σ H R ⟨G, S, ρ, rs, rp, q⟩ => ⟨G, S, ρ, rs, rp, (Aft.bind q).mono fun ds H1 G1 S1 x1 r1 q1 vs dv => ?_⟩⟩
  unfold zipXM at q1
  split at q1
  · split at q1
    · rename_i d e b1 xs b2 ys e1 e2
      cases dv with
      | cons d1 t =>
        cases t with
        | cons d2 t =>
          cases t
          obtain ⟨a, vs, rfl, fa, ta⟩ := src_of e1 d1
          obtain ⟨b, ws, rfl, fb, tb⟩ := src_of e2 d2
          exact ⟨a, b, vs, ws, b1, b2, rfl, fa.sq r1 Ext.refl r1, fb.sq r1 Ext.refl r1, q1 H1 G1 Ext.refl r1 _ (gives_zipX r1 fa ta fb tb)⟩
    · exact q1.elim
  · exact q1.elim
@[simp] theorem zipXM_ll {xs ys : List PyData} {S : Sto} : zipXM [.p (.list xs), .p (.list ys)] S = .ok (zipP xs ys) S := rfl
@[simp] theorem zipXM_tt {xs ys : List PyData} {S : Sto} : zipXM [.p (.tuple xs), .p (.tuple ys)] S = .ok (zipP xs ys) S := rfl
@[simp] theorem zipXM_tl {xs ys : List PyData} {S : Sto} : zipXM [.p (.tuple xs), .p (.list ys)] S = .ok (zipP xs ys) S := rfl
@[simp] theorem zipXM_lt {xs ys : List PyData} {S : Sto} : zipXM [.p (.list xs), .p (.tuple ys)] S = .ok (zipP xs ys) S := rfl
end DL
namespace DL
open PySem L2 PySem.Spec PyProof.Rows
def putS (j : Nat) (kd y : D) (S : Sto) : Option Sto := match S[j]?, kd, y with
  | some (.dic kvs), .p k, .p v => match pyKey k with
    | some k' => if kvs.length < LIM then some (S.set j (.dic (putD kvs k' v))) else none
    | none => none
  | _, _, _ => none
def dcD (j : Nat) (g : FG) (t : FT) (k e : FE) (ρ : Ev) : List D → M Unit
  | [] => fun S => .ok () S
  | d :: r => fun S => match g d ρ S with
    | none => .bad
    | some (ρ1, S1) => (t ρ1 S1).bind fun b S2 => if b = true then (k ρ1 S2).bind (fun kd S3 => (e ρ1 S3).bind fun y S4 => match putS j kd y S4 with
        | some S5 => dcD j g t k e ρ r S5
        | none => .bad) else dcD j g t k e ρ r S2
def dc2D (j : Nat) (g : FG) (t : FT) (f1 : FI) (g1 : FG) (t1 : FT) (k e : FE) (vs1 : List Nat) (ρ : Ev) : List D → M Unit
  | [] => fun S => .ok () S
  | d :: r => fun S => match g d ρ S with
    | none => .bad
    | some (ρ1, S1) => (t ρ1 S1).bind fun b S2 => if b = true then (f1 ρ1 S2).bind (fun ds1 S3 => (dcD j g1 t1 k e (wipeD ρ1 vs1) ds1 S3).bind fun _ S4 => dc2D j g t f1 g1 t1 k e vs1 ρ r S4) else dc2D j g t f1 g1 t1 k e vs1 ρ r S2
def finDO (j : Nat) : M D := fun S => .ok (.ob j) S
def eDc (f : FI) (g : FG) (t : FT) (k e : FE) (vs : List Nat) (fin : Nat → M D) : FE := fun ρ S => (f ρ S).bind fun ds S1 => (noErr (dcD S1.length g t k e (wipeD ρ vs) ds (S1 ++ [.dic []]))).bind fun _ S2 => fin S1.length S2
def eDc2 (f : FI) (g : FG) (t : FT) (f1 : FI) (g1 : FG) (t1 : FT) (k e : FE) (vs vs1 : List Nat) (fin : Nat → M D) : FE := fun ρ S => (f ρ S).bind fun ds S1 => (noErr (dc2D S1.length g t f1 g1 t1 k e vs1 (wipeD ρ vs) ds (S1 ++ [.dic []]))).bind fun _ S2 => fin S1.length S2
theorem Gives.ext {K : PySem.W.Frag} {J : It} {H0 H1 : Hp} {G0 G1 : Gh} {S0 S1 : Sto} {ds : List D} (g : Gives K J H0 G0 S0 ds) (x : Ext H0 G0 S0 H1 G1 S1) : Gives K J H1 G1 S1 ds :=
  ⟨fun H G S x' => g.go H G S (x.trans x'), fun H G S x' => g.yld H G S (x.trans x'), fun H G S x' => g.stop H G S (x.trans x')⟩
end DL
namespace DL
open PySem L2 PySem.Spec PyProof.Rows PySem.W
def tupleXM : List D → M D := fun ds S => match ds with
  | [.p (.tuple xs)] => .ok (.p (.tuple xs)) S
  | [d] => match lstOf S d with
    | some xs => .ok (.p (.tuple xs)) S
    | none => match dicOf S d with
      | some kvs => .ok (.p (.tuple (kvs.map fun kv => keyPy kv.1))) S
      | none => .bad
  | _ => .bad
def listXM (fin : List PyData → M D) : List D → M D := fun ds S => match ds with
  | [d] => match seqOf S d with
    | some xs => fin xs S
    | none => match dicOf S d with
      | some kvs => fin (kvs.map fun kv => keyPy kv.1) S
      | none => .bad
  | _ => .bad
section
variable {X : Cx} {W : WX} {p pos : Pos} {e : Expr} {fa : FA}
def revIM : D → M (List D) := fun d S => match d with
  | .p (.list xs) => .ok (xs.reverse.map .p) S
  | .p (.tuple xs) => .ok (xs.reverse.map .p) S
  | _ => .bad
def iRevM (f : FE) : FI := fun ρ S => (f ρ S).bind revIM
end
end DL
namespace DL
open PySem L2 PySem.Spec PyProof.Rows
end DL
namespace DL
open PySem L2 PySem.Spec PyProof.Rows
def wq (Inv : Ev → Sto → Prop) (R : Fl → Sto → Prop) : Fl → Sto → Prop := fun fl s => match fl with
  | .next ρ => Inv ρ s
  | .cont ρ => Inv ρ s
  | .brk ρ => R (.next ρ) s
  | .ret d => R (.ret d) s
  | .exc x ρ => R (.exc x ρ) s
section
variable {Inv : Ev → Sto → Prop} {R : Fl → Sto → Prop} {ρ : Ev} {s : Sto}
@[simp] theorem wq_next : wq Inv R (.next ρ) s = Inv ρ s := rfl
@[simp] theorem wq_cont : wq Inv R (.cont ρ) s = Inv ρ s := rfl
@[simp] theorem wq_brk : wq Inv R (.brk ρ) s = R (.next ρ) s := rfl
@[simp] theorem wq_ret {d : D} : wq Inv R (.ret d) s = R (.ret d) s := rfl
@[simp] theorem wq_exc {x : Exn} : wq Inv R (.exc x ρ) s = R (.exc x ρ) s := rfl
end
section
variable {f : FI} {g : FG} {t : FT} {f1 : FI} {g1 : FG} {t1 : FT} {k e : FE} {vs vs1 : List Nat} {fin : Nat → M D} {ρ : Ev} {S : Sto} {Q : D → Sto → Prop} {X : Exn → Sto → Prop}
@[simp] theorem eDc_ : eDc f g t k e vs fin ρ S = (f ρ S).bind fun ds S1 => (noErr (dcD S1.length g t k e (wipeD ρ vs) ds (S1 ++ [.dic []]))).bind fun _ S2 => fin S1.length S2 := rfl
@[simp] theorem eDc2_ : eDc2 f g t f1 g1 t1 k e vs vs1 fin ρ S = (f ρ S).bind fun ds S1 => (noErr (dc2D S1.length g t f1 g1 t1 k e vs1 (wipeD ρ vs) ds (S1 ++ [.dic []]))).bind fun _ S2 => fin S1.length S2 := rfl
@[simp] theorem finDO_ {j : Nat} : finDO j S = .ok (.ob j) S := rfl
@[simp] theorem iRevM_ {h : FE} : iRevM h ρ S = (h ρ S).bind revIM := rfl
@[simp] theorem revIM_t {xs : List PyData} : revIM (.p (.tuple xs)) S = .ok (xs.reverse.map .p) S := rfl
@[simp] theorem revIM_l {xs : List PyData} : revIM (.p (.list xs)) S = .ok (xs.reverse.map .p) S := rfl
@[simp] theorem tupleXM_t {xs : List PyData} : tupleXM [.p (.tuple xs)] S = .ok (.p (.tuple xs)) S := rfl
@[simp] theorem tupleXM_l {xs : List PyData} : tupleXM [.p (.list xs)] S = .ok (.p (.tuple xs)) S := rfl
@[simp] theorem listXM_l {fin : List PyData → M D} {xs : List PyData} : listXM fin [.p (.list xs)] S = fin xs S := rfl
@[simp] theorem listXM_t {fin : List PyData → M D} {xs : List PyData} : listXM fin [.p (.tuple xs)] S = fin xs S := rfl
end
end DL
namespace DL
open PySem L2 PySem.Spec PyProof.Rows
end DL
namespace DL
open PySem L2 PySem.Spec PyProof.Rows
end DL
namespace DL
open PySem L2
end DL
namespace DL
open PySem L2 PySem.Spec PyProof.Rows
end DL
namespace DL
open PySem L2 PySem.Spec PyProof.Rows
end DL
namespace DL
open PySem L2 PySem.Spec PyProof.Rows
def itKM : D → M (List D) := fun d S => match d with
  | .p (.dict l) => match unKv l with
    | some kvs => .ok (kvs.map fun kv => D.p (keyPy kv.1)) S
    | none => .bad
  | _ => .bad
def iKey (f : FE) : FI := fun ρ S => (f ρ S).bind itKM
@[simp] theorem iKey_ {f : FE} {ρ : Ev} {S : Sto} : iKey f ρ S = (f ρ S).bind itKM := rfl
@[simp] theorem itKM_d {kvs : List (Key × PyData)} {S : Sto} : itKM (.p (.dict (pyKv kvs))) S = .ok (kvs.map fun kv => D.p (keyPy kv.1)) S := by simp [itKM]
end DL
namespace PySem
namespace DLX
open PySem.W PySem.Calls PyProof.Rows PySem.HandSPX
section
open Builtin Builtin.ObjectAttr
variable {prog : Program} {w : World} {A : Around} {E : Value → Shared → Prop} {R : Result → Shared → Prop} {hp : Heap} {g : Array GenState} {d : Drawn} {t : Nat} {os : OsState}
theorem osaG {K : W.Frag} {B : String} {bmB : List Value} (SB : StoreFacts B bmB "object.__setattr__" "object") {name : Str} {tk : Tok} {v : Value} {x C : Addr} {fv : Array Value} {cd : ClassData}
    (X : K.In hp) (hx : hp.get? x = some { cls := .ref C, data := .fields fv }) (hcd : W.clsIn K C = some cd) (hm : cd.mro = .ref C :: bmB) (hh : cd.hasDict = true) (ha : W.findIn K (.ref C) name = some none)
    (hq : ∀ h' tk' dx, (∀ b o, b ≠ x → hp.get? b = some o → h'.get? b = some o) → hp.objs.size ≤ dx → dx ≠ x → h'.get? x = some { cls := .ref C, dict := some dx, data := .fields fv } →
      h'.Ns1 dx (fun y => if y = name then some v else none) → R (.ok (.ret .none)) ⟨h', g, d, tk', os⟩) :
    codeAny (model prog w) A (.call (.builtin "object.__setattr__") ⟨[.ref x, .str name tk, v], []⟩) R ⟨hp, g, d, t, os⟩ := by
  have I : W.InstAt hp x { cls := .ref C, data := .fields fv } C none := ⟨hx, rfl, rfl, trivial⟩
  have SF := F.store_object
  have ne : cd.mro.isEmpty = false := by rw [hm]; rfl
  have hob : cd.mro.contains (.type "object") = true := by rw [hm, List.contains_cons, SB.hasOwner, Bool.or_true]
  have hxs : x ≠ hp.objs.size := Nat.ne_of_lt (Heap.lt_size hx)
  have sub : W.Looks (model prog w) hp (isInstance (.ref x) (.type "object")) true := I.type.andThen (W.looks_mroIn X (by unfold W.mroIn; rw [hcd, Option.bind_some, if_neg (by rw [ne]; decide), hob]))
  refine codeAny_call_builtin SF.slot.plain SF.entry (@W.check_slot (model prog w) _ _ ⟨hp, g, d, t, os⟩ "object.__setattr__" "object" "__setattr__" (.ref x) [.str name tk, v] [] _ SF.kind SF.split sub (SF.args (.ref x) (.str name tk) v) ?_)
  have hmr : W.Looks (model prog w) hp (mroOf (.ref C)) cd.mro := (W.looks_clsIn X hcd).andThen .now
  have L3 : W.Looks (model prog w) hp (storeTaker? none) none := .now
  have hcls : W.Looks (model prog w) hp (classData C) cd := W.looks_clsIn X hcd
  rw [W.osa_eq, refuse_eq]
  refine wpAny_bind (wpAny_bind (I.type.at (wpAny_bind (hmr.at ?_))))
  rw [hm, refuseLoop_ref, SB.passes]
  refine wpAny_pure (wpAny_bind (I.type.at (wpAny_bind ((W.looks_findIn X ha).at (wpAny_bind (L3.at ?_))))))
  show wpAny _ _ (storeInOwnDict (.ref x) (.ref C) (.str name tk) name v false) _ _ _
  obtain ⟨nm, bs, mro, ns, qn, hd, sn, sb, ab, col, del⟩ := cd
  dsimp only at hh
  subst hh
  unfold storeInOwnDict ownDictForStores
  repeat (first | with_reducible refine store_in_new ?_ ?_ | with_reducible refine wpAny_loadPart_at hx ?_ | with_reducible refine hcls.at ?_ | wp_step)
  · exact ⟨_, #[], _, (Heap.get?_update_ne _ _ _ _ hxs.symm).trans (Heap.get?_push_at rfl rfl), rfl, fun e he => absurd he (by simp), fun _ => rfl⟩
  · intro h' tk' hn' hs
    have hx₁ : (hp.push { cls := .type "dict", data := .dict #[] }).get? x = some { cls := .ref C, data := .fields fv } := Heap.get?_push_of_some _ hx
    refine hq h' tk' hp.objs.size (fun b o hb ho => ?_) (Nat.le_refl _) hxs.symm ?_ hn'
    · exact (hs.2 b (Nat.ne_of_lt (Heap.lt_size ho))).trans ((Heap.get?_update_ne _ _ _ _ hb).trans (Heap.get?_push_of_some _ ho))
    · exact (hs.2 x hxs).trans (Heap.get?_update_self _ hx₁ rfl)
end
theorem typ_LookupError : typeOf (.type "LookupError") = pure (.type "type") := by kernel_rfl
theorem typ_ValueError : typeOf (.type "ValueError") = pure (.type "type") := by kernel_rfl
end DLX
end PySem
namespace DL
open PySem L2 PySem.Spec PyProof.Rows
/-- a built-in exception class, as a base -/
structure XBase (B newId initId : String) (bmB : List Value) : Prop where
  F : ExcBaseFacts B newId initId bmB
  st : StoreFacts B bmB "object.__setattr__" "object"
  typ : typeOf (.type B) = pure (.type "type")
  stub : Manifest.isStub B = false
  boot : bootBuiltins (B : Str) = some (.type B)
  hn : (B : Str) ≠ "__name__"
  hdb : ((B : Str) == ("__debug__" : Str)) = false
  hnd : PySem.W.handedIn (.builtin initId) = true
abbrev bmOf (B : String) : List Value := [.type B, .type "Exception", .type "BaseException", .type "object"]
theorem xb_LookupError : XBase "LookupError" "LookupError.__new__" "LookupError.__init__" (bmOf "LookupError") :=
  ⟨F.excBase_LookupError, F.store_LookupError, DLX.typ_LookupError, by decide +kernel, PyProof.Rows.Boot.«LookupError», by decide, by decide, by decide +kernel⟩
theorem xb_ValueError : XBase "ValueError" "ValueError.__new__" "ValueError.__init__" (bmOf "ValueError") :=
  ⟨F.excBase_ValueError, F.store_ValueError, DLX.typ_ValueError, by decide +kernel, PyProof.Rows.Boot.«ValueError», by decide, by decide, by decide +kernel⟩
/-- an own class over it, of one field f -/
structure XCls (K : PySem.W.Frag) (C : Addr) (newId : String) (bmB : List Value) (f : Str) : Prop where
  cls : ∃ nm q N bs sn sub ab col dd k0 k1 k2 k3 k5, K.lookup C = some (excClassObj nm q C N bs bmB true sn sub ab col dd k0 k1 k2 k3 k5 newId)
  sa : PySem.W.findIn K (.ref C) "__setattr__" = some (some (.builtin "object.__setattr__"))
  exC : PySem.W.subIn K (.ref C) (.type "BaseException") = some true
  tyC : PySem.W.typeIn K (.ref C) = some (.type "type")
  kC : PySem.W.keepIn K (.ref C) = true
  fld : PySem.W.findIn K (.ref C) f = some none
section
variable {X : Cx} {pins : List (Addr × Obj)} {σ : L2.St} {H : Hp} {s : Shared} {a C dx : Addr} {f : Str} {y : V} {u : Value} {Q : Unit → Shared → Prop} {E : Value → Shared → Prop} {A : Around} {B newId initId : String} {bmB : List Value}
theorem ost_newG (XB : XBase B newId initId bmB) (T : XCls X.K C newId bmB f) (I : Inv X pins σ H s) (e : H a = some (exo a C none)) (ry : RelV y u)
    (h : ∀ dx s', H dx = none → dx ≠ a → Inv X pins σ (upd (upd H dx (exd dx [(f, y)])) a (exo a C (some dx))) s' → Q () s') : wpAny (model X.prog X.w) A (setAttr (.ref a) f u) Q E s := by
  obtain ⟨nm, q, N, bs, sn, sub, ab, col, dd, k0, k1, k2, k3, k5, hC⟩ := T.cls
  have hcl : PySem.W.clsIn X.K C = some { name := nm, bases := bs, mro := .ref C :: bmB, ns := N, qualname := q, hasDict := true, slotNames := sn, subclasses := sub, abstract := ab, collection := col, hasDel := false } := by unfold PySem.W.clsIn; rw [hC] <;> rfl
  obtain ⟨t1, ho⟩ := exo_at I.hok e
  obtain ⟨hp, g, d, t, os⟩ := s
  refine PySem.W.set_plain I.kIn (ox := { cls := .ref C, dict := none, data := .fields #[.ref t1, .none, .none, .none, .bool false, .none] }) (od := none) ⟨ho, rfl, rfl, trivial⟩ T.sa ?_
  refine PySem.DLX.osaG XB.st I.kIn ho hcl rfl rfl T.fld (fun h' tk' dx k dn dne hx hn => ?_)
  have hnd : H dx = none := I.hok.fresh dn
  have nd : ∀ {b : Addr} {o : Obj}, hp.get? b = some o → b ≠ dx := fun {b o} q => Nat.ne_of_lt (Nat.lt_of_lt_of_le (Heap.lt_size q) dn)
  have na : ∀ {b : Addr}, H b = none → b ≠ a := fun {b} n z => by
    rw [z, e] at n
    cases n
  have Un1 : Un X.fs [] H (upd (upd H dx (exd dx [(f, y)])) a (exo a C (some dx))) hp h' := {
    keep := fun b o q n _ _ => k b o (na n) q
    slot := fun b o q n _ _ => ⟨o.slots, k b o (na n) q⟩
    free := fun b o q n _ => by rw [upd_ne (na n), upd_ne (nd q)]; exact n
    there := fun b o q _ => by
      by_cases hb : b = a
      · exact ⟨_, by rw [hb]; exact hx⟩
      · exact ⟨o, k b o hb q⟩
    tups := fun b xs q => by rw [upd_ne (at_ne e q exo_tup), upd_ne (ne_of_none q hnd)]; exact q
    frzs := fun b o v q => by rw [upd_ne (at_ne e q exo_frz), upd_ne (ne_of_none q hnd)]; exact q
    tbls := fun b ps q => ⟨#[], by rw [upd_ne (at_ne e q exo_tbl), upd_ne (ne_of_none q hnd), q]; simp⟩ }
  refine h dx _ hnd dne (I.un (t' := tk') Un1 fun b o q => ?_)
  by_cases hb : b = a
  · subst hb
    rw [upd_same] at q
    cases q
    exact exo_ok hx
  · rw [upd_ne hb] at q
    by_cases hd : b = dx
    · subst hd
      rw [upd_same] at q
      cases q
      exact exd_ok hn (relO_put (fs := []) ry fun g => True.intro)
    · rw [upd_ne hd] at q
      exact (I.hok b o q).stay (fun c v hc z => k c v (by
          rcases hc with hc | hc
          · rw [hc]
            exact hb
          · exact at_ne e hc exo_own) z)
        (fun c hc => by rw [upd_ne (at_ne e hc exo_own), upd_ne (ne_of_none hc hnd)]; exact hc) (fun c xs hc => by rw [upd_ne (at_ne e hc exo_tup), upd_ne (ne_of_none hc hnd)]; exact hc)
theorem initG {us : List Value} {Q : Value → Shared → Prop} (XB : XBase B newId initId bmB) (T : XCls X.K C newId bmB f) (I : Inv X pins σ H s) (e : H a = some (exo a C none)) (hl : us.length ≤ sizeLine) (h : ∀ s', Inv X pins σ H s' → Q .none s') :
    wpAny (model X.prog X.w) A (call (.builtin initId) (.ref a :: us)) Q E s := by
  obtain ⟨nm, q, N, bs, sn, sub, ab, col, dd, k0, k1, k2, k3, k5, hC⟩ := T.cls
  obtain ⟨t1, ho⟩ := exo_at I.hok e
  obtain ⟨hp, g, d, t, os⟩ := s
  refine wpAny_call (PySem.HandSPX.init_base XB.F (fun Y => rfl) (I.kIn _ _ hC) ho hl fun h' t2 k hx => ?_)
  have J := I.write (t' := t) (x := a) (e := a) (o := exo a C none) (by rw [e]; exact True.intro) (.inl rfl) k ⟨_, hx⟩ (exo_ok hx)
  have eu : upd H a (exo a C none) = H := by
    funext b
    by_cases hb : b = a
    · rw [hb, upd_same, e]
    · rw [upd_ne hb]
  rw [eu] at J
  exact h _ J
end
/-- what __init__ of such a class keeps -/
def spInit (C : Addr) (f : Str) : Sp := fun vs H Q _ => ∃ (a : Addr) (v : V), vs = [.ref a, v] ∧ H a = some (exo a C none) ∧ ∀ dx, H dx = none → dx ≠ a → Q .non (upd (upd H dx (exd dx [(f, v)])) a (exo a C (some dx)))
section
variable {X : Cx} {e : Expr} {es : List Expr} {C : Addr} {f : Str} {B newId initId : String} {bmB : List Value} {p p' p1 p2 p3 p4 p5 p6 p7 p8 p9 pos : Pos}
def tInitG (C : Addr) (ta : TA) : TE := fun σ H Q => ta σ H fun vs H1 => ∃ (a : Addr) (ws : List V), vs = .ref a :: ws ∧ ws.length ≤ 1000 ∧ H1 a = some (exo a C none) ∧ Q .non H1
theorem pe_initG {pl : Sem Bool} {ta : TA} (XB : XBase B newId initId bmB) (T : XCls X.K C newId bmB f) (hg : Gl X (B : Str)) (hm : X.mg (B : Str) = none) (vV : PySem.W.findCls X.K (.type B) (.type "type") "__init__" = some (.val (.builtin initId))) (ha : PA X (e :: es) ta)
    (hc : eval (.Call (.Attribute (.Name (B : Str) p1) "__init__" p2) (e :: es) [] pos) X.env = (do
      let ov ← eval (.Name (B : Str) p1) X.env
      standAt p2.atName
      let (f, first) ← holding [ov] (getMethod ov "__init__" pl)
      callWith pos f first (backTo pos (starEach (e :: es) X.env)) (backToKw pos (keywordEach [] X.env))) := by rfl)
    (he : starEach (e :: es) X.env = (false, eval e X.env) :: starEach es X.env := by rfl) (hpl : (backTo pos (starEach es X.env)).any (·.1) = false := by rfl) :
    PE X (.Call (.Attribute (.Name (B : Str) p1) "__init__" p2) (e :: es) [] pos) (tInitG C ta) := by
  refine ⟨fun pins s σ H Q I h => ?_⟩
  refine PySem.W.methodCall_KW (ld_blt I hg hm XB.boot ?_ XB.hn XB.hdb) hc
  obtain ⟨m, fr⟩ := I.fr
  refine PySem.W.method_type fr I.ok.mod.kin XB.typ XB.stub vV XB.hnd ?_
  show wpAny _ _ (callWith pos (Value.builtin initId) [] (backTo pos (starEach (e :: es) X.env)) []) _ _ _
  refine PyProof.Rows.callWith_method1 (thn (ha.run pos pins _ σ H _ (I.tok _) h) fun us s1 ⟨vs, H1, I1, r1, a, ws, ev, hl, ea, q⟩ => ?_) he hpl
  subst ev
  cases r1 with
  | @cons _ u0 _ ur ra rw' =>
    obtain rfl : u0 = Value.ref a := ra
    have hlen : ur.length ≤ sizeLine := by
      rw [← Paired.length rw', sizeLine_eq]
      omega
    exact initG XB T I1 ea hlen fun s' J => ⟨.non, H1, J, rfl, q⟩
theorem ps_ostG {o : Expr} {to te : TE} (XB : XBase B newId initId bmB) (T : XCls X.K C newId bmB f) (ho : PE X o to) (he : PE X e te) (hs : swapsWith e (some (.Attribute o f p')) pos.line X.env = pure false := by rfl) :
    PS X (.Assign [.Attribute o f p'] e pos) (fun D σ H => te σ H fun y H1 => to σ H1 fun x H2 => ∃ a : Addr, x = .ref a ∧ H2 a = some (exo a C none) ∧ ∀ dx, H2 dx = none → dx ≠ a → D.nx σ (upd (upd H2 dx (exd dx [(f, y)])) a (exo a C (some dx)))) := by
  refine ⟨fun pins s σ H D I h => ?_⟩
  refine plainObj_wpAny_Assign_Attribute (thn (he.run pins s σ H _ I h) fun v s1 ⟨y, H1, I1, r1, q1⟩ => thn (ho.run pins s1 σ H1 _ I1 q1) fun u s2 ⟨x, H2, I2, r2, a, ex, ea, q⟩ => ?_) hs
  subst ex
  obtain rfl : u = Value.ref a := r2
  exact ost_newG XB T I2 ea r1 fun dx s' n ne J => ⟨σ, _, J, q dx n ne⟩
end
/-- __init__(self, y): B.__init__(self, 'm'); self.f = y -/
theorem init_fn {P : Program} {w : World} {K : PySem.W.Frag} {mg : Str → Option Value} {base : Heap} {x qual : Str} {st : Stmt} {fI C : Addr} {fd : FuncData} {k j : Nat} {y f m : Str} {B newId initId : String} {bmB : List Value} {p1 p2 p3 p4 p5 p6 p7 p8 p9 p10 : Pos} {pl : Env → Sem Bool}
    (hc : ∀ env : Env, eval (.Call (.Attribute (.Name (B : Str) p1) "__init__" p2) [.Name "self" p3, .Constant (.str m) j p4] [] p5) env = (do
      let ov ← eval (.Name (B : Str) p1) env
      standAt p2.atName
      let (f, first) ← holding [ov] (getMethod ov "__init__" (pl env))
      callWith p5 f first (backTo p5 (starEach [.Name "self" p3, .Constant (.str m) j p4] env)) (backToKw p5 (keywordEach [] env))))
    (XB : XBase B newId initId bmB) (T : XCls K C newId bmB f) (F : L2.Fun K x qual st fI fd) (Sc : FnScope ["self", y] ["self", y] (defScope st))
    (hb : defBody st = [.Expr (.Call (.Attribute (.Name (B : Str) p1) "__init__" p2) [.Name "self" p3, .Constant (.str m) j p4] [] p5) p6, .Assign [.Attribute (.Name "self" p7) f p8] (.Name y p9) p10])
    (hgl : (defScope st).names.lookup (B : Str) = some .globalImplicit) (hm : mg (B : Str) = none) (vV : PySem.W.findCls K (.type B) (.type "type") "__init__" = some (.val (.builtin initId)))
    (hv0 : Vis (defScope st) "self") (hv1 : Vis (defScope st) y) (hyd : (y == ("__debug__" : Str)) = false) (hyc : (y == ("__classdict__" : Str)) = false) :
    FnOk P w K mg base L2.CX0 (k + 1) fI fd ["self", y] (spInit C f) := by
  refine F.ok Sc (fun vs H Q E ⟨a, v, e, _⟩ => by rw [e]; rfl) fun cdv A outer s H vs Q E hr ⟨a, v, ev, ea, hq⟩ => ?_
  rw [hb]
  refine ⟨_, pss_cons (ps_expr (pe_initG (es := [.Constant (.str m) j p4]) XB T hgl hm vV (pa_cons (pe_var (i := 0) rfl hv0) (pa_cons pe_str pa_nil)) (hc _))) (pss_one (ps_ostG XB T (pe_var (i := 0) rfl hv0) (pe_var (i := 1) rfl hv1 hyd hyc))), ?_⟩
  subst ev
  exact ⟨_, rfl, a, _, rfl, (by simp), ea, v, rfl, .ref a, rfl, a, rfl, ea, fun dx n ne => hq dx n ne⟩
end DL
namespace DL
open PySem L2 PySem.Spec PyProof.Rows
end DL
namespace DL
open PySem L2 PySem.Spec PyProof.Rows LamX
theorem Takes.len {X : Cx} {W : WX} (t : Takes X W) : Takes X (fun c d σ H => σ.length = X.N.length → W c d σ H) := fun u s' ⟨a, B, sI, pins, σ, H, cls, d, e, I, nb, up, sky, na, os, ag, w⟩ =>
  t u s' ⟨a, B, sI, pins, σ, H, cls, d, e, I, nb, up, sky, na, os, ag, w I.len⟩
end DL
namespace DL
open PySem L2 PySem.Spec PyProof.Rows LamX
end DL
namespace DL
open PySem L2 PySem.Spec PyProof.Rows
end DL
namespace DL
open PySem L2 PySem.Spec PyProof.Rows LamX
theorem clsOf_of {K : PySem.W.Frag} {x : Str} {v : Value} (h : PySem.W.nsIn K mainGlobals x = some (some v)) : clsOf K x = v := by unfold clsOf; rw [h]; rfl
end DL
namespace DL
open PySem L2
theorem kit_of {K : PySem.W.Frag} {C : Addr} {B : String} (hT : PySem.W.kitMeta B = true) (hs : PySem.W.subIn K (.ref C) (.type B) = some true) : PySem.W.kitOne K (.ref C) (.type B) = some true := by
  unfold PySem.W.kitOne PySem.W.kitCls
  rw [if_neg (by simp)]
  dsimp only
  rw [if_pos hT]
  exact hs
end DL
namespace DL
open PySem L2
end DL
namespace PySem
namespace DLX
open PySem.W PySem.Calls PyProof.Rows PySem.HandSPX
section
variable {M : Model} {prog : Program} {w : World} {A : Around} {E : Value → Shared → Prop} {R : Result → Shared → Prop} {h : Heap} {g : Array GenState} {d : Drawn} {t : Nat} {os : OsState}
variable {nm q : Str} {C N : Addr} {bs bm bmB : List Value} {hdct : Bool} {sn : List Str} {sub : List Value} {ab : Bool} {col : Option Bool} {dd : Option Addr} {k0 k1 k2 k3 k5 : Option Value} {B newId initId : String} {kw : List (Str × Value)}
theorem new_check_kw (F : ExcBaseFacts B newId initId bmB) (hT : ∀ X : String, bm.contains (.type X) = bmB.contains (.type X)) {rest : List Value} {Q : Unit → Shared → Prop}
    (hC : h.get? C = some (excClassObj nm q C N bs bm hdct sn sub ab col dd k0 k1 k2 k3 k5 newId)) (hq : Q () ⟨h, g, d, t, os⟩) : wpAny M A (checkBuiltinCall newId ⟨.ref C :: rest, kw⟩) Q E ⟨h, g, d, t, os⟩ := by
  have hc : (Value.ref C :: bm).contains (.type B) = true := by rw [List.contains_cons, hT, F.hasB, Bool.or_true]
  have hs := F.noStar
  simp only [checkBuiltinCall, F.newKind, F.newSplit, F.newRow]
  repeat (first | refine wpAny_loadPart_at hC ?_ | (refine wpAny_isSubtype_exc hC ?_; rw [hc]) | refine wpAny_staticBase_exc hC ?_ | refine wpAny_madeBy_exc hC ?_ | simp only [bne_self_eq_false, Bool.false_eq_true, if_false] | wp_step)
  exact hq
theorem new_kw (F : ExcBaseFacts B newId initId bmB) (hT : ∀ X : String, bm.contains (.type X) = bmB.contains (.type X)) {rest : List Value}
    (hC : h.get? C = some (excClassObj nm q C N bs bm hdct sn sub ab col dd k0 k1 k2 k3 k5 newId))
    (hq : R (.ok (.ret (.ref (h.objs.size + 1)))) ⟨(h.push (W.kdv_tup rest)).push (excO C h.objs.size), g, d, t, os⟩) (hr : rest.length ≤ sizeLine) :
    codeAny (model prog w) A (.builtin newId ⟨.ref C :: rest, kw⟩) R ⟨h, g, d, t, os⟩ := by
  have he := F.ends
  have cB : (Value.ref C :: bm).contains (.type B) = true := by rw [List.contains_cons, hT, F.hasB, Bool.or_true]
  have cA : (Value.ref C :: bm).contains (.type "AttributeError") = false := by rw [List.contains_cons, hT, F.noAttr]; rfl
  have cN : (Value.ref C :: bm).contains (.type "NameError") = false := by rw [List.contains_cons, hT, F.noName]; rfl
  refine codeAny_builtinAt F.entry ?_
  unfold Builtin.«BaseException.__new__»
  refine wpAt_bind ?_
  show wpAt _ _ _ (stack >>= _) _ _ _
  refine wpAt_bind (wpAt_stack fun p below => wpAt_of_wpAny ?_); wp_walk
  refine wpAt_of_wpAny ?_
  rw [F.owner]
  repeat (first | with_reducible refine wpAny_madeHere_exc F.canon hC ?_ | with_reducible refine wpAny_loadPart_at hC ?_ | (with_reducible refine wpAny_isSubtype_exc hC ?_; first | rw [cB] | rw [cA] | rw [cN]) | wp_step)
  show R _ _
  rw [Heap.size_push]
  exact hq
theorem type_call_kw (F : ExcBaseFacts B newId initId bmB) (hT : ∀ X : String, bm.contains (.type X) = bmB.contains (.type X)) {rest : List Value} {fI : Addr} {Q : Fin → Shared → Prop}
    (hC : h.get? C = some (excClassObj nm q C N bs bm hdct sn sub ab col dd k0 k1 k2 k3 k5 newId))
    (hi : W.Looks (model prog w) h (typeLookup (.ref C) "__init__") (some (.ref fI))) (hb : ∀ self, W.Looks (model prog w) h (bindSpecial (.ref fI) self) (.ref fI, [self])) (hr : rest.length ≤ sizeLine)
    (hq : codeAny (model prog w) A (.call (.ref fI) ⟨.ref (h.objs.size + 1) :: rest, kw⟩)
      (fun r s' => match r with | .ok (.ret v) => v = .none ∧ Q (.done (.ret (.ref (h.objs.size + 1)))) s' | .ok _ => False | .error e => E e s')
      ⟨(h.push (W.kdv_tup rest)).push (excO C h.objs.size), g, d, t, os⟩) :
    wpAny (model prog w) A (Builtin.«type.__call__» ⟨.ref C :: rest, kw⟩) Q E ⟨h, g, d, t, os⟩ := by
  repeat (first | with_reducible refine wpAny_loadPart_at hC ?_ | with_reducible refine wpAny_madeBy_exc hC ?_ | wp_step)
  refine codeAny_call_builtin_code (Code.quiet_builtin _ F.quiet) (new_check_kw F hT hC ?_)
  refine new_kw F hT hC ?_ hr
  show wpAny _ _ _ _ _ _
  have kp : ∀ b o, h.get? b = some o → ((h.push (W.kdv_tup rest)).push (excO C h.objs.size)).get? b = some o := fun b o e => Heap.get?_push_of_some _ (Heap.get?_push_of_some _ e)
  have hC1 := kp _ _ hC
  have hg1 : ((h.push (W.kdv_tup rest)).push (excO C h.objs.size)).get? (h.objs.size + 1) = some (excO C h.objs.size) := by heap_get
  have cC : (Value.ref C :: bm).contains (.ref C) = true := by simp
  have i1 := hi.keeps kp
  have b1 := (hb (.ref (h.objs.size + 1))).keeps kp
  unfold isInstance
  repeat (first | with_reducible refine wpAny_loadPart_at hg1 ?_ | (with_reducible refine wpAny_isSubtype_exc hC1 ?_; rw [cC]) | wp_step)
  show wpAny _ _ (typeLookup (.ref C) _) _ _ _
  refine i1.at (wpAny_holding (wpAny_bind (b1.at ?_)))
  refine wpAny_bind (wpAny_call (codeAny_mono hq fun r s' z => ?_))
  rcases r with e | (v | _ | _ | _) <;> first | exact z | exact z.elim | skip
  obtain ⟨rfl, z⟩ := z
  first | exact wpAny_pure (wpAny_pure z) | (wp_walk; exact z)
theorem call_kw (F : ExcBaseFacts B newId initId bmB) (hT : ∀ X : String, bm.contains (.type X) = bmB.contains (.type X)) {rest : List Value} {fI : Addr}
    (hC : h.get? C = some (excClassObj nm q C N bs bm hdct sn sub ab col dd k0 k1 k2 k3 k5 newId))
    (hi : W.Looks (model prog w) h (typeLookup (.ref C) "__init__") (some (.ref fI))) (hb : ∀ self, W.Looks (model prog w) h (bindSpecial (.ref fI) self) (.ref fI, [self])) (hr : rest.length ≤ sizeLine)
    (hq : codeAny (model prog w) (A.under (.builtin "type.__call__" ⟨.ref C :: rest, kw⟩)) (.call (.ref fI) ⟨.ref (h.objs.size + 1) :: rest, kw⟩) (W.InitBack (h.objs.size + 1) R)
      ⟨(h.push (W.kdv_tup rest)).push (excO C h.objs.size), g, d, t, os⟩) :
    codeAny (model prog w) A (.call (.ref C) ⟨rest, kw⟩) R ⟨h, g, d, t, os⟩ := by
  have f1 := tc_lookup
  have f2 := tc_bind (.ref C)
  have hTy : (⟨h, g, d, t, os⟩ : Shared).TypeIs (.ref C) "type" := ⟨_, hC, rfl⟩
  refine codeAny_of_tree ?_
  show wpAny _ _ (callAny (.ref C) _) _ _ _
  repeat (any_goals (first | assumption | with_reducible refine wpAny_loadPart_at hC ?_ | wp_step))
  refine ⟨rfl, ?_⟩
  refine codeAny_call_builtin_at (Code.quiet_builtin _ (by decide +kernel)) entry_typeCall (wpAny_check_type_call_sub hC (type_call_kw F hT hC hi hb hr ?_))
  refine codeAny_mono hq fun r s' z => ?_
  rcases r with e | (v | _ | _ | _) <;> exact z
end
end DLX
end PySem
namespace PySem
namespace DLX
open PySem.W PySem.Calls PyProof.Rows PySem.HandSPX
section
open Builtin Builtin.ObjectAttr
variable {prog : Program} {w : World} {A : Around} {E : Value → Shared → Prop} {R : Result → Shared → Prop} {hp : Heap} {g : Array GenState} {d : Drawn} {t : Nat} {os : OsState}
theorem osaG2 {K : W.Frag} {B : String} {bmB : List Value} (SB : StoreFacts B bmB "object.__setattr__" "object") {name : Str} {tk : Tok} {v : Value} {x C dx : Addr} {fv : Array Value} {cd : ClassData} {m0 : Str → Option Value} {nl : List Str}
    (X : K.In hp) (hx : hp.get? x = some { cls := .ref C, dict := some dx, data := .fields fv }) (hns : hp.Ns1 dx m0) (hw : Within m0 nl) (hz : nl.length ≤ 1000) (hcd : W.clsIn K C = some cd) (hm : cd.mro = .ref C :: bmB) (hh : cd.hasDict = true) (ha : W.findIn K (.ref C) name = some none)
    (hq : ∀ h' tk', (∀ b o, b ≠ dx → hp.get? b = some o → h'.get? b = some o) → h'.Ns1 dx (fun y => if y = name then some v else m0 y) → R (.ok (.ret .none)) ⟨h', g, d, tk', os⟩) :
    codeAny (model prog w) A (.call (.builtin "object.__setattr__") ⟨[.ref x, .str name tk, v], []⟩) R ⟨hp, g, d, t, os⟩ := by
  obtain ⟨oD, esD, epD, hoD, hdD, _⟩ := hns.count hw
  have I : W.InstAt hp x { cls := .ref C, dict := some dx, data := .fields fv } C (some oD) := ⟨hx, rfl, rfl, hoD⟩
  have SF := F.store_object
  have ne : cd.mro.isEmpty = false := by rw [hm]; rfl
  have hob : cd.mro.contains (.type "object") = true := by rw [hm, List.contains_cons, SB.hasOwner, Bool.or_true]
  have sub : W.Looks (model prog w) hp (isInstance (.ref x) (.type "object")) true := I.type.andThen (W.looks_mroIn X (by unfold W.mroIn; rw [hcd, Option.bind_some, if_neg (by rw [ne]; decide), hob]))
  refine codeAny_call_builtin SF.slot.plain SF.entry (@W.check_slot (model prog w) _ _ ⟨hp, g, d, t, os⟩ "object.__setattr__" "object" "__setattr__" (.ref x) [.str name tk, v] [] _ SF.kind SF.split sub (SF.args (.ref x) (.str name tk) v) ?_)
  have hmr : W.Looks (model prog w) hp (mroOf (.ref C)) cd.mro := (W.looks_clsIn X hcd).andThen .now
  have L3 : W.Looks (model prog w) hp (storeTaker? none) none := .now
  have hcls : W.Looks (model prog w) hp (classData C) cd := W.looks_clsIn X hcd
  rw [W.osa_eq, refuse_eq]
  refine wpAny_bind (wpAny_bind (I.type.at (wpAny_bind (hmr.at ?_))))
  rw [hm, refuseLoop_ref, SB.passes]
  refine wpAny_pure (wpAny_bind (I.type.at (wpAny_bind ((W.looks_findIn X ha).at (wpAny_bind (L3.at ?_))))))
  show wpAny _ _ (storeInOwnDict (.ref x) (.ref C) (.str name tk) name v false) _ _ _
  obtain ⟨nm, bs, mro, ns, qn, hd, sn, sb, ab, col, del⟩ := cd
  dsimp only at hh
  subst hh
  unfold storeInOwnDict ownDictForStores
  repeat (first | with_reducible refine PySem.OEX.store_in_old hns hw hz ?_ | with_reducible refine wpAny_loadPart_at hx ?_ | with_reducible refine hcls.at ?_ | wp_step)
  intro h' tk' hn' hs
  exact hq h' tk' (fun b o hb ho => (hs.2 b hb).trans ho) hn'
end
end DLX
end PySem
namespace DL
open PySem L2 PySem.Spec PyProof.Rows
theorem xb_RuntimeError : XBase "RuntimeError" "RuntimeError.__new__" "RuntimeError.__init__" (bmOf "RuntimeError") :=
  ⟨F.excBase_RuntimeError, F.store_RuntimeError, by kernel_rfl, by decide +kernel, PyProof.Rows.Boot.«RuntimeError», by decide, by decide, by decide +kernel⟩
theorem exd_eq {dx : Addr} {fs fs' : List (Str × V)} (h : ∀ f, fs.lookup f = fs'.lookup f) : exd dx fs = exd dx fs' := by
  unfold exd
  simp only [h]
theorem lookup_swap {f g : Str} {x y : V} (hne : f ≠ g) (z : Str) : [(f, x), (g, y)].lookup z = [(g, y), (f, x)].lookup z := by
  rw [lookup_put, lookup_put, lookup_put, lookup_put]
  by_cases h1 : z = f
  · subst h1; rw [if_pos rfl, if_neg hne, if_pos rfl]
  · rw [if_neg h1, if_neg h1]
section
variable {X : Cx} {pins : List (Addr × Obj)} {σ : L2.St} {H : Hp} {s : Shared} {a C dx : Addr} {f : Str} {y : V} {u : Value} {fs : List (Str × V)} {Q : Unit → Shared → Prop} {E : Value → Shared → Prop} {A : Around} {B newId initId : String} {bmB : List Value}
theorem ost_oldG (XB : XBase B newId initId bmB) (T : XCls X.K C newId bmB f) (I : Inv X pins σ H s) (e : H a = some (exo a C (some dx))) (ed : H dx = some (exd dx fs)) (hl : fs.length ≤ 900) (ry : RelV y u)
    (h : ∀ s', Inv X pins σ (upd H dx (exd dx ((f, y) :: fs))) s' → Q () s') : wpAny (model X.prog X.w) A (setAttr (.ref a) f u) Q E s := by
  obtain ⟨nm, q, N, bs, sn, sub, ab, col, dd, k0, k1, k2, k3, k5, hC⟩ := T.cls
  have hcl : PySem.W.clsIn X.K C = some { name := nm, bases := bs, mro := .ref C :: bmB, ns := N, qualname := q, hasDict := true, slotNames := sn, subclasses := sub, abstract := ab, collection := col, hasDel := false } := by unfold PySem.W.clsIn; rw [hC] <;> rfl
  obtain ⟨t1, ho⟩ := exo_at I.hok e
  obtain ⟨mA, hns, rel⟩ := exd_at I.hok ed
  have hw := within_of rel
  obtain ⟨hp, g, d, t, os⟩ := s
  obtain ⟨oD, _, _, hoD, _, _⟩ := hns.count hw
  refine PySem.W.set_plain I.kIn (ox := { cls := .ref C, dict := some dx, data := .fields #[.ref t1, .none, .none, .none, .bool false, .none] }) (od := some oD) ⟨ho, rfl, rfl, hoD⟩ T.sa ?_
  refine PySem.DLX.osaG2 XB.st I.kIn ho hns hw (by rw [List.length_map]; omega) hcl rfl rfl T.fld (fun h' tk' k hn => ?_)
  have hd : ∃ o, h'.get? dx = some o := by obtain ⟨o, _, _, e', _⟩ := hn; exact ⟨o, e'⟩
  exact h _ (I.write (t' := tk') (x := dx) (e := dx) (o := exd dx ((f, y) :: fs)) (by rw [ed]; exact True.intro) (.inl rfl) k hd (exd_ok hn (relO_put ry rel)))
end
/-- what __init__ keeps: no field, two fields -/
def spInit0 (C : Addr) : Sp := fun vs H Q _ => ∃ (a : Addr), vs = [.ref a] ∧ H a = some (exo a C none) ∧ Q .non H
def spInit2 (C : Addr) (f1 f2 : Str) : Sp := fun vs H Q _ => ∃ (a : Addr) (v1 v2 : V), vs = [.ref a, v1, v2] ∧ H a = some (exo a C none) ∧ ∀ dx, H dx = none → dx ≠ a → Q .non (upd (upd H dx (exd dx [(f1, v1), (f2, v2)])) a (exo a C (some dx)))
section
variable {X : Cx} {e : Expr} {C : Addr} {f g : Str} {B newId initId : String} {bmB : List Value} {p' pos : Pos}
theorem ps_ostG2 {o : Expr} {to te : TE} (XB : XBase B newId initId bmB) (T : XCls X.K C newId bmB f) (ho : PE X o to) (he : PE X e te) (hs : swapsWith e (some (.Attribute o f p')) pos.line X.env = pure false := by rfl) :
    PS X (.Assign [.Attribute o f p'] e pos) (fun D σ H => te σ H fun y H1 => to σ H1 fun x H2 => ∃ (a dx : Addr) (fs : List (Str × V)), x = .ref a ∧ H2 a = some (exo a C (some dx)) ∧ H2 dx = some (exd dx fs) ∧ fs.length ≤ 900 ∧ D.nx σ (upd H2 dx (exd dx ((f, y) :: fs)))) := by
  refine ⟨fun pins s σ H D I h => ?_⟩
  refine plainObj_wpAny_Assign_Attribute (thn (he.run pins s σ H _ I h) fun v s1 ⟨y, H1, I1, r1, q1⟩ => thn (ho.run pins s1 σ H1 _ I1 q1) fun u s2 ⟨x, H2, I2, r2, a, dx, fs, ex, ea, ed, hl, q⟩ => ?_) hs
  subst ex
  obtain rfl : u = Value.ref a := r2
  exact ost_oldG XB T I2 ea ed hl r1 fun s' J => ⟨σ, _, J, q⟩
end
theorem init_fn0 {P : Program} {w : World} {K : PySem.W.Frag} {mg : Str → Option Value} {base : Heap} {x qual : Str} {st : Stmt} {fI C : Addr} {fd : FuncData} {k j : Nat} {m f : Str} {B newId initId : String} {bmB : List Value} {p1 p2 p3 p4 p5 p6 : Pos} {pl : Env → Sem Bool}
    (hc : ∀ env : Env, eval (.Call (.Attribute (.Name (B : Str) p1) "__init__" p2) [.Name "self" p3, .Constant (.str m) j p4] [] p5) env = (do
      let ov ← eval (.Name (B : Str) p1) env
      standAt p2.atName
      let (f, first) ← holding [ov] (getMethod ov "__init__" (pl env))
      callWith p5 f first (backTo p5 (starEach [.Name "self" p3, .Constant (.str m) j p4] env)) (backToKw p5 (keywordEach [] env))))
    (XB : XBase B newId initId bmB) (T : XCls K C newId bmB f) (F : L2.Fun K x qual st fI fd) (Sc : FnScope ["self"] ["self"] (defScope st))
    (hb : defBody st = [.Expr (.Call (.Attribute (.Name (B : Str) p1) "__init__" p2) [.Name "self" p3, .Constant (.str m) j p4] [] p5) p6])
    (hgl : (defScope st).names.lookup (B : Str) = some .globalImplicit) (hm : mg (B : Str) = none) (vV : PySem.W.findCls K (.type B) (.type "type") "__init__" = some (.val (.builtin initId)))
    (hv0 : Vis (defScope st) "self") :
    FnOk P w K mg base L2.CX0 (k + 1) fI fd ["self"] (spInit0 C) := by
  refine F.ok Sc (fun vs H Q E ⟨a, e, _⟩ => by rw [e]; rfl) fun cdv A outer s H vs Q E hr ⟨a, ev, ea, hq⟩ => ?_
  rw [hb]
  refine ⟨_, pss_one (ps_expr (pe_initG (es := [.Constant (.str m) j p4]) XB T hgl hm vV (pa_cons (pe_var (i := 0) rfl hv0) (pa_cons pe_str pa_nil)) (hc _))), ?_⟩
  subst ev
  exact ⟨_, rfl, a, _, rfl, (by simp), ea, hq⟩
theorem upd_comm2 {H : Hp} {a dx : Addr} {o1 o2 o3 : HO} (hne : dx ≠ a) : upd (upd (upd H dx o1) a o2) dx o3 = upd (upd H dx o3) a o2 := by
  funext b
  by_cases h1 : b = dx
  · subst h1; rw [upd_same, upd_ne hne, upd_same]
  · rw [upd_ne h1]
    by_cases h2 : b = a
    · subst h2; rw [upd_same, upd_same]
    · rw [upd_ne h2, upd_ne h1, upd_ne h2, upd_ne h1]
theorem init_fn2 {P : Program} {w : World} {K : PySem.W.Frag} {mg : Str → Option Value} {base : Heap} {x qual : Str} {st : Stmt} {fI C : Addr} {fd : FuncData} {k j : Nat} {y z f g m : Str} {B newId initId : String} {bmB : List Value} {p1 p2 p3 p4 p5 p6 p7 p8 p9 p10 q7 q8 q9 q10 : Pos} {pl : Env → Sem Bool}
    (hc : ∀ env : Env, eval (.Call (.Attribute (.Name (B : Str) p1) "__init__" p2) [.Name "self" p3, .Constant (.str m) j p4] [] p5) env = (do
      let ov ← eval (.Name (B : Str) p1) env
      standAt p2.atName
      let (f, first) ← holding [ov] (getMethod ov "__init__" (pl env))
      callWith p5 f first (backTo p5 (starEach [.Name "self" p3, .Constant (.str m) j p4] env)) (backToKw p5 (keywordEach [] env))))
    (XB : XBase B newId initId bmB) (T : XCls K C newId bmB f) (T2 : XCls K C newId bmB g) (F : L2.Fun K x qual st fI fd) (Sc : FnScope ["self", y, z] ["self", y, z] (defScope st))
    (hb : defBody st = [.Expr (.Call (.Attribute (.Name (B : Str) p1) "__init__" p2) [.Name "self" p3, .Constant (.str m) j p4] [] p5) p6, .Assign [.Attribute (.Name "self" p7) f p8] (.Name y p9) p10, .Assign [.Attribute (.Name "self" q7) g q8] (.Name z q9) q10])
    (hgl : (defScope st).names.lookup (B : Str) = some .globalImplicit) (hm : mg (B : Str) = none) (vV : PySem.W.findCls K (.type B) (.type "type") "__init__" = some (.val (.builtin initId))) (hfg : f ≠ g)
    (hv0 : Vis (defScope st) "self") (hv1 : Vis (defScope st) y) (hv2 : Vis (defScope st) z) (hyd : (y == ("__debug__" : Str)) = false) (hyc : (y == ("__classdict__" : Str)) = false) (hzd : (z == ("__debug__" : Str)) = false) (hzc : (z == ("__classdict__" : Str)) = false) :
    FnOk P w K mg base L2.CX0 (k + 1) fI fd ["self", y, z] (spInit2 C f g) := by
  refine F.ok Sc (fun vs H Q E ⟨a, v1, v2, e, _⟩ => by rw [e]; rfl) fun cdv A outer s H vs Q E hr ⟨a, v1, v2, ev, ea, hq⟩ => ?_
  rw [hb]
  refine ⟨_, pss_cons (ps_expr (pe_initG (es := [.Constant (.str m) j p4]) XB T hgl hm vV (pa_cons (pe_var (i := 0) rfl hv0) (pa_cons pe_str pa_nil)) (hc _))) (pss_cons (ps_ostG XB T (pe_var (i := 0) rfl hv0) (pe_var (i := 1) rfl hv1 hyd hyc)) (pss_one (ps_ostG2 XB T2 (pe_var (i := 0) rfl hv0) (pe_var (i := 2) rfl hv2 hzd hzc)))), ?_⟩
  subst ev
  refine ⟨_, rfl, a, _, rfl, (by simp), ea, v1, rfl, .ref a, rfl, a, rfl, ea, fun dx n ne => ⟨v2, rfl, .ref a, rfl, a, dx, [(f, v1)], rfl, upd_same, ?_, by simp, ?_⟩⟩
  · rw [upd_ne ne, upd_same]
  · rw [upd_comm2 ne, exd_eq (fs' := [(f, v1), (g, v2)]) fun z => lookup_swap (Ne.symm hfg) z]
    exact hq dx n ne
end DL
namespace DL
open PySem L2 PySem.Spec PyProof.Rows
/-- what __init__ of the fields flds keeps, in one -/
def SpI (C : Addr) (flds : List Str) (sp : Sp) : Prop := ∀ (a : Addr) (vs : List V) (H : Hp) (Q : VK) (E : XK), vs.length = flds.length → H a = some (exo a C none) →
  (match flds with | [] => Q .non H | _ => ∀ dx, H dx = none → dx ≠ a → Q .non (upd (upd H dx (exd dx (flds.zip vs))) a (exo a C (some dx)))) → sp (.ref a :: vs) H Q E
theorem spI0 (C : Addr) : SpI C [] (spInit0 C) := fun a vs H Q E hl ha hq => by
  cases vs with
  | nil => exact ⟨a, rfl, ha, hq⟩
  | cons _ _ => cases hl
theorem spI1 (C : Addr) (f : Str) : SpI C [f] (spInit C f) := fun a vs H Q E hl ha hq => by
  match vs, hl with
  | [v], _ => exact ⟨a, v, rfl, ha, fun dx h1 h2 => hq dx h1 h2⟩
theorem spI2 (C : Addr) (f g : Str) : SpI C [f, g] (spInit2 C f g) := fun a vs H Q E hl ha hq => by
  match vs, hl with
  | [v, w], _ => exact ⟨a, v, w, rfl, ha, fun dx h1 h2 => hq dx h1 h2⟩
section
variable {X : Cx} {W : WX} {C fI : Addr} {k : Nat} {fd : FuncData} {ps : List Str} {sp : Sp} {f x : Str} {B newId initId : String} {bmB : List Value}
theorem run_ex {pins : List (Addr × Obj)} {σ : L2.St} {H : Hp} {s : Shared} {Q : VK} {us bs : List Value} {kw : List (Str × Value)} {zs : List V} (XB : XBase B newId initId bmB) (T : XCls X.K C newId bmB f) (iC : PySem.W.findIn X.K (.ref C) "__init__" = some (some (.ref fI))) (tI : PySem.W.typeIn X.K (.ref fI) = some (.type "function"))
    (F1 : FnOk X.prog X.w X.K X.mg X.base L2.CX0 k fI fd ps sp) (hr : Room (k + 1) X.A) (I : Inv X pins σ H s) (hus : us.length ≤ sizeLine) (hb : ∀ (s : Shared) (a : Value), X.K.In s.heap → BindsTo s fd ⟨a :: us, kw⟩ (ps.zip (a :: bs))) (r : Vals zs bs)
    (h : ∀ a, H a = none → sp (.ref a :: zs) (upd H a (exo a C none)) (fun v H2 => v = .non ∧ Q (.ref a) H2) (fun _ _ _ => False)) : wpAny (model X.prog X.w) X.A (call (.ref C) us kw) (EP X pins σ Q) X.xe s := by
  obtain ⟨nm, q, N, bs', sn, sub, ab, col, dd, k0, k1, k2, k3, k5, hC⟩ := T.cls
  obtain ⟨hp, g, dr, tk, os⟩ := s
  have hsz : hp.objs.size ≤ hp.objs.size + 1 := Nat.le_succ _
  have hn : H (hp.objs.size + 1) = none := I.hok.fresh hsz
  have hq := h (hp.objs.size + 1) hn
  have kk : ∀ b o, hp.get? b = some o → ((hp.push (PySem.W.kdv_tup us)).push (PySem.HandSPX.excO C hp.objs.size)).get? b = some o := fun b o e => Heap.get?_push_of_some _ (Heap.get?_push_of_some _ e)
  have hget : ((hp.push (PySem.W.kdv_tup us)).push (PySem.HandSPX.excO C hp.objs.size)).get? (hp.objs.size + 1) = some (PySem.HandSPX.excO C hp.objs.size) := by heap_get
  have I2 : Inv X pins σ (upd H (hp.objs.size + 1) (exo (hp.objs.size + 1) C none)) ⟨(hp.push (PySem.W.kdv_tup us)).push (PySem.HandSPX.excO C hp.objs.size), g, dr, tk, os⟩ :=
    I.laid (t' := tk) (a := hp.objs.size + 1) (o := exo (hp.objs.size + 1) C none) (h' := (hp.push (PySem.W.kdv_tup us)).push (PySem.HandSPX.excO C hp.objs.size)) kk hsz (exo_ok hget)
  have r2 : Vals (V.ref (hp.objs.size + 1) :: zs) (Value.ref (hp.objs.size + 1) :: bs) := .cons rfl r
  refine wpAny_call (PySem.DLX.call_kw XB.F (fun Y => rfl) (I.kIn _ _ hC) (PySem.W.looks_findIn I.kIn iC) (fun self => PySem.W.bind_fn I.kIn self tI) hus
    (codeAny_mono (F1.run _ X.stack _ _ ⟨Value.ref (hp.objs.size + 1) :: us, kw⟩ (Value.ref (hp.objs.size + 1) :: bs) _ _ (fun _ _ _ => False) (hr.make C us kw) (I2.env0.make C us kw) (hb _ _ I2.kIn) r2 hq) fun r s' hq' => ?_))
  cases r with
  | error er => exact (show False from hq').elim
  | ok fl =>
    cases fl with
    | ret u =>
      obtain ⟨v, H', I3, rv, ev, q3⟩ := I2.after hq'
      subst ev
      exact ⟨rv, ⟨V.ref (hp.objs.size + 1), H', I3, rfl, q3⟩⟩
    | next => exact False.elim hq'
    | brk => exact False.elim hq'
    | cont => exact False.elim hq'
end
def mkIns (nm : Str) (flds : List Str) : List D → M D := fun ds S => match pys ds with
  | some xs => if xs.length = flds.length then .ok (.p (insD nm (flds.zip xs))) S else .bad
  | none => .bad
theorem zip_map1 {α β : Type} : ∀ {l : List α} {r : List β}, r.length = l.length → (l.zip r).map (·.1) = l
  | [], [], _ => rfl
  | a :: l, b :: r, h => by rw [List.zip_cons_cons, List.map_cons, zip_map1 (by simpa using h)]
theorem zip_map2 {α β : Type} : ∀ {l : List α} {r : List β}, r.length = l.length → (l.zip r).map (·.2) = r
  | [], [], _ => rfl
  | a :: l, b :: r, h => by rw [List.zip_cons_cons, List.map_cons, zip_map2 (by simpa using h)]
theorem insF_keys (fs : List (Str × PyData)) : (insF fs).map (·.1) = fs.map (fun p => PyData.str p.1) := by simp [insF]
theorem insF_vals (fs : List (Str × PyData)) : (insF fs).map (·.2) = fs.map (·.2) := by simp [insF]
theorem upd_over {H : Hp} {a dx : Addr} {o1 o2 o3 : HO} (hne : dx ≠ a) : upd (upd (upd H a o1) dx o2) a o3 = upd (upd H dx o2) a o3 := by
  funext b
  by_cases h1 : b = a
  · subst h1; rw [upd_same, upd_same]
  · rw [upd_ne h1, upd_ne h1]
    by_cases h2 : b = dx
    · subst h2; rw [upd_same, upd_same]
    · rw [upd_ne h2, upd_ne h2, upd_ne h1]
theorem new_sp {K : PySem.W.Frag} {W : WX} {σ : L2.St} {H : Hp} {G : Gh} {S : Sto} {Q : VK} {C : Addr} {x : Str} {flds : List Str} {sp : Sp} {ds : List D} {vs : List V} (hsp : SpI C flds sp) (ec : ExC K C) (hna : ∀ f ∈ flds, NoAttr K C f) (hcl : clsOf K x = .ref C) (rp : Rep K H G S) (dv : DenL K H G ds vs)
    (q : Aft K W σ H G S (mkIns x flds ds S) (QD K Q)) : ∀ a, H a = none → sp (.ref a :: vs) (upd H a (exo a C none)) (fun v H2 => v = .non ∧ Q (.ref a) H2) (fun _ _ _ => False) := by
  intro a ha
  unfold mkIns at q
  split at q
  · rename_i xs e
    have t := pys_den e dv
    by_cases hl : xs.length = flds.length
    · rw [if_pos hl] at q
      have hlv : vs.length = flds.length := by rw [← t.length]; exact hl
      refine hsp a vs _ _ _ hlv upd_same ?_
      cases flds with
      | nil =>
        cases vs with
        | cons _ _ => cases hlv
        | nil =>
          refine ⟨rfl, ?_⟩
          refine q _ _ (Ext.froz (o := exo a C none) rp ha) (Rep.froz rp ha) _ (Dn.ins (.ex0 List.mem_cons_self ec) hcl rfl ?_)
          exact .nil
      | cons f0 fr =>
        intro dx h1 h2
        refine ⟨rfl, ?_⟩
        rw [upd_over h2]
        rw [upd_ne h2] at h1
        have x1 := Ext.froz (o := exd dx ((f0 :: fr).zip vs)) rp h1
        have r1 := Rep.froz (o := exd dx ((f0 :: fr).zip vs)) rp h1
        have ha' : upd H dx (exd dx ((f0 :: fr).zip vs)) a = none := by rw [upd_ne (Ne.symm h2)]; exact ha
        have x2 := Ext.froz (o := exo a C (some dx)) r1 ha'
        have r2 := Rep.froz (o := exo a C (some dx)) r1 ha'
        refine q _ _ (x1.trans x2) r2 _ (Dn.ins (.ex (dx := dx) (ws := (f0 :: fr).zip vs) List.mem_cons_self (List.mem_cons_of_mem _ List.mem_cons_self) ec fun p hp => hna p.1 (List.of_mem_zip hp).1) hcl ?_ ?_)
        · rw [insF_keys]
          have e1 := zip_map1 (l := f0 :: fr) hl
          have e2 := zip_map1 (l := f0 :: fr) hlv
          have := congrArg (List.map PyData.str) (e1.trans e2.symm)
          simpa [List.map_map, Function.comp_def] using this
        · rw [insF_vals, zip_map2 hl, zip_map2 hlv]
          exact x2.dnAll r1 (x1.dnAll rp t)
    · rw [if_neg hl] at q; exact q.elim
  · exact q.elim
/-- keywords -/
structure DK (X : Cx) (W : WX) (kws : List Keyword) (f : FA) : Prop where
  run : PK X kws (rdA X.K W f)
theorem PK.imp {X : Cx} {kws : List Keyword} {t t' : TA} (h : PK X kws t) (i : ∀ σ H Q, t' σ H Q → t σ H Q) : PK X kws t' := ⟨fun pos pins s σ H Q I q => h.run pos pins s σ H Q I (i σ H Q q)⟩
def aRev (f : FA) : FA := fun ρ S => (f ρ S).bind fun ds S1 => .ok ds.reverse S1
section
variable {X : Cx} {W : WX} {C fI : Addr} {k : Nat} {fd : FuncData} {ps ks flds : List Str} {sp : Sp} {f x : Str} {B newId initId : String} {bmB : List Value} {e : Expr} {es : List Expr} {kws : List Keyword} {fa : FA} {fe : FE} {p pos kpos : Pos} {nm : Option Str}
theorem dk_nil : DK X W [] aNil := ⟨PK.imp pk_nil fun σ H Q ⟨G, S, ρ, rs, rp, h⟩ => h H G Ext.refl rp _ .nil⟩
theorem dk_cons (he : DE X W e fe) (hr : DK X W kws fa) : DK X W (⟨nm, e, kpos⟩ :: kws) (aCons fe fa) := by
  refine ⟨PK.imp (pk_cons he.run hr.run) fun σ H Q ⟨G, S, ρ, rs, rp, h⟩ => ?_⟩
  refine ⟨G, S, ρ, rs, rp, (Aft.bind h).mono fun d H1 G1 S1 x1 r1 h1 v dv => ?_⟩
  refine ⟨G1, S1, ρ, x1.relS rp rs, r1, (Aft.bind h1).mono fun ds H2 G2 S2 x2 r2 h2 vs dvs => ?_⟩
  exact h2 H2 G2 Ext.refl r2 _ (.cons (x2.den r1 dv) dvs)
/-- C(e, ..) -/
theorem de_new (XB : XBase B newId initId bmB) (T : XCls X.K C newId bmB f) (ec : ExC X.K C) (hna : ∀ f ∈ flds, NoAttr X.K C f) (hcl : clsOf X.K x = .ref C) (iC : PySem.W.findIn X.K (.ref C) "__init__" = some (some (.ref fI))) (tI : PySem.W.typeIn X.K (.ref fI) = some (.type "function"))
    (F1 : FnOk X.prog X.w X.K X.mg X.base L2.CX0 k fI fd ps sp) (hsp : SpI C flds sp) (hb : Binds X.K fd ps []) (hps : ps.length = flds.length + 1) (hfl : flds.length ≤ 1000) (Cc : Ctx X W (k + 1)) (hg : Gl X x) (hm : X.mg x = some (.ref C)) (ha : DA X W (e :: es) fa)
    (hdb : (x == ("__debug__" : Str)) = false := by decide) (he : starEach (e :: es) X.env = (false, eval e X.env) :: starEach es X.env := by rfl) (hpl : (backTo pos (starEach es X.env)).any (·.1) = false := by rfl) :
    DE X W (.Call (.Name x p) (e :: es) [] pos) (eA (mkIns x flds) fa) := by
  refine ⟨⟨fun pins s σ H Q I ⟨G, S, ρ, rs, rp, h⟩ => ?_⟩⟩
  refine wpAny_Call_Name_kw (ld_glob I hg hm ?_ hdb)
  have h2 : rdA X.K W fa σ H (fun vs H1 => vs.length = flds.length ∧ ∀ a, H1 a = none → sp (.ref a :: vs) (upd H1 a (exo a C none)) (fun v H2 => v = .non ∧ Q (.ref a) H2) (fun _ _ _ => False)) := by
    refine ⟨G, S, ρ, rs, rp, (Aft.bind h).mono fun ds H1 G1 S1 x1 r1 q1 vs dvs => ⟨?_, new_sp hsp ec hna hcl r1 dvs q1⟩⟩
    unfold mkIns at q1
    split at q1
    · rename_i xs ex
      by_cases hl : xs.length = flds.length
      · rw [← (pys_den ex dvs).length]; exact hl
      · rw [if_neg hl] at q1; exact q1.elim
    · exact q1.elim
  refine PySem.W.callWith_K (h₀ := X.base) I.ok.mod.kin T.kC (thn (ha.run.run pos pins s σ H _ I h2) fun us s1 ⟨vs, H1, I1, r1, hl, q1⟩ => ⟨I1.kIn, ?_⟩) he hpl
  show wpAny _ _ (call (.ref C) us) _ _ _
  have hus : us.length = flds.length := by rw [← Paired.length r1]; exact hl
  refine run_ex XB T iC tI F1 Cc.hr I1 (by rw [hus, sizeLine_eq]; omega) (fun s a KX => ?_) r1 q1
  have := hb s (a :: us) KX (by simp [hus, hps])
  rwa [List.append_nil] at this
/-- C() -/
theorem de_new0 (XB : XBase B newId initId bmB) (T : XCls X.K C newId bmB f) (ec : ExC X.K C) (hcl : clsOf X.K x = .ref C) (iC : PySem.W.findIn X.K (.ref C) "__init__" = some (some (.ref fI))) (tI : PySem.W.typeIn X.K (.ref fI) = some (.type "function"))
    (F1 : FnOk X.prog X.w X.K X.mg X.base L2.CX0 k fI fd ps sp) (hsp : SpI C [] sp) (hb : Binds X.K fd ps []) (hps : ps.length = 1) (Cc : Ctx X W (k + 1)) (hg : Gl X x) (hm : X.mg x = some (.ref C))
    (hdb : (x == ("__debug__" : Str)) = false := by decide) :
    DE X W (.Call (.Name x p) [] [] pos) (eA (mkIns x []) aNil) := by
  refine ⟨⟨fun pins s σ H Q I ⟨G, S, ρ, rs, rp, h⟩ => ?_⟩⟩
  refine wpAny_Call_Name_kw (ld_glob I hg hm ?_ hdb)
  refine PySem.W.callWith_K0 I.kIn T.kC ?_
  show wpAny _ _ (call (.ref C) []) _ _ _
  refine run_ex (us := []) (bs := []) (zs := []) XB T iC tI F1 Cc.hr I (Nat.zero_le _) (fun s a KX => ?_) .nil (new_sp (ds := []) hsp ec (fun _ h => nomatch h) hcl rp .nil h)
  have := hb s [a] KX (by simp [hps])
  rwa [List.append_nil] at this
/-- C(k = e, ..): the keywords in the order of the parameters (rv = false) or against it -/
theorem de_newK (rv : Bool) (XB : XBase B newId initId bmB) (T : XCls X.K C newId bmB f) (ec : ExC X.K C) (hna : ∀ f ∈ flds, NoAttr X.K C f) (hcl : clsOf X.K x = .ref C) (iC : PySem.W.findIn X.K (.ref C) "__init__" = some (some (.ref fI))) (tI : PySem.W.typeIn X.K (.ref fI) = some (.type "function"))
    (F1 : FnOk X.prog X.w X.K X.mg X.base L2.CX0 k fI fd ps sp) (hsp : SpI C flds sp) (hkb : ∀ (s : Shared) (a : Value) (ws : List Value), ws.length = flds.length → BindsTo s fd ⟨[a], ks.zip ws⟩ (ps.zip (a :: if rv then ws.reverse else ws))) (Cc : Ctx X W (k + 1)) (hg : Gl X x) (hm : X.mg x = some (.ref C)) (ha : DK X W kws fa)
    (hall : (backToKw pos (keywordEach kws X.env)).all (·.1.isSome) = true := by rfl) (hks : (backToKw pos (keywordEach kws X.env)).filterMap (·.1) = ks := by rfl)
    (hdb : (x == ("__debug__" : Str)) = false := by decide) (hpl : ((backTo pos (starEach [] X.env)).any (·.1) || (backToKw pos (keywordEach kws X.env)).any (·.1.isNone)) = false := by rfl) :
    DE X W (.Call (.Name x p) [] kws pos) (eA (mkIns x flds) (if rv then aRev fa else fa)) := by
  refine ⟨⟨fun pins s σ H Q I ⟨G, S, ρ, rs, rp, h⟩ => ?_⟩⟩
  refine wpAny_Call_Name_kw (ld_glob I hg hm ?_ hdb)
  have key : ∀ {ds : List D} {vs : List V} {H1 : Hp} {G1 : Gh} {S1 : Sto}, Rep X.K H1 G1 S1 → DenL X.K H1 G1 ds vs → Aft X.K W σ H1 G1 S1 (mkIns x flds ds S1) (QD X.K Q) → vs.length = flds.length ∧ ∀ a, H1 a = none → sp (.ref a :: vs) (upd H1 a (exo a C none)) (fun v H2 => v = .non ∧ Q (.ref a) H2) (fun _ _ _ => False) := by
    intro ds vs H1 G1 S1 r1 dvs q1
    refine ⟨?_, new_sp hsp ec hna hcl r1 dvs q1⟩
    unfold mkIns at q1
    split at q1
    · rename_i xs ex
      by_cases hl : xs.length = flds.length
      · rw [← (pys_den ex dvs).length]; exact hl
      · rw [if_neg hl] at q1; exact q1.elim
    · exact q1.elim
  have rev : ∀ {ds : List D} {vs : List V} {H1 : Hp} {G1 : Gh}, DenL X.K H1 G1 ds vs → DenL X.K H1 G1 ds.reverse vs.reverse := by
    intro ds vs H1 G1 d
    have app : ∀ {as bs : List D} {us ws : List V}, DenL X.K H1 G1 as us → DenL X.K H1 G1 bs ws → DenL X.K H1 G1 (as ++ bs) (us ++ ws) := by
      intro as bs us ws h1 h2
      induction h1 with
      | nil => exact h2
      | cons a t ih => exact .cons a ih
    induction d with
    | nil => exact .nil
    | cons a t ih =>
      rw [List.reverse_cons, List.reverse_cons]
      exact app ih (.cons a .nil)
  have h2 : rdA X.K W fa σ H (fun vs H1 => (if rv then vs.reverse else vs).length = flds.length ∧ ∀ a, H1 a = none → sp (.ref a :: if rv then vs.reverse else vs) (upd H1 a (exo a C none)) (fun v H2 => v = .non ∧ Q (.ref a) H2) (fun _ _ _ => False)) := by
    cases rv with
    | false => exact ⟨G, S, ρ, rs, rp, (Aft.bind h).mono fun ds H1 G1 S1 x1 r1 q1 vs dvs => key r1 dvs q1⟩
    | true =>
      refine ⟨G, S, ρ, rs, rp, (Aft.bind (Aft.bind h)).mono fun ds H1 G1 S1 x1 r1 q1 vs dvs => ?_⟩
      exact key r1 (rev dvs) (Aft.here q1 Ext.refl r1)
  refine PySem.W.callWith_KW0 (h₀ := X.base) I.ok.mod.kin T.kC hall (thn (ha.run.run pos pins s σ H _ I h2) fun us s1 ⟨vs, H1, I1, r1, hl, q1⟩ => ⟨I1.kIn, ?_⟩) hpl
  rw [hks]
  show wpAny _ _ (call (.ref C) [] (ks.zip us)) _ _ _
  have hus : us.length = flds.length := by
    rw [← Paired.length r1]
    cases rv <;> simpa using hl
  have rr : Vals (if rv then vs.reverse else vs) (if rv then us.reverse else us) := by
    cases rv with
    | false => exact r1
    | true =>
      have rv2 : ∀ {as : List V} {bs : List Value}, Vals as bs → Vals as.reverse bs.reverse := by
        intro as bs h
        induction h with
        | nil => exact .nil
        | cons a t ih => rw [List.reverse_cons, List.reverse_cons]; exact Vals.append ih (.cons a .nil)
      exact rv2 r1
  exact run_ex (us := []) XB T iC tI F1 Cc.hr I1 (Nat.zero_le _) (fun s a KX => hkb s a us hus) rr q1
end
end DL
namespace DL
open PySem L2 PySem.Spec PyProof.Rows
def kvGet (f : Str) : List (PyData × PyData) → Option PyData
  | [] => none
  | (.str g, v) :: r => if f = g then some v else kvGet f r
  | _ :: _ => none
theorem kvGet_ins (f : Str) : ∀ fs : List (Str × PyData), kvGet f (insF fs) = fs.lookup f
  | [] => rfl
  | (g, v) :: r => by
    show (if f = g then some v else kvGet f (insF r)) = _
    rw [kvGet_ins f r]
    by_cases h : f = g
    · subst h; simp [List.lookup]
    · have e : (f == g) = false := by simpa using h
      rw [if_neg h]; simp [List.lookup, e]
/-- the field f -/
def fldOf (S : Sto) (f : Str) : D → Option PyData
  | .p (.dict ((.tuple _, _) :: r)) => kvGet f r
  | .ob i => match S[i]? with
    | some (.ins _ fs) => fs.lookup f
    | _ => none
  | _ => none
@[simp] theorem fldOf_ins {S : Sto} {f nm : Str} {fs : List (Str × PyData)} : fldOf S f (.p (insD nm fs)) = fs.lookup f := kvGet_ins f fs
theorem kv_look {K : PySem.W.Frag} {φ : List (Addr × HO)} {H : Hp} {f : Str} : ∀ {kvs : List (PyData × PyData)} {ws : List (Str × V)} {d : PyData}, kvs.map (·.1) = ws.map (fun p => PyData.str p.1) → DnAll K φ H (kvs.map (·.2)) (ws.map (·.2)) → kvGet f kvs = some d → ∃ v, ws.lookup f = some v ∧ Dn K φ H d v ∧ (f, v) ∈ ws
  | [], ws, d, e, _, h => by cases h
  | (k, x) :: r, ws, d, e, t, h => by
    cases ws with
    | nil => cases e
    | cons q ws =>
      obtain ⟨g, v⟩ := q
      obtain ⟨e1, e2⟩ := List.cons.inj (show k :: r.map (·.1) = PyData.str g :: ws.map (fun p => PyData.str p.1) from e)
      subst e1
      cases t with
      | cons dx t =>
        have h : (if f = g then some x else kvGet f r) = some d := h
        rw [L2.lookup_put]
        by_cases hg : f = g
        · rw [if_pos hg] at h ⊢
          cases h
          exact ⟨v, rfl, dx, by rw [hg]; exact List.mem_cons_self⟩
        · rw [if_neg hg] at h ⊢
          obtain ⟨w, h1, h2, h3⟩ := kv_look e2 t h
          exact ⟨w, h1, h2, List.mem_cons_of_mem _ h3⟩
theorem fs_look {K : PySem.W.Frag} {φ : List (Addr × HO)} {H : Hp} {f : Str} {fs : List (Str × PyData)} {ws : List (Str × V)} {d : PyData} (e : fs.map (·.1) = ws.map (·.1)) (t : DnAll K φ H (fs.map (·.2)) (ws.map (·.2))) (h : fs.lookup f = some d) : ∃ v, ws.lookup f = some v ∧ Dn K φ H d v ∧ (f, v) ∈ ws := by
  refine kv_look (kvs := insF fs) ?_ (by rw [insF_vals]; exact t) (by rw [kvGet_ins]; exact h)
  rw [insF_keys]
  have := congrArg (List.map PyData.str) e
  simpa [List.map_map, Function.comp_def] using this
def eFld (f : Str) (e : FE) : FE := fun ρ S => (e ρ S).bind fun d S1 => match fldOf S1 f d with
  | some x => .ok (.p x) S1
  | none => .bad
/-- a tuple as a first key: an instance -/
theorem dn_ins {K : PySem.W.Frag} {φ : List (Addr × HO)} {H : Hp} {ks : List PyData} {y : PyData} {r : List (PyData × PyData)} {v : V} (h : Dn K φ H (.dict ((.tuple ks, y) :: r)) v) : ∃ a C nm ws, v = .ref a ∧ ks = [.str nm, .int hugeI] ∧ InsAt K φ a C ws ∧ clsOf K nm = .ref C ∧ r.map (·.1) = ws.map (fun p => PyData.str p.1) ∧ DnAll K φ H (r.map (·.2)) (ws.map (·.2)) := by
  cases h with
  | dic f e t =>
    have := keys_noT e
    simp [insL] at this
  | ins f c e t => exact ⟨_, _, _, _, rfl, rfl, f, c, e, t⟩
section
variable {X : Cx} {W : WX} {e : Expr} {fe : FE} {f : Str} {pos p pT : Pos}
theorem get_ins {pins : List (Addr × Obj)} {σ : L2.St} {H : Hp} {s : Shared} {φ : List (Addr × HO)} {a C : Addr} {ws : List (Str × V)} {v : V} {Q : VK} {b : Bool} (I : Inv X pins σ H s) (hφ : Holds φ H) (h : InsAt X.K φ a C ws) (hl : ws.lookup f = some v) (hm : (f, v) ∈ ws) (q : Q v H) : wpAny (model X.prog X.w) X.A (getAttr (.ref a) f b) (EP X pins σ Q) X.xe s := by
  cases h with
  | pl h c na => exact getattr_ok I (hφ _ h) c.cl (na _ hm) hl fun u s' I' ru => ⟨v, H, I', ru, q⟩
  | ex0 h c => cases hl
  | ex h1 h2 c na =>
    rename_i dx
    obtain ⟨t1, ho⟩ := exo_at I.hok (hφ _ h1)
    obtain ⟨mA, hns, hr⟩ := exd_at I.hok (hφ _ h2)
    obtain ⟨od, hod, hlk⟩ := lookIn_ns hns
    obtain ⟨u, hu, ru⟩ := RelO.some_of (v := v) (o := mA f) (by rw [← hl]; exact hr f)
    have J : PySem.W.InstAt s.heap a { cls := .ref C, dict := some dx, data := .fields #[.ref t1, .none, .none, .none, .bool false, .none] } C (some od) := ⟨ho, rfl, rfl, hod⟩
    exact HandSPX.exc_get I.kIn J c.ex.hg c.ex.hk c.ex.hs (PySem.W.findObj_own c.ex.hd (na _ hm) rfl (by rw [hlk, hu])) (handed_of ru) ⟨v, H, I.tok _, ru, q⟩
theorem de_fld (he : DE X W e fe) (hb : attributeBase e f X.env (eval e X.env) = eval e X.env := by rfl) : DE X W (.Attribute e f pos) (eFld f fe) := by
  refine ⟨⟨fun pins s σ H Q I ⟨G, S, ρ, rs, rp, h⟩ => ?_⟩⟩
  have h2 : rd X.K W fe σ H (fun x H1 => ∃ a v, x = .ref a ∧ Q v H1 ∧ ((∃ φ C ws, Holds φ H1 ∧ InsAt X.K φ a C ws ∧ ws.lookup f = some v ∧ (f, v) ∈ ws) ∨ ∃ C dx ws, H1 a = some (.ins C dx ws) ∧ PlC X.K C ∧ NoAttr X.K C f ∧ ws.lookup f = some v)) := by
    refine ⟨G, S, ρ, rs, rp, (Aft.bind h).mono fun d H1 G1 S1 x1 r1 q1 v dv => ?_⟩
    cases eo : fldOf S1 f d with
    | none => rw [eo] at q1; exact q1.elim
    | some y =>
      rw [eo] at q1
      unfold fldOf at eo
      split at eo
      · rename_i ks z r
        obtain ⟨a, C, nm, ws, rfl, _, ia, _, ek, t⟩ := dn_ins dv
        obtain ⟨w, l1, l2, l3⟩ := kv_look ek t eo
        exact ⟨a, w, rfl, q1.ret r1 l2, .inl ⟨G1.φ, C, ws, r1.phi, ia, l1, l3⟩⟩
      · rename_i i
        split at eo
        · rename_i nm fs ei
          obtain ⟨a, rfl, ha⟩ := dv
          obtain ⟨C, dx, ws, c, pc, na, e1, e2, t⟩ := r1.ok i a _ ha ei
          obtain ⟨w, l1, l2, l3⟩ := fs_look e2 t eo
          exact ⟨a, w, rfl, q1.ret r1 l2, .inr ⟨C, dx, ws, e1, pc, na _ l3, l1⟩⟩
        · cases eo
      · cases eo
  refine attr_of hb (thn (he.run.run pins s σ H _ I h2) fun u s1 ⟨x, H1, I1, rx, a, v, ex, q, hh⟩ => ?_)
  subst ex
  obtain rfl : u = Value.ref a := rx
  rcases hh with ⟨φ, C, ws, hφ, ia, l1, l3⟩ | ⟨C, dx, ws, e1, pc, na, l1⟩
  · exact get_ins I1 hφ ia l1 l3 q
  · exact getattr_ok I1 e1 pc.cl na l1 fun u s' I' ru => ⟨v, H1, I', ru, q⟩
def tyNames : List String := ["NoneType", "bool", "int", "str", "list", "tuple", "dict"]
theorem tyP_mem (x : PyData) : tyP x ∈ tyNames := by cases x <;> simp [tyP, tyNames]
def isiTab (K : PySem.W.Frag) (cv : Value) (names : List Str) (tb : Str → Bool) : Bool := (names.all fun nm => decide (PySem.W.kitOne K (clsOf K nm) cv = some (tb nm))) && tyNames.all fun t => decide (PySem.W.kitOne K (.type t) cv = some false)
def isiC (names : List Str) (tb : Str → Bool) : D → M D := fun d S => match d with
  | .p (.dict ((.tuple (.str nm :: _), _) :: _)) => if names.contains nm then .ok (.p (.bool (tb nm))) S else .bad
  | .p x => if insX x then .bad else .ok (.p (.bool false)) S
  | _ => .bad
theorem isiC_ins {names : List Str} {tb : Str → Bool} {nm : Str} {fs : List (Str × PyData)} {S : Sto} (h : names.contains nm = true) : isiC names tb (.p (insD nm fs)) S = .ok (.p (.bool (tb nm))) S := by simp only [isiC, insD, if_pos h]
theorem isiC_p {names : List Str} {tb : Str → Bool} {x : PyData} {S : Sto} (h : insX x = false) : isiC names tb (.p x) S = .ok (.p (.bool false)) S := by
  unfold isiC
  split
  · rename_i e; cases e; simp [insX, insL] at h
  · rename_i e; cases e; simp [h]
  · rename_i h1 h2; exact absurd rfl (h2 x)
def rIsiC (K : PySem.W.Frag) (c : V) (names : List Str) (tb : Str → Bool) : List V → Hp → VK → Prop := fun xs H Q => ∃ v x φ b, xs = [v, c] ∧ Holds φ H ∧ Dn K φ H x v ∧ isiC names tb (.p x) [] = .ok (.p (.bool b)) [] ∧ Q (.bl b) H
theorem call_isiC {c : V} {cv : Value} {names : List Str} {tb : Str → Bool} (hc : ∀ u, RelV c u → u = cv) (ht : isiTab X.K cv names tb = true) : CallR X (.builtin "isinstance") (rIsiC X.K c names tb) := by
  intro pins s σ H xs us Q I r h
  obtain ⟨v, x, φ, b, rfl, hφ, dn, hi, q⟩ := h
  unfold isiTab at ht
  rw [Bool.and_eq_true, List.all_eq_true, List.all_eq_true] at ht
  obtain ⟨t1, t2⟩ := ht
  obtain ⟨u1, u2, rfl, r1, r2⟩ := vals2 r
  have ec := hc _ r2
  subst ec
  rcases ty_dn hφ dn with ⟨hx, ty⟩ | ⟨a, C, nm, ws, kvs, rfl, rfl, ia, hcl, _⟩
  · rw [isiC_p hx] at hi
    cases hi
    obtain ⟨P, Z, p, hx⟩ := L2.kit_of I r1 ty
    exact PySem.W.kia_one Z I.kIn p (of_decide_eq_true (t2 _ (tyP_mem x))) hx fun tk => ⟨.bl false, H, I.tok tk, rfl, q⟩
  · cases r1
    unfold isiC at hi
    dsimp only at hi
    by_cases hn : names.contains nm = true
    · rw [if_pos hn] at hi
      cases hi
      obtain ⟨no, P, Z, p⟩ := kit_ins I hφ ia
      have hk := of_decide_eq_true (t1 nm (by simpa using hn))
      rw [hcl] at hk
      exact PySem.W.kia_one Z I.kIn p hk (fun z => nomatch z) fun tk => ⟨.bl _, H, I.tok tk, rfl, q⟩
    · rw [if_neg hn] at hi; cases hi
theorem isiC_out {names : List Str} {tb : Str → Bool} {d : D} {S : Sto} {o : D} {S' : Sto} (h : isiC names tb d S = .ok o S') : ∃ x b, d = .p x ∧ o = .p (.bool b) ∧ S' = S ∧ ∀ S0, isiC names tb (.p x) S0 = .ok (.p (.bool b)) S0 := by
  unfold isiC at h
  split at h
  · rename_i nm ks y r
    by_cases hn : names.contains nm = true
    · rw [if_pos hn] at h; cases h
      exact ⟨_, _, rfl, rfl, rfl, fun S0 => by unfold isiC; dsimp only; rw [if_pos hn]⟩
    · rw [if_neg hn] at h; cases h
  · rename_i x h1
    by_cases hx : insX x = true
    · rw [if_pos hx] at h; cases h
    · rw [if_neg hx] at h; cases h
      exact ⟨x, false, rfl, rfl, rfl, fun S0 => isiC_p (by simpa using hx)⟩
  · cases h
theorem de_isiOwn {x : Str} {C : Addr} {names : List Str} {tb : Str → Bool} (ht : isiTab X.K (.ref C) names tb = true) (hg : Gl X "isinstance") (hm : X.mg "isinstance" = none) (hgT : Gl X x) (hmT : X.mg x = some (.ref C)) (ha : DE X W e fe) (hdT : (x == ("__debug__" : Str)) = false := by decide)
    (he : starEach [e, .Name x pT] X.env = (false, eval e X.env) :: starEach [.Name x pT] X.env := by rfl) (hpl : (backTo pos (starEach [.Name x pT] X.env)).any (·.1) = false := by rfl) (he2 : starEach [.Name x pT] X.env = (false, eval (.Name x pT) X.env) :: starEach [] X.env := by rfl) :
    DE X W (.Call (.Name "isinstance" p) [e, .Name x pT] [] pos) (e1 (isiC names tb) fe) := by
  refine ⟨PE.imp (pe_callB (call_isiC (c := .ref C) (fun u h => h) ht) hg hm (by decide +kernel) (pa_cons ha.run (pa_cons (pe_glob (v := .ref C) hgT hmT rfl hdT) pa_nil he2) he) (by decide) (by decide) he hpl) fun σ H Q ⟨G, S, ρ, rs, rp, q⟩ => ?_⟩
  refine ⟨G, S, ρ, rs, rp, (Aft.bind q).mono fun d H1 G1 S1 x1 r1 q1 v dv => ?_⟩
  cases eo : isiC names tb d S1 with
  | bad => rw [eo] at q1; exact q1.elim
  | err y S2 => unfold isiC at eo; (repeat' split at eo) <;> cases eo
  | ok o S2 =>
    rw [eo] at q1
    obtain ⟨y, b, rfl, rfl, rfl, hi⟩ := isiC_out eo
    exact ⟨v, y, G1.φ, b, rfl, r1.phi, dv, hi [], q1.ret r1 (.bl _)⟩
theorem de_isiBlt {B : String} {names : List Str} {tb : Str → Bool} (ht : isiTab X.K (.type B) names tb = true) (hg : Gl X "isinstance") (hm : X.mg "isinstance" = none) (hgT : Gl X (B : Str)) (hmT : X.mg (B : Str) = none) (hvT : bootBuiltins (B : Str) = some (.type B)) (ha : DE X W e fe) (hnT : (B : Str) ≠ "__name__" := by decide) (hdT : ((B : Str) == ("__debug__" : Str)) = false := by decide)
    (he : starEach [e, .Name (B : Str) pT] X.env = (false, eval e X.env) :: starEach [.Name (B : Str) pT] X.env := by rfl) (hpl : (backTo pos (starEach [.Name (B : Str) pT] X.env)).any (·.1) = false := by rfl) (he2 : starEach [.Name (B : Str) pT] X.env = (false, eval (.Name (B : Str) pT) X.env) :: starEach [] X.env := by rfl) :
    DE X W (.Call (.Name "isinstance" p) [e, .Name (B : Str) pT] [] pos) (e1 (isiC names tb) fe) := by
  refine ⟨PE.imp (pe_callB (call_isiC (c := .ty B) (fun u h => h) ht) hg hm (by decide +kernel) (pa_cons ha.run (pa_cons (pe_bltn (v := .ty B) hgT hmT hvT rfl hnT hdT) pa_nil he2) he) (by decide) (by decide) he hpl) fun σ H Q ⟨G, S, ρ, rs, rp, q⟩ => ?_⟩
  refine ⟨G, S, ρ, rs, rp, (Aft.bind q).mono fun d H1 G1 S1 x1 r1 q1 v dv => ?_⟩
  cases eo : isiC names tb d S1 with
  | bad => rw [eo] at q1; exact q1.elim
  | err y S2 => unfold isiC at eo; (repeat' split at eo) <;> cases eo
  | ok o S2 =>
    rw [eo] at q1
    obtain ⟨y, b, rfl, rfl, rfl, hi⟩ := isiC_out eo
    exact ⟨v, y, G1.φ, b, rfl, r1.phi, dv, hi [], q1.ret r1 (.bl _)⟩
end
@[simp] theorem eFld_ {f : Str} {e : FE} {ρ : Ev} {S : Sto} : eFld f e ρ S = (e ρ S).bind fun d S1 => match fldOf S1 f d with
  | some x => .ok (.p x) S1
  | none => .bad := rfl
end DL
namespace DL
open PySem L2 PySem.Spec PyProof.Rows
def excObjB (K : PySem.W.Frag) (C : Addr) (bm : List Value) (newId : String) : Bool := match K.lookup C with
  | some ⟨.type "type", _, .cls cd, sl⟩ => (match cd.mro, sl.toList with
    | .ref C' :: b, [_, _, _, _, some (.builtin n), _] => decide (C' = C) && decide (b = bm) && decide (n = newId) && !cd.hasDel && cd.hasDict
    | _, _ => false)
  | _ => false
theorem excObjB_ok {K : PySem.W.Frag} {C : Addr} {bm : List Value} {newId : String} (q : excObjB K C bm newId = true) : ∃ nm qn N bs sn sub ab col dd k0 k1 k2 k3 k5, K.lookup C = some (excClassObj nm qn C N bs bm true sn sub ab col dd k0 k1 k2 k3 k5 newId) := by
  unfold excObjB at q
  split at q
  · rename_i dd cd sl ho
    split at q
    · rename_i C' b k0 k1 k2 k3 n k5 hm hs
      simp only [Bool.and_eq_true, decide_eq_true_eq, Bool.not_eq_true'] at q
      obtain ⟨⟨⟨⟨rfl, rfl⟩, rfl⟩, hdel⟩, hdc⟩ := q
      obtain ⟨nm, bs, mro, ns, qn, hd, sn, sub, ab, col, del⟩ := cd
      dsimp only at hm hdel hdc
      subst hm hdel hdc
      obtain ⟨l⟩ := sl
      simp only at hs
      subst hs
      exact ⟨nm, qn, ns, bs, sn, sub, ab, col, dd, k0, k1, k2, k3, k5, ho⟩
    · cases q
  · cases q
def notTB (K : PySem.W.Frag) (C : Addr) : Bool := ["str", "tuple", "int", "bool", "list", "dict"].all fun T => decide (PySem.W.kitOne K (.ref C) (.type T) = some false)
theorem notTB_ok {K : PySem.W.Frag} {C : Addr} (h : notTB K C = true) : NotT K C := fun T hT => of_decide_eq_true (List.all_eq_true.mp h T hT)
def excCB (K : PySem.W.Frag) (C : Addr) : Bool := xfB K C && (decide (PySem.W.findIn K (.ref C) "__class__" = some (some (.builtin "object.__class__"))) && (decide (PySem.W.specialIn K (.builtin "object.__class__") "__get__" = some (some (.builtin "getset_descriptor.__get__"))) && (decide (PySem.W.takesIn K (.builtin "object.__class__") = some true) && (decide (PySem.W.mroIn K C (.type "object") = some true) && notTB K C))))
theorem excCB_ok {K : PySem.W.Frag} {C : Addr} (h : excCB K C = true) : ExC K C := by
  simp only [excCB, Bool.and_eq_true, decide_eq_true_eq] at h
  obtain ⟨h1, h2, h3, h4, h5, h6⟩ := h
  have x := xfB_ok h1
  exact ⟨⟨x.ga, x.gg, x.exC, x.hdC, h2, h3, h4, h5⟩, notTB_ok h6⟩
def chkXv (K : PySem.W.Frag) (C fI : Addr) (B newId : String) (flds : List Str) : Bool :=
  excObjB K C (bmOf B) newId && (decide (PySem.W.findIn K (.ref C) "__setattr__" = some (some (.builtin "object.__setattr__"))) && (decide (PySem.W.subIn K (.ref C) (.type "BaseException") = some true) && (decide (PySem.W.typeIn K (.ref C) = some (.type "type")) && (PySem.W.keepIn K (.ref C) &&
  (((("" : Str)) :: flds).all (fun f => decide (PySem.W.findIn K (.ref C) f = some none)) && (decide (PySem.W.findIn K (.ref C) "__init__" = some (some (.ref fI))) && (decide (PySem.W.typeIn K (.ref fI) = some (.type "function")) && excCB K C)))))))
structure XVal (K : PySem.W.Frag) (mg : Str → Option Value) (x : Str) (B newId initId : String) (flds ps : List Str) (st : Stmt) (C fI : Addr) (fd : FuncData) : Prop where
  cls : ∀ f ∈ ("" : Str) :: flds, XCls K C newId (bmOf B) f
  hcl : clsOf K x = .ref C
  m : mg x = some (.ref C)
  iC : PySem.W.findIn K (.ref C) "__init__" = some (some (.ref fI))
  tI : PySem.W.typeIn K (.ref fI) = some (.type "function")
  fn : Fun K "__init__" (x ++ ".__init__") st fI fd
  b : Binds K fd ("self" :: ps) []
  mB : mg (B : Str) = none
  vV : PySem.W.findCls K (.type B) (.type "type") "__init__" = some (.val (.builtin initId))
  ec : ExC K C
  na : ∀ f ∈ flds, NoAttr K C f
theorem xval_mk {K : PySem.W.Frag} {mg : Str → Option Value} {x : Str} {B newId initId : String} {flds ps : List Str} {st : Stmt} {C fI : Addr} {fd : FuncData} {h : Heap} (X : K.In h) (G : h.Ns mainGlobals mg) (xa : PySem.W.nsIn K mainGlobals x = some (some (.ref C))) (q : chkXv K C fI B newId flds = true)
    (fn : Fun K "__init__" (x ++ ".__init__") st fI fd) (b : Binds K fd ("self" :: ps) []) (xp : PySem.W.nsIn K mainGlobals (B : Str) = some none) (vV : PySem.W.findCls K (.type B) (.type "type") "__init__" = some (.val (.builtin initId))) : XVal K mg x B newId initId flds ps st C fI fd := by
  simp only [chkXv, Bool.and_eq_true, decide_eq_true_eq] at q
  obtain ⟨q1, q2, q3, q4, q5, q6, q7, q8, q9⟩ := q
  rw [List.all_eq_true] at q6
  have na : ∀ f ∈ ("" : Str) :: flds, PySem.W.findIn K (.ref C) f = some none := fun f hf => of_decide_eq_true (q6 f hf)
  exact ⟨fun f hf => ⟨excObjB_ok q1, q2, q3, q4, q5, na f hf⟩, clsOf_of xa, PySem.W.mg_of X G xa, q7, q8, fn, b, PySem.W.mg_none_of X G xp, vV, excCB_ok q9, fun f hf => na f (List.mem_cons_of_mem _ hf)⟩
end DL
namespace K01
open PySem L2 DL
inductive Fn where
  | f_begin_l
  | f_draw_l
  | f_pick_l
  | f_odd_l
  | f_errors_a_l
  | f_errors_b_l
  | f_errors_c_l
  | f_flags_l
  | f_sorts_l
  | f_law
def insNames : List Str := [("InvalidForm" : Str), ("InvalidDeclaration" : Str), ("InvalidPicks" : Str), ("Repeated" : Str), ("BadArms" : Str), ("Misshapen" : Str), ("RoleRing" : Str), ("BadMembers" : Str), ("Grows" : Str), ("Uncovered" : Str), ("Underivable" : Str), ("Clash" : Str), ("Unsupported" : Str), ("Improper" : Str), ("InvalidKind" : Str), ("InvalidNeed" : Str), ("InvalidScheme" : Str), ("InvalidCount" : Str), ("InvalidValue" : Str), ("InvalidLimit" : Str), ("InvalidMarked" : Str), ("InvalidText" : Str), ("InvalidDeed" : Str), ("InvalidGuard" : Str), ("NotClosed" : Str), ("Unknown" : Str), ("UnknownName" : Str), ("OutOfTerm" : Str), ("NoPrimitive" : Str), ("NoDefinition" : Str), ("NoCore" : Str), ("Unmet" : Str), ("OutOfRange" : Str), ("Known" : Str), ("Missing" : Str), ("Faulty" : Str), ("Wrong" : Str), ("Broken" : Str)]
def insOver_RuntimeError : List Str := [("Faulty" : Str), ("Wrong" : Str), ("Broken" : Str)]
def insOver_LookupError : List Str := [("Unknown" : Str), ("UnknownName" : Str), ("OutOfTerm" : Str), ("NoPrimitive" : Str), ("NoDefinition" : Str), ("NoCore" : Str), ("Unmet" : Str), ("OutOfRange" : Str), ("Known" : Str), ("Missing" : Str)]
def insOver_ValueError : List Str := [("InvalidForm" : Str), ("InvalidDeclaration" : Str), ("InvalidPicks" : Str), ("Repeated" : Str), ("BadArms" : Str), ("Misshapen" : Str), ("RoleRing" : Str), ("BadMembers" : Str), ("Grows" : Str), ("Uncovered" : Str), ("Underivable" : Str), ("Clash" : Str), ("Unsupported" : Str), ("Improper" : Str), ("InvalidKind" : Str), ("InvalidNeed" : Str), ("InvalidScheme" : Str), ("InvalidCount" : Str), ("InvalidValue" : Str), ("InvalidLimit" : Str), ("InvalidMarked" : Str), ("InvalidText" : Str), ("InvalidDeed" : Str), ("InvalidGuard" : Str), ("NotClosed" : Str)]
def b_f_begin_l (r : Fn → List D → M D) : FS :=
    (sRet (eDisp [((eC (.p (.str "cells"))), (eOr (eSli (eVar 0) oNone (oSome (eC (.p (.int 63))))) (eA mkLst (aCons (eC (.p (.int 0))) aNil)))), ((eC (.p (.str "place"))), (eC (.p (.int 0)))), ((eC (.p (.str "left"))), (eC (.p (.int 0))))] finDM))
def f_draw_l_1 (r : Fn → List D → M D) : FS :=
    (sSeq (sAsgs (aCons (e2 opMod (eA intM (aCons (e2 opSubs (eVar 0) (eC (.p (.str "left")))) aNil)) (eVar 1)) (aCons (e2 opDivX (e2 opSubs (eVar 0) (eC (.p (.str "left")))) (eVar 1)) aNil)) (gConss (gN 2) (gConss (gSubD (eVar 0) (eC (.p (.str "left")))) gNils)))
    (sRet (eVar 2)))
def b_f_draw_l (r : Fn → List D → M D) : FS :=
    (sSeq (sIf (tC2 (opLt) (e2 opSubs (eVar 0) (eC (.p (.str "left")))) (eVar 1)) (sSeq (sAsgs (aCons (e2 opSubs (eVar 0) (eC (.p (.str "place")))) (aCons (eA lenM (aCons (e2 opSubs (eVar 0) (eC (.p (.str "cells")))) aNil)) aNil)) (gConss (gN 3) (gConss (gN 4) gNils)))
    (sSeq (sAsgs (aCons (e2 opSubs (e2 opSubs (eVar 0) (eC (.p (.str "cells")))) (e2 opMod (eA intM (aCons (eVar 3) aNil)) (eVar 4))) (aCons (e2 opAdd (eVar 3) (eC (.p (.int 1)))) aNil)) (gConss (gN 5) (gConss (gSubD (eVar 0) (eC (.p (.str "place")))) gNils)))
    (sSeq (sAsg (e2 opMod (eA intM (aCons (e2 opPow (e2 opAdd (e2 opAdd (e2 opMod (eA intM (aCons (eVar 5) aNil)) (eC (.p (.int 2147483587)))) (e2 opMulX (eC (.p (.int 48271))) (eVar 3))) (eC (.p (.int 16807)))) (eC (.p (.int 13)))) aNil)) (e2 opAdd (e2 opPow (eC (.p (.int 10))) (eC (.p (.int 50)))) (eC (.p (.int 57))))) (gSubD (eVar 0) (eC (.p (.str "left")))))
    (sIf (tAndD (tC2 (opGe) (eVar 5) (e2 opPow (eC (.p (.int 10))) (eC (.p (.int 18))))) (tC2 (opLt) (eVar 3) (eVar 4))) (sAsg (e2 opSub (eVar 5) (e2 opPow (eC (.p (.int 10))) (eC (.p (.int 18))))) (gSubD (eVar 0) (eC (.p (.str "left"))))) sNext)))) sNext)
    (f_draw_l_1 r))
def b_f_pick_l (r : Fn → List D → M D) : FS :=
    (sRet (e2 opSubs (eVar 1) (eCallX 2 (r .f_draw_l) (aCons (eVar 0) (aCons (eA lenM (aCons (eVar 1) aNil)) aNil)))))
def b_f_odd_l (r : Fn → List D → M D) : FS :=
    (sSeq (sSet 1 (eA mkLst (aCons (eC (.p .none)) (aCons (eC (.p (.bool true))) (aCons (eC (.p (.bool false))) (aCons (eC (.p (.int 0))) (aCons (eC (.p (.int 1))) (aCons (e1 opNeg (eC (.p (.int 1)))) (aCons (eC (.p (.int 7))) (aCons (e2 opPow (eC (.p (.int 10))) (eC (.p (.int 40)))) (aCons (eC (.p (.str ""))) (aCons (eC (.p (.str "a"))) (aCons (eC (.p (.str "self"))) (aCons (eC (.p (.str "data"))) (aCons (eC (.p (.str "A"))) (aCons (eC (.p (.str "a b"))) (aCons (eC (.p (.str "whole"))) (aCons (eA mkTup aNil) (aCons (eA mkLst aNil) (aCons (fun _ S => .ok (.p (.dict [])) S) (aCons (eA mkTup (aCons (eC (.p (.str "a"))) aNil)) aNil)))))))))))))))))))))
    (sSeq (sSet 1 (e2 opAddX (eVar 1) (eA mkLst (aCons (eA mkLst (aCons (eC (.p (.str "a"))) aNil)) (aCons (eA mkTup (aCons (eC (.p (.int 0))) aNil)) (aCons (eA mkTup (aCons (eC (.p (.int 1))) (aCons (eC (.p (.int 2))) aNil))) (aCons (eA mkLst (aCons (eC (.p (.int 0))) aNil)) (aCons (eA mkTup (aCons (eA mkTup (aCons (eC (.p (.str "a"))) aNil)) aNil)) (aCons (eDisp [((eC (.p (.str "a"))), (eC (.p (.int 1))))] finDL) (aCons (eA mkTup (aCons (eC (.p (.str "var"))) (aCons (eC (.p (.str "a"))) aNil))) (aCons (eA mkTup (aCons (eC (.p (.str "con"))) (aCons (eC (.p (.str "whole"))) aNil))) (aCons (eA mkTup (aCons (eC (.p (.str "name"))) (aCons (eC (.p (.str "a"))) aNil))) (aCons (eA mkTup (aCons (eC (.p .none)) aNil)) aNil)))))))))))))
    (sSeq (sSet 1 (e2 opAddX (eVar 1) (eA mkLst (aCons (eA mkTup (aCons (eC (.p (.str "apply"))) (aCons (eA mkTup (aCons (eC (.p (.str "con"))) (aCons (eC (.p (.str "to"))) aNil))) aNil))) (aCons (eA mkTup (aCons (eC (.p (.str "var"))) (aCons (eC (.p (.int 1))) aNil))) (aCons (eC (.p (.str "abcdefghi"))) (aCons (eA mkTup (aCons (eC (.p (.int 1))) (aCons (eC (.p (.int 1))) aNil))) (aCons (eA mkTup (aCons (eC (.p (.str "whole"))) (aCons (eC (.p (.bool true))) aNil))) (aCons (eA mkLst (aCons (eA mkTup aNil) aNil)) (aCons (eC (.p (.int 3))) (aCons (eA mkTup (aCons (eC (.p (.str "same"))) (aCons (eA mkTup aNil) aNil))) aNil)))))))))))
    (sRet (eCallX 2 (r .f_pick_l) (aCons (eVar 0) (aCons (e2 opAddX (eVar 1) (eA mkLst (aCons (eA mkTup (aCons (eC (.p (.str "given"))) (aCons (eC (.p (.int 0))) (aCons (eA mkTup aNil) aNil)))) (aCons (eA mkTup (aCons (eC (.p (.str "case"))) (aCons (eC (.p (.str "a"))) (aCons (eA mkTup aNil) aNil)))) (aCons (eA mkTup (aCons (eC (.p (.str "whole"))) (aCons (eC (.p (.int 1))) aNil))) (aCons (eA mkTup (aCons (eC (.p (.str "hole"))) aNil)) (aCons (eA mkTup (aCons (eC (.p (.str "definition"))) (aCons (eC (.p (.str "a"))) aNil))) (aCons (fun _ S => .ok (.p (.dict [])) S) aNil)))))))) aNil)))))))
def b_f_errors_a_l (r : Fn → List D → M D) : FS :=
    (sSeq (sSet 2 (eA mkLstM aNil))
    (sSeq (sAsgs (aCons (eA (mkIns "InvalidForm" ["word"]) (aCons (eVar 0) aNil)) (aCons (eA (mkIns "InvalidForm" ["word"]) (aCons (eVar 0) aNil)) aNil)) (gConss (gN 3) (gConss (gN 4) gNils)))
    (sSeq (sExpr (eLm appendM (eVar 2) (aCons (eA mkTup (aCons (eVar 3) (aCons (eA mkLst (aCons (eFld "word" (eVar 3)) (aCons (eFld "word" (eVar 4)) aNil))) (aCons (eA mkLst (aCons (eVar 0) (aCons (eVar 0) aNil))) (aCons (eC (.p (.str "value"))) aNil))))) aNil)))
    (sSeq (sAsgs (aCons (eA (mkIns "InvalidDeclaration" ["index"]) (aCons (eVar 0) aNil)) (aCons (eA (mkIns "InvalidDeclaration" ["index"]) (aCons (eVar 0) aNil)) aNil)) (gConss (gN 3) (gConss (gN 4) gNils)))
    (sSeq (sExpr (eLm appendM (eVar 2) (aCons (eA mkTup (aCons (eVar 3) (aCons (eA mkLst (aCons (eFld "index" (eVar 3)) (aCons (eFld "index" (eVar 4)) aNil))) (aCons (eA mkLst (aCons (eVar 0) (aCons (eVar 0) aNil))) (aCons (eC (.p (.str "value"))) aNil))))) aNil)))
    (sSeq (sAsgs (aCons (eA (mkIns "InvalidPicks" []) aNil) (aCons (eA (mkIns "InvalidPicks" []) aNil) aNil)) (gConss (gN 3) (gConss (gN 4) gNils)))
    (sSeq (sExpr (eLm appendM (eVar 2) (aCons (eA mkTup (aCons (eVar 3) (aCons (eA mkLst aNil) (aCons (eA mkLst aNil) (aCons (eC (.p (.str "value"))) aNil))))) aNil)))
    (sSeq (sAsgs (aCons (eA (mkIns "Repeated" ["index"]) (aCons (eVar 0) aNil)) (aCons (eA (mkIns "Repeated" ["index"]) (aCons (eVar 0) aNil)) aNil)) (gConss (gN 3) (gConss (gN 4) gNils)))
    (sSeq (sExpr (eLm appendM (eVar 2) (aCons (eA mkTup (aCons (eVar 3) (aCons (eA mkLst (aCons (eFld "index" (eVar 3)) (aCons (eFld "index" (eVar 4)) aNil))) (aCons (eA mkLst (aCons (eVar 0) (aCons (eVar 0) aNil))) (aCons (eC (.p (.str "value"))) aNil))))) aNil)))
    (sSeq (sAsgs (aCons (eA (mkIns "BadArms" ["index"]) (aCons (eVar 0) aNil)) (aCons (eA (mkIns "BadArms" ["index"]) (aCons (eVar 0) aNil)) aNil)) (gConss (gN 3) (gConss (gN 4) gNils)))
    (sSeq (sExpr (eLm appendM (eVar 2) (aCons (eA mkTup (aCons (eVar 3) (aCons (eA mkLst (aCons (eFld "index" (eVar 3)) (aCons (eFld "index" (eVar 4)) aNil))) (aCons (eA mkLst (aCons (eVar 0) (aCons (eVar 0) aNil))) (aCons (eC (.p (.str "value"))) aNil))))) aNil)))
    (sSeq (sAsgs (aCons (eA (mkIns "Misshapen" ["index"]) (aCons (eVar 0) aNil)) (aCons (eA (mkIns "Misshapen" ["index"]) (aCons (eVar 0) aNil)) aNil)) (gConss (gN 3) (gConss (gN 4) gNils)))
    (sSeq (sExpr (eLm appendM (eVar 2) (aCons (eA mkTup (aCons (eVar 3) (aCons (eA mkLst (aCons (eFld "index" (eVar 3)) (aCons (eFld "index" (eVar 4)) aNil))) (aCons (eA mkLst (aCons (eVar 0) (aCons (eVar 0) aNil))) (aCons (eC (.p (.str "value"))) aNil))))) aNil)))
    (sSeq (sAsgs (aCons (eA (mkIns "RoleRing" ["index"]) (aCons (eVar 0) aNil)) (aCons (eA (mkIns "RoleRing" ["index"]) (aCons (eVar 0) aNil)) aNil)) (gConss (gN 3) (gConss (gN 4) gNils)))
    (sSeq (sExpr (eLm appendM (eVar 2) (aCons (eA mkTup (aCons (eVar 3) (aCons (eA mkLst (aCons (eFld "index" (eVar 3)) (aCons (eFld "index" (eVar 4)) aNil))) (aCons (eA mkLst (aCons (eVar 0) (aCons (eVar 0) aNil))) (aCons (eC (.p (.str "value"))) aNil))))) aNil)))
    (sSeq (sAsgs (aCons (eA (mkIns "BadMembers" ["index"]) (aCons (eVar 0) aNil)) (aCons (eA (mkIns "BadMembers" ["index"]) (aCons (eVar 0) aNil)) aNil)) (gConss (gN 3) (gConss (gN 4) gNils)))
    (sSeq (sExpr (eLm appendM (eVar 2) (aCons (eA mkTup (aCons (eVar 3) (aCons (eA mkLst (aCons (eFld "index" (eVar 3)) (aCons (eFld "index" (eVar 4)) aNil))) (aCons (eA mkLst (aCons (eVar 0) (aCons (eVar 0) aNil))) (aCons (eC (.p (.str "value"))) aNil))))) aNil)))
    (sSeq (sAsgs (aCons (eA (mkIns "Grows" ["index", "need"]) (aCons (eVar 0) (aCons (eVar 1) aNil))) (aCons (eA (mkIns "Grows" ["index", "need"]) (aRev (aCons (eVar 1) (aCons (eVar 0) aNil)))) aNil)) (gConss (gN 3) (gConss (gN 4) gNils)))
    (sSeq (sExpr (eLm appendM (eVar 2) (aCons (eA mkTup (aCons (eVar 3) (aCons (eA mkLst (aCons (eFld "index" (eVar 3)) (aCons (eFld "need" (eVar 3)) (aCons (eFld "index" (eVar 4)) (aCons (eFld "need" (eVar 4)) aNil))))) (aCons (eA mkLst (aCons (eVar 0) (aCons (eVar 1) (aCons (eVar 0) (aCons (eVar 1) aNil))))) (aCons (eC (.p (.str "value"))) aNil))))) aNil)))
    (sSeq (sAsgs (aCons (eA (mkIns "Uncovered" ["index"]) (aCons (eVar 0) aNil)) (aCons (eA (mkIns "Uncovered" ["index"]) (aCons (eVar 0) aNil)) aNil)) (gConss (gN 3) (gConss (gN 4) gNils)))
    (sSeq (sExpr (eLm appendM (eVar 2) (aCons (eA mkTup (aCons (eVar 3) (aCons (eA mkLst (aCons (eFld "index" (eVar 3)) (aCons (eFld "index" (eVar 4)) aNil))) (aCons (eA mkLst (aCons (eVar 0) (aCons (eVar 0) aNil))) (aCons (eC (.p (.str "value"))) aNil))))) aNil)))
    (sSeq (sAsgs (aCons (eA (mkIns "Underivable" ["word", "need"]) (aCons (eVar 0) (aCons (eVar 1) aNil))) (aCons (eA (mkIns "Underivable" ["word", "need"]) (aRev (aCons (eVar 1) (aCons (eVar 0) aNil)))) aNil)) (gConss (gN 3) (gConss (gN 4) gNils)))
    (sSeq (sExpr (eLm appendM (eVar 2) (aCons (eA mkTup (aCons (eVar 3) (aCons (eA mkLst (aCons (eFld "word" (eVar 3)) (aCons (eFld "need" (eVar 3)) (aCons (eFld "word" (eVar 4)) (aCons (eFld "need" (eVar 4)) aNil))))) (aCons (eA mkLst (aCons (eVar 0) (aCons (eVar 1) (aCons (eVar 0) (aCons (eVar 1) aNil))))) (aCons (eC (.p (.str "value"))) aNil))))) aNil)))
    (sSeq (sAsgs (aCons (eA (mkIns "Clash" ["index", "other"]) (aCons (eVar 0) (aCons (eVar 1) aNil))) (aCons (eA (mkIns "Clash" ["index", "other"]) (aRev (aCons (eVar 1) (aCons (eVar 0) aNil)))) aNil)) (gConss (gN 3) (gConss (gN 4) gNils)))
    (sSeq (sExpr (eLm appendM (eVar 2) (aCons (eA mkTup (aCons (eVar 3) (aCons (eA mkLst (aCons (eFld "index" (eVar 3)) (aCons (eFld "other" (eVar 3)) (aCons (eFld "index" (eVar 4)) (aCons (eFld "other" (eVar 4)) aNil))))) (aCons (eA mkLst (aCons (eVar 0) (aCons (eVar 1) (aCons (eVar 0) (aCons (eVar 1) aNil))))) (aCons (eC (.p (.str "value"))) aNil))))) aNil)))
    (sSeq (sAsgs (aCons (eA (mkIns "Unsupported" ["index", "number"]) (aCons (eVar 0) (aCons (eVar 1) aNil))) (aCons (eA (mkIns "Unsupported" ["index", "number"]) (aRev (aCons (eVar 1) (aCons (eVar 0) aNil)))) aNil)) (gConss (gN 3) (gConss (gN 4) gNils)))
    (sSeq (sExpr (eLm appendM (eVar 2) (aCons (eA mkTup (aCons (eVar 3) (aCons (eA mkLst (aCons (eFld "index" (eVar 3)) (aCons (eFld "number" (eVar 3)) (aCons (eFld "index" (eVar 4)) (aCons (eFld "number" (eVar 4)) aNil))))) (aCons (eA mkLst (aCons (eVar 0) (aCons (eVar 1) (aCons (eVar 0) (aCons (eVar 1) aNil))))) (aCons (eC (.p (.str "value"))) aNil))))) aNil)))
    (sRet (eIce (eVar 2))))))))))))))))))))))))))))))
def b_f_errors_b_l (r : Fn → List D → M D) : FS :=
    (sSeq (sSet 2 (eA mkLstM aNil))
    (sSeq (sAsgs (aCons (eA (mkIns "Improper" ["index"]) (aCons (eVar 0) aNil)) (aCons (eA (mkIns "Improper" ["index"]) (aCons (eVar 0) aNil)) aNil)) (gConss (gN 3) (gConss (gN 4) gNils)))
    (sSeq (sExpr (eLm appendM (eVar 2) (aCons (eA mkTup (aCons (eVar 3) (aCons (eA mkLst (aCons (eFld "index" (eVar 3)) (aCons (eFld "index" (eVar 4)) aNil))) (aCons (eA mkLst (aCons (eVar 0) (aCons (eVar 0) aNil))) (aCons (eC (.p (.str "value"))) aNil))))) aNil)))
    (sSeq (sAsgs (aCons (eA (mkIns "InvalidKind" ["value"]) (aCons (eVar 0) aNil)) (aCons (eA (mkIns "InvalidKind" ["value"]) (aCons (eVar 0) aNil)) aNil)) (gConss (gN 3) (gConss (gN 4) gNils)))
    (sSeq (sExpr (eLm appendM (eVar 2) (aCons (eA mkTup (aCons (eVar 3) (aCons (eA mkLst (aCons (eFld "value" (eVar 3)) (aCons (eFld "value" (eVar 4)) aNil))) (aCons (eA mkLst (aCons (eVar 0) (aCons (eVar 0) aNil))) (aCons (eC (.p (.str "value"))) aNil))))) aNil)))
    (sSeq (sAsgs (aCons (eA (mkIns "InvalidNeed" ["value"]) (aCons (eVar 0) aNil)) (aCons (eA (mkIns "InvalidNeed" ["value"]) (aCons (eVar 0) aNil)) aNil)) (gConss (gN 3) (gConss (gN 4) gNils)))
    (sSeq (sExpr (eLm appendM (eVar 2) (aCons (eA mkTup (aCons (eVar 3) (aCons (eA mkLst (aCons (eFld "value" (eVar 3)) (aCons (eFld "value" (eVar 4)) aNil))) (aCons (eA mkLst (aCons (eVar 0) (aCons (eVar 0) aNil))) (aCons (eC (.p (.str "value"))) aNil))))) aNil)))
    (sSeq (sAsgs (aCons (eA (mkIns "InvalidScheme" ["value"]) (aCons (eVar 0) aNil)) (aCons (eA (mkIns "InvalidScheme" ["value"]) (aCons (eVar 0) aNil)) aNil)) (gConss (gN 3) (gConss (gN 4) gNils)))
    (sSeq (sExpr (eLm appendM (eVar 2) (aCons (eA mkTup (aCons (eVar 3) (aCons (eA mkLst (aCons (eFld "value" (eVar 3)) (aCons (eFld "value" (eVar 4)) aNil))) (aCons (eA mkLst (aCons (eVar 0) (aCons (eVar 0) aNil))) (aCons (eC (.p (.str "value"))) aNil))))) aNil)))
    (sSeq (sAsgs (aCons (eA (mkIns "InvalidCount" ["number"]) (aCons (eVar 0) aNil)) (aCons (eA (mkIns "InvalidCount" ["number"]) (aCons (eVar 0) aNil)) aNil)) (gConss (gN 3) (gConss (gN 4) gNils)))
    (sSeq (sExpr (eLm appendM (eVar 2) (aCons (eA mkTup (aCons (eVar 3) (aCons (eA mkLst (aCons (eFld "number" (eVar 3)) (aCons (eFld "number" (eVar 4)) aNil))) (aCons (eA mkLst (aCons (eVar 0) (aCons (eVar 0) aNil))) (aCons (eC (.p (.str "value"))) aNil))))) aNil)))
    (sSeq (sAsgs (aCons (eA (mkIns "InvalidValue" ["index"]) (aCons (eVar 0) aNil)) (aCons (eA (mkIns "InvalidValue" ["index"]) (aCons (eVar 0) aNil)) aNil)) (gConss (gN 3) (gConss (gN 4) gNils)))
    (sSeq (sExpr (eLm appendM (eVar 2) (aCons (eA mkTup (aCons (eVar 3) (aCons (eA mkLst (aCons (eFld "index" (eVar 3)) (aCons (eFld "index" (eVar 4)) aNil))) (aCons (eA mkLst (aCons (eVar 0) (aCons (eVar 0) aNil))) (aCons (eC (.p (.str "value"))) aNil))))) aNil)))
    (sSeq (sAsgs (aCons (eA (mkIns "InvalidLimit" ["limit"]) (aCons (eVar 0) aNil)) (aCons (eA (mkIns "InvalidLimit" ["limit"]) (aCons (eVar 0) aNil)) aNil)) (gConss (gN 3) (gConss (gN 4) gNils)))
    (sSeq (sExpr (eLm appendM (eVar 2) (aCons (eA mkTup (aCons (eVar 3) (aCons (eA mkLst (aCons (eFld "limit" (eVar 3)) (aCons (eFld "limit" (eVar 4)) aNil))) (aCons (eA mkLst (aCons (eVar 0) (aCons (eVar 0) aNil))) (aCons (eC (.p (.str "value"))) aNil))))) aNil)))
    (sSeq (sAsgs (aCons (eA (mkIns "InvalidMarked" ["index"]) (aCons (eVar 0) aNil)) (aCons (eA (mkIns "InvalidMarked" ["index"]) (aCons (eVar 0) aNil)) aNil)) (gConss (gN 3) (gConss (gN 4) gNils)))
    (sSeq (sExpr (eLm appendM (eVar 2) (aCons (eA mkTup (aCons (eVar 3) (aCons (eA mkLst (aCons (eFld "index" (eVar 3)) (aCons (eFld "index" (eVar 4)) aNil))) (aCons (eA mkLst (aCons (eVar 0) (aCons (eVar 0) aNil))) (aCons (eC (.p (.str "value"))) aNil))))) aNil)))
    (sSeq (sAsgs (aCons (eA (mkIns "InvalidText" ["line", "piece"]) (aCons (eVar 0) (aCons (eVar 1) aNil))) (aCons (eA (mkIns "InvalidText" ["line", "piece"]) (aRev (aCons (eVar 1) (aCons (eVar 0) aNil)))) aNil)) (gConss (gN 3) (gConss (gN 4) gNils)))
    (sSeq (sExpr (eLm appendM (eVar 2) (aCons (eA mkTup (aCons (eVar 3) (aCons (eA mkLst (aCons (eFld "line" (eVar 3)) (aCons (eFld "piece" (eVar 3)) (aCons (eFld "line" (eVar 4)) (aCons (eFld "piece" (eVar 4)) aNil))))) (aCons (eA mkLst (aCons (eVar 0) (aCons (eVar 1) (aCons (eVar 0) (aCons (eVar 1) aNil))))) (aCons (eC (.p (.str "value"))) aNil))))) aNil)))
    (sSeq (sAsgs (aCons (eA (mkIns "InvalidDeed" ["index"]) (aCons (eVar 0) aNil)) (aCons (eA (mkIns "InvalidDeed" ["index"]) (aCons (eVar 0) aNil)) aNil)) (gConss (gN 3) (gConss (gN 4) gNils)))
    (sSeq (sExpr (eLm appendM (eVar 2) (aCons (eA mkTup (aCons (eVar 3) (aCons (eA mkLst (aCons (eFld "index" (eVar 3)) (aCons (eFld "index" (eVar 4)) aNil))) (aCons (eA mkLst (aCons (eVar 0) (aCons (eVar 0) aNil))) (aCons (eC (.p (.str "value"))) aNil))))) aNil)))
    (sSeq (sAsgs (aCons (eA (mkIns "InvalidGuard" ["index"]) (aCons (eVar 0) aNil)) (aCons (eA (mkIns "InvalidGuard" ["index"]) (aCons (eVar 0) aNil)) aNil)) (gConss (gN 3) (gConss (gN 4) gNils)))
    (sSeq (sExpr (eLm appendM (eVar 2) (aCons (eA mkTup (aCons (eVar 3) (aCons (eA mkLst (aCons (eFld "index" (eVar 3)) (aCons (eFld "index" (eVar 4)) aNil))) (aCons (eA mkLst (aCons (eVar 0) (aCons (eVar 0) aNil))) (aCons (eC (.p (.str "value"))) aNil))))) aNil)))
    (sSeq (sAsgs (aCons (eA (mkIns "NotClosed" ["word"]) (aCons (eVar 0) aNil)) (aCons (eA (mkIns "NotClosed" ["word"]) (aCons (eVar 0) aNil)) aNil)) (gConss (gN 3) (gConss (gN 4) gNils)))
    (sSeq (sExpr (eLm appendM (eVar 2) (aCons (eA mkTup (aCons (eVar 3) (aCons (eA mkLst (aCons (eFld "word" (eVar 3)) (aCons (eFld "word" (eVar 4)) aNil))) (aCons (eA mkLst (aCons (eVar 0) (aCons (eVar 0) aNil))) (aCons (eC (.p (.str "value"))) aNil))))) aNil)))
    (sSeq (sAsgs (aCons (eA (mkIns "Unknown" ["index", "word"]) (aCons (eVar 0) (aCons (eVar 1) aNil))) (aCons (eA (mkIns "Unknown" ["index", "word"]) (aRev (aCons (eVar 1) (aCons (eVar 0) aNil)))) aNil)) (gConss (gN 3) (gConss (gN 4) gNils)))
    (sSeq (sExpr (eLm appendM (eVar 2) (aCons (eA mkTup (aCons (eVar 3) (aCons (eA mkLst (aCons (eFld "index" (eVar 3)) (aCons (eFld "word" (eVar 3)) (aCons (eFld "index" (eVar 4)) (aCons (eFld "word" (eVar 4)) aNil))))) (aCons (eA mkLst (aCons (eVar 0) (aCons (eVar 1) (aCons (eVar 0) (aCons (eVar 1) aNil))))) (aCons (eC (.p (.str "lookup"))) aNil))))) aNil)))
    (sRet (eIce (eVar 2))))))))))))))))))))))))))))))
def b_f_errors_c_l (r : Fn → List D → M D) : FS :=
    (sSeq (sSet 2 (eA mkLstM aNil))
    (sSeq (sAsgs (aCons (eA (mkIns "UnknownName" ["value"]) (aCons (eVar 0) aNil)) (aCons (eA (mkIns "UnknownName" ["value"]) (aCons (eVar 0) aNil)) aNil)) (gConss (gN 3) (gConss (gN 4) gNils)))
    (sSeq (sExpr (eLm appendM (eVar 2) (aCons (eA mkTup (aCons (eVar 3) (aCons (eA mkLst (aCons (eFld "value" (eVar 3)) (aCons (eFld "value" (eVar 4)) aNil))) (aCons (eA mkLst (aCons (eVar 0) (aCons (eVar 0) aNil))) (aCons (eC (.p (.str "lookup"))) aNil))))) aNil)))
    (sSeq (sAsgs (aCons (eA (mkIns "OutOfTerm" ["place"]) (aCons (eVar 0) aNil)) (aCons (eA (mkIns "OutOfTerm" ["place"]) (aCons (eVar 0) aNil)) aNil)) (gConss (gN 3) (gConss (gN 4) gNils)))
    (sSeq (sExpr (eLm appendM (eVar 2) (aCons (eA mkTup (aCons (eVar 3) (aCons (eA mkLst (aCons (eFld "place" (eVar 3)) (aCons (eFld "place" (eVar 4)) aNil))) (aCons (eA mkLst (aCons (eVar 0) (aCons (eVar 0) aNil))) (aCons (eC (.p (.str "lookup"))) aNil))))) aNil)))
    (sSeq (sAsgs (aCons (eA (mkIns "NoPrimitive" ["word"]) (aCons (eVar 0) aNil)) (aCons (eA (mkIns "NoPrimitive" ["word"]) (aCons (eVar 0) aNil)) aNil)) (gConss (gN 3) (gConss (gN 4) gNils)))
    (sSeq (sExpr (eLm appendM (eVar 2) (aCons (eA mkTup (aCons (eVar 3) (aCons (eA mkLst (aCons (eFld "word" (eVar 3)) (aCons (eFld "word" (eVar 4)) aNil))) (aCons (eA mkLst (aCons (eVar 0) (aCons (eVar 0) aNil))) (aCons (eC (.p (.str "lookup"))) aNil))))) aNil)))
    (sSeq (sAsgs (aCons (eA (mkIns "NoDefinition" ["word"]) (aCons (eVar 0) aNil)) (aCons (eA (mkIns "NoDefinition" ["word"]) (aCons (eVar 0) aNil)) aNil)) (gConss (gN 3) (gConss (gN 4) gNils)))
    (sSeq (sExpr (eLm appendM (eVar 2) (aCons (eA mkTup (aCons (eVar 3) (aCons (eA mkLst (aCons (eFld "word" (eVar 3)) (aCons (eFld "word" (eVar 4)) aNil))) (aCons (eA mkLst (aCons (eVar 0) (aCons (eVar 0) aNil))) (aCons (eC (.p (.str "lookup"))) aNil))))) aNil)))
    (sSeq (sAsgs (aCons (eA (mkIns "NoCore" ["where"]) (aCons (eVar 0) aNil)) (aCons (eA (mkIns "NoCore" ["where"]) (aCons (eVar 0) aNil)) aNil)) (gConss (gN 3) (gConss (gN 4) gNils)))
    (sSeq (sExpr (eLm appendM (eVar 2) (aCons (eA mkTup (aCons (eVar 3) (aCons (eA mkLst (aCons (eFld "where" (eVar 3)) (aCons (eFld "where" (eVar 4)) aNil))) (aCons (eA mkLst (aCons (eVar 0) (aCons (eVar 0) aNil))) (aCons (eC (.p (.str "lookup"))) aNil))))) aNil)))
    (sSeq (sAsgs (aCons (eA (mkIns "Unmet" ["need"]) (aCons (eVar 0) aNil)) (aCons (eA (mkIns "Unmet" ["need"]) (aCons (eVar 0) aNil)) aNil)) (gConss (gN 3) (gConss (gN 4) gNils)))
    (sSeq (sExpr (eLm appendM (eVar 2) (aCons (eA mkTup (aCons (eVar 3) (aCons (eA mkLst (aCons (eFld "need" (eVar 3)) (aCons (eFld "need" (eVar 4)) aNil))) (aCons (eA mkLst (aCons (eVar 0) (aCons (eVar 0) aNil))) (aCons (eC (.p (.str "lookup"))) aNil))))) aNil)))
    (sSeq (sAsgs (aCons (eA (mkIns "OutOfRange" ["value"]) (aCons (eVar 0) aNil)) (aCons (eA (mkIns "OutOfRange" ["value"]) (aCons (eVar 0) aNil)) aNil)) (gConss (gN 3) (gConss (gN 4) gNils)))
    (sSeq (sExpr (eLm appendM (eVar 2) (aCons (eA mkTup (aCons (eVar 3) (aCons (eA mkLst (aCons (eFld "value" (eVar 3)) (aCons (eFld "value" (eVar 4)) aNil))) (aCons (eA mkLst (aCons (eVar 0) (aCons (eVar 0) aNil))) (aCons (eC (.p (.str "lookup"))) aNil))))) aNil)))
    (sSeq (sAsgs (aCons (eA (mkIns "Known" ["index"]) (aCons (eVar 0) aNil)) (aCons (eA (mkIns "Known" ["index"]) (aCons (eVar 0) aNil)) aNil)) (gConss (gN 3) (gConss (gN 4) gNils)))
    (sSeq (sExpr (eLm appendM (eVar 2) (aCons (eA mkTup (aCons (eVar 3) (aCons (eA mkLst (aCons (eFld "index" (eVar 3)) (aCons (eFld "index" (eVar 4)) aNil))) (aCons (eA mkLst (aCons (eVar 0) (aCons (eVar 0) aNil))) (aCons (eC (.p (.str "lookup"))) aNil))))) aNil)))
    (sSeq (sAsgs (aCons (eA (mkIns "Missing" ["index"]) (aCons (eVar 0) aNil)) (aCons (eA (mkIns "Missing" ["index"]) (aCons (eVar 0) aNil)) aNil)) (gConss (gN 3) (gConss (gN 4) gNils)))
    (sSeq (sExpr (eLm appendM (eVar 2) (aCons (eA mkTup (aCons (eVar 3) (aCons (eA mkLst (aCons (eFld "index" (eVar 3)) (aCons (eFld "index" (eVar 4)) aNil))) (aCons (eA mkLst (aCons (eVar 0) (aCons (eVar 0) aNil))) (aCons (eC (.p (.str "lookup"))) aNil))))) aNil)))
    (sSeq (sAsgs (aCons (eA (mkIns "Faulty" ["where"]) (aCons (eVar 0) aNil)) (aCons (eA (mkIns "Faulty" ["where"]) (aCons (eVar 0) aNil)) aNil)) (gConss (gN 3) (gConss (gN 4) gNils)))
    (sSeq (sExpr (eLm appendM (eVar 2) (aCons (eA mkTup (aCons (eVar 3) (aCons (eA mkLst (aCons (eFld "where" (eVar 3)) (aCons (eFld "where" (eVar 4)) aNil))) (aCons (eA mkLst (aCons (eVar 0) (aCons (eVar 0) aNil))) (aCons (eC (.p (.str "runtime"))) aNil))))) aNil)))
    (sSeq (sAsgs (aCons (eA (mkIns "Wrong" ["found"]) (aCons (eVar 0) aNil)) (aCons (eA (mkIns "Wrong" ["found"]) (aCons (eVar 0) aNil)) aNil)) (gConss (gN 3) (gConss (gN 4) gNils)))
    (sSeq (sExpr (eLm appendM (eVar 2) (aCons (eA mkTup (aCons (eVar 3) (aCons (eA mkLst (aCons (eFld "found" (eVar 3)) (aCons (eFld "found" (eVar 4)) aNil))) (aCons (eA mkLst (aCons (eVar 0) (aCons (eVar 0) aNil))) (aCons (eC (.p (.str "runtime"))) aNil))))) aNil)))
    (sSeq (sAsgs (aCons (eA (mkIns "Broken" ["index"]) (aCons (eVar 0) aNil)) (aCons (eA (mkIns "Broken" ["index"]) (aCons (eVar 0) aNil)) aNil)) (gConss (gN 3) (gConss (gN 4) gNils)))
    (sSeq (sExpr (eLm appendM (eVar 2) (aCons (eA mkTup (aCons (eVar 3) (aCons (eA mkLst (aCons (eFld "index" (eVar 3)) (aCons (eFld "index" (eVar 4)) aNil))) (aCons (eA mkLst (aCons (eVar 0) (aCons (eVar 0) aNil))) (aCons (eC (.p (.str "runtime"))) aNil))))) aNil)))
    (sRet (eIce (eVar 2))))))))))))))))))))))))))))
def b_f_flags_l (r : Fn → List D → M D) : FS :=
    (sSeq (sSet 1 (eA mkLstM aNil))
    (sSeq (sExpr (eLm extendM (eVar 1) (aCons (eA mkLst (aCons (e1 (isiC insNames (fun n => n == "InvalidForm")) (eVar 0)) (aCons (e1 (isiC insNames (fun n => n == "InvalidDeclaration")) (eVar 0)) aNil))) aNil)))
    (sSeq (sExpr (eLm extendM (eVar 1) (aCons (eA mkLst (aCons (e1 (isiC insNames (fun n => n == "InvalidPicks")) (eVar 0)) (aCons (e1 (isiC insNames (fun n => n == "Repeated")) (eVar 0)) aNil))) aNil)))
    (sSeq (sExpr (eLm extendM (eVar 1) (aCons (eA mkLst (aCons (e1 (isiC insNames (fun n => n == "BadArms")) (eVar 0)) (aCons (e1 (isiC insNames (fun n => n == "Misshapen")) (eVar 0)) aNil))) aNil)))
    (sSeq (sExpr (eLm extendM (eVar 1) (aCons (eA mkLst (aCons (e1 (isiC insNames (fun n => n == "RoleRing")) (eVar 0)) (aCons (e1 (isiC insNames (fun n => n == "BadMembers")) (eVar 0)) aNil))) aNil)))
    (sSeq (sExpr (eLm extendM (eVar 1) (aCons (eA mkLst (aCons (e1 (isiC insNames (fun n => n == "Grows")) (eVar 0)) (aCons (e1 (isiC insNames (fun n => n == "Uncovered")) (eVar 0)) aNil))) aNil)))
    (sSeq (sExpr (eLm extendM (eVar 1) (aCons (eA mkLst (aCons (e1 (isiC insNames (fun n => n == "Underivable")) (eVar 0)) (aCons (e1 (isiC insNames (fun n => n == "Clash")) (eVar 0)) aNil))) aNil)))
    (sSeq (sExpr (eLm extendM (eVar 1) (aCons (eA mkLst (aCons (e1 (isiC insNames (fun n => n == "Unsupported")) (eVar 0)) (aCons (e1 (isiC insNames (fun n => n == "Improper")) (eVar 0)) aNil))) aNil)))
    (sSeq (sExpr (eLm extendM (eVar 1) (aCons (eA mkLst (aCons (e1 (isiC insNames (fun n => n == "InvalidKind")) (eVar 0)) (aCons (e1 (isiC insNames (fun n => n == "InvalidNeed")) (eVar 0)) aNil))) aNil)))
    (sSeq (sExpr (eLm extendM (eVar 1) (aCons (eA mkLst (aCons (e1 (isiC insNames (fun n => n == "InvalidScheme")) (eVar 0)) (aCons (e1 (isiC insNames (fun n => n == "InvalidCount")) (eVar 0)) aNil))) aNil)))
    (sSeq (sExpr (eLm extendM (eVar 1) (aCons (eA mkLst (aCons (e1 (isiC insNames (fun n => n == "InvalidValue")) (eVar 0)) (aCons (e1 (isiC insNames (fun n => n == "InvalidLimit")) (eVar 0)) aNil))) aNil)))
    (sSeq (sExpr (eLm extendM (eVar 1) (aCons (eA mkLst (aCons (e1 (isiC insNames (fun n => n == "InvalidMarked")) (eVar 0)) (aCons (e1 (isiC insNames (fun n => n == "InvalidText")) (eVar 0)) aNil))) aNil)))
    (sSeq (sExpr (eLm extendM (eVar 1) (aCons (eA mkLst (aCons (e1 (isiC insNames (fun n => n == "InvalidDeed")) (eVar 0)) (aCons (e1 (isiC insNames (fun n => n == "InvalidGuard")) (eVar 0)) aNil))) aNil)))
    (sSeq (sExpr (eLm extendM (eVar 1) (aCons (eA mkLst (aCons (e1 (isiC insNames (fun n => n == "NotClosed")) (eVar 0)) (aCons (e1 (isiC insNames (fun n => n == "Unknown")) (eVar 0)) aNil))) aNil)))
    (sSeq (sExpr (eLm extendM (eVar 1) (aCons (eA mkLst (aCons (e1 (isiC insNames (fun n => n == "UnknownName")) (eVar 0)) (aCons (e1 (isiC insNames (fun n => n == "OutOfTerm")) (eVar 0)) aNil))) aNil)))
    (sSeq (sExpr (eLm extendM (eVar 1) (aCons (eA mkLst (aCons (e1 (isiC insNames (fun n => n == "NoPrimitive")) (eVar 0)) (aCons (e1 (isiC insNames (fun n => n == "NoDefinition")) (eVar 0)) aNil))) aNil)))
    (sSeq (sExpr (eLm extendM (eVar 1) (aCons (eA mkLst (aCons (e1 (isiC insNames (fun n => n == "NoCore")) (eVar 0)) (aCons (e1 (isiC insNames (fun n => n == "Unmet")) (eVar 0)) aNil))) aNil)))
    (sSeq (sExpr (eLm extendM (eVar 1) (aCons (eA mkLst (aCons (e1 (isiC insNames (fun n => n == "OutOfRange")) (eVar 0)) (aCons (e1 (isiC insNames (fun n => n == "Known")) (eVar 0)) aNil))) aNil)))
    (sSeq (sExpr (eLm extendM (eVar 1) (aCons (eA mkLst (aCons (e1 (isiC insNames (fun n => n == "Missing")) (eVar 0)) (aCons (e1 (isiC insNames (fun n => n == "Faulty")) (eVar 0)) aNil))) aNil)))
    (sSeq (sExpr (eLm extendM (eVar 1) (aCons (eA mkLst (aCons (e1 (isiC insNames (fun n => n == "Wrong")) (eVar 0)) (aCons (e1 (isiC insNames (fun n => n == "Broken")) (eVar 0)) aNil))) aNil)))
    (sRet (eIce (eVar 1)))))))))))))))))))))))
def b_f_sorts_l (r : Fn → List D → M D) : FS :=
    (sSeq (sSet 1 (eA mkLst (aCons (e1 (isiC insNames (fun n => insOver_ValueError.contains n)) (eVar 0)) (aCons (e1 (isiC insNames (fun n => insOver_LookupError.contains n)) (eVar 0)) (aCons (e1 (isiC insNames (fun n => insOver_RuntimeError.contains n)) (eVar 0)) aNil)))))
    (sRet (eLc (iA zipXM (aCons (eA mkLst (aCons (eC (.p (.str "value"))) (aCons (eC (.p (.str "lookup"))) (aCons (eC (.p (.str "runtime"))) aNil)))) (aCons (eVar 1) aNil))) (gTupD 2 (gConss (gN 2) (gConss (gN 3) gNils))) (tVal (eVar 3)) (eVar 2) [2, 3] finL)))
def f_law_1 (r : Fn → List D → M D) : FS :=
    (sExpr (eLm appendM (eVar 7) (aCons (eCallX 1 (r .f_flags_l) (aCons (eVar 8) aNil)) aNil)))
def f_law_2 (r : Fn → List D → M D) : FS :=
    (sSeq (sIf (tOrD (tC2 (opEqZ true) (eA reprM (aCons (eVar 9) aNil)) (eA reprM (aCons (eVar 10) aNil))) (tC2 (opEqZ true) (eCallX 1 (r .f_sorts_l) (aCons (eVar 8) aNil)) (eA mkLst (aCons (eVar 11) aNil)))) (sRet (eC (.p (.bool false)))) sNext)
    (f_law_1 r))
def f_law_3 (r : Fn → List D → M D) : FS :=
    (sSeq (sSet 3 (eLc (iRange (aCons (eA lenM (aCons (eVar 7) aNil)) aNil)) (gN 12) tYesD (eLc (iRange (aCons (eA lenM (aCons (eVar 7) aNil)) aNil)) (gN 13) tYesD (e2 (opEqZ false) (eVar 13) (eVar 12)) [13] finL) [12] finL))
    (sIf (tOrD (tC2 (opEqZ true) (eVar 7) (eVar 3)) (tC2 (opEqZ true) (eA reprM (aCons (eA mkLst (aCons (eVar 4) (aCons (eVar 5) aNil))) aNil)) (eVar 6))) (sRet (eC (.p (.bool false)))) sNext))
def f_law_4 (r : Fn → List D → M D) : FS :=
    (sSeq (sAsgs (aCons (eCallX 1 (r .f_odd_l) (aCons (eVar 1) aNil)) (aCons (eCallX 1 (r .f_odd_l) (aCons (eVar 1) aNil)) aNil)) (gConss (gN 4) (gConss (gN 5) gNils)))
    (sSeq (sAsgs (aCons (eA reprM (aCons (eA mkLst (aCons (eVar 4) (aCons (eVar 5) aNil))) aNil)) (aCons (eA mkLstM aNil) aNil)) (gConss (gN 6) (gConss (gN 7) gNils)))
    (sSeq (sFor (iSeq (e2 opAddX (e2 opAddX (eCallX 2 (r .f_errors_a_l) (aCons (eVar 4) (aCons (eVar 5) aNil))) (eCallX 2 (r .f_errors_b_l) (aCons (eVar 4) (aCons (eVar 5) aNil)))) (eCallX 2 (r .f_errors_c_l) (aCons (eVar 4) (aCons (eVar 5) aNil))))) (gTupD 4 (gConss (gN 8) (gConss (gN 9) (gConss (gN 10) (gConss (gN 11) gNils))))) (f_law_2 r))
    (f_law_3 r))))
def f_law_5 (r : Fn → List D → M D) : FS :=
    (sRet (eC (.p (.bool true))))
def b_f_law (r : Fn → List D → M D) : FS :=
    (sSeq (sSet 1 (eCallX 1 (r .f_begin_l) (aCons (eVar 0) aNil)))
    (sSeq (sFor (iRange (aCons (e2 opAddX (eC (.p (.int 3))) (eA min2M (aCons (eC (.p (.int 4))) (aCons (eA lenM (aCons (eVar 0) aNil)) aNil)))) aNil)) (gN 2) (f_law_4 r))
    (f_law_5 r)))
def go (P : Addr) (r r2 : Fn → List D → M D) : Fn → List D → M D
  | .f_begin_l => runF 1 (b_f_begin_l r)
  | .f_draw_l => runF 6 (b_f_draw_l r)
  | .f_pick_l => runF 2 (b_f_pick_l r)
  | .f_odd_l => runF 2 (b_f_odd_l r)
  | .f_errors_a_l => runF 5 (b_f_errors_a_l r)
  | .f_errors_b_l => runF 5 (b_f_errors_b_l r)
  | .f_errors_c_l => runF 5 (b_f_errors_c_l r)
  | .f_flags_l => runF 2 (b_f_flags_l r)
  | .f_sorts_l => runF 4 (b_f_sorts_l r)
  | .f_law => runF 14 (b_f_law r)
def F (P : Addr) : Nat → Fn → List D → M D
  | 0, _ => fun _ _ => .bad
  | 1, _ => fun _ _ => .bad
  | 2, _ => fun _ _ => .bad
  | k + 3, f => go P (F P (k + 2)) (F P k) f
end K01
namespace K01
open PySem L2 DL
structure Sp1 where
  nm : Str
  fl : List Str
  so : Str
def vals (fl : List Str) (x y : PyData) : List PyData := match fl with
  | [] => []
  | [_] => [x]
  | _ => [x, y]
def rowOf (x y : PyData) (s : Sp1) : PyData := .tuple [insD s.nm (s.fl.zip (vals s.fl x y)), .list (vals s.fl x y ++ vals s.fl x y), .list (vals s.fl x y ++ vals s.fl x y), .str s.so]
def sp_a : List Sp1 := [(⟨"InvalidForm", ["word"], "value"⟩ : Sp1), (⟨"InvalidDeclaration", ["index"], "value"⟩ : Sp1), (⟨"InvalidPicks", [], "value"⟩ : Sp1), (⟨"Repeated", ["index"], "value"⟩ : Sp1), (⟨"BadArms", ["index"], "value"⟩ : Sp1), (⟨"Misshapen", ["index"], "value"⟩ : Sp1), (⟨"RoleRing", ["index"], "value"⟩ : Sp1), (⟨"BadMembers", ["index"], "value"⟩ : Sp1), (⟨"Grows", ["index", "need"], "value"⟩ : Sp1), (⟨"Uncovered", ["index"], "value"⟩ : Sp1), (⟨"Underivable", ["word", "need"], "value"⟩ : Sp1), (⟨"Clash", ["index", "other"], "value"⟩ : Sp1), (⟨"Unsupported", ["index", "number"], "value"⟩ : Sp1)]
def sp_b : List Sp1 := [(⟨"Improper", ["index"], "value"⟩ : Sp1), (⟨"InvalidKind", ["value"], "value"⟩ : Sp1), (⟨"InvalidNeed", ["value"], "value"⟩ : Sp1), (⟨"InvalidScheme", ["value"], "value"⟩ : Sp1), (⟨"InvalidCount", ["number"], "value"⟩ : Sp1), (⟨"InvalidValue", ["index"], "value"⟩ : Sp1), (⟨"InvalidLimit", ["limit"], "value"⟩ : Sp1), (⟨"InvalidMarked", ["index"], "value"⟩ : Sp1), (⟨"InvalidText", ["line", "piece"], "value"⟩ : Sp1), (⟨"InvalidDeed", ["index"], "value"⟩ : Sp1), (⟨"InvalidGuard", ["index"], "value"⟩ : Sp1), (⟨"NotClosed", ["word"], "value"⟩ : Sp1), (⟨"Unknown", ["index", "word"], "lookup"⟩ : Sp1)]
def sp_c : List Sp1 := [(⟨"UnknownName", ["value"], "lookup"⟩ : Sp1), (⟨"OutOfTerm", ["place"], "lookup"⟩ : Sp1), (⟨"NoPrimitive", ["word"], "lookup"⟩ : Sp1), (⟨"NoDefinition", ["word"], "lookup"⟩ : Sp1), (⟨"NoCore", ["where"], "lookup"⟩ : Sp1), (⟨"Unmet", ["need"], "lookup"⟩ : Sp1), (⟨"OutOfRange", ["value"], "lookup"⟩ : Sp1), (⟨"Known", ["index"], "lookup"⟩ : Sp1), (⟨"Missing", ["index"], "lookup"⟩ : Sp1), (⟨"Faulty", ["where"], "runtime"⟩ : Sp1), (⟨"Wrong", ["found"], "runtime"⟩ : Sp1), (⟨"Broken", ["index"], "runtime"⟩ : Sp1)]
def flP : List (Str × Str) := [(("InvalidForm" : Str), ("InvalidDeclaration" : Str)), (("InvalidPicks" : Str), ("Repeated" : Str)), (("BadArms" : Str), ("Misshapen" : Str)), (("RoleRing" : Str), ("BadMembers" : Str)), (("Grows" : Str), ("Uncovered" : Str)), (("Underivable" : Str), ("Clash" : Str)), (("Unsupported" : Str), ("Improper" : Str)), (("InvalidKind" : Str), ("InvalidNeed" : Str)), (("InvalidScheme" : Str), ("InvalidCount" : Str)), (("InvalidValue" : Str), ("InvalidLimit" : Str)), (("InvalidMarked" : Str), ("InvalidText" : Str)), (("InvalidDeed" : Str), ("InvalidGuard" : Str)), (("NotClosed" : Str), ("Unknown" : Str)), (("UnknownName" : Str), ("OutOfTerm" : Str)), (("NoPrimitive" : Str), ("NoDefinition" : Str)), (("NoCore" : Str), ("Unmet" : Str)), (("OutOfRange" : Str), ("Known" : Str)), (("Missing" : Str), ("Faulty" : Str)), (("Wrong" : Str), ("Broken" : Str))]
end K01
namespace K01
open PySem L2 DL
variable {S : Sto}
theorem get_last {o : MO} : (S ++ [o])[S.length]? = some o := by simp
theorem set_last {o u : MO} : (S ++ [o]).set S.length u = S ++ [u] := by simp
theorem fld1 {f nm : Str} {x : PyData} : fldOf S f (.p (insD nm [(f, x)])) = some x := by simp [List.lookup]
theorem fld2a {f g nm : Str} {x y : PyData} : fldOf S f (.p (insD nm [(f, x), (g, y)])) = some x := by simp [List.lookup]
theorem fld2b {f g nm : Str} {x y : PyData} (h : g ≠ f) : fldOf S g (.p (insD nm [(f, x), (g, y)])) = some y := by
  have e : (g == f) = false := by simpa using h
  simp [List.lookup, e]
def B0 (nm so : Str) (b : FS) : FS := sSeq (sAsgs (aCons (eA (mkIns nm []) aNil) (aCons (eA (mkIns nm []) aNil) aNil)) (gConss (gN 3) (gConss (gN 4) gNils)))
    (sSeq (sExpr (eLm appendM (eVar 2) (aCons (eA mkTup (aCons (eVar 3) (aCons (eA mkLst aNil) (aCons (eA mkLst aNil) (aCons (eC (.p (.str so))) aNil))))) aNil))) b)
def B1 (nm f so : Str) (b : FS) : FS := sSeq (sAsgs (aCons (eA (mkIns nm [f]) (aCons (eVar 0) aNil)) (aCons (eA (mkIns nm [f]) (aCons (eVar 0) aNil)) aNil)) (gConss (gN 3) (gConss (gN 4) gNils)))
    (sSeq (sExpr (eLm appendM (eVar 2) (aCons (eA mkTup (aCons (eVar 3) (aCons (eA mkLst (aCons (eFld f (eVar 3)) (aCons (eFld f (eVar 4)) aNil))) (aCons (eA mkLst (aCons (eVar 0) (aCons (eVar 0) aNil))) (aCons (eC (.p (.str so))) aNil))))) aNil))) b)
def B2 (nm f g so : Str) (b : FS) : FS := sSeq (sAsgs (aCons (eA (mkIns nm [f, g]) (aCons (eVar 0) (aCons (eVar 1) aNil))) (aCons (eA (mkIns nm [f, g]) (aRev (aCons (eVar 1) (aCons (eVar 0) aNil)))) aNil)) (gConss (gN 3) (gConss (gN 4) gNils)))
    (sSeq (sExpr (eLm appendM (eVar 2) (aCons (eA mkTup (aCons (eVar 3) (aCons (eA mkLst (aCons (eFld f (eVar 3)) (aCons (eFld g (eVar 3)) (aCons (eFld f (eVar 4)) (aCons (eFld g (eVar 4)) aNil))))) (aCons (eA mkLst (aCons (eVar 0) (aCons (eVar 1) (aCons (eVar 0) (aCons (eVar 1) aNil))))) (aCons (eC (.p (.str so))) aNil))))) aNil))) b)
section
variable {nm f g so : Str} {x y : PyData} {e0 f0 : Option D} {xs : List PyData} {b : FS}
theorem B0_ok (hl : xs.length < 1000) : ∃ e1 f1, B0 nm so b [some (.p x), some (.p y), some (.ob S.length), e0, f0] (S ++ [.lst xs]) = b [some (.p x), some (.p y), some (.ob S.length), e1, f1] (S ++ [.lst (xs ++ [rowOf x y ⟨nm, [], so⟩])]) := by
  refine ⟨some (.p (insD nm [])), some (.p (insD nm [])), ?_⟩
  unfold B0
  rw [sSeq_next rfl]
  have ha : ∀ z, appendM (.ob S.length) [.p z] (S ++ [.lst xs]) = .ok (.p .none) (S ++ [.lst (xs ++ [z])]) := fun z => by
    rw [append_ok get_last (by omega), set_last]
  rw [sSeq_next (a := sExpr _) (ρ' := [some (.p x), some (.p y), some (.ob S.length), some (.p (insD nm [])), some (.p (insD nm []))]) (S' := S ++ [.lst (xs ++ [rowOf x y ⟨nm, [], so⟩])])]
  simp [eLm, rlOf_ob get_last, mkTup, mkLst, LIM, pys, ha, rowOf, vals]
theorem B1_ok (hl : xs.length < 1000) : ∃ e1 f1, B1 nm f so b [some (.p x), some (.p y), some (.ob S.length), e0, f0] (S ++ [.lst xs]) = b [some (.p x), some (.p y), some (.ob S.length), e1, f1] (S ++ [.lst (xs ++ [rowOf x y ⟨nm, [f], so⟩])]) := by
  refine ⟨some (.p (insD nm [(f, x)])), some (.p (insD nm [(f, x)])), ?_⟩
  unfold B1
  rw [sSeq_next rfl]
  have ha : ∀ z, appendM (.ob S.length) [.p z] (S ++ [.lst xs]) = .ok (.p .none) (S ++ [.lst (xs ++ [z])]) := fun z => by
    rw [append_ok get_last (by omega), set_last]
  rw [sSeq_next (a := sExpr _) (ρ' := [some (.p x), some (.p y), some (.ob S.length), some (.p (insD nm [(f, x)])), some (.p (insD nm [(f, x)]))]) (S' := S ++ [.lst (xs ++ [rowOf x y ⟨nm, [f], so⟩])])]
  have h1 : ∀ S : Sto, fldOf S f (.p (insD nm [(f, x)])) = some x := fun _ => fld1
  simp [eLm, rlOf_ob get_last, mkTup, mkLst, LIM, pys, ha, rowOf, vals, -fldOf_ins, h1]
theorem B2_ok (hfg : g ≠ f) (hl : xs.length < 1000) : ∃ e1 f1, B2 nm f g so b [some (.p x), some (.p y), some (.ob S.length), e0, f0] (S ++ [.lst xs]) = b [some (.p x), some (.p y), some (.ob S.length), e1, f1] (S ++ [.lst (xs ++ [rowOf x y ⟨nm, [f, g], so⟩])]) := by
  refine ⟨some (.p (insD nm [(f, x), (g, y)])), some (.p (insD nm [(f, x), (g, y)])), ?_⟩
  unfold B2
  rw [sSeq_next rfl]
  have ha : ∀ z, appendM (.ob S.length) [.p z] (S ++ [.lst xs]) = .ok (.p .none) (S ++ [.lst (xs ++ [z])]) := fun z => by
    rw [append_ok get_last (by omega), set_last]
  rw [sSeq_next (a := sExpr _) (ρ' := [some (.p x), some (.p y), some (.ob S.length), some (.p (insD nm [(f, x), (g, y)])), some (.p (insD nm [(f, x), (g, y)]))]) (S' := S ++ [.lst (xs ++ [rowOf x y ⟨nm, [f, g], so⟩])])]
  have h1 : ∀ S : Sto, fldOf S f (.p (insD nm [(f, x), (g, y)])) = some x := fun _ => fld2a
  have h2 : ∀ S : Sto, fldOf S g (.p (insD nm [(f, x), (g, y)])) = some y := fun _ => fld2b hfg
  simp [eLm, rlOf_ob get_last, mkTup, mkLst, LIM, pys, ha, rowOf, vals, -fldOf_ins, h1, h2]
end
end K01
namespace K01
open PySem L2 DL
variable {S : Sto}
def okS (s : Sp1) : Bool := match s.fl with
  | [] => true
  | [_] => true
  | [f, g] => g != f
  | _ => false
def Bs : List Sp1 → FS → FS
  | [], b => b
  | s :: r, b => (match s.fl with
    | [] => B0 s.nm s.so
    | [f] => B1 s.nm f s.so
    | [f, g] => B2 s.nm f g s.so
    | _ => fun b => b) (Bs r b)
theorem Bs_ok {x y : PyData} {b : FS} : ∀ {l : List Sp1} {xs : List PyData} {e0 f0 : Option D}, l.all okS = true → xs.length + l.length ≤ 1000 → ∃ e1 f1, Bs l b [some (.p x), some (.p y), some (.ob S.length), e0, f0] (S ++ [.lst xs]) = b [some (.p x), some (.p y), some (.ob S.length), e1, f1] (S ++ [.lst (xs ++ l.map (rowOf x y))])
  | [], xs, e0, f0, _, _ => ⟨e0, f0, by simp [Bs]⟩
  | ⟨nm, fl, so⟩ :: r, xs, e0, f0, h, hl => by
    rw [List.all_cons, Bool.and_eq_true] at h
    have hl' : xs.length < 1000 := by simp at hl; omega
    have fin : ∀ s e1 f1, ∃ e2 f2, Bs r b [some (.p x), some (.p y), some (.ob S.length), e1, f1] (S ++ [.lst (xs ++ [rowOf x y s])]) = b [some (.p x), some (.p y), some (.ob S.length), e2, f2] (S ++ [.lst (xs ++ (s :: r).map (rowOf x y))]) := fun s e1 f1 => by
      obtain ⟨e2, f2, e⟩ := Bs_ok (x := x) (y := y) (b := b) (l := r) (xs := xs ++ [rowOf x y s]) (e0 := e1) (f0 := f1) h.2 (by simp at hl ⊢; omega)
      exact ⟨e2, f2, by rw [e]; simp⟩
    match fl, h.1 with
    | [], _ =>
      obtain ⟨e1, f1, e⟩ := B0_ok (S := S) (nm := nm) (so := so) (x := x) (y := y) (e0 := e0) (f0 := f0) (b := Bs r b) hl'
      obtain ⟨e2, f2, e'⟩ := fin ⟨nm, [], so⟩ e1 f1
      exact ⟨e2, f2, e.trans e'⟩
    | [f], _ =>
      obtain ⟨e1, f1, e⟩ := B1_ok (S := S) (nm := nm) (f := f) (so := so) (x := x) (y := y) (e0 := e0) (f0 := f0) (b := Bs r b) hl'
      obtain ⟨e2, f2, e'⟩ := fin ⟨nm, [f], so⟩ e1 f1
      exact ⟨e2, f2, e.trans e'⟩
    | [f, g], hh =>
      obtain ⟨e1, f1, e⟩ := B2_ok (S := S) (nm := nm) (f := f) (g := g) (so := so) (x := x) (y := y) (e0 := e0) (f0 := f0) (b := Bs r b) (by simpa [okS] using hh) hl'
      obtain ⟨e2, f2, e'⟩ := fin ⟨nm, [f, g], so⟩ e1 f1
      exact ⟨e2, f2, e.trans e'⟩
theorem rows_run {x y : PyData} {l : List Sp1} (h : l.all okS = true) (hl : l.length ≤ 1000) : runF 5 (sSeq (sSet 2 (eA mkLstM aNil)) (Bs l (sRet (eIce (eVar 2))))) [.p x, .p y] S = .ok (.p (.list (l.map (rowOf x y)))) (S ++ [.dead]) := by
  refine run_ret ?_
  show sSeq (sSet 2 (eA mkLstM aNil)) (Bs l (sRet (eIce (eVar 2)))) [some (.p x), some (.p y), none, none, none] S = _
  rw [sSeq_next (ρ' := [some (.p x), some (.p y), some (.ob S.length), none, none]) (S' := S ++ [.lst []]) (by simp [mkLstM, pys, LIM])]
  obtain ⟨e1, f1, e⟩ := Bs_ok (S := S) (x := x) (y := y) (b := sRet (eIce (eVar 2))) (xs := []) (e0 := none) (f0 := none) h (by simpa using hl)
  rw [e]
  simp [iceD_l get_last]
theorem ea_ok (k : Nat) (x y : PyData) : F 0 (k + 3) .f_errors_a_l [.p x, .p y] S = .ok (.p (.list (sp_a.map (rowOf x y)))) (S ++ [.dead]) :=
  rows_run (l := sp_a) (by decide +kernel) (by decide)
theorem eb_ok (k : Nat) (x y : PyData) : F 0 (k + 3) .f_errors_b_l [.p x, .p y] S = .ok (.p (.list (sp_b.map (rowOf x y)))) (S ++ [.dead]) :=
  rows_run (l := sp_b) (by decide +kernel) (by decide)
theorem ec_ok (k : Nat) (x y : PyData) : F 0 (k + 3) .f_errors_c_l [.p x, .p y] S = .ok (.p (.list (sp_c.map (rowOf x y)))) (S ++ [.dead]) :=
  rows_run (l := sp_c) (by decide +kernel) (by decide)
def FlB (a c : Str) (b : FS) : FS := sSeq (sExpr (eLm extendM (eVar 1) (aCons (eA mkLst (aCons (e1 (isiC insNames (fun n => n == a)) (eVar 0)) (aCons (e1 (isiC insNames (fun n => n == c)) (eVar 0)) aNil))) aNil))) b
def Fls : List (Str × Str) → FS → FS
  | [], b => b
  | p :: r, b => FlB p.1 p.2 (Fls r b)
def flsOf (nm : Str) : List (Str × Str) → List PyData
  | [] => []
  | p :: r => .bool (nm == p.1) :: .bool (nm == p.2) :: flsOf nm r
theorem Fls_ok {nm : Str} {fs : List (Str × PyData)} {b : FS} (hn : insNames.contains nm = true) : ∀ {l : List (Str × Str)} {xs : List PyData}, xs.length + 2 * l.length ≤ 1000 → Fls l b [some (.p (insD nm fs)), some (.ob S.length)] (S ++ [.lst xs]) = b [some (.p (insD nm fs)), some (.ob S.length)] (S ++ [.lst (xs ++ flsOf nm l)])
  | [], xs, _ => by simp [Fls, flsOf]
  | p :: r, xs, hl => by
    have ih := Fls_ok (fs := fs) (b := b) hn (l := r) (xs := xs ++ [.bool (nm == p.1), .bool (nm == p.2)]) (by simp at hl ⊢; omega)
    have e1 : ∀ (tb : Str → Bool) (S : Sto), isiC insNames tb (.p (insD nm fs)) S = .ok (.p (.bool (tb nm))) S := fun tb S => isiC_ins hn
    have ha : extendM (.ob S.length) [.p (.list [.bool (nm == p.1), .bool (nm == p.2)])] (S ++ [.lst xs]) = .ok (.p .none) (S ++ [.lst (xs ++ [.bool (nm == p.1), .bool (nm == p.2)])]) := by
      rw [extend_ok get_last (by simp at hl ⊢; omega), set_last]
    show FlB p.1 p.2 (Fls r b) _ _ = _
    unfold FlB
    rw [sSeq_next (ρ' := [some (.p (insD nm fs)), some (.ob S.length)]) (S' := S ++ [.lst (xs ++ [.bool (nm == p.1), .bool (nm == p.2)])]) (by
      simp only [sExpr_, eLm_, eVarS, eVar0, Out.bind_ok, rlOf_ob get_last, eA_, aCons_, aNil_, e1_, e1, mkLst2, ha, st_ok]), ih]
    simp [flsOf]
theorem flags_ok {nm : Str} {fs : List (Str × PyData)} (k : Nat) (hn : insNames.contains nm = true) : F 0 (k + 3) .f_flags_l [.p (insD nm fs)] S = .ok (.p (.list (flsOf nm flP))) (S ++ [.dead]) := by
  refine run_ret (m := 2) ?_
  show sSeq (sSet 1 (eA mkLstM aNil)) (Fls flP (sRet (eIce (eVar 1)))) [some (.p (insD nm fs)), none] S = _
  rw [sSeq_next (ρ' := [some (.p (insD nm fs)), some (.ob S.length)]) (S' := S ++ [.lst []]) (by simp [mkLstM, pys, LIM]), Fls_ok hn (by decide)]
  simp [iceD_l get_last]
def sortsN (nm : Str) : List Str := (if insOver_ValueError.contains nm then [("value" : Str)] else []) ++ ((if insOver_LookupError.contains nm then [("lookup" : Str)] else []) ++ if insOver_RuntimeError.contains nm then [("runtime" : Str)] else [])
set_option maxHeartbeats 1000000 in
theorem sorts_ok {nm : Str} {fs : List (Str × PyData)} (k : Nat) (hn : insNames.contains nm = true) : F 0 (k + 3) .f_sorts_l [.p (insD nm fs)] S = .ok (.p (.list ((sortsN nm).map .str))) S := by
  refine run_ret (m := 4) ?_
  show b_f_sorts_l _ [some (.p (insD nm fs)), none, none, none] S = _
  have e1 : ∀ (tb : Str → Bool) (S : Sto), isiC insNames tb (.p (insD nm fs)) S = .ok (.p (.bool (tb nm))) S := fun tb S => isiC_ins hn
  unfold b_f_sorts_l sortsN
  rw [sSeq_next (ρ' := [some (.p (insD nm fs)), some (.p (.list [.bool (insOver_ValueError.contains nm), .bool (insOver_LookupError.contains nm), .bool (insOver_RuntimeError.contains nm)])), none, none]) (S' := S) (by simp [e1, mkLst, pys, LIM])]
  generalize insOver_ValueError.contains nm = b1
  generalize insOver_LookupError.contains nm = b2
  generalize insOver_RuntimeError.contains nm = b3
  cases b1 <;> cases b2 <;> cases b3 <;> rfl
end K01
namespace K01
open PySem L2 DL
variable {S : Sto}
def TOP : Nat := 40
def C01 : DrC := ⟨2147483587, 48271, 16807, 13, 50, 57⟩
theorem C01_ok : C01.ok := by unfold DrC.ok C01; decide
theorem F_pick (k : Nat) : F 0 (k + 4) .f_pick_l = runF 2 (pickBX (runF 6 (drawB2 C01))) := rfl
def OD1 : List PyData := [.none, .bool true, .bool false, .int 0, .int 1, .int (-1), .int 7, .int (10 ^ 40), .str "", .str "a", .str "self", .str "data", .str "A", .str "a b", .str "whole", .tuple [], .list [], .dict [], .tuple [.str "a"]]
def OD2 : List PyData := [.list [.str "a"], .tuple [.int 0], .tuple [.int 1, .int 2], .list [.int 0], .tuple [.tuple [.str "a"]], .dict [(.str "a", .int 1)], .tuple [.str "var", .str "a"], .tuple [.str "con", .str "whole"], .tuple [.str "name", .str "a"], .tuple [.none]]
def OD3 : List PyData := [.tuple [.str "apply", .tuple [.str "con", .str "to"]], .tuple [.str "var", .int 1], .str "abcdefghi", .tuple [.int 1, .int 1], .tuple [.str "whole", .bool true], .list [.tuple []], .int 3, .tuple [.str "same", .tuple []]]
def OD4 : List PyData := [.tuple [.str "given", .int 0, .tuple []], .tuple [.str "case", .str "a", .tuple []], .tuple [.str "whole", .int 1], .tuple [.str "hole"], .tuple [.str "definition", .str "a"], .dict []]
def ODD : List PyData := ((OD1 ++ OD2) ++ OD3) ++ OD4
def okO (d : PyData) : Prop := d.showable = true ∧ d.depth ≤ 3 ∧ wt d ≤ 900
theorem odd_good : ODD.all (fun d => d.showable && decide (d.depth ≤ 3) && decide (wt d ≤ 900)) = true := by decide +kernel
theorem odd_is {d : PyData} (h : d ∈ ODD) : okO d := by
  have q := odd_good
  rw [List.all_eq_true] at q
  have := q d h
  simpa [okO, and_assoc] using this
theorem odd_red (r : Fn → List D → M D) : b_f_odd_l r [some (.ob 0), none] S = (eCallX 2 (r .f_pick_l) (fun _ S => .ok [.ob 0, .p (.list ODD)] S) [some (.ob 0), some (.p (.list ((OD1 ++ OD2) ++ OD3)))] S).st [some (.ob 0), some (.p (.list ((OD1 ++ OD2) ++ OD3)))] fun d S1 => some (.ret d, S1) := by rfl
theorem odd_wp {cs : List PyData} {L : Nat} {n : Int} {k : Nat} {Q : D → Sto → Prop} {X : Exn → Sto → Prop} (hc : Cells cs) (h : Tape cs 0 L n S) (hk : 5 ≤ k) (hn : n ≤ 1000000) (q : ∀ d S', okO d → Tape cs 0 L (n + 1) S' → Oth 0 S S' → Q (.p d) S') : wp (cutX S.length (F 0 k .f_odd_l [.ob 0] S)) Q X := by
  obtain ⟨k, rfl⟩ : ∃ j, k = j + 5 := ⟨k - 5, by omega⟩
  refine wp_cutXS ?_
  show wp (runF 2 (b_f_odd_l (F 0 (k + 4))) [.ob 0] S) _ _
  rw [wp_run]
  show wpS (b_f_odd_l (F 0 (k + 4)) [some (.ob 0), none] S) _
  rw [odd_red, F_pick]
  simp [eCallX]
  refine pickK_wp C01_ok hc h (by omega) (by decide) (by decide) fun d S' hd t o => ?_
  exact ⟨t.1.trans h.1.symm, q d S' (odd_is hd) t o⟩
def SPS : List Sp1 := sp_a ++ sp_b ++ sp_c
theorem sps_ok : SPS.all (fun s => insNames.contains s.nm && decide (sortsN s.nm = [s.so]) && SeqAt.shaped (.list [.str s.so])) = true := by decide +kernel
theorem sps_is {s : Sp1} (h : s ∈ SPS) : insNames.contains s.nm = true ∧ sortsN s.nm = [s.so] ∧ SeqAt.shaped (.list [.str s.so]) = true := by
  have q := sps_ok
  rw [List.all_eq_true] at q
  have := q s h
  simp only [Bool.and_eq_true, decide_eq_true_eq] at this
  exact ⟨this.1.1, this.1.2, this.2⟩
theorem sps_len : SPS.length = 38 := rfl
def FLAGS : List PyData := SPS.map fun s => .list (flsOf s.nm flP)
def num : D → Int
  | .p (.int i) => i
  | _ => 0
abbrev RNG : List D := (List.range 38).map fun i : Nat => D.p (.int (0 + (i : Int)))
def ALONE : List PyData := RNG.map fun d => .list (RNG.map fun e => .bool (num e == num d))
theorem flags_eq : FLAGS = ALONE := by rfl
theorem flags_sh : SeqAt.shaped (.list FLAGS) = true := by decide +kernel
theorem eqv_self : PyData.eqv (.list FLAGS) (.list FLAGS) = true := by decide +kernel
theorem vals_b {fl : List Str} {x y : PyData} (hx : okO x) (hy : okO y) : ∀ d ∈ vals fl x y, okO d := by
  unfold vals
  split <;> simp [hx, hy]
theorem vals_l {fl : List Str} {x y : PyData} : (vals fl x y).length ≤ 2 := by
  unfold vals
  split <;> simp
theorem all_b : ∀ {xs : List PyData}, (∀ d ∈ xs, okO d) → PyData.showableAll xs = true ∧ PyData.depthAll xs ≤ 3 ∧ wtAll xs ≤ 902 * xs.length
  | [], _ => ⟨rfl, by simp [PyData.depthAll], by simp [wtAll]⟩
  | x :: r, h => by
    obtain ⟨a, b, c⟩ := all_b (xs := r) fun d hd => h d (List.mem_cons_of_mem _ hd)
    obtain ⟨a', b', c'⟩ := h x List.mem_cons_self
    refine ⟨by simp [PyData.showableAll, a, a'], by simp only [PyData.depthAll]; omega, by simp only [wtAll, List.length_cons]; omega⟩
theorem repr_l {xs : List PyData} (h : ∀ d ∈ xs, okO d) (hl : xs.length ≤ 10) : reprM [.p (.list xs)] S = .ok (.p (.str (PyData.shown (.list xs)))) S := by
  obtain ⟨a, b, c⟩ := all_b h
  exact repr_ok (by simpa [PyData.showable] using a) (by simp only [PyData.depth]; omega) (by simp only [wt]; omega)
theorem loop_wp {k : Nat} (hk : 4 ≤ k) {x y : PyData} (hx : okO x) (hy : okO y) {a b c d kp x8 x9 x10 x11 x12 x13 : Option D} {R : Fl → Sto → Prop}
    (q : ∀ z8 z9 z10 z11, R (.next [a, b, c, d, some (.p x), some (.p y), kp, some (.ob S.length), z8, z9, z10, z11, x12, x13]) (S ++ [.lst FLAGS])) :
    wpS (forD (gTupD 4 (gConss (gN 8) (gConss (gN 9) (gConss (gN 10) (gConss (gN 11) gNils))))) (f_law_2 (F 0 k)) ((SPS.map (rowOf x y)).map .p) [a, b, c, d, some (.p x), some (.p y), kp, some (.ob S.length), x8, x9, x10, x11, x12, x13] (S ++ [.lst []])) R := by
  obtain ⟨k, rfl⟩ : ∃ j, k = j + 4 := ⟨k - 4, by omega⟩
  refine forD_wp (fun j ρ S' => (∃ z8 z9 z10 z11, ρ = [a, b, c, d, some (.p x), some (.p y), kp, some (.ob S.length), z8, z9, z10, z11, x12, x13]) ∧ S' = S ++ [.lst (FLAGS.take j)]) (j := 0) ⟨⟨_, _, _, _, rfl⟩, by simp⟩ ?_ ?_
  · rintro i e ρ S' he ⟨⟨z8, z9, z10, z11, rfl⟩, rfl⟩
    rw [List.map_map, List.getElem?_map] at he
    obtain ⟨s, hs, rfl⟩ := Option.map_eq_some_iff.mp he
    have hm := List.mem_of_getElem? hs
    obtain ⟨h1, h2, h3⟩ := sps_is hm
    have hil : i < 38 := by have := (List.getElem?_eq_some_iff.mp hs).1; rwa [sps_len] at this
    have hr := fun S' : Sto => repr_l (S := S') (xs := vals s.fl x y ++ vals s.fl x y) (fun d hd => by
      rcases List.mem_append.mp hd with hd | hd <;> exact vals_b hx hy d hd) (by have := vals_l (fl := s.fl) (x := x) (y := y); simp; omega)
    have hso := fun S' : Sto => sorts_ok (S := S') (fs := s.fl.zip (vals s.fl x y)) (k + 1) h1
    have hfl := fun S' : Sto => flags_ok (S := S') (fs := s.fl.zip (vals s.fl x y)) (k + 1) h1
    rw [h2] at hso
    have hne : ∀ S' : Sto, opEqZ true (.p (.list [.str s.so])) (.p (.list [.str s.so])) S' = .ok (.p (.bool false)) S' := fun S' => by
      have e1 := h3
      show opEq true (.p (.list [.str s.so])) (.p (.list [.str s.so])) S' = _
      simp [opEq, val, e1, PyData.eqv, PyData.eqvAll]
    have e3 : k + 1 + 3 = k + 4 := rfl
    rw [e3] at hso hfl
    simp only [List.map_cons, List.map_nil] at hso
    have ha : ∀ z, appendM (.ob S.length) [.p z] (S ++ [.lst (FLAGS.take i)]) = .ok (.p .none) (S ++ [.lst (FLAGS.take i ++ [z])]) := fun z => by
      rw [append_ok get_last (by simp; omega), set_last]
    have hmk : ∀ (z : Str) (S' : Sto), mkLst [.p (.str z)] S' = .ok (.p (.list [.str z])) S' := fun z S' => mkLst1
    simp [rowOf, gTupD]
    unfold f_law_2 f_law_1
    simp [hr, hso, hmk, hne, hfl, rlOf_ob get_last]
    rw [ha]
    have ht : FLAGS.take (i + 1) = FLAGS.take i ++ [PyData.list (flsOf s.nm flP)] := by
      have : FLAGS[i]? = some (PyData.list (flsOf s.nm flP)) := by unfold FLAGS; rw [List.getElem?_map, hs]; rfl
      rw [List.take_succ, this]; rfl
    simp [ht]
  · rintro ρ S' ⟨⟨z8, z9, z10, z11, rfl⟩, rfl⟩
    have := q z8 z9 z10 z11
    have e : FLAGS.take (0 + ((SPS.map (rowOf x y)).map D.p).length) = FLAGS := List.take_of_length_le (by simp [FLAGS])
    rw [e]
    exact this
end K01
namespace K01
open PySem L2 DL
variable {S : Sto}
theorem rng_ok : rangeM [.p (.int 38)] S = .ok RNG S := range_ok (by decide) (by decide)
theorem alone_in {a b c d e f g h i j k : Option D} {z : D} (hz : ∃ i, z = .p (.int i)) {m : Option D} :
    eLc (iRange (aCons (eA lenM (aCons (eVar 7) aNil)) aNil)) (gN 13) tYesD (e2 (opEqZ false) (eVar 13) (eVar 12)) [13] finL [a, b, c, d, e, f, g, some (.ob S.length), h, i, j, k, some z, m] (S ++ [.lst FLAGS]) = .ok (.p (.list (RNG.map fun e => .bool (num e == num z)))) (S ++ [.lst FLAGS]) := by
  obtain ⟨i0, rfl⟩ := hz
  have hlen : lenM [.ob S.length] (S ++ [.lst FLAGS]) = .ok (.p (.int 38)) (S ++ [.lst FLAGS]) := by
    simp [lenM, seqOf]
    rfl
  simp only [eLc_, iRange_, aCons_, aNil_, eA_, eVarS, eVar0, Out.bind_ok, hlen, rng_ok]
  rw [if_pos (by decide), lcD_map (fun e => .bool (num e == i0))]
  · simp [num]
  · intro w hw
    simp only [List.mem_map] at hw
    obtain ⟨n, _, rfl⟩ := hw
    exact ⟨_, rfl, by simp [num]⟩
theorem alone_ok {a b c d e f g h i j k m n : Option D} : 
    eLc (iRange (aCons (eA lenM (aCons (eVar 7) aNil)) aNil)) (gN 12) tYesD (eLc (iRange (aCons (eA lenM (aCons (eVar 7) aNil)) aNil)) (gN 13) tYesD (e2 (opEqZ false) (eVar 13) (eVar 12)) [13] finL) [12] finL [a, b, c, d, e, f, g, some (.ob S.length), h, i, j, k, m, n] (S ++ [.lst FLAGS]) = .ok (.p (.list ALONE)) (S ++ [.lst FLAGS]) := by
  have hlen : lenM [.ob S.length] (S ++ [.lst FLAGS]) = .ok (.p (.int 38)) (S ++ [.lst FLAGS]) := by
    simp [lenM, seqOf]
    rfl
  rw [eLc_]
  simp only [iRange_, aCons_, aNil_, eA_, eVarS, eVar0, Out.bind_ok, hlen, rng_ok]
  rw [if_pos (by decide), lcD_map (fun d => .list (RNG.map fun e => .bool (num e == num d)))]
  · rfl
  · intro w hw
    have hz : ∃ i, w = .p (.int i) := by
      simp only [List.mem_map] at hw
      obtain ⟨n, _, rfl⟩ := hw
      exact ⟨_, rfl⟩
    exact ⟨_, rfl, alone_in hz⟩
theorem eq_flags : opEqZ true (.ob S.length) (.p (.list ALONE)) (S ++ [.lst FLAGS]) = .ok (.p (.bool false)) (S ++ [.lst FLAGS]) := by
  rw [← flags_eq]
  have h1 := flags_sh
  have h2 := eqv_self
  have e1 : dicOf (S ++ [.lst FLAGS]) (.ob S.length) = none := by simp [dicOf]
  have e2 : val (S ++ [.lst FLAGS]) (.ob S.length) = some (.list FLAGS) := by simp [val]
  unfold opEqZ
  rw [e1]
  show opEq true (.ob S.length) (.p (.list FLAGS)) (S ++ [.lst FLAGS]) = _
  unfold opEq
  rw [e2]
  simp [val, h1, h2]
set_option maxHeartbeats 2000000 in
theorem turn_wp {cs : List PyData} (hc : Cells cs) {k : Nat} (hk : 6 ≤ k) {L : Nat} {a x2 x3 x4 x5 x6 x7 x8 x9 x10 x11 x12 x13 : Option D} {n : Int} {R : Fl → Sto → Prop} (hn : n ≤ 900000) (t0 : Tape cs 0 L n S)
    (q : ∀ S' z2 z3 z4 z5 z6 z7 z8 z9 z10 z11 z12 z13, Tape cs 0 (L + 1) (n + 2) S' → R (.next [a, some (.ob 0), z2, z3, z4, z5, z6, z7, z8, z9, z10, z11, z12, z13]) S') :
    wpS (f_law_4 (F 0 k) [a, some (.ob 0), x2, x3, x4, x5, x6, x7, x8, x9, x10, x11, x12, x13] S) R := by
  obtain ⟨j, rfl⟩ : ∃ j, k = j + 3 := ⟨k - 3, by omega⟩
  unfold f_law_4
  simp
  refine odd_wp hc t0 (by omega) (by omega) fun x S1 hx t1 o1 => ?_
  refine odd_wp hc t1 (by omega) (by omega) fun y S2 hy t2 o2 => ?_
  have hxy : ∀ d ∈ [x, y], okO d := by simp [hx, hy]
  have hr := fun S' : Sto => repr_l (S := S') hxy (by simp)
  have hmk : ∀ S' : Sto, mkLst [.p x, .p y] S' = .ok (.p (.list [x, y])) S' := fun S' => mkLst2
  have hm0 : mkLstM [] S2 = .ok (.ob S2.length) (S2 ++ [.lst []]) := by simp [mkLstM, pys, LIM]
  have hcut : ∀ (d : PyData) (S' : Sto), cutX S'.length (.ok (.p d) (S' ++ [.dead])) = .ok (.p d) S' := fun d S' => by simp
  have hcut2 : ∀ (d : PyData) (m : MO), cutX (S2.length + 1) (.ok (.p d) (S2 ++ [m] ++ [.dead])) = .ok (.p d) (S2 ++ [m]) := fun d m => by
    have := hcut d (S2 ++ [m])
    rwa [List.length_append] at this
  have a1 : ∀ S' : Sto, opAddX (.p (.list (sp_a.map (rowOf x y)))) (.p (.list (sp_b.map (rowOf x y)))) S' = .ok (.p (.list ((sp_a ++ sp_b).map (rowOf x y)))) S' := fun S' => by
    rw [List.map_append]; exact addX_l (by simp [LIM, sp_a, sp_b])
  have a2 : ∀ S' : Sto, opAddX (.p (.list ((sp_a ++ sp_b).map (rowOf x y)))) (.p (.list (sp_c.map (rowOf x y)))) S' = .ok (.p (.list (SPS.map (rowOf x y)))) S' := fun S' => by
    unfold SPS
    rw [List.map_append (l₂ := sp_c)]; exact addX_l (by simp [LIM, sp_a, sp_b, sp_c])
  simp only [hmk, hr, hm0, wp_ok, Out.bind_ok, wpS_seq, sFor_, iSeq_, e2_, eCallX_, aCons_, aNil_, eVarS, eVar0, List.length_cons, List.length_nil, if_true, Nat.reduceAdd, ea_ok, eb_ok, ec_ok, hcut2, hcut, List.length_append, a1, a2, itM_l, wpS_st, wp_bind, gConss_, gN_, gNils_, wpS_some, sq_next, st_ok, List.set_cons_succ, List.set_cons_zero]
  refine loop_wp (by omega) hx hy fun z8 z9 z10 z11 => ?_
  unfold f_law_3
  simp only [sq_next, wpS_seq, sSet_, alone_ok, st_ok, wpS_some, List.set_cons_succ, List.set_cons_zero, sIf_, tOr_, tC2_, e2_, eVarS, eVar0, Out.bind_ok, eq_flags, eA_, aCons_, aNil_, hmk, hr, eqZ_s]
  simp
  refine q (S2 ++ [.lst FLAGS]) _ _ _ _ _ _ _ _ _ _ _ _ ⟨by simp [t2.1], ?_⟩
  obtain ⟨hl, p, l, h0, h1, h2⟩ := t2
  refine ⟨p, l, h0, by omega, ?_⟩
  rw [List.getElem?_append_left (List.getElem?_eq_some_iff.mp h2).1]
  exact h2
theorem F_begin (k : Nat) : F 0 (k + 3) .f_begin_l = runF 1 beginB := rfl
theorem F_law (k : Nat) : F 0 (k + 3) .f_law = runF 14 (b_f_law (F 0 (k + 2))) := rfl
set_option maxHeartbeats 2000000 in
theorem law_wp {ns : List Int} (hl : ns.length ≤ 63) {cs : List PyData} (hc : Cells cs) {k : Nat} (hk : 6 ≤ k) (eb : F 0 k .f_begin_l [.ro (nums ns)] [] = .ok (.ob 0) [.dic (tpd cs 0 0)]) : wp (runF 14 (b_f_law (F 0 k)) [.ro (nums ns)] []) (fun d s => d = .p (.bool true)) noX := by
  rw [wp_run]
  show wpS (b_f_law (F 0 k) [some (.ro (nums ns)), none, none, none, none, none, none, none, none, none, none, none, none, none] []) _
  unfold b_f_law
  have hlen : ∀ S' : Sto, lenM [.ro (nums ns)] S' = .ok (.p (.int (ns.length : Int))) S' := fun S' => by simp [lenM, seqOf, nums]
  obtain ⟨m, hm, hm7⟩ : ∃ m : Int, (3 + if (ns.length : Int) < 4 then (ns.length : Int) else 4) = m ∧ 0 ≤ m ∧ m ≤ 7 := ⟨_, rfl, by split <;> omega, by split <;> omega⟩
  simp [eb, cutX, hlen, hm, range_ok hm7.1 (by omega)]
  refine forD_wp (fun j ρ S' => (∃ x2 x3 x4 x5 x6 x7 x8 x9 x10 x11 x12 x13, ρ = [some (.ro (nums ns)), some (.ob 0), x2, x3, x4, x5, x6, x7, x8, x9, x10, x11, x12, x13]) ∧ ∃ L, Tape cs 0 L (2 * j) S') (j := 0) ⟨⟨_, _, _, _, _, _, _, _, _, _, _, _, rfl⟩, 1, ⟨rfl, 0, 0, by simp, by simp, rfl⟩⟩ ?_ ?_
  · rintro i d ρ S' hd ⟨⟨x2, x3, x4, x5, x6, x7, x8, x9, x10, x11, x12, x13, rfl⟩, L, t0⟩
    have hi : i < 7 := by
      have := (List.getElem?_eq_some_iff.mp hd).1
      simp at this
      omega
    show wpS (f_law_4 (F 0 k) [some (.ro (nums ns)), some (.ob 0), some d, x3, x4, x5, x6, x7, x8, x9, x10, x11, x12, x13] S') _
    refine turn_wp hc hk (by omega) t0 fun S2 z2 z3 z4 z5 z6 z7 z8 z9 z10 z11 z12 z13 t2 => ?_
    exact ⟨⟨_, _, _, _, _, _, _, _, _, _, _, _, rfl⟩, _, t2.mono (by omega)⟩
  · rintro ρ S' ⟨⟨x2, x3, x4, x5, x6, x7, x8, x9, x10, x11, x12, x13, rfl⟩, L, t0⟩
    unfold f_law_5
    simp
theorem holds : ∀ ns : List Int, ns.length ≤ 63 → ∃ S', F 0 TOP .f_law [.ro (nums ns)] [] = .ok (.p (.bool true)) S' := by
  intro ns hl
  obtain ⟨cs, hc, e0⟩ := begin_ok ns
  have h := law_wp (ns := ns) hl hc (k := 39) (by decide) (by rw [show (39 : Nat) = 36 + 3 from rfl, F_begin]; exact e0)
  obtain ⟨a, s, e, rfl⟩ := wp_ex h
  refine ⟨s, ?_⟩
  show F 0 (37 + 3) .f_law [.ro (nums ns)] [] = _
  rw [F_law]
  exact e
end K01
namespace K01
open PySem L2 DL PySem.Spec PyProof.Rows LamX
def top (i : Nat) : Stmt := PySem.Challenge.pw_leastneeds_k01_errors.main.body.getD i (.Pass ⟨0, 0, 0, 0⟩)
def inCls (s : Stmt) (j : Nat) : Stmt := match s with
  | .ClassDef _ _ _ b _ _ _ _ _ _ _ => b.getD j (.Pass ⟨0, 0, 0, 0⟩)
  | s => s
abbrev s_f_begin_l : Stmt := top 40
abbrev s_f_draw_l : Stmt := top 41
abbrev s_f_pick_l : Stmt := top 42
abbrev s_f_odd_l : Stmt := top 43
abbrev s_f_errors_a_l : Stmt := top 44
abbrev s_f_errors_b_l : Stmt := top 45
abbrev s_f_errors_c_l : Stmt := top 46
abbrev s_f_flags_l : Stmt := top 47
abbrev s_f_sorts_l : Stmt := top 48
abbrev s_f_law : Stmt := top 49
abbrev si_BadArms : Stmt := inCls (top 5) 0
abbrev si_BadMembers : Stmt := inCls (top 8) 0
abbrev si_Broken : Stmt := inCls (top 38) 0
abbrev si_Clash : Stmt := inCls (top 12) 0
abbrev si_Faulty : Stmt := inCls (top 36) 0
abbrev si_Grows : Stmt := inCls (top 9) 0
abbrev si_Improper : Stmt := inCls (top 14) 0
abbrev si_InvalidCount : Stmt := inCls (top 18) 0
abbrev si_InvalidDeclaration : Stmt := inCls (top 2) 0
abbrev si_InvalidDeed : Stmt := inCls (top 23) 0
abbrev si_InvalidForm : Stmt := inCls (top 1) 0
abbrev si_InvalidGuard : Stmt := inCls (top 24) 0
abbrev si_InvalidKind : Stmt := inCls (top 15) 0
abbrev si_InvalidLimit : Stmt := inCls (top 20) 0
abbrev si_InvalidMarked : Stmt := inCls (top 21) 0
abbrev si_InvalidNeed : Stmt := inCls (top 16) 0
abbrev si_InvalidPicks : Stmt := inCls (top 3) 0
abbrev si_InvalidScheme : Stmt := inCls (top 17) 0
abbrev si_InvalidText : Stmt := inCls (top 22) 0
abbrev si_InvalidValue : Stmt := inCls (top 19) 0
abbrev si_Known : Stmt := inCls (top 34) 0
abbrev si_Misshapen : Stmt := inCls (top 6) 0
abbrev si_Missing : Stmt := inCls (top 35) 0
abbrev si_NoCore : Stmt := inCls (top 31) 0
abbrev si_NoDefinition : Stmt := inCls (top 30) 0
abbrev si_NoPrimitive : Stmt := inCls (top 29) 0
abbrev si_NotClosed : Stmt := inCls (top 25) 0
abbrev si_OutOfRange : Stmt := inCls (top 33) 0
abbrev si_OutOfTerm : Stmt := inCls (top 28) 0
abbrev si_Repeated : Stmt := inCls (top 4) 0
abbrev si_RoleRing : Stmt := inCls (top 7) 0
abbrev si_Uncovered : Stmt := inCls (top 10) 0
abbrev si_Underivable : Stmt := inCls (top 11) 0
abbrev si_Unknown : Stmt := inCls (top 26) 0
abbrev si_UnknownName : Stmt := inCls (top 27) 0
abbrev si_Unmet : Stmt := inCls (top 32) 0
abbrev si_Unsupported : Stmt := inCls (top 13) 0
abbrev si_Wrong : Stmt := inCls (top 37) 0
structure Tops (K : PySem.W.Frag) (mg : Str → Option Value) (w : World) (ad : Fn → Addr) (fd : Fn → FuncData) : Prop where
  v_BadArms : ∃ C fI fd, XVal K mg "BadArms" "ValueError" "ValueError.__new__" "ValueError.__init__" ["index"] ["index"] si_BadArms C fI fd ∧ ∀ (s : Shared) (a : Value) (ws : List Value), ws.length = (["index"] : List Str).length → BindsTo s fd ⟨[a], (["index"] : List Str).zip ws⟩ (((["self", "index"] : List Str)).zip (a :: if false then ws.reverse else ws))
  v_BadMembers : ∃ C fI fd, XVal K mg "BadMembers" "ValueError" "ValueError.__new__" "ValueError.__init__" ["index"] ["index"] si_BadMembers C fI fd ∧ ∀ (s : Shared) (a : Value) (ws : List Value), ws.length = (["index"] : List Str).length → BindsTo s fd ⟨[a], (["index"] : List Str).zip ws⟩ (((["self", "index"] : List Str)).zip (a :: if false then ws.reverse else ws))
  v_Broken : ∃ C fI fd, XVal K mg "Broken" "RuntimeError" "RuntimeError.__new__" "RuntimeError.__init__" ["index"] ["index"] si_Broken C fI fd ∧ ∀ (s : Shared) (a : Value) (ws : List Value), ws.length = (["index"] : List Str).length → BindsTo s fd ⟨[a], (["index"] : List Str).zip ws⟩ (((["self", "index"] : List Str)).zip (a :: if false then ws.reverse else ws))
  v_Clash : ∃ C fI fd, XVal K mg "Clash" "ValueError" "ValueError.__new__" "ValueError.__init__" ["index", "other"] ["index", "other"] si_Clash C fI fd ∧ ∀ (s : Shared) (a : Value) (ws : List Value), ws.length = (["index", "other"] : List Str).length → BindsTo s fd ⟨[a], (["other", "index"] : List Str).zip ws⟩ (((["self", "index", "other"] : List Str)).zip (a :: if true then ws.reverse else ws))
  v_Faulty : ∃ C fI fd, XVal K mg "Faulty" "RuntimeError" "RuntimeError.__new__" "RuntimeError.__init__" ["where"] ["where"] si_Faulty C fI fd ∧ ∀ (s : Shared) (a : Value) (ws : List Value), ws.length = (["where"] : List Str).length → BindsTo s fd ⟨[a], (["where"] : List Str).zip ws⟩ (((["self", "where"] : List Str)).zip (a :: if false then ws.reverse else ws))
  v_Grows : ∃ C fI fd, XVal K mg "Grows" "ValueError" "ValueError.__new__" "ValueError.__init__" ["index", "need"] ["index", "need"] si_Grows C fI fd ∧ ∀ (s : Shared) (a : Value) (ws : List Value), ws.length = (["index", "need"] : List Str).length → BindsTo s fd ⟨[a], (["need", "index"] : List Str).zip ws⟩ (((["self", "index", "need"] : List Str)).zip (a :: if true then ws.reverse else ws))
  v_Improper : ∃ C fI fd, XVal K mg "Improper" "ValueError" "ValueError.__new__" "ValueError.__init__" ["index"] ["index"] si_Improper C fI fd ∧ ∀ (s : Shared) (a : Value) (ws : List Value), ws.length = (["index"] : List Str).length → BindsTo s fd ⟨[a], (["index"] : List Str).zip ws⟩ (((["self", "index"] : List Str)).zip (a :: if false then ws.reverse else ws))
  v_InvalidCount : ∃ C fI fd, XVal K mg "InvalidCount" "ValueError" "ValueError.__new__" "ValueError.__init__" ["number"] ["number"] si_InvalidCount C fI fd ∧ ∀ (s : Shared) (a : Value) (ws : List Value), ws.length = (["number"] : List Str).length → BindsTo s fd ⟨[a], (["number"] : List Str).zip ws⟩ (((["self", "number"] : List Str)).zip (a :: if false then ws.reverse else ws))
  v_InvalidDeclaration : ∃ C fI fd, XVal K mg "InvalidDeclaration" "ValueError" "ValueError.__new__" "ValueError.__init__" ["index"] ["index"] si_InvalidDeclaration C fI fd ∧ ∀ (s : Shared) (a : Value) (ws : List Value), ws.length = (["index"] : List Str).length → BindsTo s fd ⟨[a], (["index"] : List Str).zip ws⟩ (((["self", "index"] : List Str)).zip (a :: if false then ws.reverse else ws))
  v_InvalidDeed : ∃ C fI fd, XVal K mg "InvalidDeed" "ValueError" "ValueError.__new__" "ValueError.__init__" ["index"] ["index"] si_InvalidDeed C fI fd ∧ ∀ (s : Shared) (a : Value) (ws : List Value), ws.length = (["index"] : List Str).length → BindsTo s fd ⟨[a], (["index"] : List Str).zip ws⟩ (((["self", "index"] : List Str)).zip (a :: if false then ws.reverse else ws))
  v_InvalidForm : ∃ C fI fd, XVal K mg "InvalidForm" "ValueError" "ValueError.__new__" "ValueError.__init__" ["word"] ["word"] si_InvalidForm C fI fd ∧ ∀ (s : Shared) (a : Value) (ws : List Value), ws.length = (["word"] : List Str).length → BindsTo s fd ⟨[a], (["word"] : List Str).zip ws⟩ (((["self", "word"] : List Str)).zip (a :: if false then ws.reverse else ws))
  v_InvalidGuard : ∃ C fI fd, XVal K mg "InvalidGuard" "ValueError" "ValueError.__new__" "ValueError.__init__" ["index"] ["index"] si_InvalidGuard C fI fd ∧ ∀ (s : Shared) (a : Value) (ws : List Value), ws.length = (["index"] : List Str).length → BindsTo s fd ⟨[a], (["index"] : List Str).zip ws⟩ (((["self", "index"] : List Str)).zip (a :: if false then ws.reverse else ws))
  v_InvalidKind : ∃ C fI fd, XVal K mg "InvalidKind" "ValueError" "ValueError.__new__" "ValueError.__init__" ["value"] ["value"] si_InvalidKind C fI fd ∧ ∀ (s : Shared) (a : Value) (ws : List Value), ws.length = (["value"] : List Str).length → BindsTo s fd ⟨[a], (["value"] : List Str).zip ws⟩ (((["self", "value"] : List Str)).zip (a :: if false then ws.reverse else ws))
  v_InvalidLimit : ∃ C fI fd, XVal K mg "InvalidLimit" "ValueError" "ValueError.__new__" "ValueError.__init__" ["limit"] ["limit"] si_InvalidLimit C fI fd ∧ ∀ (s : Shared) (a : Value) (ws : List Value), ws.length = (["limit"] : List Str).length → BindsTo s fd ⟨[a], (["limit"] : List Str).zip ws⟩ (((["self", "limit"] : List Str)).zip (a :: if false then ws.reverse else ws))
  v_InvalidMarked : ∃ C fI fd, XVal K mg "InvalidMarked" "ValueError" "ValueError.__new__" "ValueError.__init__" ["index"] ["index"] si_InvalidMarked C fI fd ∧ ∀ (s : Shared) (a : Value) (ws : List Value), ws.length = (["index"] : List Str).length → BindsTo s fd ⟨[a], (["index"] : List Str).zip ws⟩ (((["self", "index"] : List Str)).zip (a :: if false then ws.reverse else ws))
  v_InvalidNeed : ∃ C fI fd, XVal K mg "InvalidNeed" "ValueError" "ValueError.__new__" "ValueError.__init__" ["value"] ["value"] si_InvalidNeed C fI fd ∧ ∀ (s : Shared) (a : Value) (ws : List Value), ws.length = (["value"] : List Str).length → BindsTo s fd ⟨[a], (["value"] : List Str).zip ws⟩ (((["self", "value"] : List Str)).zip (a :: if false then ws.reverse else ws))
  v_InvalidPicks : ∃ C fI fd, XVal K mg "InvalidPicks" "ValueError" "ValueError.__new__" "ValueError.__init__" [] [] si_InvalidPicks C fI fd
  v_InvalidScheme : ∃ C fI fd, XVal K mg "InvalidScheme" "ValueError" "ValueError.__new__" "ValueError.__init__" ["value"] ["value"] si_InvalidScheme C fI fd ∧ ∀ (s : Shared) (a : Value) (ws : List Value), ws.length = (["value"] : List Str).length → BindsTo s fd ⟨[a], (["value"] : List Str).zip ws⟩ (((["self", "value"] : List Str)).zip (a :: if false then ws.reverse else ws))
  v_InvalidText : ∃ C fI fd, XVal K mg "InvalidText" "ValueError" "ValueError.__new__" "ValueError.__init__" ["line", "piece"] ["line", "piece"] si_InvalidText C fI fd ∧ ∀ (s : Shared) (a : Value) (ws : List Value), ws.length = (["line", "piece"] : List Str).length → BindsTo s fd ⟨[a], (["piece", "line"] : List Str).zip ws⟩ (((["self", "line", "piece"] : List Str)).zip (a :: if true then ws.reverse else ws))
  v_InvalidValue : ∃ C fI fd, XVal K mg "InvalidValue" "ValueError" "ValueError.__new__" "ValueError.__init__" ["index"] ["index"] si_InvalidValue C fI fd ∧ ∀ (s : Shared) (a : Value) (ws : List Value), ws.length = (["index"] : List Str).length → BindsTo s fd ⟨[a], (["index"] : List Str).zip ws⟩ (((["self", "index"] : List Str)).zip (a :: if false then ws.reverse else ws))
  v_Known : ∃ C fI fd, XVal K mg "Known" "LookupError" "LookupError.__new__" "LookupError.__init__" ["index"] ["index"] si_Known C fI fd ∧ ∀ (s : Shared) (a : Value) (ws : List Value), ws.length = (["index"] : List Str).length → BindsTo s fd ⟨[a], (["index"] : List Str).zip ws⟩ (((["self", "index"] : List Str)).zip (a :: if false then ws.reverse else ws))
  v_Misshapen : ∃ C fI fd, XVal K mg "Misshapen" "ValueError" "ValueError.__new__" "ValueError.__init__" ["index"] ["index"] si_Misshapen C fI fd ∧ ∀ (s : Shared) (a : Value) (ws : List Value), ws.length = (["index"] : List Str).length → BindsTo s fd ⟨[a], (["index"] : List Str).zip ws⟩ (((["self", "index"] : List Str)).zip (a :: if false then ws.reverse else ws))
  v_Missing : ∃ C fI fd, XVal K mg "Missing" "LookupError" "LookupError.__new__" "LookupError.__init__" ["index"] ["index"] si_Missing C fI fd ∧ ∀ (s : Shared) (a : Value) (ws : List Value), ws.length = (["index"] : List Str).length → BindsTo s fd ⟨[a], (["index"] : List Str).zip ws⟩ (((["self", "index"] : List Str)).zip (a :: if false then ws.reverse else ws))
  v_NoCore : ∃ C fI fd, XVal K mg "NoCore" "LookupError" "LookupError.__new__" "LookupError.__init__" ["where"] ["where"] si_NoCore C fI fd ∧ ∀ (s : Shared) (a : Value) (ws : List Value), ws.length = (["where"] : List Str).length → BindsTo s fd ⟨[a], (["where"] : List Str).zip ws⟩ (((["self", "where"] : List Str)).zip (a :: if false then ws.reverse else ws))
  v_NoDefinition : ∃ C fI fd, XVal K mg "NoDefinition" "LookupError" "LookupError.__new__" "LookupError.__init__" ["word"] ["word"] si_NoDefinition C fI fd ∧ ∀ (s : Shared) (a : Value) (ws : List Value), ws.length = (["word"] : List Str).length → BindsTo s fd ⟨[a], (["word"] : List Str).zip ws⟩ (((["self", "word"] : List Str)).zip (a :: if false then ws.reverse else ws))
  v_NoPrimitive : ∃ C fI fd, XVal K mg "NoPrimitive" "LookupError" "LookupError.__new__" "LookupError.__init__" ["word"] ["word"] si_NoPrimitive C fI fd ∧ ∀ (s : Shared) (a : Value) (ws : List Value), ws.length = (["word"] : List Str).length → BindsTo s fd ⟨[a], (["word"] : List Str).zip ws⟩ (((["self", "word"] : List Str)).zip (a :: if false then ws.reverse else ws))
  v_NotClosed : ∃ C fI fd, XVal K mg "NotClosed" "ValueError" "ValueError.__new__" "ValueError.__init__" ["word"] ["word"] si_NotClosed C fI fd ∧ ∀ (s : Shared) (a : Value) (ws : List Value), ws.length = (["word"] : List Str).length → BindsTo s fd ⟨[a], (["word"] : List Str).zip ws⟩ (((["self", "word"] : List Str)).zip (a :: if false then ws.reverse else ws))
  v_OutOfRange : ∃ C fI fd, XVal K mg "OutOfRange" "LookupError" "LookupError.__new__" "LookupError.__init__" ["value"] ["value"] si_OutOfRange C fI fd ∧ ∀ (s : Shared) (a : Value) (ws : List Value), ws.length = (["value"] : List Str).length → BindsTo s fd ⟨[a], (["value"] : List Str).zip ws⟩ (((["self", "value"] : List Str)).zip (a :: if false then ws.reverse else ws))
  v_OutOfTerm : ∃ C fI fd, XVal K mg "OutOfTerm" "LookupError" "LookupError.__new__" "LookupError.__init__" ["place"] ["place"] si_OutOfTerm C fI fd ∧ ∀ (s : Shared) (a : Value) (ws : List Value), ws.length = (["place"] : List Str).length → BindsTo s fd ⟨[a], (["place"] : List Str).zip ws⟩ (((["self", "place"] : List Str)).zip (a :: if false then ws.reverse else ws))
  v_Repeated : ∃ C fI fd, XVal K mg "Repeated" "ValueError" "ValueError.__new__" "ValueError.__init__" ["index"] ["index"] si_Repeated C fI fd ∧ ∀ (s : Shared) (a : Value) (ws : List Value), ws.length = (["index"] : List Str).length → BindsTo s fd ⟨[a], (["index"] : List Str).zip ws⟩ (((["self", "index"] : List Str)).zip (a :: if false then ws.reverse else ws))
  v_RoleRing : ∃ C fI fd, XVal K mg "RoleRing" "ValueError" "ValueError.__new__" "ValueError.__init__" ["index"] ["index"] si_RoleRing C fI fd ∧ ∀ (s : Shared) (a : Value) (ws : List Value), ws.length = (["index"] : List Str).length → BindsTo s fd ⟨[a], (["index"] : List Str).zip ws⟩ (((["self", "index"] : List Str)).zip (a :: if false then ws.reverse else ws))
  v_Uncovered : ∃ C fI fd, XVal K mg "Uncovered" "ValueError" "ValueError.__new__" "ValueError.__init__" ["index"] ["index"] si_Uncovered C fI fd ∧ ∀ (s : Shared) (a : Value) (ws : List Value), ws.length = (["index"] : List Str).length → BindsTo s fd ⟨[a], (["index"] : List Str).zip ws⟩ (((["self", "index"] : List Str)).zip (a :: if false then ws.reverse else ws))
  v_Underivable : ∃ C fI fd, XVal K mg "Underivable" "ValueError" "ValueError.__new__" "ValueError.__init__" ["word", "need"] ["word", "need"] si_Underivable C fI fd ∧ ∀ (s : Shared) (a : Value) (ws : List Value), ws.length = (["word", "need"] : List Str).length → BindsTo s fd ⟨[a], (["need", "word"] : List Str).zip ws⟩ (((["self", "word", "need"] : List Str)).zip (a :: if true then ws.reverse else ws))
  v_Unknown : ∃ C fI fd, XVal K mg "Unknown" "LookupError" "LookupError.__new__" "LookupError.__init__" ["index", "word"] ["index", "word"] si_Unknown C fI fd ∧ ∀ (s : Shared) (a : Value) (ws : List Value), ws.length = (["index", "word"] : List Str).length → BindsTo s fd ⟨[a], (["word", "index"] : List Str).zip ws⟩ (((["self", "index", "word"] : List Str)).zip (a :: if true then ws.reverse else ws))
  v_UnknownName : ∃ C fI fd, XVal K mg "UnknownName" "LookupError" "LookupError.__new__" "LookupError.__init__" ["value"] ["value"] si_UnknownName C fI fd ∧ ∀ (s : Shared) (a : Value) (ws : List Value), ws.length = (["value"] : List Str).length → BindsTo s fd ⟨[a], (["value"] : List Str).zip ws⟩ (((["self", "value"] : List Str)).zip (a :: if false then ws.reverse else ws))
  v_Unmet : ∃ C fI fd, XVal K mg "Unmet" "LookupError" "LookupError.__new__" "LookupError.__init__" ["need"] ["need"] si_Unmet C fI fd ∧ ∀ (s : Shared) (a : Value) (ws : List Value), ws.length = (["need"] : List Str).length → BindsTo s fd ⟨[a], (["need"] : List Str).zip ws⟩ (((["self", "need"] : List Str)).zip (a :: if false then ws.reverse else ws))
  v_Unsupported : ∃ C fI fd, XVal K mg "Unsupported" "ValueError" "ValueError.__new__" "ValueError.__init__" ["index", "number"] ["index", "number"] si_Unsupported C fI fd ∧ ∀ (s : Shared) (a : Value) (ws : List Value), ws.length = (["index", "number"] : List Str).length → BindsTo s fd ⟨[a], (["number", "index"] : List Str).zip ws⟩ (((["self", "index", "number"] : List Str)).zip (a :: if true then ws.reverse else ws))
  v_Wrong : ∃ C fI fd, XVal K mg "Wrong" "RuntimeError" "RuntimeError.__new__" "RuntimeError.__init__" ["found"] ["found"] si_Wrong C fI fd ∧ ∀ (s : Shared) (a : Value) (ws : List Value), ws.length = (["found"] : List Str).length → BindsTo s fd ⟨[a], (["found"] : List Str).zip ws⟩ (((["self", "found"] : List Str)).zip (a :: if false then ws.reverse else ws))
  i_BadArms : ∃ C, mg "BadArms" = some (.ref C) ∧ isiTab K (.ref C) insNames (fun n => n == "BadArms") = true
  i_BadMembers : ∃ C, mg "BadMembers" = some (.ref C) ∧ isiTab K (.ref C) insNames (fun n => n == "BadMembers") = true
  i_Broken : ∃ C, mg "Broken" = some (.ref C) ∧ isiTab K (.ref C) insNames (fun n => n == "Broken") = true
  i_Clash : ∃ C, mg "Clash" = some (.ref C) ∧ isiTab K (.ref C) insNames (fun n => n == "Clash") = true
  i_Faulty : ∃ C, mg "Faulty" = some (.ref C) ∧ isiTab K (.ref C) insNames (fun n => n == "Faulty") = true
  i_Grows : ∃ C, mg "Grows" = some (.ref C) ∧ isiTab K (.ref C) insNames (fun n => n == "Grows") = true
  i_Improper : ∃ C, mg "Improper" = some (.ref C) ∧ isiTab K (.ref C) insNames (fun n => n == "Improper") = true
  i_InvalidCount : ∃ C, mg "InvalidCount" = some (.ref C) ∧ isiTab K (.ref C) insNames (fun n => n == "InvalidCount") = true
  i_InvalidDeclaration : ∃ C, mg "InvalidDeclaration" = some (.ref C) ∧ isiTab K (.ref C) insNames (fun n => n == "InvalidDeclaration") = true
  i_InvalidDeed : ∃ C, mg "InvalidDeed" = some (.ref C) ∧ isiTab K (.ref C) insNames (fun n => n == "InvalidDeed") = true
  i_InvalidForm : ∃ C, mg "InvalidForm" = some (.ref C) ∧ isiTab K (.ref C) insNames (fun n => n == "InvalidForm") = true
  i_InvalidGuard : ∃ C, mg "InvalidGuard" = some (.ref C) ∧ isiTab K (.ref C) insNames (fun n => n == "InvalidGuard") = true
  i_InvalidKind : ∃ C, mg "InvalidKind" = some (.ref C) ∧ isiTab K (.ref C) insNames (fun n => n == "InvalidKind") = true
  i_InvalidLimit : ∃ C, mg "InvalidLimit" = some (.ref C) ∧ isiTab K (.ref C) insNames (fun n => n == "InvalidLimit") = true
  i_InvalidMarked : ∃ C, mg "InvalidMarked" = some (.ref C) ∧ isiTab K (.ref C) insNames (fun n => n == "InvalidMarked") = true
  i_InvalidNeed : ∃ C, mg "InvalidNeed" = some (.ref C) ∧ isiTab K (.ref C) insNames (fun n => n == "InvalidNeed") = true
  i_InvalidPicks : ∃ C, mg "InvalidPicks" = some (.ref C) ∧ isiTab K (.ref C) insNames (fun n => n == "InvalidPicks") = true
  i_InvalidScheme : ∃ C, mg "InvalidScheme" = some (.ref C) ∧ isiTab K (.ref C) insNames (fun n => n == "InvalidScheme") = true
  i_InvalidText : ∃ C, mg "InvalidText" = some (.ref C) ∧ isiTab K (.ref C) insNames (fun n => n == "InvalidText") = true
  i_InvalidValue : ∃ C, mg "InvalidValue" = some (.ref C) ∧ isiTab K (.ref C) insNames (fun n => n == "InvalidValue") = true
  i_Known : ∃ C, mg "Known" = some (.ref C) ∧ isiTab K (.ref C) insNames (fun n => n == "Known") = true
  i_LookupError : isiTab K (.type "LookupError") insNames (fun n => insOver_LookupError.contains n) = true
  i_Misshapen : ∃ C, mg "Misshapen" = some (.ref C) ∧ isiTab K (.ref C) insNames (fun n => n == "Misshapen") = true
  i_Missing : ∃ C, mg "Missing" = some (.ref C) ∧ isiTab K (.ref C) insNames (fun n => n == "Missing") = true
  i_NoCore : ∃ C, mg "NoCore" = some (.ref C) ∧ isiTab K (.ref C) insNames (fun n => n == "NoCore") = true
  i_NoDefinition : ∃ C, mg "NoDefinition" = some (.ref C) ∧ isiTab K (.ref C) insNames (fun n => n == "NoDefinition") = true
  i_NoPrimitive : ∃ C, mg "NoPrimitive" = some (.ref C) ∧ isiTab K (.ref C) insNames (fun n => n == "NoPrimitive") = true
  i_NotClosed : ∃ C, mg "NotClosed" = some (.ref C) ∧ isiTab K (.ref C) insNames (fun n => n == "NotClosed") = true
  i_OutOfRange : ∃ C, mg "OutOfRange" = some (.ref C) ∧ isiTab K (.ref C) insNames (fun n => n == "OutOfRange") = true
  i_OutOfTerm : ∃ C, mg "OutOfTerm" = some (.ref C) ∧ isiTab K (.ref C) insNames (fun n => n == "OutOfTerm") = true
  i_Repeated : ∃ C, mg "Repeated" = some (.ref C) ∧ isiTab K (.ref C) insNames (fun n => n == "Repeated") = true
  i_RoleRing : ∃ C, mg "RoleRing" = some (.ref C) ∧ isiTab K (.ref C) insNames (fun n => n == "RoleRing") = true
  i_RuntimeError : isiTab K (.type "RuntimeError") insNames (fun n => insOver_RuntimeError.contains n) = true
  i_Uncovered : ∃ C, mg "Uncovered" = some (.ref C) ∧ isiTab K (.ref C) insNames (fun n => n == "Uncovered") = true
  i_Underivable : ∃ C, mg "Underivable" = some (.ref C) ∧ isiTab K (.ref C) insNames (fun n => n == "Underivable") = true
  i_Unknown : ∃ C, mg "Unknown" = some (.ref C) ∧ isiTab K (.ref C) insNames (fun n => n == "Unknown") = true
  i_UnknownName : ∃ C, mg "UnknownName" = some (.ref C) ∧ isiTab K (.ref C) insNames (fun n => n == "UnknownName") = true
  i_Unmet : ∃ C, mg "Unmet" = some (.ref C) ∧ isiTab K (.ref C) insNames (fun n => n == "Unmet") = true
  i_Unsupported : ∃ C, mg "Unsupported" = some (.ref C) ∧ isiTab K (.ref C) insNames (fun n => n == "Unsupported") = true
  i_ValueError : isiTab K (.type "ValueError") insNames (fun n => insOver_ValueError.contains n) = true
  i_Wrong : ∃ C, mg "Wrong" = some (.ref C) ∧ isiTab K (.ref C) insNames (fun n => n == "Wrong") = true
  kp_f_begin_l : PySem.W.keepIn K (.ref (ad .f_begin_l)) = true
  fn_f_begin_l : Fun K "_law_begin" "_law_begin" s_f_begin_l (ad .f_begin_l) (fd .f_begin_l)
  m_f_begin_l : mg "_law_begin" = some (.ref (ad .f_begin_l))
  b_f_begin_l : Binds K (fd .f_begin_l) ["_law_script"] []
  kp_f_draw_l : PySem.W.keepIn K (.ref (ad .f_draw_l)) = true
  fn_f_draw_l : Fun K "_law_draw" "_law_draw" s_f_draw_l (ad .f_draw_l) (fd .f_draw_l)
  m_f_draw_l : mg "_law_draw" = some (.ref (ad .f_draw_l))
  b_f_draw_l : Binds K (fd .f_draw_l) ["_law_tape", "_law_many"] []
  kp_f_pick_l : PySem.W.keepIn K (.ref (ad .f_pick_l)) = true
  fn_f_pick_l : Fun K "_law_pick" "_law_pick" s_f_pick_l (ad .f_pick_l) (fd .f_pick_l)
  m_f_pick_l : mg "_law_pick" = some (.ref (ad .f_pick_l))
  b_f_pick_l : Binds K (fd .f_pick_l) ["_law_tape", "_law_items"] []
  kp_f_odd_l : PySem.W.keepIn K (.ref (ad .f_odd_l)) = true
  fn_f_odd_l : Fun K "_law_odd" "_law_odd" s_f_odd_l (ad .f_odd_l) (fd .f_odd_l)
  m_f_odd_l : mg "_law_odd" = some (.ref (ad .f_odd_l))
  b_f_odd_l : Binds K (fd .f_odd_l) ["_law_tape"] []
  kp_f_errors_a_l : PySem.W.keepIn K (.ref (ad .f_errors_a_l)) = true
  fn_f_errors_a_l : Fun K "_law_errors_a" "_law_errors_a" s_f_errors_a_l (ad .f_errors_a_l) (fd .f_errors_a_l)
  m_f_errors_a_l : mg "_law_errors_a" = some (.ref (ad .f_errors_a_l))
  b_f_errors_a_l : Binds K (fd .f_errors_a_l) ["_law_x", "_law_y"] []
  kp_f_errors_b_l : PySem.W.keepIn K (.ref (ad .f_errors_b_l)) = true
  fn_f_errors_b_l : Fun K "_law_errors_b" "_law_errors_b" s_f_errors_b_l (ad .f_errors_b_l) (fd .f_errors_b_l)
  m_f_errors_b_l : mg "_law_errors_b" = some (.ref (ad .f_errors_b_l))
  b_f_errors_b_l : Binds K (fd .f_errors_b_l) ["_law_x", "_law_y"] []
  kp_f_errors_c_l : PySem.W.keepIn K (.ref (ad .f_errors_c_l)) = true
  fn_f_errors_c_l : Fun K "_law_errors_c" "_law_errors_c" s_f_errors_c_l (ad .f_errors_c_l) (fd .f_errors_c_l)
  m_f_errors_c_l : mg "_law_errors_c" = some (.ref (ad .f_errors_c_l))
  b_f_errors_c_l : Binds K (fd .f_errors_c_l) ["_law_x", "_law_y"] []
  kp_f_flags_l : PySem.W.keepIn K (.ref (ad .f_flags_l)) = true
  fn_f_flags_l : Fun K "_law_flags" "_law_flags" s_f_flags_l (ad .f_flags_l) (fd .f_flags_l)
  m_f_flags_l : mg "_law_flags" = some (.ref (ad .f_flags_l))
  b_f_flags_l : Binds K (fd .f_flags_l) ["_law_e"] []
  kp_f_sorts_l : PySem.W.keepIn K (.ref (ad .f_sorts_l)) = true
  fn_f_sorts_l : Fun K "_law_sorts" "_law_sorts" s_f_sorts_l (ad .f_sorts_l) (fd .f_sorts_l)
  m_f_sorts_l : mg "_law_sorts" = some (.ref (ad .f_sorts_l))
  b_f_sorts_l : Binds K (fd .f_sorts_l) ["_law_e"] []
  kp_f_law : PySem.W.keepIn K (.ref (ad .f_law)) = true
  fn_f_law : Fun K "law" "law" s_f_law (ad .f_law) (fd .f_law)
  m_f_law : mg "law" = some (.ref (ad .f_law))
  b_f_law : Binds K (fd .f_law) ["_law_script"] []
  b_LookupError : mg "LookupError" = none
  b_RuntimeError : mg "RuntimeError" = none
  b_ValueError : mg "ValueError" = none
  b_int : mg "int" = none
  b_isinstance : mg "isinstance" = none
  b_len : mg "len" = none
  b_min : mg "min" = none
  b_range : mg "range" = none
  b_repr : mg "repr" = none
  b_zip : mg "zip" = none
structure Rk (P : Program) (w : World) (K : PySem.W.Frag) (mg : Str → Option Value) (base : Heap) (ad : Fn → Addr) (fd : Fn → FuncData) (k : Nat) (r : Fn → List D → M D) : Prop where
  f_begin_l : FnX P w K mg base k (ad .f_begin_l) (fd .f_begin_l) ["_law_script"] (spX K 1 (r .f_begin_l))
  f_draw_l : FnX P w K mg base k (ad .f_draw_l) (fd .f_draw_l) ["_law_tape", "_law_many"] (spX K 2 (r .f_draw_l))
  f_pick_l : FnX P w K mg base k (ad .f_pick_l) (fd .f_pick_l) ["_law_tape", "_law_items"] (spX K 2 (r .f_pick_l))
  f_odd_l : FnX P w K mg base k (ad .f_odd_l) (fd .f_odd_l) ["_law_tape"] (spX K 1 (r .f_odd_l))
  f_errors_a_l : FnX P w K mg base k (ad .f_errors_a_l) (fd .f_errors_a_l) ["_law_x", "_law_y"] (spX K 2 (r .f_errors_a_l))
  f_errors_b_l : FnX P w K mg base k (ad .f_errors_b_l) (fd .f_errors_b_l) ["_law_x", "_law_y"] (spX K 2 (r .f_errors_b_l))
  f_errors_c_l : FnX P w K mg base k (ad .f_errors_c_l) (fd .f_errors_c_l) ["_law_x", "_law_y"] (spX K 2 (r .f_errors_c_l))
  f_flags_l : FnX P w K mg base k (ad .f_flags_l) (fd .f_flags_l) ["_law_e"] (spX K 1 (r .f_flags_l))
  f_sorts_l : FnX P w K mg base k (ad .f_sorts_l) (fd .f_sorts_l) ["_law_e"] (spX K 1 (r .f_sorts_l))
  f_law : FnX P w K mg base k (ad .f_law) (fd .f_law) ["_law_script"] (spX K 1 (r .f_law))
section
variable {P : Program} {w : World} {K : PySem.W.Frag} {mg : Str → Option Value} {base : Heap} {ad : Fn → Addr} {fd : Fn → FuncData} {k : Nat} {r r2 : Fn → List D → M D}
theorem scv_BadArms : FnScope ["self", "index"] ["self", "index"] (defScope si_BadArms) := ⟨rfl, rfl, rfl, by decide +kernel, rfl, by decide +kernel, by decide +kernel⟩
theorem fv_BadArms {C fI : Addr} {fd : FuncData} (X : XVal K mg "BadArms" "ValueError" "ValueError.__new__" "ValueError.__init__" ["index"] ["index"] si_BadArms C fI fd) : FnOk P w K mg base L2.CX0 1 fI fd ["self", "index"] (spInit C "index") :=
  init_fn (fun env => rfl) xb_ValueError (X.cls "index" (by simp)) X.fn scv_BadArms rfl rfl X.mB X.vV (Or.inl rfl) (Or.inl rfl) rfl rfl
theorem scv_BadMembers : FnScope ["self", "index"] ["self", "index"] (defScope si_BadMembers) := ⟨rfl, rfl, rfl, by decide +kernel, rfl, by decide +kernel, by decide +kernel⟩
theorem fv_BadMembers {C fI : Addr} {fd : FuncData} (X : XVal K mg "BadMembers" "ValueError" "ValueError.__new__" "ValueError.__init__" ["index"] ["index"] si_BadMembers C fI fd) : FnOk P w K mg base L2.CX0 1 fI fd ["self", "index"] (spInit C "index") :=
  init_fn (fun env => rfl) xb_ValueError (X.cls "index" (by simp)) X.fn scv_BadMembers rfl rfl X.mB X.vV (Or.inl rfl) (Or.inl rfl) rfl rfl
theorem scv_Broken : FnScope ["self", "index"] ["self", "index"] (defScope si_Broken) := ⟨rfl, rfl, rfl, by decide +kernel, rfl, by decide +kernel, by decide +kernel⟩
theorem fv_Broken {C fI : Addr} {fd : FuncData} (X : XVal K mg "Broken" "RuntimeError" "RuntimeError.__new__" "RuntimeError.__init__" ["index"] ["index"] si_Broken C fI fd) : FnOk P w K mg base L2.CX0 1 fI fd ["self", "index"] (spInit C "index") :=
  init_fn (fun env => rfl) xb_RuntimeError (X.cls "index" (by simp)) X.fn scv_Broken rfl rfl X.mB X.vV (Or.inl rfl) (Or.inl rfl) rfl rfl
theorem scv_Clash : FnScope ["self", "index", "other"] ["self", "index", "other"] (defScope si_Clash) := ⟨rfl, rfl, rfl, by decide +kernel, rfl, by decide +kernel, by decide +kernel⟩
theorem fv_Clash {C fI : Addr} {fd : FuncData} (X : XVal K mg "Clash" "ValueError" "ValueError.__new__" "ValueError.__init__" ["index", "other"] ["index", "other"] si_Clash C fI fd) : FnOk P w K mg base L2.CX0 1 fI fd ["self", "index", "other"] (spInit2 C "index" "other") :=
  init_fn2 (fun env => rfl) xb_ValueError (X.cls "index" (by simp)) (X.cls "other" (by simp)) X.fn scv_Clash rfl rfl X.mB X.vV (by decide) (Or.inl rfl) (Or.inl rfl) (Or.inl rfl) rfl rfl rfl rfl
theorem scv_Faulty : FnScope ["self", "where"] ["self", "where"] (defScope si_Faulty) := ⟨rfl, rfl, rfl, by decide +kernel, rfl, by decide +kernel, by decide +kernel⟩
theorem fv_Faulty {C fI : Addr} {fd : FuncData} (X : XVal K mg "Faulty" "RuntimeError" "RuntimeError.__new__" "RuntimeError.__init__" ["where"] ["where"] si_Faulty C fI fd) : FnOk P w K mg base L2.CX0 1 fI fd ["self", "where"] (spInit C "where") :=
  init_fn (fun env => rfl) xb_RuntimeError (X.cls "where" (by simp)) X.fn scv_Faulty rfl rfl X.mB X.vV (Or.inl rfl) (Or.inl rfl) rfl rfl
theorem scv_Grows : FnScope ["self", "index", "need"] ["self", "index", "need"] (defScope si_Grows) := ⟨rfl, rfl, rfl, by decide +kernel, rfl, by decide +kernel, by decide +kernel⟩
theorem fv_Grows {C fI : Addr} {fd : FuncData} (X : XVal K mg "Grows" "ValueError" "ValueError.__new__" "ValueError.__init__" ["index", "need"] ["index", "need"] si_Grows C fI fd) : FnOk P w K mg base L2.CX0 1 fI fd ["self", "index", "need"] (spInit2 C "index" "need") :=
  init_fn2 (fun env => rfl) xb_ValueError (X.cls "index" (by simp)) (X.cls "need" (by simp)) X.fn scv_Grows rfl rfl X.mB X.vV (by decide) (Or.inl rfl) (Or.inl rfl) (Or.inl rfl) rfl rfl rfl rfl
theorem scv_Improper : FnScope ["self", "index"] ["self", "index"] (defScope si_Improper) := ⟨rfl, rfl, rfl, by decide +kernel, rfl, by decide +kernel, by decide +kernel⟩
theorem fv_Improper {C fI : Addr} {fd : FuncData} (X : XVal K mg "Improper" "ValueError" "ValueError.__new__" "ValueError.__init__" ["index"] ["index"] si_Improper C fI fd) : FnOk P w K mg base L2.CX0 1 fI fd ["self", "index"] (spInit C "index") :=
  init_fn (fun env => rfl) xb_ValueError (X.cls "index" (by simp)) X.fn scv_Improper rfl rfl X.mB X.vV (Or.inl rfl) (Or.inl rfl) rfl rfl
theorem scv_InvalidCount : FnScope ["self", "number"] ["self", "number"] (defScope si_InvalidCount) := ⟨rfl, rfl, rfl, by decide +kernel, rfl, by decide +kernel, by decide +kernel⟩
theorem fv_InvalidCount {C fI : Addr} {fd : FuncData} (X : XVal K mg "InvalidCount" "ValueError" "ValueError.__new__" "ValueError.__init__" ["number"] ["number"] si_InvalidCount C fI fd) : FnOk P w K mg base L2.CX0 1 fI fd ["self", "number"] (spInit C "number") :=
  init_fn (fun env => rfl) xb_ValueError (X.cls "number" (by simp)) X.fn scv_InvalidCount rfl rfl X.mB X.vV (Or.inl rfl) (Or.inl rfl) rfl rfl
theorem scv_InvalidDeclaration : FnScope ["self", "index"] ["self", "index"] (defScope si_InvalidDeclaration) := ⟨rfl, rfl, rfl, by decide +kernel, rfl, by decide +kernel, by decide +kernel⟩
theorem fv_InvalidDeclaration {C fI : Addr} {fd : FuncData} (X : XVal K mg "InvalidDeclaration" "ValueError" "ValueError.__new__" "ValueError.__init__" ["index"] ["index"] si_InvalidDeclaration C fI fd) : FnOk P w K mg base L2.CX0 1 fI fd ["self", "index"] (spInit C "index") :=
  init_fn (fun env => rfl) xb_ValueError (X.cls "index" (by simp)) X.fn scv_InvalidDeclaration rfl rfl X.mB X.vV (Or.inl rfl) (Or.inl rfl) rfl rfl
theorem scv_InvalidDeed : FnScope ["self", "index"] ["self", "index"] (defScope si_InvalidDeed) := ⟨rfl, rfl, rfl, by decide +kernel, rfl, by decide +kernel, by decide +kernel⟩
theorem fv_InvalidDeed {C fI : Addr} {fd : FuncData} (X : XVal K mg "InvalidDeed" "ValueError" "ValueError.__new__" "ValueError.__init__" ["index"] ["index"] si_InvalidDeed C fI fd) : FnOk P w K mg base L2.CX0 1 fI fd ["self", "index"] (spInit C "index") :=
  init_fn (fun env => rfl) xb_ValueError (X.cls "index" (by simp)) X.fn scv_InvalidDeed rfl rfl X.mB X.vV (Or.inl rfl) (Or.inl rfl) rfl rfl
theorem scv_InvalidForm : FnScope ["self", "word"] ["self", "word"] (defScope si_InvalidForm) := ⟨rfl, rfl, rfl, by decide +kernel, rfl, by decide +kernel, by decide +kernel⟩
theorem fv_InvalidForm {C fI : Addr} {fd : FuncData} (X : XVal K mg "InvalidForm" "ValueError" "ValueError.__new__" "ValueError.__init__" ["word"] ["word"] si_InvalidForm C fI fd) : FnOk P w K mg base L2.CX0 1 fI fd ["self", "word"] (spInit C "word") :=
  init_fn (fun env => rfl) xb_ValueError (X.cls "word" (by simp)) X.fn scv_InvalidForm rfl rfl X.mB X.vV (Or.inl rfl) (Or.inl rfl) rfl rfl
theorem scv_InvalidGuard : FnScope ["self", "index"] ["self", "index"] (defScope si_InvalidGuard) := ⟨rfl, rfl, rfl, by decide +kernel, rfl, by decide +kernel, by decide +kernel⟩
theorem fv_InvalidGuard {C fI : Addr} {fd : FuncData} (X : XVal K mg "InvalidGuard" "ValueError" "ValueError.__new__" "ValueError.__init__" ["index"] ["index"] si_InvalidGuard C fI fd) : FnOk P w K mg base L2.CX0 1 fI fd ["self", "index"] (spInit C "index") :=
  init_fn (fun env => rfl) xb_ValueError (X.cls "index" (by simp)) X.fn scv_InvalidGuard rfl rfl X.mB X.vV (Or.inl rfl) (Or.inl rfl) rfl rfl
theorem scv_InvalidKind : FnScope ["self", "value"] ["self", "value"] (defScope si_InvalidKind) := ⟨rfl, rfl, rfl, by decide +kernel, rfl, by decide +kernel, by decide +kernel⟩
theorem fv_InvalidKind {C fI : Addr} {fd : FuncData} (X : XVal K mg "InvalidKind" "ValueError" "ValueError.__new__" "ValueError.__init__" ["value"] ["value"] si_InvalidKind C fI fd) : FnOk P w K mg base L2.CX0 1 fI fd ["self", "value"] (spInit C "value") :=
  init_fn (fun env => rfl) xb_ValueError (X.cls "value" (by simp)) X.fn scv_InvalidKind rfl rfl X.mB X.vV (Or.inl rfl) (Or.inl rfl) rfl rfl
theorem scv_InvalidLimit : FnScope ["self", "limit"] ["self", "limit"] (defScope si_InvalidLimit) := ⟨rfl, rfl, rfl, by decide +kernel, rfl, by decide +kernel, by decide +kernel⟩
theorem fv_InvalidLimit {C fI : Addr} {fd : FuncData} (X : XVal K mg "InvalidLimit" "ValueError" "ValueError.__new__" "ValueError.__init__" ["limit"] ["limit"] si_InvalidLimit C fI fd) : FnOk P w K mg base L2.CX0 1 fI fd ["self", "limit"] (spInit C "limit") :=
  init_fn (fun env => rfl) xb_ValueError (X.cls "limit" (by simp)) X.fn scv_InvalidLimit rfl rfl X.mB X.vV (Or.inl rfl) (Or.inl rfl) rfl rfl
theorem scv_InvalidMarked : FnScope ["self", "index"] ["self", "index"] (defScope si_InvalidMarked) := ⟨rfl, rfl, rfl, by decide +kernel, rfl, by decide +kernel, by decide +kernel⟩
theorem fv_InvalidMarked {C fI : Addr} {fd : FuncData} (X : XVal K mg "InvalidMarked" "ValueError" "ValueError.__new__" "ValueError.__init__" ["index"] ["index"] si_InvalidMarked C fI fd) : FnOk P w K mg base L2.CX0 1 fI fd ["self", "index"] (spInit C "index") :=
  init_fn (fun env => rfl) xb_ValueError (X.cls "index" (by simp)) X.fn scv_InvalidMarked rfl rfl X.mB X.vV (Or.inl rfl) (Or.inl rfl) rfl rfl
theorem scv_InvalidNeed : FnScope ["self", "value"] ["self", "value"] (defScope si_InvalidNeed) := ⟨rfl, rfl, rfl, by decide +kernel, rfl, by decide +kernel, by decide +kernel⟩
theorem fv_InvalidNeed {C fI : Addr} {fd : FuncData} (X : XVal K mg "InvalidNeed" "ValueError" "ValueError.__new__" "ValueError.__init__" ["value"] ["value"] si_InvalidNeed C fI fd) : FnOk P w K mg base L2.CX0 1 fI fd ["self", "value"] (spInit C "value") :=
  init_fn (fun env => rfl) xb_ValueError (X.cls "value" (by simp)) X.fn scv_InvalidNeed rfl rfl X.mB X.vV (Or.inl rfl) (Or.inl rfl) rfl rfl
theorem scv_InvalidPicks : FnScope ["self"] ["self"] (defScope si_InvalidPicks) := ⟨rfl, rfl, rfl, by decide +kernel, rfl, by decide +kernel, by decide +kernel⟩
theorem fv_InvalidPicks {C fI : Addr} {fd : FuncData} (X : XVal K mg "InvalidPicks" "ValueError" "ValueError.__new__" "ValueError.__init__" [] [] si_InvalidPicks C fI fd) : FnOk P w K mg base L2.CX0 1 fI fd ["self"] (spInit0 C) :=
  init_fn0 (fun env => rfl) xb_ValueError (X.cls "" (by simp)) X.fn scv_InvalidPicks rfl rfl X.mB X.vV (Or.inl rfl)
theorem scv_InvalidScheme : FnScope ["self", "value"] ["self", "value"] (defScope si_InvalidScheme) := ⟨rfl, rfl, rfl, by decide +kernel, rfl, by decide +kernel, by decide +kernel⟩
theorem fv_InvalidScheme {C fI : Addr} {fd : FuncData} (X : XVal K mg "InvalidScheme" "ValueError" "ValueError.__new__" "ValueError.__init__" ["value"] ["value"] si_InvalidScheme C fI fd) : FnOk P w K mg base L2.CX0 1 fI fd ["self", "value"] (spInit C "value") :=
  init_fn (fun env => rfl) xb_ValueError (X.cls "value" (by simp)) X.fn scv_InvalidScheme rfl rfl X.mB X.vV (Or.inl rfl) (Or.inl rfl) rfl rfl
theorem scv_InvalidText : FnScope ["self", "line", "piece"] ["self", "line", "piece"] (defScope si_InvalidText) := ⟨rfl, rfl, rfl, by decide +kernel, rfl, by decide +kernel, by decide +kernel⟩
theorem fv_InvalidText {C fI : Addr} {fd : FuncData} (X : XVal K mg "InvalidText" "ValueError" "ValueError.__new__" "ValueError.__init__" ["line", "piece"] ["line", "piece"] si_InvalidText C fI fd) : FnOk P w K mg base L2.CX0 1 fI fd ["self", "line", "piece"] (spInit2 C "line" "piece") :=
  init_fn2 (fun env => rfl) xb_ValueError (X.cls "line" (by simp)) (X.cls "piece" (by simp)) X.fn scv_InvalidText rfl rfl X.mB X.vV (by decide) (Or.inl rfl) (Or.inl rfl) (Or.inl rfl) rfl rfl rfl rfl
theorem scv_InvalidValue : FnScope ["self", "index"] ["self", "index"] (defScope si_InvalidValue) := ⟨rfl, rfl, rfl, by decide +kernel, rfl, by decide +kernel, by decide +kernel⟩
theorem fv_InvalidValue {C fI : Addr} {fd : FuncData} (X : XVal K mg "InvalidValue" "ValueError" "ValueError.__new__" "ValueError.__init__" ["index"] ["index"] si_InvalidValue C fI fd) : FnOk P w K mg base L2.CX0 1 fI fd ["self", "index"] (spInit C "index") :=
  init_fn (fun env => rfl) xb_ValueError (X.cls "index" (by simp)) X.fn scv_InvalidValue rfl rfl X.mB X.vV (Or.inl rfl) (Or.inl rfl) rfl rfl
theorem scv_Known : FnScope ["self", "index"] ["self", "index"] (defScope si_Known) := ⟨rfl, rfl, rfl, by decide +kernel, rfl, by decide +kernel, by decide +kernel⟩
theorem fv_Known {C fI : Addr} {fd : FuncData} (X : XVal K mg "Known" "LookupError" "LookupError.__new__" "LookupError.__init__" ["index"] ["index"] si_Known C fI fd) : FnOk P w K mg base L2.CX0 1 fI fd ["self", "index"] (spInit C "index") :=
  init_fn (fun env => rfl) xb_LookupError (X.cls "index" (by simp)) X.fn scv_Known rfl rfl X.mB X.vV (Or.inl rfl) (Or.inl rfl) rfl rfl
theorem scv_Misshapen : FnScope ["self", "index"] ["self", "index"] (defScope si_Misshapen) := ⟨rfl, rfl, rfl, by decide +kernel, rfl, by decide +kernel, by decide +kernel⟩
theorem fv_Misshapen {C fI : Addr} {fd : FuncData} (X : XVal K mg "Misshapen" "ValueError" "ValueError.__new__" "ValueError.__init__" ["index"] ["index"] si_Misshapen C fI fd) : FnOk P w K mg base L2.CX0 1 fI fd ["self", "index"] (spInit C "index") :=
  init_fn (fun env => rfl) xb_ValueError (X.cls "index" (by simp)) X.fn scv_Misshapen rfl rfl X.mB X.vV (Or.inl rfl) (Or.inl rfl) rfl rfl
theorem scv_Missing : FnScope ["self", "index"] ["self", "index"] (defScope si_Missing) := ⟨rfl, rfl, rfl, by decide +kernel, rfl, by decide +kernel, by decide +kernel⟩
theorem fv_Missing {C fI : Addr} {fd : FuncData} (X : XVal K mg "Missing" "LookupError" "LookupError.__new__" "LookupError.__init__" ["index"] ["index"] si_Missing C fI fd) : FnOk P w K mg base L2.CX0 1 fI fd ["self", "index"] (spInit C "index") :=
  init_fn (fun env => rfl) xb_LookupError (X.cls "index" (by simp)) X.fn scv_Missing rfl rfl X.mB X.vV (Or.inl rfl) (Or.inl rfl) rfl rfl
theorem scv_NoCore : FnScope ["self", "where"] ["self", "where"] (defScope si_NoCore) := ⟨rfl, rfl, rfl, by decide +kernel, rfl, by decide +kernel, by decide +kernel⟩
theorem fv_NoCore {C fI : Addr} {fd : FuncData} (X : XVal K mg "NoCore" "LookupError" "LookupError.__new__" "LookupError.__init__" ["where"] ["where"] si_NoCore C fI fd) : FnOk P w K mg base L2.CX0 1 fI fd ["self", "where"] (spInit C "where") :=
  init_fn (fun env => rfl) xb_LookupError (X.cls "where" (by simp)) X.fn scv_NoCore rfl rfl X.mB X.vV (Or.inl rfl) (Or.inl rfl) rfl rfl
theorem scv_NoDefinition : FnScope ["self", "word"] ["self", "word"] (defScope si_NoDefinition) := ⟨rfl, rfl, rfl, by decide +kernel, rfl, by decide +kernel, by decide +kernel⟩
theorem fv_NoDefinition {C fI : Addr} {fd : FuncData} (X : XVal K mg "NoDefinition" "LookupError" "LookupError.__new__" "LookupError.__init__" ["word"] ["word"] si_NoDefinition C fI fd) : FnOk P w K mg base L2.CX0 1 fI fd ["self", "word"] (spInit C "word") :=
  init_fn (fun env => rfl) xb_LookupError (X.cls "word" (by simp)) X.fn scv_NoDefinition rfl rfl X.mB X.vV (Or.inl rfl) (Or.inl rfl) rfl rfl
theorem scv_NoPrimitive : FnScope ["self", "word"] ["self", "word"] (defScope si_NoPrimitive) := ⟨rfl, rfl, rfl, by decide +kernel, rfl, by decide +kernel, by decide +kernel⟩
theorem fv_NoPrimitive {C fI : Addr} {fd : FuncData} (X : XVal K mg "NoPrimitive" "LookupError" "LookupError.__new__" "LookupError.__init__" ["word"] ["word"] si_NoPrimitive C fI fd) : FnOk P w K mg base L2.CX0 1 fI fd ["self", "word"] (spInit C "word") :=
  init_fn (fun env => rfl) xb_LookupError (X.cls "word" (by simp)) X.fn scv_NoPrimitive rfl rfl X.mB X.vV (Or.inl rfl) (Or.inl rfl) rfl rfl
theorem scv_NotClosed : FnScope ["self", "word"] ["self", "word"] (defScope si_NotClosed) := ⟨rfl, rfl, rfl, by decide +kernel, rfl, by decide +kernel, by decide +kernel⟩
theorem fv_NotClosed {C fI : Addr} {fd : FuncData} (X : XVal K mg "NotClosed" "ValueError" "ValueError.__new__" "ValueError.__init__" ["word"] ["word"] si_NotClosed C fI fd) : FnOk P w K mg base L2.CX0 1 fI fd ["self", "word"] (spInit C "word") :=
  init_fn (fun env => rfl) xb_ValueError (X.cls "word" (by simp)) X.fn scv_NotClosed rfl rfl X.mB X.vV (Or.inl rfl) (Or.inl rfl) rfl rfl
theorem scv_OutOfRange : FnScope ["self", "value"] ["self", "value"] (defScope si_OutOfRange) := ⟨rfl, rfl, rfl, by decide +kernel, rfl, by decide +kernel, by decide +kernel⟩
theorem fv_OutOfRange {C fI : Addr} {fd : FuncData} (X : XVal K mg "OutOfRange" "LookupError" "LookupError.__new__" "LookupError.__init__" ["value"] ["value"] si_OutOfRange C fI fd) : FnOk P w K mg base L2.CX0 1 fI fd ["self", "value"] (spInit C "value") :=
  init_fn (fun env => rfl) xb_LookupError (X.cls "value" (by simp)) X.fn scv_OutOfRange rfl rfl X.mB X.vV (Or.inl rfl) (Or.inl rfl) rfl rfl
theorem scv_OutOfTerm : FnScope ["self", "place"] ["self", "place"] (defScope si_OutOfTerm) := ⟨rfl, rfl, rfl, by decide +kernel, rfl, by decide +kernel, by decide +kernel⟩
theorem fv_OutOfTerm {C fI : Addr} {fd : FuncData} (X : XVal K mg "OutOfTerm" "LookupError" "LookupError.__new__" "LookupError.__init__" ["place"] ["place"] si_OutOfTerm C fI fd) : FnOk P w K mg base L2.CX0 1 fI fd ["self", "place"] (spInit C "place") :=
  init_fn (fun env => rfl) xb_LookupError (X.cls "place" (by simp)) X.fn scv_OutOfTerm rfl rfl X.mB X.vV (Or.inl rfl) (Or.inl rfl) rfl rfl
theorem scv_Repeated : FnScope ["self", "index"] ["self", "index"] (defScope si_Repeated) := ⟨rfl, rfl, rfl, by decide +kernel, rfl, by decide +kernel, by decide +kernel⟩
theorem fv_Repeated {C fI : Addr} {fd : FuncData} (X : XVal K mg "Repeated" "ValueError" "ValueError.__new__" "ValueError.__init__" ["index"] ["index"] si_Repeated C fI fd) : FnOk P w K mg base L2.CX0 1 fI fd ["self", "index"] (spInit C "index") :=
  init_fn (fun env => rfl) xb_ValueError (X.cls "index" (by simp)) X.fn scv_Repeated rfl rfl X.mB X.vV (Or.inl rfl) (Or.inl rfl) rfl rfl
theorem scv_RoleRing : FnScope ["self", "index"] ["self", "index"] (defScope si_RoleRing) := ⟨rfl, rfl, rfl, by decide +kernel, rfl, by decide +kernel, by decide +kernel⟩
theorem fv_RoleRing {C fI : Addr} {fd : FuncData} (X : XVal K mg "RoleRing" "ValueError" "ValueError.__new__" "ValueError.__init__" ["index"] ["index"] si_RoleRing C fI fd) : FnOk P w K mg base L2.CX0 1 fI fd ["self", "index"] (spInit C "index") :=
  init_fn (fun env => rfl) xb_ValueError (X.cls "index" (by simp)) X.fn scv_RoleRing rfl rfl X.mB X.vV (Or.inl rfl) (Or.inl rfl) rfl rfl
theorem scv_Uncovered : FnScope ["self", "index"] ["self", "index"] (defScope si_Uncovered) := ⟨rfl, rfl, rfl, by decide +kernel, rfl, by decide +kernel, by decide +kernel⟩
theorem fv_Uncovered {C fI : Addr} {fd : FuncData} (X : XVal K mg "Uncovered" "ValueError" "ValueError.__new__" "ValueError.__init__" ["index"] ["index"] si_Uncovered C fI fd) : FnOk P w K mg base L2.CX0 1 fI fd ["self", "index"] (spInit C "index") :=
  init_fn (fun env => rfl) xb_ValueError (X.cls "index" (by simp)) X.fn scv_Uncovered rfl rfl X.mB X.vV (Or.inl rfl) (Or.inl rfl) rfl rfl
theorem scv_Underivable : FnScope ["self", "word", "need"] ["self", "word", "need"] (defScope si_Underivable) := ⟨rfl, rfl, rfl, by decide +kernel, rfl, by decide +kernel, by decide +kernel⟩
theorem fv_Underivable {C fI : Addr} {fd : FuncData} (X : XVal K mg "Underivable" "ValueError" "ValueError.__new__" "ValueError.__init__" ["word", "need"] ["word", "need"] si_Underivable C fI fd) : FnOk P w K mg base L2.CX0 1 fI fd ["self", "word", "need"] (spInit2 C "word" "need") :=
  init_fn2 (fun env => rfl) xb_ValueError (X.cls "word" (by simp)) (X.cls "need" (by simp)) X.fn scv_Underivable rfl rfl X.mB X.vV (by decide) (Or.inl rfl) (Or.inl rfl) (Or.inl rfl) rfl rfl rfl rfl
theorem scv_Unknown : FnScope ["self", "index", "word"] ["self", "index", "word"] (defScope si_Unknown) := ⟨rfl, rfl, rfl, by decide +kernel, rfl, by decide +kernel, by decide +kernel⟩
theorem fv_Unknown {C fI : Addr} {fd : FuncData} (X : XVal K mg "Unknown" "LookupError" "LookupError.__new__" "LookupError.__init__" ["index", "word"] ["index", "word"] si_Unknown C fI fd) : FnOk P w K mg base L2.CX0 1 fI fd ["self", "index", "word"] (spInit2 C "index" "word") :=
  init_fn2 (fun env => rfl) xb_LookupError (X.cls "index" (by simp)) (X.cls "word" (by simp)) X.fn scv_Unknown rfl rfl X.mB X.vV (by decide) (Or.inl rfl) (Or.inl rfl) (Or.inl rfl) rfl rfl rfl rfl
theorem scv_UnknownName : FnScope ["self", "value"] ["self", "value"] (defScope si_UnknownName) := ⟨rfl, rfl, rfl, by decide +kernel, rfl, by decide +kernel, by decide +kernel⟩
theorem fv_UnknownName {C fI : Addr} {fd : FuncData} (X : XVal K mg "UnknownName" "LookupError" "LookupError.__new__" "LookupError.__init__" ["value"] ["value"] si_UnknownName C fI fd) : FnOk P w K mg base L2.CX0 1 fI fd ["self", "value"] (spInit C "value") :=
  init_fn (fun env => rfl) xb_LookupError (X.cls "value" (by simp)) X.fn scv_UnknownName rfl rfl X.mB X.vV (Or.inl rfl) (Or.inl rfl) rfl rfl
theorem scv_Unmet : FnScope ["self", "need"] ["self", "need"] (defScope si_Unmet) := ⟨rfl, rfl, rfl, by decide +kernel, rfl, by decide +kernel, by decide +kernel⟩
theorem fv_Unmet {C fI : Addr} {fd : FuncData} (X : XVal K mg "Unmet" "LookupError" "LookupError.__new__" "LookupError.__init__" ["need"] ["need"] si_Unmet C fI fd) : FnOk P w K mg base L2.CX0 1 fI fd ["self", "need"] (spInit C "need") :=
  init_fn (fun env => rfl) xb_LookupError (X.cls "need" (by simp)) X.fn scv_Unmet rfl rfl X.mB X.vV (Or.inl rfl) (Or.inl rfl) rfl rfl
theorem scv_Unsupported : FnScope ["self", "index", "number"] ["self", "index", "number"] (defScope si_Unsupported) := ⟨rfl, rfl, rfl, by decide +kernel, rfl, by decide +kernel, by decide +kernel⟩
theorem fv_Unsupported {C fI : Addr} {fd : FuncData} (X : XVal K mg "Unsupported" "ValueError" "ValueError.__new__" "ValueError.__init__" ["index", "number"] ["index", "number"] si_Unsupported C fI fd) : FnOk P w K mg base L2.CX0 1 fI fd ["self", "index", "number"] (spInit2 C "index" "number") :=
  init_fn2 (fun env => rfl) xb_ValueError (X.cls "index" (by simp)) (X.cls "number" (by simp)) X.fn scv_Unsupported rfl rfl X.mB X.vV (by decide) (Or.inl rfl) (Or.inl rfl) (Or.inl rfl) rfl rfl rfl rfl
theorem scv_Wrong : FnScope ["self", "found"] ["self", "found"] (defScope si_Wrong) := ⟨rfl, rfl, rfl, by decide +kernel, rfl, by decide +kernel, by decide +kernel⟩
theorem fv_Wrong {C fI : Addr} {fd : FuncData} (X : XVal K mg "Wrong" "RuntimeError" "RuntimeError.__new__" "RuntimeError.__init__" ["found"] ["found"] si_Wrong C fI fd) : FnOk P w K mg base L2.CX0 1 fI fd ["self", "found"] (spInit C "found") :=
  init_fn (fun env => rfl) xb_RuntimeError (X.cls "found" (by simp)) X.fn scv_Wrong rfl rfl X.mB X.vV (Or.inl rfl) (Or.inl rfl) rfl rfl
theorem sc_f_begin_l : FnScope ["_law_script"] ["_law_script"] (defScope s_f_begin_l) := ⟨rfl, rfl, rfl, by decide +kernel, rfl, by decide +kernel, by decide +kernel⟩
theorem sc_f_draw_l : FnScope ["_law_tape", "_law_many", "_law_got", "_law_spot", "_law_size", "_law_cell"] ["_law_tape", "_law_many"] (defScope s_f_draw_l) := ⟨rfl, rfl, rfl, by decide +kernel, rfl, by decide +kernel, by decide +kernel⟩
theorem sc_f_pick_l : FnScope ["_law_tape", "_law_items"] ["_law_tape", "_law_items"] (defScope s_f_pick_l) := ⟨rfl, rfl, rfl, by decide +kernel, rfl, by decide +kernel, by decide +kernel⟩
theorem sc_f_odd_l : FnScope ["_law_tape", "_law_some"] ["_law_tape"] (defScope s_f_odd_l) := ⟨rfl, rfl, rfl, by decide +kernel, rfl, by decide +kernel, by decide +kernel⟩
theorem sc_f_errors_a_l : FnScope ["_law_x", "_law_y", "_law_rows", "_law_e", "_law_f"] ["_law_x", "_law_y"] (defScope s_f_errors_a_l) := ⟨rfl, rfl, rfl, by decide +kernel, rfl, by decide +kernel, by decide +kernel⟩
theorem sc_f_errors_b_l : FnScope ["_law_x", "_law_y", "_law_rows", "_law_e", "_law_f"] ["_law_x", "_law_y"] (defScope s_f_errors_b_l) := ⟨rfl, rfl, rfl, by decide +kernel, rfl, by decide +kernel, by decide +kernel⟩
theorem sc_f_errors_c_l : FnScope ["_law_x", "_law_y", "_law_rows", "_law_e", "_law_f"] ["_law_x", "_law_y"] (defScope s_f_errors_c_l) := ⟨rfl, rfl, rfl, by decide +kernel, rfl, by decide +kernel, by decide +kernel⟩
theorem sc_f_flags_l : FnScope ["_law_e", "_law_rows"] ["_law_e"] (defScope s_f_flags_l) := ⟨rfl, rfl, rfl, by decide +kernel, rfl, by decide +kernel, by decide +kernel⟩
theorem sc_f_sorts_l : FnScope ["_law_e", "_law_flags_here", "_law_sort", "_law_flag"] ["_law_e"] (defScope s_f_sorts_l) := ⟨rfl, rfl, rfl, by decide +kernel, rfl, by decide +kernel, by decide +kernel⟩
theorem sc_f_law : FnScope ["_law_script", "_law_tape", "_law_turn", "_law_alone", "_law_x", "_law_y", "_law_kept", "_law_flags_here", "_law_e", "_law_told", "_law_due", "_law_sort", "_law_k", "_law_j"] ["_law_script"] (defScope s_f_law) := ⟨rfl, rfl, rfl, by decide +kernel, rfl, by decide +kernel, by decide +kernel⟩
set_option maxHeartbeats 4000000 in
theorem ok_f_begin_l (T : Tops K mg w ad fd ) (R : Rk P w K mg base ad fd (k + 2) r) : FnX P w K mg base (k + 3) (ad .f_begin_l) (fd .f_begin_l) ["_law_script"] (spX K 1 (runF 1 (b_f_begin_l r))) := by
  refine fnX_data T.fn_f_begin_l sc_f_begin_l rfl rfl _ fun cdv A outer s H E C po => ?_
  unfold b_f_begin_l
  exact (dss_one (ds_ret (de_dispM (.cons de_str (de_or (de_slice (de_var 0) do_none (do_some de_int)) (de_one (de_lst (da_cons de_int da_nil)))) (.cons de_str de_int (.cons de_str de_int .nil))))))
set_option maxHeartbeats 4000000 in
theorem ok_f_draw_l (T : Tops K mg w ad fd ) (R : Rk P w K mg base ad fd (k + 2) r) : FnX P w K mg base (k + 3) (ad .f_draw_l) (fd .f_draw_l) ["_law_tape", "_law_many"] (spX K 2 (runF 6 (b_f_draw_l r))) := by
  refine fnX_data T.fn_f_draw_l sc_f_draw_l rfl rfl _ fun cdv A outer s H E C po => ?_
  unfold b_f_draw_l f_draw_l_1
  exact (dss_cons (ds_if (dt_lt  (de_subs C.u1 (de_var 0) de_str) (de_var 1)) (dss_cons (ds_par (i := 3) (j := 4) rfl sc_f_draw_l.nd rfl rfl (by decide) rfl rfl (da_cons (de_subs C.u1 (de_var 0) de_str) (da_cons (de_len rfl T.b_len (da_cons (de_subs C.u1 (de_var 0) de_str) da_nil)) da_nil)))
    (dss_cons (ds_asgTT (vs := [5]) rfl (da_cons (de_subs C.u1 (de_subs C.u1 (de_var 0) de_str) (de_mod (de_int1 rfl T.b_int (da_cons (de_var 3) da_nil)) (de_var 4))) (da_cons (de_add (de_var 3) de_int) da_nil)) (dgs_cons (dg_name (i := 5) sc_f_draw_l.nd rfl (by first | exact Or.inl rfl | exact Or.inr rfl) (by decide)) (dgs_cons (dg_sub (W := W0) C.u1 (de_var 0) de_str) dgs_nil)) (hd := (lenCons (lenCons lenNil))))
    (dss_cons (ds_asg (vs := []) (de_mod (de_int1 rfl T.b_int (da_cons (de_pow (de_add (de_add (de_mod (de_int1 rfl T.b_int (da_cons (de_var 5) da_nil)) de_int) (de_mulX de_int (de_var 3))) de_int) de_int) da_nil)) (de_add (de_pow de_int de_int) de_int)) (dg_sub (W := W0) C.u1 (de_var 0) de_str))
    (dss_one (ds_if (dt_bool (dw_and (dt_ge  (de_var 5) (de_pow de_int de_int)) (dt_and1 (dt_lt  (de_var 3) (de_var 4))))) (dss_one (ds_asg (vs := []) (de_sub (de_var 5) (de_pow de_int de_int)) (dg_sub (W := W0) C.u1 (de_var 0) de_str))) dss_nil))))) dss_nil)
    (dss_cons (ds_asgTT (vs := [2]) rfl (da_cons (de_mod (de_int1 rfl T.b_int (da_cons (de_subs C.u1 (de_var 0) de_str) da_nil)) (de_var 1)) (da_cons (de_divX (de_subs C.u1 (de_var 0) de_str) (de_var 1)) da_nil)) (dgs_cons (dg_name (i := 2) sc_f_draw_l.nd rfl (by first | exact Or.inl rfl | exact Or.inr rfl) (by decide)) (dgs_cons (dg_sub (W := W0) C.u1 (de_var 0) de_str) dgs_nil)) (hd := (lenCons (lenCons lenNil))))
    (dss_one (ds_ret (de_var 2)))))
set_option maxHeartbeats 4000000 in
theorem ok_f_pick_l (T : Tops K mg w ad fd ) (R : Rk P w K mg base ad fd (k + 2) r) : FnX P w K mg base (k + 3) (ad .f_pick_l) (fd .f_pick_l) ["_law_tape", "_law_items"] (spX K 2 (runF 2 (b_f_pick_l r))) := by
  refine fnX_data T.fn_f_pick_l sc_f_pick_l rfl rfl _ fun cdv A outer s H E C po => ?_
  unfold b_f_pick_l
  exact (dss_one (ds_ret (de_subs C.u1 (de_var 1) (de_callX R.f_draw_l C rfl T.m_f_draw_l T.kp_f_draw_l T.b_f_draw_l (da_cons (de_var 0) (da_cons (de_len rfl T.b_len (da_cons (de_var 1) da_nil)) da_nil))))))
set_option maxHeartbeats 4000000 in
theorem ok_f_odd_l (T : Tops K mg w ad fd ) (R : Rk P w K mg base ad fd (k + 2) r) : FnX P w K mg base (k + 3) (ad .f_odd_l) (fd .f_odd_l) ["_law_tape"] (spX K 1 (runF 2 (b_f_odd_l r))) := by
  refine fnX_data T.fn_f_odd_l sc_f_odd_l rfl rfl _ fun cdv A outer s H E C po => ?_
  unfold b_f_odd_l
  exact (dss_cons (ds_set (i := 1) sc_f_odd_l.nd rfl (by first | exact Or.inl rfl | exact Or.inr rfl) (de_lst (da_cons de_non (da_cons de_bl (da_cons de_bl (da_cons de_int (da_cons de_int (da_cons (de_neg de_int) (da_cons de_int (da_cons (de_pow de_int de_int) (da_cons de_str (da_cons de_str (da_cons de_str (da_cons de_str (da_cons de_str (da_cons de_str (da_cons de_str (da_cons (de_tup da_nil) (da_cons (de_lst da_nil) (da_cons de_dnewL (da_cons (de_tup (da_cons de_str da_nil)) da_nil)))))))))))))))))))))
    (dss_cons (ds_set (i := 1) sc_f_odd_l.nd rfl (by first | exact Or.inl rfl | exact Or.inr rfl) (de_addX (de_var 1) (de_lst (da_cons (de_lst (da_cons de_str da_nil)) (da_cons (de_tup (da_cons de_int da_nil)) (da_cons (de_tup (da_cons de_int (da_cons de_int da_nil))) (da_cons (de_lst (da_cons de_int da_nil)) (da_cons (de_tup (da_cons (de_tup (da_cons de_str da_nil)) da_nil)) (da_cons (de_dispL (.cons de_str de_int .nil)) (da_cons (de_tup (da_cons de_str (da_cons de_str da_nil))) (da_cons (de_tup (da_cons de_str (da_cons de_str da_nil))) (da_cons (de_tup (da_cons de_str (da_cons de_str da_nil))) (da_cons (de_tup (da_cons de_non da_nil)) da_nil)))))))))))))
    (dss_cons (ds_set (i := 1) sc_f_odd_l.nd rfl (by first | exact Or.inl rfl | exact Or.inr rfl) (de_addX (de_var 1) (de_lst (da_cons (de_tup (da_cons de_str (da_cons (de_tup (da_cons de_str (da_cons de_str da_nil))) da_nil))) (da_cons (de_tup (da_cons de_str (da_cons de_int da_nil))) (da_cons de_str (da_cons (de_tup (da_cons de_int (da_cons de_int da_nil))) (da_cons (de_tup (da_cons de_str (da_cons de_bl da_nil))) (da_cons (de_lst (da_cons (de_tup da_nil) da_nil)) (da_cons de_int (da_cons (de_tup (da_cons de_str (da_cons (de_tup da_nil) da_nil))) da_nil)))))))))))
    (dss_one (ds_ret (de_callX R.f_pick_l C rfl T.m_f_pick_l T.kp_f_pick_l T.b_f_pick_l (da_cons (de_var 0) (da_cons (de_addX (de_var 1) (de_lst (da_cons (de_tup (da_cons de_str (da_cons de_int (da_cons (de_tup da_nil) da_nil)))) (da_cons (de_tup (da_cons de_str (da_cons de_str (da_cons (de_tup da_nil) da_nil)))) (da_cons (de_tup (da_cons de_str (da_cons de_int da_nil))) (da_cons (de_tup (da_cons de_str da_nil)) (da_cons (de_tup (da_cons de_str (da_cons de_str da_nil))) (da_cons de_dnewL da_nil)))))))) da_nil))))))))
set_option maxHeartbeats 4000000 in
theorem ok_f_errors_a_l (T : Tops K mg w ad fd ) (R : Rk P w K mg base ad fd (k + 2) r) : FnX P w K mg base (k + 3) (ad .f_errors_a_l) (fd .f_errors_a_l) ["_law_x", "_law_y"] (spX K 2 (runF 5 (b_f_errors_a_l r))) := by
  obtain ⟨D_BadArms, gI_BadArms, gd_BadArms, V_BadArms, KV_BadArms⟩ := T.v_BadArms
  obtain ⟨D_BadMembers, gI_BadMembers, gd_BadMembers, V_BadMembers, KV_BadMembers⟩ := T.v_BadMembers
  obtain ⟨D_Clash, gI_Clash, gd_Clash, V_Clash, KV_Clash⟩ := T.v_Clash
  obtain ⟨D_Grows, gI_Grows, gd_Grows, V_Grows, KV_Grows⟩ := T.v_Grows
  obtain ⟨D_InvalidDeclaration, gI_InvalidDeclaration, gd_InvalidDeclaration, V_InvalidDeclaration, KV_InvalidDeclaration⟩ := T.v_InvalidDeclaration
  obtain ⟨D_InvalidForm, gI_InvalidForm, gd_InvalidForm, V_InvalidForm, KV_InvalidForm⟩ := T.v_InvalidForm
  obtain ⟨D_InvalidPicks, gI_InvalidPicks, gd_InvalidPicks, V_InvalidPicks⟩ := T.v_InvalidPicks
  obtain ⟨D_Misshapen, gI_Misshapen, gd_Misshapen, V_Misshapen, KV_Misshapen⟩ := T.v_Misshapen
  obtain ⟨D_Repeated, gI_Repeated, gd_Repeated, V_Repeated, KV_Repeated⟩ := T.v_Repeated
  obtain ⟨D_RoleRing, gI_RoleRing, gd_RoleRing, V_RoleRing, KV_RoleRing⟩ := T.v_RoleRing
  obtain ⟨D_Uncovered, gI_Uncovered, gd_Uncovered, V_Uncovered, KV_Uncovered⟩ := T.v_Uncovered
  obtain ⟨D_Underivable, gI_Underivable, gd_Underivable, V_Underivable, KV_Underivable⟩ := T.v_Underivable
  obtain ⟨D_Unsupported, gI_Unsupported, gd_Unsupported, V_Unsupported, KV_Unsupported⟩ := T.v_Unsupported
  refine fnX_data T.fn_f_errors_a_l sc_f_errors_a_l rfl rfl _ fun cdv A outer s H E C po => ?_
  unfold b_f_errors_a_l
  exact (dss_cons (ds_set (i := 2) sc_f_errors_a_l.nd rfl (by first | exact Or.inl rfl | exact Or.inr rfl) (de_lstM da_nil))
    (dss_cons (ds_par (i := 3) (j := 4) rfl sc_f_errors_a_l.nd rfl rfl (by decide) rfl rfl (da_cons (de_new xb_ValueError (V_InvalidForm.cls "word" (by simp)) V_InvalidForm.ec V_InvalidForm.na V_InvalidForm.hcl V_InvalidForm.iC V_InvalidForm.tI ((fv_InvalidForm V_InvalidForm).mono (Nat.succ_le_succ (Nat.zero_le _))) (spI1 _ _) V_InvalidForm.b rfl (by decide) C rfl V_InvalidForm.m (da_cons (de_var 0) da_nil)) (da_cons (de_newK false xb_ValueError (V_InvalidForm.cls "word" (by simp)) V_InvalidForm.ec V_InvalidForm.na V_InvalidForm.hcl V_InvalidForm.iC V_InvalidForm.tI ((fv_InvalidForm V_InvalidForm).mono (Nat.succ_le_succ (Nat.zero_le _))) (spI1 _ _) KV_InvalidForm C rfl V_InvalidForm.m (dk_cons (de_var 0) dk_nil)) da_nil)))
    (dss_cons (ds_expr (de_append (de_var 2) (da_cons (de_tup (da_cons (de_var 3) (da_cons (de_lst (da_cons (de_fld (de_var 3)) (da_cons (de_fld (de_var 4)) da_nil))) (da_cons (de_lst (da_cons (de_var 0) (da_cons (de_var 0) da_nil))) (da_cons de_str da_nil))))) da_nil)))
    (dss_cons (ds_par (i := 3) (j := 4) rfl sc_f_errors_a_l.nd rfl rfl (by decide) rfl rfl (da_cons (de_new xb_ValueError (V_InvalidDeclaration.cls "index" (by simp)) V_InvalidDeclaration.ec V_InvalidDeclaration.na V_InvalidDeclaration.hcl V_InvalidDeclaration.iC V_InvalidDeclaration.tI ((fv_InvalidDeclaration V_InvalidDeclaration).mono (Nat.succ_le_succ (Nat.zero_le _))) (spI1 _ _) V_InvalidDeclaration.b rfl (by decide) C rfl V_InvalidDeclaration.m (da_cons (de_var 0) da_nil)) (da_cons (de_newK false xb_ValueError (V_InvalidDeclaration.cls "index" (by simp)) V_InvalidDeclaration.ec V_InvalidDeclaration.na V_InvalidDeclaration.hcl V_InvalidDeclaration.iC V_InvalidDeclaration.tI ((fv_InvalidDeclaration V_InvalidDeclaration).mono (Nat.succ_le_succ (Nat.zero_le _))) (spI1 _ _) KV_InvalidDeclaration C rfl V_InvalidDeclaration.m (dk_cons (de_var 0) dk_nil)) da_nil)))
    (dss_cons (ds_expr (de_append (de_var 2) (da_cons (de_tup (da_cons (de_var 3) (da_cons (de_lst (da_cons (de_fld (de_var 3)) (da_cons (de_fld (de_var 4)) da_nil))) (da_cons (de_lst (da_cons (de_var 0) (da_cons (de_var 0) da_nil))) (da_cons de_str da_nil))))) da_nil)))
    (dss_cons (ds_par (i := 3) (j := 4) rfl sc_f_errors_a_l.nd rfl rfl (by decide) rfl rfl (da_cons (de_new0 xb_ValueError (V_InvalidPicks.cls "" (by simp)) V_InvalidPicks.ec V_InvalidPicks.hcl V_InvalidPicks.iC V_InvalidPicks.tI ((fv_InvalidPicks V_InvalidPicks).mono (Nat.succ_le_succ (Nat.zero_le _))) (spI0 _) V_InvalidPicks.b rfl C rfl V_InvalidPicks.m) (da_cons (de_new0 xb_ValueError (V_InvalidPicks.cls "" (by simp)) V_InvalidPicks.ec V_InvalidPicks.hcl V_InvalidPicks.iC V_InvalidPicks.tI ((fv_InvalidPicks V_InvalidPicks).mono (Nat.succ_le_succ (Nat.zero_le _))) (spI0 _) V_InvalidPicks.b rfl C rfl V_InvalidPicks.m) da_nil)))
    (dss_cons (ds_expr (de_append (de_var 2) (da_cons (de_tup (da_cons (de_var 3) (da_cons (de_lst da_nil) (da_cons (de_lst da_nil) (da_cons de_str da_nil))))) da_nil)))
    (dss_cons (ds_par (i := 3) (j := 4) rfl sc_f_errors_a_l.nd rfl rfl (by decide) rfl rfl (da_cons (de_new xb_ValueError (V_Repeated.cls "index" (by simp)) V_Repeated.ec V_Repeated.na V_Repeated.hcl V_Repeated.iC V_Repeated.tI ((fv_Repeated V_Repeated).mono (Nat.succ_le_succ (Nat.zero_le _))) (spI1 _ _) V_Repeated.b rfl (by decide) C rfl V_Repeated.m (da_cons (de_var 0) da_nil)) (da_cons (de_newK false xb_ValueError (V_Repeated.cls "index" (by simp)) V_Repeated.ec V_Repeated.na V_Repeated.hcl V_Repeated.iC V_Repeated.tI ((fv_Repeated V_Repeated).mono (Nat.succ_le_succ (Nat.zero_le _))) (spI1 _ _) KV_Repeated C rfl V_Repeated.m (dk_cons (de_var 0) dk_nil)) da_nil)))
    (dss_cons (ds_expr (de_append (de_var 2) (da_cons (de_tup (da_cons (de_var 3) (da_cons (de_lst (da_cons (de_fld (de_var 3)) (da_cons (de_fld (de_var 4)) da_nil))) (da_cons (de_lst (da_cons (de_var 0) (da_cons (de_var 0) da_nil))) (da_cons de_str da_nil))))) da_nil)))
    (dss_cons (ds_par (i := 3) (j := 4) rfl sc_f_errors_a_l.nd rfl rfl (by decide) rfl rfl (da_cons (de_new xb_ValueError (V_BadArms.cls "index" (by simp)) V_BadArms.ec V_BadArms.na V_BadArms.hcl V_BadArms.iC V_BadArms.tI ((fv_BadArms V_BadArms).mono (Nat.succ_le_succ (Nat.zero_le _))) (spI1 _ _) V_BadArms.b rfl (by decide) C rfl V_BadArms.m (da_cons (de_var 0) da_nil)) (da_cons (de_newK false xb_ValueError (V_BadArms.cls "index" (by simp)) V_BadArms.ec V_BadArms.na V_BadArms.hcl V_BadArms.iC V_BadArms.tI ((fv_BadArms V_BadArms).mono (Nat.succ_le_succ (Nat.zero_le _))) (spI1 _ _) KV_BadArms C rfl V_BadArms.m (dk_cons (de_var 0) dk_nil)) da_nil)))
    (dss_cons (ds_expr (de_append (de_var 2) (da_cons (de_tup (da_cons (de_var 3) (da_cons (de_lst (da_cons (de_fld (de_var 3)) (da_cons (de_fld (de_var 4)) da_nil))) (da_cons (de_lst (da_cons (de_var 0) (da_cons (de_var 0) da_nil))) (da_cons de_str da_nil))))) da_nil)))
    (dss_cons (ds_par (i := 3) (j := 4) rfl sc_f_errors_a_l.nd rfl rfl (by decide) rfl rfl (da_cons (de_new xb_ValueError (V_Misshapen.cls "index" (by simp)) V_Misshapen.ec V_Misshapen.na V_Misshapen.hcl V_Misshapen.iC V_Misshapen.tI ((fv_Misshapen V_Misshapen).mono (Nat.succ_le_succ (Nat.zero_le _))) (spI1 _ _) V_Misshapen.b rfl (by decide) C rfl V_Misshapen.m (da_cons (de_var 0) da_nil)) (da_cons (de_newK false xb_ValueError (V_Misshapen.cls "index" (by simp)) V_Misshapen.ec V_Misshapen.na V_Misshapen.hcl V_Misshapen.iC V_Misshapen.tI ((fv_Misshapen V_Misshapen).mono (Nat.succ_le_succ (Nat.zero_le _))) (spI1 _ _) KV_Misshapen C rfl V_Misshapen.m (dk_cons (de_var 0) dk_nil)) da_nil)))
    (dss_cons (ds_expr (de_append (de_var 2) (da_cons (de_tup (da_cons (de_var 3) (da_cons (de_lst (da_cons (de_fld (de_var 3)) (da_cons (de_fld (de_var 4)) da_nil))) (da_cons (de_lst (da_cons (de_var 0) (da_cons (de_var 0) da_nil))) (da_cons de_str da_nil))))) da_nil)))
    (dss_cons (ds_par (i := 3) (j := 4) rfl sc_f_errors_a_l.nd rfl rfl (by decide) rfl rfl (da_cons (de_new xb_ValueError (V_RoleRing.cls "index" (by simp)) V_RoleRing.ec V_RoleRing.na V_RoleRing.hcl V_RoleRing.iC V_RoleRing.tI ((fv_RoleRing V_RoleRing).mono (Nat.succ_le_succ (Nat.zero_le _))) (spI1 _ _) V_RoleRing.b rfl (by decide) C rfl V_RoleRing.m (da_cons (de_var 0) da_nil)) (da_cons (de_newK false xb_ValueError (V_RoleRing.cls "index" (by simp)) V_RoleRing.ec V_RoleRing.na V_RoleRing.hcl V_RoleRing.iC V_RoleRing.tI ((fv_RoleRing V_RoleRing).mono (Nat.succ_le_succ (Nat.zero_le _))) (spI1 _ _) KV_RoleRing C rfl V_RoleRing.m (dk_cons (de_var 0) dk_nil)) da_nil)))
    (dss_cons (ds_expr (de_append (de_var 2) (da_cons (de_tup (da_cons (de_var 3) (da_cons (de_lst (da_cons (de_fld (de_var 3)) (da_cons (de_fld (de_var 4)) da_nil))) (da_cons (de_lst (da_cons (de_var 0) (da_cons (de_var 0) da_nil))) (da_cons de_str da_nil))))) da_nil)))
    (dss_cons (ds_par (i := 3) (j := 4) rfl sc_f_errors_a_l.nd rfl rfl (by decide) rfl rfl (da_cons (de_new xb_ValueError (V_BadMembers.cls "index" (by simp)) V_BadMembers.ec V_BadMembers.na V_BadMembers.hcl V_BadMembers.iC V_BadMembers.tI ((fv_BadMembers V_BadMembers).mono (Nat.succ_le_succ (Nat.zero_le _))) (spI1 _ _) V_BadMembers.b rfl (by decide) C rfl V_BadMembers.m (da_cons (de_var 0) da_nil)) (da_cons (de_newK false xb_ValueError (V_BadMembers.cls "index" (by simp)) V_BadMembers.ec V_BadMembers.na V_BadMembers.hcl V_BadMembers.iC V_BadMembers.tI ((fv_BadMembers V_BadMembers).mono (Nat.succ_le_succ (Nat.zero_le _))) (spI1 _ _) KV_BadMembers C rfl V_BadMembers.m (dk_cons (de_var 0) dk_nil)) da_nil)))
    (dss_cons (ds_expr (de_append (de_var 2) (da_cons (de_tup (da_cons (de_var 3) (da_cons (de_lst (da_cons (de_fld (de_var 3)) (da_cons (de_fld (de_var 4)) da_nil))) (da_cons (de_lst (da_cons (de_var 0) (da_cons (de_var 0) da_nil))) (da_cons de_str da_nil))))) da_nil)))
    (dss_cons (ds_par (i := 3) (j := 4) rfl sc_f_errors_a_l.nd rfl rfl (by decide) rfl rfl (da_cons (de_new xb_ValueError (V_Grows.cls "index" (by simp)) V_Grows.ec V_Grows.na V_Grows.hcl V_Grows.iC V_Grows.tI ((fv_Grows V_Grows).mono (Nat.succ_le_succ (Nat.zero_le _))) (spI2 _ _ _) V_Grows.b rfl (by decide) C rfl V_Grows.m (da_cons (de_var 0) (da_cons (de_var 1) da_nil))) (da_cons (de_newK true xb_ValueError (V_Grows.cls "index" (by simp)) V_Grows.ec V_Grows.na V_Grows.hcl V_Grows.iC V_Grows.tI ((fv_Grows V_Grows).mono (Nat.succ_le_succ (Nat.zero_le _))) (spI2 _ _ _) KV_Grows C rfl V_Grows.m (dk_cons (de_var 1) (dk_cons (de_var 0) dk_nil))) da_nil)))
    (dss_cons (ds_expr (de_append (de_var 2) (da_cons (de_tup (da_cons (de_var 3) (da_cons (de_lst (da_cons (de_fld (de_var 3)) (da_cons (de_fld (de_var 3)) (da_cons (de_fld (de_var 4)) (da_cons (de_fld (de_var 4)) da_nil))))) (da_cons (de_lst (da_cons (de_var 0) (da_cons (de_var 1) (da_cons (de_var 0) (da_cons (de_var 1) da_nil))))) (da_cons de_str da_nil))))) da_nil)))
    (dss_cons (ds_par (i := 3) (j := 4) rfl sc_f_errors_a_l.nd rfl rfl (by decide) rfl rfl (da_cons (de_new xb_ValueError (V_Uncovered.cls "index" (by simp)) V_Uncovered.ec V_Uncovered.na V_Uncovered.hcl V_Uncovered.iC V_Uncovered.tI ((fv_Uncovered V_Uncovered).mono (Nat.succ_le_succ (Nat.zero_le _))) (spI1 _ _) V_Uncovered.b rfl (by decide) C rfl V_Uncovered.m (da_cons (de_var 0) da_nil)) (da_cons (de_newK false xb_ValueError (V_Uncovered.cls "index" (by simp)) V_Uncovered.ec V_Uncovered.na V_Uncovered.hcl V_Uncovered.iC V_Uncovered.tI ((fv_Uncovered V_Uncovered).mono (Nat.succ_le_succ (Nat.zero_le _))) (spI1 _ _) KV_Uncovered C rfl V_Uncovered.m (dk_cons (de_var 0) dk_nil)) da_nil)))
    (dss_cons (ds_expr (de_append (de_var 2) (da_cons (de_tup (da_cons (de_var 3) (da_cons (de_lst (da_cons (de_fld (de_var 3)) (da_cons (de_fld (de_var 4)) da_nil))) (da_cons (de_lst (da_cons (de_var 0) (da_cons (de_var 0) da_nil))) (da_cons de_str da_nil))))) da_nil)))
    (dss_cons (ds_par (i := 3) (j := 4) rfl sc_f_errors_a_l.nd rfl rfl (by decide) rfl rfl (da_cons (de_new xb_ValueError (V_Underivable.cls "word" (by simp)) V_Underivable.ec V_Underivable.na V_Underivable.hcl V_Underivable.iC V_Underivable.tI ((fv_Underivable V_Underivable).mono (Nat.succ_le_succ (Nat.zero_le _))) (spI2 _ _ _) V_Underivable.b rfl (by decide) C rfl V_Underivable.m (da_cons (de_var 0) (da_cons (de_var 1) da_nil))) (da_cons (de_newK true xb_ValueError (V_Underivable.cls "word" (by simp)) V_Underivable.ec V_Underivable.na V_Underivable.hcl V_Underivable.iC V_Underivable.tI ((fv_Underivable V_Underivable).mono (Nat.succ_le_succ (Nat.zero_le _))) (spI2 _ _ _) KV_Underivable C rfl V_Underivable.m (dk_cons (de_var 1) (dk_cons (de_var 0) dk_nil))) da_nil)))
    (dss_cons (ds_expr (de_append (de_var 2) (da_cons (de_tup (da_cons (de_var 3) (da_cons (de_lst (da_cons (de_fld (de_var 3)) (da_cons (de_fld (de_var 3)) (da_cons (de_fld (de_var 4)) (da_cons (de_fld (de_var 4)) da_nil))))) (da_cons (de_lst (da_cons (de_var 0) (da_cons (de_var 1) (da_cons (de_var 0) (da_cons (de_var 1) da_nil))))) (da_cons de_str da_nil))))) da_nil)))
    (dss_cons (ds_par (i := 3) (j := 4) rfl sc_f_errors_a_l.nd rfl rfl (by decide) rfl rfl (da_cons (de_new xb_ValueError (V_Clash.cls "index" (by simp)) V_Clash.ec V_Clash.na V_Clash.hcl V_Clash.iC V_Clash.tI ((fv_Clash V_Clash).mono (Nat.succ_le_succ (Nat.zero_le _))) (spI2 _ _ _) V_Clash.b rfl (by decide) C rfl V_Clash.m (da_cons (de_var 0) (da_cons (de_var 1) da_nil))) (da_cons (de_newK true xb_ValueError (V_Clash.cls "index" (by simp)) V_Clash.ec V_Clash.na V_Clash.hcl V_Clash.iC V_Clash.tI ((fv_Clash V_Clash).mono (Nat.succ_le_succ (Nat.zero_le _))) (spI2 _ _ _) KV_Clash C rfl V_Clash.m (dk_cons (de_var 1) (dk_cons (de_var 0) dk_nil))) da_nil)))
    (dss_cons (ds_expr (de_append (de_var 2) (da_cons (de_tup (da_cons (de_var 3) (da_cons (de_lst (da_cons (de_fld (de_var 3)) (da_cons (de_fld (de_var 3)) (da_cons (de_fld (de_var 4)) (da_cons (de_fld (de_var 4)) da_nil))))) (da_cons (de_lst (da_cons (de_var 0) (da_cons (de_var 1) (da_cons (de_var 0) (da_cons (de_var 1) da_nil))))) (da_cons de_str da_nil))))) da_nil)))
    (dss_cons (ds_par (i := 3) (j := 4) rfl sc_f_errors_a_l.nd rfl rfl (by decide) rfl rfl (da_cons (de_new xb_ValueError (V_Unsupported.cls "index" (by simp)) V_Unsupported.ec V_Unsupported.na V_Unsupported.hcl V_Unsupported.iC V_Unsupported.tI ((fv_Unsupported V_Unsupported).mono (Nat.succ_le_succ (Nat.zero_le _))) (spI2 _ _ _) V_Unsupported.b rfl (by decide) C rfl V_Unsupported.m (da_cons (de_var 0) (da_cons (de_var 1) da_nil))) (da_cons (de_newK true xb_ValueError (V_Unsupported.cls "index" (by simp)) V_Unsupported.ec V_Unsupported.na V_Unsupported.hcl V_Unsupported.iC V_Unsupported.tI ((fv_Unsupported V_Unsupported).mono (Nat.succ_le_succ (Nat.zero_le _))) (spI2 _ _ _) KV_Unsupported C rfl V_Unsupported.m (dk_cons (de_var 1) (dk_cons (de_var 0) dk_nil))) da_nil)))
    (dss_cons (ds_expr (de_append (de_var 2) (da_cons (de_tup (da_cons (de_var 3) (da_cons (de_lst (da_cons (de_fld (de_var 3)) (da_cons (de_fld (de_var 3)) (da_cons (de_fld (de_var 4)) (da_cons (de_fld (de_var 4)) da_nil))))) (da_cons (de_lst (da_cons (de_var 0) (da_cons (de_var 1) (da_cons (de_var 0) (da_cons (de_var 1) da_nil))))) (da_cons de_str da_nil))))) da_nil)))
    (dss_one (ds_ret (de_ice (de_var 2)))))))))))))))))))))))))))))))
set_option maxHeartbeats 4000000 in
theorem ok_f_errors_b_l (T : Tops K mg w ad fd ) (R : Rk P w K mg base ad fd (k + 2) r) : FnX P w K mg base (k + 3) (ad .f_errors_b_l) (fd .f_errors_b_l) ["_law_x", "_law_y"] (spX K 2 (runF 5 (b_f_errors_b_l r))) := by
  obtain ⟨D_Improper, gI_Improper, gd_Improper, V_Improper, KV_Improper⟩ := T.v_Improper
  obtain ⟨D_InvalidCount, gI_InvalidCount, gd_InvalidCount, V_InvalidCount, KV_InvalidCount⟩ := T.v_InvalidCount
  obtain ⟨D_InvalidDeed, gI_InvalidDeed, gd_InvalidDeed, V_InvalidDeed, KV_InvalidDeed⟩ := T.v_InvalidDeed
  obtain ⟨D_InvalidGuard, gI_InvalidGuard, gd_InvalidGuard, V_InvalidGuard, KV_InvalidGuard⟩ := T.v_InvalidGuard
  obtain ⟨D_InvalidKind, gI_InvalidKind, gd_InvalidKind, V_InvalidKind, KV_InvalidKind⟩ := T.v_InvalidKind
  obtain ⟨D_InvalidLimit, gI_InvalidLimit, gd_InvalidLimit, V_InvalidLimit, KV_InvalidLimit⟩ := T.v_InvalidLimit
  obtain ⟨D_InvalidMarked, gI_InvalidMarked, gd_InvalidMarked, V_InvalidMarked, KV_InvalidMarked⟩ := T.v_InvalidMarked
  obtain ⟨D_InvalidNeed, gI_InvalidNeed, gd_InvalidNeed, V_InvalidNeed, KV_InvalidNeed⟩ := T.v_InvalidNeed
  obtain ⟨D_InvalidScheme, gI_InvalidScheme, gd_InvalidScheme, V_InvalidScheme, KV_InvalidScheme⟩ := T.v_InvalidScheme
  obtain ⟨D_InvalidText, gI_InvalidText, gd_InvalidText, V_InvalidText, KV_InvalidText⟩ := T.v_InvalidText
  obtain ⟨D_InvalidValue, gI_InvalidValue, gd_InvalidValue, V_InvalidValue, KV_InvalidValue⟩ := T.v_InvalidValue
  obtain ⟨D_NotClosed, gI_NotClosed, gd_NotClosed, V_NotClosed, KV_NotClosed⟩ := T.v_NotClosed
  obtain ⟨D_Unknown, gI_Unknown, gd_Unknown, V_Unknown, KV_Unknown⟩ := T.v_Unknown
  refine fnX_data T.fn_f_errors_b_l sc_f_errors_b_l rfl rfl _ fun cdv A outer s H E C po => ?_
  unfold b_f_errors_b_l
  exact (dss_cons (ds_set (i := 2) sc_f_errors_b_l.nd rfl (by first | exact Or.inl rfl | exact Or.inr rfl) (de_lstM da_nil))
    (dss_cons (ds_par (i := 3) (j := 4) rfl sc_f_errors_b_l.nd rfl rfl (by decide) rfl rfl (da_cons (de_new xb_ValueError (V_Improper.cls "index" (by simp)) V_Improper.ec V_Improper.na V_Improper.hcl V_Improper.iC V_Improper.tI ((fv_Improper V_Improper).mono (Nat.succ_le_succ (Nat.zero_le _))) (spI1 _ _) V_Improper.b rfl (by decide) C rfl V_Improper.m (da_cons (de_var 0) da_nil)) (da_cons (de_newK false xb_ValueError (V_Improper.cls "index" (by simp)) V_Improper.ec V_Improper.na V_Improper.hcl V_Improper.iC V_Improper.tI ((fv_Improper V_Improper).mono (Nat.succ_le_succ (Nat.zero_le _))) (spI1 _ _) KV_Improper C rfl V_Improper.m (dk_cons (de_var 0) dk_nil)) da_nil)))
    (dss_cons (ds_expr (de_append (de_var 2) (da_cons (de_tup (da_cons (de_var 3) (da_cons (de_lst (da_cons (de_fld (de_var 3)) (da_cons (de_fld (de_var 4)) da_nil))) (da_cons (de_lst (da_cons (de_var 0) (da_cons (de_var 0) da_nil))) (da_cons de_str da_nil))))) da_nil)))
    (dss_cons (ds_par (i := 3) (j := 4) rfl sc_f_errors_b_l.nd rfl rfl (by decide) rfl rfl (da_cons (de_new xb_ValueError (V_InvalidKind.cls "value" (by simp)) V_InvalidKind.ec V_InvalidKind.na V_InvalidKind.hcl V_InvalidKind.iC V_InvalidKind.tI ((fv_InvalidKind V_InvalidKind).mono (Nat.succ_le_succ (Nat.zero_le _))) (spI1 _ _) V_InvalidKind.b rfl (by decide) C rfl V_InvalidKind.m (da_cons (de_var 0) da_nil)) (da_cons (de_newK false xb_ValueError (V_InvalidKind.cls "value" (by simp)) V_InvalidKind.ec V_InvalidKind.na V_InvalidKind.hcl V_InvalidKind.iC V_InvalidKind.tI ((fv_InvalidKind V_InvalidKind).mono (Nat.succ_le_succ (Nat.zero_le _))) (spI1 _ _) KV_InvalidKind C rfl V_InvalidKind.m (dk_cons (de_var 0) dk_nil)) da_nil)))
    (dss_cons (ds_expr (de_append (de_var 2) (da_cons (de_tup (da_cons (de_var 3) (da_cons (de_lst (da_cons (de_fld (de_var 3)) (da_cons (de_fld (de_var 4)) da_nil))) (da_cons (de_lst (da_cons (de_var 0) (da_cons (de_var 0) da_nil))) (da_cons de_str da_nil))))) da_nil)))
    (dss_cons (ds_par (i := 3) (j := 4) rfl sc_f_errors_b_l.nd rfl rfl (by decide) rfl rfl (da_cons (de_new xb_ValueError (V_InvalidNeed.cls "value" (by simp)) V_InvalidNeed.ec V_InvalidNeed.na V_InvalidNeed.hcl V_InvalidNeed.iC V_InvalidNeed.tI ((fv_InvalidNeed V_InvalidNeed).mono (Nat.succ_le_succ (Nat.zero_le _))) (spI1 _ _) V_InvalidNeed.b rfl (by decide) C rfl V_InvalidNeed.m (da_cons (de_var 0) da_nil)) (da_cons (de_newK false xb_ValueError (V_InvalidNeed.cls "value" (by simp)) V_InvalidNeed.ec V_InvalidNeed.na V_InvalidNeed.hcl V_InvalidNeed.iC V_InvalidNeed.tI ((fv_InvalidNeed V_InvalidNeed).mono (Nat.succ_le_succ (Nat.zero_le _))) (spI1 _ _) KV_InvalidNeed C rfl V_InvalidNeed.m (dk_cons (de_var 0) dk_nil)) da_nil)))
    (dss_cons (ds_expr (de_append (de_var 2) (da_cons (de_tup (da_cons (de_var 3) (da_cons (de_lst (da_cons (de_fld (de_var 3)) (da_cons (de_fld (de_var 4)) da_nil))) (da_cons (de_lst (da_cons (de_var 0) (da_cons (de_var 0) da_nil))) (da_cons de_str da_nil))))) da_nil)))
    (dss_cons (ds_par (i := 3) (j := 4) rfl sc_f_errors_b_l.nd rfl rfl (by decide) rfl rfl (da_cons (de_new xb_ValueError (V_InvalidScheme.cls "value" (by simp)) V_InvalidScheme.ec V_InvalidScheme.na V_InvalidScheme.hcl V_InvalidScheme.iC V_InvalidScheme.tI ((fv_InvalidScheme V_InvalidScheme).mono (Nat.succ_le_succ (Nat.zero_le _))) (spI1 _ _) V_InvalidScheme.b rfl (by decide) C rfl V_InvalidScheme.m (da_cons (de_var 0) da_nil)) (da_cons (de_newK false xb_ValueError (V_InvalidScheme.cls "value" (by simp)) V_InvalidScheme.ec V_InvalidScheme.na V_InvalidScheme.hcl V_InvalidScheme.iC V_InvalidScheme.tI ((fv_InvalidScheme V_InvalidScheme).mono (Nat.succ_le_succ (Nat.zero_le _))) (spI1 _ _) KV_InvalidScheme C rfl V_InvalidScheme.m (dk_cons (de_var 0) dk_nil)) da_nil)))
    (dss_cons (ds_expr (de_append (de_var 2) (da_cons (de_tup (da_cons (de_var 3) (da_cons (de_lst (da_cons (de_fld (de_var 3)) (da_cons (de_fld (de_var 4)) da_nil))) (da_cons (de_lst (da_cons (de_var 0) (da_cons (de_var 0) da_nil))) (da_cons de_str da_nil))))) da_nil)))
    (dss_cons (ds_par (i := 3) (j := 4) rfl sc_f_errors_b_l.nd rfl rfl (by decide) rfl rfl (da_cons (de_new xb_ValueError (V_InvalidCount.cls "number" (by simp)) V_InvalidCount.ec V_InvalidCount.na V_InvalidCount.hcl V_InvalidCount.iC V_InvalidCount.tI ((fv_InvalidCount V_InvalidCount).mono (Nat.succ_le_succ (Nat.zero_le _))) (spI1 _ _) V_InvalidCount.b rfl (by decide) C rfl V_InvalidCount.m (da_cons (de_var 0) da_nil)) (da_cons (de_newK false xb_ValueError (V_InvalidCount.cls "number" (by simp)) V_InvalidCount.ec V_InvalidCount.na V_InvalidCount.hcl V_InvalidCount.iC V_InvalidCount.tI ((fv_InvalidCount V_InvalidCount).mono (Nat.succ_le_succ (Nat.zero_le _))) (spI1 _ _) KV_InvalidCount C rfl V_InvalidCount.m (dk_cons (de_var 0) dk_nil)) da_nil)))
    (dss_cons (ds_expr (de_append (de_var 2) (da_cons (de_tup (da_cons (de_var 3) (da_cons (de_lst (da_cons (de_fld (de_var 3)) (da_cons (de_fld (de_var 4)) da_nil))) (da_cons (de_lst (da_cons (de_var 0) (da_cons (de_var 0) da_nil))) (da_cons de_str da_nil))))) da_nil)))
    (dss_cons (ds_par (i := 3) (j := 4) rfl sc_f_errors_b_l.nd rfl rfl (by decide) rfl rfl (da_cons (de_new xb_ValueError (V_InvalidValue.cls "index" (by simp)) V_InvalidValue.ec V_InvalidValue.na V_InvalidValue.hcl V_InvalidValue.iC V_InvalidValue.tI ((fv_InvalidValue V_InvalidValue).mono (Nat.succ_le_succ (Nat.zero_le _))) (spI1 _ _) V_InvalidValue.b rfl (by decide) C rfl V_InvalidValue.m (da_cons (de_var 0) da_nil)) (da_cons (de_newK false xb_ValueError (V_InvalidValue.cls "index" (by simp)) V_InvalidValue.ec V_InvalidValue.na V_InvalidValue.hcl V_InvalidValue.iC V_InvalidValue.tI ((fv_InvalidValue V_InvalidValue).mono (Nat.succ_le_succ (Nat.zero_le _))) (spI1 _ _) KV_InvalidValue C rfl V_InvalidValue.m (dk_cons (de_var 0) dk_nil)) da_nil)))
    (dss_cons (ds_expr (de_append (de_var 2) (da_cons (de_tup (da_cons (de_var 3) (da_cons (de_lst (da_cons (de_fld (de_var 3)) (da_cons (de_fld (de_var 4)) da_nil))) (da_cons (de_lst (da_cons (de_var 0) (da_cons (de_var 0) da_nil))) (da_cons de_str da_nil))))) da_nil)))
    (dss_cons (ds_par (i := 3) (j := 4) rfl sc_f_errors_b_l.nd rfl rfl (by decide) rfl rfl (da_cons (de_new xb_ValueError (V_InvalidLimit.cls "limit" (by simp)) V_InvalidLimit.ec V_InvalidLimit.na V_InvalidLimit.hcl V_InvalidLimit.iC V_InvalidLimit.tI ((fv_InvalidLimit V_InvalidLimit).mono (Nat.succ_le_succ (Nat.zero_le _))) (spI1 _ _) V_InvalidLimit.b rfl (by decide) C rfl V_InvalidLimit.m (da_cons (de_var 0) da_nil)) (da_cons (de_newK false xb_ValueError (V_InvalidLimit.cls "limit" (by simp)) V_InvalidLimit.ec V_InvalidLimit.na V_InvalidLimit.hcl V_InvalidLimit.iC V_InvalidLimit.tI ((fv_InvalidLimit V_InvalidLimit).mono (Nat.succ_le_succ (Nat.zero_le _))) (spI1 _ _) KV_InvalidLimit C rfl V_InvalidLimit.m (dk_cons (de_var 0) dk_nil)) da_nil)))
    (dss_cons (ds_expr (de_append (de_var 2) (da_cons (de_tup (da_cons (de_var 3) (da_cons (de_lst (da_cons (de_fld (de_var 3)) (da_cons (de_fld (de_var 4)) da_nil))) (da_cons (de_lst (da_cons (de_var 0) (da_cons (de_var 0) da_nil))) (da_cons de_str da_nil))))) da_nil)))
    (dss_cons (ds_par (i := 3) (j := 4) rfl sc_f_errors_b_l.nd rfl rfl (by decide) rfl rfl (da_cons (de_new xb_ValueError (V_InvalidMarked.cls "index" (by simp)) V_InvalidMarked.ec V_InvalidMarked.na V_InvalidMarked.hcl V_InvalidMarked.iC V_InvalidMarked.tI ((fv_InvalidMarked V_InvalidMarked).mono (Nat.succ_le_succ (Nat.zero_le _))) (spI1 _ _) V_InvalidMarked.b rfl (by decide) C rfl V_InvalidMarked.m (da_cons (de_var 0) da_nil)) (da_cons (de_newK false xb_ValueError (V_InvalidMarked.cls "index" (by simp)) V_InvalidMarked.ec V_InvalidMarked.na V_InvalidMarked.hcl V_InvalidMarked.iC V_InvalidMarked.tI ((fv_InvalidMarked V_InvalidMarked).mono (Nat.succ_le_succ (Nat.zero_le _))) (spI1 _ _) KV_InvalidMarked C rfl V_InvalidMarked.m (dk_cons (de_var 0) dk_nil)) da_nil)))
    (dss_cons (ds_expr (de_append (de_var 2) (da_cons (de_tup (da_cons (de_var 3) (da_cons (de_lst (da_cons (de_fld (de_var 3)) (da_cons (de_fld (de_var 4)) da_nil))) (da_cons (de_lst (da_cons (de_var 0) (da_cons (de_var 0) da_nil))) (da_cons de_str da_nil))))) da_nil)))
    (dss_cons (ds_par (i := 3) (j := 4) rfl sc_f_errors_b_l.nd rfl rfl (by decide) rfl rfl (da_cons (de_new xb_ValueError (V_InvalidText.cls "line" (by simp)) V_InvalidText.ec V_InvalidText.na V_InvalidText.hcl V_InvalidText.iC V_InvalidText.tI ((fv_InvalidText V_InvalidText).mono (Nat.succ_le_succ (Nat.zero_le _))) (spI2 _ _ _) V_InvalidText.b rfl (by decide) C rfl V_InvalidText.m (da_cons (de_var 0) (da_cons (de_var 1) da_nil))) (da_cons (de_newK true xb_ValueError (V_InvalidText.cls "line" (by simp)) V_InvalidText.ec V_InvalidText.na V_InvalidText.hcl V_InvalidText.iC V_InvalidText.tI ((fv_InvalidText V_InvalidText).mono (Nat.succ_le_succ (Nat.zero_le _))) (spI2 _ _ _) KV_InvalidText C rfl V_InvalidText.m (dk_cons (de_var 1) (dk_cons (de_var 0) dk_nil))) da_nil)))
    (dss_cons (ds_expr (de_append (de_var 2) (da_cons (de_tup (da_cons (de_var 3) (da_cons (de_lst (da_cons (de_fld (de_var 3)) (da_cons (de_fld (de_var 3)) (da_cons (de_fld (de_var 4)) (da_cons (de_fld (de_var 4)) da_nil))))) (da_cons (de_lst (da_cons (de_var 0) (da_cons (de_var 1) (da_cons (de_var 0) (da_cons (de_var 1) da_nil))))) (da_cons de_str da_nil))))) da_nil)))
    (dss_cons (ds_par (i := 3) (j := 4) rfl sc_f_errors_b_l.nd rfl rfl (by decide) rfl rfl (da_cons (de_new xb_ValueError (V_InvalidDeed.cls "index" (by simp)) V_InvalidDeed.ec V_InvalidDeed.na V_InvalidDeed.hcl V_InvalidDeed.iC V_InvalidDeed.tI ((fv_InvalidDeed V_InvalidDeed).mono (Nat.succ_le_succ (Nat.zero_le _))) (spI1 _ _) V_InvalidDeed.b rfl (by decide) C rfl V_InvalidDeed.m (da_cons (de_var 0) da_nil)) (da_cons (de_newK false xb_ValueError (V_InvalidDeed.cls "index" (by simp)) V_InvalidDeed.ec V_InvalidDeed.na V_InvalidDeed.hcl V_InvalidDeed.iC V_InvalidDeed.tI ((fv_InvalidDeed V_InvalidDeed).mono (Nat.succ_le_succ (Nat.zero_le _))) (spI1 _ _) KV_InvalidDeed C rfl V_InvalidDeed.m (dk_cons (de_var 0) dk_nil)) da_nil)))
    (dss_cons (ds_expr (de_append (de_var 2) (da_cons (de_tup (da_cons (de_var 3) (da_cons (de_lst (da_cons (de_fld (de_var 3)) (da_cons (de_fld (de_var 4)) da_nil))) (da_cons (de_lst (da_cons (de_var 0) (da_cons (de_var 0) da_nil))) (da_cons de_str da_nil))))) da_nil)))
    (dss_cons (ds_par (i := 3) (j := 4) rfl sc_f_errors_b_l.nd rfl rfl (by decide) rfl rfl (da_cons (de_new xb_ValueError (V_InvalidGuard.cls "index" (by simp)) V_InvalidGuard.ec V_InvalidGuard.na V_InvalidGuard.hcl V_InvalidGuard.iC V_InvalidGuard.tI ((fv_InvalidGuard V_InvalidGuard).mono (Nat.succ_le_succ (Nat.zero_le _))) (spI1 _ _) V_InvalidGuard.b rfl (by decide) C rfl V_InvalidGuard.m (da_cons (de_var 0) da_nil)) (da_cons (de_newK false xb_ValueError (V_InvalidGuard.cls "index" (by simp)) V_InvalidGuard.ec V_InvalidGuard.na V_InvalidGuard.hcl V_InvalidGuard.iC V_InvalidGuard.tI ((fv_InvalidGuard V_InvalidGuard).mono (Nat.succ_le_succ (Nat.zero_le _))) (spI1 _ _) KV_InvalidGuard C rfl V_InvalidGuard.m (dk_cons (de_var 0) dk_nil)) da_nil)))
    (dss_cons (ds_expr (de_append (de_var 2) (da_cons (de_tup (da_cons (de_var 3) (da_cons (de_lst (da_cons (de_fld (de_var 3)) (da_cons (de_fld (de_var 4)) da_nil))) (da_cons (de_lst (da_cons (de_var 0) (da_cons (de_var 0) da_nil))) (da_cons de_str da_nil))))) da_nil)))
    (dss_cons (ds_par (i := 3) (j := 4) rfl sc_f_errors_b_l.nd rfl rfl (by decide) rfl rfl (da_cons (de_new xb_ValueError (V_NotClosed.cls "word" (by simp)) V_NotClosed.ec V_NotClosed.na V_NotClosed.hcl V_NotClosed.iC V_NotClosed.tI ((fv_NotClosed V_NotClosed).mono (Nat.succ_le_succ (Nat.zero_le _))) (spI1 _ _) V_NotClosed.b rfl (by decide) C rfl V_NotClosed.m (da_cons (de_var 0) da_nil)) (da_cons (de_newK false xb_ValueError (V_NotClosed.cls "word" (by simp)) V_NotClosed.ec V_NotClosed.na V_NotClosed.hcl V_NotClosed.iC V_NotClosed.tI ((fv_NotClosed V_NotClosed).mono (Nat.succ_le_succ (Nat.zero_le _))) (spI1 _ _) KV_NotClosed C rfl V_NotClosed.m (dk_cons (de_var 0) dk_nil)) da_nil)))
    (dss_cons (ds_expr (de_append (de_var 2) (da_cons (de_tup (da_cons (de_var 3) (da_cons (de_lst (da_cons (de_fld (de_var 3)) (da_cons (de_fld (de_var 4)) da_nil))) (da_cons (de_lst (da_cons (de_var 0) (da_cons (de_var 0) da_nil))) (da_cons de_str da_nil))))) da_nil)))
    (dss_cons (ds_par (i := 3) (j := 4) rfl sc_f_errors_b_l.nd rfl rfl (by decide) rfl rfl (da_cons (de_new xb_LookupError (V_Unknown.cls "index" (by simp)) V_Unknown.ec V_Unknown.na V_Unknown.hcl V_Unknown.iC V_Unknown.tI ((fv_Unknown V_Unknown).mono (Nat.succ_le_succ (Nat.zero_le _))) (spI2 _ _ _) V_Unknown.b rfl (by decide) C rfl V_Unknown.m (da_cons (de_var 0) (da_cons (de_var 1) da_nil))) (da_cons (de_newK true xb_LookupError (V_Unknown.cls "index" (by simp)) V_Unknown.ec V_Unknown.na V_Unknown.hcl V_Unknown.iC V_Unknown.tI ((fv_Unknown V_Unknown).mono (Nat.succ_le_succ (Nat.zero_le _))) (spI2 _ _ _) KV_Unknown C rfl V_Unknown.m (dk_cons (de_var 1) (dk_cons (de_var 0) dk_nil))) da_nil)))
    (dss_cons (ds_expr (de_append (de_var 2) (da_cons (de_tup (da_cons (de_var 3) (da_cons (de_lst (da_cons (de_fld (de_var 3)) (da_cons (de_fld (de_var 3)) (da_cons (de_fld (de_var 4)) (da_cons (de_fld (de_var 4)) da_nil))))) (da_cons (de_lst (da_cons (de_var 0) (da_cons (de_var 1) (da_cons (de_var 0) (da_cons (de_var 1) da_nil))))) (da_cons de_str da_nil))))) da_nil)))
    (dss_one (ds_ret (de_ice (de_var 2)))))))))))))))))))))))))))))))
set_option maxHeartbeats 4000000 in
theorem ok_f_errors_c_l (T : Tops K mg w ad fd ) (R : Rk P w K mg base ad fd (k + 2) r) : FnX P w K mg base (k + 3) (ad .f_errors_c_l) (fd .f_errors_c_l) ["_law_x", "_law_y"] (spX K 2 (runF 5 (b_f_errors_c_l r))) := by
  obtain ⟨D_Broken, gI_Broken, gd_Broken, V_Broken, KV_Broken⟩ := T.v_Broken
  obtain ⟨D_Faulty, gI_Faulty, gd_Faulty, V_Faulty, KV_Faulty⟩ := T.v_Faulty
  obtain ⟨D_Known, gI_Known, gd_Known, V_Known, KV_Known⟩ := T.v_Known
  obtain ⟨D_Missing, gI_Missing, gd_Missing, V_Missing, KV_Missing⟩ := T.v_Missing
  obtain ⟨D_NoCore, gI_NoCore, gd_NoCore, V_NoCore, KV_NoCore⟩ := T.v_NoCore
  obtain ⟨D_NoDefinition, gI_NoDefinition, gd_NoDefinition, V_NoDefinition, KV_NoDefinition⟩ := T.v_NoDefinition
  obtain ⟨D_NoPrimitive, gI_NoPrimitive, gd_NoPrimitive, V_NoPrimitive, KV_NoPrimitive⟩ := T.v_NoPrimitive
  obtain ⟨D_OutOfRange, gI_OutOfRange, gd_OutOfRange, V_OutOfRange, KV_OutOfRange⟩ := T.v_OutOfRange
  obtain ⟨D_OutOfTerm, gI_OutOfTerm, gd_OutOfTerm, V_OutOfTerm, KV_OutOfTerm⟩ := T.v_OutOfTerm
  obtain ⟨D_UnknownName, gI_UnknownName, gd_UnknownName, V_UnknownName, KV_UnknownName⟩ := T.v_UnknownName
  obtain ⟨D_Unmet, gI_Unmet, gd_Unmet, V_Unmet, KV_Unmet⟩ := T.v_Unmet
  obtain ⟨D_Wrong, gI_Wrong, gd_Wrong, V_Wrong, KV_Wrong⟩ := T.v_Wrong
  refine fnX_data T.fn_f_errors_c_l sc_f_errors_c_l rfl rfl _ fun cdv A outer s H E C po => ?_
  unfold b_f_errors_c_l
  exact (dss_cons (ds_set (i := 2) sc_f_errors_c_l.nd rfl (by first | exact Or.inl rfl | exact Or.inr rfl) (de_lstM da_nil))
    (dss_cons (ds_par (i := 3) (j := 4) rfl sc_f_errors_c_l.nd rfl rfl (by decide) rfl rfl (da_cons (de_new xb_LookupError (V_UnknownName.cls "value" (by simp)) V_UnknownName.ec V_UnknownName.na V_UnknownName.hcl V_UnknownName.iC V_UnknownName.tI ((fv_UnknownName V_UnknownName).mono (Nat.succ_le_succ (Nat.zero_le _))) (spI1 _ _) V_UnknownName.b rfl (by decide) C rfl V_UnknownName.m (da_cons (de_var 0) da_nil)) (da_cons (de_newK false xb_LookupError (V_UnknownName.cls "value" (by simp)) V_UnknownName.ec V_UnknownName.na V_UnknownName.hcl V_UnknownName.iC V_UnknownName.tI ((fv_UnknownName V_UnknownName).mono (Nat.succ_le_succ (Nat.zero_le _))) (spI1 _ _) KV_UnknownName C rfl V_UnknownName.m (dk_cons (de_var 0) dk_nil)) da_nil)))
    (dss_cons (ds_expr (de_append (de_var 2) (da_cons (de_tup (da_cons (de_var 3) (da_cons (de_lst (da_cons (de_fld (de_var 3)) (da_cons (de_fld (de_var 4)) da_nil))) (da_cons (de_lst (da_cons (de_var 0) (da_cons (de_var 0) da_nil))) (da_cons de_str da_nil))))) da_nil)))
    (dss_cons (ds_par (i := 3) (j := 4) rfl sc_f_errors_c_l.nd rfl rfl (by decide) rfl rfl (da_cons (de_new xb_LookupError (V_OutOfTerm.cls "place" (by simp)) V_OutOfTerm.ec V_OutOfTerm.na V_OutOfTerm.hcl V_OutOfTerm.iC V_OutOfTerm.tI ((fv_OutOfTerm V_OutOfTerm).mono (Nat.succ_le_succ (Nat.zero_le _))) (spI1 _ _) V_OutOfTerm.b rfl (by decide) C rfl V_OutOfTerm.m (da_cons (de_var 0) da_nil)) (da_cons (de_newK false xb_LookupError (V_OutOfTerm.cls "place" (by simp)) V_OutOfTerm.ec V_OutOfTerm.na V_OutOfTerm.hcl V_OutOfTerm.iC V_OutOfTerm.tI ((fv_OutOfTerm V_OutOfTerm).mono (Nat.succ_le_succ (Nat.zero_le _))) (spI1 _ _) KV_OutOfTerm C rfl V_OutOfTerm.m (dk_cons (de_var 0) dk_nil)) da_nil)))
    (dss_cons (ds_expr (de_append (de_var 2) (da_cons (de_tup (da_cons (de_var 3) (da_cons (de_lst (da_cons (de_fld (de_var 3)) (da_cons (de_fld (de_var 4)) da_nil))) (da_cons (de_lst (da_cons (de_var 0) (da_cons (de_var 0) da_nil))) (da_cons de_str da_nil))))) da_nil)))
    (dss_cons (ds_par (i := 3) (j := 4) rfl sc_f_errors_c_l.nd rfl rfl (by decide) rfl rfl (da_cons (de_new xb_LookupError (V_NoPrimitive.cls "word" (by simp)) V_NoPrimitive.ec V_NoPrimitive.na V_NoPrimitive.hcl V_NoPrimitive.iC V_NoPrimitive.tI ((fv_NoPrimitive V_NoPrimitive).mono (Nat.succ_le_succ (Nat.zero_le _))) (spI1 _ _) V_NoPrimitive.b rfl (by decide) C rfl V_NoPrimitive.m (da_cons (de_var 0) da_nil)) (da_cons (de_newK false xb_LookupError (V_NoPrimitive.cls "word" (by simp)) V_NoPrimitive.ec V_NoPrimitive.na V_NoPrimitive.hcl V_NoPrimitive.iC V_NoPrimitive.tI ((fv_NoPrimitive V_NoPrimitive).mono (Nat.succ_le_succ (Nat.zero_le _))) (spI1 _ _) KV_NoPrimitive C rfl V_NoPrimitive.m (dk_cons (de_var 0) dk_nil)) da_nil)))
    (dss_cons (ds_expr (de_append (de_var 2) (da_cons (de_tup (da_cons (de_var 3) (da_cons (de_lst (da_cons (de_fld (de_var 3)) (da_cons (de_fld (de_var 4)) da_nil))) (da_cons (de_lst (da_cons (de_var 0) (da_cons (de_var 0) da_nil))) (da_cons de_str da_nil))))) da_nil)))
    (dss_cons (ds_par (i := 3) (j := 4) rfl sc_f_errors_c_l.nd rfl rfl (by decide) rfl rfl (da_cons (de_new xb_LookupError (V_NoDefinition.cls "word" (by simp)) V_NoDefinition.ec V_NoDefinition.na V_NoDefinition.hcl V_NoDefinition.iC V_NoDefinition.tI ((fv_NoDefinition V_NoDefinition).mono (Nat.succ_le_succ (Nat.zero_le _))) (spI1 _ _) V_NoDefinition.b rfl (by decide) C rfl V_NoDefinition.m (da_cons (de_var 0) da_nil)) (da_cons (de_newK false xb_LookupError (V_NoDefinition.cls "word" (by simp)) V_NoDefinition.ec V_NoDefinition.na V_NoDefinition.hcl V_NoDefinition.iC V_NoDefinition.tI ((fv_NoDefinition V_NoDefinition).mono (Nat.succ_le_succ (Nat.zero_le _))) (spI1 _ _) KV_NoDefinition C rfl V_NoDefinition.m (dk_cons (de_var 0) dk_nil)) da_nil)))
    (dss_cons (ds_expr (de_append (de_var 2) (da_cons (de_tup (da_cons (de_var 3) (da_cons (de_lst (da_cons (de_fld (de_var 3)) (da_cons (de_fld (de_var 4)) da_nil))) (da_cons (de_lst (da_cons (de_var 0) (da_cons (de_var 0) da_nil))) (da_cons de_str da_nil))))) da_nil)))
    (dss_cons (ds_par (i := 3) (j := 4) rfl sc_f_errors_c_l.nd rfl rfl (by decide) rfl rfl (da_cons (de_new xb_LookupError (V_NoCore.cls "where" (by simp)) V_NoCore.ec V_NoCore.na V_NoCore.hcl V_NoCore.iC V_NoCore.tI ((fv_NoCore V_NoCore).mono (Nat.succ_le_succ (Nat.zero_le _))) (spI1 _ _) V_NoCore.b rfl (by decide) C rfl V_NoCore.m (da_cons (de_var 0) da_nil)) (da_cons (de_newK false xb_LookupError (V_NoCore.cls "where" (by simp)) V_NoCore.ec V_NoCore.na V_NoCore.hcl V_NoCore.iC V_NoCore.tI ((fv_NoCore V_NoCore).mono (Nat.succ_le_succ (Nat.zero_le _))) (spI1 _ _) KV_NoCore C rfl V_NoCore.m (dk_cons (de_var 0) dk_nil)) da_nil)))
    (dss_cons (ds_expr (de_append (de_var 2) (da_cons (de_tup (da_cons (de_var 3) (da_cons (de_lst (da_cons (de_fld (de_var 3)) (da_cons (de_fld (de_var 4)) da_nil))) (da_cons (de_lst (da_cons (de_var 0) (da_cons (de_var 0) da_nil))) (da_cons de_str da_nil))))) da_nil)))
    (dss_cons (ds_par (i := 3) (j := 4) rfl sc_f_errors_c_l.nd rfl rfl (by decide) rfl rfl (da_cons (de_new xb_LookupError (V_Unmet.cls "need" (by simp)) V_Unmet.ec V_Unmet.na V_Unmet.hcl V_Unmet.iC V_Unmet.tI ((fv_Unmet V_Unmet).mono (Nat.succ_le_succ (Nat.zero_le _))) (spI1 _ _) V_Unmet.b rfl (by decide) C rfl V_Unmet.m (da_cons (de_var 0) da_nil)) (da_cons (de_newK false xb_LookupError (V_Unmet.cls "need" (by simp)) V_Unmet.ec V_Unmet.na V_Unmet.hcl V_Unmet.iC V_Unmet.tI ((fv_Unmet V_Unmet).mono (Nat.succ_le_succ (Nat.zero_le _))) (spI1 _ _) KV_Unmet C rfl V_Unmet.m (dk_cons (de_var 0) dk_nil)) da_nil)))
    (dss_cons (ds_expr (de_append (de_var 2) (da_cons (de_tup (da_cons (de_var 3) (da_cons (de_lst (da_cons (de_fld (de_var 3)) (da_cons (de_fld (de_var 4)) da_nil))) (da_cons (de_lst (da_cons (de_var 0) (da_cons (de_var 0) da_nil))) (da_cons de_str da_nil))))) da_nil)))
    (dss_cons (ds_par (i := 3) (j := 4) rfl sc_f_errors_c_l.nd rfl rfl (by decide) rfl rfl (da_cons (de_new xb_LookupError (V_OutOfRange.cls "value" (by simp)) V_OutOfRange.ec V_OutOfRange.na V_OutOfRange.hcl V_OutOfRange.iC V_OutOfRange.tI ((fv_OutOfRange V_OutOfRange).mono (Nat.succ_le_succ (Nat.zero_le _))) (spI1 _ _) V_OutOfRange.b rfl (by decide) C rfl V_OutOfRange.m (da_cons (de_var 0) da_nil)) (da_cons (de_newK false xb_LookupError (V_OutOfRange.cls "value" (by simp)) V_OutOfRange.ec V_OutOfRange.na V_OutOfRange.hcl V_OutOfRange.iC V_OutOfRange.tI ((fv_OutOfRange V_OutOfRange).mono (Nat.succ_le_succ (Nat.zero_le _))) (spI1 _ _) KV_OutOfRange C rfl V_OutOfRange.m (dk_cons (de_var 0) dk_nil)) da_nil)))
    (dss_cons (ds_expr (de_append (de_var 2) (da_cons (de_tup (da_cons (de_var 3) (da_cons (de_lst (da_cons (de_fld (de_var 3)) (da_cons (de_fld (de_var 4)) da_nil))) (da_cons (de_lst (da_cons (de_var 0) (da_cons (de_var 0) da_nil))) (da_cons de_str da_nil))))) da_nil)))
    (dss_cons (ds_par (i := 3) (j := 4) rfl sc_f_errors_c_l.nd rfl rfl (by decide) rfl rfl (da_cons (de_new xb_LookupError (V_Known.cls "index" (by simp)) V_Known.ec V_Known.na V_Known.hcl V_Known.iC V_Known.tI ((fv_Known V_Known).mono (Nat.succ_le_succ (Nat.zero_le _))) (spI1 _ _) V_Known.b rfl (by decide) C rfl V_Known.m (da_cons (de_var 0) da_nil)) (da_cons (de_newK false xb_LookupError (V_Known.cls "index" (by simp)) V_Known.ec V_Known.na V_Known.hcl V_Known.iC V_Known.tI ((fv_Known V_Known).mono (Nat.succ_le_succ (Nat.zero_le _))) (spI1 _ _) KV_Known C rfl V_Known.m (dk_cons (de_var 0) dk_nil)) da_nil)))
    (dss_cons (ds_expr (de_append (de_var 2) (da_cons (de_tup (da_cons (de_var 3) (da_cons (de_lst (da_cons (de_fld (de_var 3)) (da_cons (de_fld (de_var 4)) da_nil))) (da_cons (de_lst (da_cons (de_var 0) (da_cons (de_var 0) da_nil))) (da_cons de_str da_nil))))) da_nil)))
    (dss_cons (ds_par (i := 3) (j := 4) rfl sc_f_errors_c_l.nd rfl rfl (by decide) rfl rfl (da_cons (de_new xb_LookupError (V_Missing.cls "index" (by simp)) V_Missing.ec V_Missing.na V_Missing.hcl V_Missing.iC V_Missing.tI ((fv_Missing V_Missing).mono (Nat.succ_le_succ (Nat.zero_le _))) (spI1 _ _) V_Missing.b rfl (by decide) C rfl V_Missing.m (da_cons (de_var 0) da_nil)) (da_cons (de_newK false xb_LookupError (V_Missing.cls "index" (by simp)) V_Missing.ec V_Missing.na V_Missing.hcl V_Missing.iC V_Missing.tI ((fv_Missing V_Missing).mono (Nat.succ_le_succ (Nat.zero_le _))) (spI1 _ _) KV_Missing C rfl V_Missing.m (dk_cons (de_var 0) dk_nil)) da_nil)))
    (dss_cons (ds_expr (de_append (de_var 2) (da_cons (de_tup (da_cons (de_var 3) (da_cons (de_lst (da_cons (de_fld (de_var 3)) (da_cons (de_fld (de_var 4)) da_nil))) (da_cons (de_lst (da_cons (de_var 0) (da_cons (de_var 0) da_nil))) (da_cons de_str da_nil))))) da_nil)))
    (dss_cons (ds_par (i := 3) (j := 4) rfl sc_f_errors_c_l.nd rfl rfl (by decide) rfl rfl (da_cons (de_new xb_RuntimeError (V_Faulty.cls "where" (by simp)) V_Faulty.ec V_Faulty.na V_Faulty.hcl V_Faulty.iC V_Faulty.tI ((fv_Faulty V_Faulty).mono (Nat.succ_le_succ (Nat.zero_le _))) (spI1 _ _) V_Faulty.b rfl (by decide) C rfl V_Faulty.m (da_cons (de_var 0) da_nil)) (da_cons (de_newK false xb_RuntimeError (V_Faulty.cls "where" (by simp)) V_Faulty.ec V_Faulty.na V_Faulty.hcl V_Faulty.iC V_Faulty.tI ((fv_Faulty V_Faulty).mono (Nat.succ_le_succ (Nat.zero_le _))) (spI1 _ _) KV_Faulty C rfl V_Faulty.m (dk_cons (de_var 0) dk_nil)) da_nil)))
    (dss_cons (ds_expr (de_append (de_var 2) (da_cons (de_tup (da_cons (de_var 3) (da_cons (de_lst (da_cons (de_fld (de_var 3)) (da_cons (de_fld (de_var 4)) da_nil))) (da_cons (de_lst (da_cons (de_var 0) (da_cons (de_var 0) da_nil))) (da_cons de_str da_nil))))) da_nil)))
    (dss_cons (ds_par (i := 3) (j := 4) rfl sc_f_errors_c_l.nd rfl rfl (by decide) rfl rfl (da_cons (de_new xb_RuntimeError (V_Wrong.cls "found" (by simp)) V_Wrong.ec V_Wrong.na V_Wrong.hcl V_Wrong.iC V_Wrong.tI ((fv_Wrong V_Wrong).mono (Nat.succ_le_succ (Nat.zero_le _))) (spI1 _ _) V_Wrong.b rfl (by decide) C rfl V_Wrong.m (da_cons (de_var 0) da_nil)) (da_cons (de_newK false xb_RuntimeError (V_Wrong.cls "found" (by simp)) V_Wrong.ec V_Wrong.na V_Wrong.hcl V_Wrong.iC V_Wrong.tI ((fv_Wrong V_Wrong).mono (Nat.succ_le_succ (Nat.zero_le _))) (spI1 _ _) KV_Wrong C rfl V_Wrong.m (dk_cons (de_var 0) dk_nil)) da_nil)))
    (dss_cons (ds_expr (de_append (de_var 2) (da_cons (de_tup (da_cons (de_var 3) (da_cons (de_lst (da_cons (de_fld (de_var 3)) (da_cons (de_fld (de_var 4)) da_nil))) (da_cons (de_lst (da_cons (de_var 0) (da_cons (de_var 0) da_nil))) (da_cons de_str da_nil))))) da_nil)))
    (dss_cons (ds_par (i := 3) (j := 4) rfl sc_f_errors_c_l.nd rfl rfl (by decide) rfl rfl (da_cons (de_new xb_RuntimeError (V_Broken.cls "index" (by simp)) V_Broken.ec V_Broken.na V_Broken.hcl V_Broken.iC V_Broken.tI ((fv_Broken V_Broken).mono (Nat.succ_le_succ (Nat.zero_le _))) (spI1 _ _) V_Broken.b rfl (by decide) C rfl V_Broken.m (da_cons (de_var 0) da_nil)) (da_cons (de_newK false xb_RuntimeError (V_Broken.cls "index" (by simp)) V_Broken.ec V_Broken.na V_Broken.hcl V_Broken.iC V_Broken.tI ((fv_Broken V_Broken).mono (Nat.succ_le_succ (Nat.zero_le _))) (spI1 _ _) KV_Broken C rfl V_Broken.m (dk_cons (de_var 0) dk_nil)) da_nil)))
    (dss_cons (ds_expr (de_append (de_var 2) (da_cons (de_tup (da_cons (de_var 3) (da_cons (de_lst (da_cons (de_fld (de_var 3)) (da_cons (de_fld (de_var 4)) da_nil))) (da_cons (de_lst (da_cons (de_var 0) (da_cons (de_var 0) da_nil))) (da_cons de_str da_nil))))) da_nil)))
    (dss_one (ds_ret (de_ice (de_var 2)))))))))))))))))))))))))))))
set_option maxHeartbeats 4000000 in
theorem ok_f_flags_l (T : Tops K mg w ad fd ) (R : Rk P w K mg base ad fd (k + 2) r) : FnX P w K mg base (k + 3) (ad .f_flags_l) (fd .f_flags_l) ["_law_e"] (spX K 1 (runF 2 (b_f_flags_l r))) := by
  obtain ⟨E_BadArms, mi_BadArms, i_BadArms⟩ := T.i_BadArms
  obtain ⟨E_BadMembers, mi_BadMembers, i_BadMembers⟩ := T.i_BadMembers
  obtain ⟨E_Broken, mi_Broken, i_Broken⟩ := T.i_Broken
  obtain ⟨E_Clash, mi_Clash, i_Clash⟩ := T.i_Clash
  obtain ⟨E_Faulty, mi_Faulty, i_Faulty⟩ := T.i_Faulty
  obtain ⟨E_Grows, mi_Grows, i_Grows⟩ := T.i_Grows
  obtain ⟨E_Improper, mi_Improper, i_Improper⟩ := T.i_Improper
  obtain ⟨E_InvalidCount, mi_InvalidCount, i_InvalidCount⟩ := T.i_InvalidCount
  obtain ⟨E_InvalidDeclaration, mi_InvalidDeclaration, i_InvalidDeclaration⟩ := T.i_InvalidDeclaration
  obtain ⟨E_InvalidDeed, mi_InvalidDeed, i_InvalidDeed⟩ := T.i_InvalidDeed
  obtain ⟨E_InvalidForm, mi_InvalidForm, i_InvalidForm⟩ := T.i_InvalidForm
  obtain ⟨E_InvalidGuard, mi_InvalidGuard, i_InvalidGuard⟩ := T.i_InvalidGuard
  obtain ⟨E_InvalidKind, mi_InvalidKind, i_InvalidKind⟩ := T.i_InvalidKind
  obtain ⟨E_InvalidLimit, mi_InvalidLimit, i_InvalidLimit⟩ := T.i_InvalidLimit
  obtain ⟨E_InvalidMarked, mi_InvalidMarked, i_InvalidMarked⟩ := T.i_InvalidMarked
  obtain ⟨E_InvalidNeed, mi_InvalidNeed, i_InvalidNeed⟩ := T.i_InvalidNeed
  obtain ⟨E_InvalidPicks, mi_InvalidPicks, i_InvalidPicks⟩ := T.i_InvalidPicks
  obtain ⟨E_InvalidScheme, mi_InvalidScheme, i_InvalidScheme⟩ := T.i_InvalidScheme
  obtain ⟨E_InvalidText, mi_InvalidText, i_InvalidText⟩ := T.i_InvalidText
  obtain ⟨E_InvalidValue, mi_InvalidValue, i_InvalidValue⟩ := T.i_InvalidValue
  obtain ⟨E_Known, mi_Known, i_Known⟩ := T.i_Known
  obtain ⟨E_Misshapen, mi_Misshapen, i_Misshapen⟩ := T.i_Misshapen
  obtain ⟨E_Missing, mi_Missing, i_Missing⟩ := T.i_Missing
  obtain ⟨E_NoCore, mi_NoCore, i_NoCore⟩ := T.i_NoCore
  obtain ⟨E_NoDefinition, mi_NoDefinition, i_NoDefinition⟩ := T.i_NoDefinition
  obtain ⟨E_NoPrimitive, mi_NoPrimitive, i_NoPrimitive⟩ := T.i_NoPrimitive
  obtain ⟨E_NotClosed, mi_NotClosed, i_NotClosed⟩ := T.i_NotClosed
  obtain ⟨E_OutOfRange, mi_OutOfRange, i_OutOfRange⟩ := T.i_OutOfRange
  obtain ⟨E_OutOfTerm, mi_OutOfTerm, i_OutOfTerm⟩ := T.i_OutOfTerm
  obtain ⟨E_Repeated, mi_Repeated, i_Repeated⟩ := T.i_Repeated
  obtain ⟨E_RoleRing, mi_RoleRing, i_RoleRing⟩ := T.i_RoleRing
  obtain ⟨E_Uncovered, mi_Uncovered, i_Uncovered⟩ := T.i_Uncovered
  obtain ⟨E_Underivable, mi_Underivable, i_Underivable⟩ := T.i_Underivable
  obtain ⟨E_Unknown, mi_Unknown, i_Unknown⟩ := T.i_Unknown
  obtain ⟨E_UnknownName, mi_UnknownName, i_UnknownName⟩ := T.i_UnknownName
  obtain ⟨E_Unmet, mi_Unmet, i_Unmet⟩ := T.i_Unmet
  obtain ⟨E_Unsupported, mi_Unsupported, i_Unsupported⟩ := T.i_Unsupported
  obtain ⟨E_Wrong, mi_Wrong, i_Wrong⟩ := T.i_Wrong
  refine fnX_data T.fn_f_flags_l sc_f_flags_l rfl rfl _ fun cdv A outer s H E C po => ?_
  unfold b_f_flags_l
  exact (dss_cons (ds_set (i := 1) sc_f_flags_l.nd rfl (by first | exact Or.inl rfl | exact Or.inr rfl) (de_lstM da_nil))
    (dss_cons (ds_expr (de_extend (de_var 1) (da_cons (de_lst (da_cons (de_isiOwn i_InvalidForm rfl T.b_isinstance rfl mi_InvalidForm (de_var 0)) (da_cons (de_isiOwn i_InvalidDeclaration rfl T.b_isinstance rfl mi_InvalidDeclaration (de_var 0)) da_nil))) da_nil)))
    (dss_cons (ds_expr (de_extend (de_var 1) (da_cons (de_lst (da_cons (de_isiOwn i_InvalidPicks rfl T.b_isinstance rfl mi_InvalidPicks (de_var 0)) (da_cons (de_isiOwn i_Repeated rfl T.b_isinstance rfl mi_Repeated (de_var 0)) da_nil))) da_nil)))
    (dss_cons (ds_expr (de_extend (de_var 1) (da_cons (de_lst (da_cons (de_isiOwn i_BadArms rfl T.b_isinstance rfl mi_BadArms (de_var 0)) (da_cons (de_isiOwn i_Misshapen rfl T.b_isinstance rfl mi_Misshapen (de_var 0)) da_nil))) da_nil)))
    (dss_cons (ds_expr (de_extend (de_var 1) (da_cons (de_lst (da_cons (de_isiOwn i_RoleRing rfl T.b_isinstance rfl mi_RoleRing (de_var 0)) (da_cons (de_isiOwn i_BadMembers rfl T.b_isinstance rfl mi_BadMembers (de_var 0)) da_nil))) da_nil)))
    (dss_cons (ds_expr (de_extend (de_var 1) (da_cons (de_lst (da_cons (de_isiOwn i_Grows rfl T.b_isinstance rfl mi_Grows (de_var 0)) (da_cons (de_isiOwn i_Uncovered rfl T.b_isinstance rfl mi_Uncovered (de_var 0)) da_nil))) da_nil)))
    (dss_cons (ds_expr (de_extend (de_var 1) (da_cons (de_lst (da_cons (de_isiOwn i_Underivable rfl T.b_isinstance rfl mi_Underivable (de_var 0)) (da_cons (de_isiOwn i_Clash rfl T.b_isinstance rfl mi_Clash (de_var 0)) da_nil))) da_nil)))
    (dss_cons (ds_expr (de_extend (de_var 1) (da_cons (de_lst (da_cons (de_isiOwn i_Unsupported rfl T.b_isinstance rfl mi_Unsupported (de_var 0)) (da_cons (de_isiOwn i_Improper rfl T.b_isinstance rfl mi_Improper (de_var 0)) da_nil))) da_nil)))
    (dss_cons (ds_expr (de_extend (de_var 1) (da_cons (de_lst (da_cons (de_isiOwn i_InvalidKind rfl T.b_isinstance rfl mi_InvalidKind (de_var 0)) (da_cons (de_isiOwn i_InvalidNeed rfl T.b_isinstance rfl mi_InvalidNeed (de_var 0)) da_nil))) da_nil)))
    (dss_cons (ds_expr (de_extend (de_var 1) (da_cons (de_lst (da_cons (de_isiOwn i_InvalidScheme rfl T.b_isinstance rfl mi_InvalidScheme (de_var 0)) (da_cons (de_isiOwn i_InvalidCount rfl T.b_isinstance rfl mi_InvalidCount (de_var 0)) da_nil))) da_nil)))
    (dss_cons (ds_expr (de_extend (de_var 1) (da_cons (de_lst (da_cons (de_isiOwn i_InvalidValue rfl T.b_isinstance rfl mi_InvalidValue (de_var 0)) (da_cons (de_isiOwn i_InvalidLimit rfl T.b_isinstance rfl mi_InvalidLimit (de_var 0)) da_nil))) da_nil)))
    (dss_cons (ds_expr (de_extend (de_var 1) (da_cons (de_lst (da_cons (de_isiOwn i_InvalidMarked rfl T.b_isinstance rfl mi_InvalidMarked (de_var 0)) (da_cons (de_isiOwn i_InvalidText rfl T.b_isinstance rfl mi_InvalidText (de_var 0)) da_nil))) da_nil)))
    (dss_cons (ds_expr (de_extend (de_var 1) (da_cons (de_lst (da_cons (de_isiOwn i_InvalidDeed rfl T.b_isinstance rfl mi_InvalidDeed (de_var 0)) (da_cons (de_isiOwn i_InvalidGuard rfl T.b_isinstance rfl mi_InvalidGuard (de_var 0)) da_nil))) da_nil)))
    (dss_cons (ds_expr (de_extend (de_var 1) (da_cons (de_lst (da_cons (de_isiOwn i_NotClosed rfl T.b_isinstance rfl mi_NotClosed (de_var 0)) (da_cons (de_isiOwn i_Unknown rfl T.b_isinstance rfl mi_Unknown (de_var 0)) da_nil))) da_nil)))
    (dss_cons (ds_expr (de_extend (de_var 1) (da_cons (de_lst (da_cons (de_isiOwn i_UnknownName rfl T.b_isinstance rfl mi_UnknownName (de_var 0)) (da_cons (de_isiOwn i_OutOfTerm rfl T.b_isinstance rfl mi_OutOfTerm (de_var 0)) da_nil))) da_nil)))
    (dss_cons (ds_expr (de_extend (de_var 1) (da_cons (de_lst (da_cons (de_isiOwn i_NoPrimitive rfl T.b_isinstance rfl mi_NoPrimitive (de_var 0)) (da_cons (de_isiOwn i_NoDefinition rfl T.b_isinstance rfl mi_NoDefinition (de_var 0)) da_nil))) da_nil)))
    (dss_cons (ds_expr (de_extend (de_var 1) (da_cons (de_lst (da_cons (de_isiOwn i_NoCore rfl T.b_isinstance rfl mi_NoCore (de_var 0)) (da_cons (de_isiOwn i_Unmet rfl T.b_isinstance rfl mi_Unmet (de_var 0)) da_nil))) da_nil)))
    (dss_cons (ds_expr (de_extend (de_var 1) (da_cons (de_lst (da_cons (de_isiOwn i_OutOfRange rfl T.b_isinstance rfl mi_OutOfRange (de_var 0)) (da_cons (de_isiOwn i_Known rfl T.b_isinstance rfl mi_Known (de_var 0)) da_nil))) da_nil)))
    (dss_cons (ds_expr (de_extend (de_var 1) (da_cons (de_lst (da_cons (de_isiOwn i_Missing rfl T.b_isinstance rfl mi_Missing (de_var 0)) (da_cons (de_isiOwn i_Faulty rfl T.b_isinstance rfl mi_Faulty (de_var 0)) da_nil))) da_nil)))
    (dss_cons (ds_expr (de_extend (de_var 1) (da_cons (de_lst (da_cons (de_isiOwn i_Wrong rfl T.b_isinstance rfl mi_Wrong (de_var 0)) (da_cons (de_isiOwn i_Broken rfl T.b_isinstance rfl mi_Broken (de_var 0)) da_nil))) da_nil)))
    (dss_one (ds_ret (de_ice (de_var 1))))))))))))))))))))))))
set_option maxHeartbeats 4000000 in
theorem ok_f_sorts_l (T : Tops K mg w ad fd ) (R : Rk P w K mg base ad fd (k + 2) r) : FnX P w K mg base (k + 3) (ad .f_sorts_l) (fd .f_sorts_l) ["_law_e"] (spX K 1 (runF 4 (b_f_sorts_l r))) := by
  refine fnX_data T.fn_f_sorts_l sc_f_sorts_l rfl rfl _ fun cdv A outer s H E C po => ?_
  unfold b_f_sorts_l
  exact (dss_cons (ds_set (i := 1) sc_f_sorts_l.nd rfl (by first | exact Or.inl rfl | exact Or.inr rfl) (de_lst (da_cons (de_isiBlt T.i_ValueError rfl T.b_isinstance rfl T.b_ValueError PyProof.Rows.Boot.«ValueError» (de_var 0)) (da_cons (de_isiBlt T.i_LookupError rfl T.b_isinstance rfl T.b_LookupError PyProof.Rows.Boot.«LookupError» (de_var 0)) (da_cons (de_isiBlt T.i_RuntimeError rfl T.b_isinstance rfl T.b_RuntimeError PyProof.Rows.Boot.«RuntimeError» (de_var 0)) da_nil)))))
    (dss_one (ds_ret (de_lc (own := [("_law_sort", 2), ("_law_flag", 3)]) finL_ok rfl sc_f_sorts_l.nd (di_zipX rfl T.b_zip (da_cons (de_lst (da_cons de_str (da_cons de_str (da_cons de_str da_nil)))) (da_cons (de_var 1) da_nil))) (blkOk_by (by show blkC ["_law_e", "_law_flags_here", "_law_sort", "_law_flag"] (defScope s_f_sorts_l) _ _ = true; decide +kernel)) (fun _ _ _ _ _ => (dg_tup rfl (dgs_cons (dg_name (i := 2) sc_f_sorts_l.nd rfl (by first | exact Or.inl rfl | exact Or.inr rfl) (by decide)) (dgs_cons (dg_name (i := 3) sc_f_sorts_l.nd rfl (by first | exact Or.inl rfl | exact Or.inr rfl) (by decide)) dgs_nil)))) (fun _ _ _ _ _ => (dts_one (dt_val (de_var 3)))) (fun _ _ _ _ _ => (de_var 2))))))
set_option maxHeartbeats 4000000 in
theorem ok_f_law (T : Tops K mg w ad fd ) (R : Rk P w K mg base ad fd (k + 2) r) : FnX P w K mg base (k + 3) (ad .f_law) (fd .f_law) ["_law_script"] (spX K 1 (runF 14 (b_f_law r))) := by
  refine fnX_data T.fn_f_law sc_f_law rfl rfl _ fun cdv A outer s H E C po => ?_
  unfold b_f_law f_law_5 f_law_4 f_law_3 f_law_2 f_law_1
  exact (dss_cons (ds_set (i := 1) sc_f_law.nd rfl (by first | exact Or.inl rfl | exact Or.inr rfl) (de_callX R.f_begin_l C rfl T.m_f_begin_l T.kp_f_begin_l T.b_f_begin_l (da_cons (de_var 0) da_nil)))
    (dss_cons (ds_for (vs := [2]) po rfl (di_range rfl T.b_range (da_cons (de_addX de_int (de_min2 rfl rfl T.b_min (da_cons de_int (da_cons (de_len rfl T.b_len (da_cons (de_var 0) da_nil)) da_nil)))) da_nil)) (dg_name (i := 2) sc_f_law.nd rfl (by first | exact Or.inl rfl | exact Or.inr rfl) (by decide)) (dss_cons (ds_par (i := 4) (j := 5) rfl sc_f_law.nd rfl rfl (by decide) rfl rfl (da_cons (de_callX R.f_odd_l C rfl T.m_f_odd_l T.kp_f_odd_l T.b_f_odd_l (da_cons (de_var 1) da_nil)) (da_cons (de_callX R.f_odd_l C rfl T.m_f_odd_l T.kp_f_odd_l T.b_f_odd_l (da_cons (de_var 1) da_nil)) da_nil)))
    (dss_cons (ds_asgTT (vs := [6, 7]) rfl (da_cons (de_repr C.hgd C.u64 rfl T.b_repr (da_cons (de_lst (da_cons (de_var 4) (da_cons (de_var 5) da_nil))) da_nil)) (da_cons (de_lstM da_nil) da_nil)) (dgs_cons (dg_name (i := 6) sc_f_law.nd rfl (by first | exact Or.inl rfl | exact Or.inr rfl) (by decide)) (dgs_cons (dg_name (i := 7) sc_f_law.nd rfl (by first | exact Or.inl rfl | exact Or.inr rfl) (by decide)) dgs_nil)) (hd := (lenCons (lenCons lenNil))))
    (dss_cons (ds_for (vs := [8, 9, 10, 11]) po rfl (di_seq (de_addX (de_addX (de_callX R.f_errors_a_l C rfl T.m_f_errors_a_l T.kp_f_errors_a_l T.b_f_errors_a_l (da_cons (de_var 4) (da_cons (de_var 5) da_nil))) (de_callX R.f_errors_b_l C rfl T.m_f_errors_b_l T.kp_f_errors_b_l T.b_f_errors_b_l (da_cons (de_var 4) (da_cons (de_var 5) da_nil)))) (de_callX R.f_errors_c_l C rfl T.m_f_errors_c_l T.kp_f_errors_c_l T.b_f_errors_c_l (da_cons (de_var 4) (da_cons (de_var 5) da_nil))))) (dg_tup rfl (dgs_cons (dg_name (i := 8) sc_f_law.nd rfl (by first | exact Or.inl rfl | exact Or.inr rfl) (by decide)) (dgs_cons (dg_name (i := 9) sc_f_law.nd rfl (by first | exact Or.inl rfl | exact Or.inr rfl) (by decide)) (dgs_cons (dg_name (i := 10) sc_f_law.nd rfl (by first | exact Or.inl rfl | exact Or.inr rfl) (by decide)) (dgs_cons (dg_name (i := 11) sc_f_law.nd rfl (by first | exact Or.inl rfl | exact Or.inr rfl) (by decide)) dgs_nil))))) (dss_cons (ds_if (dt_bool (dw_or (dt_neZ C.u65 (de_repr C.hgd C.u64 rfl T.b_repr (da_cons (de_var 9) da_nil)) (de_repr C.hgd C.u64 rfl T.b_repr (da_cons (de_var 10) da_nil))) (dt_or1 (dt_neZ C.u65 (de_callX R.f_sorts_l C rfl T.m_f_sorts_l T.kp_f_sorts_l T.b_f_sorts_l (da_cons (de_var 8) da_nil)) (de_lst (da_cons (de_var 11) da_nil)))))) (dss_one (ds_ret de_bl)) dss_nil)
    (dss_one (ds_expr (de_append (de_var 7) (da_cons (de_callX R.f_flags_l C rfl T.m_f_flags_l T.kp_f_flags_l T.b_f_flags_l (da_cons (de_var 8) da_nil)) da_nil))))))
    (dss_cons (ds_setLc (i := 3) (own := [("_law_k", 12)]) finL_ok rfl sc_f_law.nd rfl rfl (sw_true rfl rfl rfl rfl) (di_range rfl T.b_range (da_cons (de_len rfl T.b_len (da_cons (de_var 7) da_nil)) da_nil)) (blkOk_by (by show blkC ["_law_script", "_law_tape", "_law_turn", "_law_alone", "_law_x", "_law_y", "_law_kept", "_law_flags_here", "_law_e", "_law_told", "_law_due", "_law_sort", "_law_k", "_law_j"] (defScope s_f_law) _ _ = true; decide +kernel)) (fun _ _ _ _ _ => (dg_name (i := 12) sc_f_law.nd rfl (by first | exact Or.inl rfl | exact Or.inr rfl) (by decide))) (fun _ _ _ _ _ => dts_nil) (fun _ _ _ _ _ => (de_lc (own := [("_law_j", 13)]) finL_ok rfl sc_f_law.nd (di_range rfl T.b_range (da_cons (de_len rfl T.b_len (da_cons (de_var 7) da_nil)) da_nil)) (blkOk_by (by kernel_rfl)) (fun _ _ _ _ _ => (dg_name (i := 13) sc_f_law.nd rfl (by first | exact Or.inl rfl | exact Or.inr rfl) (by decide))) (fun _ _ _ _ _ => dts_nil) (fun _ _ _ _ _ => (de_eqZ C.blk.blk.u65 (de_var 13) (de_var 12))))))
    (dss_one (ds_if (dt_bool (dw_or (dt_neZ C.u65 (de_var 7) (de_var 3)) (dt_or1 (dt_neZ C.u65 (de_repr C.hgd C.u64 rfl T.b_repr (da_cons (de_lst (da_cons (de_var 4) (da_cons (de_var 5) da_nil))) da_nil)) (de_var 6))))) (dss_one (ds_ret de_bl)) dss_nil)))))))
    (dss_one (ds_ret de_bl))))
theorem all_ok (T : Tops K mg w ad fd ) : ∀ k, Rk P w K mg base ad fd k (F 0 k)
  | 0 => ⟨fnX_none, fnX_none, fnX_none, fnX_none, fnX_none, fnX_none, fnX_none, fnX_none, fnX_none, fnX_none⟩
  | 1 => ⟨fnX_none, fnX_none, fnX_none, fnX_none, fnX_none, fnX_none, fnX_none, fnX_none, fnX_none, fnX_none⟩
  | 2 => ⟨fnX_none, fnX_none, fnX_none, fnX_none, fnX_none, fnX_none, fnX_none, fnX_none, fnX_none, fnX_none⟩
  | k + 3 => by
    have R := all_ok T  (k + 2)
    have R2 := all_ok T  k
    exact ⟨ok_f_begin_l T R, ok_f_draw_l T R, ok_f_pick_l T R, ok_f_odd_l T R, ok_f_errors_a_l T R, ok_f_errors_b_l T R, ok_f_errors_c_l T R, ok_f_flags_l T R, ok_f_sorts_l T R, ok_f_law T R⟩
end
end K01
namespace K01
open PySem L2 DL PySem.Spec PyProof.Rows LamX
set_option maxHeartbeats 0 in
theorem all_mk {l : PySem.W.OpenLaw} {w : World} {k : Nat} {K : PySem.W.Frag} {h : Heap} {mg : Str → Option Value} {fa : Addr} (X : K.In h) (G : h.Ns mainGlobals mg) (hfa : mg "law" = some (.ref fa))
    {f0 : Addr} {od0 an0 : Option Addr} {sl0 : Array (Option Value)} {oc0 kV0 dc0 pm0 cd0 ct0 : Value}
    {f1 : Addr} {od1 an1 : Option Addr} {sl1 : Array (Option Value)} {oc1 kV1 dc1 pm1 cd1 ct1 : Value}
    {f2 : Addr} {od2 an2 : Option Addr} {sl2 : Array (Option Value)} {oc2 kV2 dc2 pm2 cd2 ct2 : Value}
    {f3 : Addr} {od3 an3 : Option Addr} {sl3 : Array (Option Value)} {oc3 kV3 dc3 pm3 cd3 ct3 : Value}
    {f4 : Addr} {od4 an4 : Option Addr} {sl4 : Array (Option Value)} {oc4 kV4 dc4 pm4 cd4 ct4 : Value}
    {f5 : Addr} {od5 an5 : Option Addr} {sl5 : Array (Option Value)} {oc5 kV5 dc5 pm5 cd5 ct5 : Value}
    {f6 : Addr} {od6 an6 : Option Addr} {sl6 : Array (Option Value)} {oc6 kV6 dc6 pm6 cd6 ct6 : Value}
    {f7 : Addr} {od7 an7 : Option Addr} {sl7 : Array (Option Value)} {oc7 kV7 dc7 pm7 cd7 ct7 : Value}
    {f8 : Addr} {od8 an8 : Option Addr} {sl8 : Array (Option Value)} {oc8 kV8 dc8 pm8 cd8 ct8 : Value}
    {f9 : Addr} {od9 an9 : Option Addr} {sl9 : Array (Option Value)} {oc9 kV9 dc9 pm9 cd9 ct9 : Value}
    {Cv_BadArms fv_BadArms : Addr} {odV_BadArms anV_BadArms : Option Addr} {slV_BadArms : Array (Option Value)} {ocV_BadArms kVV_BadArms dcV_BadArms pmV_BadArms cdV_BadArms ctV_BadArms : Value}
    {Cv_BadMembers fv_BadMembers : Addr} {odV_BadMembers anV_BadMembers : Option Addr} {slV_BadMembers : Array (Option Value)} {ocV_BadMembers kVV_BadMembers dcV_BadMembers pmV_BadMembers cdV_BadMembers ctV_BadMembers : Value}
    {Cv_Broken fv_Broken : Addr} {odV_Broken anV_Broken : Option Addr} {slV_Broken : Array (Option Value)} {ocV_Broken kVV_Broken dcV_Broken pmV_Broken cdV_Broken ctV_Broken : Value}
    {Cv_Clash fv_Clash : Addr} {odV_Clash anV_Clash : Option Addr} {slV_Clash : Array (Option Value)} {ocV_Clash kVV_Clash dcV_Clash pmV_Clash cdV_Clash ctV_Clash : Value}
    {Cv_Faulty fv_Faulty : Addr} {odV_Faulty anV_Faulty : Option Addr} {slV_Faulty : Array (Option Value)} {ocV_Faulty kVV_Faulty dcV_Faulty pmV_Faulty cdV_Faulty ctV_Faulty : Value}
    {Cv_Grows fv_Grows : Addr} {odV_Grows anV_Grows : Option Addr} {slV_Grows : Array (Option Value)} {ocV_Grows kVV_Grows dcV_Grows pmV_Grows cdV_Grows ctV_Grows : Value}
    {Cv_Improper fv_Improper : Addr} {odV_Improper anV_Improper : Option Addr} {slV_Improper : Array (Option Value)} {ocV_Improper kVV_Improper dcV_Improper pmV_Improper cdV_Improper ctV_Improper : Value}
    {Cv_InvalidCount fv_InvalidCount : Addr} {odV_InvalidCount anV_InvalidCount : Option Addr} {slV_InvalidCount : Array (Option Value)} {ocV_InvalidCount kVV_InvalidCount dcV_InvalidCount pmV_InvalidCount cdV_InvalidCount ctV_InvalidCount : Value}
    {Cv_InvalidDeclaration fv_InvalidDeclaration : Addr} {odV_InvalidDeclaration anV_InvalidDeclaration : Option Addr} {slV_InvalidDeclaration : Array (Option Value)} {ocV_InvalidDeclaration kVV_InvalidDeclaration dcV_InvalidDeclaration pmV_InvalidDeclaration cdV_InvalidDeclaration ctV_InvalidDeclaration : Value}
    {Cv_InvalidDeed fv_InvalidDeed : Addr} {odV_InvalidDeed anV_InvalidDeed : Option Addr} {slV_InvalidDeed : Array (Option Value)} {ocV_InvalidDeed kVV_InvalidDeed dcV_InvalidDeed pmV_InvalidDeed cdV_InvalidDeed ctV_InvalidDeed : Value}
    {Cv_InvalidForm fv_InvalidForm : Addr} {odV_InvalidForm anV_InvalidForm : Option Addr} {slV_InvalidForm : Array (Option Value)} {ocV_InvalidForm kVV_InvalidForm dcV_InvalidForm pmV_InvalidForm cdV_InvalidForm ctV_InvalidForm : Value}
    {Cv_InvalidGuard fv_InvalidGuard : Addr} {odV_InvalidGuard anV_InvalidGuard : Option Addr} {slV_InvalidGuard : Array (Option Value)} {ocV_InvalidGuard kVV_InvalidGuard dcV_InvalidGuard pmV_InvalidGuard cdV_InvalidGuard ctV_InvalidGuard : Value}
    {Cv_InvalidKind fv_InvalidKind : Addr} {odV_InvalidKind anV_InvalidKind : Option Addr} {slV_InvalidKind : Array (Option Value)} {ocV_InvalidKind kVV_InvalidKind dcV_InvalidKind pmV_InvalidKind cdV_InvalidKind ctV_InvalidKind : Value}
    {Cv_InvalidLimit fv_InvalidLimit : Addr} {odV_InvalidLimit anV_InvalidLimit : Option Addr} {slV_InvalidLimit : Array (Option Value)} {ocV_InvalidLimit kVV_InvalidLimit dcV_InvalidLimit pmV_InvalidLimit cdV_InvalidLimit ctV_InvalidLimit : Value}
    {Cv_InvalidMarked fv_InvalidMarked : Addr} {odV_InvalidMarked anV_InvalidMarked : Option Addr} {slV_InvalidMarked : Array (Option Value)} {ocV_InvalidMarked kVV_InvalidMarked dcV_InvalidMarked pmV_InvalidMarked cdV_InvalidMarked ctV_InvalidMarked : Value}
    {Cv_InvalidNeed fv_InvalidNeed : Addr} {odV_InvalidNeed anV_InvalidNeed : Option Addr} {slV_InvalidNeed : Array (Option Value)} {ocV_InvalidNeed kVV_InvalidNeed dcV_InvalidNeed pmV_InvalidNeed cdV_InvalidNeed ctV_InvalidNeed : Value}
    {Cv_InvalidPicks fv_InvalidPicks : Addr} {odV_InvalidPicks anV_InvalidPicks : Option Addr} {slV_InvalidPicks : Array (Option Value)} {ocV_InvalidPicks kVV_InvalidPicks dcV_InvalidPicks pmV_InvalidPicks cdV_InvalidPicks ctV_InvalidPicks : Value}
    {Cv_InvalidScheme fv_InvalidScheme : Addr} {odV_InvalidScheme anV_InvalidScheme : Option Addr} {slV_InvalidScheme : Array (Option Value)} {ocV_InvalidScheme kVV_InvalidScheme dcV_InvalidScheme pmV_InvalidScheme cdV_InvalidScheme ctV_InvalidScheme : Value}
    {Cv_InvalidText fv_InvalidText : Addr} {odV_InvalidText anV_InvalidText : Option Addr} {slV_InvalidText : Array (Option Value)} {ocV_InvalidText kVV_InvalidText dcV_InvalidText pmV_InvalidText cdV_InvalidText ctV_InvalidText : Value}
    {Cv_InvalidValue fv_InvalidValue : Addr} {odV_InvalidValue anV_InvalidValue : Option Addr} {slV_InvalidValue : Array (Option Value)} {ocV_InvalidValue kVV_InvalidValue dcV_InvalidValue pmV_InvalidValue cdV_InvalidValue ctV_InvalidValue : Value}
    {Cv_Known fv_Known : Addr} {odV_Known anV_Known : Option Addr} {slV_Known : Array (Option Value)} {ocV_Known kVV_Known dcV_Known pmV_Known cdV_Known ctV_Known : Value}
    {Cv_Misshapen fv_Misshapen : Addr} {odV_Misshapen anV_Misshapen : Option Addr} {slV_Misshapen : Array (Option Value)} {ocV_Misshapen kVV_Misshapen dcV_Misshapen pmV_Misshapen cdV_Misshapen ctV_Misshapen : Value}
    {Cv_Missing fv_Missing : Addr} {odV_Missing anV_Missing : Option Addr} {slV_Missing : Array (Option Value)} {ocV_Missing kVV_Missing dcV_Missing pmV_Missing cdV_Missing ctV_Missing : Value}
    {Cv_NoCore fv_NoCore : Addr} {odV_NoCore anV_NoCore : Option Addr} {slV_NoCore : Array (Option Value)} {ocV_NoCore kVV_NoCore dcV_NoCore pmV_NoCore cdV_NoCore ctV_NoCore : Value}
    {Cv_NoDefinition fv_NoDefinition : Addr} {odV_NoDefinition anV_NoDefinition : Option Addr} {slV_NoDefinition : Array (Option Value)} {ocV_NoDefinition kVV_NoDefinition dcV_NoDefinition pmV_NoDefinition cdV_NoDefinition ctV_NoDefinition : Value}
    {Cv_NoPrimitive fv_NoPrimitive : Addr} {odV_NoPrimitive anV_NoPrimitive : Option Addr} {slV_NoPrimitive : Array (Option Value)} {ocV_NoPrimitive kVV_NoPrimitive dcV_NoPrimitive pmV_NoPrimitive cdV_NoPrimitive ctV_NoPrimitive : Value}
    {Cv_NotClosed fv_NotClosed : Addr} {odV_NotClosed anV_NotClosed : Option Addr} {slV_NotClosed : Array (Option Value)} {ocV_NotClosed kVV_NotClosed dcV_NotClosed pmV_NotClosed cdV_NotClosed ctV_NotClosed : Value}
    {Cv_OutOfRange fv_OutOfRange : Addr} {odV_OutOfRange anV_OutOfRange : Option Addr} {slV_OutOfRange : Array (Option Value)} {ocV_OutOfRange kVV_OutOfRange dcV_OutOfRange pmV_OutOfRange cdV_OutOfRange ctV_OutOfRange : Value}
    {Cv_OutOfTerm fv_OutOfTerm : Addr} {odV_OutOfTerm anV_OutOfTerm : Option Addr} {slV_OutOfTerm : Array (Option Value)} {ocV_OutOfTerm kVV_OutOfTerm dcV_OutOfTerm pmV_OutOfTerm cdV_OutOfTerm ctV_OutOfTerm : Value}
    {Cv_Repeated fv_Repeated : Addr} {odV_Repeated anV_Repeated : Option Addr} {slV_Repeated : Array (Option Value)} {ocV_Repeated kVV_Repeated dcV_Repeated pmV_Repeated cdV_Repeated ctV_Repeated : Value}
    {Cv_RoleRing fv_RoleRing : Addr} {odV_RoleRing anV_RoleRing : Option Addr} {slV_RoleRing : Array (Option Value)} {ocV_RoleRing kVV_RoleRing dcV_RoleRing pmV_RoleRing cdV_RoleRing ctV_RoleRing : Value}
    {Cv_Uncovered fv_Uncovered : Addr} {odV_Uncovered anV_Uncovered : Option Addr} {slV_Uncovered : Array (Option Value)} {ocV_Uncovered kVV_Uncovered dcV_Uncovered pmV_Uncovered cdV_Uncovered ctV_Uncovered : Value}
    {Cv_Underivable fv_Underivable : Addr} {odV_Underivable anV_Underivable : Option Addr} {slV_Underivable : Array (Option Value)} {ocV_Underivable kVV_Underivable dcV_Underivable pmV_Underivable cdV_Underivable ctV_Underivable : Value}
    {Cv_Unknown fv_Unknown : Addr} {odV_Unknown anV_Unknown : Option Addr} {slV_Unknown : Array (Option Value)} {ocV_Unknown kVV_Unknown dcV_Unknown pmV_Unknown cdV_Unknown ctV_Unknown : Value}
    {Cv_UnknownName fv_UnknownName : Addr} {odV_UnknownName anV_UnknownName : Option Addr} {slV_UnknownName : Array (Option Value)} {ocV_UnknownName kVV_UnknownName dcV_UnknownName pmV_UnknownName cdV_UnknownName ctV_UnknownName : Value}
    {Cv_Unmet fv_Unmet : Addr} {odV_Unmet anV_Unmet : Option Addr} {slV_Unmet : Array (Option Value)} {ocV_Unmet kVV_Unmet dcV_Unmet pmV_Unmet cdV_Unmet ctV_Unmet : Value}
    {Cv_Unsupported fv_Unsupported : Addr} {odV_Unsupported anV_Unsupported : Option Addr} {slV_Unsupported : Array (Option Value)} {ocV_Unsupported kVV_Unsupported dcV_Unsupported pmV_Unsupported cdV_Unsupported ctV_Unsupported : Value}
    {Cv_Wrong fv_Wrong : Addr} {odV_Wrong anV_Wrong : Option Addr} {slV_Wrong : Array (Option Value)} {ocV_Wrong kVV_Wrong dcV_Wrong pmV_Wrong cdV_Wrong ctV_Wrong : Value}
    (a0 : PySem.W.nsIn K mainGlobals "_law_begin" = some (some (.ref f0)))
    (l0 : K.lookup f0 = some ⟨oc0, od0, .func (PySem.W.fnOf "_law_begin" "_law_begin" (defArgs s_f_begin_l) (defBody s_f_begin_l) (defScope s_f_begin_l) .none kV0 dc0 pm0 an0 cd0 ct0), sl0⟩)
    (c0 : PySem.W.codeIn K cd0 "_law_begin" = true)
    (k0 : PySem.W.keepIn K (.ref f0) = true)
    (a1 : PySem.W.nsIn K mainGlobals "_law_draw" = some (some (.ref f1)))
    (l1 : K.lookup f1 = some ⟨oc1, od1, .func (PySem.W.fnOf "_law_draw" "_law_draw" (defArgs s_f_draw_l) (defBody s_f_draw_l) (defScope s_f_draw_l) .none kV1 dc1 pm1 an1 cd1 ct1), sl1⟩)
    (c1 : PySem.W.codeIn K cd1 "_law_draw" = true)
    (k1 : PySem.W.keepIn K (.ref f1) = true)
    (a2 : PySem.W.nsIn K mainGlobals "_law_pick" = some (some (.ref f2)))
    (l2 : K.lookup f2 = some ⟨oc2, od2, .func (PySem.W.fnOf "_law_pick" "_law_pick" (defArgs s_f_pick_l) (defBody s_f_pick_l) (defScope s_f_pick_l) .none kV2 dc2 pm2 an2 cd2 ct2), sl2⟩)
    (c2 : PySem.W.codeIn K cd2 "_law_pick" = true)
    (k2 : PySem.W.keepIn K (.ref f2) = true)
    (a3 : PySem.W.nsIn K mainGlobals "_law_odd" = some (some (.ref f3)))
    (l3 : K.lookup f3 = some ⟨oc3, od3, .func (PySem.W.fnOf "_law_odd" "_law_odd" (defArgs s_f_odd_l) (defBody s_f_odd_l) (defScope s_f_odd_l) .none kV3 dc3 pm3 an3 cd3 ct3), sl3⟩)
    (c3 : PySem.W.codeIn K cd3 "_law_odd" = true)
    (k3 : PySem.W.keepIn K (.ref f3) = true)
    (a4 : PySem.W.nsIn K mainGlobals "_law_errors_a" = some (some (.ref f4)))
    (l4 : K.lookup f4 = some ⟨oc4, od4, .func (PySem.W.fnOf "_law_errors_a" "_law_errors_a" (defArgs s_f_errors_a_l) (defBody s_f_errors_a_l) (defScope s_f_errors_a_l) .none kV4 dc4 pm4 an4 cd4 ct4), sl4⟩)
    (c4 : PySem.W.codeIn K cd4 "_law_errors_a" = true)
    (k4 : PySem.W.keepIn K (.ref f4) = true)
    (a5 : PySem.W.nsIn K mainGlobals "_law_errors_b" = some (some (.ref f5)))
    (l5 : K.lookup f5 = some ⟨oc5, od5, .func (PySem.W.fnOf "_law_errors_b" "_law_errors_b" (defArgs s_f_errors_b_l) (defBody s_f_errors_b_l) (defScope s_f_errors_b_l) .none kV5 dc5 pm5 an5 cd5 ct5), sl5⟩)
    (c5 : PySem.W.codeIn K cd5 "_law_errors_b" = true)
    (k5 : PySem.W.keepIn K (.ref f5) = true)
    (a6 : PySem.W.nsIn K mainGlobals "_law_errors_c" = some (some (.ref f6)))
    (l6 : K.lookup f6 = some ⟨oc6, od6, .func (PySem.W.fnOf "_law_errors_c" "_law_errors_c" (defArgs s_f_errors_c_l) (defBody s_f_errors_c_l) (defScope s_f_errors_c_l) .none kV6 dc6 pm6 an6 cd6 ct6), sl6⟩)
    (c6 : PySem.W.codeIn K cd6 "_law_errors_c" = true)
    (k6 : PySem.W.keepIn K (.ref f6) = true)
    (a7 : PySem.W.nsIn K mainGlobals "_law_flags" = some (some (.ref f7)))
    (l7 : K.lookup f7 = some ⟨oc7, od7, .func (PySem.W.fnOf "_law_flags" "_law_flags" (defArgs s_f_flags_l) (defBody s_f_flags_l) (defScope s_f_flags_l) .none kV7 dc7 pm7 an7 cd7 ct7), sl7⟩)
    (c7 : PySem.W.codeIn K cd7 "_law_flags" = true)
    (k7 : PySem.W.keepIn K (.ref f7) = true)
    (a8 : PySem.W.nsIn K mainGlobals "_law_sorts" = some (some (.ref f8)))
    (l8 : K.lookup f8 = some ⟨oc8, od8, .func (PySem.W.fnOf "_law_sorts" "_law_sorts" (defArgs s_f_sorts_l) (defBody s_f_sorts_l) (defScope s_f_sorts_l) .none kV8 dc8 pm8 an8 cd8 ct8), sl8⟩)
    (c8 : PySem.W.codeIn K cd8 "_law_sorts" = true)
    (k8 : PySem.W.keepIn K (.ref f8) = true)
    (a9 : PySem.W.nsIn K mainGlobals "law" = some (some (.ref f9)))
    (l9 : K.lookup f9 = some ⟨oc9, od9, .func (PySem.W.fnOf "law" "law" (defArgs s_f_law) (defBody s_f_law) (defScope s_f_law) .none kV9 dc9 pm9 an9 cd9 ct9), sl9⟩)
    (c9 : PySem.W.codeIn K cd9 "law" = true)
    (k9 : PySem.W.keepIn K (.ref f9) = true)
    (va_BadArms : PySem.W.nsIn K mainGlobals "BadArms" = some (some (.ref Cv_BadArms)))
    (vi_BadArms : PySem.W.findIn K (.ref Cv_BadArms) "__init__" = some (some (.ref fv_BadArms)))
    (vm_BadArms : K.lookup fv_BadArms = some ⟨ocV_BadArms, odV_BadArms, .func (PySem.W.fnOf "__init__" ("BadArms" ++ ".__init__") (defArgs si_BadArms) (defBody si_BadArms) (defScope si_BadArms) .none kVV_BadArms dcV_BadArms pmV_BadArms anV_BadArms cdV_BadArms ctV_BadArms), slV_BadArms⟩)
    (vn_BadArms : PySem.W.codeIn K cdV_BadArms ("BadArms" ++ ".__init__") = true)
    (vo_BadArms : PySem.W.keepIn K (.ref fv_BadArms) = true)
    (vc_BadArms : chkXv K Cv_BadArms fv_BadArms "ValueError" "ValueError.__new__" ["index"] = true)
    (vp_ValueError : PySem.W.nsIn K mainGlobals "ValueError" = some none)
    (vq_ValueError : PySem.W.findCls K (.type "ValueError") (.type "type") "__init__" = some (.val (.builtin "ValueError.__init__")))
    (va_BadMembers : PySem.W.nsIn K mainGlobals "BadMembers" = some (some (.ref Cv_BadMembers)))
    (vi_BadMembers : PySem.W.findIn K (.ref Cv_BadMembers) "__init__" = some (some (.ref fv_BadMembers)))
    (vm_BadMembers : K.lookup fv_BadMembers = some ⟨ocV_BadMembers, odV_BadMembers, .func (PySem.W.fnOf "__init__" ("BadMembers" ++ ".__init__") (defArgs si_BadMembers) (defBody si_BadMembers) (defScope si_BadMembers) .none kVV_BadMembers dcV_BadMembers pmV_BadMembers anV_BadMembers cdV_BadMembers ctV_BadMembers), slV_BadMembers⟩)
    (vn_BadMembers : PySem.W.codeIn K cdV_BadMembers ("BadMembers" ++ ".__init__") = true)
    (vo_BadMembers : PySem.W.keepIn K (.ref fv_BadMembers) = true)
    (vc_BadMembers : chkXv K Cv_BadMembers fv_BadMembers "ValueError" "ValueError.__new__" ["index"] = true)
    (va_Broken : PySem.W.nsIn K mainGlobals "Broken" = some (some (.ref Cv_Broken)))
    (vi_Broken : PySem.W.findIn K (.ref Cv_Broken) "__init__" = some (some (.ref fv_Broken)))
    (vm_Broken : K.lookup fv_Broken = some ⟨ocV_Broken, odV_Broken, .func (PySem.W.fnOf "__init__" ("Broken" ++ ".__init__") (defArgs si_Broken) (defBody si_Broken) (defScope si_Broken) .none kVV_Broken dcV_Broken pmV_Broken anV_Broken cdV_Broken ctV_Broken), slV_Broken⟩)
    (vn_Broken : PySem.W.codeIn K cdV_Broken ("Broken" ++ ".__init__") = true)
    (vo_Broken : PySem.W.keepIn K (.ref fv_Broken) = true)
    (vc_Broken : chkXv K Cv_Broken fv_Broken "RuntimeError" "RuntimeError.__new__" ["index"] = true)
    (vp_RuntimeError : PySem.W.nsIn K mainGlobals "RuntimeError" = some none)
    (vq_RuntimeError : PySem.W.findCls K (.type "RuntimeError") (.type "type") "__init__" = some (.val (.builtin "RuntimeError.__init__")))
    (va_Clash : PySem.W.nsIn K mainGlobals "Clash" = some (some (.ref Cv_Clash)))
    (vi_Clash : PySem.W.findIn K (.ref Cv_Clash) "__init__" = some (some (.ref fv_Clash)))
    (vm_Clash : K.lookup fv_Clash = some ⟨ocV_Clash, odV_Clash, .func (PySem.W.fnOf "__init__" ("Clash" ++ ".__init__") (defArgs si_Clash) (defBody si_Clash) (defScope si_Clash) .none kVV_Clash dcV_Clash pmV_Clash anV_Clash cdV_Clash ctV_Clash), slV_Clash⟩)
    (vn_Clash : PySem.W.codeIn K cdV_Clash ("Clash" ++ ".__init__") = true)
    (vo_Clash : PySem.W.keepIn K (.ref fv_Clash) = true)
    (vc_Clash : chkXv K Cv_Clash fv_Clash "ValueError" "ValueError.__new__" ["index", "other"] = true)
    (va_Faulty : PySem.W.nsIn K mainGlobals "Faulty" = some (some (.ref Cv_Faulty)))
    (vi_Faulty : PySem.W.findIn K (.ref Cv_Faulty) "__init__" = some (some (.ref fv_Faulty)))
    (vm_Faulty : K.lookup fv_Faulty = some ⟨ocV_Faulty, odV_Faulty, .func (PySem.W.fnOf "__init__" ("Faulty" ++ ".__init__") (defArgs si_Faulty) (defBody si_Faulty) (defScope si_Faulty) .none kVV_Faulty dcV_Faulty pmV_Faulty anV_Faulty cdV_Faulty ctV_Faulty), slV_Faulty⟩)
    (vn_Faulty : PySem.W.codeIn K cdV_Faulty ("Faulty" ++ ".__init__") = true)
    (vo_Faulty : PySem.W.keepIn K (.ref fv_Faulty) = true)
    (vc_Faulty : chkXv K Cv_Faulty fv_Faulty "RuntimeError" "RuntimeError.__new__" ["where"] = true)
    (va_Grows : PySem.W.nsIn K mainGlobals "Grows" = some (some (.ref Cv_Grows)))
    (vi_Grows : PySem.W.findIn K (.ref Cv_Grows) "__init__" = some (some (.ref fv_Grows)))
    (vm_Grows : K.lookup fv_Grows = some ⟨ocV_Grows, odV_Grows, .func (PySem.W.fnOf "__init__" ("Grows" ++ ".__init__") (defArgs si_Grows) (defBody si_Grows) (defScope si_Grows) .none kVV_Grows dcV_Grows pmV_Grows anV_Grows cdV_Grows ctV_Grows), slV_Grows⟩)
    (vn_Grows : PySem.W.codeIn K cdV_Grows ("Grows" ++ ".__init__") = true)
    (vo_Grows : PySem.W.keepIn K (.ref fv_Grows) = true)
    (vc_Grows : chkXv K Cv_Grows fv_Grows "ValueError" "ValueError.__new__" ["index", "need"] = true)
    (va_Improper : PySem.W.nsIn K mainGlobals "Improper" = some (some (.ref Cv_Improper)))
    (vi_Improper : PySem.W.findIn K (.ref Cv_Improper) "__init__" = some (some (.ref fv_Improper)))
    (vm_Improper : K.lookup fv_Improper = some ⟨ocV_Improper, odV_Improper, .func (PySem.W.fnOf "__init__" ("Improper" ++ ".__init__") (defArgs si_Improper) (defBody si_Improper) (defScope si_Improper) .none kVV_Improper dcV_Improper pmV_Improper anV_Improper cdV_Improper ctV_Improper), slV_Improper⟩)
    (vn_Improper : PySem.W.codeIn K cdV_Improper ("Improper" ++ ".__init__") = true)
    (vo_Improper : PySem.W.keepIn K (.ref fv_Improper) = true)
    (vc_Improper : chkXv K Cv_Improper fv_Improper "ValueError" "ValueError.__new__" ["index"] = true)
    (va_InvalidCount : PySem.W.nsIn K mainGlobals "InvalidCount" = some (some (.ref Cv_InvalidCount)))
    (vi_InvalidCount : PySem.W.findIn K (.ref Cv_InvalidCount) "__init__" = some (some (.ref fv_InvalidCount)))
    (vm_InvalidCount : K.lookup fv_InvalidCount = some ⟨ocV_InvalidCount, odV_InvalidCount, .func (PySem.W.fnOf "__init__" ("InvalidCount" ++ ".__init__") (defArgs si_InvalidCount) (defBody si_InvalidCount) (defScope si_InvalidCount) .none kVV_InvalidCount dcV_InvalidCount pmV_InvalidCount anV_InvalidCount cdV_InvalidCount ctV_InvalidCount), slV_InvalidCount⟩)
    (vn_InvalidCount : PySem.W.codeIn K cdV_InvalidCount ("InvalidCount" ++ ".__init__") = true)
    (vo_InvalidCount : PySem.W.keepIn K (.ref fv_InvalidCount) = true)
    (vc_InvalidCount : chkXv K Cv_InvalidCount fv_InvalidCount "ValueError" "ValueError.__new__" ["number"] = true)
    (va_InvalidDeclaration : PySem.W.nsIn K mainGlobals "InvalidDeclaration" = some (some (.ref Cv_InvalidDeclaration)))
    (vi_InvalidDeclaration : PySem.W.findIn K (.ref Cv_InvalidDeclaration) "__init__" = some (some (.ref fv_InvalidDeclaration)))
    (vm_InvalidDeclaration : K.lookup fv_InvalidDeclaration = some ⟨ocV_InvalidDeclaration, odV_InvalidDeclaration, .func (PySem.W.fnOf "__init__" ("InvalidDeclaration" ++ ".__init__") (defArgs si_InvalidDeclaration) (defBody si_InvalidDeclaration) (defScope si_InvalidDeclaration) .none kVV_InvalidDeclaration dcV_InvalidDeclaration pmV_InvalidDeclaration anV_InvalidDeclaration cdV_InvalidDeclaration ctV_InvalidDeclaration), slV_InvalidDeclaration⟩)
    (vn_InvalidDeclaration : PySem.W.codeIn K cdV_InvalidDeclaration ("InvalidDeclaration" ++ ".__init__") = true)
    (vo_InvalidDeclaration : PySem.W.keepIn K (.ref fv_InvalidDeclaration) = true)
    (vc_InvalidDeclaration : chkXv K Cv_InvalidDeclaration fv_InvalidDeclaration "ValueError" "ValueError.__new__" ["index"] = true)
    (va_InvalidDeed : PySem.W.nsIn K mainGlobals "InvalidDeed" = some (some (.ref Cv_InvalidDeed)))
    (vi_InvalidDeed : PySem.W.findIn K (.ref Cv_InvalidDeed) "__init__" = some (some (.ref fv_InvalidDeed)))
    (vm_InvalidDeed : K.lookup fv_InvalidDeed = some ⟨ocV_InvalidDeed, odV_InvalidDeed, .func (PySem.W.fnOf "__init__" ("InvalidDeed" ++ ".__init__") (defArgs si_InvalidDeed) (defBody si_InvalidDeed) (defScope si_InvalidDeed) .none kVV_InvalidDeed dcV_InvalidDeed pmV_InvalidDeed anV_InvalidDeed cdV_InvalidDeed ctV_InvalidDeed), slV_InvalidDeed⟩)
    (vn_InvalidDeed : PySem.W.codeIn K cdV_InvalidDeed ("InvalidDeed" ++ ".__init__") = true)
    (vo_InvalidDeed : PySem.W.keepIn K (.ref fv_InvalidDeed) = true)
    (vc_InvalidDeed : chkXv K Cv_InvalidDeed fv_InvalidDeed "ValueError" "ValueError.__new__" ["index"] = true)
    (va_InvalidForm : PySem.W.nsIn K mainGlobals "InvalidForm" = some (some (.ref Cv_InvalidForm)))
    (vi_InvalidForm : PySem.W.findIn K (.ref Cv_InvalidForm) "__init__" = some (some (.ref fv_InvalidForm)))
    (vm_InvalidForm : K.lookup fv_InvalidForm = some ⟨ocV_InvalidForm, odV_InvalidForm, .func (PySem.W.fnOf "__init__" ("InvalidForm" ++ ".__init__") (defArgs si_InvalidForm) (defBody si_InvalidForm) (defScope si_InvalidForm) .none kVV_InvalidForm dcV_InvalidForm pmV_InvalidForm anV_InvalidForm cdV_InvalidForm ctV_InvalidForm), slV_InvalidForm⟩)
    (vn_InvalidForm : PySem.W.codeIn K cdV_InvalidForm ("InvalidForm" ++ ".__init__") = true)
    (vo_InvalidForm : PySem.W.keepIn K (.ref fv_InvalidForm) = true)
    (vc_InvalidForm : chkXv K Cv_InvalidForm fv_InvalidForm "ValueError" "ValueError.__new__" ["word"] = true)
    (va_InvalidGuard : PySem.W.nsIn K mainGlobals "InvalidGuard" = some (some (.ref Cv_InvalidGuard)))
    (vi_InvalidGuard : PySem.W.findIn K (.ref Cv_InvalidGuard) "__init__" = some (some (.ref fv_InvalidGuard)))
    (vm_InvalidGuard : K.lookup fv_InvalidGuard = some ⟨ocV_InvalidGuard, odV_InvalidGuard, .func (PySem.W.fnOf "__init__" ("InvalidGuard" ++ ".__init__") (defArgs si_InvalidGuard) (defBody si_InvalidGuard) (defScope si_InvalidGuard) .none kVV_InvalidGuard dcV_InvalidGuard pmV_InvalidGuard anV_InvalidGuard cdV_InvalidGuard ctV_InvalidGuard), slV_InvalidGuard⟩)
    (vn_InvalidGuard : PySem.W.codeIn K cdV_InvalidGuard ("InvalidGuard" ++ ".__init__") = true)
    (vo_InvalidGuard : PySem.W.keepIn K (.ref fv_InvalidGuard) = true)
    (vc_InvalidGuard : chkXv K Cv_InvalidGuard fv_InvalidGuard "ValueError" "ValueError.__new__" ["index"] = true)
    (va_InvalidKind : PySem.W.nsIn K mainGlobals "InvalidKind" = some (some (.ref Cv_InvalidKind)))
    (vi_InvalidKind : PySem.W.findIn K (.ref Cv_InvalidKind) "__init__" = some (some (.ref fv_InvalidKind)))
    (vm_InvalidKind : K.lookup fv_InvalidKind = some ⟨ocV_InvalidKind, odV_InvalidKind, .func (PySem.W.fnOf "__init__" ("InvalidKind" ++ ".__init__") (defArgs si_InvalidKind) (defBody si_InvalidKind) (defScope si_InvalidKind) .none kVV_InvalidKind dcV_InvalidKind pmV_InvalidKind anV_InvalidKind cdV_InvalidKind ctV_InvalidKind), slV_InvalidKind⟩)
    (vn_InvalidKind : PySem.W.codeIn K cdV_InvalidKind ("InvalidKind" ++ ".__init__") = true)
    (vo_InvalidKind : PySem.W.keepIn K (.ref fv_InvalidKind) = true)
    (vc_InvalidKind : chkXv K Cv_InvalidKind fv_InvalidKind "ValueError" "ValueError.__new__" ["value"] = true)
    (va_InvalidLimit : PySem.W.nsIn K mainGlobals "InvalidLimit" = some (some (.ref Cv_InvalidLimit)))
    (vi_InvalidLimit : PySem.W.findIn K (.ref Cv_InvalidLimit) "__init__" = some (some (.ref fv_InvalidLimit)))
    (vm_InvalidLimit : K.lookup fv_InvalidLimit = some ⟨ocV_InvalidLimit, odV_InvalidLimit, .func (PySem.W.fnOf "__init__" ("InvalidLimit" ++ ".__init__") (defArgs si_InvalidLimit) (defBody si_InvalidLimit) (defScope si_InvalidLimit) .none kVV_InvalidLimit dcV_InvalidLimit pmV_InvalidLimit anV_InvalidLimit cdV_InvalidLimit ctV_InvalidLimit), slV_InvalidLimit⟩)
    (vn_InvalidLimit : PySem.W.codeIn K cdV_InvalidLimit ("InvalidLimit" ++ ".__init__") = true)
    (vo_InvalidLimit : PySem.W.keepIn K (.ref fv_InvalidLimit) = true)
    (vc_InvalidLimit : chkXv K Cv_InvalidLimit fv_InvalidLimit "ValueError" "ValueError.__new__" ["limit"] = true)
    (va_InvalidMarked : PySem.W.nsIn K mainGlobals "InvalidMarked" = some (some (.ref Cv_InvalidMarked)))
    (vi_InvalidMarked : PySem.W.findIn K (.ref Cv_InvalidMarked) "__init__" = some (some (.ref fv_InvalidMarked)))
    (vm_InvalidMarked : K.lookup fv_InvalidMarked = some ⟨ocV_InvalidMarked, odV_InvalidMarked, .func (PySem.W.fnOf "__init__" ("InvalidMarked" ++ ".__init__") (defArgs si_InvalidMarked) (defBody si_InvalidMarked) (defScope si_InvalidMarked) .none kVV_InvalidMarked dcV_InvalidMarked pmV_InvalidMarked anV_InvalidMarked cdV_InvalidMarked ctV_InvalidMarked), slV_InvalidMarked⟩)
    (vn_InvalidMarked : PySem.W.codeIn K cdV_InvalidMarked ("InvalidMarked" ++ ".__init__") = true)
    (vo_InvalidMarked : PySem.W.keepIn K (.ref fv_InvalidMarked) = true)
    (vc_InvalidMarked : chkXv K Cv_InvalidMarked fv_InvalidMarked "ValueError" "ValueError.__new__" ["index"] = true)
    (va_InvalidNeed : PySem.W.nsIn K mainGlobals "InvalidNeed" = some (some (.ref Cv_InvalidNeed)))
    (vi_InvalidNeed : PySem.W.findIn K (.ref Cv_InvalidNeed) "__init__" = some (some (.ref fv_InvalidNeed)))
    (vm_InvalidNeed : K.lookup fv_InvalidNeed = some ⟨ocV_InvalidNeed, odV_InvalidNeed, .func (PySem.W.fnOf "__init__" ("InvalidNeed" ++ ".__init__") (defArgs si_InvalidNeed) (defBody si_InvalidNeed) (defScope si_InvalidNeed) .none kVV_InvalidNeed dcV_InvalidNeed pmV_InvalidNeed anV_InvalidNeed cdV_InvalidNeed ctV_InvalidNeed), slV_InvalidNeed⟩)
    (vn_InvalidNeed : PySem.W.codeIn K cdV_InvalidNeed ("InvalidNeed" ++ ".__init__") = true)
    (vo_InvalidNeed : PySem.W.keepIn K (.ref fv_InvalidNeed) = true)
    (vc_InvalidNeed : chkXv K Cv_InvalidNeed fv_InvalidNeed "ValueError" "ValueError.__new__" ["value"] = true)
    (va_InvalidPicks : PySem.W.nsIn K mainGlobals "InvalidPicks" = some (some (.ref Cv_InvalidPicks)))
    (vi_InvalidPicks : PySem.W.findIn K (.ref Cv_InvalidPicks) "__init__" = some (some (.ref fv_InvalidPicks)))
    (vm_InvalidPicks : K.lookup fv_InvalidPicks = some ⟨ocV_InvalidPicks, odV_InvalidPicks, .func (PySem.W.fnOf "__init__" ("InvalidPicks" ++ ".__init__") (defArgs si_InvalidPicks) (defBody si_InvalidPicks) (defScope si_InvalidPicks) .none kVV_InvalidPicks dcV_InvalidPicks pmV_InvalidPicks anV_InvalidPicks cdV_InvalidPicks ctV_InvalidPicks), slV_InvalidPicks⟩)
    (vn_InvalidPicks : PySem.W.codeIn K cdV_InvalidPicks ("InvalidPicks" ++ ".__init__") = true)
    (vo_InvalidPicks : PySem.W.keepIn K (.ref fv_InvalidPicks) = true)
    (vc_InvalidPicks : chkXv K Cv_InvalidPicks fv_InvalidPicks "ValueError" "ValueError.__new__" [] = true)
    (va_InvalidScheme : PySem.W.nsIn K mainGlobals "InvalidScheme" = some (some (.ref Cv_InvalidScheme)))
    (vi_InvalidScheme : PySem.W.findIn K (.ref Cv_InvalidScheme) "__init__" = some (some (.ref fv_InvalidScheme)))
    (vm_InvalidScheme : K.lookup fv_InvalidScheme = some ⟨ocV_InvalidScheme, odV_InvalidScheme, .func (PySem.W.fnOf "__init__" ("InvalidScheme" ++ ".__init__") (defArgs si_InvalidScheme) (defBody si_InvalidScheme) (defScope si_InvalidScheme) .none kVV_InvalidScheme dcV_InvalidScheme pmV_InvalidScheme anV_InvalidScheme cdV_InvalidScheme ctV_InvalidScheme), slV_InvalidScheme⟩)
    (vn_InvalidScheme : PySem.W.codeIn K cdV_InvalidScheme ("InvalidScheme" ++ ".__init__") = true)
    (vo_InvalidScheme : PySem.W.keepIn K (.ref fv_InvalidScheme) = true)
    (vc_InvalidScheme : chkXv K Cv_InvalidScheme fv_InvalidScheme "ValueError" "ValueError.__new__" ["value"] = true)
    (va_InvalidText : PySem.W.nsIn K mainGlobals "InvalidText" = some (some (.ref Cv_InvalidText)))
    (vi_InvalidText : PySem.W.findIn K (.ref Cv_InvalidText) "__init__" = some (some (.ref fv_InvalidText)))
    (vm_InvalidText : K.lookup fv_InvalidText = some ⟨ocV_InvalidText, odV_InvalidText, .func (PySem.W.fnOf "__init__" ("InvalidText" ++ ".__init__") (defArgs si_InvalidText) (defBody si_InvalidText) (defScope si_InvalidText) .none kVV_InvalidText dcV_InvalidText pmV_InvalidText anV_InvalidText cdV_InvalidText ctV_InvalidText), slV_InvalidText⟩)
    (vn_InvalidText : PySem.W.codeIn K cdV_InvalidText ("InvalidText" ++ ".__init__") = true)
    (vo_InvalidText : PySem.W.keepIn K (.ref fv_InvalidText) = true)
    (vc_InvalidText : chkXv K Cv_InvalidText fv_InvalidText "ValueError" "ValueError.__new__" ["line", "piece"] = true)
    (va_InvalidValue : PySem.W.nsIn K mainGlobals "InvalidValue" = some (some (.ref Cv_InvalidValue)))
    (vi_InvalidValue : PySem.W.findIn K (.ref Cv_InvalidValue) "__init__" = some (some (.ref fv_InvalidValue)))
    (vm_InvalidValue : K.lookup fv_InvalidValue = some ⟨ocV_InvalidValue, odV_InvalidValue, .func (PySem.W.fnOf "__init__" ("InvalidValue" ++ ".__init__") (defArgs si_InvalidValue) (defBody si_InvalidValue) (defScope si_InvalidValue) .none kVV_InvalidValue dcV_InvalidValue pmV_InvalidValue anV_InvalidValue cdV_InvalidValue ctV_InvalidValue), slV_InvalidValue⟩)
    (vn_InvalidValue : PySem.W.codeIn K cdV_InvalidValue ("InvalidValue" ++ ".__init__") = true)
    (vo_InvalidValue : PySem.W.keepIn K (.ref fv_InvalidValue) = true)
    (vc_InvalidValue : chkXv K Cv_InvalidValue fv_InvalidValue "ValueError" "ValueError.__new__" ["index"] = true)
    (va_Known : PySem.W.nsIn K mainGlobals "Known" = some (some (.ref Cv_Known)))
    (vi_Known : PySem.W.findIn K (.ref Cv_Known) "__init__" = some (some (.ref fv_Known)))
    (vm_Known : K.lookup fv_Known = some ⟨ocV_Known, odV_Known, .func (PySem.W.fnOf "__init__" ("Known" ++ ".__init__") (defArgs si_Known) (defBody si_Known) (defScope si_Known) .none kVV_Known dcV_Known pmV_Known anV_Known cdV_Known ctV_Known), slV_Known⟩)
    (vn_Known : PySem.W.codeIn K cdV_Known ("Known" ++ ".__init__") = true)
    (vo_Known : PySem.W.keepIn K (.ref fv_Known) = true)
    (vc_Known : chkXv K Cv_Known fv_Known "LookupError" "LookupError.__new__" ["index"] = true)
    (vp_LookupError : PySem.W.nsIn K mainGlobals "LookupError" = some none)
    (vq_LookupError : PySem.W.findCls K (.type "LookupError") (.type "type") "__init__" = some (.val (.builtin "LookupError.__init__")))
    (va_Misshapen : PySem.W.nsIn K mainGlobals "Misshapen" = some (some (.ref Cv_Misshapen)))
    (vi_Misshapen : PySem.W.findIn K (.ref Cv_Misshapen) "__init__" = some (some (.ref fv_Misshapen)))
    (vm_Misshapen : K.lookup fv_Misshapen = some ⟨ocV_Misshapen, odV_Misshapen, .func (PySem.W.fnOf "__init__" ("Misshapen" ++ ".__init__") (defArgs si_Misshapen) (defBody si_Misshapen) (defScope si_Misshapen) .none kVV_Misshapen dcV_Misshapen pmV_Misshapen anV_Misshapen cdV_Misshapen ctV_Misshapen), slV_Misshapen⟩)
    (vn_Misshapen : PySem.W.codeIn K cdV_Misshapen ("Misshapen" ++ ".__init__") = true)
    (vo_Misshapen : PySem.W.keepIn K (.ref fv_Misshapen) = true)
    (vc_Misshapen : chkXv K Cv_Misshapen fv_Misshapen "ValueError" "ValueError.__new__" ["index"] = true)
    (va_Missing : PySem.W.nsIn K mainGlobals "Missing" = some (some (.ref Cv_Missing)))
    (vi_Missing : PySem.W.findIn K (.ref Cv_Missing) "__init__" = some (some (.ref fv_Missing)))
    (vm_Missing : K.lookup fv_Missing = some ⟨ocV_Missing, odV_Missing, .func (PySem.W.fnOf "__init__" ("Missing" ++ ".__init__") (defArgs si_Missing) (defBody si_Missing) (defScope si_Missing) .none kVV_Missing dcV_Missing pmV_Missing anV_Missing cdV_Missing ctV_Missing), slV_Missing⟩)
    (vn_Missing : PySem.W.codeIn K cdV_Missing ("Missing" ++ ".__init__") = true)
    (vo_Missing : PySem.W.keepIn K (.ref fv_Missing) = true)
    (vc_Missing : chkXv K Cv_Missing fv_Missing "LookupError" "LookupError.__new__" ["index"] = true)
    (va_NoCore : PySem.W.nsIn K mainGlobals "NoCore" = some (some (.ref Cv_NoCore)))
    (vi_NoCore : PySem.W.findIn K (.ref Cv_NoCore) "__init__" = some (some (.ref fv_NoCore)))
    (vm_NoCore : K.lookup fv_NoCore = some ⟨ocV_NoCore, odV_NoCore, .func (PySem.W.fnOf "__init__" ("NoCore" ++ ".__init__") (defArgs si_NoCore) (defBody si_NoCore) (defScope si_NoCore) .none kVV_NoCore dcV_NoCore pmV_NoCore anV_NoCore cdV_NoCore ctV_NoCore), slV_NoCore⟩)
    (vn_NoCore : PySem.W.codeIn K cdV_NoCore ("NoCore" ++ ".__init__") = true)
    (vo_NoCore : PySem.W.keepIn K (.ref fv_NoCore) = true)
    (vc_NoCore : chkXv K Cv_NoCore fv_NoCore "LookupError" "LookupError.__new__" ["where"] = true)
    (va_NoDefinition : PySem.W.nsIn K mainGlobals "NoDefinition" = some (some (.ref Cv_NoDefinition)))
    (vi_NoDefinition : PySem.W.findIn K (.ref Cv_NoDefinition) "__init__" = some (some (.ref fv_NoDefinition)))
    (vm_NoDefinition : K.lookup fv_NoDefinition = some ⟨ocV_NoDefinition, odV_NoDefinition, .func (PySem.W.fnOf "__init__" ("NoDefinition" ++ ".__init__") (defArgs si_NoDefinition) (defBody si_NoDefinition) (defScope si_NoDefinition) .none kVV_NoDefinition dcV_NoDefinition pmV_NoDefinition anV_NoDefinition cdV_NoDefinition ctV_NoDefinition), slV_NoDefinition⟩)
    (vn_NoDefinition : PySem.W.codeIn K cdV_NoDefinition ("NoDefinition" ++ ".__init__") = true)
    (vo_NoDefinition : PySem.W.keepIn K (.ref fv_NoDefinition) = true)
    (vc_NoDefinition : chkXv K Cv_NoDefinition fv_NoDefinition "LookupError" "LookupError.__new__" ["word"] = true)
    (va_NoPrimitive : PySem.W.nsIn K mainGlobals "NoPrimitive" = some (some (.ref Cv_NoPrimitive)))
    (vi_NoPrimitive : PySem.W.findIn K (.ref Cv_NoPrimitive) "__init__" = some (some (.ref fv_NoPrimitive)))
    (vm_NoPrimitive : K.lookup fv_NoPrimitive = some ⟨ocV_NoPrimitive, odV_NoPrimitive, .func (PySem.W.fnOf "__init__" ("NoPrimitive" ++ ".__init__") (defArgs si_NoPrimitive) (defBody si_NoPrimitive) (defScope si_NoPrimitive) .none kVV_NoPrimitive dcV_NoPrimitive pmV_NoPrimitive anV_NoPrimitive cdV_NoPrimitive ctV_NoPrimitive), slV_NoPrimitive⟩)
    (vn_NoPrimitive : PySem.W.codeIn K cdV_NoPrimitive ("NoPrimitive" ++ ".__init__") = true)
    (vo_NoPrimitive : PySem.W.keepIn K (.ref fv_NoPrimitive) = true)
    (vc_NoPrimitive : chkXv K Cv_NoPrimitive fv_NoPrimitive "LookupError" "LookupError.__new__" ["word"] = true)
    (va_NotClosed : PySem.W.nsIn K mainGlobals "NotClosed" = some (some (.ref Cv_NotClosed)))
    (vi_NotClosed : PySem.W.findIn K (.ref Cv_NotClosed) "__init__" = some (some (.ref fv_NotClosed)))
    (vm_NotClosed : K.lookup fv_NotClosed = some ⟨ocV_NotClosed, odV_NotClosed, .func (PySem.W.fnOf "__init__" ("NotClosed" ++ ".__init__") (defArgs si_NotClosed) (defBody si_NotClosed) (defScope si_NotClosed) .none kVV_NotClosed dcV_NotClosed pmV_NotClosed anV_NotClosed cdV_NotClosed ctV_NotClosed), slV_NotClosed⟩)
    (vn_NotClosed : PySem.W.codeIn K cdV_NotClosed ("NotClosed" ++ ".__init__") = true)
    (vo_NotClosed : PySem.W.keepIn K (.ref fv_NotClosed) = true)
    (vc_NotClosed : chkXv K Cv_NotClosed fv_NotClosed "ValueError" "ValueError.__new__" ["word"] = true)
    (va_OutOfRange : PySem.W.nsIn K mainGlobals "OutOfRange" = some (some (.ref Cv_OutOfRange)))
    (vi_OutOfRange : PySem.W.findIn K (.ref Cv_OutOfRange) "__init__" = some (some (.ref fv_OutOfRange)))
    (vm_OutOfRange : K.lookup fv_OutOfRange = some ⟨ocV_OutOfRange, odV_OutOfRange, .func (PySem.W.fnOf "__init__" ("OutOfRange" ++ ".__init__") (defArgs si_OutOfRange) (defBody si_OutOfRange) (defScope si_OutOfRange) .none kVV_OutOfRange dcV_OutOfRange pmV_OutOfRange anV_OutOfRange cdV_OutOfRange ctV_OutOfRange), slV_OutOfRange⟩)
    (vn_OutOfRange : PySem.W.codeIn K cdV_OutOfRange ("OutOfRange" ++ ".__init__") = true)
    (vo_OutOfRange : PySem.W.keepIn K (.ref fv_OutOfRange) = true)
    (vc_OutOfRange : chkXv K Cv_OutOfRange fv_OutOfRange "LookupError" "LookupError.__new__" ["value"] = true)
    (va_OutOfTerm : PySem.W.nsIn K mainGlobals "OutOfTerm" = some (some (.ref Cv_OutOfTerm)))
    (vi_OutOfTerm : PySem.W.findIn K (.ref Cv_OutOfTerm) "__init__" = some (some (.ref fv_OutOfTerm)))
    (vm_OutOfTerm : K.lookup fv_OutOfTerm = some ⟨ocV_OutOfTerm, odV_OutOfTerm, .func (PySem.W.fnOf "__init__" ("OutOfTerm" ++ ".__init__") (defArgs si_OutOfTerm) (defBody si_OutOfTerm) (defScope si_OutOfTerm) .none kVV_OutOfTerm dcV_OutOfTerm pmV_OutOfTerm anV_OutOfTerm cdV_OutOfTerm ctV_OutOfTerm), slV_OutOfTerm⟩)
    (vn_OutOfTerm : PySem.W.codeIn K cdV_OutOfTerm ("OutOfTerm" ++ ".__init__") = true)
    (vo_OutOfTerm : PySem.W.keepIn K (.ref fv_OutOfTerm) = true)
    (vc_OutOfTerm : chkXv K Cv_OutOfTerm fv_OutOfTerm "LookupError" "LookupError.__new__" ["place"] = true)
    (va_Repeated : PySem.W.nsIn K mainGlobals "Repeated" = some (some (.ref Cv_Repeated)))
    (vi_Repeated : PySem.W.findIn K (.ref Cv_Repeated) "__init__" = some (some (.ref fv_Repeated)))
    (vm_Repeated : K.lookup fv_Repeated = some ⟨ocV_Repeated, odV_Repeated, .func (PySem.W.fnOf "__init__" ("Repeated" ++ ".__init__") (defArgs si_Repeated) (defBody si_Repeated) (defScope si_Repeated) .none kVV_Repeated dcV_Repeated pmV_Repeated anV_Repeated cdV_Repeated ctV_Repeated), slV_Repeated⟩)
    (vn_Repeated : PySem.W.codeIn K cdV_Repeated ("Repeated" ++ ".__init__") = true)
    (vo_Repeated : PySem.W.keepIn K (.ref fv_Repeated) = true)
    (vc_Repeated : chkXv K Cv_Repeated fv_Repeated "ValueError" "ValueError.__new__" ["index"] = true)
    (va_RoleRing : PySem.W.nsIn K mainGlobals "RoleRing" = some (some (.ref Cv_RoleRing)))
    (vi_RoleRing : PySem.W.findIn K (.ref Cv_RoleRing) "__init__" = some (some (.ref fv_RoleRing)))
    (vm_RoleRing : K.lookup fv_RoleRing = some ⟨ocV_RoleRing, odV_RoleRing, .func (PySem.W.fnOf "__init__" ("RoleRing" ++ ".__init__") (defArgs si_RoleRing) (defBody si_RoleRing) (defScope si_RoleRing) .none kVV_RoleRing dcV_RoleRing pmV_RoleRing anV_RoleRing cdV_RoleRing ctV_RoleRing), slV_RoleRing⟩)
    (vn_RoleRing : PySem.W.codeIn K cdV_RoleRing ("RoleRing" ++ ".__init__") = true)
    (vo_RoleRing : PySem.W.keepIn K (.ref fv_RoleRing) = true)
    (vc_RoleRing : chkXv K Cv_RoleRing fv_RoleRing "ValueError" "ValueError.__new__" ["index"] = true)
    (va_Uncovered : PySem.W.nsIn K mainGlobals "Uncovered" = some (some (.ref Cv_Uncovered)))
    (vi_Uncovered : PySem.W.findIn K (.ref Cv_Uncovered) "__init__" = some (some (.ref fv_Uncovered)))
    (vm_Uncovered : K.lookup fv_Uncovered = some ⟨ocV_Uncovered, odV_Uncovered, .func (PySem.W.fnOf "__init__" ("Uncovered" ++ ".__init__") (defArgs si_Uncovered) (defBody si_Uncovered) (defScope si_Uncovered) .none kVV_Uncovered dcV_Uncovered pmV_Uncovered anV_Uncovered cdV_Uncovered ctV_Uncovered), slV_Uncovered⟩)
    (vn_Uncovered : PySem.W.codeIn K cdV_Uncovered ("Uncovered" ++ ".__init__") = true)
    (vo_Uncovered : PySem.W.keepIn K (.ref fv_Uncovered) = true)
    (vc_Uncovered : chkXv K Cv_Uncovered fv_Uncovered "ValueError" "ValueError.__new__" ["index"] = true)
    (va_Underivable : PySem.W.nsIn K mainGlobals "Underivable" = some (some (.ref Cv_Underivable)))
    (vi_Underivable : PySem.W.findIn K (.ref Cv_Underivable) "__init__" = some (some (.ref fv_Underivable)))
    (vm_Underivable : K.lookup fv_Underivable = some ⟨ocV_Underivable, odV_Underivable, .func (PySem.W.fnOf "__init__" ("Underivable" ++ ".__init__") (defArgs si_Underivable) (defBody si_Underivable) (defScope si_Underivable) .none kVV_Underivable dcV_Underivable pmV_Underivable anV_Underivable cdV_Underivable ctV_Underivable), slV_Underivable⟩)
    (vn_Underivable : PySem.W.codeIn K cdV_Underivable ("Underivable" ++ ".__init__") = true)
    (vo_Underivable : PySem.W.keepIn K (.ref fv_Underivable) = true)
    (vc_Underivable : chkXv K Cv_Underivable fv_Underivable "ValueError" "ValueError.__new__" ["word", "need"] = true)
    (va_Unknown : PySem.W.nsIn K mainGlobals "Unknown" = some (some (.ref Cv_Unknown)))
    (vi_Unknown : PySem.W.findIn K (.ref Cv_Unknown) "__init__" = some (some (.ref fv_Unknown)))
    (vm_Unknown : K.lookup fv_Unknown = some ⟨ocV_Unknown, odV_Unknown, .func (PySem.W.fnOf "__init__" ("Unknown" ++ ".__init__") (defArgs si_Unknown) (defBody si_Unknown) (defScope si_Unknown) .none kVV_Unknown dcV_Unknown pmV_Unknown anV_Unknown cdV_Unknown ctV_Unknown), slV_Unknown⟩)
    (vn_Unknown : PySem.W.codeIn K cdV_Unknown ("Unknown" ++ ".__init__") = true)
    (vo_Unknown : PySem.W.keepIn K (.ref fv_Unknown) = true)
    (vc_Unknown : chkXv K Cv_Unknown fv_Unknown "LookupError" "LookupError.__new__" ["index", "word"] = true)
    (va_UnknownName : PySem.W.nsIn K mainGlobals "UnknownName" = some (some (.ref Cv_UnknownName)))
    (vi_UnknownName : PySem.W.findIn K (.ref Cv_UnknownName) "__init__" = some (some (.ref fv_UnknownName)))
    (vm_UnknownName : K.lookup fv_UnknownName = some ⟨ocV_UnknownName, odV_UnknownName, .func (PySem.W.fnOf "__init__" ("UnknownName" ++ ".__init__") (defArgs si_UnknownName) (defBody si_UnknownName) (defScope si_UnknownName) .none kVV_UnknownName dcV_UnknownName pmV_UnknownName anV_UnknownName cdV_UnknownName ctV_UnknownName), slV_UnknownName⟩)
    (vn_UnknownName : PySem.W.codeIn K cdV_UnknownName ("UnknownName" ++ ".__init__") = true)
    (vo_UnknownName : PySem.W.keepIn K (.ref fv_UnknownName) = true)
    (vc_UnknownName : chkXv K Cv_UnknownName fv_UnknownName "LookupError" "LookupError.__new__" ["value"] = true)
    (va_Unmet : PySem.W.nsIn K mainGlobals "Unmet" = some (some (.ref Cv_Unmet)))
    (vi_Unmet : PySem.W.findIn K (.ref Cv_Unmet) "__init__" = some (some (.ref fv_Unmet)))
    (vm_Unmet : K.lookup fv_Unmet = some ⟨ocV_Unmet, odV_Unmet, .func (PySem.W.fnOf "__init__" ("Unmet" ++ ".__init__") (defArgs si_Unmet) (defBody si_Unmet) (defScope si_Unmet) .none kVV_Unmet dcV_Unmet pmV_Unmet anV_Unmet cdV_Unmet ctV_Unmet), slV_Unmet⟩)
    (vn_Unmet : PySem.W.codeIn K cdV_Unmet ("Unmet" ++ ".__init__") = true)
    (vo_Unmet : PySem.W.keepIn K (.ref fv_Unmet) = true)
    (vc_Unmet : chkXv K Cv_Unmet fv_Unmet "LookupError" "LookupError.__new__" ["need"] = true)
    (va_Unsupported : PySem.W.nsIn K mainGlobals "Unsupported" = some (some (.ref Cv_Unsupported)))
    (vi_Unsupported : PySem.W.findIn K (.ref Cv_Unsupported) "__init__" = some (some (.ref fv_Unsupported)))
    (vm_Unsupported : K.lookup fv_Unsupported = some ⟨ocV_Unsupported, odV_Unsupported, .func (PySem.W.fnOf "__init__" ("Unsupported" ++ ".__init__") (defArgs si_Unsupported) (defBody si_Unsupported) (defScope si_Unsupported) .none kVV_Unsupported dcV_Unsupported pmV_Unsupported anV_Unsupported cdV_Unsupported ctV_Unsupported), slV_Unsupported⟩)
    (vn_Unsupported : PySem.W.codeIn K cdV_Unsupported ("Unsupported" ++ ".__init__") = true)
    (vo_Unsupported : PySem.W.keepIn K (.ref fv_Unsupported) = true)
    (vc_Unsupported : chkXv K Cv_Unsupported fv_Unsupported "ValueError" "ValueError.__new__" ["index", "number"] = true)
    (va_Wrong : PySem.W.nsIn K mainGlobals "Wrong" = some (some (.ref Cv_Wrong)))
    (vi_Wrong : PySem.W.findIn K (.ref Cv_Wrong) "__init__" = some (some (.ref fv_Wrong)))
    (vm_Wrong : K.lookup fv_Wrong = some ⟨ocV_Wrong, odV_Wrong, .func (PySem.W.fnOf "__init__" ("Wrong" ++ ".__init__") (defArgs si_Wrong) (defBody si_Wrong) (defScope si_Wrong) .none kVV_Wrong dcV_Wrong pmV_Wrong anV_Wrong cdV_Wrong ctV_Wrong), slV_Wrong⟩)
    (vn_Wrong : PySem.W.codeIn K cdV_Wrong ("Wrong" ++ ".__init__") = true)
    (vo_Wrong : PySem.W.keepIn K (.ref fv_Wrong) = true)
    (vc_Wrong : chkXv K Cv_Wrong fv_Wrong "RuntimeError" "RuntimeError.__new__" ["found"] = true)
    (vt_BadArms : isiTab K (.ref Cv_BadArms) insNames (fun n => n == "BadArms") = true)
    (vt_BadMembers : isiTab K (.ref Cv_BadMembers) insNames (fun n => n == "BadMembers") = true)
    (vt_Broken : isiTab K (.ref Cv_Broken) insNames (fun n => n == "Broken") = true)
    (vt_Clash : isiTab K (.ref Cv_Clash) insNames (fun n => n == "Clash") = true)
    (vt_Faulty : isiTab K (.ref Cv_Faulty) insNames (fun n => n == "Faulty") = true)
    (vt_Grows : isiTab K (.ref Cv_Grows) insNames (fun n => n == "Grows") = true)
    (vt_Improper : isiTab K (.ref Cv_Improper) insNames (fun n => n == "Improper") = true)
    (vt_InvalidCount : isiTab K (.ref Cv_InvalidCount) insNames (fun n => n == "InvalidCount") = true)
    (vt_InvalidDeclaration : isiTab K (.ref Cv_InvalidDeclaration) insNames (fun n => n == "InvalidDeclaration") = true)
    (vt_InvalidDeed : isiTab K (.ref Cv_InvalidDeed) insNames (fun n => n == "InvalidDeed") = true)
    (vt_InvalidForm : isiTab K (.ref Cv_InvalidForm) insNames (fun n => n == "InvalidForm") = true)
    (vt_InvalidGuard : isiTab K (.ref Cv_InvalidGuard) insNames (fun n => n == "InvalidGuard") = true)
    (vt_InvalidKind : isiTab K (.ref Cv_InvalidKind) insNames (fun n => n == "InvalidKind") = true)
    (vt_InvalidLimit : isiTab K (.ref Cv_InvalidLimit) insNames (fun n => n == "InvalidLimit") = true)
    (vt_InvalidMarked : isiTab K (.ref Cv_InvalidMarked) insNames (fun n => n == "InvalidMarked") = true)
    (vt_InvalidNeed : isiTab K (.ref Cv_InvalidNeed) insNames (fun n => n == "InvalidNeed") = true)
    (vt_InvalidPicks : isiTab K (.ref Cv_InvalidPicks) insNames (fun n => n == "InvalidPicks") = true)
    (vt_InvalidScheme : isiTab K (.ref Cv_InvalidScheme) insNames (fun n => n == "InvalidScheme") = true)
    (vt_InvalidText : isiTab K (.ref Cv_InvalidText) insNames (fun n => n == "InvalidText") = true)
    (vt_InvalidValue : isiTab K (.ref Cv_InvalidValue) insNames (fun n => n == "InvalidValue") = true)
    (vt_Known : isiTab K (.ref Cv_Known) insNames (fun n => n == "Known") = true)
    (vt_LookupError : isiTab K (.type "LookupError") insNames (fun n => insOver_LookupError.contains n) = true)
    (vt_Misshapen : isiTab K (.ref Cv_Misshapen) insNames (fun n => n == "Misshapen") = true)
    (vt_Missing : isiTab K (.ref Cv_Missing) insNames (fun n => n == "Missing") = true)
    (vt_NoCore : isiTab K (.ref Cv_NoCore) insNames (fun n => n == "NoCore") = true)
    (vt_NoDefinition : isiTab K (.ref Cv_NoDefinition) insNames (fun n => n == "NoDefinition") = true)
    (vt_NoPrimitive : isiTab K (.ref Cv_NoPrimitive) insNames (fun n => n == "NoPrimitive") = true)
    (vt_NotClosed : isiTab K (.ref Cv_NotClosed) insNames (fun n => n == "NotClosed") = true)
    (vt_OutOfRange : isiTab K (.ref Cv_OutOfRange) insNames (fun n => n == "OutOfRange") = true)
    (vt_OutOfTerm : isiTab K (.ref Cv_OutOfTerm) insNames (fun n => n == "OutOfTerm") = true)
    (vt_Repeated : isiTab K (.ref Cv_Repeated) insNames (fun n => n == "Repeated") = true)
    (vt_RoleRing : isiTab K (.ref Cv_RoleRing) insNames (fun n => n == "RoleRing") = true)
    (vt_RuntimeError : isiTab K (.type "RuntimeError") insNames (fun n => insOver_RuntimeError.contains n) = true)
    (vt_Uncovered : isiTab K (.ref Cv_Uncovered) insNames (fun n => n == "Uncovered") = true)
    (vt_Underivable : isiTab K (.ref Cv_Underivable) insNames (fun n => n == "Underivable") = true)
    (vt_Unknown : isiTab K (.ref Cv_Unknown) insNames (fun n => n == "Unknown") = true)
    (vt_UnknownName : isiTab K (.ref Cv_UnknownName) insNames (fun n => n == "UnknownName") = true)
    (vt_Unmet : isiTab K (.ref Cv_Unmet) insNames (fun n => n == "Unmet") = true)
    (vt_Unsupported : isiTab K (.ref Cv_Unsupported) insNames (fun n => n == "Unsupported") = true)
    (vt_ValueError : isiTab K (.type "ValueError") insNames (fun n => insOver_ValueError.contains n) = true)
    (vt_Wrong : isiTab K (.ref Cv_Wrong) insNames (fun n => n == "Wrong") = true)
    (z_LookupError : PySem.W.nsIn K mainGlobals "LookupError" = some none)
    (z_RuntimeError : PySem.W.nsIn K mainGlobals "RuntimeError" = some none)
    (z_ValueError : PySem.W.nsIn K mainGlobals "ValueError" = some none)
    (z_int : PySem.W.nsIn K mainGlobals "int" = some none)
    (z_isinstance : PySem.W.nsIn K mainGlobals "isinstance" = some none)
    (z_len : PySem.W.nsIn K mainGlobals "len" = some none)
    (z_min : PySem.W.nsIn K mainGlobals "min" = some none)
    (z_range : PySem.W.nsIn K mainGlobals "range" = some none)
    (z_repr : PySem.W.nsIn K mainGlobals "repr" = some none)
    (z_zip : PySem.W.nsIn K mainGlobals "zip" = some none) :
    ∃ fd : FuncData, (∀ (s : Shared) (u : Value), BindsTo s fd ⟨[u], []⟩ [("_law_script", u)]) ∧ ∀ base : Heap, K.In base → base.Ns mainGlobals mg → FnX l.prog w K mg base k fa fd ["_law_script"] (spX K 1 (F 0 k .f_law)) := by
  have e := (PySem.W.mg_of X G a9).symm.trans hfa
  obtain rfl : f9 = fa := by injection e with e; injection e
  have FV_BadArms := fun_mk (st := si_BadArms) vm_BadArms vn_BadArms vo_BadArms
  have BV_BadArms := FV_BadArms.binds (ps := ["self", "index"]) fun _ _ _ _ _ _ us hl => match us, hl with | [_, _], _ => rfl
  have FV_BadMembers := fun_mk (st := si_BadMembers) vm_BadMembers vn_BadMembers vo_BadMembers
  have BV_BadMembers := FV_BadMembers.binds (ps := ["self", "index"]) fun _ _ _ _ _ _ us hl => match us, hl with | [_, _], _ => rfl
  have FV_Broken := fun_mk (st := si_Broken) vm_Broken vn_Broken vo_Broken
  have BV_Broken := FV_Broken.binds (ps := ["self", "index"]) fun _ _ _ _ _ _ us hl => match us, hl with | [_, _], _ => rfl
  have FV_Clash := fun_mk (st := si_Clash) vm_Clash vn_Clash vo_Clash
  have BV_Clash := FV_Clash.binds (ps := ["self", "index", "other"]) fun _ _ _ _ _ _ us hl => match us, hl with | [_, _, _], _ => rfl
  have FV_Faulty := fun_mk (st := si_Faulty) vm_Faulty vn_Faulty vo_Faulty
  have BV_Faulty := FV_Faulty.binds (ps := ["self", "where"]) fun _ _ _ _ _ _ us hl => match us, hl with | [_, _], _ => rfl
  have FV_Grows := fun_mk (st := si_Grows) vm_Grows vn_Grows vo_Grows
  have BV_Grows := FV_Grows.binds (ps := ["self", "index", "need"]) fun _ _ _ _ _ _ us hl => match us, hl with | [_, _, _], _ => rfl
  have FV_Improper := fun_mk (st := si_Improper) vm_Improper vn_Improper vo_Improper
  have BV_Improper := FV_Improper.binds (ps := ["self", "index"]) fun _ _ _ _ _ _ us hl => match us, hl with | [_, _], _ => rfl
  have FV_InvalidCount := fun_mk (st := si_InvalidCount) vm_InvalidCount vn_InvalidCount vo_InvalidCount
  have BV_InvalidCount := FV_InvalidCount.binds (ps := ["self", "number"]) fun _ _ _ _ _ _ us hl => match us, hl with | [_, _], _ => rfl
  have FV_InvalidDeclaration := fun_mk (st := si_InvalidDeclaration) vm_InvalidDeclaration vn_InvalidDeclaration vo_InvalidDeclaration
  have BV_InvalidDeclaration := FV_InvalidDeclaration.binds (ps := ["self", "index"]) fun _ _ _ _ _ _ us hl => match us, hl with | [_, _], _ => rfl
  have FV_InvalidDeed := fun_mk (st := si_InvalidDeed) vm_InvalidDeed vn_InvalidDeed vo_InvalidDeed
  have BV_InvalidDeed := FV_InvalidDeed.binds (ps := ["self", "index"]) fun _ _ _ _ _ _ us hl => match us, hl with | [_, _], _ => rfl
  have FV_InvalidForm := fun_mk (st := si_InvalidForm) vm_InvalidForm vn_InvalidForm vo_InvalidForm
  have BV_InvalidForm := FV_InvalidForm.binds (ps := ["self", "word"]) fun _ _ _ _ _ _ us hl => match us, hl with | [_, _], _ => rfl
  have FV_InvalidGuard := fun_mk (st := si_InvalidGuard) vm_InvalidGuard vn_InvalidGuard vo_InvalidGuard
  have BV_InvalidGuard := FV_InvalidGuard.binds (ps := ["self", "index"]) fun _ _ _ _ _ _ us hl => match us, hl with | [_, _], _ => rfl
  have FV_InvalidKind := fun_mk (st := si_InvalidKind) vm_InvalidKind vn_InvalidKind vo_InvalidKind
  have BV_InvalidKind := FV_InvalidKind.binds (ps := ["self", "value"]) fun _ _ _ _ _ _ us hl => match us, hl with | [_, _], _ => rfl
  have FV_InvalidLimit := fun_mk (st := si_InvalidLimit) vm_InvalidLimit vn_InvalidLimit vo_InvalidLimit
  have BV_InvalidLimit := FV_InvalidLimit.binds (ps := ["self", "limit"]) fun _ _ _ _ _ _ us hl => match us, hl with | [_, _], _ => rfl
  have FV_InvalidMarked := fun_mk (st := si_InvalidMarked) vm_InvalidMarked vn_InvalidMarked vo_InvalidMarked
  have BV_InvalidMarked := FV_InvalidMarked.binds (ps := ["self", "index"]) fun _ _ _ _ _ _ us hl => match us, hl with | [_, _], _ => rfl
  have FV_InvalidNeed := fun_mk (st := si_InvalidNeed) vm_InvalidNeed vn_InvalidNeed vo_InvalidNeed
  have BV_InvalidNeed := FV_InvalidNeed.binds (ps := ["self", "value"]) fun _ _ _ _ _ _ us hl => match us, hl with | [_, _], _ => rfl
  have FV_InvalidPicks := fun_mk (st := si_InvalidPicks) vm_InvalidPicks vn_InvalidPicks vo_InvalidPicks
  have BV_InvalidPicks := FV_InvalidPicks.binds (ps := ["self"]) fun _ _ _ _ _ _ us hl => match us, hl with | [_], _ => rfl
  have FV_InvalidScheme := fun_mk (st := si_InvalidScheme) vm_InvalidScheme vn_InvalidScheme vo_InvalidScheme
  have BV_InvalidScheme := FV_InvalidScheme.binds (ps := ["self", "value"]) fun _ _ _ _ _ _ us hl => match us, hl with | [_, _], _ => rfl
  have FV_InvalidText := fun_mk (st := si_InvalidText) vm_InvalidText vn_InvalidText vo_InvalidText
  have BV_InvalidText := FV_InvalidText.binds (ps := ["self", "line", "piece"]) fun _ _ _ _ _ _ us hl => match us, hl with | [_, _, _], _ => rfl
  have FV_InvalidValue := fun_mk (st := si_InvalidValue) vm_InvalidValue vn_InvalidValue vo_InvalidValue
  have BV_InvalidValue := FV_InvalidValue.binds (ps := ["self", "index"]) fun _ _ _ _ _ _ us hl => match us, hl with | [_, _], _ => rfl
  have FV_Known := fun_mk (st := si_Known) vm_Known vn_Known vo_Known
  have BV_Known := FV_Known.binds (ps := ["self", "index"]) fun _ _ _ _ _ _ us hl => match us, hl with | [_, _], _ => rfl
  have FV_Misshapen := fun_mk (st := si_Misshapen) vm_Misshapen vn_Misshapen vo_Misshapen
  have BV_Misshapen := FV_Misshapen.binds (ps := ["self", "index"]) fun _ _ _ _ _ _ us hl => match us, hl with | [_, _], _ => rfl
  have FV_Missing := fun_mk (st := si_Missing) vm_Missing vn_Missing vo_Missing
  have BV_Missing := FV_Missing.binds (ps := ["self", "index"]) fun _ _ _ _ _ _ us hl => match us, hl with | [_, _], _ => rfl
  have FV_NoCore := fun_mk (st := si_NoCore) vm_NoCore vn_NoCore vo_NoCore
  have BV_NoCore := FV_NoCore.binds (ps := ["self", "where"]) fun _ _ _ _ _ _ us hl => match us, hl with | [_, _], _ => rfl
  have FV_NoDefinition := fun_mk (st := si_NoDefinition) vm_NoDefinition vn_NoDefinition vo_NoDefinition
  have BV_NoDefinition := FV_NoDefinition.binds (ps := ["self", "word"]) fun _ _ _ _ _ _ us hl => match us, hl with | [_, _], _ => rfl
  have FV_NoPrimitive := fun_mk (st := si_NoPrimitive) vm_NoPrimitive vn_NoPrimitive vo_NoPrimitive
  have BV_NoPrimitive := FV_NoPrimitive.binds (ps := ["self", "word"]) fun _ _ _ _ _ _ us hl => match us, hl with | [_, _], _ => rfl
  have FV_NotClosed := fun_mk (st := si_NotClosed) vm_NotClosed vn_NotClosed vo_NotClosed
  have BV_NotClosed := FV_NotClosed.binds (ps := ["self", "word"]) fun _ _ _ _ _ _ us hl => match us, hl with | [_, _], _ => rfl
  have FV_OutOfRange := fun_mk (st := si_OutOfRange) vm_OutOfRange vn_OutOfRange vo_OutOfRange
  have BV_OutOfRange := FV_OutOfRange.binds (ps := ["self", "value"]) fun _ _ _ _ _ _ us hl => match us, hl with | [_, _], _ => rfl
  have FV_OutOfTerm := fun_mk (st := si_OutOfTerm) vm_OutOfTerm vn_OutOfTerm vo_OutOfTerm
  have BV_OutOfTerm := FV_OutOfTerm.binds (ps := ["self", "place"]) fun _ _ _ _ _ _ us hl => match us, hl with | [_, _], _ => rfl
  have FV_Repeated := fun_mk (st := si_Repeated) vm_Repeated vn_Repeated vo_Repeated
  have BV_Repeated := FV_Repeated.binds (ps := ["self", "index"]) fun _ _ _ _ _ _ us hl => match us, hl with | [_, _], _ => rfl
  have FV_RoleRing := fun_mk (st := si_RoleRing) vm_RoleRing vn_RoleRing vo_RoleRing
  have BV_RoleRing := FV_RoleRing.binds (ps := ["self", "index"]) fun _ _ _ _ _ _ us hl => match us, hl with | [_, _], _ => rfl
  have FV_Uncovered := fun_mk (st := si_Uncovered) vm_Uncovered vn_Uncovered vo_Uncovered
  have BV_Uncovered := FV_Uncovered.binds (ps := ["self", "index"]) fun _ _ _ _ _ _ us hl => match us, hl with | [_, _], _ => rfl
  have FV_Underivable := fun_mk (st := si_Underivable) vm_Underivable vn_Underivable vo_Underivable
  have BV_Underivable := FV_Underivable.binds (ps := ["self", "word", "need"]) fun _ _ _ _ _ _ us hl => match us, hl with | [_, _, _], _ => rfl
  have FV_Unknown := fun_mk (st := si_Unknown) vm_Unknown vn_Unknown vo_Unknown
  have BV_Unknown := FV_Unknown.binds (ps := ["self", "index", "word"]) fun _ _ _ _ _ _ us hl => match us, hl with | [_, _, _], _ => rfl
  have FV_UnknownName := fun_mk (st := si_UnknownName) vm_UnknownName vn_UnknownName vo_UnknownName
  have BV_UnknownName := FV_UnknownName.binds (ps := ["self", "value"]) fun _ _ _ _ _ _ us hl => match us, hl with | [_, _], _ => rfl
  have FV_Unmet := fun_mk (st := si_Unmet) vm_Unmet vn_Unmet vo_Unmet
  have BV_Unmet := FV_Unmet.binds (ps := ["self", "need"]) fun _ _ _ _ _ _ us hl => match us, hl with | [_, _], _ => rfl
  have FV_Unsupported := fun_mk (st := si_Unsupported) vm_Unsupported vn_Unsupported vo_Unsupported
  have BV_Unsupported := FV_Unsupported.binds (ps := ["self", "index", "number"]) fun _ _ _ _ _ _ us hl => match us, hl with | [_, _, _], _ => rfl
  have FV_Wrong := fun_mk (st := si_Wrong) vm_Wrong vn_Wrong vo_Wrong
  have BV_Wrong := FV_Wrong.binds (ps := ["self", "found"]) fun _ _ _ _ _ _ us hl => match us, hl with | [_, _], _ => rfl
  have F0 := fun_mk (st := s_f_begin_l) l0 c0 k0
  have B0 := F0.binds (ps := ["_law_script"]) fun _ _ _ _ _ _ us hl => match us, hl with | [_], _ => rfl
  have F1 := fun_mk (st := s_f_draw_l) l1 c1 k1
  have B1 := F1.binds (ps := ["_law_tape", "_law_many"]) fun _ _ _ _ _ _ us hl => match us, hl with | [_, _], _ => rfl
  have F2 := fun_mk (st := s_f_pick_l) l2 c2 k2
  have B2 := F2.binds (ps := ["_law_tape", "_law_items"]) fun _ _ _ _ _ _ us hl => match us, hl with | [_, _], _ => rfl
  have F3 := fun_mk (st := s_f_odd_l) l3 c3 k3
  have B3 := F3.binds (ps := ["_law_tape"]) fun _ _ _ _ _ _ us hl => match us, hl with | [_], _ => rfl
  have F4 := fun_mk (st := s_f_errors_a_l) l4 c4 k4
  have B4 := F4.binds (ps := ["_law_x", "_law_y"]) fun _ _ _ _ _ _ us hl => match us, hl with | [_, _], _ => rfl
  have F5 := fun_mk (st := s_f_errors_b_l) l5 c5 k5
  have B5 := F5.binds (ps := ["_law_x", "_law_y"]) fun _ _ _ _ _ _ us hl => match us, hl with | [_, _], _ => rfl
  have F6 := fun_mk (st := s_f_errors_c_l) l6 c6 k6
  have B6 := F6.binds (ps := ["_law_x", "_law_y"]) fun _ _ _ _ _ _ us hl => match us, hl with | [_, _], _ => rfl
  have F7 := fun_mk (st := s_f_flags_l) l7 c7 k7
  have B7 := F7.binds (ps := ["_law_e"]) fun _ _ _ _ _ _ us hl => match us, hl with | [_], _ => rfl
  have F8 := fun_mk (st := s_f_sorts_l) l8 c8 k8
  have B8 := F8.binds (ps := ["_law_e"]) fun _ _ _ _ _ _ us hl => match us, hl with | [_], _ => rfl
  have F9 := fun_mk (st := s_f_law) l9 c9 k9
  have B9 := F9.binds (ps := ["_law_script"]) fun _ _ _ _ _ _ us hl => match us, hl with | [_], _ => rfl
  have T : Tops K mg w (fun i => match i with | .f_begin_l => f0 | .f_draw_l => f1 | .f_pick_l => f2 | .f_odd_l => f3 | .f_errors_a_l => f4 | .f_errors_b_l => f5 | .f_errors_c_l => f6 | .f_flags_l => f7 | .f_sorts_l => f8 | .f_law => f9) (fun i => match i with | .f_begin_l => PySem.W.fnOf "_law_begin" "_law_begin" (defArgs s_f_begin_l) (defBody s_f_begin_l) (defScope s_f_begin_l) .none kV0 dc0 pm0 an0 cd0 ct0 | .f_draw_l => PySem.W.fnOf "_law_draw" "_law_draw" (defArgs s_f_draw_l) (defBody s_f_draw_l) (defScope s_f_draw_l) .none kV1 dc1 pm1 an1 cd1 ct1 | .f_pick_l => PySem.W.fnOf "_law_pick" "_law_pick" (defArgs s_f_pick_l) (defBody s_f_pick_l) (defScope s_f_pick_l) .none kV2 dc2 pm2 an2 cd2 ct2 | .f_odd_l => PySem.W.fnOf "_law_odd" "_law_odd" (defArgs s_f_odd_l) (defBody s_f_odd_l) (defScope s_f_odd_l) .none kV3 dc3 pm3 an3 cd3 ct3 | .f_errors_a_l => PySem.W.fnOf "_law_errors_a" "_law_errors_a" (defArgs s_f_errors_a_l) (defBody s_f_errors_a_l) (defScope s_f_errors_a_l) .none kV4 dc4 pm4 an4 cd4 ct4 | .f_errors_b_l => PySem.W.fnOf "_law_errors_b" "_law_errors_b" (defArgs s_f_errors_b_l) (defBody s_f_errors_b_l) (defScope s_f_errors_b_l) .none kV5 dc5 pm5 an5 cd5 ct5 | .f_errors_c_l => PySem.W.fnOf "_law_errors_c" "_law_errors_c" (defArgs s_f_errors_c_l) (defBody s_f_errors_c_l) (defScope s_f_errors_c_l) .none kV6 dc6 pm6 an6 cd6 ct6 | .f_flags_l => PySem.W.fnOf "_law_flags" "_law_flags" (defArgs s_f_flags_l) (defBody s_f_flags_l) (defScope s_f_flags_l) .none kV7 dc7 pm7 an7 cd7 ct7 | .f_sorts_l => PySem.W.fnOf "_law_sorts" "_law_sorts" (defArgs s_f_sorts_l) (defBody s_f_sorts_l) (defScope s_f_sorts_l) .none kV8 dc8 pm8 an8 cd8 ct8 | .f_law => PySem.W.fnOf "law" "law" (defArgs s_f_law) (defBody s_f_law) (defScope s_f_law) .none kV9 dc9 pm9 an9 cd9 ct9)  := ⟨⟨Cv_BadArms, fv_BadArms, _, xval_mk X G va_BadArms vc_BadArms FV_BadArms BV_BadArms vp_ValueError vq_ValueError, fun s a ws hl => match ws, hl with | [_], _ => .of_eq rfl⟩, ⟨Cv_BadMembers, fv_BadMembers, _, xval_mk X G va_BadMembers vc_BadMembers FV_BadMembers BV_BadMembers vp_ValueError vq_ValueError, fun s a ws hl => match ws, hl with | [_], _ => .of_eq rfl⟩, ⟨Cv_Broken, fv_Broken, _, xval_mk X G va_Broken vc_Broken FV_Broken BV_Broken vp_RuntimeError vq_RuntimeError, fun s a ws hl => match ws, hl with | [_], _ => .of_eq rfl⟩, ⟨Cv_Clash, fv_Clash, _, xval_mk X G va_Clash vc_Clash FV_Clash BV_Clash vp_ValueError vq_ValueError, fun s a ws hl => match ws, hl with | [_, _], _ => .of_eq rfl⟩, ⟨Cv_Faulty, fv_Faulty, _, xval_mk X G va_Faulty vc_Faulty FV_Faulty BV_Faulty vp_RuntimeError vq_RuntimeError, fun s a ws hl => match ws, hl with | [_], _ => .of_eq rfl⟩, ⟨Cv_Grows, fv_Grows, _, xval_mk X G va_Grows vc_Grows FV_Grows BV_Grows vp_ValueError vq_ValueError, fun s a ws hl => match ws, hl with | [_, _], _ => .of_eq rfl⟩, ⟨Cv_Improper, fv_Improper, _, xval_mk X G va_Improper vc_Improper FV_Improper BV_Improper vp_ValueError vq_ValueError, fun s a ws hl => match ws, hl with | [_], _ => .of_eq rfl⟩, ⟨Cv_InvalidCount, fv_InvalidCount, _, xval_mk X G va_InvalidCount vc_InvalidCount FV_InvalidCount BV_InvalidCount vp_ValueError vq_ValueError, fun s a ws hl => match ws, hl with | [_], _ => .of_eq rfl⟩, ⟨Cv_InvalidDeclaration, fv_InvalidDeclaration, _, xval_mk X G va_InvalidDeclaration vc_InvalidDeclaration FV_InvalidDeclaration BV_InvalidDeclaration vp_ValueError vq_ValueError, fun s a ws hl => match ws, hl with | [_], _ => .of_eq rfl⟩, ⟨Cv_InvalidDeed, fv_InvalidDeed, _, xval_mk X G va_InvalidDeed vc_InvalidDeed FV_InvalidDeed BV_InvalidDeed vp_ValueError vq_ValueError, fun s a ws hl => match ws, hl with | [_], _ => .of_eq rfl⟩, ⟨Cv_InvalidForm, fv_InvalidForm, _, xval_mk X G va_InvalidForm vc_InvalidForm FV_InvalidForm BV_InvalidForm vp_ValueError vq_ValueError, fun s a ws hl => match ws, hl with | [_], _ => .of_eq rfl⟩, ⟨Cv_InvalidGuard, fv_InvalidGuard, _, xval_mk X G va_InvalidGuard vc_InvalidGuard FV_InvalidGuard BV_InvalidGuard vp_ValueError vq_ValueError, fun s a ws hl => match ws, hl with | [_], _ => .of_eq rfl⟩, ⟨Cv_InvalidKind, fv_InvalidKind, _, xval_mk X G va_InvalidKind vc_InvalidKind FV_InvalidKind BV_InvalidKind vp_ValueError vq_ValueError, fun s a ws hl => match ws, hl with | [_], _ => .of_eq rfl⟩, ⟨Cv_InvalidLimit, fv_InvalidLimit, _, xval_mk X G va_InvalidLimit vc_InvalidLimit FV_InvalidLimit BV_InvalidLimit vp_ValueError vq_ValueError, fun s a ws hl => match ws, hl with | [_], _ => .of_eq rfl⟩, ⟨Cv_InvalidMarked, fv_InvalidMarked, _, xval_mk X G va_InvalidMarked vc_InvalidMarked FV_InvalidMarked BV_InvalidMarked vp_ValueError vq_ValueError, fun s a ws hl => match ws, hl with | [_], _ => .of_eq rfl⟩, ⟨Cv_InvalidNeed, fv_InvalidNeed, _, xval_mk X G va_InvalidNeed vc_InvalidNeed FV_InvalidNeed BV_InvalidNeed vp_ValueError vq_ValueError, fun s a ws hl => match ws, hl with | [_], _ => .of_eq rfl⟩, ⟨Cv_InvalidPicks, fv_InvalidPicks, _, xval_mk X G va_InvalidPicks vc_InvalidPicks FV_InvalidPicks BV_InvalidPicks vp_ValueError vq_ValueError⟩, ⟨Cv_InvalidScheme, fv_InvalidScheme, _, xval_mk X G va_InvalidScheme vc_InvalidScheme FV_InvalidScheme BV_InvalidScheme vp_ValueError vq_ValueError, fun s a ws hl => match ws, hl with | [_], _ => .of_eq rfl⟩, ⟨Cv_InvalidText, fv_InvalidText, _, xval_mk X G va_InvalidText vc_InvalidText FV_InvalidText BV_InvalidText vp_ValueError vq_ValueError, fun s a ws hl => match ws, hl with | [_, _], _ => .of_eq rfl⟩, ⟨Cv_InvalidValue, fv_InvalidValue, _, xval_mk X G va_InvalidValue vc_InvalidValue FV_InvalidValue BV_InvalidValue vp_ValueError vq_ValueError, fun s a ws hl => match ws, hl with | [_], _ => .of_eq rfl⟩, ⟨Cv_Known, fv_Known, _, xval_mk X G va_Known vc_Known FV_Known BV_Known vp_LookupError vq_LookupError, fun s a ws hl => match ws, hl with | [_], _ => .of_eq rfl⟩, ⟨Cv_Misshapen, fv_Misshapen, _, xval_mk X G va_Misshapen vc_Misshapen FV_Misshapen BV_Misshapen vp_ValueError vq_ValueError, fun s a ws hl => match ws, hl with | [_], _ => .of_eq rfl⟩, ⟨Cv_Missing, fv_Missing, _, xval_mk X G va_Missing vc_Missing FV_Missing BV_Missing vp_LookupError vq_LookupError, fun s a ws hl => match ws, hl with | [_], _ => .of_eq rfl⟩, ⟨Cv_NoCore, fv_NoCore, _, xval_mk X G va_NoCore vc_NoCore FV_NoCore BV_NoCore vp_LookupError vq_LookupError, fun s a ws hl => match ws, hl with | [_], _ => .of_eq rfl⟩, ⟨Cv_NoDefinition, fv_NoDefinition, _, xval_mk X G va_NoDefinition vc_NoDefinition FV_NoDefinition BV_NoDefinition vp_LookupError vq_LookupError, fun s a ws hl => match ws, hl with | [_], _ => .of_eq rfl⟩, ⟨Cv_NoPrimitive, fv_NoPrimitive, _, xval_mk X G va_NoPrimitive vc_NoPrimitive FV_NoPrimitive BV_NoPrimitive vp_LookupError vq_LookupError, fun s a ws hl => match ws, hl with | [_], _ => .of_eq rfl⟩, ⟨Cv_NotClosed, fv_NotClosed, _, xval_mk X G va_NotClosed vc_NotClosed FV_NotClosed BV_NotClosed vp_ValueError vq_ValueError, fun s a ws hl => match ws, hl with | [_], _ => .of_eq rfl⟩, ⟨Cv_OutOfRange, fv_OutOfRange, _, xval_mk X G va_OutOfRange vc_OutOfRange FV_OutOfRange BV_OutOfRange vp_LookupError vq_LookupError, fun s a ws hl => match ws, hl with | [_], _ => .of_eq rfl⟩, ⟨Cv_OutOfTerm, fv_OutOfTerm, _, xval_mk X G va_OutOfTerm vc_OutOfTerm FV_OutOfTerm BV_OutOfTerm vp_LookupError vq_LookupError, fun s a ws hl => match ws, hl with | [_], _ => .of_eq rfl⟩, ⟨Cv_Repeated, fv_Repeated, _, xval_mk X G va_Repeated vc_Repeated FV_Repeated BV_Repeated vp_ValueError vq_ValueError, fun s a ws hl => match ws, hl with | [_], _ => .of_eq rfl⟩, ⟨Cv_RoleRing, fv_RoleRing, _, xval_mk X G va_RoleRing vc_RoleRing FV_RoleRing BV_RoleRing vp_ValueError vq_ValueError, fun s a ws hl => match ws, hl with | [_], _ => .of_eq rfl⟩, ⟨Cv_Uncovered, fv_Uncovered, _, xval_mk X G va_Uncovered vc_Uncovered FV_Uncovered BV_Uncovered vp_ValueError vq_ValueError, fun s a ws hl => match ws, hl with | [_], _ => .of_eq rfl⟩, ⟨Cv_Underivable, fv_Underivable, _, xval_mk X G va_Underivable vc_Underivable FV_Underivable BV_Underivable vp_ValueError vq_ValueError, fun s a ws hl => match ws, hl with | [_, _], _ => .of_eq rfl⟩, ⟨Cv_Unknown, fv_Unknown, _, xval_mk X G va_Unknown vc_Unknown FV_Unknown BV_Unknown vp_LookupError vq_LookupError, fun s a ws hl => match ws, hl with | [_, _], _ => .of_eq rfl⟩, ⟨Cv_UnknownName, fv_UnknownName, _, xval_mk X G va_UnknownName vc_UnknownName FV_UnknownName BV_UnknownName vp_LookupError vq_LookupError, fun s a ws hl => match ws, hl with | [_], _ => .of_eq rfl⟩, ⟨Cv_Unmet, fv_Unmet, _, xval_mk X G va_Unmet vc_Unmet FV_Unmet BV_Unmet vp_LookupError vq_LookupError, fun s a ws hl => match ws, hl with | [_], _ => .of_eq rfl⟩, ⟨Cv_Unsupported, fv_Unsupported, _, xval_mk X G va_Unsupported vc_Unsupported FV_Unsupported BV_Unsupported vp_ValueError vq_ValueError, fun s a ws hl => match ws, hl with | [_, _], _ => .of_eq rfl⟩, ⟨Cv_Wrong, fv_Wrong, _, xval_mk X G va_Wrong vc_Wrong FV_Wrong BV_Wrong vp_RuntimeError vq_RuntimeError, fun s a ws hl => match ws, hl with | [_], _ => .of_eq rfl⟩, ⟨Cv_BadArms, PySem.W.mg_of X G va_BadArms, vt_BadArms⟩, ⟨Cv_BadMembers, PySem.W.mg_of X G va_BadMembers, vt_BadMembers⟩, ⟨Cv_Broken, PySem.W.mg_of X G va_Broken, vt_Broken⟩, ⟨Cv_Clash, PySem.W.mg_of X G va_Clash, vt_Clash⟩, ⟨Cv_Faulty, PySem.W.mg_of X G va_Faulty, vt_Faulty⟩, ⟨Cv_Grows, PySem.W.mg_of X G va_Grows, vt_Grows⟩, ⟨Cv_Improper, PySem.W.mg_of X G va_Improper, vt_Improper⟩, ⟨Cv_InvalidCount, PySem.W.mg_of X G va_InvalidCount, vt_InvalidCount⟩, ⟨Cv_InvalidDeclaration, PySem.W.mg_of X G va_InvalidDeclaration, vt_InvalidDeclaration⟩, ⟨Cv_InvalidDeed, PySem.W.mg_of X G va_InvalidDeed, vt_InvalidDeed⟩, ⟨Cv_InvalidForm, PySem.W.mg_of X G va_InvalidForm, vt_InvalidForm⟩, ⟨Cv_InvalidGuard, PySem.W.mg_of X G va_InvalidGuard, vt_InvalidGuard⟩, ⟨Cv_InvalidKind, PySem.W.mg_of X G va_InvalidKind, vt_InvalidKind⟩, ⟨Cv_InvalidLimit, PySem.W.mg_of X G va_InvalidLimit, vt_InvalidLimit⟩, ⟨Cv_InvalidMarked, PySem.W.mg_of X G va_InvalidMarked, vt_InvalidMarked⟩, ⟨Cv_InvalidNeed, PySem.W.mg_of X G va_InvalidNeed, vt_InvalidNeed⟩, ⟨Cv_InvalidPicks, PySem.W.mg_of X G va_InvalidPicks, vt_InvalidPicks⟩, ⟨Cv_InvalidScheme, PySem.W.mg_of X G va_InvalidScheme, vt_InvalidScheme⟩, ⟨Cv_InvalidText, PySem.W.mg_of X G va_InvalidText, vt_InvalidText⟩, ⟨Cv_InvalidValue, PySem.W.mg_of X G va_InvalidValue, vt_InvalidValue⟩, ⟨Cv_Known, PySem.W.mg_of X G va_Known, vt_Known⟩, vt_LookupError, ⟨Cv_Misshapen, PySem.W.mg_of X G va_Misshapen, vt_Misshapen⟩, ⟨Cv_Missing, PySem.W.mg_of X G va_Missing, vt_Missing⟩, ⟨Cv_NoCore, PySem.W.mg_of X G va_NoCore, vt_NoCore⟩, ⟨Cv_NoDefinition, PySem.W.mg_of X G va_NoDefinition, vt_NoDefinition⟩, ⟨Cv_NoPrimitive, PySem.W.mg_of X G va_NoPrimitive, vt_NoPrimitive⟩, ⟨Cv_NotClosed, PySem.W.mg_of X G va_NotClosed, vt_NotClosed⟩, ⟨Cv_OutOfRange, PySem.W.mg_of X G va_OutOfRange, vt_OutOfRange⟩, ⟨Cv_OutOfTerm, PySem.W.mg_of X G va_OutOfTerm, vt_OutOfTerm⟩, ⟨Cv_Repeated, PySem.W.mg_of X G va_Repeated, vt_Repeated⟩, ⟨Cv_RoleRing, PySem.W.mg_of X G va_RoleRing, vt_RoleRing⟩, vt_RuntimeError, ⟨Cv_Uncovered, PySem.W.mg_of X G va_Uncovered, vt_Uncovered⟩, ⟨Cv_Underivable, PySem.W.mg_of X G va_Underivable, vt_Underivable⟩, ⟨Cv_Unknown, PySem.W.mg_of X G va_Unknown, vt_Unknown⟩, ⟨Cv_UnknownName, PySem.W.mg_of X G va_UnknownName, vt_UnknownName⟩, ⟨Cv_Unmet, PySem.W.mg_of X G va_Unmet, vt_Unmet⟩, ⟨Cv_Unsupported, PySem.W.mg_of X G va_Unsupported, vt_Unsupported⟩, vt_ValueError, ⟨Cv_Wrong, PySem.W.mg_of X G va_Wrong, vt_Wrong⟩, k0, F0, PySem.W.mg_of X G a0, B0, k1, F1, PySem.W.mg_of X G a1, B1, k2, F2, PySem.W.mg_of X G a2, B2, k3, F3, PySem.W.mg_of X G a3, B3, k4, F4, PySem.W.mg_of X G a4, B4, k5, F5, PySem.W.mg_of X G a5, B5, k6, F6, PySem.W.mg_of X G a6, B6, k7, F7, PySem.W.mg_of X G a7, B7, k8, F8, PySem.W.mg_of X G a8, B8, k9, F9, PySem.W.mg_of X G a9, B9, PySem.W.mg_none_of X G z_LookupError, PySem.W.mg_none_of X G z_RuntimeError, PySem.W.mg_none_of X G z_ValueError, PySem.W.mg_none_of X G z_int, PySem.W.mg_none_of X G z_isinstance, PySem.W.mg_none_of X G z_len, PySem.W.mg_none_of X G z_min, PySem.W.mg_none_of X G z_range, PySem.W.mg_none_of X G z_repr, PySem.W.mg_none_of X G z_zip⟩
  exact ⟨_, fun s v => .of_eq rfl, fun base _ _ => (all_ok T k).f_law⟩
end K01

noncomputable section
namespace HS
open PySem PySem.W PySem.Calls PyProof.Rows
abbrev R : OpenRow := OpenLaw.row PySem.Challenge.rw_leastneeds_k01_errors
abbrev qv : Program := view R.prog [49]
abbrev names0 : List PySem.Str := ["InvalidForm", "InvalidDeclaration", "InvalidPicks", "Repeated", "BadArms", "Misshapen", "RoleRing", "BadMembers", "Grows", "Uncovered", "Underivable", "Clash", "Unsupported", "Improper", "InvalidKind", "InvalidNeed", "InvalidScheme", "InvalidCount", "InvalidValue", "InvalidLimit", "InvalidMarked", "InvalidText", "InvalidDeed", "InvalidGuard", "NotClosed", "Unknown", "UnknownName", "OutOfTerm", "NoPrimitive", "NoDefinition"]
abbrev names1 : List PySem.Str := ["NoCore", "Unmet", "OutOfRange", "Known", "Missing", "Faulty", "Wrong", "Broken", "_law_begin", "_law_draw", "_law_pick", "_law_odd", "_law_errors_a", "_law_errors_b", "_law_errors_c", "_law_flags", "_law_sorts"]
abbrev loose : List PySem.Str := names0 ++ names1
abbrev fin (w : World) (os : OsState) : Option SharedT := HeadRun.endF (HeadRun.stepQ (HeadRun.denQ HeadRun.tabQ) R.prog w) 20000 R.prog w os
set_option maxHeartbeats 0 in
theorem run1 (w : World) (os : OsState) : (fin w os).map (fun s => HeadRun.looksF R.prog (boot_heap w.params) s.abs) = some true := by kernel_rfl
set_option maxHeartbeats 0 in
theorem run2 (w : World) (os : OsState) : (fin w os).map (fun s => HeadRun.seenQ qv loose (importedModules R.prog.main.body) (fun s => xlAt qv [] s && recOk R.toRowW.records s) s.abs) = some (openGood qv loose) := by kernel_rfl
theorem split3 {α β γ δ : Type} {o : Option α} {f : α → β} {g : α → γ} {h : α → δ} {b : β} {c : γ} {d : δ} (h1 : o.map f = some b) (h2 : o.map g = some c) (h3 : o.map h = some d) : o.map (fun s => (f s, g s, h s)) = some (b, c, d) := by
  cases o with
  | none => cases h1
  | some s =>
    simp only [Option.map_some, Option.some.injEq] at h1 h2 h3 ⊢
    rw [h1, h2, h3]
theorem head {K : Params → Frag} {as : List Addr} {d : DefRec} {kwd : List (PySem.Str × PySem.Expr)} (ek : ∀ P, as = (K P).map (·.1))
    (e : opening R.prog = plainProg R.prog.main.scope.names) (f : ∀ s, fenceModules? R.prog s = some s) (run3 : ∀ w os, (fin w os).map (fun s => as.map (HeadRun.getT s)) = some ((K w.params).map fun x => some x.2))
    (hdef : defOf qv R.name = some (d, kwd)) (hp : R.prog.theDef R.name = some (d.params, d.body, d.scope)) (hk : kwWritten? d.params.kwonlyargs d.params.kw_defaults = some kwd)
    (hwr : (!R.writes || R.records.isEmpty) = true) (k1 : R.wellSaid = true) (ok : (chainsOk qv && opensWell R.prog && (frees R.toRowW && R.within.isEmpty)) = true) (hb : R.prog.bare) (hw : R.toRowW.promised)
    (call : WalkO qv loose (XL qv []) (kHook K as ek).says R.toRowW d kwd fun f vs => PySem.call f vs) : R.Holds :=
  HeadRun.head_any (r := R) (q := qv) (H := kHook K as ek) (ob := fun s => as.map (HeadRun.getT s)) (M := 20000) (loose := loose) (fun s => List.map_congr_left fun a _ => HeadRun.getT_eq s a) e f
    (fun w os => split3 (run1 w os) (run2 w os) (run3 w os)) hdef hp hk hwr k1 ok hb hw call
end HS
open PySem PySem.W PySem.Calls PyProof.Rows
local macro_rules
  | `(tactic| o_headL ($fn $k $a $p)) => `(tactic| refine HS.head (K := $k) (as := $a) $p (by kernel_rfl) (fun s => by kernel_rfl) (fun w os => by kernel_rfl) (by rfl) (by rfl) (by rfl) (by rfl) (by first | assumption | decide +kernel) (by decide +kernel) ⟨rfl, rfl, rfl, rfl, rfl, by decide +kernel⟩ ?hw ?hc)
local macro_rules
  | `(tactic| k_head) => `(tactic| k_headL)
set_option maxHeartbeats 0 in
open_top hd for PySem.Challenge.rw_leastneeds_k01_errors
end
open PySem PySem.W PyProof.Rows
set_option maxRecDepth 100000 in
set_option maxHeartbeats 0 in
theorem PySem.Challenge.cw_leastneeds_k01_errors_holds : PySem.Challenge.rw_leastneeds_k01_errors.Holds :=
  hd (by
  k_fill
  refine DL.walkX_data (k := K01.TOP) (x := "_law_script") (g := K01.F 0 K01.TOP .f_law) (l := PySem.Challenge.rw_leastneeds_k01_errors) rfl rfl ⟨rfl, by decide, by decide⟩ (fun w h Y => PySem.W.kIn_of Y) ?F K01.holds
  case F =>
    intro w mg fa h KX G hmg
    refine' K01.all_mk KX G hmg ?a0 ?l0 ?c0 ?k0 ?a1 ?l1 ?c1 ?k1 ?a2 ?l2 ?c2 ?k2 ?a3 ?l3 ?c3 ?k3 ?a4 ?l4 ?c4 ?k4 ?a5 ?l5 ?c5 ?k5 ?a6 ?l6 ?c6 ?k6 ?a7 ?l7 ?c7 ?k7 ?a8 ?l8 ?c8 ?k8 ?a9 ?l9 ?c9 ?k9 ?va_BadArms ?vi_BadArms ?vm_BadArms ?vn_BadArms ?vo_BadArms ?vc_BadArms ?vp_ValueError ?vq_ValueError ?va_BadMembers ?vi_BadMembers ?vm_BadMembers ?vn_BadMembers ?vo_BadMembers ?vc_BadMembers ?va_Broken ?vi_Broken ?vm_Broken ?vn_Broken ?vo_Broken ?vc_Broken ?vp_RuntimeError ?vq_RuntimeError ?va_Clash ?vi_Clash ?vm_Clash ?vn_Clash ?vo_Clash ?vc_Clash ?va_Faulty ?vi_Faulty ?vm_Faulty ?vn_Faulty ?vo_Faulty ?vc_Faulty ?va_Grows ?vi_Grows ?vm_Grows ?vn_Grows ?vo_Grows ?vc_Grows ?va_Improper ?vi_Improper ?vm_Improper ?vn_Improper ?vo_Improper ?vc_Improper ?va_InvalidCount ?vi_InvalidCount ?vm_InvalidCount ?vn_InvalidCount ?vo_InvalidCount ?vc_InvalidCount ?va_InvalidDeclaration ?vi_InvalidDeclaration ?vm_InvalidDeclaration ?vn_InvalidDeclaration ?vo_InvalidDeclaration ?vc_InvalidDeclaration ?va_InvalidDeed ?vi_InvalidDeed ?vm_InvalidDeed ?vn_InvalidDeed ?vo_InvalidDeed ?vc_InvalidDeed ?va_InvalidForm ?vi_InvalidForm ?vm_InvalidForm ?vn_InvalidForm ?vo_InvalidForm ?vc_InvalidForm ?va_InvalidGuard ?vi_InvalidGuard ?vm_InvalidGuard ?vn_InvalidGuard ?vo_InvalidGuard ?vc_InvalidGuard ?va_InvalidKind ?vi_InvalidKind ?vm_InvalidKind ?vn_InvalidKind ?vo_InvalidKind ?vc_InvalidKind ?va_InvalidLimit ?vi_InvalidLimit ?vm_InvalidLimit ?vn_InvalidLimit ?vo_InvalidLimit ?vc_InvalidLimit ?va_InvalidMarked ?vi_InvalidMarked ?vm_InvalidMarked ?vn_InvalidMarked ?vo_InvalidMarked ?vc_InvalidMarked ?va_InvalidNeed ?vi_InvalidNeed ?vm_InvalidNeed ?vn_InvalidNeed ?vo_InvalidNeed ?vc_InvalidNeed ?va_InvalidPicks ?vi_InvalidPicks ?vm_InvalidPicks ?vn_InvalidPicks ?vo_InvalidPicks ?vc_InvalidPicks ?va_InvalidScheme ?vi_InvalidScheme ?vm_InvalidScheme ?vn_InvalidScheme ?vo_InvalidScheme ?vc_InvalidScheme ?va_InvalidText ?vi_InvalidText ?vm_InvalidText ?vn_InvalidText ?vo_InvalidText ?vc_InvalidText ?va_InvalidValue ?vi_InvalidValue ?vm_InvalidValue ?vn_InvalidValue ?vo_InvalidValue ?vc_InvalidValue ?va_Known ?vi_Known ?vm_Known ?vn_Known ?vo_Known ?vc_Known ?vp_LookupError ?vq_LookupError ?va_Misshapen ?vi_Misshapen ?vm_Misshapen ?vn_Misshapen ?vo_Misshapen ?vc_Misshapen ?va_Missing ?vi_Missing ?vm_Missing ?vn_Missing ?vo_Missing ?vc_Missing ?va_NoCore ?vi_NoCore ?vm_NoCore ?vn_NoCore ?vo_NoCore ?vc_NoCore ?va_NoDefinition ?vi_NoDefinition ?vm_NoDefinition ?vn_NoDefinition ?vo_NoDefinition ?vc_NoDefinition ?va_NoPrimitive ?vi_NoPrimitive ?vm_NoPrimitive ?vn_NoPrimitive ?vo_NoPrimitive ?vc_NoPrimitive ?va_NotClosed ?vi_NotClosed ?vm_NotClosed ?vn_NotClosed ?vo_NotClosed ?vc_NotClosed ?va_OutOfRange ?vi_OutOfRange ?vm_OutOfRange ?vn_OutOfRange ?vo_OutOfRange ?vc_OutOfRange ?va_OutOfTerm ?vi_OutOfTerm ?vm_OutOfTerm ?vn_OutOfTerm ?vo_OutOfTerm ?vc_OutOfTerm ?va_Repeated ?vi_Repeated ?vm_Repeated ?vn_Repeated ?vo_Repeated ?vc_Repeated ?va_RoleRing ?vi_RoleRing ?vm_RoleRing ?vn_RoleRing ?vo_RoleRing ?vc_RoleRing ?va_Uncovered ?vi_Uncovered ?vm_Uncovered ?vn_Uncovered ?vo_Uncovered ?vc_Uncovered ?va_Underivable ?vi_Underivable ?vm_Underivable ?vn_Underivable ?vo_Underivable ?vc_Underivable ?va_Unknown ?vi_Unknown ?vm_Unknown ?vn_Unknown ?vo_Unknown ?vc_Unknown ?va_UnknownName ?vi_UnknownName ?vm_UnknownName ?vn_UnknownName ?vo_UnknownName ?vc_UnknownName ?va_Unmet ?vi_Unmet ?vm_Unmet ?vn_Unmet ?vo_Unmet ?vc_Unmet ?va_Unsupported ?vi_Unsupported ?vm_Unsupported ?vn_Unsupported ?vo_Unsupported ?vc_Unsupported ?va_Wrong ?vi_Wrong ?vm_Wrong ?vn_Wrong ?vo_Wrong ?vc_Wrong ?vt_BadArms ?vt_BadMembers ?vt_Broken ?vt_Clash ?vt_Faulty ?vt_Grows ?vt_Improper ?vt_InvalidCount ?vt_InvalidDeclaration ?vt_InvalidDeed ?vt_InvalidForm ?vt_InvalidGuard ?vt_InvalidKind ?vt_InvalidLimit ?vt_InvalidMarked ?vt_InvalidNeed ?vt_InvalidPicks ?vt_InvalidScheme ?vt_InvalidText ?vt_InvalidValue ?vt_Known ?vt_LookupError ?vt_Misshapen ?vt_Missing ?vt_NoCore ?vt_NoDefinition ?vt_NoPrimitive ?vt_NotClosed ?vt_OutOfRange ?vt_OutOfTerm ?vt_Repeated ?vt_RoleRing ?vt_RuntimeError ?vt_Uncovered ?vt_Underivable ?vt_Unknown ?vt_UnknownName ?vt_Unmet ?vt_Unsupported ?vt_ValueError ?vt_Wrong ?z_LookupError ?z_RuntimeError ?z_ValueError ?z_int ?z_isinstance ?z_len ?z_min ?z_range ?z_repr ?z_zip
    (case a0 => as_aux_lemma => k_is)
    (case l0 => as_aux_lemma => k_is)
    (case c0 => as_aux_lemma => k_is)
    (case k0 => as_aux_lemma => k_is)
    (case a1 => as_aux_lemma => k_is)
    (case l1 => as_aux_lemma => k_is)
    (case c1 => as_aux_lemma => k_is)
    (case k1 => as_aux_lemma => k_is)
    (case a2 => as_aux_lemma => k_is)
    (case l2 => as_aux_lemma => k_is)
    (case c2 => as_aux_lemma => k_is)
    (case k2 => as_aux_lemma => k_is)
    (case a3 => as_aux_lemma => k_is)
    (case l3 => as_aux_lemma => k_is)
    (case c3 => as_aux_lemma => k_is)
    (case k3 => as_aux_lemma => k_is)
    (case a4 => as_aux_lemma => k_is)
    (case l4 => as_aux_lemma => k_is)
    (case c4 => as_aux_lemma => k_is)
    (case k4 => as_aux_lemma => k_is)
    (case a5 => as_aux_lemma => k_is)
    (case l5 => as_aux_lemma => k_is)
    (case c5 => as_aux_lemma => k_is)
    (case k5 => as_aux_lemma => k_is)
    (case a6 => as_aux_lemma => k_is)
    (case l6 => as_aux_lemma => k_is)
    (case c6 => as_aux_lemma => k_is)
    (case k6 => as_aux_lemma => k_is)
    (case a7 => as_aux_lemma => k_is)
    (case l7 => as_aux_lemma => k_is)
    (case c7 => as_aux_lemma => k_is)
    (case k7 => as_aux_lemma => k_is)
    (case a8 => as_aux_lemma => k_is)
    (case l8 => as_aux_lemma => k_is)
    (case c8 => as_aux_lemma => k_is)
    (case k8 => as_aux_lemma => k_is)
    (case a9 => as_aux_lemma => k_is)
    (case l9 => as_aux_lemma => k_is)
    (case c9 => as_aux_lemma => k_is)
    (case k9 => as_aux_lemma => k_is)
    (case va_BadArms => as_aux_lemma => k_is)
    (case vi_BadArms => as_aux_lemma => k_is)
    (case vm_BadArms => as_aux_lemma => k_is)
    (case vn_BadArms => as_aux_lemma => k_is)
    (case vo_BadArms => as_aux_lemma => k_is)
    (case vc_BadArms => as_aux_lemma => kernel_rfl)
    (case vp_ValueError => as_aux_lemma => k_is)
    (case vq_ValueError => as_aux_lemma => k_is)
    (case va_BadMembers => as_aux_lemma => k_is)
    (case vi_BadMembers => as_aux_lemma => k_is)
    (case vm_BadMembers => as_aux_lemma => k_is)
    (case vn_BadMembers => as_aux_lemma => k_is)
    (case vo_BadMembers => as_aux_lemma => k_is)
    (case vc_BadMembers => as_aux_lemma => kernel_rfl)
    (case va_Broken => as_aux_lemma => k_is)
    (case vi_Broken => as_aux_lemma => k_is)
    (case vm_Broken => as_aux_lemma => k_is)
    (case vn_Broken => as_aux_lemma => k_is)
    (case vo_Broken => as_aux_lemma => k_is)
    (case vc_Broken => as_aux_lemma => kernel_rfl)
    (case vp_RuntimeError => as_aux_lemma => k_is)
    (case vq_RuntimeError => as_aux_lemma => k_is)
    (case va_Clash => as_aux_lemma => k_is)
    (case vi_Clash => as_aux_lemma => k_is)
    (case vm_Clash => as_aux_lemma => k_is)
    (case vn_Clash => as_aux_lemma => k_is)
    (case vo_Clash => as_aux_lemma => k_is)
    (case vc_Clash => as_aux_lemma => kernel_rfl)
    (case va_Faulty => as_aux_lemma => k_is)
    (case vi_Faulty => as_aux_lemma => k_is)
    (case vm_Faulty => as_aux_lemma => k_is)
    (case vn_Faulty => as_aux_lemma => k_is)
    (case vo_Faulty => as_aux_lemma => k_is)
    (case vc_Faulty => as_aux_lemma => kernel_rfl)
    (case va_Grows => as_aux_lemma => k_is)
    (case vi_Grows => as_aux_lemma => k_is)
    (case vm_Grows => as_aux_lemma => k_is)
    (case vn_Grows => as_aux_lemma => k_is)
    (case vo_Grows => as_aux_lemma => k_is)
    (case vc_Grows => as_aux_lemma => kernel_rfl)
    (case va_Improper => as_aux_lemma => k_is)
    (case vi_Improper => as_aux_lemma => k_is)
    (case vm_Improper => as_aux_lemma => k_is)
    (case vn_Improper => as_aux_lemma => k_is)
    (case vo_Improper => as_aux_lemma => k_is)
    (case vc_Improper => as_aux_lemma => kernel_rfl)
    (case va_InvalidCount => as_aux_lemma => k_is)
    (case vi_InvalidCount => as_aux_lemma => k_is)
    (case vm_InvalidCount => as_aux_lemma => k_is)
    (case vn_InvalidCount => as_aux_lemma => k_is)
    (case vo_InvalidCount => as_aux_lemma => k_is)
    (case vc_InvalidCount => as_aux_lemma => kernel_rfl)
    (case va_InvalidDeclaration => as_aux_lemma => k_is)
    (case vi_InvalidDeclaration => as_aux_lemma => k_is)
    (case vm_InvalidDeclaration => as_aux_lemma => k_is)
    (case vn_InvalidDeclaration => as_aux_lemma => k_is)
    (case vo_InvalidDeclaration => as_aux_lemma => k_is)
    (case vc_InvalidDeclaration => as_aux_lemma => kernel_rfl)
    (case va_InvalidDeed => as_aux_lemma => k_is)
    (case vi_InvalidDeed => as_aux_lemma => k_is)
    (case vm_InvalidDeed => as_aux_lemma => k_is)
    (case vn_InvalidDeed => as_aux_lemma => k_is)
    (case vo_InvalidDeed => as_aux_lemma => k_is)
    (case vc_InvalidDeed => as_aux_lemma => kernel_rfl)
    (case va_InvalidForm => as_aux_lemma => k_is)
    (case vi_InvalidForm => as_aux_lemma => k_is)
    (case vm_InvalidForm => as_aux_lemma => k_is)
    (case vn_InvalidForm => as_aux_lemma => k_is)
    (case vo_InvalidForm => as_aux_lemma => k_is)
    (case vc_InvalidForm => as_aux_lemma => kernel_rfl)
    (case va_InvalidGuard => as_aux_lemma => k_is)
    (case vi_InvalidGuard => as_aux_lemma => k_is)
    (case vm_InvalidGuard => as_aux_lemma => k_is)
    (case vn_InvalidGuard => as_aux_lemma => k_is)
    (case vo_InvalidGuard => as_aux_lemma => k_is)
    (case vc_InvalidGuard => as_aux_lemma => kernel_rfl)
    (case va_InvalidKind => as_aux_lemma => k_is)
    (case vi_InvalidKind => as_aux_lemma => k_is)
    (case vm_InvalidKind => as_aux_lemma => k_is)
    (case vn_InvalidKind => as_aux_lemma => k_is)
    (case vo_InvalidKind => as_aux_lemma => k_is)
    (case vc_InvalidKind => as_aux_lemma => kernel_rfl)
    (case va_InvalidLimit => as_aux_lemma => k_is)
    (case vi_InvalidLimit => as_aux_lemma => k_is)
    (case vm_InvalidLimit => as_aux_lemma => k_is)
    (case vn_InvalidLimit => as_aux_lemma => k_is)
    (case vo_InvalidLimit => as_aux_lemma => k_is)
    (case vc_InvalidLimit => as_aux_lemma => kernel_rfl)
    (case va_InvalidMarked => as_aux_lemma => k_is)
    (case vi_InvalidMarked => as_aux_lemma => k_is)
    (case vm_InvalidMarked => as_aux_lemma => k_is)
    (case vn_InvalidMarked => as_aux_lemma => k_is)
    (case vo_InvalidMarked => as_aux_lemma => k_is)
    (case vc_InvalidMarked => as_aux_lemma => kernel_rfl)
    (case va_InvalidNeed => as_aux_lemma => k_is)
    (case vi_InvalidNeed => as_aux_lemma => k_is)
    (case vm_InvalidNeed => as_aux_lemma => k_is)
    (case vn_InvalidNeed => as_aux_lemma => k_is)
    (case vo_InvalidNeed => as_aux_lemma => k_is)
    (case vc_InvalidNeed => as_aux_lemma => kernel_rfl)
    (case va_InvalidPicks => as_aux_lemma => k_is)
    (case vi_InvalidPicks => as_aux_lemma => k_is)
    (case vm_InvalidPicks => as_aux_lemma => k_is)
    (case vn_InvalidPicks => as_aux_lemma => k_is)
    (case vo_InvalidPicks => as_aux_lemma => k_is)
    (case vc_InvalidPicks => as_aux_lemma => kernel_rfl)
    (case va_InvalidScheme => as_aux_lemma => k_is)
    (case vi_InvalidScheme => as_aux_lemma => k_is)
    (case vm_InvalidScheme => as_aux_lemma => k_is)
    (case vn_InvalidScheme => as_aux_lemma => k_is)
    (case vo_InvalidScheme => as_aux_lemma => k_is)
    (case vc_InvalidScheme => as_aux_lemma => kernel_rfl)
    (case va_InvalidText => as_aux_lemma => k_is)
    (case vi_InvalidText => as_aux_lemma => k_is)
    (case vm_InvalidText => as_aux_lemma => k_is)
    (case vn_InvalidText => as_aux_lemma => k_is)
    (case vo_InvalidText => as_aux_lemma => k_is)
    (case vc_InvalidText => as_aux_lemma => kernel_rfl)
    (case va_InvalidValue => as_aux_lemma => k_is)
    (case vi_InvalidValue => as_aux_lemma => k_is)
    (case vm_InvalidValue => as_aux_lemma => k_is)
    (case vn_InvalidValue => as_aux_lemma => k_is)
    (case vo_InvalidValue => as_aux_lemma => k_is)
    (case vc_InvalidValue => as_aux_lemma => kernel_rfl)
    (case va_Known => as_aux_lemma => k_is)
    (case vi_Known => as_aux_lemma => k_is)
    (case vm_Known => as_aux_lemma => k_is)
    (case vn_Known => as_aux_lemma => k_is)
    (case vo_Known => as_aux_lemma => k_is)
    (case vc_Known => as_aux_lemma => kernel_rfl)
    (case vp_LookupError => as_aux_lemma => k_is)
    (case vq_LookupError => as_aux_lemma => k_is)
    (case va_Misshapen => as_aux_lemma => k_is)
    (case vi_Misshapen => as_aux_lemma => k_is)
    (case vm_Misshapen => as_aux_lemma => k_is)
    (case vn_Misshapen => as_aux_lemma => k_is)
    (case vo_Misshapen => as_aux_lemma => k_is)
    (case vc_Misshapen => as_aux_lemma => kernel_rfl)
    (case va_Missing => as_aux_lemma => k_is)
    (case vi_Missing => as_aux_lemma => k_is)
    (case vm_Missing => as_aux_lemma => k_is)
    (case vn_Missing => as_aux_lemma => k_is)
    (case vo_Missing => as_aux_lemma => k_is)
    (case vc_Missing => as_aux_lemma => kernel_rfl)
    (case va_NoCore => as_aux_lemma => k_is)
    (case vi_NoCore => as_aux_lemma => k_is)
    (case vm_NoCore => as_aux_lemma => k_is)
    (case vn_NoCore => as_aux_lemma => k_is)
    (case vo_NoCore => as_aux_lemma => k_is)
    (case vc_NoCore => as_aux_lemma => kernel_rfl)
    (case va_NoDefinition => as_aux_lemma => k_is)
    (case vi_NoDefinition => as_aux_lemma => k_is)
    (case vm_NoDefinition => as_aux_lemma => k_is)
    (case vn_NoDefinition => as_aux_lemma => k_is)
    (case vo_NoDefinition => as_aux_lemma => k_is)
    (case vc_NoDefinition => as_aux_lemma => kernel_rfl)
    (case va_NoPrimitive => as_aux_lemma => k_is)
    (case vi_NoPrimitive => as_aux_lemma => k_is)
    (case vm_NoPrimitive => as_aux_lemma => k_is)
    (case vn_NoPrimitive => as_aux_lemma => k_is)
    (case vo_NoPrimitive => as_aux_lemma => k_is)
    (case vc_NoPrimitive => as_aux_lemma => kernel_rfl)
    (case va_NotClosed => as_aux_lemma => k_is)
    (case vi_NotClosed => as_aux_lemma => k_is)
    (case vm_NotClosed => as_aux_lemma => k_is)
    (case vn_NotClosed => as_aux_lemma => k_is)
    (case vo_NotClosed => as_aux_lemma => k_is)
    (case vc_NotClosed => as_aux_lemma => kernel_rfl)
    (case va_OutOfRange => as_aux_lemma => k_is)
    (case vi_OutOfRange => as_aux_lemma => k_is)
    (case vm_OutOfRange => as_aux_lemma => k_is)
    (case vn_OutOfRange => as_aux_lemma => k_is)
    (case vo_OutOfRange => as_aux_lemma => k_is)
    (case vc_OutOfRange => as_aux_lemma => kernel_rfl)
    (case va_OutOfTerm => as_aux_lemma => k_is)
    (case vi_OutOfTerm => as_aux_lemma => k_is)
    (case vm_OutOfTerm => as_aux_lemma => k_is)
    (case vn_OutOfTerm => as_aux_lemma => k_is)
    (case vo_OutOfTerm => as_aux_lemma => k_is)
    (case vc_OutOfTerm => as_aux_lemma => kernel_rfl)
    (case va_Repeated => as_aux_lemma => k_is)
    (case vi_Repeated => as_aux_lemma => k_is)
    (case vm_Repeated => as_aux_lemma => k_is)
    (case vn_Repeated => as_aux_lemma => k_is)
    (case vo_Repeated => as_aux_lemma => k_is)
    (case vc_Repeated => as_aux_lemma => kernel_rfl)
    (case va_RoleRing => as_aux_lemma => k_is)
    (case vi_RoleRing => as_aux_lemma => k_is)
    (case vm_RoleRing => as_aux_lemma => k_is)
    (case vn_RoleRing => as_aux_lemma => k_is)
    (case vo_RoleRing => as_aux_lemma => k_is)
    (case vc_RoleRing => as_aux_lemma => kernel_rfl)
    (case va_Uncovered => as_aux_lemma => k_is)
    (case vi_Uncovered => as_aux_lemma => k_is)
    (case vm_Uncovered => as_aux_lemma => k_is)
    (case vn_Uncovered => as_aux_lemma => k_is)
    (case vo_Uncovered => as_aux_lemma => k_is)
    (case vc_Uncovered => as_aux_lemma => kernel_rfl)
    (case va_Underivable => as_aux_lemma => k_is)
    (case vi_Underivable => as_aux_lemma => k_is)
    (case vm_Underivable => as_aux_lemma => k_is)
    (case vn_Underivable => as_aux_lemma => k_is)
    (case vo_Underivable => as_aux_lemma => k_is)
    (case vc_Underivable => as_aux_lemma => kernel_rfl)
    (case va_Unknown => as_aux_lemma => k_is)
    (case vi_Unknown => as_aux_lemma => k_is)
    (case vm_Unknown => as_aux_lemma => k_is)
    (case vn_Unknown => as_aux_lemma => k_is)
    (case vo_Unknown => as_aux_lemma => k_is)
    (case vc_Unknown => as_aux_lemma => kernel_rfl)
    (case va_UnknownName => as_aux_lemma => k_is)
    (case vi_UnknownName => as_aux_lemma => k_is)
    (case vm_UnknownName => as_aux_lemma => k_is)
    (case vn_UnknownName => as_aux_lemma => k_is)
    (case vo_UnknownName => as_aux_lemma => k_is)
    (case vc_UnknownName => as_aux_lemma => kernel_rfl)
    (case va_Unmet => as_aux_lemma => k_is)
    (case vi_Unmet => as_aux_lemma => k_is)
    (case vm_Unmet => as_aux_lemma => k_is)
    (case vn_Unmet => as_aux_lemma => k_is)
    (case vo_Unmet => as_aux_lemma => k_is)
    (case vc_Unmet => as_aux_lemma => kernel_rfl)
    (case va_Unsupported => as_aux_lemma => k_is)
    (case vi_Unsupported => as_aux_lemma => k_is)
    (case vm_Unsupported => as_aux_lemma => k_is)
    (case vn_Unsupported => as_aux_lemma => k_is)
    (case vo_Unsupported => as_aux_lemma => k_is)
    (case vc_Unsupported => as_aux_lemma => kernel_rfl)
    (case va_Wrong => as_aux_lemma => k_is)
    (case vi_Wrong => as_aux_lemma => k_is)
    (case vm_Wrong => as_aux_lemma => k_is)
    (case vn_Wrong => as_aux_lemma => k_is)
    (case vo_Wrong => as_aux_lemma => k_is)
    (case vc_Wrong => as_aux_lemma => kernel_rfl)
    (case vt_BadArms => as_aux_lemma => kernel_rfl)
    (case vt_BadMembers => as_aux_lemma => kernel_rfl)
    (case vt_Broken => as_aux_lemma => kernel_rfl)
    (case vt_Clash => as_aux_lemma => kernel_rfl)
    (case vt_Faulty => as_aux_lemma => kernel_rfl)
    (case vt_Grows => as_aux_lemma => kernel_rfl)
    (case vt_Improper => as_aux_lemma => kernel_rfl)
    (case vt_InvalidCount => as_aux_lemma => kernel_rfl)
    (case vt_InvalidDeclaration => as_aux_lemma => kernel_rfl)
    (case vt_InvalidDeed => as_aux_lemma => kernel_rfl)
    (case vt_InvalidForm => as_aux_lemma => kernel_rfl)
    (case vt_InvalidGuard => as_aux_lemma => kernel_rfl)
    (case vt_InvalidKind => as_aux_lemma => kernel_rfl)
    (case vt_InvalidLimit => as_aux_lemma => kernel_rfl)
    (case vt_InvalidMarked => as_aux_lemma => kernel_rfl)
    (case vt_InvalidNeed => as_aux_lemma => kernel_rfl)
    (case vt_InvalidPicks => as_aux_lemma => kernel_rfl)
    (case vt_InvalidScheme => as_aux_lemma => kernel_rfl)
    (case vt_InvalidText => as_aux_lemma => kernel_rfl)
    (case vt_InvalidValue => as_aux_lemma => kernel_rfl)
    (case vt_Known => as_aux_lemma => kernel_rfl)
    (case vt_LookupError => as_aux_lemma => kernel_rfl)
    (case vt_Misshapen => as_aux_lemma => kernel_rfl)
    (case vt_Missing => as_aux_lemma => kernel_rfl)
    (case vt_NoCore => as_aux_lemma => kernel_rfl)
    (case vt_NoDefinition => as_aux_lemma => kernel_rfl)
    (case vt_NoPrimitive => as_aux_lemma => kernel_rfl)
    (case vt_NotClosed => as_aux_lemma => kernel_rfl)
    (case vt_OutOfRange => as_aux_lemma => kernel_rfl)
    (case vt_OutOfTerm => as_aux_lemma => kernel_rfl)
    (case vt_Repeated => as_aux_lemma => kernel_rfl)
    (case vt_RoleRing => as_aux_lemma => kernel_rfl)
    (case vt_RuntimeError => as_aux_lemma => kernel_rfl)
    (case vt_Uncovered => as_aux_lemma => kernel_rfl)
    (case vt_Underivable => as_aux_lemma => kernel_rfl)
    (case vt_Unknown => as_aux_lemma => kernel_rfl)
    (case vt_UnknownName => as_aux_lemma => kernel_rfl)
    (case vt_Unmet => as_aux_lemma => kernel_rfl)
    (case vt_Unsupported => as_aux_lemma => kernel_rfl)
    (case vt_ValueError => as_aux_lemma => kernel_rfl)
    (case vt_Wrong => as_aux_lemma => kernel_rfl)
    (case z_LookupError => as_aux_lemma => k_is)
    (case z_RuntimeError => as_aux_lemma => k_is)
    (case z_ValueError => as_aux_lemma => k_is)
    (case z_int => as_aux_lemma => k_is)
    (case z_isinstance => as_aux_lemma => k_is)
    (case z_len => as_aux_lemma => k_is)
    (case z_min => as_aux_lemma => k_is)
    (case z_range => as_aux_lemma => k_is)
    (case z_repr => as_aux_lemma => k_is)
    (case z_zip => as_aux_lemma => k_is))
#print axioms PySem.Challenge.cw_leastneeds_k01_errors_holds
