import PyProof.Rows.All
import Wide.All
import OpenK.AllK
import Wide.FinOn
import HandS.Head0
import HandS.Head1
import HandS.Head2
import HandS.HeadEnd
import HandS.HeadHook1
import HandS.HeadHook2
import HandS.IsInst
import HandS.ForMost
import HandS.Exc
import HandS.Flow
import HandS.NoneIn
import HandS.TupAny
import HandS.Deep
import HandS.Walk
import HandS.Zip
import HandS.SortInts
import HandS.Defaults
import HandS.More
import HandS.Words
import PySem.Challenge.RW_newsranks_k82_classes_made_by_hand
set_option Elab.async false
set_option linter.all false
set_option maxRecDepth 100000
set_option maxHeartbeats 2000000
/-! MpHead: what the head tells. -/
namespace Mp
open PySem PySem.Spec PyProof.Rows L2
def tyNames : List String := ["NoneType", "bool", "int", "str", "tuple", "list", "dict"]
/-- a class as isinstance looks at its objects, by the written part -/
def ownB (K : PySem.W.Frag) (c : Addr) : Bool := decide (PySem.W.findIn K (.ref c) "__class__" = some (some (.builtin "object.__class__"))) && decide (PySem.W.specialIn K (.builtin "object.__class__") "__get__" = some (some (.builtin "getset_descriptor.__get__"))) &&
  decide (PySem.W.takesIn K (.builtin "object.__class__") = some true) && decide (PySem.W.mroIn K c (.type "object") = some true) && tyNames.all fun m => decide (PySem.W.kitOne K (.type m) (.ref c) = some false)
/-- a class without an order of its own, of no base but object -/
def idnB (K : PySem.W.Frag) (c : Addr) : Bool := decide (PySem.W.findIn K (.ref c) "__eq__" = some (some (.builtin "object.__eq__"))) && decide (PySem.W.findIn K (.ref c) "__ne__" = some (some (.builtin "object.__ne__"))) && (match PySem.W.clsIn K c with
  | some cd => decide (cd.mro = [.ref c, .type "object"])
  | none => false)
/-! ### the head's facts, sys.modules among them -/
/-- what these objects name -/
def nextM (g : Addr → Option Obj) (as : List Addr) : List Addr := as.flatMap fun a => match g a with
  | some o => He.refsD o
  | none => []
/-- the module's names, what they name, in five steps -/
def reachM (g : Addr → Option Obj) : List Addr :=
  let l1 := nextM g [mainGlobals]
  let l2 := nextM g l1
  let l3 := nextM g l2
  let l4 := nextM g l3
  sysModules :: mainGlobals :: (l1 ++ (l2 ++ (l3 ++ l4)))
/-- a part of the facts -/
structure PartM where
  fa : List He.Fa
  fn : List He.DefD
  ex : PySem.W.Frag → Bool
abbrev ObM : Type := List (He.AlD × Bool)
def ob1 (p : PartM) (K : PySem.W.Frag) : He.AlD × Bool := (He.obsD p.fa p.fn K, p.ex K && (K.lookup sysModules).isSome)
def obsM (ps : List PartM) (g : Addr → Option Obj) : ObM := match ps with
  | [] => []
  | ps => let K := He.frG g (reachM g); ps.map fun p => ob1 p K
def val1 (p : PartM) : He.AlD × Bool := (He.valD p.fn, true)
def valM (ps : List PartM) : ObM := ps.map val1
structure SaysM (p : PartM) (K : PySem.W.Frag) : Prop where
  d : He.SaysD p.fa p.fn K
  ex : p.ex K = true
  sys : ∃ o, K.lookup sysModules = some o
theorem obsM_cons (p : PartM) (ps : List PartM) (g : Addr → Option Obj) : obsM (p :: ps) g = ob1 p (He.frG g (reachM g)) :: obsM ps g := by
  cases ps <;> rfl
theorem obsM_all {g : Addr → Option Obj} : ∀ {ps : List PartM}, obsM ps g = valM ps → ∀ p ∈ ps, SaysM p (He.frG g (reachM g))
  | [], _, p, hp => by cases hp
  | q :: ps, e, p, hp => by
    rw [obsM_cons] at e
    have e' : ob1 q (He.frG g (reachM g)) :: obsM ps g = val1 q :: valM ps := e
    injection e' with e1 e2
    rcases List.mem_cons.mp hp with z | z
    · subst z
      have x1 := congrArg (fun z : He.AlD × Bool => z.1) e1
      have x2 := Bool.and_eq_true_iff.mp (congrArg (fun z : He.AlD × Bool => z.2) e1)
      exact ⟨x1, x2.1, Option.isSome_iff_exists.mp x2.2⟩
    · exact obsM_all e2 p z
def hookM (ps : List PartM) : PySem.W.Hook where
  α := ObM
  obs := fun s => obsM ps s.heap.get?
  val := fun _ => valM ps
  says := fun _ h => ∃ K : PySem.W.Frag, K.In h ∧ ∀ p ∈ ps, SaysM p K
  of := fun _ _ e => ⟨_, He.frG_in, obsM_all e⟩
  keeps := fun _ _ _ ⟨K, hK, c⟩ k => ⟨K, PySem.W.Frag.In.keeps hK k, c⟩
def obM (ps : List PartM) (s : PySem.W.SharedT) : ObM := obsM ps (HandSHeadRun.getT s)
theorem obM_eq (ps : List PartM) (s : PySem.W.SharedT) : obM ps s = (hookM ps).obs s.abs := by
  have e : HandSHeadRun.getT s = s.abs.heap.get? := funext (HandSHeadRun.getT_eq s)
  unfold obM
  rw [e]
  rfl
/-- two runs with a part each are one run with both -/
theorem run_cons {r : PySem.W.OpenRow} {q : Program} {M : Nat} {loose : List Str} {w : World} {p : PartM} {ps : List PartM} (h1 : HandSHeadRun.RunEq r q (hookM [p]) (obM [p]) M loose w) (h2 : HandSHeadRun.RunEq r q (hookM ps) (obM ps) M loose w) :
    HandSHeadRun.RunEq r q (hookM (p :: ps)) (obM (p :: ps)) M loose w := by
  intro os
  have e1 := h1 os
  have e2 := h2 os
  cases z : HandSHeadRun.endF (HandSHeadRun.stepQ (HandSHeadRun.denQ HandSHeadRun.tabQ) r.prog w) M r.prog w os with
  | none => rw [z] at e1; cases e1
  | some s =>
    rw [z] at e1 e2
    have x1 := Option.some.inj e1
    have x2 := Option.some.inj e2
    have y1 := congrArg (fun t => t.2.2) x1
    have y2 := congrArg (fun t => t.2.2) x2
    have y3 := congrArg (fun t => t.1) x1
    have y4 := congrArg (fun t => t.2.1) x1
    have y1 : obM [p] s = valM [p] := y1
    have y2 : obM ps s = valM ps := y2
    show some _ = some _
    congr 1
    refine Prod.ext y3 (Prod.ext y4 ?_)
    show obM (p :: ps) s = valM (p :: ps)
    have y1' : [ob1 p (He.frG (HandSHeadRun.getT s) (reachM (HandSHeadRun.getT s)))] = [val1 p] := y1
    injection y1' with y5 _
    have : obM (p :: ps) s = ob1 p (He.frG (HandSHeadRun.getT s) (reachM (HandSHeadRun.getT s))) :: obM ps s := obsM_cons p ps _
    rw [this, y5, y2]
    rfl
end Mp
set_option Elab.async false
set_option linter.all false
set_option maxRecDepth 100000
set_option maxHeartbeats 2000000
/-! MpBase: deep data, worlds, how values stand for data. -/
namespace Mp
open PySem PySem.Spec PyProof.Rows L2

/-- data: immutable, of any depth; ins: an object of an own class (its class's name, a number of its own where that is told apart, else 0, its fields); pen: the law's drawing dict; scr: anything, of which nothing is known -/
inductive D where
  | non
  | bl (b : Bool)
  | int (i : Int)
  | str (x : Str)
  | tup (xs : List D)
  | lst (xs : List D)
  | dct (kvs : List (Key × D))
  | ins (c : Str) (i : Nat) (fs : List (Str × D))
  | pen
  | scr
  deriving Inhabited

/-- what the drawing dict holds -/
structure Pen where
  cells : List Int
  at_ : Int
  digits : Int
  count : Int
  fold : Int
/-- the running state: the drawing dict (once made), how many numbered objects there are -/
structure Ms where
  pen : Option Pen := none
  oid : Nat := 0
  scr : List Int := []

/-- what is known of the heap: the part that never changes again, where the drawing dict (and its list) lies, where the numbered objects lie -/
structure Wd where
  G : Hp
  pen : Option (Addr × Addr)
  ids : Nat → Option Addr
  nid : Nat
  scr : Option Addr

/-- the written part, the module's names -/
structure Rc where
  K : PySem.W.Frag
  mg : Str → Option Value

mutual
def Rep (C : Rc) (W : Wd) : D → V → Prop
  | .non, v => v = .non
  | .bl b, v => v = .bl b
  | .int i, v => v = .int i
  | .str x, v => v = .str x
  | .tup ds, v => ∃ a vs, v = .ref a ∧ SqT C.K W.G a vs ∧ Reps C W ds vs
  | .lst ds, v => ∃ a vs, v = .ref a ∧ W.G a = some (.lst vs) ∧ Reps C W ds vs
  | .dct ds, v => ∃ a vs, v = .ref a ∧ W.G a = some (.dK vs) ∧ RepK C W ds vs
  | .ins c i fs, v => ∃ a cl dx vs, v = .ref a ∧ C.mg c = some (.ref cl) ∧ W.G a = some (.ins cl dx vs) ∧ RepF C W fs vs ∧ (i ≠ 0 → W.ids i = some a)
  | .pen, v => ∃ a c, v = .ref a ∧ W.pen = some (a, c)
  | .scr, _ => True
def Reps (C : Rc) (W : Wd) : List D → List V → Prop
  | [], vs => vs = []
  | d :: ds, vs => ∃ v r, vs = v :: r ∧ Rep C W d v ∧ Reps C W ds r
def RepF (C : Rc) (W : Wd) : List (Str × D) → List (Str × V) → Prop
  | [], vs => vs = []
  | (n, d) :: ds, vs => ∃ v r, vs = (n, v) :: r ∧ Rep C W d v ∧ RepF C W ds r
def RepK (C : Rc) (W : Wd) : List (Key × D) → List (Key × V) → Prop
  | [], vs => vs = []
  | (n, d) :: ds, vs => ∃ v r, vs = (n, v) :: r ∧ Rep C W d v ∧ RepK C W ds r
end

/-- a world knows more -/
structure Le (W W' : Wd) : Prop where
  G : ∀ a o, W.G a = some o → W'.G a = some o
  pen : W'.pen = W.pen
  ids : ∀ i a, W.ids i = some a → W'.ids i = some a
  nid : W.nid ≤ W'.nid
theorem Le.refl (W : Wd) : Le W W := ⟨fun _ _ h => h, rfl, fun _ _ h => h, Nat.le_refl _⟩
theorem Le.trans {W W1 W2 : Wd} (a : Le W W1) (b : Le W1 W2) : Le W W2 := ⟨fun x o h => b.G x o (a.G x o h), b.pen.trans a.pen, fun i x h => b.ids i x (a.ids i x h), Nat.le_trans a.nid b.nid⟩

theorem rd_le {G G' : Hp} (h : ∀ a o, G a = some o → G' a = some o) {a : Addr} {u : HO} (r : Rd G a u) : Rd G' a u := by
  rcases r with r | ⟨o, r⟩
  · exact .inl (h _ _ r)
  · exact .inr ⟨o, h _ _ r⟩
theorem sqT_le {K : PySem.W.Frag} {G G' : Hp} (h : ∀ a o, G a = some o → G' a = some o) {a : Addr} {vs : List V} (r : SqT K G a vs) : SqT K G' a vs := by
  rcases r with r | r
  · exact .inl (rd_le h r)
  · exact .inr r
theorem sqL_le {K : PySem.W.Frag} {G G' : Hp} (h : ∀ a o, G a = some o → G' a = some o) {a : Addr} {vs : List V} (r : SqL K G a vs) : SqL K G' a vs := by
  rcases r with r | r
  · exact .inl (rd_le h r)
  · exact .inr r

mutual
theorem Rep.le {C : Rc} {W W' : Wd} (h : Le W W') : ∀ (d : D) (v : V), Rep C W d v → Rep C W' d v
  | .non, v, r => r
  | .bl b, v, r => r
  | .int i, v, r => r
  | .str x, v, r => r
  | .tup ds, v, ⟨a, vs, e, s, r⟩ => ⟨a, vs, e, sqT_le h.G s, Reps.le h ds vs r⟩
  | .lst ds, v, ⟨a, vs, e, s, r⟩ => ⟨a, vs, e, h.G _ _ s, Reps.le h ds vs r⟩
  | .dct ds, v, ⟨a, vs, e, s, r⟩ => ⟨a, vs, e, h.G _ _ s, RepK.le h ds vs r⟩
  | .ins c i fs, v, ⟨a, cl, dx, vs, e, m, s, r, q⟩ => ⟨a, cl, dx, vs, e, m, h.G _ _ s, RepF.le h fs vs r, fun z => h.ids _ _ (q z)⟩
  | .pen, v, ⟨a, c, e, p⟩ => ⟨a, c, e, h.pen.trans p⟩
  | .scr, v, r => r
theorem Reps.le {C : Rc} {W W' : Wd} (h : Le W W') : ∀ (ds : List D) (vs : List V), Reps C W ds vs → Reps C W' ds vs
  | [], vs, r => r
  | d :: ds, vs, ⟨v, r, e, p, q⟩ => ⟨v, r, e, Rep.le h d v p, Reps.le h ds r q⟩
theorem RepF.le {C : Rc} {W W' : Wd} (h : Le W W') : ∀ (ds : List (Str × D)) (vs : List (Str × V)), RepF C W ds vs → RepF C W' ds vs
  | [], vs, r => r
  | (n, d) :: ds, vs, ⟨v, r, e, p, q⟩ => ⟨v, r, e, Rep.le h d v p, RepF.le h ds r q⟩
theorem RepK.le {C : Rc} {W W' : Wd} (h : Le W W') : ∀ (ds : List (Key × D)) (vs : List (Key × V)), RepK C W ds vs → RepK C W' ds vs
  | [], vs, r => r
  | (n, d) :: ds, vs, ⟨v, r, e, p, q⟩ => ⟨v, r, e, Rep.le h d v p, RepK.le h ds r q⟩
end

/-- the drawing dict's pairs -/
def penKvs (p : Pen) (c : Addr) : List (Key × V) := [(.inr "cells", .ref c), (.inr "at", .int p.at_), (.inr "digits", .int p.digits), (.inr "count", .int p.count), (.inr "fold", .int p.fold)]

/-- the heap is as the world and the state say -/
structure Rel (C : Rc) (W : Wd) (st : Ms) (H : Hp) : Prop where
  sub : ∀ a o, W.G a = some o → H a = some o
  pen : ∀ x, W.pen = some x → ∃ p, st.pen = some p ∧ H x.1 = some (.dK (penKvs p x.2)) ∧ W.G x.1 = none ∧ W.G x.2 = some (.lst (p.cells.map V.int))
  penE : W.pen = none → st.pen = none
  nid : W.nid = st.oid
  idlt : ∀ i a, W.ids i = some a → i ≤ W.nid ∧ ∃ cl dx fs, W.G a = some (.ins cl dx fs)
  idinj : ∀ i j a, W.ids i = some a → W.ids j = some a → i = j

/-- from one world and heap to a later one -/
structure Ext (W : Wd) (H : Hp) (W' : Wd) (H' : Hp) : Prop where
  le : Le W W'
  keep : ∀ a o, H a = some o → (∀ x, W.pen = some x → a ≠ x.1) → H' a = some o
  dom : ∀ a, H' a = none → H a = none
  newG : ∀ a o, W'.G a = some o → W.G a = some o ∨ H a = none
  scr : W'.scr = W.scr
theorem Ext.refl (W : Wd) (H : Hp) : Ext W H W H := ⟨.refl W, fun _ _ h _ => h, fun _ h => h, fun _ _ h => .inl h, rfl⟩
theorem Ext.trans {W W1 W2 : Wd} {H H1 H2 : Hp} (a : Ext W H W1 H1) (b : Ext W1 H1 W2 H2) : Ext W H W2 H2 where
  le := a.le.trans b.le
  keep := fun x o h n => b.keep x o (a.keep x o h n) fun y hy => n y (a.le.pen ▸ hy)
  dom := fun x h => a.dom x (b.dom x h)
  newG := fun x o h => by
    rcases b.newG x o h with z | z
    · exact a.newG x o z
    · exact .inr (a.dom x z)
  scr := b.scr.trans a.scr

/-- a new thing is laid, never to change -/
def Wd.put (W : Wd) (p : Addr) (o : HO) : Wd := { W with G := upd W.G p o }
theorem Wd.put_at {W : Wd} {p : Addr} {o : HO} : (W.put p o).G p = some o := upd_same
theorem G_free {C : Rc} {W : Wd} {st : Ms} {H : Hp} (r : Rel C W st H) {p : Addr} (h : H p = none) : W.G p = none := by
  cases e : W.G p with
  | none => rfl
  | some o => rw [r.sub p o e] at h; cases h
theorem le_put {W : Wd} {p : Addr} {o : HO} (h : W.G p = none) : Le W (W.put p o) :=
  ⟨fun a u e => by
    show upd W.G p o a = some u
    rw [upd_ne (ne_of_none e h)]; exact e, rfl, fun _ _ e => e, Nat.le_refl _⟩
theorem rel_put {C : Rc} {W : Wd} {st : Ms} {H : Hp} (r : Rel C W st H) {p : Addr} {o : HO} (h : H p = none) : Rel C (W.put p o) st (upd H p o) where
  sub := fun a u e => by
    have e' : upd W.G p o a = some u := e
    by_cases q : a = p
    · rw [q, upd_same] at e' ⊢; exact e'
    · rw [upd_ne q] at e' ⊢; exact r.sub a u e'
  pen := fun x hx => by
    obtain ⟨q, h1, h2, h3, h4⟩ := r.pen x hx
    have n : x.1 ≠ p := ne_of_none h2 h
    refine ⟨q, h1, by rw [upd_ne n]; exact h2, ?_, (le_put (G_free r h)).G _ _ h4⟩
    show upd W.G p o x.1 = none
    rw [upd_ne n]; exact h3
  penE := r.penE
  nid := r.nid
  idlt := fun i a e => by
    obtain ⟨h1, cl, dx, fs, h2⟩ := r.idlt i a e
    exact ⟨h1, cl, dx, fs, (le_put (G_free r h)).G _ _ h2⟩
  idinj := r.idinj
theorem ext_put {C : Rc} {W : Wd} {st : Ms} {H : Hp} (r : Rel C W st H) {p : Addr} {o : HO} (h : H p = none) : Ext W H (W.put p o) (upd H p o) where
  le := le_put (G_free r h)
  keep := fun a u e _ => by rw [upd_ne (ne_of_none e h)]; exact e
  dom := fun a e => by
    by_cases q : a = p
    · rw [q]; exact h
    · rw [upd_ne q] at e; exact e
  newG := fun a u e => by
    have e' : upd W.G p o a = some u := e
    by_cases q : a = p
    · rw [q]; exact .inr h
    · rw [upd_ne q] at e'; exact .inl e'
  scr := rfl
/-- a new thing is laid that may change: it is known to nobody -/
theorem rel_own {C : Rc} {W : Wd} {st : Ms} {H : Hp} (r : Rel C W st H) {p : Addr} {o : HO} (h : H p = none) : Rel C W st (upd H p o) where
  sub := fun a u e => by
    have q := r.sub a u e
    rw [upd_ne (ne_of_none q h)]; exact q
  pen := fun x hx => by
    obtain ⟨q, h1, h2, h3, h4⟩ := r.pen x hx
    exact ⟨q, h1, by rw [upd_ne (ne_of_none h2 h)]; exact h2, h3, h4⟩
  penE := r.penE
  nid := r.nid
  idlt := r.idlt
  idinj := r.idinj
theorem ext_own {W : Wd} {H : Hp} {p : Addr} {o : HO} (h : H p = none) : Ext W H W (upd H p o) where
  le := .refl W
  keep := fun a u e _ => by rw [upd_ne (ne_of_none e h)]; exact e
  dom := fun a e => by
    by_cases q : a = p
    · rw [q]; exact h
    · rw [upd_ne q] at e; exact e
  newG := fun _ _ e => .inl e
  scr := rfl

/-! ### data that need no heap -/
def D.flat : D → Bool
  | .non => true
  | .bl _ => true
  | .int _ => true
  | .str _ => true
  | _ => false
theorem Rep.flat {C : Rc} {W W' : Wd} {d : D} {v : V} (h : d.flat = true) (r : Rep C W d v) : Rep C W' d v := by
  cases d <;> first | exact r | cases h

theorem Reps.length {C : Rc} {W : Wd} : ∀ {ds : List D} {vs : List V}, Reps C W ds vs → ds.length = vs.length
  | [], vs, r => by have e : vs = [] := r; subst e; rfl
  | d :: ds, vs, ⟨v, r, e, _, q⟩ => by subst e; simp [Reps.length q]
theorem Reps.nil {C : Rc} {W : Wd} : ∀ {ds : List D}, Reps C W ds [] → ds = []
  | [], _ => rfl
  | _ :: _, ⟨_, _, e, _⟩ => nomatch e
theorem Reps.append {C : Rc} {W : Wd} : ∀ {ds es : List D} {vs ws : List V}, Reps C W ds vs → Reps C W es ws → Reps C W (ds ++ es) (vs ++ ws)
  | [], _, vs, _, r, q => by have e : vs = [] := r; subst e; exact q
  | d :: ds, _, vs, _, ⟨v, r, e, p, t⟩, q => by subst e; exact ⟨v, _, rfl, p, Reps.append t q⟩
theorem Reps.get {C : Rc} {W : Wd} : ∀ {ds : List D} {vs : List V} {i : Nat} {d : D}, Reps C W ds vs → ds[i]? = some d → ∃ v, vs[i]? = some v ∧ Rep C W d v
  | [], _, _, _, _, h => by simp at h
  | d :: ds, vs, 0, _, ⟨v, r, e, p, _⟩, h => by subst e; simp at h; subst h; exact ⟨v, rfl, p⟩
  | d :: ds, vs, i + 1, x, ⟨v, r, e, _, t⟩, h => by
    subst e
    obtain ⟨w, h1, h2⟩ := Reps.get (i := i) t (by simpa using h)
    exact ⟨w, by simpa using h1, h2⟩
theorem Reps.get' {C : Rc} {W : Wd} : ∀ {ds : List D} {vs : List V} {i : Nat} {v : V}, Reps C W ds vs → vs[i]? = some v → ∃ d, ds[i]? = some d ∧ Rep C W d v
  | [], vs, _, _, r, h => by have e : vs = [] := r; subst e; simp at h
  | d :: ds, vs, 0, _, ⟨v, r, e, p, _⟩, h => by subst e; simp at h; subst h; exact ⟨d, rfl, p⟩
  | d :: ds, vs, i + 1, x, ⟨v, r, e, _, t⟩, h => by
    subst e
    obtain ⟨w, h1, h2⟩ := Reps.get' (i := i) t (by simpa using h)
    exact ⟨w, by simpa using h1, h2⟩
theorem Reps.take {C : Rc} {W : Wd} : ∀ (n : Nat) {ds : List D} {vs : List V}, Reps C W ds vs → Reps C W (ds.take n) (vs.take n)
  | 0, _, _, _ => by simp [Reps]
  | n + 1, [], vs, r => by have e : vs = [] := r; subst e; exact r
  | n + 1, d :: ds, vs, ⟨v, r, e, p, t⟩ => by subst e; exact ⟨v, _, rfl, p, Reps.take n t⟩
theorem Reps.drop {C : Rc} {W : Wd} : ∀ (n : Nat) {ds : List D} {vs : List V}, Reps C W ds vs → Reps C W (ds.drop n) (vs.drop n)
  | 0, _, _, r => r
  | n + 1, [], vs, r => by have e : vs = [] := r; subst e; exact r
  | n + 1, d :: ds, vs, ⟨v, r, e, p, t⟩ => by subst e; exact Reps.drop n t
theorem Reps.ints {C : Rc} {W : Wd} : ∀ {ns : List Int} {vs : List V}, Reps C W (ns.map D.int) vs → vs = ns.map V.int
  | [], vs, r => r
  | n :: ns, vs, ⟨v, r, e, p, t⟩ => by
    have e2 : v = .int n := p
    rw [e, e2, Reps.ints t]; rfl
theorem Reps.ofInts {C : Rc} {W : Wd} : ∀ (ns : List Int), Reps C W (ns.map D.int) (ns.map V.int)
  | [] => rfl
  | n :: ns => ⟨_, _, rfl, rfl, Reps.ofInts ns⟩
theorem Reps.bls {C : Rc} {W : Wd} : ∀ {ns : List Bool} {vs : List V}, Reps C W (ns.map D.bl) vs → vs = ns.map V.bl
  | [], vs, r => r
  | n :: ns, vs, ⟨v, r, e, p, t⟩ => by
    have e2 : v = .bl n := p
    rw [e, e2, Reps.bls t]; rfl
end Mp
set_option Elab.async false
set_option linter.all false
set_option maxRecDepth 100000
set_option maxHeartbeats 2000000
/-! MpEval: a small language and what its terms are worth, in plain Lean. -/
namespace Mp
open PySem PySem.Spec PyProof.Rows L2

/-- an error in the air: its class, its fields -/
structure Exc where
  cls : Str
  fs : List (Str × D)
inductive Out (α : Type) where
  | ok (a : α) (s : Ms)
  | ex (x : Exc) (s : Ms)
  | bad
def Out.bind {α β : Type} : Out α → (α → Ms → Out β) → Out β
  | .ok a s, f => f a s
  | .ex x s, _ => .ex x s
  | .bad, _ => .bad
def Out.nox {α : Type} : Out α → Out α
  | .ok a s => .ok a s
  | _ => .bad
def Out.opt {α : Type} (o : Option α) (s : Ms) : Out α := match o with
  | some a => .ok a s
  | none => .bad
@[simp] theorem Out.bind_ok {α β : Type} (a : α) (s : Ms) (f : α → Ms → Out β) : (Out.ok a s).bind f = f a s := rfl
@[simp] theorem Out.bind_ex {α β : Type} (x : Exc) (s : Ms) (f : α → Ms → Out β) : (Out.ex x s : Out α).bind f = .ex x s := rfl
@[simp] theorem Out.bind_bad {α β : Type} (f : α → Ms → Out β) : (Out.bad : Out α).bind f = .bad := rfl
@[simp] theorem Out.nox_ok {α : Type} (a : α) (s : Ms) : (Out.ok a s).nox = .ok a s := rfl
@[simp] theorem Out.nox_ex {α : Type} (x : Exc) (s : Ms) : (Out.ex x s : Out α).nox = .bad := rfl
@[simp] theorem Out.nox_bad {α : Type} : (Out.bad : Out α).nox = .bad := rfl
@[simp] theorem Out.opt_some {α : Type} (a : α) (s : Ms) : Out.opt (some a) s = .ok a s := rfl
@[simp] theorem Out.opt_none {α : Type} (s : Ms) : (Out.opt none s : Out α) = .bad := rfl
abbrev Den := List D → Ms → Out D

/-- what the names of the text stand for: defs, constants, classes made, classes' methods, whether one class is another's -/
structure Gm where
  fn : Str → Option Den
  con : Str → Option D
  mke : Str → Option Den
  mkk : Str → List Str → Option Den
  meth : Str → Str → Option Den
  own : Str → Bool
  sub : Str → Str → Option Bool
  isT : Str → String → Option Bool
  idn : Str → Bool
  fld : Str → Str → Bool

/-! ### the terms -/
/-- built-ins, by name -/
inductive Bi where
  | len | int | abs | sum | any | all | sorted | tuple | list | repr | min2 | max2 | lenset
  deriving DecidableEq
inductive Tg where
  | v (i : Nat)
  | t (is : List Nat)
/-- the class that isinstance asks for -/
inductive Ic where
  | ty (n : String)
  | own (c : Str)
mutual
inductive E where
  | lit (c : Const)
  | var (i : Nat)
  | con (x : Str)
  | tup (es : Es)
  | lst (es : Es)
  | bin (op : Operator) (a b : E)
  | neg (a : E)
  | inv (a : E)
  | not (a : E)
  | cmp (op : CmpOp) (a b : E)
  | chn (o1 o2 : CmpOp) (a b c : E)
  | and (es : Es)
  | or (es : Es)
  | ifx (t a b : E)
  | ix (a i : E)
  | slc (a : E) (lo hi : Oe)
  | lc (tg : Tg) (it : It) (c : Oe) (e : E)
  | bi (f : Bi) (es : Es)
  | call (f : Str) (es : Es)
  | mk (c : Str) (es : Es)
  | mkk (c : Str) (ks : List Str) (es : Es)
  | dic (k : Str) (e : E)
  | pnf (i : Nat) (k : Str)
  | fld (a : E) (f : Str)
  | isi (a : E) (c : Ic)
inductive Es where
  | nil
  | cons (e : E) (r : Es)
inductive It where
  | e (a : E)
  | rng1 (a : E)
  | rng2 (a b : E)
  | zip (a b : E)
inductive Oe where
  | no
  | yes (e : E)
end

/-! ### operations on data -/
def litD : Const → Option D
  | .none => some .non
  | .bool b => some (.bl b)
  | .int i => some (.int i)
  | .str x => some (.str x)
  | _ => none
def tru : D → Option Bool
  | .non => some false
  | .bl b => some b
  | .int i => some (i != 0)
  | .str x => if x.length ≤ sizeLine then some ((x.length : Int) != 0) else none
  | .tup xs => some !xs.isEmpty
  | .lst xs => some !xs.isEmpty
  | _ => none
mutual
def toPy : D → Option PyData
  | .non => some .none
  | .bl b => some (.bool b)
  | .int i => some (.int i)
  | .str x => some (.str x)
  | .tup xs => match toPys xs with
    | some ps => some (.tuple ps)
    | none => none
  | .lst xs => match toPys xs with
    | some ps => some (.list ps)
    | none => none
  | _ => none
def toPys : List D → Option (List PyData)
  | [] => some []
  | d :: ds => match toPy d, toPys ds with
    | some p, some ps => some (p :: ps)
    | _, _ => none
end
def keyPy : Key → PyData
  | .inl i => .int i
  | .inr x => .str x
mutual
/-- data as repr shows them, dicts among them -/
def toPyR : D → Option PyData
  | .non => some .none
  | .bl b => some (.bool b)
  | .int i => some (.int i)
  | .str x => some (.str x)
  | .tup xs => match toPyRs xs with
    | some ps => some (.tuple ps)
    | none => none
  | .lst xs => match toPyRs xs with
    | some ps => some (.list ps)
    | none => none
  | .dct xs => match toPyRk xs with
    | some ps => some (.dict ps)
    | none => none
  | _ => none
def toPyRs : List D → Option (List PyData)
  | [] => some []
  | d :: ds => match toPyR d, toPyRs ds with
    | some p, some ps => some (p :: ps)
    | _, _ => none
def toPyRk : List (Key × D) → Option (List (PyData × PyData))
  | [] => some []
  | (k, d) :: ds => match toPyR d, toPyRk ds with
    | some p, some ps => some ((keyPy k, p) :: ps)
    | _, _ => none
end
def eqD (d e : D) : Option Bool := match toPy d, toPy e with
  | some a, some b => if SeqAt.shaped a = true ∧ SeqAt.shaped b = true then some (PyData.eqv a b) else none
  | _, _ => none
def binI (op : Operator) (i j : Int) : Option D := match op with
  | .Add => some (.int (i + j))
  | .Sub => some (.int (i - j))
  | .Mult => if (-(2 ^ 64) < i ∧ i < 2 ^ 64) ∨ (-(2 ^ 64) < j ∧ j < 2 ^ 64) then some (.int (i * j)) else none
  | .FloorDiv => if 0 < j ∧ j < 1073741824 then some (.int (i / j)) else none
  | .Mod => if 0 < j then some (.int (i % j)) else none
  | .Pow => if 0 ≤ j ∧ j ≤ 1000000 ∧ i.natAbs < 2 ^ 64 then some (.int (i ^ j.toNat)) else none
  | .LShift => if 0 ≤ j ∧ j ≤ 1000000 ∧ i.natAbs < 2 ^ 64 then some (.int (i * 2 ^ j.toNat)) else none
  | .RShift => if 0 ≤ j then some (.int (i / 2 ^ j.toNat)) else none
  | .BitAnd => some (.int (Builtin.bitAnd i j))
  | .BitOr => some (.int (Builtin.bitOr i j))
  | .BitXor => some (.int (Builtin.bitXor i j))
  | _ => none
def binD (op : Operator) (a b : D) : Option D := match a, b with
  | .int i, .int j => binI op i j
  | .tup xs, .tup ys => match op with
    | .Add => if xs.length + ys.length ≤ sizeLine then some (.tup (xs ++ ys)) else none
    | _ => none
  | .lst xs, .lst ys => match op with
    | .Add => if xs.length + ys.length ≤ sizeLine then some (.lst (xs ++ ys)) else none
    | _ => none
  | _, _ => none
def inD (x y : D) : Option Bool := match y with
  | .lst ys => match toPy x, toPys ys with
    | some p, some ps => if SeqAt.shaped p = true ∧ SeqAt.shaped (.list ps) = true then some (ps.any fun z => PyData.eqv z p) else none
    | _, _ => none
  | .tup ys => match toPy x, toPys ys with
    | some p, some ps => if SeqAt.shaped p = true ∧ SeqAt.shaped (.tuple ps) = true then some (ps.any fun z => PyData.eqv z p) else none
    | _, _ => none
  | _ => none
def cmpD (op : CmpOp) (a b : D) : Option Bool := match op with
  | .Eq => eqD a b
  | .NotEq => (eqD a b).map (!·)
  | .Lt => match a, b with
    | .int i, .int j => some (decide (i < j))
    | _, _ => none
  | .LtE => match a, b with
    | .int i, .int j => some (decide (i ≤ j))
    | _, _ => none
  | .Gt => match a, b with
    | .int i, .int j => some (decide (j < i))
    | _, _ => none
  | .GtE => match a, b with
    | .int i, .int j => some (decide (j ≤ i))
    | _, _ => none
  | .Is => match a, b with
    | .non, .non => some true
    | .scr, .non => none
    | _, .non => some false
    | .bl x, .bl y => some (decide (x = y))
    | _, _ => none
  | .IsNot => match a, b with
    | .non, .non => some false
    | .scr, .non => none
    | _, .non => some true
    | .bl x, .bl y => some (!decide (x = y))
    | _, _ => none
  | .In => inD a b
  | .NotIn => (inD a b).map (!·)
def itemsD : D → Option (List D)
  | .tup xs => some xs
  | .lst xs => some xs
  | _ => none
def ixD (a i : D) : Option D := match itemsD a, i with
  | some xs, .int k => atI xs k
  | _, _ => none
def cutD (xs : List D) (lo hi : Option Int) : List D := (xs.drop (HT.sIx xs.length 0 lo)).take (HT.sIx xs.length xs.length hi - HT.sIx xs.length 0 lo)
def slcD (a : D) (lo hi : Option Int) : Option D := match a with
  | .lst xs => some (.lst (cutD xs lo hi))
  | .tup xs => some (.tup (cutD xs lo hi))
  | _ => none
def intsD : List D → Option (List Int)
  | [] => some []
  | .int i :: r => (intsD r).map (i :: ·)
  | _ :: _ => none
def blsD : List D → Option (List Bool)
  | [] => some []
  | .bl b :: r => (blsD r).map (b :: ·)
  | _ :: _ => none
def insI (x : Int) : List Int → List Int
  | [] => [x]
  | y :: ys => if x ≤ y then x :: y :: ys else y :: insI x ys
def sortI : List Int → List Int
  | [] => []
  | x :: xs => insI x (sortI xs)
def biD (f : Bi) (ds : List D) : Option D := match f, ds with
  | .len, [.tup xs] => some (.int xs.length)
  | .len, [.lst xs] => some (.int xs.length)
  | .len, [.str x] => if x.length ≤ sizeLine then some (.int x.length) else none
  | .int, [.int i] => some (.int i)
  | .int, [.bl b] => some (.int (if b then 1 else 0))
  | .abs, [.int i] => some (.int (if i < 0 then -i else i))
  | .sum, [.lst xs] => match intsD xs with
    | some ns => some (.int ns.sum)
    | none => none
  | .any, [.lst xs] => match blsD xs with
    | some ns => some (.bl (ns.any id))
    | none => none
  | .all, [.lst xs] => match blsD xs with
    | some ns => some (.bl (ns.all id))
    | none => none
  | .tuple, [.tup xs] => some (.tup xs)
  | .tuple, [.lst xs] => some (.tup xs)
  | .list, [.tup xs] => some (.lst xs)
  | .list, [.lst xs] => some (.lst xs)
  | .min2, [.int i, .int j] => some (.int (if j < i then j else i))
  | .max2, [.int i, .int j] => some (.int (if j > i then j else i))
  | .repr, [d] => match toPyR d with
    | some p => if p.showable = true ∧ p.shown.length ≤ sizeLine ∧ p.depth ≤ 64 then some (.str p.shown) else none
    | none => none
  | _, _ => none
/-- the built-in type's name -/
def tyD : D → Option String
  | .non => some "NoneType"
  | .bl _ => some "bool"
  | .int _ => some "int"
  | .str _ => some "str"
  | .tup _ => some "tuple"
  | .lst _ => some "list"
  | .dct _ => some "dict"
  | _ => none
def isiO (Γ : Gm) (c' : Str) (c : Ic) : Option Bool := if Γ.own c' = true then (match c with
    | .own c => Γ.sub c' c
    | .ty n => Γ.isT c' n) else none
def isiB (Γ : Gm) (m : String) (c : Ic) : Option Bool := match c with
  | .ty n => kitB m n
  | .own c => if Γ.own c = true then some false else none
def isiD (Γ : Gm) (d : D) (c : Ic) : Option Bool := match d with
  | .ins c' _ _ => isiO Γ c' c
  | d => match tyD d with
    | some m => isiB Γ m c
    | none => none
def icOk (Γ : Gm) : Ic → Bool
  | .own c => Γ.own c
  | .ty _ => true
/-- what the drawing dict holds at a name -/
def penGet (k : Str) (p : Pen) : Option D :=
  if k = "cells" then some (.lst (p.cells.map .int)) else if k = "at" then some (.int p.at_) else if k = "digits" then some (.int p.digits) else if k = "count" then some (.int p.count) else if k = "fold" then some (.int p.fold) else none
def penSet (k : Str) (d : D) (p : Pen) : Option Pen := match d with
  | .int n => if k = "at" then some { p with at_ := n } else if k = "digits" then some { p with digits := n } else if k = "count" then some { p with count := n } else if k = "fold" then some { p with fold := n } else none
  | _ => none
def fldD (Γ : Gm) (d : D) (f : Str) : Option D := match d with
  | .ins c _ fs => if Γ.fld c f = true then fs.lookup f else none
  | _ => none
def putAll : List Nat → List D → List (Option D) → Option (List (Option D))
  | [], [], ρ => some ρ
  | i :: is, d :: ds, ρ => putAll is ds (ρ.set i (some d))
  | _, _, _ => none
def bindT (t : Tg) (d : D) (ρ : List (Option D)) : Option (List (Option D)) := match t with
  | .v i => some (ρ.set i (some d))
  | .t is => match d with
    | .tup xs => putAll is xs ρ
    | .lst xs => putAll is xs ρ
    | _ => none
def Tg.slots : Tg → List Nat
  | .v i => [i]
  | .t is => is
/-- a comprehension's turns -/
def loopL (f : D → Ms → Out (Option D)) : List D → Ms → Out (List D)
  | [], s => .ok [] s
  | d :: ds, s => (f d s).bind fun o s1 => (loopL f ds s1).bind fun r s2 => .ok (match o with
    | some x => x :: r
    | none => r) s2
def rngD (lo : Int) (n : Nat) : List D := (List.range n).map fun i => D.int (lo + (i : Nat))
def bnd62 (i : Int) : Bool := decide (-(2 ^ 62) ≤ i ∧ i < 2 ^ 62)
/-- the equality of objects -/
def eqO (Γ : Gm) (a b : D) (s : Ms) : Out Bool := match a with
  | .ins c i _ => if Γ.idn c = true then (match b with
      | .ins c' j _ => if Γ.idn c' = true ∧ i ≠ 0 ∧ j ≠ 0 then .ok (decide (i = j)) s else .bad
      | _ => .bad) else match Γ.meth c "__eq__" with
      | some m => (m [a, b] s).bind fun d s1 => match d with
        | .bl k => .ok k s1
        | _ => .bad
      | none => .bad
  | _ => Out.opt (eqD a b) s
def neO (Γ : Gm) (a b : D) (s : Ms) : Out Bool := match a with
  | .ins c i _ => if Γ.idn c = true then (match b with
      | .ins c' j _ => if Γ.idn c' = true ∧ i ≠ 0 ∧ j ≠ 0 then .ok (!decide (i = j)) s else .bad
      | _ => .bad) else match Γ.meth c "__ne__" with
      | some m => (m [a, b] s).bind fun d s1 => match d with
        | .bl k => .ok k s1
        | _ => .bad
      | none => .bad
  | _ => Out.opt ((eqD a b).map (!·)) s
def cmpO (Γ : Gm) (op : CmpOp) (a b : D) (s : Ms) : Out Bool := match op with
  | .Eq => eqO Γ a b s
  | .NotEq => neO Γ a b s
  | op => Out.opt (cmpD op a b) s

mutual
def ev (Γ : Gm) : E → List (Option D) → Ms → Out D
  | .lit c, _, s => Out.opt (litD c) s
  | .var i, ρ, s => Out.opt ((ρ[i]?).join) s
  | .con x, _, s => Out.opt (Γ.con x) s
  | .tup es, ρ, s => (evs Γ es ρ s).bind fun ds s => if ds.length ≤ sizeLine then .ok (.tup ds) s else .bad
  | .lst es, ρ, s => (evs Γ es ρ s).bind fun ds s => if ds.length ≤ sizeLine then .ok (.lst ds) s else .bad
  | .bin op a b, ρ, s => (ev Γ a ρ s).bind fun x s => (ev Γ b ρ s).bind fun y s => Out.opt (binD op x y) s
  | .neg a, ρ, s => (ev Γ a ρ s).bind fun x s => match x with
    | .int i => .ok (.int (-i)) s
    | _ => .bad
  | .inv a, ρ, s => (ev Γ a ρ s).bind fun x s => match x with
    | .int i => .ok (.int (Builtin.bitNot i)) s
    | _ => .bad
  | .not a, ρ, s => (ev Γ a ρ s).bind fun x s => (Out.opt (tru x) s).bind fun k s => .ok (.bl (!k)) s
  | .cmp op a b, ρ, s => (ev Γ a ρ s).bind fun x s => (ev Γ b ρ s).bind fun y s => (cmpO Γ op x y s).bind fun k s => .ok (.bl k) s
  | .chn o1 o2 a b c, ρ, s => (ev Γ a ρ s).bind fun x s => (ev Γ b ρ s).bind fun y s => (Out.opt (cmpD o1 x y) s).bind fun k s =>
    if k = true then (ev Γ c ρ s).bind fun z s => (Out.opt (cmpD o2 y z) s).bind fun k s => .ok (.bl k) s else .ok (.bl false) s
  | .and es, ρ, s => evAnd Γ es ρ s
  | .or es, ρ, s => evOr Γ es ρ s
  | .ifx t a b, ρ, s => (ev Γ t ρ s).bind fun x s => (Out.opt (tru x) s).bind fun k s => if k = true then ev Γ a ρ s else ev Γ b ρ s
  | .ix a i, ρ, s => (ev Γ a ρ s).bind fun x s => (ev Γ i ρ s).bind fun y s => Out.opt (ixD x y) s
  | .slc a lo hi, ρ, s => (ev Γ a ρ s).bind fun x s => (evo Γ lo ρ s).bind fun l s => (evo Γ hi ρ s).bind fun h s => Out.opt (slcD x l h) s
  | .lc tg it c e, ρ, s => (evi Γ it ρ s).bind fun xs s => (loopL (fun d s => (match bindT tg d ρ with
    | none => Out.bad
    | some ρ' => (evc Γ c ρ' s).bind fun k s => if k = true then (ev Γ e ρ' s).bind fun x s => .ok (some x) s else .ok none s).nox) xs s).bind fun ds s => if ds.length ≤ sizeLine then .ok (.lst ds) s else .bad
  | .bi f es, ρ, s => (evs Γ es ρ s).bind fun ds s => Out.opt (biD f ds) s
  | .call f es, ρ, s => match Γ.fn f with
    | some d => (evs Γ es ρ s).bind d
    | none => .bad
  | .mk c es, ρ, s => match Γ.mke c with
    | some d => (evs Γ es ρ s).bind d
    | none => .bad
  | .mkk c ks es, ρ, s => match Γ.mkk c ks with
    | some d => (evs Γ es ρ s).bind d
    | none => .bad
  | .dic k e, ρ, s => (ev Γ e ρ s).bind fun x s => .ok (.dct [(.inr k, x)]) s
  | .pnf i k, ρ, s => match (ρ[i]?).join with
    | some .pen => Out.opt (s.pen.bind (penGet k)) s
    | _ => .bad
  | .fld a f, ρ, s => (ev Γ a ρ s).bind fun x s => Out.opt (fldD Γ x f) s
  | .isi a c, ρ, s => if icOk Γ c = true then (ev Γ a ρ s).bind fun x s => (Out.opt (isiD Γ x c) s).bind fun k s => .ok (.bl k) s else .bad
def evs (Γ : Gm) : Es → List (Option D) → Ms → Out (List D)
  | .nil, _, s => .ok [] s
  | .cons e r, ρ, s => (ev Γ e ρ s).bind fun x s => (evs Γ r ρ s).bind fun xs s => .ok (x :: xs) s
def evi (Γ : Gm) : It → List (Option D) → Ms → Out (List D)
  | .e a, ρ, s => (ev Γ a ρ s).bind fun x s => Out.opt (itemsD x) s
  | .rng1 a, ρ, s => (ev Γ a ρ s).bind fun x s => match x with
    | .int i => if bnd62 i = true then .ok (rngD 0 i.toNat) s else .bad
    | _ => .bad
  | .rng2 a b, ρ, s => (ev Γ a ρ s).bind fun x s => (ev Γ b ρ s).bind fun y s => match x, y with
    | .int i, .int j => if bnd62 i = true ∧ bnd62 j = true then .ok (rngD i (j - i).toNat) s else .bad
    | _, _ => .bad
  | .zip a b, ρ, s => (ev Γ a ρ s).bind fun x s => (ev Γ b ρ s).bind fun y s => match x, y with
    | .tup xs, .tup ys => .ok ((xs.zip ys).map fun p => D.tup [p.1, p.2]) s
    | .lst xs, .lst ys => .ok ((xs.zip ys).map fun p => D.tup [p.1, p.2]) s
    | _, _ => .bad
def evAnd (Γ : Gm) : Es → List (Option D) → Ms → Out D
  | .nil, _, _ => .bad
  | .cons e r, ρ, s => (ev Γ e ρ s).bind fun x s => match r with
    | .nil => .ok x s
    | .cons _ _ => (Out.opt (tru x) s).bind fun k s => if k = true then evAnd Γ r ρ s else .ok x s
def evOr (Γ : Gm) : Es → List (Option D) → Ms → Out D
  | .nil, _, _ => .bad
  | .cons e r, ρ, s => (ev Γ e ρ s).bind fun x s => match r with
    | .nil => .ok x s
    | .cons _ _ => (Out.opt (tru x) s).bind fun k s => if k = true then .ok x s else evOr Γ r ρ s
/-- a slice's end -/
def evo (Γ : Gm) : Oe → List (Option D) → Ms → Out (Option Int)
  | .no, _, s => .ok none s
  | .yes e, ρ, s => (ev Γ e ρ s).bind fun x s => match x with
    | .int i => .ok (some i) s
    | _ => .bad
/-- a comprehension's test -/
def evc (Γ : Gm) : Oe → List (Option D) → Ms → Out Bool
  | .no, _, s => .ok true s
  | .yes e, ρ, s => (ev Γ e ρ s).bind fun x s => Out.opt (tru x) s
end
end Mp
set_option Elab.async false
set_option linter.all false
set_option maxRecDepth 100000
set_option maxHeartbeats 2000000
/-! MpMatch: which text a term stands for. -/
namespace Mp
open PySem PySem.Spec PyProof.Rows L2

def Bi.name : Bi → Str
  | .len => "len"
  | .int => "int"
  | .abs => "abs"
  | .sum => "sum"
  | .any => "any"
  | .all => "all"
  | .sorted => "sorted"
  | .tuple => "tuple"
  | .list => "list"
  | .repr => "repr"
  | .min2 => "min"
  | .max2 => "max"
  | .lenset => "len"
/-- the built-in names that the terms lean on -/
def freeNames : List Str := ["len", "int", "abs", "sum", "any", "all", "sorted", "tuple", "list", "repr", "min", "max", "isinstance", "range", "zip", "bool", "str", "dict", "set"]
/-- no written form that the machine takes apart on its own -/
def plainX : Expr → Bool
  | .Starred _ _ => false
  | .Set _ _ _ => false
  | .Slice _ _ _ _ => false
  | _ => true
def visB (sc : Scope) (x : Str) : Bool := decide (sc.names.lookup x = some .local) || decide (sc.names.lookup x = some .cell) || decide (sc.names.lookup x = some .free)
def locB (sc : Scope) (x : Str) : Bool := decide (sc.names.lookup x = some .local) || decide (sc.names.lookup x = some .cell)
def glB (sc : Scope) (x : Str) : Bool := decide (sc.names.lookup x = some .globalImplicit) && !(x == ("__debug__" : Str)) && !(x == ("__name__" : Str))
/-- a name that is read -/
def rdB (N : List Str) (sc : Scope) (i : Nat) (x : Str) : Bool := decide (N[i]? = some x) && visB sc x && !(x == ("__debug__" : Str)) && !(x == ("__classdict__" : Str))
theorem rd_of {N : List Str} {sc : Scope} {i : Nat} {x : Str} (h : rdB N sc i x = true) : N[i]? = some x ∧ visB sc x = true ∧ (x == ("__debug__" : Str)) = false ∧ (x == ("__classdict__" : Str)) = false := by
  unfold rdB at h
  simp only [Bool.and_eq_true, decide_eq_true_eq, Bool.not_eq_true'] at h
  exact ⟨h.1.1.1, h.1.1.2, h.1.2, h.2⟩
/-- a target's names -/
def Tg.own (N : List Str) (t : Tg) : List (Str × Nat) := t.slots.map fun i => (N.getD i Str.empty, i)
def mtTg1 (N : List Str) (sc : Scope) (i : Nat) : Expr → Bool
  | .Name x _ => decide (N[i]? = some x) && locB sc x
  | _ => false
def mtTgs (N : List Str) (sc : Scope) : List Nat → List Expr → Bool
  | [], [] => true
  | i :: is, e :: es => mtTg1 N sc i e && mtTgs N sc is es
  | _, _ => false
def mtTg (N : List Str) (sc : Scope) (t : Tg) (e : Expr) : Bool := match t with
  | .v i => mtTg1 N sc i e
  | .t is => match e with
    | .Tuple es _ _ => mtTgs N sc is es && decide is.Nodup
    | _ => false
def baseB : Expr → Bool
  | .Call (.Name _ _) [] [] _ => false
  | _ => true
mutual
def mt (N : List Str) : Scope → E → Expr → Bool
  | _, .lit c, .Constant c' _ _ => decide (c = c')
  | sc, .var i, .Name x _ => decide (N[i]? = some x) && visB sc x && !(x == ("__debug__" : Str)) && !(x == ("__classdict__" : Str))
  | sc, .con x, .Name y _ => decide (x = y) && glB sc y
  | sc, .tup es, .Tuple xs _ _ => mts N sc es xs
  | sc, .lst es, .List xs _ => mts N sc es xs
  | sc, .bin op a b, .BinOp x op' y _ => decide (op = op') && mt N sc a x && mt N sc b y
  | sc, .neg a, .UnaryOp .USub x _ => mt N sc a x
  | sc, .inv a, .UnaryOp .Invert x _ => mt N sc a x
  | sc, .not a, .UnaryOp .Not x _ => mt N sc a x
  | sc, .cmp op a b, .Compare x [op'] [y] _ => decide (op = op') && mt N sc a x && mt N sc b y
  | sc, .chn o1 o2 a b c, .Compare x [o1', o2'] [y, z] _ => decide (o1 = o1') && decide (o2 = o2') && mt N sc a x && mt N sc b y && mt N sc c z
  | sc, .and es, .BoolOp .And xs _ => mts N sc es xs
  | sc, .or es, .BoolOp .Or xs _ => mts N sc es xs
  | sc, .ifx t a b, .IfExp x y z _ => mt N sc t x && mt N sc a y && mt N sc b z
  | sc, .ix a i, .Subscript x y _ => mt N sc a x && mt N sc i y
  | sc, .slc a lo hi, .Subscript x (.Slice l h none _) _ => mt N sc a x && mto N sc lo l && mto N sc hi h
  | sc, .lc tg it c e, .ListComp elt [⟨t, i, ifs, as⟩] scope _ =>
    decide (as = 0) && mti N sc it t i && mtTg N scope tg t && blkC N sc scope (tg.own N) && mtc N (relS scope sc) c ifs && mt N (relS scope sc) e elt
  | sc, .bi f es, .Call (.Name x _) (y :: ys) [] _ => decide (x = f.name) && glB sc x && mts N sc es (y :: ys)
  | sc, .call f es, .Call (.Name x _) ys [] _ => decide (x = f) && glB sc x && mts N sc es ys
  | sc, .mk c es, .Call (.Name x _) ys [] _ => decide (x = c) && glB sc x && mts N sc es ys
  | sc, .mkk c ks es, .Call (.Name x _) [] kws _ => decide (x = c) && glB sc x && decide (ks ≠ []) && mtk N sc ks es kws
  | sc, .dic k e, .Dict [some (.Constant (.str k') _ _)] [v] _ => decide (k = k') && mt N sc e v
  | sc, .pnf i k, .Subscript (.Name x _) (.Constant (.str k') _ _) _ => decide (k = k') && rdB N sc i x
  | sc, .fld a f, .Attribute x f' _ => decide (f = f') && mt N sc a x && baseB x
  | sc, .isi a c, .Call (.Name x _) [y, .Name z _] [] _ => decide (x = ("isinstance" : Str)) && glB sc x && mt N sc a y && glB sc z && (match c with
    | .ty n => decide (z ∈ freeNames) && decide (bootBuiltins z = some (.type n))
    | .own c => decide (z = c))
  | _, _, _ => false
def mts (N : List Str) : Scope → Es → List Expr → Bool
  | _, .nil, [] => true
  | sc, .cons e r, x :: xs => mt N sc e x && mts N sc r xs
  | _, _, _ => false
def mtk (N : List Str) : Scope → List Str → Es → List Keyword → Bool
  | _, [], .nil, [] => true
  | sc, k :: ks, .cons e r, ⟨some k', x, _⟩ :: xs => decide (k = k') && mt N sc e x && mtk N sc ks r xs
  | _, _, _, _ => false
/-- t: the target that it is walked for -/
def mti (N : List Str) : Scope → It → Expr → Expr → Bool
  | sc, .e a, _, x => mt N sc a x
  | sc, .rng1 a, _, .Call (.Name x _) [y] [] _ => decide (x = ("range" : Str)) && glB sc x && mt N sc a y
  | sc, .rng2 a b, _, .Call (.Name x _) [y, z] [] _ => decide (x = ("range" : Str)) && glB sc x && mt N sc a y && mt N sc b z
  | sc, .zip a b, .Tuple _ _ _, .Call (.Name x _) [y, z] [] _ => decide (x = ("zip" : Str)) && glB sc x && mt N sc a y && mt N sc b z
  | _, _, _, _ => false
def mto (N : List Str) : Scope → Oe → Option Expr → Bool
  | _, .no, none => true
  | sc, .yes e, some x => mt N sc e x
  | _, _, _ => false
def mtc (N : List Str) : Scope → Oe → List Expr → Bool
  | _, .no, [] => true
  | sc, .yes e, [x] => mt N sc e x
  | _, _, _ => false
end
theorem mt_plain {N : List Str} {sc : Scope} {m : E} {e : Expr} (h : mt N sc m e = true) : plainX e = true := by
  cases e <;> first | rfl | (cases m <;> simp [mt] at h)

section
variable {e : Expr} {es : List Expr} {env : Env}
theorem plain_star (h : plainX e = true) : starEach (e :: es) env = (false, eval e env) :: starEach es env := by
  cases e <;> first | rfl | cases h
theorem plain_ix (h : plainX e = true) : PlainIx e := fun o i => by
  cases e <;> first | rfl | cases h
theorem plain_behind (h : plainX e = true) (op : CmpOp) : behindInMarks op e = false := by
  cases e <;> first | rfl | cases h
theorem plain_set (h : plainX e = true) (x : Value) : foldedSetIterable e env x = pure x := by
  cases e <;> first | rfl | cases h
theorem mts_plain {N : List Str} {sc : Scope} : ∀ {m : Es} {es : List Expr}, mts N sc m es = true → ∀ x ∈ es, plainX x = true
  | .nil, [], _, x, hx => by cases hx
  | .nil, _ :: _, h, _, _ => by simp [mts] at h
  | .cons _ _, [], h, _, _ => by simp [mts] at h
  | .cons m r, e :: es, h, x, hx => by
    simp only [mts, Bool.and_eq_true] at h
    rcases List.mem_cons.mp hx with q | q
    · rw [q]; exact mt_plain h.1
    · exact mts_plain h.2 x q
theorem stars_plain : ∀ {es : List Expr}, (∀ x ∈ es, plainX x = true) → starEach es env = es.map fun e => (false, eval e env)
  | [], _ => rfl
  | e :: es, h => by rw [plain_star (h e List.mem_cons_self), stars_plain fun x hx => h x (List.mem_cons_of_mem _ hx)]; rfl
theorem stars_any {es : List Expr} {pos : Pos} (h : ∀ x ∈ es, plainX x = true) : (backTo pos (starEach es env)).any (·.1) = false := by
  rw [stars_plain h]
  unfold backTo
  rw [List.any_eq_false]
  intro p hp
  obtain ⟨q, hq, e⟩ := List.mem_map.mp hp
  obtain ⟨x, _, e2⟩ := List.mem_map.mp hq
  rw [← e, ← e2]
  exact Bool.false_ne_true
end
theorem base_of {o : Expr} {f : Str} {env : Env} {w : Sem Value} (h : baseB o = true) : attributeBase o f env w = w := by
  unfold attributeBase
  split
  · cases h
  · rfl
end Mp
set_option Elab.async false
set_option linter.all false
set_option maxRecDepth 100000
set_option maxHeartbeats 2000000
/-! MpSnd1: readings of the terms; operators. -/
namespace Mp
open PySem PySem.Spec PyProof.Rows L2
abbrev Sg := L2.St

theorem PE.imp {X : Cx} {e : Expr} {t t' : TE} (h : PE X e t) (i : ∀ σ H Q, t' σ H Q → t σ H Q) : PE X e t' := ⟨fun pins s σ H Q I q => h.run pins s σ H Q I (i σ H Q q)⟩
theorem PT.imp {X : Cx} {e : Expr} {t t' : TT} (h : PT X e t) (i : ∀ σ H Q, t' σ H Q → t σ H Q) : PT X e t' := ⟨fun pins s σ H Q I q => h.run pins s σ H Q I (i σ H Q q)⟩
theorem PA.imp {X : Cx} {e : List Expr} {t t' : TA} (h : PA X e t) (i : ∀ σ H Q, t' σ H Q → t σ H Q) : PA X e t' := ⟨fun pos pins s σ H Q I q => h.run pos pins s σ H Q I (i σ H Q q)⟩
theorem PI.imp {X : Cx} {tg e : Expr} {t t' : TI} (h : PI X tg e t) (i : ∀ σ H R, t' σ H R → t σ H R) : PI X tg e t' := ⟨fun pins s σ H R I q => h.run pins s σ H R I (i σ H R q)⟩

/-- an error as it lies -/
def RepX (C : Rc) (W : Wd) (x : Exc) (cls : Value) (dx : Option Addr) (H : Hp) : Prop :=
  ∃ cl d vs, cls = .ref cl ∧ C.mg x.cls = some (.ref cl) ∧ dx = some d ∧ H d = some (.xd vs) ∧ RepF C W x.fs vs
/-- what is to hold of an outcome: of a value R, of an error the wish -/
def OQ {α : Type} (C : Rc) (Wx : XK) (W : Wd) (H : Hp) (R : α → Ms → Wd → Hp → Prop) : Out α → Prop
  | .ok a s => ∀ W' H', Ext W H W' H' → Rel C W' s H' → R a s W' H'
  | .ex x s => ∀ cls dx W' H', Ext W H W' H' → Rel C W' s H' → RepX C W' x cls dx H' → Wx cls dx H'
  | .bad => False
section
variable {α β : Type} {C : Rc} {Wx : XK} {W W' : Wd} {H H' : Hp}
theorem OQ.mono {R : α → Ms → Wd → Hp → Prop} : ∀ {o : Out α}, OQ C Wx W H R o → Ext W H W' H' → OQ C Wx W' H' R o
  | .ok _ _, h, e => fun W2 H2 e2 r2 => h W2 H2 (e.trans e2) r2
  | .ex _ _, h, e => fun c d W2 H2 e2 r2 x => h c d W2 H2 (e.trans e2) r2 x
  | .bad, h, _ => h
theorem OQ.imp {R R' : α → Ms → Wd → Hp → Prop} : ∀ {o : Out α}, OQ C Wx W H R o → (∀ a s W' H', Ext W H W' H' → Rel C W' s H' → R a s W' H' → R' a s W' H') → OQ C Wx W H R' o
  | .ok _ _, h, i => fun W2 H2 e2 r2 => i _ _ _ _ e2 r2 (h W2 H2 e2 r2)
  | .ex _ _, h, _ => h
  | .bad, h, _ => h
theorem OQ.bind {R : β → Ms → Wd → Hp → Prop} {f : α → Ms → Out β} : ∀ {o : Out α}, OQ C Wx W H R (o.bind f) → OQ C Wx W H (fun a s W' H' => OQ C Wx W' H' R (f a s)) o
  | .ok _ _, h => fun _ _ e _ => OQ.mono h e
  | .ex _ _, h => h
  | .bad, h => h
theorem OQ.opt {R : α → Ms → Wd → Hp → Prop} {o : Option α} {s : Ms} (h : OQ C Wx W H R (Out.opt o s)) : ∃ a, o = some a ∧ ∀ W' H', Ext W H W' H' → Rel C W' s H' → R a s W' H' := by
  cases o with
  | none => exact False.elim h
  | some a => exact ⟨a, rfl, h⟩
theorem OQ.nox {R : α → Ms → Wd → Hp → Prop} : ∀ {o : Out α}, OQ C Wx W H R o.nox → ∀ Wx', OQ C Wx' W H R o
  | .ok _ _, h, _ => h
  | .ex _ _, h, _ => False.elim h
  | .bad, h, _ => False.elim h
end

theorem OQ.bind0 {α β : Type} {C : Rc} {Wx : XK} {W0 : Wd} {H0 : Hp} {R : β → Ms → Wd → Hp → Prop} {f : α → Ms → Out β} : ∀ {o : Out α}, OQ C Wx W0 H0 R (o.bind f) → OQ C Wx W0 H0 (fun a s _ _ => OQ C Wx W0 H0 R (f a s)) o
  | .ok _ _, h => fun _ _ _ _ => h
  | .ex _ _, h => h
  | .bad, h => h
/-- the slots hold what the names are worth -/
structure Slots (C : Rc) (W : Wd) (ρ : List (Option D)) (σ : Sg) : Prop where
  len : ρ.length = σ.length
  at_ : ∀ (i : Nat) (d : D), ρ[i]? = some (some d) → ∃ v, σ[i]? = some (some v) ∧ Rep C W d v
theorem Slots.le {C : Rc} {W W' : Wd} {ρ : List (Option D)} {σ : Sg} (s : Slots C W ρ σ) (h : Le W W') : Slots C W' ρ σ :=
  ⟨s.len, fun i d e => let ⟨v, h1, h2⟩ := s.at_ i d e; ⟨v, h1, Rep.le h d v h2⟩⟩
theorem Slots.set {C : Rc} {W : Wd} {ρ : List (Option D)} {σ : Sg} (s : Slots C W ρ σ) (i : Nat) {d : D} {v : V} (r : Rep C W d v) : Slots C W (ρ.set i (some d)) (σ.set i (some v)) := by
  refine ⟨by simp [s.len], fun j e q => ?_⟩
  by_cases hj : i = j
  · subst hj
    by_cases hi : i < ρ.length
    · rw [List.getElem?_set_self hi] at q
      cases q
      exact ⟨v, List.getElem?_set_self (by rw [← s.len]; exact hi), r⟩
    · rw [List.getElem?_eq_none (by simpa using hi)] at q
      cases q
  · rw [List.getElem?_set_ne hj] at q ⊢
    exact s.at_ j e q
/-- what is wished of a value -/
abbrev RD (C : Rc) (Q : VK) : D → Ms → Wd → Hp → Prop := fun d _ W H => ∀ v, Rep C W d v → Q v H
/-- a term's reading -/
def tEv (C : Rc) (Γ : Gm) (Wx : XK) (m : E) : TE := fun σ H Q => ∃ W st ρ, Slots C W ρ σ ∧ Rel C W st H ∧ OQ C Wx W H (RD C Q) (ev Γ m ρ st)
def tEvs (C : Rc) (Γ : Gm) (Wx : XK) (m : Es) : TA := fun σ H Q => ∃ W st ρ, Slots C W ρ σ ∧ Rel C W st H ∧ OQ C Wx W H (fun ds _ W' H' => ∀ vs, Reps C W' ds vs → Q vs H') (evs Γ m ρ st)
def tEvT (C : Rc) (Γ : Gm) (Wx : XK) (m : E) : TT := fun σ H Q => ∃ W st ρ, Slots C W ρ σ ∧ Rel C W st H ∧ OQ C Wx W H (fun k _ _ H' => Q k H') ((ev Γ m ρ st).bind fun x s => Out.opt (tru x) s)

/-! ### truth -/
theorem tru_rep {C : Rc} {W : Wd} {st : Ms} {H : Hp} (r : Rel C W st H) {d : D} {v : V} {k : Bool} (h : tru d = some k) (p : Rep C W d v) : TruV C.K v H k := by
  cases d with
  | non =>
    have e : v = .non := p
    subst e
    exact (Option.some.inj h).symm
  | bl b =>
    have e : v = .bl b := p
    subst e
    exact (Option.some.inj h).symm
  | int i =>
    have e : v = .int i := p
    subst e
    exact (Option.some.inj h).symm
  | str x =>
    have e : v = .str x := p
    subst e
    have h' : (if x.length ≤ sizeLine then some ((x.length : Int) != 0) else none) = some k := h
    split at h'
    · rename_i hz
      exact ⟨hz, (Option.some.inj h').symm⟩
    · cases h'
  | tup xs =>
    obtain ⟨a, vs, e, s, q⟩ := p
    subst e
    have ek : (!xs.isEmpty) = k := Option.some.inj h
    refine .inr (.inl ⟨vs, sqT_le r.sub s, ?_⟩)
    rw [← ek]
    cases xs with
    | nil => have z : vs = [] := q; subst z; rfl
    | cons x xs => obtain ⟨_, _, z, _⟩ := q; subst z; rfl
  | lst xs =>
    obtain ⟨a, vs, e, s, q⟩ := p
    subst e
    have ek : (!xs.isEmpty) = k := Option.some.inj h
    refine .inl ⟨vs, .of (r.sub _ _ s), ?_⟩
    rw [← ek]
    cases xs with
    | nil => have z : vs = [] := q; subst z; rfl
    | cons x xs => obtain ⟨_, _, z, _⟩ := q; subst z; rfl
  | dct _ => cases h
  | ins _ _ _ => cases h
  | pen => cases h
  | scr => cases h

/-! ### operators on values -/
section
variable {X : Cx} {C : Rc} {Wx : XK}
/-- a new value that never changes -/
theorem fin_put {W : Wd} {st : Ms} {H : Hp} {d : D} {Q : VK} (r : Rel C W st H) (q : ∀ W' H', Ext W H W' H' → Rel C W' st H' → RD C Q d st W' H') {p : Addr} {o : HO} (hp : H p = none) (rep : Rep C (W.put p o) d (.ref p)) : Q (.ref p) (upd H p o) :=
  q _ _ (ext_put r hp) (rel_put r hp) _ rep
theorem fin_same {W : Wd} {st : Ms} {H : Hp} {d : D} {v : V} {Q : VK} (r : Rel C W st H) (q : ∀ W' H', Ext W H W' H' → Rel C W' st H' → RD C Q d st W' H') (rep : Rep C W d v) : Q v H :=
  q W H (.refl W H) r v rep

def rBin (C : Rc) (Wx : XK) (op : Operator) : R2 := fun vx vy H Q => ∃ W st x y, Rel C W st H ∧ Rep C W x vx ∧ Rep C W y vy ∧ OQ C Wx W H (RD C Q) (Out.opt (binD op x y) st)
theorem reps_put {W : Wd} {st : Ms} {H : Hp} (r : Rel C W st H) {p : Addr} {o : HO} (hp : H p = none) {ds : List D} {vs : List V} (q : Reps C W ds vs) : Reps C (W.put p o) ds vs := Reps.le (le_put (G_free r hp)) ds vs q
theorem opr_bin {op : Operator} (hK : X.K = C.K) : OpR X (binaryOp op) (rBin C Wx op) := by
  intro pins s σ H x y v u Q I rx ry h
  obtain ⟨W, st, dx, dy, r, px, py, q⟩ := h
  obtain ⟨d, e, q⟩ := q.opt
  have fs : ∀ v, Rep C W d v → Q v H := fun v rep => fin_same r q rep
  unfold binD at e
  split at e
  · rename_i i j
    have ex : x = .int i := px
    have ey : y = .int j := py
    subst ex ey
    unfold binI at e
    split at e
    · cases e; exact op_add pins s σ H _ _ v u Q I rx ry ⟨i, j, rfl, rfl, fs _ rfl⟩
    · cases e; exact op_sub pins s σ H _ _ v u Q I rx ry ⟨i, j, rfl, rfl, fs _ rfl⟩
    · split at e
      · rename_i hc
        cases e; exact op_mul pins s σ H _ _ v u Q I rx ry ⟨i, j, rfl, rfl, hc, fs _ rfl⟩
      · cases e
    · split at e
      · rename_i hc
        cases e; exact op_fdiv pins s σ H _ _ v u Q I rx ry ⟨i, j, rfl, rfl, hc, fs _ rfl⟩
      · cases e
    · split at e
      · rename_i hc
        cases e; exact op_mod pins s σ H _ _ v u Q I rx ry ⟨i, j, rfl, rfl, hc, fs _ rfl⟩
      · cases e
    · split at e
      · rename_i hc
        cases e; exact op_pow pins s σ H _ _ v u Q I rx ry ⟨i, j, rfl, rfl, hc, fs _ rfl⟩
      · cases e
    · split at e
      · rename_i hc
        cases e; exact op_shl pins s σ H _ _ v u Q I rx ry ⟨i, j, rfl, rfl, hc, fs _ rfl⟩
      · cases e
    · split at e
      · rename_i hc
        cases e; exact op_shr pins s σ H _ _ v u Q I rx ry ⟨i, j, rfl, rfl, hc, fs _ rfl⟩
      · cases e
    · cases e; exact op_and pins s σ H _ _ v u Q I rx ry ⟨i, j, rfl, rfl, fs _ rfl⟩
    · cases e; exact op_or pins s σ H _ _ v u Q I rx ry ⟨i, j, rfl, rfl, fs _ rfl⟩
    · cases e; exact op_xor pins s σ H _ _ v u Q I rx ry ⟨i, j, rfl, rfl, fs _ rfl⟩
    · cases e
  · rename_i xs ys
    split at e
    · split at e
      · rename_i hc
        cases e
        obtain ⟨a, vs, ea, sa, qa⟩ := px
        obtain ⟨b, ws, eb, sb, qb⟩ := py
        subst ea eb
        have la := qa.length
        have lb := qb.length
        have h1 : SqT X.K H a vs := by rw [hK]; exact sqT_le r.sub sa
        have h2 : SqT X.K H b ws := by rw [hK]; exact sqT_le r.sub sb
        refine op_catA pins s σ H _ _ v u Q I rx ry ⟨a, b, vs, ws, rfl, rfl, h1, h2, by rw [← la, ← lb]; exact hc, fun z => ?_, fun _ z => ?_, fun _ _ p hp => ?_⟩
        · rw [z] at qa
          have exs := qa.nil
          subst exs
          exact fs _ ⟨b, ws, rfl, sb, qb⟩
        · rw [z] at qb
          have eys := qb.nil
          subst eys
          exact fs _ ⟨a, vs, rfl, sa, by rw [List.append_nil]; exact qa⟩
        · exact fin_put r q hp ⟨p, _, rfl, .inl (.inl Wd.put_at), reps_put r hp (qa.append qb)⟩
      · cases e
    · cases e
  · rename_i xs ys
    split at e
    · split at e
      · rename_i hc
        cases e
        obtain ⟨a, vs, ea, sa, qa⟩ := px
        obtain ⟨b, ws, eb, sb, qb⟩ := py
        subst ea eb
        have la := qa.length
        have lb := qb.length
        refine op_cat pins s σ H _ _ v u Q I rx ry ⟨a, b, vs, ws, rfl, rfl, r.sub _ _ sa, r.sub _ _ sb, by rw [← la, ← lb]; exact hc, fun p hp => ?_⟩
        exact fin_put r q hp ⟨p, _, rfl, Wd.put_at, reps_put r hp (qa.append qb)⟩
      · cases e
    · cases e
  · cases e
end
end Mp
set_option Elab.async false
set_option linter.all false
set_option maxRecDepth 100000
set_option maxHeartbeats 2000000
/-! MpSnd2: comparisons, items, slices, built-ins. -/
namespace Mp
open PySem PySem.Spec PyProof.Rows L2

/-! ### data as the library's -/
mutual
theorem dp_of {C : Rc} {W : Wd} {st : Ms} {H : Hp} (r : Rel C W st H) : ∀ (d : D) (v : V) (p : PyData), Rep C W d v → toPy d = some p → Dp C.K H v p
  | .non, v, p, h, e => by
    have e2 : v = .non := h
    have e3 : PyData.none = p := Option.some.inj e
    rw [e2, ← e3]; exact .non
  | .bl b, v, p, h, e => by
    have e2 : v = .bl b := h
    have e3 : PyData.bool b = p := Option.some.inj e
    rw [e2, ← e3]; exact .bl b
  | .int b, v, p, h, e => by
    have e2 : v = .int b := h
    have e3 : PyData.int b = p := Option.some.inj e
    rw [e2, ← e3]; exact .int b
  | .str b, v, p, h, e => by
    have e2 : v = .str b := h
    have e3 : PyData.str b = p := Option.some.inj e
    rw [e2, ← e3]; exact .str b
  | .tup ds, v, p, h, e => by
    obtain ⟨a, vs, e2, s, q⟩ := h
    have e3 : (match toPys ds with
      | some ps => some (PyData.tuple ps)
      | none => none) = some p := e
    cases z : toPys ds with
    | none => rw [z] at e3; cases e3
    | some ps =>
      rw [z] at e3
      have e4 : PyData.tuple ps = p := Option.some.inj e3
      rw [e2, ← e4]
      exact .tup (sqT_le r.sub s) (dps_of r ds vs ps q z)
  | .lst ds, v, p, h, e => by
    obtain ⟨a, vs, e2, s, q⟩ := h
    have e3 : (match toPys ds with
      | some ps => some (PyData.list ps)
      | none => none) = some p := e
    cases z : toPys ds with
    | none => rw [z] at e3; cases e3
    | some ps =>
      rw [z] at e3
      have e4 : PyData.list ps = p := Option.some.inj e3
      rw [e2, ← e4]
      exact .lst (.of (r.sub _ _ s)) (dps_of r ds vs ps q z)
  | .dct _, _, _, _, e => by cases e
  | .ins _ _ _, _, _, _, e => by cases e
  | .pen, _, _, _, e => by cases e
  | .scr, _, _, _, e => by cases e
theorem dps_of {C : Rc} {W : Wd} {st : Ms} {H : Hp} (r : Rel C W st H) : ∀ (ds : List D) (vs : List V) (ps : List PyData), Reps C W ds vs → toPys ds = some ps → DpAll C.K H vs ps
  | [], vs, ps, h, e => by
    have e2 : vs = [] := h
    have e3 : [] = ps := Option.some.inj e
    rw [e2, ← e3]; exact .nil
  | d :: ds, vs, ps, h, e => by
    obtain ⟨v, r2, e2, p, q⟩ := h
    have e3 : (match toPy d, toPys ds with
      | some p, some ps => some (p :: ps)
      | _, _ => none) = some ps := e
    cases z : toPy d with
    | none => rw [z] at e3; cases e3
    | some p1 =>
      cases z2 : toPys ds with
      | none => rw [z, z2] at e3; cases e3
      | some ps1 =>
        rw [z, z2] at e3
        have e4 : p1 :: ps1 = ps := Option.some.inj e3
        rw [e2, ← e4]
        exact .cons (dp_of r d v p1 p z) (dps_of r ds r2 ps1 q z2)
end
theorem eqD_spec {d e : D} {k : Bool} (h : eqD d e = some k) : ∃ a b, toPy d = some a ∧ toPy e = some b ∧ SeqAt.shaped a = true ∧ SeqAt.shaped b = true ∧ PyData.eqv a b = k := by
  unfold eqD at h
  split at h
  · rename_i a b h1 h2
    split at h
    · rename_i hc
      exact ⟨a, b, h1, h2, hc.1, hc.2, Option.some.inj h⟩
    · cases h
  · cases h

theorem inD_spec {C : Rc} {W : Wd} {st : Ms} {H : Hp} (r : Rel C W st H) {x y : D} {vx vy : V} {k : Bool} (px : Rep C W x vx) (py : Rep C W y vy) (h : inD x y = some k) :
    ∃ p, Dp C.K H vx p ∧ SeqAt.shaped p = true ∧ ((∃ ps, Dp C.K H vy (.list ps) ∧ SeqAt.shaped (.list ps) = true ∧ (ps.any fun z => PyData.eqv z p) = k) ∨ ∃ ps, Dp C.K H vy (.tuple ps) ∧ SeqAt.shaped (.tuple ps) = true ∧ (ps.any fun z => PyData.eqv z p) = k) := by
  unfold inD at h
  split at h
  · rename_i ys
    split at h
    · rename_i p ps h1 h2
      split at h
      · rename_i hc
        obtain ⟨a, vs, ea, sa, qa⟩ := py
        subst ea
        exact ⟨p, dp_of r _ _ _ px h1, hc.1, .inl ⟨ps, .lst (.of (r.sub _ _ sa)) (dps_of r _ _ _ qa h2), hc.2, Option.some.inj h⟩⟩
      · cases h
    · cases h
  · rename_i ys
    split at h
    · rename_i p ps h1 h2
      split at h
      · rename_i hc
        obtain ⟨a, vs, ea, sa, qa⟩ := py
        subst ea
        exact ⟨p, dp_of r _ _ _ px h1, hc.1, .inr ⟨ps, .tup (sqT_le r.sub sa) (dps_of r _ _ _ qa h2), hc.2, Option.some.inj h⟩⟩
      · cases h
    · cases h
  · cases h
theorem Rep.isNon {C : Rc} {W : Wd} {d : D} (h : Rep C W d .non) (hs : d ≠ .scr) : d = .non := by
  cases d with
  | non => rfl
  | bl _ => cases h
  | int _ => cases h
  | str _ => cases h
  | tup _ => obtain ⟨_, _, z, _⟩ := h; cases z
  | lst _ => obtain ⟨_, _, z, _⟩ := h; cases z
  | dct _ => obtain ⟨_, _, z, _⟩ := h; cases z
  | ins _ _ _ => obtain ⟨_, _, _, _, z, _⟩ := h; cases z
  | pen => obtain ⟨_, _, z, _⟩ := h; cases z
  | scr => exact absurd rfl hs
section
variable {X : Cx} {C : Rc} {Wx : XK}
def rCmp (C : Rc) (op : CmpOp) : R2 := fun vx vy H Q => ∃ W st x y k, Rel C W st H ∧ Rep C W x vx ∧ Rep C W y vy ∧ cmpD op x y = some k ∧ Q (.bl k) H
theorem opr_cmp {op : CmpOp} (hK : X.K = C.K) (hu : X.A.units + 100 < cLine) : OpR X (compareOp op) (rCmp C op) := by
  intro pins s σ H x y v u Q I rx ry h
  obtain ⟨W, st, dx, dy, k, r, px, py, e, q⟩ := h
  unfold cmpD at e
  split at e
  · obtain ⟨a, b, h1, h2, h3, h4, h5⟩ := eqD_spec e
    have := op_eqD (X := X) (by omega) pins s σ H x y v u Q I rx ry ⟨a, b, by rw [hK]; exact dp_of r _ _ _ px h1, by rw [hK]; exact dp_of r _ _ _ py h2, h3, h4, by rw [h5]; exact q⟩
    exact this
  · cases z : eqD dx dy with
    | none => rw [z] at e; cases e
    | some k' =>
      rw [z] at e
      have ek : (!k') = k := Option.some.inj e
      obtain ⟨a, b, h1, h2, h3, h4, h5⟩ := eqD_spec z
      exact op_neD (X := X) (by omega) pins s σ H x y v u Q I rx ry ⟨a, b, by rw [hK]; exact dp_of r _ _ _ px h1, by rw [hK]; exact dp_of r _ _ _ py h2, h3, h4, by rw [h5, ek]; exact q⟩
  · split at e
    · rename_i i j
      have ex : x = .int i := px
      have ey : y = .int j := py
      subst ex ey
      cases e
      exact op_lt pins s σ H _ _ v u Q I rx ry ⟨i, j, rfl, rfl, q⟩
    · cases e
  · split at e
    · rename_i i j
      have ex : x = .int i := px
      have ey : y = .int j := py
      subst ex ey
      cases e
      exact op_le pins s σ H _ _ v u Q I rx ry ⟨i, j, rfl, rfl, q⟩
    · cases e
  · split at e
    · rename_i i j
      have ex : x = .int i := px
      have ey : y = .int j := py
      subst ex ey
      cases e
      exact op_gt pins s σ H _ _ v u Q I rx ry ⟨i, j, rfl, rfl, q⟩
    · cases e
  · split at e
    · rename_i i j
      have ex : x = .int i := px
      have ey : y = .int j := py
      subst ex ey
      cases e
      exact op_ge pins s σ H _ _ v u Q I rx ry ⟨i, j, rfl, rfl, q⟩
    · cases e
  · split at e
    · have ex : x = .non := px
      have ey : y = .non := py
      subst ex ey
      cases e
      exact op_isN pins s σ H _ _ v u Q I rx ry ⟨rfl, q⟩
    · cases e
    · rename_i hne hns
      have ey : y = .non := py
      subst ey
      cases e
      have nx : decide (x = V.non) = false := by
        apply decide_eq_false
        intro z
        subst z
        have z2 := px.isNon hns
        exact hne z2
      exact op_isN pins s σ H _ _ v u Q I rx ry ⟨rfl, by rw [nx]; exact q⟩
    · rename_i a b
      have ex : x = .bl a := px
      have ey : y = .bl b := py
      subst ex ey
      cases e
      obtain rfl : v = Value.bool a := rx
      obtain rfl : u = Value.bool b := ry
      exact wpAny_of_eq (show compareOp .Is (.bool a) (.bool b) = pure (.bool (decide (a = b))) from by cases a <;> cases b <;> rfl) ⟨.bl _, H, I, rfl, q⟩
    · cases e
  · split at e
    · have ex : x = .non := px
      have ey : y = .non := py
      subst ex ey
      cases e
      exact op_notN pins s σ H _ _ v u Q I rx ry ⟨rfl, q⟩
    · cases e
    · rename_i hne hns
      have ey : y = .non := py
      subst ey
      cases e
      have nx : decide (x = V.non) = false := by
        apply decide_eq_false
        intro z
        subst z
        have z2 := px.isNon hns
        exact hne z2
      exact op_notN pins s σ H _ _ v u Q I rx ry ⟨rfl, by rw [nx]; exact q⟩
    · rename_i a b
      have ex : x = .bl a := px
      have ey : y = .bl b := py
      subst ex ey
      cases e
      obtain rfl : v = Value.bool a := rx
      obtain rfl : u = Value.bool b := ry
      exact wpAny_of_eq (show compareOp .IsNot (.bool a) (.bool b) = pure (.bool (!decide (a = b))) from by cases a <;> cases b <;> rfl) ⟨.bl _, H, I, rfl, q⟩
    · cases e
  · obtain ⟨q1, q2, q3, q4⟩ := inD_spec r px py e
    rcases q4 with ⟨ps, ey, se, ek⟩ | ⟨ps, ey, se, ek⟩
    · rw [← hK] at q2 ey
      obtain ⟨as, r1⟩ := Dp.reads I q1 x v q2 rx
      obtain ⟨bs, r2⟩ := Dp.reads I (.list ps) y u ey ry
      exact SeqAt.in_list_reads r2 r1 (SeqAt.canLay_of_shaped se) (SeqAt.canLay_of_shaped q3) (room_in_shaped q3 (by omega)) ⟨.bl _, H, I, rfl, by rw [ek]; exact q⟩
    · rw [← hK] at q2 ey
      obtain ⟨as, r1⟩ := Dp.reads I q1 x v q2 rx
      obtain ⟨bs, r2⟩ := Dp.reads I (.tuple ps) y u ey ry
      exact SeqAt.in_tuple_reads r2 r1 (SeqAt.canLay_of_shaped se) (SeqAt.canLay_of_shaped q3) (room_in_shaped q3 (by omega)) ⟨.bl _, H, I, rfl, by rw [ek]; exact q⟩
  · cases z : inD dx dy with
    | none => rw [z] at e; cases e
    | some k' =>
      rw [z] at e
      have ek : (!k') = k := Option.some.inj e
      obtain ⟨q1, q2, q3, q4⟩ := inD_spec r px py z
      rcases q4 with ⟨ps, ey, se, ek'⟩ | ⟨ps, ey, se, ek'⟩
      · rw [← hK] at q2 ey
        obtain ⟨as, r1⟩ := Dp.reads I q1 x v q2 rx
        obtain ⟨bs, r2⟩ := Dp.reads I (.list ps) y u ey ry
        exact SeqAt.notIn_list_reads r2 r1 (SeqAt.canLay_of_shaped se) (SeqAt.canLay_of_shaped q3) (room_in_shaped q3 (by omega)) ⟨.bl _, H, I, rfl, by rw [ek', ek]; exact q⟩
      · rw [← hK] at q2 ey
        obtain ⟨as, r1⟩ := Dp.reads I q1 x v q2 rx
        obtain ⟨bs, r2⟩ := Dp.reads I (.tuple ps) y u ey ry
        exact SeqAt.notIn_tuple_reads r2 r1 (SeqAt.canLay_of_shaped se) (SeqAt.canLay_of_shaped q3) (room_in_shaped q3 (by omega)) ⟨.bl _, H, I, rfl, by rw [ek', ek]; exact q⟩

/-! ### items, slices -/
theorem Reps.atI {W : Wd} {ds : List D} {vs : List V} {i : Int} {d : D} (q : Reps C W ds vs) (h : atI ds i = some d) : ∃ v, L2.atI vs i = some v ∧ Rep C W d v := by
  unfold L2.atI at h ⊢
  rw [← q.length]
  cases e : ixN ds.length i with
  | none => rw [e] at h; cases h
  | some j =>
    rw [e] at h
    exact q.get h
def rIxD (C : Rc) : R2 := fun vx vy H Q => ∃ W st x y d, Rel C W st H ∧ Rep C W x vx ∧ Rep C W y vy ∧ ixD x y = some d ∧ ∀ v, Rep C W d v → Q v H
theorem ixr_ix (hK : X.K = C.K) : IxR X (rIxD C) := by
  intro value slice pins s σ H x y v u Q I rx ry h hs
  obtain ⟨W, st, dx, dy, d, r, px, py, e, q⟩ := h
  unfold ixD at e
  split at e
  · rename_i xs k he
    have ey : y = .int k := py
    subst ey
    cases dx with
    | tup ds =>
      cases he
      obtain ⟨a, vs, ea, sa, qa⟩ := px
      subst ea
      obtain ⟨w, h1, h2⟩ := qa.atI e
      exact ix_tup value slice pins s σ H _ _ v u Q I rx ry ⟨a, vs, k, w, rfl, rfl, by rw [hK]; exact sqT_le r.sub sa, h1, q w h2⟩ hs
    | lst ds =>
      cases he
      obtain ⟨a, vs, ea, sa, qa⟩ := px
      subst ea
      obtain ⟨w, h1, h2⟩ := qa.atI e
      exact ix_list value slice pins s σ H _ _ v u Q I rx ry ⟨a, vs, k, w, rfl, rfl, .of (r.sub _ _ sa), h1, q w h2⟩ hs
    | _ => cases he
  · cases e
theorem Reps.cut {W : Wd} {ds : List D} {vs : List V} {lo hi : Option Int} (q : Reps C W ds vs) : Reps C W (cutD ds lo hi) (cutV vs lo hi) := by
  unfold cutD cutV
  rw [q.length]
  exact (q.drop _).take _
def rSlD (C : Rc) (Wx : XK) : V → Option Int → Option Int → Hp → VK → Prop := fun vx lo hi H Q => ∃ W st x, Rel C W st H ∧ Rep C W x vx ∧ OQ C Wx W H (RD C Q) (Out.opt (slcD x lo hi) st)
theorem slr_sl (hK : X.K = C.K) : SlR X (rSlD C Wx) := by
  intro pins s σ H x v vl vu lo hi sl Q I rx hs pl pu h
  obtain ⟨W, st, dx, r, px, q⟩ := h
  obtain ⟨d, e, q⟩ := q.opt
  unfold slcD at e
  split at e
  · rename_i xs
    cases e
    obtain ⟨a, vs, ea, sa, qa⟩ := px
    subst ea
    exact sl_list pins s σ H _ v vl vu lo hi sl Q I rx hs pl pu ⟨a, vs, rfl, .of (r.sub _ _ sa), fun p hp => fin_put r q hp ⟨p, _, rfl, Wd.put_at, reps_put r hp qa.cut⟩⟩
  · rename_i xs
    cases e
    obtain ⟨a, vs, ea, sa, qa⟩ := px
    subst ea
    refine sl_tupA pins s σ H _ v vl vu lo hi sl Q I rx hs pl pu ⟨a, vs, rfl, by rw [hK]; exact sqT_le r.sub sa, fun hw => ?_, fun _ p hp => fin_put r q hp ⟨p, _, rfl, .inl (.inl Wd.put_at), reps_put r hp qa.cut⟩⟩
    refine fin_same r q ⟨a, vs, rfl, sa, ?_⟩
    have e : cutD xs lo hi = xs := by
      unfold cutD
      have hl := qa.length
      rw [hl, hw.1, hw.2, List.drop_zero, Nat.sub_zero, ← hl, List.take_length]
    rw [e]
    exact qa
  · cases e

/-! ### built-ins -/
def Bi.isTy : Bi → Bool
  | .int => true
  | .tuple => true
  | .list => true
  | _ => false
def Bi.str : Bi → String
  | .len => "len"
  | .int => "int"
  | .abs => "abs"
  | .sum => "sum"
  | .any => "any"
  | .all => "all"
  | .sorted => "sorted"
  | .tuple => "tuple"
  | .list => "list"
  | .repr => "repr"
  | .min2 => "min"
  | .max2 => "max"
  | .lenset => "len"
def Bi.val (f : Bi) : Value := if f.isTy = true then .type f.str else .builtin f.str
theorem Bi.boot (f : Bi) : bootBuiltins f.name = some f.val := by cases f <;> decide +kernel
theorem intsD_eq : ∀ {xs : List D} {ns : List Int}, intsD xs = some ns → xs = ns.map D.int
  | [], _, h => by cases h; rfl
  | d :: r, ns, h => by
    cases d with
    | int i =>
      have h2 : (intsD r).map (i :: ·) = some ns := h
      cases e : intsD r with
      | none => rw [e] at h2; cases h2
      | some ms =>
        rw [e] at h2
        have h3 : i :: ms = ns := Option.some.inj h2
        rw [← h3, intsD_eq e]; rfl
    | _ => cases h
theorem blsD_eq : ∀ {xs : List D} {ns : List Bool}, blsD xs = some ns → xs = ns.map D.bl
  | [], _, h => by cases h; rfl
  | d :: r, ns, h => by
    cases d with
    | bl i =>
      have h2 : (blsD r).map (i :: ·) = some ns := h
      cases e : blsD r with
      | none => rw [e] at h2; cases h2
      | some ms =>
        rw [e] at h2
        have h3 : i :: ms = ns := Option.some.inj h2
        rw [← h3, blsD_eq e]; rfl
    | _ => cases h
def rBi (C : Rc) (Wx : XK) (f : Bi) : List V → Hp → VK → Prop := fun vs H Q => ∃ W st ds, Rel C W st H ∧ Reps C W ds vs ∧ OQ C Wx W H (RD C Q) (Out.opt (biD f ds) st)
theorem Reps.one {W : Wd} {d : D} {vs : List V} (h : Reps C W [d] vs) : ∃ v, vs = [v] ∧ Rep C W d v := by
  obtain ⟨v, r, e, p, q⟩ := h
  have e2 : r = [] := q
  exact ⟨v, by rw [e, e2], p⟩
theorem Reps.two {W : Wd} {d d' : D} {vs : List V} (h : Reps C W [d, d'] vs) : ∃ v v', vs = [v, v'] ∧ Rep C W d v ∧ Rep C W d' v' := by
  obtain ⟨v, r, e, p, q⟩ := h
  obtain ⟨v', e2, p'⟩ := Reps.one q
  exact ⟨v, v', by rw [e, e2], p, p'⟩
mutual
theorem Rep.reads {X : Cx} {pins : List (Addr × Obj)} {σ : Sg} {H : Hp} {s : Shared} {W : Wd} {st : Ms} (hK : X.K = C.K) (I : Inv X pins σ H s) (r : Rel C W st H) : ∀ (d : D) (v : V) (u : Value) (p : PyData), Rep C W d v → RelV v u → toPyR d = some p → ∃ as, Reads s.heap u p as ∧ ∀ a ∈ as, H a ≠ none
  | .non, v, u, p, h, q, e => by
    have e2 : v = .non := h
    subst e2
    cases q; cases e
    exact ⟨_, .none, fun _ z => nomatch z⟩
  | .bl b, v, u, p, h, q, e => by
    have e2 : v = .bl b := h
    subst e2
    cases q; cases e
    exact ⟨_, .bool b, fun _ z => nomatch z⟩
  | .int b, v, u, p, h, q, e => by
    have e2 : v = .int b := h
    subst e2
    obtain ⟨t, rfl⟩ := q
    cases e
    exact ⟨_, .int b t, fun _ z => nomatch z⟩
  | .str b, v, u, p, h, q, e => by
    have e2 : v = .str b := h
    subst e2
    obtain ⟨t, rfl⟩ := q
    cases e
    exact ⟨_, .str b t, fun _ z => nomatch z⟩
  | .tup ds, v, u, p, h, q, e => by
    obtain ⟨a, vs, e2, sa, qa⟩ := h
    subst e2
    cases q
    have e3 : (match toPyRs ds with
      | some ps => some (PyData.tuple ps)
      | none => none) = some p := e
    cases z : toPyRs ds with
    | none => rw [z] at e3; cases e3
    | some ps =>
      rw [z] at e3
      cases e3
      obtain ⟨its, rv, ⟨o, ho, hc, n, hd⟩, _⟩ := I.tuple (show SqT X.K H a vs by rw [hK]; exact sqT_le r.sub sa)
      obtain ⟨as, h1, h2⟩ := Reps.reads hK I r ds vs its ps qa rv z
      exact ⟨as, .tuple ho hc hd h1, h2⟩
  | .lst ds, v, u, p, h, q, e => by
    obtain ⟨a, vs, e2, sa, qa⟩ := h
    subst e2
    cases q
    have e3 : (match toPyRs ds with
      | some ps => some (PyData.list ps)
      | none => none) = some p := e
    cases z : toPyRs ds with
    | none => rw [z] at e3; cases e3
    | some ps =>
      rw [z] at e3
      cases e3
      have ha := r.sub _ _ sa
      obtain ⟨its, rv, ⟨o, n, ho, hc, _, hd⟩, _⟩ := I.list (show SqL X.K H a vs from .of ha)
      obtain ⟨as, h1, h2⟩ := Reps.reads hK I r ds vs its ps qa rv z
      refine ⟨a :: as, .list ho hc hd h1, fun b hb => ?_⟩
      rcases List.mem_cons.mp hb with z | z
      · rw [z, ha]; exact fun z => nomatch z
      · exact h2 b z
  | .dct ds, v, u, p, h, q, e => by
    obtain ⟨a, vs, e2, sa, qa⟩ := h
    subst e2
    cases q
    have e3 : (match toPyRk ds with
      | some ps => some (PyData.dict ps)
      | none => none) = some p := e
    cases z : toPyRk ds with
    | none => rw [z] at e3; cases e3
    | some ps =>
      rw [z] at e3
      cases e3
      have ha := r.sub _ _ sa
      obtain ⟨_, _, its, rv, o, es, ep, ho, hc, hd, _, hp, _⟩ := (show ObjOk X.prog X.w H s.heap a (.dK vs) from I.hok a _ ha)
      obtain ⟨as, bs, h1, h2, h3⟩ := RepK.reads hK I r ds vs its es.toList ps qa rv hp z
      refine ⟨a :: as ++ bs, .dict ho hc.1 hd h1 h2, fun b hb => ?_⟩
      rcases List.mem_append.mp hb with z | z
      · rcases List.mem_cons.mp z with z | z
        · rw [z, ha]; exact fun z => nomatch z
        · exact h3 b (List.mem_append_left _ z)
      · exact h3 b (List.mem_append_right _ z)
  | .ins _ _ _, _, _, _, _, _, e => by cases e
  | .pen, _, _, _, _, _, e => by cases e
  | .scr, _, _, _, _, _, e => by cases e
theorem Reps.reads {X : Cx} {pins : List (Addr × Obj)} {σ : Sg} {H : Hp} {s : Shared} {W : Wd} {st : Ms} (hK : X.K = C.K) (I : Inv X pins σ H s) (r : Rel C W st H) : ∀ (ds : List D) (vs : List V) (us : List Value) (ps : List PyData), Reps C W ds vs → Vals vs us → toPyRs ds = some ps → ∃ as, ReadsAll s.heap us ps as ∧ ∀ a ∈ as, H a ≠ none
  | [], vs, us, ps, h, q, e => by
    have e2 : vs = [] := h
    subst e2
    cases q; cases e
    exact ⟨_, .nil, fun _ z => nomatch z⟩
  | d :: ds, vs, us, ps, h, q, e => by
    obtain ⟨v, rr, e2, h1, h2⟩ := h
    subst e2
    cases q with
    | cons q1 q2 =>
      have e3 : (match toPyR d, toPyRs ds with
        | some p, some ps => some (p :: ps)
        | _, _ => none) = some ps := e
      cases z : toPyR d with
      | none => rw [z] at e3; cases e3
      | some p1 =>
        cases z2 : toPyRs ds with
        | none => rw [z, z2] at e3; cases e3
        | some ps1 =>
          rw [z, z2] at e3
          cases e3
          obtain ⟨as, a1, a2⟩ := Rep.reads hK I r d v _ p1 h1 q1 z
          obtain ⟨bs, b1, b2⟩ := Reps.reads hK I r ds rr _ ps1 h2 q2 z2
          exact ⟨as ++ bs, .cons a1 b1, fun x hx => (List.mem_append.mp hx).elim (a2 x) (b2 x)⟩
theorem RepK.reads {X : Cx} {pins : List (Addr × Obj)} {σ : Sg} {H : Hp} {s : Shared} {W : Wd} {st : Ms} (hK : X.K = C.K) (I : Inv X pins σ H s) (r : Rel C W st H) : ∀ (ds : List (Key × D)) (vs : List (Key × V)) (us : List (Key × Value)) (es : List DictEntry) (ps : List (PyData × PyData)), RepK C W ds vs → KV vs us → Pairs (mixKind X.prog X.w) es us → toPyRk ds = some ps →
    ∃ as bs, ReadsAll s.heap (es.map (·.key)) (ps.map (·.1)) as ∧ ReadsAll s.heap (es.map (·.val)) (ps.map (·.2)) bs ∧ ∀ a ∈ as ++ bs, H a ≠ none
  | [], vs, us, es, ps, h, q, hp, e => by
    have e2 : vs = [] := h
    subst e2
    cases q; cases hp; cases e
    exact ⟨_, _, .nil, .nil, fun _ z => nomatch z⟩
  | (k, d) :: ds, vs, us, es, ps, h, q, hp, e => by
    obtain ⟨v, rr, e2, h1, h2⟩ := h
    subst e2
    cases q with
    | cons q1 q2 =>
      cases hp with
      | @cons e1 _ _ _ k1 k2 k3 =>
        obtain ⟨q11, q12⟩ := q1
        have e3 : (match toPyR d, toPyRk ds with
          | some p, some ps => some ((keyPy k, p) :: ps)
          | _, _ => none) = some ps := e
        cases z : toPyR d with
        | none => rw [z] at e3; cases e3
        | some p1 =>
          cases z2 : toPyRk ds with
          | none => rw [z, z2] at e3; cases e3
          | some ps1 =>
            rw [z, z2] at e3
            cases e3
            rw [← k2] at q12
            obtain ⟨as, a1, a2⟩ := Rep.reads hK I r d v _ p1 h1 q12 z
            obtain ⟨bs, cs, b1, b2, b3⟩ := RepK.reads hK I r ds rr _ _ ps1 h2 q2 k3 z2
            have kk : ∃ ks, Reads s.heap e1.key (keyPy k) ks ∧ ks = [] := by
              have k1' := k1
              rw [← q11] at k1'
              rcases keyIs_shape (show keyIs k _ = true from k1') with ⟨i, t, ek, ev⟩ | ⟨x, t, ek, ev⟩
              · subst ek
                exact ⟨_, ev ▸ .int i t, rfl⟩
              · subst ek
                exact ⟨_, ev ▸ .str x t, rfl⟩
            obtain ⟨ks, kr, ke⟩ := kk
            refine ⟨ks ++ bs, as ++ cs, .cons kr b1, .cons a1 b2, fun x hx => ?_⟩
            subst ke
            rcases List.mem_append.mp hx with hx | hx
            · exact b3 x (List.mem_append_left _ hx)
            · rcases List.mem_append.mp hx with hx | hx
              · exact a2 x hx
              · exact b3 x (List.mem_append_right _ hx)
end
theorem callr_bi (f : Bi) (hK : X.K = C.K) (hc : X.calm = true) (hg : X.A.guards = some []) (hu : X.A.units + 100 < cLine) (hsys : ∃ o, X.base.get? sysModules = some o) : CallR X f.val (rBi C Wx f) := by
  intro pins s σ H vs us Q I rs h
  obtain ⟨W, st, ds, r, ps, q⟩ := h
  obtain ⟨d, e, q⟩ := q.opt
  have fs : ∀ v, Rep C W d v → Q v H := fun v rep => fin_same r q rep
  unfold biD at e
  split at e
  · rename_i xs
    cases e
    obtain ⟨v, ev, a, ws, ea, sa, qa⟩ := Reps.one ps
    subst ev ea
    exact call_len_seq pins s σ H _ us Q I rs ⟨a, ws, rfl, .inr (by rw [hK]; exact sqT_le r.sub sa), by rw [← qa.length]; exact fs _ rfl⟩
  · rename_i xs
    cases e
    obtain ⟨v, ev, a, ws, ea, sa, qa⟩ := Reps.one ps
    subst ev ea
    exact call_len_seq pins s σ H _ us Q I rs ⟨a, ws, rfl, .inl (.of (r.sub _ _ sa)), by rw [← qa.length]; exact fs _ rfl⟩
  · rename_i x
    split at e
    · rename_i hz
      cases e
      obtain ⟨v, ev, ea⟩ := Reps.one ps
      have ea : v = .str x := ea
      subst ev ea
      exact call_len_str pins s σ H _ us Q I rs ⟨x, rfl, hz, fs _ rfl⟩
    · cases e
  · rename_i i
    cases e
    obtain ⟨v, ev, ea⟩ := Reps.one ps
    have ea : v = .int i := ea
    subst ev ea
    exact call_int1 pins s σ H _ us Q I rs (.inl ⟨i, rfl, fs _ rfl⟩)
  · rename_i i
    cases e
    obtain ⟨v, ev, ea⟩ := Reps.one ps
    have ea : v = .bl i := ea
    subst ev ea
    exact call_int1 pins s σ H _ us Q I rs (.inr ⟨i, rfl, fs _ rfl⟩)
  · rename_i i
    cases e
    obtain ⟨v, ev, ea⟩ := Reps.one ps
    have ea : v = .int i := ea
    subst ev ea
    exact call_abs pins s σ H _ us Q I rs ⟨i, rfl, fs _ rfl⟩
  · rename_i xs
    split at e
    · rename_i ns en
      cases e
      have ex := intsD_eq en
      subst ex
      obtain ⟨v, ev, a, ws, ea, sa, qa⟩ := Reps.one ps
      have eq := qa.ints
      subst ev ea eq
      exact cr_sum hc pins s σ H _ us Q I rs ⟨a, ns, rfl, .of (r.sub _ _ sa), fs _ rfl⟩
    · cases e
  · rename_i xs
    split at e
    · rename_i ns en
      cases e
      have ex := blsD_eq en
      subst ex
      obtain ⟨v, ev, a, ws, ea, sa, qa⟩ := Reps.one ps
      have eq := qa.bls
      subst ev ea eq
      exact cr_any hc pins s σ H _ us Q I rs ⟨a, ns, rfl, .of (r.sub _ _ sa), fs _ rfl⟩
    · cases e
  · rename_i xs
    split at e
    · rename_i ns en
      cases e
      have ex := blsD_eq en
      subst ex
      obtain ⟨v, ev, a, ws, ea, sa, qa⟩ := Reps.one ps
      have eq := qa.bls
      subst ev ea eq
      exact cr_all hc pins s σ H _ us Q I rs ⟨a, ns, rfl, .of (r.sub _ _ sa), fs _ rfl⟩
    · cases e
  · rename_i xs
    cases e
    obtain ⟨v, ev, a, ws, ea, sa, qa⟩ := Reps.one ps
    subst ev ea
    exact call_tuple_of pins s σ H _ us Q I rs ⟨a, ws, rfl, .inr ⟨by rw [hK]; exact sqT_le r.sub sa, fs _ ⟨a, ws, rfl, sa, qa⟩⟩⟩
  · rename_i xs
    cases e
    obtain ⟨v, ev, a, ws, ea, sa, qa⟩ := Reps.one ps
    subst ev ea
    exact call_tuple_of pins s σ H _ us Q I rs ⟨a, ws, rfl, .inl ⟨.of (r.sub _ _ sa), fun p hp => fin_put r q hp ⟨p, _, rfl, .inl (.inl Wd.put_at), reps_put r hp qa⟩⟩⟩
  · rename_i xs
    cases e
    obtain ⟨v, ev, a, ws, ea, sa, qa⟩ := Reps.one ps
    subst ev ea
    exact call_list_of pins s σ H _ us Q I rs ⟨a, ws, rfl, .inr (by rw [hK]; exact sqT_le r.sub sa), fun p hp => fin_put r q hp ⟨p, _, rfl, Wd.put_at, reps_put r hp qa⟩⟩
  · rename_i xs
    cases e
    obtain ⟨v, ev, a, ws, ea, sa, qa⟩ := Reps.one ps
    subst ev ea
    exact call_list_of pins s σ H _ us Q I rs ⟨a, ws, rfl, .inl (.of (r.sub _ _ sa)), fun p hp => fin_put r q hp ⟨p, _, rfl, Wd.put_at, reps_put r hp qa⟩⟩
  · rename_i i j
    cases e
    obtain ⟨v, v', ev, ea, eb⟩ := Reps.two ps
    have ea : v = .int i := ea
    have eb : v' = .int j := eb
    subst ev ea eb
    exact call_min2 hc pins s σ H _ us Q I rs ⟨i, j, rfl, fs _ rfl⟩
  · rename_i i j
    cases e
    obtain ⟨v, v', ev, ea, eb⟩ := Reps.two ps
    have ea : v = .int i := ea
    have eb : v' = .int j := eb
    subst ev ea eb
    exact call_max2 hc pins s σ H _ us Q I rs ⟨i, j, rfl, fs _ rfl⟩
  · rename_i x
    split at e
    · rename_i p ep
      split at e
      · rename_i hz
        cases e
        obtain ⟨v, ev, ea⟩ := Reps.one ps
        subst ev
        obtain ⟨u, eu, ru⟩ := vals1 rs
        subst eu
        obtain ⟨as, rd, hA⟩ := Rep.reads hK I r _ v u p ea ru ep
        have hno : sysModules ∉ as := fun z => by
          obtain ⟨o, ho⟩ := hsys
          exact hA _ z (I.bs _ _ ho).2
        have fin : ∀ h' t tk, (∀ b o, s.heap.get? b = some o → h'.get? b = some o) → EP X pins σ Q (.str p.shown t) { s with heap := h', toks := tk } := fun h' t tk k =>
          ⟨.str p.shown, H, I.kept (t' := tk) k, ⟨t, rfl⟩, fs _ rfl⟩
        cases rd with
        | none => exact PySem.P.repr_of_none (fin s.heap s.toks _ fun _ _ z => z)
        | bool b => exact PySem.P.repr_of_bool (fin s.heap s.toks _ fun _ _ z => z)
        | int i t => exact PySem.P.repr_of_int (by simpa [PyData.showable] using hz.1) (fin s.heap s.toks _ fun _ _ z => z)
        | str x t => exact PySem.P.repr_of_str (fin s.heap s.toks _ fun _ _ z => z) (by simpa only [PyData.shown] using hz.2.1)
        | list a1 a2 a3 a4 => exact repr_of_reads' (.list a1 a2 a3 a4) hz.1 (fun _ => hno) hg (by have := hz.2.2; omega) (fun _ _ z => z) (fun h' t tk k => fin h' t tk k) hz.2.1
        | tuple a1 a2 a3 a4 => exact repr_of_reads' (.tuple a1 a2 a3 a4) hz.1 (fun _ => hno) hg (by have := hz.2.2; omega) (fun _ _ z => z) (fun h' t tk k => fin h' t tk k) hz.2.1
        | dict a1 a2 a3 a4 a5 => exact repr_of_reads' (.dict a1 a2 a3 a4 a5) hz.1 (fun _ => hno) hg (by have := hz.2.2; omega) (fun _ _ z => z) (fun h' t tk k => fin h' t tk k) hz.2.1
      · cases e
    · cases e
  · cases e
end
end Mp
set_option Elab.async false
set_option linter.all false
set_option maxRecDepth 100000
set_option maxHeartbeats 2000000
/-! MpSnd3: defs that keep what their terms are worth; calls. -/
namespace Mp
open PySem PySem.Spec PyProof.Rows L2

/-- room, and no repr under way -/
structure RoomG (k : Nat) (A : Around) : Prop where
  room : Room k A
  gd : A.guards = some []
theorem RoomG.mono {j k : Nat} {A : Around} (r : RoomG k A) (h : j ≤ k) : RoomG j A := ⟨r.room.mono h, r.gd⟩
theorem RoomG.deeper {k : Nat} {A : Around} (r : RoomG (k + 1) A) (env : Env) : RoomG k (A.deeper env) := ⟨r.room.deeper env, r.gd⟩
theorem RoomG.make {k : Nat} {A : Around} (r : RoomG (k + 1) A) (C : Addr) (us : List Value) (kw : List (Str × Value)) : RoomG k (A.under (.builtin "type.__call__" ⟨.ref C :: us, kw⟩)) := by
  refine ⟨r.room.make C us kw, ?_⟩
  have e := r.gd
  show pushGuards (Code.guards (.builtin "type.__call__" ⟨.ref C :: us, kw⟩)) A.guards = some []
  rw [e]
  first | rfl | simp [Code.guards, pushGuards, Code.isGuard, guardIds]
theorem RoomG.in1 {k : Nat} {A : Around} (r : RoomG (k + 1) A) : RoomG k A.in1 := ⟨r.room.in1, r.gd⟩

/-- a def that keeps its promise wherever there is such room -/
structure FnG (P : Program) (w : World) (C : Rc) (base : Heap) (k : Nat) (f : Addr) (fd : FuncData) (ps : List Str) (sp : Sp) : Prop where
  len : ∀ vs H Q E, sp vs H Q E → vs.length = ps.length
  run : ∀ (A : Around) (outer : List Env) (s : Shared) (H : Hp) (args : Args) (us : List Value) (vs : List V) (Q : VK) (E : XK), RoomG k A → Env0 P w C.K C.mg base A outer s H →
    BindsTo s fd args (ps.zip us) → Vals vs us → sp vs H Q E → codeAny (model P w) A (.call (.ref f) args) (CR (CX P w) outer P w H s Q E) s
theorem FnG.mono {P : Program} {w : World} {C : Rc} {base : Heap} {j k : Nat} {f : Addr} {fd : FuncData} {ps : List Str} {sp : Sp} (F : FnG P w C base j f fd ps sp) (h : j ≤ k) : FnG P w C base k f fd ps sp :=
  ⟨F.len, fun A outer s H args us vs Q E hr => F.run A outer s H args us vs Q E (hr.mono h)⟩
/-- what a def's worth promises -/
def spDen (C : Rc) (den : Den) : Sp := fun vs H Q E => ∃ W st ds, Reps C W ds vs ∧ Rel C W st H ∧ OQ C E W H (RD C Q) (den ds st)

/-- a name of the module that is a def of such worth -/
def DefOk (P : Program) (w : World) (C : Rc) (base : Heap) (k : Nat) (x : Str) (den : Den) : Prop :=
  ∃ f fd ps, C.mg x = some (.ref f) ∧ PySem.W.keepIn C.K (.ref f) = true ∧ Binds C.K fd ps [] ∧ FnG P w C base k f fd ps (spDen C den)

/-- the context of a body, of a comprehension's block -/
structure XOk (P : Program) (w : World) (C : Rc) (base : Heap) (k : Nat) (N : List Str) (sc : Scope) (Wx : XK) (X : Cx) : Prop where
  prog : X.prog = P
  wd : X.w = w
  K : X.K = C.K
  mg : X.mg = C.mg
  base : X.base = base
  calm : X.calm = true
  nm : X.N = N
  nd : N.Nodup
  sc : X.env.scope = sc
  rm : RoomG (k + 1) X.A
  tk : Takes X fun cls d _ H => Wx cls d H
theorem XOk.units {P : Program} {w : World} {C : Rc} {base : Heap} {k : Nat} {N : List Str} {sc : Scope} {Wx : XK} {X : Cx} (o : XOk P w C base k N sc Wx X) : X.A.units + 200 < cLine := by
  have := o.rm.room.un
  omega

section
variable {P : Program} {w : World} {C : Rc} {base : Heap} {k : Nat} {N : List Str} {sc : Scope} {Wx : XK} {X : Cx}
/-- the callee runs -/
theorem run_den {pins : List (Addr × Obj)} {σ : Sg} {H : Hp} {s : Shared} {Q : VK} {us : List Value} {vs : List V} {f : Addr} {fd : FuncData} {ps : List Str} {sp : Sp}
    (o : XOk P w C base k N sc Wx X) (F : FnG P w C base k f fd ps sp) (hb : Binds C.K fd ps []) (I : Inv X pins σ H s) (r : Vals vs us) (h : sp vs H Q Wx) :
    wpAny (model X.prog X.w) X.A (call (.ref f) us) (EP X pins σ Q) X.xe s := by
  obtain ⟨o1, o2, o3, o4, o5, o6, o7, o8, o9, o10, o11⟩ := o
  have hl : us.length = ps.length := r.length.symm.trans (F.len _ _ _ _ h)
  have e0 := I.env0
  have hB := hb s us (by have q := I.kIn; rw [o3] at q; exact q) (by rw [List.append_nil]; exact hl)
  rw [List.append_nil] at hB
  rw [o1, o2, o3, o4, o5] at e0
  have run := F.run X.A X.stack s H ⟨us, []⟩ us vs Q Wx (o10.mono (Nat.le_succ k)) e0 hB r h
  rw [← o1, ← o2] at run
  refine wpAny_call (codeAny_mono run fun res s' hq => ?_)
  match res, hq with
  | .error e, hq => exact o11 e s' (XE.of_call I (W := fun cls d _ H => Wx cls d H) (fun cls d H' z => z) hq)
  | .ok (.ret u), hq => exact I.after hq
  | .ok .next, hq => exact False.elim hq
  | .ok .brk, hq => exact False.elim hq
  | .ok .cont, hq => exact False.elim hq
/-- f(..) -/
theorem pe_den {x : Str} {p pos : Pos} {es : List Expr} {t : TA} {f : Addr} {fd : FuncData} {ps : List Str} {sp : Sp} (o : XOk P w C base k N sc Wx X) (F : FnG P w C base k f fd ps sp) (hb : Binds C.K fd ps [])
    (hg : glB sc x = true) (hm : C.mg x = some (.ref f)) (hk : PySem.W.keepIn C.K (.ref f) = true) (hp : ∀ y ∈ es, plainX y = true) (ha : PA X es t) (hn : es = [] → ∀ σ H Q, t σ H Q → Q [] H) :
    PE X (.Call (.Name x p) es [] pos) (fun σ H Q => t σ H fun vs H1 => sp vs H1 Q Wx) := by
  refine ⟨fun pins s σ H Q I h => ?_⟩
  have g1 : Gl X x := by
    have q := hg
    unfold glB at q
    simp only [Bool.and_eq_true, decide_eq_true_eq] at q
    show X.env.scope.names.lookup x = _
    rw [o.sc]
    exact q.1.1
  have g2 : (x == ("__debug__" : Str)) = false := by
    have q := hg
    unfold glB at q
    simp only [Bool.and_eq_true, decide_eq_true_eq] at q
    simpa using q.1.2
  have hm' : X.mg x = some (.ref f) := by rw [o.mg]; exact hm
  have hk' : PySem.W.keepIn X.K (.ref f) = true := by rw [o.K]; exact hk
  refine wpAny_Call_Name_kw (ld_glob I g1 hm' ?_ g2)
  cases es with
  | nil => exact PySem.W.callWith_K0 I.kIn hk' (run_den (us := []) o F hb I .nil (hn rfl σ H _ h))
  | cons e es =>
    refine PySem.W.callWith_K (h₀ := X.base) I.ok.mod.kin hk' (thn (ha.run pos pins s σ H _ I h) fun us s1 ⟨vs, H1, I1, r, q⟩ => ⟨I1.kIn, ?_⟩) (plain_star (hp e List.mem_cons_self)) (stars_any fun y hy => hp y (List.mem_cons_of_mem _ hy))
    exact run_den o F hb I1 r q
end
end Mp
set_option Elab.async false
set_option linter.all false
set_option maxRecDepth 100000
set_option maxHeartbeats 2000000
/-! MpSnd4: each term's reading from those of its parts. -/
namespace Mp
open PySem PySem.Spec PyProof.Rows L2

/-- an own class, as isinstance looks at its objects -/
def OwnC (C : Rc) (c : Str) (cl : Addr) : Prop :=
  C.mg c = some (.ref cl) ∧ Cls C.K cl ∧ PySem.W.findIn C.K (.ref cl) "__class__" = some (some (.builtin "object.__class__")) ∧
    PySem.W.specialIn C.K (.builtin "object.__class__") "__get__" = some (some (.builtin "getset_descriptor.__get__")) ∧ PySem.W.takesIn C.K (.builtin "object.__class__") = some true ∧
    PySem.W.mroIn C.K cl (.type "object") = some true
/-- what the written part holds, as the names say -/
structure GOk (P : Program) (w : World) (C : Rc) (base : Heap) (k : Nat) (Γ : Gm) : Prop where
  fn : ∀ x den, Γ.fn x = some den → DefOk P w C base k x den
  con : ∀ x d, Γ.con x = some d → ∃ u v, C.mg x = some u ∧ RelV v u ∧ ∀ W, Rep C W d v
  mke : ∀ c den, Γ.mke c = some den → ∀ (N : List Str) (sc : Scope) (Wx : XK) (X : Cx), XOk P w C base k N sc Wx X → ∀ {es : List Expr} {t : TA} {p pos : Pos}, glB sc c = true → (∀ y ∈ es, plainX y = true) → PA X es t → (es = [] → ∀ σ H Q, t σ H Q → Q [] H) →
    PE X (.Call (.Name c p) es [] pos) (fun σ H Q => t σ H fun vs H1 => spDen C den vs H1 Q Wx)
  mkk : ∀ c ks den, Γ.mkk c ks = some den → ∀ (N : List Str) (sc : Scope) (Wx : XK) (X : Cx), XOk P w C base k N sc Wx X → ∀ {kws : List Keyword} {t : TA} {p pos : Pos}, glB sc c = true → kws.map (·.arg) = ks.map some → PK X kws t → (∀ σ H Q, t σ H Q → t σ H fun vs H1 => vs.length = ks.length ∧ Q vs H1) →
    PE X (.Call (.Name c p) [] kws pos) (fun σ H Q => t σ H fun vs H1 => spDen C den vs H1 Q Wx)
  own : ∀ c, Γ.own c = true → ∃ cl, OwnC C c cl
  sub : ∀ c c' b, Γ.sub c c' = some b → ∃ cl cl', C.mg c = some (.ref cl) ∧ C.mg c' = some (.ref cl') ∧ PySem.W.kitOne C.K (.ref cl) (.ref cl') = some b
  isT : ∀ c n b, Γ.isT c n = some b → ∃ cl, C.mg c = some (.ref cl) ∧ PySem.W.kitOne C.K (.ref cl) (.type n) = some b
  tyO : ∀ m c, m ∈ tyNames → Γ.own c = true → ∃ cl, C.mg c = some (.ref cl) ∧ PySem.W.kitOne C.K (.type m) (.ref cl) = some false
  fld : ∀ c f, Γ.fld c f = true → ∃ cl, C.mg c = some (.ref cl) ∧ Cls C.K cl ∧ NoAttr C.K cl f
  free : ∀ x ∈ freeNames, C.mg x = none
  sys : ∃ o, base.get? sysModules = some o
  eqo : ∀ (N : List Str) (sc : Scope) (Wx : XK) (X : Cx), XOk P w C base k N sc Wx X → OpR X (compareOp .Eq) (fun vx vy H Q => ∃ W st x y, Rel C W st H ∧ Rep C W x vx ∧ Rep C W y vy ∧ (∃ c i fs, x = .ins c i fs) ∧ OQ C Wx W H (fun k _ _ H' => Q (.bl k) H') (eqO Γ x y st))
  neo : ∀ (N : List Str) (sc : Scope) (Wx : XK) (X : Cx), XOk P w C base k N sc Wx X → OpR X (compareOp .NotEq) (fun vx vy H Q => ∃ W st x y, Rel C W st H ∧ Rep C W x vx ∧ Rep C W y vy ∧ (∃ c i fs, x = .ins c i fs) ∧ OQ C Wx W H (fun k _ _ H' => Q (.bl k) H') (neO Γ x y st))

section
variable {P : Program} {w : World} {C : Rc} {base : Heap} {k : Nat} {N : List Str} {sc : Scope} {Wx : XK} {X : Cx} {Γ : Gm}
theorem tEv.seq {α : Type} {m a : E} {σ : Sg} {H : Hp} {Q Q' : VK} {R : D → Ms → Wd → Hp → Prop} {f : D → Ms → Out D} {W : Wd} {st : Ms} {ρ : List (Option D)} (sl : Slots C W ρ σ) (r : Rel C W st H)
    (q : OQ C Wx W H R ((ev Γ a ρ st).bind f)) (h : ∀ x s W1 H1 v, Ext W H W1 H1 → Rel C W1 s H1 → Rep C W1 x v → OQ C Wx W1 H1 R (f x s) → Q' v H1) : tEv C Γ Wx a σ H Q' :=
  ⟨W, st, ρ, sl, r, q.bind.imp fun x s W1 H1 e1 r1 q1 v p => h x s W1 H1 v e1 r1 p q1⟩
/-- the same for any goal of the outcome -/
theorem seqA {β : Type} {a : E} {σ : Sg} {H : Hp} {Q' : VK} {R : β → Ms → Wd → Hp → Prop} {f : D → Ms → Out β} {W : Wd} {st : Ms} {ρ : List (Option D)} (sl : Slots C W ρ σ) (r : Rel C W st H)
    (q : OQ C Wx W H R ((ev Γ a ρ st).bind f)) (h : ∀ x s W1 H1 v, Ext W H W1 H1 → Rel C W1 s H1 → Slots C W1 ρ σ → Rep C W1 x v → OQ C Wx W1 H1 R (f x s) → Q' v H1) : tEv C Γ Wx a σ H Q' :=
  ⟨W, st, ρ, sl, r, q.bind.imp fun x s W1 H1 e1 r1 q1 v p => h x s W1 H1 v e1 r1 (sl.le e1.le) p q1⟩

theorem l_lit {c : Const} {j : Nat} {pos : Pos} : PE X (.Constant c j pos) (tEv C Γ Wx (.lit c)) := by
  have go : ∀ (d : D) (v : V), litD c = some d → (∀ W, Rep C W d v) → PE X (.Constant c j pos) (tC v) → PE X (.Constant c j pos) (tEv C Γ Wx (.lit c)) := fun d v e p h => PE.imp h fun σ H Q ⟨W, st, ρ, sl, r, q⟩ => by
    have q' : OQ C Wx W H (RD C Q) (Out.opt (litD c) st) := q
    rw [e] at q'
    exact q' W H (.refl W H) r v (p W)
  cases c with
  | none => exact go .non .non rfl (fun _ => rfl) pe_non
  | bool b => exact go (.bl b) (.bl b) rfl (fun _ => rfl) pe_bl
  | int i => exact go (.int i) (.int i) rfl (fun _ => rfl) pe_int
  | str x => exact go (.str x) (.str x) rfl (fun _ => rfl) pe_str
  | _ => exact ⟨fun _ _ _ _ _ _ ⟨W, st, ρ, sl, r, q⟩ => False.elim q⟩
theorem l_var (o : XOk P w C base k N sc Wx X) {i : Nat} {x : Str} {pos : Pos} (hN : N[i]? = some x) (hv : visB sc x = true) (h1 : (x == ("__debug__" : Str)) = false) (h2 : (x == ("__classdict__" : Str)) = false) :
    PE X (.Name x pos) (tEv C Γ Wx (.var i)) := by
  have vis : Vis X.env.scope x := by
    rw [o.sc]
    unfold visB at hv
    simp only [Bool.or_eq_true, decide_eq_true_eq] at hv
    rcases hv with (z | z) | z
    · exact .inl z
    · exact .inr (.inl z)
    · exact .inr (.inr z)
  refine PE.imp (pe_var (i := i) (by rw [o.nm]; exact hN) vis h1 h2) fun σ H Q ⟨W, st, ρ, sl, r, q⟩ => ?_
  have q' : OQ C Wx W H (RD C Q) (Out.opt ((ρ[i]?).join) st) := q
  obtain ⟨d, e, q2⟩ := q'.opt
  have e2 : ρ[i]? = some (some d) := by
    cases z : ρ[i]? with
    | none => rw [z] at e; cases e
    | some o => rw [z] at e; cases o with
      | none => cases e
      | some d' => cases e; rfl
  obtain ⟨v, hs, rep⟩ := sl.at_ i d e2
  exact ⟨v, hs, q2 W H (.refl W H) r v rep⟩
theorem gl_of (o : XOk P w C base k N sc Wx X) {x : Str} (h : glB sc x = true) : Gl X x ∧ (x == ("__debug__" : Str)) = false ∧ x ≠ "__name__" := by
  unfold glB at h
  simp only [Bool.and_eq_true, decide_eq_true_eq, Bool.not_eq_true'] at h
  refine ⟨?_, h.1.2, fun e => ?_⟩
  · show X.env.scope.names.lookup x = _
    rw [o.sc]; exact h.1.1
  · have z := h.2
    rw [e] at z
    exact absurd z (by decide)
theorem l_con (o : XOk P w C base k N sc Wx X) (G : GOk P w C base k Γ) {x : Str} {pos : Pos} (hg : glB sc x = true) : PE X (.Name x pos) (tEv C Γ Wx (.con x)) := by
  obtain ⟨g1, g2, _⟩ := gl_of o hg
  cases e : Γ.con x with
  | none =>
    refine ⟨fun _ _ _ _ _ _ ⟨W, st, ρ, sl, r, q⟩ => ?_⟩
    have q' : OQ C Wx W _ (RD C _) (Out.opt (Γ.con x) st) := q
    rw [e] at q'
    exact False.elim q'
  | some d =>
    obtain ⟨u, v, h1, h2, h3⟩ := G.con x d e
    refine PE.imp (pe_glob g1 (by rw [o.mg]; exact h1) h2 g2) fun σ H Q ⟨W, st, ρ, sl, r, q⟩ => ?_
    have q' : OQ C Wx W H (RD C Q) (Out.opt (Γ.con x) st) := q
    rw [e] at q'
    exact q' W H (.refl W H) r v (h3 W)
theorem l_tup {es : List Expr} {m : Es} {x1 : Nat} {pos : Pos} (h : PA X es (tEvs C Γ Wx m)) : PE X (.Tuple es x1 pos) (tEv C Γ Wx (.tup m)) := by
  refine PE.imp (pe_tup h) fun σ H Q ⟨W, st, ρ, sl, r, q⟩ => ?_
  refine ⟨W, st, ρ, sl, r, q.bind.imp fun ds s W1 H1 e1 r1 q1 vs p => ?_⟩
  by_cases hz : ds.length ≤ sizeLine
  · rw [if_pos hz] at q1
    exact ⟨by rw [← p.length]; exact hz, fun a ha => q1 _ _ (ext_put r1 ha) (rel_put r1 ha) _ ⟨a, vs, rfl, .inl (.inl Wd.put_at), reps_put r1 ha p⟩⟩
  · rw [if_neg hz] at q1
    exact False.elim q1
theorem l_lst {es : List Expr} {m : Es} {pos : Pos} (h : PA X es (tEvs C Γ Wx m)) : PE X (.List es pos) (tEv C Γ Wx (.lst m)) := by
  refine PE.imp (pe_lst h) fun σ H Q ⟨W, st, ρ, sl, r, q⟩ => ?_
  refine ⟨W, st, ρ, sl, r, q.bind.imp fun ds s W1 H1 e1 r1 q1 vs p => ?_⟩
  by_cases hz : ds.length ≤ sizeLine
  · rw [if_pos hz] at q1
    exact ⟨by rw [← p.length]; exact hz, fun a ha => q1 _ _ (ext_put r1 ha) (rel_put r1 ha) _ ⟨a, vs, rfl, Wd.put_at, reps_put r1 ha p⟩⟩
  · rw [if_neg hz] at q1
    exact False.elim q1
theorem l_bin (o : XOk P w C base k N sc Wx X) {op : Operator} {a b : Expr} {m n : E} {pos : Pos} (ha : PE X a (tEv C Γ Wx m)) (hb : PE X b (tEv C Γ Wx n)) : PE X (.BinOp a op b pos) (tEv C Γ Wx (.bin op m n)) := by
  refine PE.imp (pe_op (opr_bin (Wx := Wx) (op := op) o.K) ha hb) fun σ H Q ⟨W, st, ρ, sl, r, q⟩ => ?_
  refine seqA sl r q fun x s1 W1 H1 v e1 r1 sl1 p1 q1 => ?_
  refine seqA sl1 r1 q1 fun y s2 W2 H2 u e2 r2 sl2 p2 q2 => ?_
  exact ⟨W2, s2, x, y, r2, Rep.le e2.le x v p1, p2, q2⟩
theorem un_of {f : Value → Sem Value} {g : Int → Int} (hf : UnR X f (rU fun i => .int (g i))) : UnR X f (fun vx H Q => ∃ W st x, Rel C W st H ∧ Rep C W x vx ∧ OQ C Wx W H (RD C Q) (match x with
    | .int i => Out.ok (.int (g i)) st
    | _ => .bad)) := by
  intro pins s σ H x v Q I rx h
  obtain ⟨W, st, dx, r, p, q⟩ := h
  cases dx with
  | int i =>
    have e : x = .int i := p
    subst e
    exact hf pins s σ H _ v Q I rx ⟨i, rfl, q W H (.refl W H) r _ rfl⟩
  | _ => exact False.elim q
theorem l_neg {a : Expr} {m : E} {pos : Pos} (ha : PE X a (tEv C Γ Wx m)) : PE X (.UnaryOp .USub a pos) (tEv C Γ Wx (.neg m)) := by
  refine PE.imp (pe_un (un_of (C := C) (Wx := Wx) un_neg) ha) fun σ H Q ⟨W, st, ρ, sl, r, q⟩ => ?_
  exact seqA sl r q fun x s1 W1 H1 v e1 r1 sl1 p1 q1 => ⟨W1, s1, x, r1, p1, q1⟩
theorem l_inv {a : Expr} {m : E} {pos : Pos} (ha : PE X a (tEv C Γ Wx m)) : PE X (.UnaryOp .Invert a pos) (tEv C Γ Wx (.inv m)) := by
  refine PE.imp (pe_un (un_of (C := C) (Wx := Wx) un_inv) ha) fun σ H Q ⟨W, st, ρ, sl, r, q⟩ => ?_
  exact seqA sl r q fun x s1 W1 H1 v e1 r1 sl1 p1 q1 => ⟨W1, s1, x, r1, p1, q1⟩
theorem l_not (o : XOk P w C base k N sc Wx X) {a : Expr} {m : E} {pos : Pos} (ha : PE X a (tEv C Γ Wx m)) : PE X (.UnaryOp .Not a pos) (tEv C Γ Wx (.not m)) := by
  refine PE.imp (pe_notT ha) fun σ H Q ⟨W, st, ρ, sl, r, q⟩ => ?_
  refine seqA sl r q fun x s1 W1 H1 v e1 r1 sl1 p1 q1 => ?_
  obtain ⟨b, e, q2⟩ := q1.bind.opt
  exact ⟨b, by rw [o.K]; exact tru_rep r1 e p1, q2 W1 H1 (.refl W1 H1) r1 W1 H1 (.refl W1 H1) r1 _ rfl⟩
theorem l_ifx {t a b : Expr} {mt' ma mb : E} {pos : Pos} (ht : PT X t (tEvT C Γ Wx mt')) (ha : PE X a (tEv C Γ Wx ma)) (hb : PE X b (tEv C Γ Wx mb)) : PE X (.IfExp t a b pos) (tEv C Γ Wx (.ifx mt' ma mb)) := by
  refine PE.imp (pe_ifExp ht ha hb) fun σ H Q ⟨W, st, ρ, sl, r, q⟩ => ?_
  have q' : OQ C Wx W H (RD C Q) (((ev Γ mt' ρ st).bind fun x s => Out.opt (tru x) s).bind fun k s => if k = true then ev Γ ma ρ s else ev Γ mb ρ s) := by
    have e : ∀ o : Out D, ((o.bind fun x s => Out.opt (tru x) s).bind fun k s => if k = true then ev Γ ma ρ s else ev Γ mb ρ s) = (o.bind fun x s => (Out.opt (tru x) s).bind fun k s => if k = true then ev Γ ma ρ s else ev Γ mb ρ s) := fun o => by
      cases o <;> rfl
    rw [e]; exact q
  refine ⟨W, st, ρ, sl, r, q'.bind.imp fun k s W1 H1 e1 r1 q1 => ?_⟩
  cases k with
  | true =>
    rw [if_pos rfl] at q1 ⊢
    exact ⟨W1, s, ρ, sl.le e1.le, r1, q1⟩
  | false =>
    rw [if_neg Bool.false_ne_true] at q1 ⊢
    exact ⟨W1, s, ρ, sl.le e1.le, r1, q1⟩
theorem l_ix (o : XOk P w C base k N sc Wx X) {a b : Expr} {m n : E} {pos : Pos} (ha : PE X a (tEv C Γ Wx m)) (hb : PE X b (tEv C Γ Wx n)) (hp : plainX b = true) : PE X (.Subscript a b pos) (tEv C Γ Wx (.ix m n)) := by
  refine PE.imp (pe_ix (ixr_ix (C := C) o.K) ha hb (plain_ix hp)) fun σ H Q ⟨W, st, ρ, sl, r, q⟩ => ?_
  refine seqA sl r q fun x s1 W1 H1 v e1 r1 sl1 p1 q1 => ?_
  refine seqA sl1 r1 q1 fun y s2 W2 H2 u e2 r2 sl2 p2 q2 => ?_
  obtain ⟨d, e, q3⟩ := q2.opt
  exact ⟨W2, s2, x, y, d, r2, Rep.le e2.le x v p1, p2, e, fun v' p' => q3 W2 H2 (.refl W2 H2) r2 v' p'⟩
def tEvO (C : Rc) (Γ : Gm) (Wx : XK) (m : Oe) : TO := fun σ H Q => ∃ W st ρ, Slots C W ρ σ ∧ Rel C W st H ∧ OQ C Wx W H (fun i _ _ H' => Q i H') (evo Γ m ρ st)
theorem l_no : PO X none (tEvO C Γ Wx .no) := by
  have h : PO X none tNoPart := po_none
  exact ⟨fun pins s σ H Q I ⟨W, st, ρ, sl, r, q⟩ => h.run pins s σ H Q I (q W H (.refl W H) r)⟩
theorem l_yes {e : Expr} {m : E} (h : PE X e (tEv C Γ Wx m)) : PO X (some e) (tEvO C Γ Wx (.yes m)) := by
  have h' : PO X (some e) (tPart (tEv C Γ Wx m)) := po_some h
  refine ⟨fun pins s σ H Q I ⟨W, st, ρ, sl, r, q⟩ => h'.run pins s σ H Q I ?_⟩
  refine seqA sl r q fun x s1 W1 H1 v e1 r1 sl1 p1 q1 => ?_
  cases x with
  | int i => exact ⟨i, p1, q1 W1 H1 (.refl W1 H1) r1⟩
  | _ => exact False.elim q1
theorem l_slc (o : XOk P w C base k N sc Wx X) {e : Expr} {lo hi : Option Expr} {m : E} {l h : Oe} {p2 pos : Pos} (he : PE X e (tEv C Γ Wx m)) (hl : PO X lo (tEvO C Γ Wx l)) (hh : PO X hi (tEvO C Γ Wx h)) :
    PE X (.Subscript e (.Slice lo hi none p2) pos) (tEv C Γ Wx (.slc m l h)) := by
  refine PE.imp (pe_slice (slr_sl (C := C) (Wx := Wx) o.K) he hl hh) fun σ H Q ⟨W, st, ρ, sl, r, q⟩ => ?_
  refine seqA sl r q fun x s1 W1 H1 v e1 r1 sl1 p1 q1 => ?_
  refine ⟨W1, s1, ρ, sl1, r1, q1.bind.imp fun i s2 W2 H2 e2 r2 q2 => ?_⟩
  refine ⟨W2, s2, ρ, sl1.le e2.le, r2, q2.bind.imp fun j s3 W3 H3 e3 r3 q3 => ?_⟩
  exact ⟨W3, s3, x, r3, Rep.le (e2.le.trans e3.le) x v p1, q3⟩
theorem l_bi (o : XOk P w C base k N sc Wx X) (G : GOk P w C base k Γ) {f : Bi} {y : Expr} {ys : List Expr} {m : Es} {p pos : Pos} (hg : glB sc f.name = true) (hp : ∀ x ∈ y :: ys, plainX x = true) (ha : PA X (y :: ys) (tEvs C Γ Wx m)) :
    PE X (.Call (.Name f.name p) (y :: ys) [] pos) (tEv C Γ Wx (.bi f m)) := by
  obtain ⟨g1, g2, g3⟩ := gl_of o hg
  have u := o.units
  have cr : CallR X f.val (rBi C Wx f) := callr_bi f o.K o.calm o.rm.gd (by omega) (by rw [o.base]; exact G.sys)
  have hm : X.mg f.name = none := by rw [o.mg]; exact G.free _ (by cases f <;> decide)
  have bt := f.boot
  have hs := plain_star (es := ys) (env := X.env) (hp y List.mem_cons_self)
  have ha2 := stars_any (env := X.env) (pos := pos) fun x hx => hp x (List.mem_cons_of_mem y hx)
  have fin : ∀ σ H Q, tEv C Γ Wx (.bi f m) σ H Q → tCB (rBi C Wx f) (tEvs C Γ Wx m) σ H Q := fun σ H Q ⟨W, st, ρ, sl, r, q⟩ =>
    ⟨W, st, ρ, sl, r, q.bind.imp fun ds s W1 H1 e1 r1 q1 vs p => ⟨W1, s, ds, r1, p, q1⟩⟩
  unfold Bi.val at cr bt
  by_cases ht : f.isTy = true
  · rw [if_pos ht] at cr bt
    exact PE.imp (pe_callTy cr g1 hm bt ha g3 g2 hs ha2) fin
  · rw [if_neg ht] at cr bt
    exact PE.imp (pe_callB cr g1 hm bt ha g3 g2 hs ha2) fin
theorem l_fld (o : XOk P w C base k N sc Wx X) (G : GOk P w C base k Γ) {a : Expr} {f : Str} {m : E} {pos : Pos} (ha : PE X a (tEv C Γ Wx m)) (hb : baseB a = true) : PE X (.Attribute a f pos) (tEv C Γ Wx (.fld m f)) := by
  refine PE.imp (pe_fld ha (base_of hb)) fun σ H Q ⟨W, st, ρ, sl, r, q⟩ => ?_
  refine seqA sl r q fun x s1 W1 H1 v e1 r1 sl1 p1 q1 => ?_
  obtain ⟨d, e, q2⟩ := q1.opt
  cases x with
  | ins c i fs =>
    have e' : (if Γ.fld c f = true then fs.lookup f else none) = some d := e
    split at e'
    · rename_i hf
      obtain ⟨cl, h1, h2, h3⟩ := G.fld c f hf
      obtain ⟨a', cl', dx, vs, ev, m1, m2, m3, _⟩ := p1
      rw [h1] at m1
      cases m1
      have key : ∀ (fs : List (Str × D)) (vs : List (Str × V)), RepF C W1 fs vs → fs.lookup f = some d → ∃ v, vs.lookup f = some v ∧ Rep C W1 d v := by
        intro fs
        induction fs with
        | nil => intro vs _ z; cases z
        | cons p fs ih =>
          intro vs hr z
          obtain ⟨n, d'⟩ := p
          obtain ⟨v', r', ev', p', q'⟩ := hr
          subst ev'
          rw [List.lookup_cons] at z ⊢
          cases hb : f == n with
          | true => rw [hb] at z; cases z; exact ⟨v', rfl, p'⟩
          | false => rw [hb] at z; exact ih r' q' z
      obtain ⟨v', l1, l2⟩ := key fs vs m3 e'
      exact ⟨a', cl, dx, vs, v', ev, r1.sub _ _ m2, by rw [o.K]; exact h2, by rw [o.K]; exact h3, l1, q2 W1 H1 (.refl W1 H1) r1 v' l2⟩
    · cases e'
  | _ => cases e
end
end Mp
set_option Elab.async false
set_option linter.all false
set_option maxRecDepth 100000
set_option maxHeartbeats 2000000
/-! MpSnd5: comparisons, tests, calls, comprehensions. -/
namespace Mp
open PySem PySem.Spec PyProof.Rows L2
section
variable {P : Program} {w : World} {C : Rc} {base : Heap} {k : Nat} {N : List Str} {sc : Scope} {Wx : XK} {X : Cx} {Γ : Gm}
def rCmpO (C : Rc) (Γ : Gm) (Wx : XK) (op : CmpOp) : R2 := fun vx vy H Q => ∃ W st x y, Rel C W st H ∧ Rep C W x vx ∧ Rep C W y vy ∧ OQ C Wx W H (fun k _ _ H' => Q (.bl k) H') (cmpO Γ op x y st)
theorem opr_cmpO (o : XOk P w C base k N sc Wx X) (G : GOk P w C base k Γ) (op : CmpOp) : OpR X (compareOp op) (rCmpO C Γ Wx op) := by
  have u := o.units
  have plain : ∀ op, OpR X (compareOp op) (rCmp C op) := fun op => opr_cmp o.K (by omega)
  intro pins s σ H x y v u Q I rx ry h
  obtain ⟨W, st, dx, dy, r, px, py, q⟩ := h
  have base : ∀ op, OQ C Wx W H (fun k _ _ H' => Q (.bl k) H') (Out.opt (cmpD op dx dy) st) → wpAny (model X.prog X.w) X.A (compareOp op v u) (EP X pins σ Q) X.xe s := fun op q => by
    obtain ⟨b, e, q2⟩ := q.opt
    exact plain op pins s σ H x y v u Q I rx ry ⟨W, st, dx, dy, b, r, px, py, e, q2 W H (.refl W H) r⟩
  cases op with
  | Eq =>
    cases dx with
    | ins c i fs => exact G.eqo N sc Wx X o pins s σ H x y v u Q I rx ry ⟨W, st, _, dy, r, px, py, ⟨c, i, fs, rfl⟩, q⟩
    | _ => exact base .Eq q
  | NotEq =>
    cases dx with
    | ins c i fs => exact G.neo N sc Wx X o pins s σ H x y v u Q I rx ry ⟨W, st, _, dy, r, px, py, ⟨c, i, fs, rfl⟩, q⟩
    | _ => exact base .NotEq q
  | Lt => exact base .Lt q
  | LtE => exact base .LtE q
  | Gt => exact base .Gt q
  | GtE => exact base .GtE q
  | Is => exact base .Is q
  | IsNot => exact base .IsNot q
  | In => exact base .In q
  | NotIn => exact base .NotIn q
theorem l_cmp (o : XOk P w C base k N sc Wx X) (G : GOk P w C base k Γ) {op : CmpOp} {a b : Expr} {m n : E} {pos : Pos} (ha : PE X a (tEv C Γ Wx m)) (hb : PE X b (tEv C Γ Wx n)) (hp : plainX b = true) :
    PE X (.Compare a [op] [b] pos) (tEv C Γ Wx (.cmp op m n)) ∧ PT X (.Compare a [op] [b] pos) (tEvT C Γ Wx (.cmp op m n)) := by
  refine ⟨PE.imp (pe_cmpR (opr_cmpO o G op) ha hb (plain_behind hp op)) fun σ H Q ⟨W, st, ρ, sl, r, q⟩ => ?_, PT.imp (pt_cmpR (opr_cmpO o G op) ha hb (plain_behind hp op)) fun σ H Q ⟨W, st, ρ, sl, r, q⟩ => ?_⟩
  · refine seqA sl r q fun x s1 W1 H1 v e1 r1 sl1 p1 q1 => ?_
    refine seqA sl1 r1 q1 fun y s2 W2 H2 u e2 r2 sl2 p2 q2 => ?_
    exact ⟨W2, s2, x, y, r2, Rep.le e2.le x v p1, p2, q2.bind.imp fun b s3 W3 H3 e3 r3 q3 => q3 W3 H3 (.refl W3 H3) r3 _ rfl⟩
  · have q' : OQ C Wx W H (fun k _ _ H' => Q k H') ((ev Γ m ρ st).bind fun x s => (ev Γ n ρ s).bind fun y s => cmpO Γ op x y s) := by
      have e : ((ev Γ (.cmp op m n) ρ st).bind fun x s => Out.opt (tru x) s) = ((ev Γ m ρ st).bind fun x s => (ev Γ n ρ s).bind fun y s => cmpO Γ op x y s) := by
        show ((((ev Γ m ρ st).bind fun x s => (ev Γ n ρ s).bind fun y s => (cmpO Γ op x y s).bind fun k s => .ok (.bl k) s)).bind fun x s => Out.opt (tru x) s) = _
        cases ev Γ m ρ st with
        | ok x s1 =>
          show (((ev Γ n ρ s1).bind fun y s => (cmpO Γ op x y s).bind fun k s => .ok (.bl k) s).bind fun x s => Out.opt (tru x) s) = (ev Γ n ρ s1).bind fun y s => cmpO Γ op x y s
          cases ev Γ n ρ s1 with
          | ok y s2 =>
            show (((cmpO Γ op x y s2).bind fun k s => Out.ok (.bl k) s).bind fun x s => Out.opt (tru x) s) = cmpO Γ op x y s2
            cases cmpO Γ op x y s2 <;> rfl
          | ex _ _ => rfl
          | bad => rfl
        | ex _ _ => rfl
        | bad => rfl
      rw [← e]; exact q
    refine seqA sl r q' fun x s1 W1 H1 v e1 r1 sl1 p1 q1 => ?_
    refine seqA sl1 r1 q1 fun y s2 W2 H2 u e2 r2 sl2 p2 q2 => ?_
    exact ⟨W2, s2, x, y, r2, Rep.le e2.le x v p1, p2, q2.imp fun b s3 W3 H3 e3 r3 q3 => ⟨b, rfl, q3⟩⟩
/-- as a test, by its value's truth -/
theorem l_truth (o : XOk P w C base k N sc Wx X) {e : Expr} {m : E} (h : PE X e (tEv C Γ Wx m)) (he : ∀ whole, isTrue e X.env whole = (do let v ← whole; standAt e.pos; holding [v] (truthy v))) : PT X e (tEvT C Γ Wx m) := by
  refine PT.imp (pt_truth h he) fun σ H Q ⟨W, st, ρ, sl, r, q⟩ => ?_
  refine seqA sl r q fun x s1 W1 H1 v e1 r1 sl1 p1 q1 => ?_
  obtain ⟨b, e2, q2⟩ := q1.opt
  exact ⟨b, by rw [o.K]; exact tru_rep r1 e2 p1, q2 W1 H1 (.refl W1 H1) r1⟩
theorem l_notT {a : Expr} {m : E} {pos : Pos} (ha : PT X a (tEvT C Γ Wx m)) : PT X (.UnaryOp .Not a pos) (tEvT C Γ Wx (.not m)) := by
  refine PT.imp (pt_not ha) fun σ H Q ⟨W, st, ρ, sl, r, q⟩ => ?_
  refine ⟨W, st, ρ, sl, r, ?_⟩
  have e : ((ev Γ (.not m) ρ st).bind fun x s => Out.opt (tru x) s) = ((ev Γ m ρ st).bind fun x s => Out.opt (tru x) s).bind fun k s => .ok (!k) s := by
    show (((ev Γ m ρ st).bind fun x s => (Out.opt (tru x) s).bind fun k s => .ok (.bl (!k)) s).bind fun x s => Out.opt (tru x) s) = _
    cases ev Γ m ρ st with
    | ok x s1 =>
      show (((Out.opt (tru x) s1).bind fun k s => Out.ok (D.bl (!k)) s).bind fun x s => Out.opt (tru x) s) = (Out.opt (tru x) s1).bind fun k s => .ok (!k) s
      cases tru x <;> rfl
    | ex _ _ => rfl
    | bad => rfl
  rw [e] at q
  exact q.bind.imp fun b s1 W1 H1 e1 r1 q1 => q1 W1 H1 (.refl W1 H1) r1
theorem l_ifxT {t a b : Expr} {mt' ma mb : E} {pos : Pos} (ht : PT X t (tEvT C Γ Wx mt')) (ha : PT X a (tEvT C Γ Wx ma)) (hb : PT X b (tEvT C Γ Wx mb)) : PT X (.IfExp t a b pos) (tEvT C Γ Wx (.ifx mt' ma mb)) := by
  refine ⟨fun pins s σ H Q I ⟨W, st, ρ, sl, r, q⟩ => ?_⟩
  have e : ((ev Γ (.ifx mt' ma mb) ρ st).bind fun x s => Out.opt (tru x) s) = ((ev Γ mt' ρ st).bind fun x s => Out.opt (tru x) s).bind fun k s => if k = true then (ev Γ ma ρ s).bind fun x s => Out.opt (tru x) s else (ev Γ mb ρ s).bind fun x s => Out.opt (tru x) s := by
    show (((ev Γ mt' ρ st).bind fun x s => (Out.opt (tru x) s).bind fun k s => if k = true then ev Γ ma ρ s else ev Γ mb ρ s).bind fun x s => Out.opt (tru x) s) = _
    cases ev Γ mt' ρ st with
    | ok x s1 =>
      show (((Out.opt (tru x) s1).bind fun k s => if k = true then ev Γ ma ρ s else ev Γ mb ρ s).bind fun x s => Out.opt (tru x) s) = (Out.opt (tru x) s1).bind _
      cases tru x with
      | none => rfl
      | some b => cases b <;> rfl
    | ex _ _ => rfl
    | bad => rfl
  rw [e] at q
  show wpAny _ _ (do if ← isTrue t X.env (eval t X.env) then isTrue a X.env (eval a X.env) else isTrue b X.env (eval b X.env)) _ _ s
  refine wpAny_bind (thn (ht.run pins s σ H _ I ⟨W, st, ρ, sl, r, q.bind.imp fun k s1 W1 H1 e1 r1 q1 => (show (if k = true then tEvT C Γ Wx ma σ H1 Q else tEvT C Γ Wx mb σ H1 Q) from ?_)⟩) fun c s1 ⟨H1, I1, q1⟩ => ?_)
  · cases k with
    | true => exact ⟨W1, s1, ρ, sl.le e1.le, r1, q1⟩
    | false => exact ⟨W1, s1, ρ, sl.le e1.le, r1, q1⟩
  · cases c with
    | true => exact ha.run pins s1 σ H1 Q I1 q1
    | false => exact hb.run pins s1 σ H1 Q I1 q1

/-! ### argument lists -/
theorem l_nil : PA X [] (tEvs C Γ Wx .nil) := PA.imp pa_nil fun σ H Q ⟨W, st, ρ, sl, r, q⟩ => q W H (.refl W H) r [] rfl
theorem l_cons {e : Expr} {es : List Expr} {m : E} {ms : Es} (he : PE X e (tEv C Γ Wx m)) (hs : PA X es (tEvs C Γ Wx ms)) (hp : plainX e = true) : PA X (e :: es) (tEvs C Γ Wx (.cons m ms)) := by
  refine PA.imp (pa_cons he hs (plain_star hp)) fun σ H Q ⟨W, st, ρ, sl, r, q⟩ => ?_
  refine seqA sl r q fun x s1 W1 H1 v e1 r1 sl1 p1 q1 => ?_
  exact ⟨W1, s1, ρ, sl1, r1, q1.bind.imp fun xs s2 W2 H2 e2 r2 q2 vs ps => q2 W2 H2 (.refl W2 H2) r2 _ ⟨v, vs, rfl, Rep.le e2.le x v p1, ps⟩⟩

/-! ### and, or -/
def tAndE (C : Rc) (Γ : Gm) (Wx : XK) (m : Es) : TE := fun σ H Q => ∃ W st ρ, Slots C W ρ σ ∧ Rel C W st H ∧ OQ C Wx W H (RD C Q) (evAnd Γ m ρ st)
def tOrE (C : Rc) (Γ : Gm) (Wx : XK) (m : Es) : TE := fun σ H Q => ∃ W st ρ, Slots C W ρ σ ∧ Rel C W st H ∧ OQ C Wx W H (RD C Q) (evOr Γ m ρ st)
def tAndX (C : Rc) (Γ : Gm) (Wx : XK) (m : Es) : TT := fun σ H Q => ∃ W st ρ, Slots C W ρ σ ∧ Rel C W st H ∧ OQ C Wx W H (fun k _ _ H' => Q k H') ((evAnd Γ m ρ st).bind fun x s => Out.opt (tru x) s)
def tOrX (C : Rc) (Γ : Gm) (Wx : XK) (m : Es) : TT := fun σ H Q => ∃ W st ρ, Slots C W ρ σ ∧ Rel C W st H ∧ OQ C Wx W H (fun k _ _ H' => Q k H') ((evOr Γ m ρ st).bind fun x s => Out.opt (tru x) s)
theorem oq_ok {α : Type} {R : α → Ms → Wd → Hp → Prop} {W : Wd} {H : Hp} {a : α} {s : Ms} (r : Rel C W s H) (q : OQ C Wx W H R (.ok a s)) : R a s W H := q W H (.refl W H) r
theorem l_and1 {e : Expr} {m : E} {pos : Pos} (he : PE X e (tEv C Γ Wx m)) (ht : PT X e (tEvT C Γ Wx m)) :
    (PE X (.BoolOp .And [e] pos) (tAndE C Γ Wx (.cons m .nil)) ∧ PW X (.BoolOp .And [e] pos) (tAndX C Γ Wx (.cons m .nil))) ∧ PE X (.BoolOp .Or [e] pos) (tOrE C Γ Wx (.cons m .nil)) ∧ PW X (.BoolOp .Or [e] pos) (tOrX C Γ Wx (.cons m .nil)) := by
  have e1 : ∀ ρ s, evAnd Γ (.cons m .nil) ρ s = ev Γ m ρ s := fun ρ s => by
    show (ev Γ m ρ s).bind (fun x s => .ok x s) = ev Γ m ρ s
    cases ev Γ m ρ s <;> rfl
  have e2 : ∀ ρ s, evOr Γ (.cons m .nil) ρ s = ev Γ m ρ s := fun ρ s => by
    show (ev Γ m ρ s).bind (fun x s => .ok x s) = ev Γ m ρ s
    cases ev Γ m ρ s <;> rfl
  refine ⟨⟨PE.imp (pe_one he) fun σ H Q ⟨W, st, ρ, sl, r, q⟩ => ⟨W, st, ρ, sl, r, by rw [← e1]; exact q⟩, ⟨fun wh pins s σ H Q I ⟨W, st, ρ, sl, r, q⟩ => (pw_and1 ht).run wh pins s σ H Q I ⟨W, st, ρ, sl, r, by rw [← e1]; exact q⟩⟩⟩,
    PE.imp (pe_one he) fun σ H Q ⟨W, st, ρ, sl, r, q⟩ => ⟨W, st, ρ, sl, r, by rw [← e2]; exact q⟩, ⟨fun wh pins s σ H Q I ⟨W, st, ρ, sl, r, q⟩ => (pw_or1 ht).run wh pins s σ H Q I ⟨W, st, ρ, sl, r, by rw [← e2]; exact q⟩⟩⟩
theorem bind_assoc {α β γ : Type} (o : Out α) (f : α → Ms → Out β) (g : β → Ms → Out γ) : (o.bind f).bind g = o.bind fun a s => (f a s).bind g := by cases o <;> rfl
theorem l_andC (o : XOk P w C base k N sc Wx X) {e e2 : Expr} {es : List Expr} {m m2 : E} {ms : Es} {pos : Pos} (he : PE X e (tEv C Γ Wx m)) (ht : PT X e (tEvT C Γ Wx m))
    (hs : PE X (.BoolOp .And (e2 :: es) pos) (tAndE C Γ Wx (.cons m2 ms))) (hts : PW X (.BoolOp .And (e2 :: es) pos) (tAndX C Γ Wx (.cons m2 ms))) :
    PE X (.BoolOp .And (e :: e2 :: es) pos) (tAndE C Γ Wx (.cons m (.cons m2 ms))) ∧ PW X (.BoolOp .And (e :: e2 :: es) pos) (tAndX C Γ Wx (.cons m (.cons m2 ms))) := by
  refine ⟨PE.imp (pe_andT he hs) fun σ H Q ⟨W, st, ρ, sl, r, q⟩ => ?_, ⟨fun wh pins s σ H Q I ⟨W, st, ρ, sl, r, q⟩ => (pw_and ht hts).run wh pins s σ H Q I ?_⟩⟩
  · refine seqA sl r q fun x s1 W1 H1 v e1 r1 sl1 p1 q1 => ?_
    obtain ⟨b, eb, q2⟩ := q1.bind.opt
    have q3 := q2 W1 H1 (.refl W1 H1) r1
    refine ⟨b, by rw [o.K]; exact tru_rep r1 eb p1, ?_⟩
    cases b with
    | true => exact ⟨W1, s1, ρ, sl1, r1, q3⟩
    | false => exact oq_ok r1 q3 _ p1
  · have q' : OQ C Wx W H (fun k _ _ H' => Q k H') (((ev Γ m ρ st).bind fun x s => Out.opt (tru x) s).bind fun k s => if k = true then (evAnd Γ (.cons m2 ms) ρ s).bind fun x s => Out.opt (tru x) s else .ok false s) := by
      have ee : ((evAnd Γ (.cons m (.cons m2 ms)) ρ st).bind fun x s => Out.opt (tru x) s) = (((ev Γ m ρ st).bind fun x s => Out.opt (tru x) s).bind fun k s => if k = true then (evAnd Γ (.cons m2 ms) ρ s).bind fun x s => Out.opt (tru x) s else .ok false s) := by
        show (((ev Γ m ρ st).bind fun x s => (Out.opt (tru x) s).bind fun k s => if k = true then evAnd Γ (.cons m2 ms) ρ s else .ok x s).bind fun x s => Out.opt (tru x) s) = _
        rw [bind_assoc, bind_assoc]
        cases ev Γ m ρ st with
        | ok x s1 =>
          show (((Out.opt (tru x) s1).bind fun k s => if k = true then evAnd Γ (.cons m2 ms) ρ s else .ok x s).bind fun x s => Out.opt (tru x) s) = (Out.opt (tru x) s1).bind _
          cases e : tru x with
          | none => rfl
          | some b =>
            cases b with
            | true => rfl
            | false =>
              show Out.opt (tru x) s1 = .ok false s1
              rw [e]; rfl
        | ex _ _ => rfl
        | bad => rfl
      rw [← ee]; exact q
    refine ⟨W, st, ρ, sl, r, q'.bind.imp fun b s1 W1 H1 e1 r1 q1 => ?_⟩
    cases b with
    | true => exact ⟨W1, s1, ρ, sl.le e1.le, r1, q1⟩
    | false => exact oq_ok r1 q1
theorem l_orC (o : XOk P w C base k N sc Wx X) {e e2 : Expr} {es : List Expr} {m m2 : E} {ms : Es} {pos : Pos} (he : PE X e (tEv C Γ Wx m)) (ht : PT X e (tEvT C Γ Wx m))
    (hs : PE X (.BoolOp .Or (e2 :: es) pos) (tOrE C Γ Wx (.cons m2 ms))) (hts : PW X (.BoolOp .Or (e2 :: es) pos) (tOrX C Γ Wx (.cons m2 ms))) :
    PE X (.BoolOp .Or (e :: e2 :: es) pos) (tOrE C Γ Wx (.cons m (.cons m2 ms))) ∧ PW X (.BoolOp .Or (e :: e2 :: es) pos) (tOrX C Γ Wx (.cons m (.cons m2 ms))) := by
  refine ⟨PE.imp (pe_orT he hs) fun σ H Q ⟨W, st, ρ, sl, r, q⟩ => ?_, ⟨fun wh pins s σ H Q I ⟨W, st, ρ, sl, r, q⟩ => (pw_or ht hts).run wh pins s σ H Q I ?_⟩⟩
  · refine seqA sl r q fun x s1 W1 H1 v e1 r1 sl1 p1 q1 => ?_
    obtain ⟨b, eb, q2⟩ := q1.bind.opt
    have q3 := q2 W1 H1 (.refl W1 H1) r1
    refine ⟨b, by rw [o.K]; exact tru_rep r1 eb p1, ?_⟩
    cases b with
    | true => exact oq_ok r1 q3 _ p1
    | false => exact ⟨W1, s1, ρ, sl1, r1, q3⟩
  · have q' : OQ C Wx W H (fun k _ _ H' => Q k H') (((ev Γ m ρ st).bind fun x s => Out.opt (tru x) s).bind fun k s => if k = true then .ok true s else (evOr Γ (.cons m2 ms) ρ s).bind fun x s => Out.opt (tru x) s) := by
      have ee : ((evOr Γ (.cons m (.cons m2 ms)) ρ st).bind fun x s => Out.opt (tru x) s) = (((ev Γ m ρ st).bind fun x s => Out.opt (tru x) s).bind fun k s => if k = true then .ok true s else (evOr Γ (.cons m2 ms) ρ s).bind fun x s => Out.opt (tru x) s) := by
        show (((ev Γ m ρ st).bind fun x s => (Out.opt (tru x) s).bind fun k s => if k = true then .ok x s else evOr Γ (.cons m2 ms) ρ s).bind fun x s => Out.opt (tru x) s) = _
        rw [bind_assoc, bind_assoc]
        cases ev Γ m ρ st with
        | ok x s1 =>
          show (((Out.opt (tru x) s1).bind fun k s => if k = true then .ok x s else evOr Γ (.cons m2 ms) ρ s).bind fun x s => Out.opt (tru x) s) = (Out.opt (tru x) s1).bind _
          cases e : tru x with
          | none => rfl
          | some b =>
            cases b with
            | true =>
              show Out.opt (tru x) s1 = .ok true s1
              rw [e]; rfl
            | false => rfl
        | ex _ _ => rfl
        | bad => rfl
      rw [← ee]; exact q
    refine ⟨W, st, ρ, sl, r, q'.bind.imp fun b s1 W1 H1 e1 r1 q1 => ?_⟩
    cases b with
    | true => exact oq_ok r1 q1
    | false => exact ⟨W1, s1, ρ, sl.le e1.le, r1, q1⟩
end
end Mp
set_option Elab.async false
set_option linter.all false
set_option maxRecDepth 100000
set_option maxHeartbeats 2000000
/-! MpSnd6: calls, isinstance, targets, what is walked, comprehensions; every term. -/
namespace Mp
open PySem PySem.Spec PyProof.Rows L2
section
variable {P : Program} {w : World} {C : Rc} {base : Heap} {k : Nat} {N : List Str} {sc : Scope} {Wx : XK} {X : Cx} {Γ : Gm}
theorem tEvs_nil {m : Es} {es : List Expr} {N : List Str} {sc : Scope} (h : mts N sc m es = true) (e : es = []) : ∀ σ H Q, tEvs C Γ Wx m σ H Q → Q [] H := by
  subst e
  cases m with
  | nil => exact fun σ H Q ⟨W, st, ρ, sl, r, q⟩ => q W H (.refl W H) r [] rfl
  | cons _ _ => simp [mts] at h
theorem l_call (o : XOk P w C base k N sc Wx X) (G : GOk P w C base k Γ) {f : Str} {es : List Expr} {m : Es} {p pos : Pos} (hg : glB sc f = true) (hm : mts N sc m es = true) (ha : PA X es (tEvs C Γ Wx m)) :
    PE X (.Call (.Name f p) es [] pos) (tEv C Γ Wx (.call f m)) := by
  cases e : Γ.fn f with
  | none => exact ⟨fun pins s σ H Q I ⟨W, st, ρ, sl, r, q⟩ => by
      have q' : OQ C Wx W H (RD C Q) (match Γ.fn f with
        | some d => (evs Γ m ρ st).bind d
        | none => .bad) := q
      rw [e] at q'
      exact False.elim q'⟩
  | some den =>
    obtain ⟨fa, fd, ps, h1, h2, h3, h4⟩ := G.fn f den e
    refine PE.imp (pe_den o h4 h3 hg h1 h2 (mts_plain hm) ha (tEvs_nil hm)) fun σ H Q ⟨W, st, ρ, sl, r, q⟩ => ?_
    have q' : OQ C Wx W H (RD C Q) (match Γ.fn f with
      | some d => (evs Γ m ρ st).bind d
      | none => .bad) := q
    rw [e] at q'
    exact ⟨W, st, ρ, sl, r, q'.bind.imp fun ds s W1 H1 e1 r1 q1 vs p1 => ⟨W1, s, ds, p1, r1, q1⟩⟩
theorem l_mk (o : XOk P w C base k N sc Wx X) (G : GOk P w C base k Γ) {f : Str} {es : List Expr} {m : Es} {p pos : Pos} (hg : glB sc f = true) (hm : mts N sc m es = true) (ha : PA X es (tEvs C Γ Wx m)) :
    PE X (.Call (.Name f p) es [] pos) (tEv C Γ Wx (.mk f m)) := by
  cases e : Γ.mke f with
  | none => exact ⟨fun pins s σ H Q I ⟨W, st, ρ, sl, r, q⟩ => by
      have q' : OQ C Wx W H (RD C Q) (match Γ.mke f with
        | some d => (evs Γ m ρ st).bind d
        | none => .bad) := q
      rw [e] at q'
      exact False.elim q'⟩
  | some den =>
    refine PE.imp (G.mke f den e N sc Wx X o hg (mts_plain hm) ha (tEvs_nil hm)) fun σ H Q ⟨W, st, ρ, sl, r, q⟩ => ?_
    have q' : OQ C Wx W H (RD C Q) (match Γ.mke f with
      | some d => (evs Γ m ρ st).bind d
      | none => .bad) := q
    rw [e] at q'
    exact ⟨W, st, ρ, sl, r, q'.bind.imp fun ds s W1 H1 e1 r1 q1 vs p1 => ⟨W1, s, ds, p1, r1, q1⟩⟩

theorem l_mkk (o : XOk P w C base k N sc Wx X) (G : GOk P w C base k Γ) {f : Str} {ks : List Str} {kws : List Keyword} {m : Es} {p pos : Pos} (hg : glB sc f = true) (hn : kws.map (·.arg) = ks.map some) (ha : PK X kws (tEvs C Γ Wx m)) (hl : ∀ ρ s ds s', evs Γ m ρ s = .ok ds s' → ds.length = ks.length) :
    PE X (.Call (.Name f p) [] kws pos) (tEv C Γ Wx (.mkk f ks m)) := by
  cases e : Γ.mkk f ks with
  | none => exact ⟨fun pins s σ H Q I ⟨W, st, ρ, sl, r, q⟩ => by
      have q' : OQ C Wx W H (RD C Q) (match Γ.mkk f ks with
        | some d => (evs Γ m ρ st).bind d
        | none => .bad) := q
      rw [e] at q'
      exact False.elim q'⟩
  | some den =>
    refine PE.imp (G.mkk f ks den e N sc Wx X o hg hn ha fun σ H Q ⟨W, st, ρ, sl, r, q⟩ => ⟨W, st, ρ, sl, r, ?_⟩) fun σ H Q ⟨W, st, ρ, sl, r, q⟩ => ?_
    · cases eo : evs Γ m ρ st with
      | ok ds s' =>
        rw [eo] at q
        exact fun W' H' e1 r1 vs rp => ⟨by rw [← rp.length]; exact hl _ _ _ _ eo, q W' H' e1 r1 vs rp⟩
      | ex x s' => rw [eo] at q; exact q
      | bad => rw [eo] at q; exact q
    · have q' : OQ C Wx W H (RD C Q) (match Γ.mkk f ks with
        | some d => (evs Γ m ρ st).bind d
        | none => .bad) := q
      rw [e] at q'
      exact ⟨W, st, ρ, sl, r, q'.bind.imp fun ds s W1 H1 e1 r1 q1 vs p1 => ⟨W1, s, ds, p1, r1, q1⟩⟩

/-! ### isinstance -/
theorem tyX_of {W : Wd} {st : Ms} {H : Hp} (r : Rel C W st H) {d : D} {v : V} {n : String} (h : tyD d = some n) (p : Rep C W d v) : TyX C.K H v (.type n) := by
  cases d with
  | non => cases h; have e : v = .non := p; subst e; exact .base .non
  | bl b => cases h; have e : v = .bl b := p; subst e; exact .base (.bl b)
  | int b => cases h; have e : v = .int b := p; subst e; exact .base (.int b)
  | str b => cases h; have e : v = .str b := p; subst e; exact .base (.str b)
  | tup ds =>
    cases h
    obtain ⟨a, vs, e, s, _⟩ := p
    subst e
    rcases sqT_le r.sub s with z | ⟨o, its, n, h1, h2, _⟩
    · rcases z with z | ⟨o, z⟩
      · exact .base (.tup z)
      · exact .fTuple z
    · exact .kTuple h1 h2
  | lst ds =>
    cases h
    obtain ⟨a, vs, e, s, _⟩ := p
    subst e
    exact .base (.lst (r.sub _ _ s))
  | dct ds =>
    cases h
    obtain ⟨a, vs, e, s, _⟩ := p
    subst e
    exact .base (.dK (r.sub _ _ s))
  | ins _ _ _ => cases h
  | pen => cases h
  | scr => cases h
theorem tyD_mem {d : D} {n : String} (h : tyD d = some n) : n ∈ tyNames := by
  cases d <;> cases h <;> decide
/-- the class's value as it stands, as the deciders take it -/
theorem isi_spec (G : GOk P w C base k Γ) {W : Wd} {st : Ms} {H : Hp} (r : Rel C W st H) {d : D} {v : V} {c : Ic} {b : Bool} (h : isiD Γ d c = some b) (p : Rep C W d v) :
    ∃ t, TyX C.K H v t ∧ match c with
      | .ty n => PySem.W.kitOne C.K t (.type n) = some b
      | .own c => ∃ cl, C.mg c = some (.ref cl) ∧ PySem.W.kitOne C.K t (.ref cl) = some b := by
  have base : ∀ m, tyD d = some m → isiB Γ m c = some b → ∃ t, TyX C.K H v t ∧ match c with
      | .ty n => PySem.W.kitOne C.K t (.type n) = some b
      | .own c => ∃ cl, C.mg c = some (.ref cl) ∧ PySem.W.kitOne C.K t (.ref cl) = some b := fun m hm h => by
    refine ⟨_, tyX_of r hm p, ?_⟩
    cases c with
    | ty n => exact kit_ty h
    | own c =>
      have h' : (if Γ.own c = true then some false else none) = some b := h
      split at h'
      · rename_i ho
        cases h'
        exact G.tyO m c (tyD_mem hm) ho
      · cases h'
  cases d with
  | ins c' i fs =>
    have h' : (if Γ.own c' = true then (match c with
      | .own c => Γ.sub c' c
      | .ty n => Γ.isT c' n) else none) = some b := h
    by_cases ho : Γ.own c' = true
    · rw [if_pos ho] at h'
      obtain ⟨cl, o1, o2, o3, o4, o5, o6⟩ := G.own c' ho
      obtain ⟨a, cl', dx, vs, ev, m1, m2, _, _⟩ := p
      rw [o1] at m1
      cases m1
      subst ev
      refine ⟨.ref cl, .base (.ins (r.sub _ _ m2) o2 o3 o4 o5 o6), ?_⟩
      cases c with
      | own c =>
        obtain ⟨cl1, cl2, k1, k2, k3⟩ := G.sub c' c b h'
        rw [o1] at k1
        cases k1
        exact ⟨cl2, k2, k3⟩
      | ty n =>
        obtain ⟨cl1, k1, k3⟩ := G.isT c' n b h'
        rw [o1] at k1
        cases k1
        exact k3
    · rw [if_neg ho] at h'
      cases h'
  | non => exact base _ rfl h
  | bl _ => exact base _ rfl h
  | int _ => exact base _ rfl h
  | str _ => exact base _ rfl h
  | tup _ => exact base _ rfl h
  | lst _ => exact base _ rfl h
  | dct _ => exact base _ rfl h
  | pen => cases h
  | scr => cases h
theorem l_isi (o : XOk P w C base k N sc Wx X) (G : GOk P w C base k Γ) {y : Expr} {z : Str} {m : E} {c : Ic} {p p2 pos : Pos} (hg : glB sc "isinstance" = true) (hz : glB sc z = true) (hy : plainX y = true) (ha : PE X y (tEv C Γ Wx m))
    (hc : (match c with
      | .ty n => decide (z ∈ freeNames) && decide (bootBuiltins z = some (.type n))
      | .own c => decide (z = c)) = true) : PE X (.Call (.Name "isinstance" p) [y, .Name z p2] [] pos) (tEv C Γ Wx (.isi m c)) := by
  obtain ⟨g1, g2, g3⟩ := gl_of o hg
  obtain ⟨z1, z2, z3⟩ := gl_of o hz
  have hm : X.mg "isinstance" = none := by rw [o.mg]; exact G.free _ (by decide)
  have hs : starEach [y, .Name z p2] X.env = (false, eval y X.env) :: starEach [.Name z p2] X.env := plain_star hy
  have hs2 : starEach [.Name z p2] X.env = [(false, eval (.Name z p2) X.env)] := rfl
  by_cases hi : icOk Γ c = true
  case neg =>
    exact ⟨fun pins s σ H Q I ⟨W, st, ρ, sl, r, q⟩ => by
      have q' : OQ C Wx W H (RD C Q) (if icOk Γ c = true then (ev Γ m ρ st).bind fun x s => (Out.opt (isiD Γ x c) s).bind fun k s => .ok (.bl k) s else .bad) := q
      rw [if_neg hi] at q'
      exact False.elim q'⟩
  have go : ∀ (v : V), PE X (.Name z p2) (tC v) → (∀ W st H x (vx : V) b, Rel C W st H → Rep C W x vx → isiD Γ x c = some b → ∃ t u, ClsV v u ∧ TyX C.K H vx t ∧ PySem.W.kitOne C.K t u = some b) →
      PE X (.Call (.Name "isinstance" p) [y, .Name z p2] [] pos) (tEv C Γ Wx (.isi m c)) := fun v hv key => by
    refine PE.imp (pe_callB (t := tCons (tEv C Γ Wx m) (tCons (tC v) tNil)) call_isi g1 hm boot_isinstance (pa_cons ha (pa_cons hv pa_nil hs2) hs) g3 g2 hs (stars_any (by intro x hx; simp at hx; subst hx; rfl))) fun σ H Q ⟨W, st, ρ, sl, r, q⟩ => ?_
    have q' : OQ C Wx W H (RD C Q) (if icOk Γ c = true then (ev Γ m ρ st).bind fun x s => (Out.opt (isiD Γ x c) s).bind fun k s => .ok (.bl k) s else .bad) := q
    rw [if_pos hi] at q'
    refine seqA sl r q' fun x s1 W1 H1 vx e1 r1 sl1 p1 q1 => ?_
    obtain ⟨b, eb, q2⟩ := q1.bind.opt
    obtain ⟨t, u, k1, k2, k3⟩ := key W1 s1 H1 x vx b r1 p1 eb
    exact ⟨vx, v, t, u, b, rfl, k1, by rw [o.K]; exact k2, by rw [o.K]; exact k3, oq_ok r1 (q2 W1 H1 (.refl W1 H1) r1) _ rfl⟩
  cases c with
  | ty n =>
    simp only [Bool.and_eq_true, decide_eq_true_eq] at hc
    refine go (.ty n) (pe_bltn z1 (by rw [o.mg]; exact G.free z hc.1) hc.2 rfl z3 z2) fun W st H x vx b r p e => ?_
    obtain ⟨t, t1, t2⟩ := isi_spec G r e p
    exact ⟨t, .type n, .ty n, t1, t2⟩
  | own c =>
    have ez : z = c := of_decide_eq_true hc
    subst ez
    obtain ⟨cl, o1, _⟩ := G.own z hi
    refine go (.ref cl) (pe_glob z1 (by rw [o.mg]; exact o1) rfl z2) fun W st H x vx b r p e => ?_
    obtain ⟨t, t1, cl2, t2, t3⟩ := isi_spec G r e p
    rw [o1] at t2
    cases t2
    exact ⟨t, .ref cl, .own cl, t1, t3⟩

/-! ### targets -/
structure SlotsOff (C : Rc) (W : Wd) (is : List Nat) (ρ : List (Option D)) (σ : Sg) : Prop where
  len : ρ.length = σ.length
  at_ : ∀ (i : Nat) (d : D), i ∉ is → ρ[i]? = some (some d) → ∃ v, σ[i]? = some (some v) ∧ Rep C W d v
theorem Slots.off {W : Wd} {is : List Nat} {ρ : List (Option D)} {σ : Sg} (s : Slots C W ρ σ) : SlotsOff C W is ρ σ := ⟨s.len, fun i d _ e => s.at_ i d e⟩
theorem SlotsOff.wipe {W : Wd} {is : List Nat} {ρ : List (Option D)} {σ : Sg} (s : SlotsOff C W is ρ σ) : SlotsOff C W is ρ (L2.wipe σ is) :=
  ⟨by rw [wipe_length]; exact s.len, fun i d h e => by rw [wipe_out h]; exact s.at_ i d h e⟩
theorem SlotsOff.set {W : Wd} {is : List Nat} {ρ : List (Option D)} {σ : Sg} {i : Nat} (s : SlotsOff C W (i :: is) ρ σ) {d : D} {v : V} (r : Rep C W d v) : SlotsOff C W is (ρ.set i (some d)) (σ.set i (some v)) := by
  refine ⟨by simp [s.len], fun j e h q => ?_⟩
  by_cases hj : i = j
  · subst hj
    by_cases hi : i < ρ.length
    · rw [List.getElem?_set_self hi] at q
      cases q
      exact ⟨v, List.getElem?_set_self (by rw [← s.len]; exact hi), r⟩
    · rw [List.getElem?_eq_none (by simpa using hi)] at q
      cases q
  · rw [List.getElem?_set_ne hj] at q ⊢
    exact s.at_ j e (by simp only [List.mem_cons, not_or]; exact ⟨fun z => hj z.symm, h⟩) q
theorem wipe_at {σ : Sg} {is : List Nat} {j : Nat} : (L2.wipe σ is)[j]? = if j ∈ is then (σ[j]?).map (fun _ => none) else σ[j]? := by
  induction is with
  | nil => simp [L2.wipe]
  | cons i is ih =>
    unfold L2.wipe
    by_cases hj : i = j
    · subst hj
      rw [if_pos List.mem_cons_self]
      by_cases hi : i < σ.length
      · rw [List.getElem?_set_self (by rw [wipe_length]; exact hi), List.getElem?_eq_getElem hi]; rfl
      · rw [List.getElem?_eq_none (by rw [List.length_set, wipe_length]; omega), List.getElem?_eq_none (by omega)]; rfl
    · rw [List.getElem?_set_ne hj, ih]
      have e : (j ∈ i :: is) ↔ j ∈ is := by
        simp only [List.mem_cons]
        exact ⟨fun z => z.elim (fun z => absurd z.symm hj) id, .inr⟩
      by_cases h : j ∈ is
      · rw [if_pos h, if_pos (e.mpr h)]
      · rw [if_neg h, if_neg fun z => h (e.mp z)]
theorem wipe_set {σ : Sg} {is : List Nat} {i : Nat} {x : Option V} (h : i ∈ is) : L2.wipe (σ.set i x) is = L2.wipe σ is := by
  apply List.ext_getElem?
  intro j
  rw [wipe_at, wipe_at]
  by_cases hj : i = j
  · subst hj
    rw [if_pos h, if_pos h]
    by_cases hi : i < σ.length
    · rw [List.getElem?_set_self hi, List.getElem?_eq_getElem hi]; rfl
    · rw [List.getElem?_eq_none (by simpa using hi), List.getElem?_eq_none (by omega)]
  · rw [List.getElem?_set_ne hj]
theorem wipe_wipe {σ : Sg} {is : List Nat} : L2.wipe (L2.wipe σ is) is = L2.wipe σ is := by
  apply List.ext_getElem?
  intro j
  rw [wipe_at, wipe_at]
  by_cases h : j ∈ is
  · rw [if_pos h, if_pos h]
    cases σ[j]? <;> rfl
  · rw [if_neg h, if_neg h]
/-- a target's reading -/
def tTg (C : Rc) (t : Tg) : TG := fun v σ H Q => ∃ W st d ρ ρ', Rel C W st H ∧ Rep C W d v ∧ SlotsOff C W t.slots ρ σ ∧ bindT t d ρ = some ρ' ∧ ∀ σ', Slots C W ρ' σ' → L2.wipe σ' t.slots = L2.wipe σ t.slots → Q σ' H
theorem off_nil {W : Wd} {ρ : List (Option D)} {σ : Sg} (s : SlotsOff C W [] ρ σ) : Slots C W ρ σ := ⟨s.len, fun i d e => s.at_ i d (by simp) e⟩
def TgFn (X : Cx) (N : List Str) (is : List Nat) : Prop := ∀ i ∈ is, ∀ x, N[i]? = some x → X.fn x = true ∨ X.env.scope.names.lookup x = some .local
theorem pg_one (o : X.N = N) (nd : N.Nodup) {sc : Scope} (hs : ∀ x, locB sc x = true → Loc X.env.scope x) {i : Nat} {e : Expr} (h : mtTg1 N sc i e = true) (hf : TgFn X N [i]) : PG X e (gName i) := by
  cases e with
  | Name x pos =>
    have h' : (decide (N[i]? = some x) && locB sc x) = true := h
    simp only [Bool.and_eq_true, decide_eq_true_eq] at h'
    subst o
    exact pg_name nd h'.1 (hs x h'.2) (hf i List.mem_cons_self x h'.1)
  | _ => simp [mtTg1] at h
def gNames : List Nat → TGs
  | [] => gNil
  | i :: is => gCons (gName i) (gNames is)
theorem mtTg1_plain {N : List Str} {sc : Scope} {i : Nat} {e : Expr} (h : mtTg1 N sc i e = true) : plainX e = true := by
  cases e <;> first | rfl | simp [mtTg1] at h
theorem asg_cons {e : Expr} {es : List Expr} {env : Env} (h : plainX e = true) : assignEach (e :: es) env = (false, assign e env) :: assignEach es env := by
  cases e <;> first | rfl | cases h
theorem pgs_many (o : X.N = N) (nd : N.Nodup) {sc : Scope} (hs : ∀ x, locB sc x = true → Loc X.env.scope x) : ∀ (is : List Nat) (es : List Expr), mtTgs N sc is es = true → TgFn X N is →
    PGs X es (gNames is) ∧ (assignEach es X.env).length = is.length ∧ (assignEach es X.env).findIdx? (·.1) = none
  | [], [], _, _ => ⟨pgs_nil, rfl, rfl⟩
  | [], _ :: _, h, _ => by simp [mtTgs] at h
  | _ :: _, [], h, _ => by simp [mtTgs] at h
  | i :: is, e :: es, h, hf => by
    simp only [mtTgs, Bool.and_eq_true] at h
    obtain ⟨h1, h2, h3⟩ := pgs_many o nd hs is es h.2 fun j hj => hf j (List.mem_cons_of_mem _ hj)
    have hp := mtTg1_plain h.1
    have ea := asg_cons (es := es) (env := X.env) hp
    refine ⟨pgs_cons (pg_one o nd hs h.1 fun j hj => hf j (by simp at hj; subst hj; exact List.mem_cons_self)) h1 (by rw [ea]; rfl), ?_, ?_⟩
    · rw [ea, List.length_cons, h2, List.length_cons]
    · rw [ea, List.findIdx?_cons, h3]; rfl
theorem names_ok {W : Wd} {H : Hp} {Q : Sg → Hp → Prop} : ∀ (is : List Nat) (ds : List D) (vs : List V) (ρ ρ' : List (Option D)) (σ σ0 : Sg) (all : List Nat), putAll is ds ρ = some ρ' → Reps C W ds vs → SlotsOff C W is ρ σ → (∀ i ∈ is, i ∈ all) →
    L2.wipe σ all = L2.wipe σ0 all → (∀ σ', Slots C W ρ' σ' → L2.wipe σ' all = L2.wipe σ0 all → Q σ' H) → gNames is vs σ H Q ∧ is.length = vs.length
  | [], ds, vs, ρ, ρ', σ, σ0, all, h, r, s, _, e, q => by
    cases ds with
    | nil =>
      have e1 : vs = [] := r
      subst e1
      have e2 : ρ = ρ' := Option.some.inj h
      subst e2
      exact ⟨⟨rfl, q σ (off_nil s) e⟩, rfl⟩
    | cons _ _ => cases h
  | i :: is, ds, vs, ρ, ρ', σ, σ0, all, h, r, s, m, e, q => by
    cases ds with
    | nil => cases h
    | cons d ds =>
      obtain ⟨v, vr, ev, p, t⟩ := r
      subst ev
      obtain ⟨k1, k2⟩ := names_ok (H := H) (Q := Q) is ds vr (ρ.set i (some d)) ρ' (σ.set i (some v)) σ0 all h t (s.set p) (fun j hj => m j (List.mem_cons_of_mem _ hj)) (by rw [wipe_set (m i List.mem_cons_self)]; exact e) q
      exact ⟨⟨v, vr, rfl, k1⟩, by rw [List.length_cons, List.length_cons, k2]⟩
theorem PG.or {tg : Expr} {g g' : TG} (h : PG X tg g) (h' : PG X tg g') : PG X tg (fun v σ H Q => g v σ H Q ∨ g' v σ H Q) :=
  ⟨fun pins s σ H v u Q I r q => q.elim (fun q => h.run pins s σ H v u Q I r q) fun q => h'.run pins s σ H v u Q I r q⟩
theorem PG.imp {tg : Expr} {g g' : TG} (h : PG X tg g) (i : ∀ v σ H Q, g' v σ H Q → g v σ H Q) : PG X tg g' := ⟨fun pins s σ H v u Q I r q => h.run pins s σ H v u Q I r (i v σ H Q q)⟩
theorem l_tg (hc : X.calm = true) (hK : X.K = C.K) (o : X.N = N) (nd : N.Nodup) {sc : Scope} (hs : ∀ x, locB sc x = true → Loc X.env.scope x) {t : Tg} {e : Expr} (h : mtTg N sc t e = true) (hf : TgFn X N t.slots) : PG X e (tTg C t) := by
  cases t with
  | v i =>
    refine PG.imp (pg_one o nd hs h hf) fun v σ H Q ⟨W, st, d, ρ, ρ', r, p, s, b, q⟩ => ?_
    have eb : ρ.set i (some d) = ρ' := Option.some.inj b
    subst eb
    exact q _ (off_nil (s.set p)) (wipe_set List.mem_cons_self)
  | t is =>
    cases e with
    | Tuple es kk pos =>
      have h' : (mtTgs N sc is es && decide is.Nodup) = true := h
      simp only [Bool.and_eq_true] at h'
      obtain ⟨h1, h2, h3⟩ := pgs_many o nd hs is es h'.1 hf
      refine PG.imp (PG.or (pg_tup (k := kk) (pos := pos) hc h1 h2 h3) (pg_unl (k := kk) (pos := pos) hc h1 h2 h3)) fun v σ H Q ⟨W, st, d, ρ, ρ', r, p, s, b, q⟩ => ?_
      cases d with
      | tup ds =>
        obtain ⟨a, vs, ev, sa, qa⟩ := p
        obtain ⟨k1, k2⟩ := names_ok is ds vs ρ ρ' σ σ is b qa s (fun _ z => z) rfl q
        exact .inl ⟨a, vs, ev, by rw [hK]; exact sqT_le r.sub sa, k2.symm, k1⟩
      | lst ds =>
        obtain ⟨a, vs, ev, sa, qa⟩ := p
        obtain ⟨k1, k2⟩ := names_ok is ds vs ρ ρ' σ σ is b qa s (fun _ z => z) rfl q
        exact .inr ⟨a, vs, ev, .of (r.sub _ _ sa), k2.symm, k1⟩
      | _ => cases b
    | _ => simp [mtTg] at h
end
end Mp
set_option Elab.async false
set_option linter.all false
set_option maxRecDepth 100000
set_option maxHeartbeats 2000000
/-! MpSnd7: what is walked, comprehensions; every term keeps its reading. -/
namespace Mp
open PySem PySem.Spec PyProof.Rows L2
section
variable {P : Program} {w : World} {C : Rc} {base : Heap} {k : Nat} {N : List Str} {sc : Scope} {Wx : XK} {X : Cx} {Γ : Gm}
/-- a walk that yields these data -/
def DWalk (C : Rc) (W : Wd) (J : L2.It) (ds : List D) : Prop :=
  ∃ (Gp : Hp → Prop) (Y : Nat → Hp → V → Hp → Prop), Walk J ds.length Gp Y ∧ (∀ W' st H, Le W W' → Rel C W' st H → Gp H) ∧
    ∀ i W' st H x H', i < ds.length → Le W W' → Rel C W' st H → Y i H x H' → ∃ W'' d, Ext W' H W'' H' ∧ Rel C W'' st H' ∧ ds[i]? = some d ∧ Rep C W'' d x
theorem dwalk_list {W : Wd} {a : Addr} {vs : List V} {ds : List D} (h : W.G a = some (.lst vs)) (q : Reps C W ds vs) : DWalk C W (Itl C.K a) ds := by
  refine ⟨fun H => SqL C.K H a vs, YAt vs, by rw [q.length]; exact walk_list, fun W' st H l r => .of (r.sub _ _ (l.G _ _ h)), fun i W' st H x H' hi l r y => ?_⟩
  obtain ⟨e, hx⟩ := y
  subst e
  obtain ⟨d, h1, h2⟩ := (Reps.le l _ _ q).get' hx
  exact ⟨W', d, .refl _ _, r, h1, h2⟩
theorem dwalk_tup {W : Wd} {a : Addr} {vs : List V} {ds : List D} (h : SqT C.K W.G a vs) (q : Reps C W ds vs) : DWalk C W (Itt C.K a) ds := by
  refine ⟨fun H => SqT C.K H a vs, YAt vs, by rw [q.length]; exact walk_tup, fun W' st H l r => sqT_le r.sub (sqT_le l.G h), fun i W' st H x H' hi l r y => ?_⟩
  obtain ⟨e, hx⟩ := y
  subst e
  obtain ⟨d, h1, h2⟩ := (Reps.le l _ _ q).get' hx
  exact ⟨W', d, .refl _ _, r, h1, h2⟩
theorem rngD_len {lo : Int} {n : Nat} : (rngD lo n).length = n := by simp [rngD]
theorem dwalk_rng {W : Wd} {lo : Int} {n : Nat} : DWalk C W (Itr lo n) (rngD lo n) := by
  refine ⟨fun _ => True, YFn fun i => .int (lo + i), by rw [rngD_len]; exact walk_range, fun _ _ _ _ _ => trivial, fun i W' st H x H' hi l r y => ?_⟩
  obtain ⟨e, hx⟩ := y
  subst e
  rw [rngD_len] at hi
  refine ⟨W', .int (lo + i), .refl _ _, r, ?_, hx⟩
  unfold rngD
  rw [List.getElem?_map, List.getElem?_range hi]; rfl
def zipD (xs ys : List D) : List D := (xs.zip ys).map fun p => D.tup [p.1, p.2]
theorem zipD_at {xs ys : List D} {i : Nat} {x y : D} (h1 : xs[i]? = some x) (h2 : ys[i]? = some y) : (zipD xs ys)[i]? = some (.tup [x, y]) := by
  unfold zipD
  rw [List.getElem?_map, List.getElem?_zip_eq_some.mpr (show xs[i]? = some (x, y).1 ∧ ys[i]? = some (x, y).2 from ⟨h1, h2⟩)]; rfl
theorem zipD_len {xs ys : List D} : (zipD xs ys).length = min xs.length ys.length := by simp [zipD]
theorem pair_turn {W W' : Wd} {st : Ms} {H H' : Hp} {vs ws : List V} {xs ys : List D} {i : Nat} {v : V} (l : Le W W') (r : Rel C W' st H) (qx : Reps C W xs vs) (qy : Reps C W ys ws) (y : YPair (fun i => vs[i]?) (fun i => ws[i]?) i H v H') :
    ∃ W'' d, Ext W' H W'' H' ∧ Rel C W'' st H' ∧ (zipD xs ys)[i]? = some d ∧ Rep C W'' d v := by
  obtain ⟨T, x, z, ev, hT, eH, h1, h2⟩ := y
  subst ev eH
  obtain ⟨d1, g1, p1⟩ := (Reps.le l _ _ qx).get' h1
  obtain ⟨d2, g2, p2⟩ := (Reps.le l _ _ qy).get' h2
  refine ⟨W'.put T (.tup [x, z]), .tup [d1, d2], ext_put r hT, rel_put r hT, zipD_at g1 g2, T, [x, z], rfl, .inl (.inl Wd.put_at), ?_⟩
  exact reps_put r hT ⟨x, [z], rfl, p1, z, [], rfl, p2, rfl⟩
theorem dwalk_zipL {W : Wd} {a b : Addr} {vs ws : List V} {xs ys : List D} (ha : W.G a = some (.lst vs)) (hb : W.G b = some (.lst ws)) (qx : Reps C W xs vs) (qy : Reps C W ys ws) : DWalk C W (Itz C.K a b) (zipD xs ys) := by
  refine ⟨fun H => SqL C.K H a vs ∧ SqL C.K H b ws, YPair (fun i => vs[i]?) (fun i => ws[i]?), walk_zip (by rw [zipD_len, qx.length, qy.length]), fun W' st H l r => ⟨.of (r.sub _ _ (l.G _ _ ha)), .of (r.sub _ _ (l.G _ _ hb))⟩, fun i W' st H x H' hi l r y => pair_turn l r qx qy y⟩
theorem walk_zipT {K : PySem.W.Frag} {a b : Addr} {xs ys : List V} {n : Nat} (hn : n = min xs.length ys.length) : Walk (RZ.ItzT K a b) n (fun H => SqT K H a xs ∧ SqT K H b ys) (YPair (fun i => xs[i]?) (fun i => ys[i]?)) := by
  subst hn
  refine ⟨fun i _ hi q => ?_, fun _ q => ⟨xs, ys, q.1, q.2, by omega⟩, fun i H v H' _ q y => ?_⟩
  · have h1 : i < xs.length := by omega
    have h2 : i < ys.length := by omega
    exact ⟨xs, ys, xs[i], ys[i], q.1, q.2, by simp [h1], by simp [h2]⟩
  · obtain ⟨T, x, z, h1, h2, h3, h4, h5⟩ := y
    exact ⟨T, x, z, h1, h2, h3, h4 xs q.1, h5 ys q.2⟩
theorem dwalk_zipT {W : Wd} {a b : Addr} {vs ws : List V} {xs ys : List D} (ha : SqT C.K W.G a vs) (hb : SqT C.K W.G b ws) (qx : Reps C W xs vs) (qy : Reps C W ys ws) : DWalk C W (RZ.ItzT C.K a b) (zipD xs ys) := by
  refine ⟨fun H => SqT C.K H a vs ∧ SqT C.K H b ws, YPair (fun i => vs[i]?) (fun i => ws[i]?), walk_zipT (by rw [zipD_len, qx.length, qy.length]), fun W' st H l r => ⟨sqT_le r.sub (sqT_le l.G ha), sqT_le r.sub (sqT_le l.G hb)⟩, fun i W' st H x H' hi l r y => pair_turn l r qx qy y⟩

/-- what is walked: its reading -/
def tEvI (C : Rc) (Γ : Gm) (Wx : XK) (m : It) : TI := fun σ H R => ∃ W st ρ, Slots C W ρ σ ∧ Rel C W st H ∧ OQ C Wx W H (fun ds _ W' H' => ∀ J, DWalk C W' J ds → R J H') (evi Γ m ρ st)
def iSeq (K : PySem.W.Frag) (tl : TE) : TI := fun σ H R => tl σ H fun x H1 => (∃ a xs, x = .ref a ∧ SqL K H1 a xs ∧ R (Itl K a) H1) ∨ ∃ a xs, x = .ref a ∧ SqT K H1 a xs ∧ R (Itt K a) H1
theorem pi_seq {tg l : Expr} {tl : TE} (hl : PE X l tl) : PI X tg l (iSeq X.K tl) := by
  refine ⟨fun pins s σ H R I h => thn (hl.run pins s σ H _ I h) fun v s1 ⟨x, H1, I1, r1, q1⟩ => ?_⟩
  have one : ∀ b ∈ [s1.heap.objs.size], FpOk X pins H1 b := fun b hb => by
    have e : b = s1.heap.objs.size := List.mem_singleton.mp hb
    rw [e]
    exact I1.fpOk (Nat.le_refl _) (I1.hok.fresh (Nat.le_refl _))
  rcases q1 with ⟨a, xs, e, hq, q⟩ | ⟨a, xs, e, hq, q⟩
  · subst e
    cases r1
    obtain ⟨its, _, p, _⟩ := I1.list hq
    exact wpAny_pyIter_list p.isList ⟨_, _, _, _, H1, rfl, I1.kept (t' := s1.toks) fun b o e => Heap.get?_push_of_some _ e, turn_list a _, ⟨_, Heap.get?_push_size _ rfl, rfl, rfl⟩, one, q⟩
  · subst e
    cases r1
    obtain ⟨its, _, p, _⟩ := I1.tuple hq
    exact wpAny_pyIter_tuple (show s1.heap.IsTuple a its.toArray from p) ⟨_, _, _, _, H1, rfl, I1.kept (t' := s1.toks) fun b o e => Heap.get?_push_of_some _ e, turn_tuple a _, ⟨_, Heap.get?_push_size _ rfl, rfl, rfl⟩, one, q⟩
theorem i_seq (o : XOk P w C base k N sc Wx X) {tg e : Expr} {m : E} (h : PE X e (tEv C Γ Wx m)) : PI X tg e (tEvI C Γ Wx (.e m)) := by
  refine PI.imp (pi_seq h) fun σ H R ⟨W, st, ρ, sl, r, q⟩ => ?_
  refine seqA sl r q fun x s1 W1 H1 v e1 r1 sl1 p1 q1 => ?_
  obtain ⟨ds, ed, q2⟩ := q1.opt
  have q3 := q2 W1 H1 (.refl W1 H1) r1
  rw [o.K]
  cases x with
  | tup xs =>
    cases ed
    obtain ⟨a, vs, ev, sa, qa⟩ := p1
    exact .inr ⟨a, vs, ev, sqT_le r1.sub sa, q3 _ (dwalk_tup sa qa)⟩
  | lst xs =>
    cases ed
    obtain ⟨a, vs, ev, sa, qa⟩ := p1
    exact .inl ⟨a, vs, ev, .of (r1.sub _ _ sa), q3 _ (dwalk_list sa qa)⟩
  | _ => cases ed
theorem bnd_of {i : Int} (h : bnd62 i = true) : -(2 ^ 62) ≤ i ∧ i < 2 ^ 62 := of_decide_eq_true h
theorem i_rng1 (o : XOk P w C base k N sc Wx X) (G : GOk P w C base k Γ) {tg a : Expr} {m : E} {p pos : Pos} (hg : glB sc "range" = true) (hp : plainX a = true) (h : PE X a (tEv C Γ Wx m)) : PI X tg (.Call (.Name "range" p) [a] [] pos) (tEvI C Γ Wx (.rng1 m)) := by
  obtain ⟨g1, g2, g3⟩ := gl_of o hg
  have hm : X.mg "range" = none := by rw [o.mg]; exact G.free _ (by decide)
  refine PI.imp (pi_range1 (ta := tCons (tEv C Γ Wx m) tNil) g1 hm (pa_cons h pa_nil (plain_star hp)) (plain_star hp)) fun σ H R ⟨W, st, ρ, sl, r, q⟩ => ?_
  refine seqA sl r q fun x s1 W1 H1 v e1 r1 sl1 p1 q1 => ?_
  cases x with
  | int i =>
    have ev : v = .int i := p1
    subst ev
    by_cases hb : bnd62 i = true
    · have q2 : OQ C Wx W1 H1 (fun ds _ W' H' => ∀ J, DWalk C W' J ds → R J H') (if bnd62 i = true then .ok (rngD 0 i.toNat) s1 else .bad) := q1
      rw [if_pos hb] at q2
      exact ⟨i, rfl, (bnd_of hb).1, (bnd_of hb).2, oq_ok r1 q2 _ dwalk_rng⟩
    · have q2 : OQ C Wx W1 H1 (fun ds _ W' H' => ∀ J, DWalk C W' J ds → R J H') (if bnd62 i = true then .ok (rngD 0 i.toNat) s1 else .bad) := q1
      rw [if_neg hb] at q2
      exact False.elim q2
  | _ => exact False.elim q1
theorem i_rng2 (o : XOk P w C base k N sc Wx X) (G : GOk P w C base k Γ) {tg a b : Expr} {m n : E} {p pos : Pos} (hg : glB sc "range" = true) (hp : plainX a = true) (hp2 : plainX b = true) (h : PE X a (tEv C Γ Wx m)) (h2 : PE X b (tEv C Γ Wx n)) :
    PI X tg (.Call (.Name "range" p) [a, b] [] pos) (tEvI C Γ Wx (.rng2 m n)) := by
  obtain ⟨g1, g2, g3⟩ := gl_of o hg
  have hm : X.mg "range" = none := by rw [o.mg]; exact G.free _ (by decide)
  have s2 : starEach [b] X.env = [(false, eval b X.env)] := plain_star hp2
  refine PI.imp (pi_range2 (ta := tCons (tEv C Γ Wx m) (tCons (tEv C Γ Wx n) tNil)) g1 hm (pa_cons h (pa_cons h2 pa_nil s2) (plain_star hp)) (by rw [plain_star hp, s2]) s2) fun σ H R ⟨W, st, ρ, sl, r, q⟩ => ?_
  refine seqA sl r q fun x s1 W1 H1 v e1 r1 sl1 p1 q1 => ?_
  refine seqA sl1 r1 q1 fun y s2 W2 H2 u e2 r2 sl2 p2 q2 => ?_
  cases x with
  | int i =>
    cases y with
    | int j =>
      have ev : v = .int i := p1
      have eu : u = .int j := p2
      subst ev eu
      have q3 : OQ C Wx W2 H2 (fun ds _ W' H' => ∀ J, DWalk C W' J ds → R J H') (if bnd62 i = true ∧ bnd62 j = true then .ok (rngD i (j - i).toNat) s2 else .bad) := q2
      by_cases hb : bnd62 i = true ∧ bnd62 j = true
      · rw [if_pos hb] at q3
        exact ⟨i, j, rfl, ⟨(bnd_of hb.1).1, (bnd_of hb.1).2, (bnd_of hb.2).1, (bnd_of hb.2).2⟩, oq_ok r2 q3 _ dwalk_rng⟩
      · rw [if_neg hb] at q3
        exact False.elim q3
    | _ => exact False.elim q2
  | _ => exact False.elim q2
theorem i_zip (o : XOk P w C base k N sc Wx X) (G : GOk P w C base k Γ) {elts : List Expr} {kk : Nat} {tpos : Pos} {a b : Expr} {m n : E} {p pos : Pos} (hg : glB sc "zip" = true) (hp : plainX a = true) (hp2 : plainX b = true) (h : PE X a (tEv C Γ Wx m)) (h2 : PE X b (tEv C Γ Wx n)) :
    PI X (.Tuple elts kk tpos) (.Call (.Name "zip" p) [a, b] [] pos) (tEvI C Γ Wx (.zip m n)) := by
  obtain ⟨g1, g2, g3⟩ := gl_of o hg
  have hm : X.mg "zip" = none := by rw [o.mg]; exact G.free _ (by decide)
  have s2 : starEach [b] X.env = [(false, eval b X.env)] := plain_star hp2
  refine PI.imp (RZ.pi_zipA (ta := tCons (tEv C Γ Wx m) (tCons (tEv C Γ Wx n) tNil)) g1 hm (pa_cons h (pa_cons h2 pa_nil s2) (plain_star hp)) (plain_star hp) (by rw [s2]; rfl)) fun σ H R ⟨W, st, ρ, sl, r, q⟩ => ?_
  refine seqA sl r q fun x s1 W1 H1 v e1 r1 sl1 p1 q1 => ?_
  refine seqA sl1 r1 q1 fun y s2 W2 H2 u e2 r2 sl2 p2 q2 => ?_
  have p1' := Rep.le e2.le x v p1
  rw [o.K]
  cases x with
  | tup xs =>
    cases y with
    | tup ys =>
      obtain ⟨a1, vs, ev, sa, qa⟩ := p1'
      obtain ⟨b1, ws, eu, sb, qb⟩ := p2
      subst ev eu
      exact ⟨a1, b1, vs, ws, rfl, .inr ⟨sqT_le r2.sub sa, sqT_le r2.sub sb, oq_ok r2 q2 _ (dwalk_zipT sa sb qa qb)⟩⟩
    | _ => exact False.elim q2
  | lst xs =>
    cases y with
    | lst ys =>
      obtain ⟨a1, vs, ev, sa, qa⟩ := p1'
      obtain ⟨b1, ws, eu, sb, qb⟩ := p2
      subst ev eu
      exact ⟨a1, b1, vs, ws, rfl, .inl ⟨.of (r2.sub _ _ sa), .of (r2.sub _ _ sb), oq_ok r2 q2 _ (dwalk_zipL sa sb qa qb)⟩⟩
    | _ => exact False.elim q2
  | _ => exact False.elim q2

/-- an own list that is not known yet changes -/
theorem rel_chg {W : Wd} {st : Ms} {H : Hp} (r : Rel C W st H) {p : Addr} {o : HO} {vs : List V} (h : W.G p = none) (hp : H p = some (.lst vs)) : Rel C W st (upd H p o) where
  sub := fun a u e => by
    have n : a ≠ p := fun z => by rw [z, h] at e; cases e
    rw [upd_ne n]; exact r.sub a u e
  pen := fun x hx => by
    obtain ⟨q, h1, h2, h3, h4⟩ := r.pen x hx
    have n : x.1 ≠ p := fun z => by rw [z, hp] at h2; cases h2
    exact ⟨q, h1, by rw [upd_ne n]; exact h2, h3, h4⟩
  penE := r.penE
  nid := r.nid
  idlt := r.idlt
  idinj := r.idinj
theorem ext_chg {W W' : Wd} {H H' : Hp} (e : Ext W H W' H') {p : Addr} {o : HO} (h : H p = none) : Ext W H W' (upd H' p o) where
  le := e.le
  keep := fun a u z n => by
    have ne : a ≠ p := fun q => by rw [q, h] at z; cases z
    rw [upd_ne ne]; exact e.keep a u z n
  dom := fun a z => by
    by_cases q : a = p
    · rw [q]; exact h
    · rw [upd_ne q] at z; exact e.dom a z
  newG := e.newG
  scr := e.scr
theorem lst_stays {W W' : Wd} {st : Ms} {H H' : Hp} (r : Rel C W st H) (e : Ext W H W' H') {p : Addr} {vs : List V} (h : W.G p = none) (hp : H p = some (.lst vs)) : H' p = some (.lst vs) ∧ W'.G p = none := by
  refine ⟨e.keep p _ hp fun x hx z => ?_, ?_⟩
  · obtain ⟨q, _, h2, _⟩ := r.pen x hx
    rw [← z, hp] at h2
    cases h2
  · cases q : W'.G p with
    | none => rfl
    | some o =>
      rcases e.newG p o q with z | z
      · rw [h] at z; cases z
      · rw [hp] at z; cases z
/-- the heap but for one place -/
def del (H : Hp) (a : Addr) : Hp := fun b => if b = a then none else H b
theorem del_at {H : Hp} {a : Addr} : del H a a = none := if_pos rfl
theorem del_ne {H : Hp} {a b : Addr} (h : b ≠ a) : del H a b = H b := if_neg h
theorem del_some {H : Hp} {a b : Addr} {o : HO} (h : del H a b = some o) : b ≠ a ∧ H b = some o := by
  by_cases q : b = a
  · rw [q, del_at] at h; cases h
  · rw [del_ne q] at h; exact ⟨q, h⟩
theorem del_none {H : Hp} {a b : Addr} (h : H b = none) : del H a b = none := by
  by_cases q : b = a
  · rw [q, del_at]
  · rw [del_ne q]; exact h
theorem del_upd {H : Hp} {a : Addr} {o : HO} : del (upd H a o) a = del H a := by
  funext b
  by_cases q : b = a
  · rw [q, del_at, del_at]
  · rw [del_ne q, del_ne q, upd_ne q]
theorem del_free {H : Hp} {a : Addr} (h : H a = none) : del H a = H := by
  funext b
  by_cases q : b = a
  · rw [q, del_at, h]
  · rw [del_ne q]
/-- a place that we own: known to nobody, no drawing dict -/
structure Mine (W : Wd) (a : Addr) : Prop where
  g : W.G a = none
  p : ∀ x, W.pen = some x → x.1 ≠ a
theorem mine_of {W : Wd} {st : Ms} {H : Hp} (r : Rel C W st H) {a : Addr} {vs : List V} (h : W.G a = none) (ha : H a = some (.lst vs)) : Mine W a :=
  ⟨h, fun x hx z => by
    obtain ⟨q, _, h2, _⟩ := r.pen x hx
    rw [z, ha] at h2; cases h2⟩
theorem rel_del {W : Wd} {st : Ms} {H : Hp} (r : Rel C W st H) {a : Addr} (m : Mine W a) : Rel C W st (del H a) where
  sub := fun b u e => by
    have n : b ≠ a := fun z => by rw [z, m.g] at e; cases e
    rw [del_ne n]; exact r.sub b u e
  pen := fun x hx => by
    obtain ⟨q, h1, h2, h3, h4⟩ := r.pen x hx
    exact ⟨q, h1, by rw [del_ne (m.p x hx)]; exact h2, h3, h4⟩
  penE := r.penE
  nid := r.nid
  idlt := r.idlt
  idinj := r.idinj
theorem ext_del {W W' : Wd} {H H' : Hp} (e : Ext W H W' H') (a : Addr) : Ext W (del H a) W' (del H' a) where
  le := e.le
  keep := fun b u z n => by
    obtain ⟨q, z⟩ := del_some z
    rw [del_ne q]; exact e.keep b u z n
  dom := fun b z => by
    by_cases q : b = a
    · rw [q, del_at]
    · rw [del_ne q] at z ⊢; exact e.dom b z
  newG := fun b u z => (e.newG b u z).imp id del_none
  scr := e.scr
theorem mine_stays {W W' : Wd} {H H' : Hp} (e : Ext W H W' H') {a : Addr} {o : HO} (m : Mine W a) (h : H a = some o) : Mine W' a ∧ H' a = some o := by
  refine ⟨⟨?_, fun x hx z => m.p x (e.le.pen ▸ hx) z⟩, e.keep a o h fun x hx z => m.p x hx z.symm⟩
  · cases q : W'.G a with
    | none => rfl
    | some o' =>
      rcases e.newG a o' q with z | z
      · rw [m.g] at z; cases z
      · rw [h] at z; cases z
theorem ext_shrink {W W' : Wd} {H H' : Hp} (e : Ext W H W' H') (a : Addr) : Ext W (del H a) W' H' where
  le := e.le
  keep := fun b u z n => e.keep b u (del_some z).2 n
  dom := fun b z => del_none (e.dom b z)
  newG := fun b u z => (e.newG b u z).imp id del_none
  scr := e.scr
/-- what is wished without our place is wished with it -/
theorem OQ.mine {α : Type} {Wx : XK} {R : α → Ms → Wd → Hp → Prop} {W : Wd} {H : Hp} {a : Addr} {o : HO} (m : Mine W a) (h : H a = some o) : ∀ {x : Out α}, OQ C Wx W (del H a) R x → OQ C Wx W H (fun y s W' H' => R y s W' (del H' a)) x
  | .ok _ _, q => fun W' H' e r => q W' (del H' a) (ext_del e a) (rel_del r (mine_stays e m h).1)
  | .ex _ _, q => fun cls dx W' H' e r x => q cls dx W' H' (ext_shrink e a) r x
  | .bad, q => q
theorem OQ.shrink {α : Type} {Wx : XK} {R : α → Ms → Wd → Hp → Prop} {W : Wd} {H : Hp} {a : Addr} : ∀ {x : Out α}, OQ C Wx W (del H a) R x → OQ C Wx W H R x
  | .ok _ _, q => fun W' H' e r => q W' H' (ext_shrink e a) r
  | .ex _ _, q => fun cls dx W' H' e r x => q cls dx W' H' (ext_shrink e a) r x
  | .bad, q => q
/-- our place becomes known, never to change -/
theorem rel_frz {W : Wd} {st : Ms} {H : Hp} (r : Rel C W st H) {a : Addr} {o : HO} (m : Mine W a) (h : H a = some o) : Rel C (W.put a o) st H where
  sub := fun b u e => by
    have e' : upd W.G a o b = some u := e
    by_cases q : b = a
    · rw [q, upd_same] at e'; rw [q, h]; exact e'
    · rw [upd_ne q] at e'; exact r.sub b u e'
  pen := fun x hx => by
    obtain ⟨q, h1, h2, h3, h4⟩ := r.pen x hx
    refine ⟨q, h1, h2, ?_, (le_put m.g).G _ _ h4⟩
    show upd W.G a o x.1 = none
    rw [upd_ne (m.p x hx)]; exact h3
  penE := r.penE
  nid := r.nid
  idlt := fun i b e => by
    obtain ⟨h1, cl, dx, fs, h2⟩ := r.idlt i b e
    exact ⟨h1, cl, dx, fs, (le_put m.g).G _ _ h2⟩
  idinj := r.idinj
theorem ext_frz {W : Wd} {H : Hp} {a : Addr} {o : HO} (m : Mine W a) (h : H a = some o) : Ext W (del H a) (W.put a o) H where
  le := le_put m.g
  keep := fun b u z _ => (del_some z).2
  dom := fun b z => del_none z
  newG := fun b u z => by
    have z' : upd W.G a o b = some u := z
    by_cases q : b = a
    · rw [q]; exact .inr del_at
    · rw [upd_ne q] at z'; exact .inl z'
  scr := rfl
/-! ### comprehensions -/
/-- of a new list that nobody knows yet -/
def RF (C : Rc) (Q : VK) : D → Ms → Wd → Hp → Prop := fun d _ W H => ∃ ds, d = .lst ds ∧ ∀ a vs, H a = none → Mine W a → Reps C W ds vs → Q (.ref a) (upd H a (.lst vs))
def tEvF (C : Rc) (Γ : Gm) (Wx : XK) (m : E) : TE := fun σ H Q => ∃ W st ρ, Slots C W ρ σ ∧ Rel C W st H ∧ OQ C Wx W H (RF C Q) (ev Γ m ρ st)
theorem upd_del {H : Hp} {a : Addr} {o : HO} (h : H a = some o) : upd (del H a) a o = H := by
  funext b
  by_cases q : b = a
  · rw [q, upd_same, h]
  · rw [upd_ne q, del_ne q]

abbrev noX : XK := fun _ _ _ => False
theorem XOk.blk (o : XOk P w C base k N sc Wx X) (s : Shared) (H : Hp) (scope : Scope) (cl : List (Str × Addr)) (a : Addr) (fp : List Addr) : XOk P w C base k N (relS scope sc) noX (X.blk s H scope (compEnvC scope cl a X.env) fp) :=
  ⟨o.prog, o.wd, o.K, o.mg, o.base, o.calm, o.nm, o.nd, by rw [← o.sc]; rfl, o.rm, fun u s' ⟨_, _, _, _, _, _, _, _, _, _, _, _, _, _, _, _, z⟩ => False.elim z⟩
theorem loopL_nox {f : D → Ms → Out (Option D)} (hf : ∀ d s x s', f d s ≠ .ex x s') : ∀ ds s x s', loopL f ds s ≠ .ex x s'
  | [], s, x, s' => fun h => nomatch h
  | d :: ds, s, x, s' => fun h => by
    have h' : ((f d s).bind fun o s1 => (loopL f ds s1).bind fun r s2 => .ok (match o with
      | some x => x :: r
      | none => r) s2) = .ex x s' := h
    cases e : f d s with
    | ex _ _ => exact hf _ _ _ _ e
    | bad => rw [e] at h'; cases h'
    | ok o s1 =>
      rw [e] at h'
      have h2 : ((loopL f ds s1).bind fun r s2 => .ok (match o with
        | some x => x :: r
        | none => r) s2) = .ex x s' := h'
      cases e2 : loopL f ds s1 with
      | ex _ _ => exact loopL_nox hf _ _ _ _ e2
      | bad => rw [e2] at h2; cases h2
      | ok r s2 => rw [e2] at h2; cases h2
theorem nox_not_ex {α : Type} {o : Out α} {x : Exc} {s : Ms} : o.nox ≠ .ex x s := by
  cases o <;> exact fun h => nomatch h
/-- the rest of a comprehension's turns, what is made so far ahead of it -/
def lcRest (f : D → Ms → Out (Option D)) (acc : List D) (ds : List D) (s : Ms) : Out D := (loopL f ds s).bind fun r s => if (acc ++ r).length ≤ sizeLine then .ok (.lst (acc ++ r)) s else .bad
theorem lcRest_cons (f : D → Ms → Out (Option D)) (acc : List D) (d : D) (ds : List D) (s : Ms) : lcRest f acc (d :: ds) s = (f d s).bind fun o s1 => lcRest f (acc ++ o.toList) ds s1 := by
  unfold lcRest
  show (((f d s).bind fun o s1 => (loopL f ds s1).bind fun r s2 => .ok (match o with
      | some x => x :: r
      | none => r) s2).bind _) = _
  rw [bind_assoc]
  congr 1
  funext o s1
  rw [bind_assoc]
  congr 1
  funext r s2
  cases o with
  | none => simp
  | some x => simp
theorem lcRest_room {f : D → Ms → Out (Option D)} (hf : ∀ d s x s', f d s ≠ .ex x s') {acc ds : List D} {s : Ms} {R : D → Ms → Wd → Hp → Prop} {W : Wd} {H : Hp} (q : OQ C Wx W H R (lcRest f acc ds s)) : acc.length ≤ sizeLine := by
  unfold lcRest at q
  cases e : loopL f ds s with
  | ex x s' => exact absurd e (loopL_nox hf _ _ _ _)
  | bad => rw [e] at q; exact False.elim q
  | ok r s' =>
    rw [e] at q
    have q' : OQ C Wx W H R (if (acc ++ r).length ≤ sizeLine then .ok (.lst (acc ++ r)) s' else .bad) := q
    by_cases hz : (acc ++ r).length ≤ sizeLine
    · rw [List.length_append] at hz; omega
    · rw [if_neg hz] at q'; exact False.elim q'
def tEvC (C : Rc) (Γ : Gm) (Wx : XK) (m : Oe) : TT := fun σ H Q => ∃ W st ρ, Slots C W ρ σ ∧ Rel C W st H ∧ OQ C Wx W H (fun k _ _ H' => Q k H') (evc Γ m ρ st)
theorem own_slots {N : List Str} {t : Tg} : (t.own N).map (·.2) = t.slots := by
  unfold Tg.own
  rw [List.map_map]
  exact List.map_id _
theorem loc_relS {scope : Scope} {x : Str} (h : locB scope x = true) : Loc (relS scope sc) x := by
  unfold locB at h
  simp only [Bool.or_eq_true, decide_eq_true_eq] at h
  rcases h with h | h
  · exact .inl (lookup_relS_keep (sc := sc) (by decide) h)
  · exact .inr (lookup_relS_keep (sc := sc) (by decide) h)
theorem tg_names {N : List Str} {scope : Scope} : ∀ {t : Tg} {e : Expr}, mtTg N scope t e = true → ∀ i ∈ t.slots, ∀ x, N[i]? = some x → locB scope x = true := by
  have one : ∀ {i : Nat} {e : Expr}, mtTg1 N scope i e = true → ∀ x, N[i]? = some x → locB scope x = true := fun {i e} h x hx => by
    cases e with
    | Name y pos =>
      have h' : (decide (N[i]? = some y) && locB scope y) = true := h
      simp only [Bool.and_eq_true, decide_eq_true_eq] at h'
      rw [hx] at h'
      have e := Option.some.inj h'.1
      rw [e]; exact h'.2
    | _ => simp [mtTg1] at h
  have many : ∀ {is : List Nat} {es : List Expr}, mtTgs N scope is es = true → ∀ i ∈ is, ∀ x, N[i]? = some x → locB scope x = true := by
    intro is
    induction is with
    | nil => intro es _ i hi; cases hi
    | cons j is ih =>
      intro es h i hi
      cases es with
      | nil => simp [mtTgs] at h
      | cons e es =>
        simp only [mtTgs, Bool.and_eq_true] at h
        rcases List.mem_cons.mp hi with z | z
        · rw [z]; exact one h.1
        · exact ih h.2 i z
  intro t e h i hi x hx
  cases t with
  | v j =>
    have z : i = j := List.mem_singleton.mp hi
    rw [z] at hx
    exact one h x hx
  | t is =>
    cases e with
    | Tuple es kk pos =>
      have h' : (mtTgs N scope is es && decide is.Nodup) = true := h
      simp only [Bool.and_eq_true] at h'
      exact many h'.1 i hi x hx
    | _ => simp [mtTg] at h
theorem lc_fresh (o : XOk P w C base k N sc Wx X) {tg iter elt : Expr} {ifs : List Expr} {scope : Scope} {t : Tg} {it : It} {c : Oe} {e : E} (hi : PI X tg iter (tEvI C Γ Wx it)) (hp : plainX iter = true)
    (ht : mtTg N scope t tg = true) (hb : blkC N sc scope (t.own N) = true) (hin : ∀ X', XOk P w C base k N (relS scope sc) noX X' → PTs X' ifs (tEvC C Γ noX c) ∧ PE X' elt (tEv C Γ noX e)) :
    ∃ (wi : TI) (g : TG) (tt : TT) (te : TE), PI X tg iter wi ∧ BlkOk X.N X.env.scope scope (t.own N) ∧
      (∀ (s : Shared) (H : Hp) (C : Addr) (cl : List (Str × Addr)) (fp : List Addr), PG (X.blk s H scope (compEnvC scope cl C X.env) fp) tg g) ∧ (∀ (s : Shared) (H : Hp) (C : Addr) (cl : List (Str × Addr)) (fp : List Addr), PTs (X.blk s H scope (compEnvC scope cl C X.env) fp) ifs tt) ∧
      (∀ (s : Shared) (H : Hp) (C : Addr) (cl : List (Str × Addr)) (fp : List Addr), PE (X.blk s H scope (compEnvC scope cl C X.env) fp) elt te) ∧ ∀ σ H Q, tEvF C Γ Wx (.lc t it c e) σ H Q → tLc wi g tt te ((t.own N).map (·.2)) σ H Q := by
  have bo : BlkOk X.N X.env.scope scope (t.own N) := by rw [o.nm, o.sc]; exact blkOk_by hb
  have fnOk : ∀ (s : Shared) (H : Hp) (a : Addr) (cl : List (Str × Addr)) (fp : List Addr), TgFn (X.blk s H scope (compEnvC scope cl a X.env) fp) N t.slots := fun s H a cl fp i hi x hx => by
    have q := tg_names ht i hi x hx
    unfold locB at q
    simp only [Bool.or_eq_true, decide_eq_true_eq] at q
    rcases q with q | q
    · right
      show (relS scope X.env.scope).names.lookup x = _
      exact lookup_relS_keep (sc := X.env.scope) (by decide) q
    · left
      show (scope.names.lookup x == some .cell) = true
      rw [q]; rfl
  have pg : ∀ (s : Shared) (H : Hp) (a : Addr) (cl : List (Str × Addr)) (fp : List Addr), PG (X.blk s H scope (compEnvC scope cl a X.env) fp) tg (tTg C t) := fun s H a cl fp =>
    l_tg (X := X.blk s H scope (compEnvC scope cl a X.env) fp) o.calm o.K o.nm o.nd (fun x hx => (loc_relS (sc := X.env.scope) hx : Loc (relS scope X.env.scope) x)) ht (fnOk s H a cl fp)
  refine ⟨_, _, _, _, hi, bo, pg, fun s H a cl fp => (hin _ (o.blk s H scope cl a fp)).1, fun s H a cl fp => (hin _ (o.blk s H scope cl a fp)).2, fun σ H Q ⟨W, st, ρ, sl, r, q⟩ => ?_⟩
  rw [own_slots]
  let f : D → Ms → Out (Option D) := fun d s => (match bindT t d ρ with
    | none => Out.bad
    | some ρ' => (evc Γ c ρ' s).bind fun k s => if k = true then (ev Γ e ρ' s).bind fun x s => .ok (some x) s else .ok none s).nox
  have hf : ∀ d s x s', f d s ≠ .ex x s' := fun d s x s' => nox_not_ex
  refine ⟨W, st, ρ, sl, r, OQ.imp (OQ.bind (f := fun xs s => lcRest f [] xs s) q) fun xs s1 W1 H1 e1 r1 q1 J ⟨Gp, Y, wk, hG, hY⟩ a ha => ?_⟩
  refine lc_it wk (fun i H' => i ≤ xs.length ∧ ∃ W' s' acc vs, Le W1 W' ∧ Rel C W' s' H' ∧ H' a = some (.lst vs) ∧ Mine W' a ∧ Reps C W' acc vs ∧ OQ C Wx W' (del H' a) (RF C Q) (lcRest f acc (xs.drop i) s')) ?_ ?_ ?_ ?_
  · refine ⟨Nat.zero_le _, W1, s1, [], [], .refl _, rel_own r1 ha, upd_same, mine_of (H := upd H1 a (.lst [])) (vs := []) (rel_own r1 ha) (G_free r1 ha) upd_same, rfl, ?_⟩
    rw [del_upd, del_free ha]; exact q1
  · rintro i H' hi ⟨_, W', s', acc, vs, x1, x2, x3, x4, x5, x6⟩
    exact hG W' s' H' x1 x2
  · rintro i x H' H'' hi ⟨_, W', s', acc, vs, x1, x2, x3, x4, x5, x6⟩ hy
    obtain ⟨W2, d, y1, y2, y3, y4⟩ := hY i W' s' H' x H'' hi x1 x2 hy
    have hd : xs.drop i = d :: xs.drop (i + 1) := by
      have z := List.getElem?_eq_some_iff.mp y3
      rw [List.drop_eq_getElem_cons hi, z.2]
    rw [hd, lcRest_cons] at x6
    have x7 := x6.mono (ext_del y1 a)
    obtain ⟨z1, z2⟩ := mine_stays y1 x4 x3
    have x8 : OQ C noX W2 (del H'' a) (fun o s3 W3 H3 => OQ C Wx W3 H3 (RF C Q) (lcRest f (acc ++ o.toList) (xs.drop (i + 1)) s3)) (match bindT t d ρ with
      | none => Out.bad
      | some ρ' => (evc Γ c ρ' s').bind fun k s => if k = true then (ev Γ e ρ' s).bind fun x s => .ok (some x) s else .ok none s) := x7.bind.nox noX
    have x9 := OQ.mine z1 z2 x8
    cases eb : bindT t d ρ with
    | none => rw [eb] at x9; exact False.elim x9
    | some ρ' =>
      rw [eb] at x9
      refine ⟨W2, s', d, ρ, ρ', y2, y4, ((sl.le (e1.le.trans (x1.trans y1.le))).off.wipe), eb, fun σ' hs hw => ⟨by rw [hw, wipe_wipe], ?_⟩⟩
      refine ⟨W2, s', ρ', hs, y2, x9.bind.imp fun b s3 W3 H3 e3 r3 q3 => ?_⟩
      obtain ⟨z3, z4⟩ := mine_stays e3 z1 z2
      cases b with
      | true =>
        refine ⟨W3, s3, ρ', hs.le e3.le, r3, OQ.imp (OQ.bind (f := fun x s => Out.ok (some x) s) q3) fun y s4 W4 H4 e4 r4 q4 v p4 => ?_⟩
        obtain ⟨z5, z6⟩ := mine_stays e4 z3 z4
        have q5 : OQ C Wx W4 (del H4 a) (RF C Q) (lcRest f (acc ++ [y]) (xs.drop (i + 1)) s4) := oq_ok r4 q4
        have room : acc.length + 1 ≤ sizeLine := by
          have z := lcRest_room hf q5
          rw [List.length_append] at z
          exact z
        have lv := x5.length
        refine ⟨vs, z6, by omega, by omega, W4, s4, acc ++ [y], vs ++ [v], x1.trans (y1.le.trans (e3.le.trans e4.le)), rel_chg r4 z5.g z6, upd_same, z5, ?_, ?_⟩
        · exact (Reps.le (y1.le.trans (e3.le.trans e4.le)) _ _ x5).append ⟨v, [], rfl, p4, rfl⟩
        · rw [del_upd]; exact q5
      | false =>
        have q4 := oq_ok r3 q3
        refine ⟨by omega, W3, s3, acc, vs, x1.trans (y1.le.trans e3.le), r3, z4, z3, Reps.le (y1.le.trans e3.le) _ _ x5, ?_⟩
        have q5 : OQ C Wx W3 (del H3 a) (RF C Q) (lcRest f (acc ++ []) (xs.drop (i + 1)) s3) := q4
        rw [List.append_nil] at q5
        exact q5
  · rintro H' ⟨_, W', s', acc, vs, x1, x2, x3, x4, x5, x6⟩
    rw [List.drop_length] at x6
    have x7 : OQ C Wx W' (del H' a) (RF C Q) (if (acc ++ []).length ≤ sizeLine then .ok (.lst (acc ++ [])) s' else .bad) := x6
    rw [List.append_nil] at x7
    by_cases hz : acc.length ≤ sizeLine
    · rw [if_pos hz] at x7
      obtain ⟨ds, ed, x8⟩ := oq_ok (rel_del x2 x4) x7
      have ed := D.lst.inj ed
      subst ed
      have x9 := x8 a vs del_at x4 x5
      rw [upd_del x3] at x9
      exact x9
    · rw [if_neg hz] at x7
      exact False.elim x7
/-- what is new is known at once -/
theorem fresh_shared {m : E} {ee : Expr} (h : PE X ee (tEvF C Γ Wx m)) (hl : ∀ ρ s d s', ev Γ m ρ s = .ok d s' → ∃ ds, d = .lst ds) : PE X ee (tEv C Γ Wx m) := by
  refine PE.imp h fun σ H Q ⟨W, st, ρ, sl, r, q⟩ => ⟨W, st, ρ, sl, r, ?_⟩
  cases e : ev Γ m ρ st with
  | ok d s' =>
    rw [e] at q
    obtain ⟨ds, ed⟩ := hl _ _ _ _ e
    exact fun W' H' x r' => ⟨ds, ed, fun a vs ha mi rp => q _ _ (x.trans (ext_put r' ha)) (rel_put r' ha) _ (by rw [ed]; exact ⟨a, vs, rfl, Wd.put_at, reps_put r' ha rp⟩)⟩
  | ex x s' => rw [e] at q; exact q
  | bad => rw [e] at q; exact q
theorem lc_lst {t : Tg} {it : It} {c : Oe} {m : E} {ρ : List (Option D)} {s : Ms} {d : D} {s' : Ms} (h : ev Γ (.lc t it c m) ρ s = .ok d s') : ∃ ds, d = .lst ds := by
  have h' : ((evi Γ it ρ s).bind fun xs s => (loopL _ xs s).bind fun ds s => if ds.length ≤ sizeLine then Out.ok (D.lst ds) s else .bad) = .ok d s' := h
  cases e1 : evi Γ it ρ s with
  | ok xs s1 =>
    rw [e1] at h'
    have h2 : ((loopL _ xs s1).bind fun ds s => if ds.length ≤ sizeLine then Out.ok (D.lst ds) s else .bad) = .ok d s' := h'
    have key : ∀ o : Out (List D), (o.bind fun ds s => if ds.length ≤ sizeLine then Out.ok (D.lst ds) s else .bad) = .ok d s' → ∃ ds, d = .lst ds := fun o h => by
      cases o with
      | ok ds s2 =>
        have h3 : (if ds.length ≤ sizeLine then Out.ok (D.lst ds) s2 else .bad) = .ok d s' := h
        split at h3
        · cases h3; exact ⟨ds, rfl⟩
        · cases h3
      | ex _ _ => cases h
      | bad => cases h
    exact key _ h2
  | ex _ _ => rw [e1] at h'; cases h'
  | bad => rw [e1] at h'; cases h'
theorem l_lc (o : XOk P w C base k N sc Wx X) {tg iter elt : Expr} {ifs : List Expr} {scope : Scope} {pos : Pos} {t : Tg} {it : It} {c : Oe} {e : E} (hi : PI X tg iter (tEvI C Γ Wx it)) (hp : plainX iter = true)
    (ht : mtTg N scope t tg = true) (hb : blkC N sc scope (t.own N) = true) (hin : ∀ X', XOk P w C base k N (relS scope sc) noX X' → PTs X' ifs (tEvC C Γ noX c) ∧ PE X' elt (tEv C Γ noX e)) :
    PE X (.ListComp elt [⟨tg, iter, ifs, 0⟩] scope pos) (tEvF C Γ Wx (.lc t it c e)) := by
  obtain ⟨wi, g, tt, te, h1, h2, h3, h4, h5, h6⟩ := lc_fresh (Γ := Γ) o hi hp ht hb hin
  exact PE.imp (pe_lc o.calm (by rw [o.nm]; exact o.nd) h1 h2 h3 h4 h5 (plain_set hp)) h6
theorem rel_chgM {W : Wd} {st : Ms} {H : Hp} (r : Rel C W st H) {p : Addr} {o : HO} (m : Mine W p) : Rel C W st (upd H p o) where
  sub := fun a u e => by
    have n : a ≠ p := fun z => by rw [z, m.g] at e; cases e
    rw [upd_ne n]; exact r.sub a u e
  pen := fun x hx => by
    obtain ⟨q, h1, h2, h3, h4⟩ := r.pen x hx
    exact ⟨q, h1, by rw [upd_ne (m.p x hx)]; exact h2, h3, h4⟩
  penE := r.penE
  nid := r.nid
  idlt := r.idlt
  idinj := r.idinj
/-! ### a dict of one pair -/
theorem l_dic {x : Str} {v : Expr} {m : E} {j : Nat} {p1 pos : Pos} (hv : PE X v (tEv C Γ Wx m)) : PE X (.Dict [some (.Constant (.str x) j p1)] [v] pos) (tEv C Γ Wx (.dic x m)) := by
  refine PE.imp (pe_disp (pps_cons pe_str hv pps_nil) rfl rfl (by simp) (by simp)) fun σ H Q ⟨W, st, ρ, sl, r, q⟩ => ?_
  intro p hp
  have q1 : OQ C Wx W H (RD C Q) ((ev Γ m ρ st).bind fun d s => .ok (.dct [(.inr x, d)]) s) := q
  refine ⟨W, st, ρ, sl, rel_own r hp, ((OQ.bind0 q1).mono (ext_own hp)).imp fun d s W2 H2 e2 r2 q2 u pu => ?_⟩
  have np : ∀ y, W.pen = some y → p ≠ y.1 := fun y hy z => by
    obtain ⟨_, _, h2, _⟩ := r.pen y hy
    rw [← z, hp] at h2
    cases h2
  have h2 : H2 p = some (.dK []) := e2.keep p _ upd_same np
  have g2 : W2.G p = none := by
    cases z : W2.G p with
    | none => rfl
    | some o =>
      rcases e2.newG p o z with y | y
      · rw [G_free r hp] at y; cases y
      · rw [upd_same] at y; cases y
  have mi : Mine W2 p := ⟨g2, fun y hy z => np y (e2.le.pen.symm.trans hy) z.symm⟩
  refine ⟨h2, [(.inr x, u)], rfl, by simp, ?_⟩
  have r3 := rel_frz (rel_chgM (o := .dK [(.inr x, u)]) r2 mi) mi upd_same
  have e3 : Ext W H (W2.put p (.dK [(.inr x, u)])) (upd H2 p (.dK [(.inr x, u)])) := {
    le := e2.le.trans (le_put g2)
    keep := fun a o h n => by
      have na : a ≠ p := fun z => by rw [z, hp] at h; cases h
      rw [upd_ne na]
      exact e2.keep a o (by rw [upd_ne na]; exact h) n
    dom := fun a h => by
      by_cases z : a = p
      · rw [z]; exact hp
      · rw [upd_ne z] at h
        have := e2.dom a h
        rw [upd_ne z] at this
        exact this
    newG := fun a o h => by
      have h' : upd W2.G p (.dK [(.inr x, u)]) a = some o := h
      by_cases z : a = p
      · rw [z]; exact .inr hp
      · rw [upd_ne z] at h'
        rcases e2.newG a o h' with y | y
        · exact .inl y
        · rw [upd_ne z] at y; exact .inr y
    scr := e2.scr }
  exact q2 _ _ e3 r3 _ ⟨p, [(.inr x, u)], rfl, Wd.put_at, u, [], rfl, Rep.le (le_put g2) _ _ pu, rfl⟩
/-! ### the drawing dict -/
theorem pen_val {W : Wd} {st : Ms} {H : Hp} (r : Rel C W st H) {a c : Addr} (hp : W.pen = some (a, c)) {p : Pen} (hs : st.pen = some p) {k : Str} {d : D} (h : penGet k p = some d) : ∃ v, valV (penKvs p c) (.inr k) = some v ∧ Rep C W d v := by
  obtain ⟨q, h1, h2, h3, h4⟩ := r.pen _ hp
  rw [hs] at h1
  cases h1
  have key : ∀ (k' : Str) (d' : D) (v : V), k = k' → valV (penKvs p c) (.inr k') = some v → Rep C W d' v → d' = d → ∃ v, valV (penKvs p c) (.inr k) = some v ∧ Rep C W d v := fun k' d' v e1 e2 e3 e4 => by
    subst e1 e4
    exact ⟨v, e2, e3⟩
  unfold penGet at h
  split at h
  · rename_i e; exact key "cells" (.lst (p.cells.map .int)) (.ref c) e (by rfl) ⟨c, _, rfl, h4, Reps.ofInts _⟩ (Option.some.inj h)
  split at h
  · rename_i e; exact key "at" (.int p.at_) (.int p.at_) e (by rfl) rfl (Option.some.inj h)
  split at h
  · rename_i e; exact key "digits" (.int p.digits) (.int p.digits) e (by rfl) rfl (Option.some.inj h)
  split at h
  · rename_i e; exact key "count" (.int p.count) (.int p.count) e (by rfl) rfl (Option.some.inj h)
  split at h
  · rename_i e; exact key "fold" (.int p.fold) (.int p.fold) e (by rfl) rfl (Option.some.inj h)
  · cases h
theorem l_pnf (o : XOk P w C base k N sc Wx X) {i : Nat} {x f : Str} {j : Nat} {p1 p2 pos : Pos} (h : rdB N sc i x = true) : PE X (.Subscript (.Name x p1) (.Constant (.str f) j p2) pos) (tEv C Γ Wx (.pnf i f)) := by
  obtain ⟨h1, h2, h3, h4⟩ := rd_of h
  have u := o.units
  have vis : Vis X.env.scope x := by
    rw [o.sc]
    unfold visB at h2
    simp only [Bool.or_eq_true, decide_eq_true_eq] at h2
    rcases h2 with (z | z) | z
    · exact .inl z
    · exact .inr (.inl z)
    · exact .inr (.inr z)
  refine PE.imp (pe_dget (by omega) (pe_var (i := i) (by rw [o.nm]; exact h1) vis h3 h4) pe_str (fun _ _ => rfl)) fun σ H Q ⟨W, st, ρ, sl, r, q⟩ => ?_
  have q1 : OQ C Wx W H (RD C Q) (match (ρ[i]?).join with
    | some .pen => Out.opt (st.pen.bind (penGet f)) st
    | _ => .bad) := q
  cases ej : (ρ[i]?).join with
  | none => rw [ej] at q1; exact False.elim q1
  | some d =>
    rw [ej] at q1
    cases d with
    | pen =>
      obtain ⟨d, ed, q2⟩ := OQ.opt (show OQ C Wx W H (RD C Q) (Out.opt (st.pen.bind (penGet f)) st) from q1)
      obtain ⟨p, ep, e2⟩ := Option.bind_eq_some_iff.mp ed
      have e3 : ρ[i]? = some (some .pen) := by
        cases z : ρ[i]? with
        | none => rw [z] at ej; cases ej
        | some y => rw [z] at ej; have ej' : y = some .pen := ej; rw [ej']
      obtain ⟨v, hv, a, c, ev, hp⟩ := sl.at_ i _ e3
      subst ev
      obtain ⟨t, ht, rt⟩ := pen_val r hp ep e2
      obtain ⟨q', g1, g2, _⟩ := r.pen _ hp
      rw [ep] at g1
      cases g1
      refine ⟨_, hv, a, t, rfl, ?_, q2 W H (.refl W H) r t rt⟩
      rw [← ht]
      exact DGet.k (k := .inr f) g2
    | _ => exact False.elim q1
end
end Mp
set_option Elab.async false
set_option linter.all false
set_option maxRecDepth 100000
set_option maxHeartbeats 4000000
/-! MpSnd8: every term keeps its reading. -/
namespace Mp
open PySem PySem.Spec PyProof.Rows L2
variable {P : Program} {w : World} {C : Rc} {base : Heap} {k : Nat} {Γ : Gm}
theorem mti_plain {N : List Str} {sc : Scope} {m : It} {tg e : Expr} (h : mti N sc m tg e = true) : plainX e = true := by
  cases m with
  | e a => exact mt_plain (by simpa [mti] using h)
  | rng1 a => cases e <;> first | rfl | simp [mti] at h
  | rng2 a b => cases e <;> first | rfl | simp [mti] at h
  | zip a b => cases e <;> first | rfl | (cases tg <;> simp [mti] at h)
theorem mti_rng1 {N : List Str} {sc : Scope} {a : E} {tg e : Expr} (h : mti N sc (.rng1 a) tg e = true) : ∃ p y pos, e = .Call (.Name "range" p) [y] [] pos ∧ glB sc "range" = true ∧ mt N sc a y = true := by
  cases e <;> first | (simp [mti] at h; done) | skip
  rename_i fn args kws pos
  cases fn <;> first | (simp [mti] at h; done) | skip
  rename_i x p
  rcases args with _ | ⟨y, _ | ⟨_, _⟩⟩ <;> rcases kws with _ | ⟨_, _⟩ <;> first | (simp [mti] at h; done) | skip
  simp only [mti, Bool.and_eq_true, decide_eq_true_eq] at h
  obtain ⟨⟨h1, h2⟩, h3⟩ := h
  subst h1
  exact ⟨p, y, pos, rfl, h2, h3⟩
theorem mti_rng2 {N : List Str} {sc : Scope} {a b : E} {tg e : Expr} (h : mti N sc (.rng2 a b) tg e = true) : ∃ p y z pos, e = .Call (.Name "range" p) [y, z] [] pos ∧ glB sc "range" = true ∧ mt N sc a y = true ∧ mt N sc b z = true := by
  cases e <;> first | (simp [mti] at h; done) | skip
  rename_i fn args kws pos
  cases fn <;> first | (simp [mti] at h; done) | skip
  rename_i x p
  rcases args with _ | ⟨y, _ | ⟨z, _ | ⟨_, _⟩⟩⟩ <;> rcases kws with _ | ⟨_, _⟩ <;> first | (simp [mti] at h; done) | skip
  simp only [mti, Bool.and_eq_true, decide_eq_true_eq] at h
  obtain ⟨⟨⟨h1, h2⟩, h3⟩, h4⟩ := h
  subst h1
  exact ⟨p, y, z, pos, rfl, h2, h3, h4⟩
theorem mti_zip {N : List Str} {sc : Scope} {a b : E} {tg e : Expr} (h : mti N sc (.zip a b) tg e = true) : ∃ es kk tp p y z pos, tg = .Tuple es kk tp ∧ e = .Call (.Name "zip" p) [y, z] [] pos ∧ glB sc "zip" = true ∧ mt N sc a y = true ∧ mt N sc b z = true := by
  cases tg <;> first | (cases e <;> simp [mti] at h; done) | skip
  rename_i es kk tp
  cases e <;> first | (simp [mti] at h; done) | skip
  rename_i fn args kws pos
  cases fn <;> first | (simp [mti] at h; done) | skip
  rename_i x p
  rcases args with _ | ⟨y, _ | ⟨z, _ | ⟨_, _⟩⟩⟩ <;> rcases kws with _ | ⟨_, _⟩ <;> first | (simp [mti] at h; done) | skip
  simp only [mti, Bool.and_eq_true, decide_eq_true_eq] at h
  obtain ⟨⟨⟨h1, h2⟩, h3⟩, h4⟩ := h
  subst h1
  exact ⟨es, kk, tp, p, y, z, pos, rfl, rfl, h2, h3, h4⟩
theorem mt_lc {N : List Str} {sc : Scope} {t : Tg} {it : It} {c : Oe} {m : E} {e : Expr} (h : mt N sc (.lc t it c m) e = true) : ∃ elt tg i ifs scope pos, e = .ListComp elt [⟨tg, i, ifs, 0⟩] scope pos ∧
    mti N sc it tg i = true ∧ mtTg N scope t tg = true ∧ blkC N sc scope (t.own N) = true ∧ mtc N (relS scope sc) c ifs = true ∧ mt N (relS scope sc) m elt = true := by
  cases e <;> first | (simp [mt] at h; done) | skip
  rename_i elt gs scope pos
  rcases gs with _ | ⟨⟨tg, i, ifs, as⟩, _ | ⟨_, _⟩⟩ <;> first | (simp [mt] at h; done) | skip
  simp only [mt, Bool.and_eq_true, decide_eq_true_eq] at h
  obtain ⟨⟨⟨⟨⟨h0, h1⟩, h2⟩, h3⟩, h4⟩, h5⟩ := h
  subst h0
  exact ⟨elt, tg, i, ifs, scope, pos, rfl, h1, h2, h3, h4, h5⟩
theorem mt_chn {N : List Str} {sc : Scope} {o1 o2 : CmpOp} {a b c : E} {e : Expr} (h : mt N sc (.chn o1 o2 a b c) e = true) : ∃ x y z pos, e = .Compare x [o1, o2] [y, z] pos ∧ mt N sc a x = true ∧ mt N sc b y = true ∧ mt N sc c z = true := by
  cases e <;> first | (simp [mt] at h; done) | skip
  rename_i x ops ys pos
  rcases ops with _ | ⟨op1, _ | ⟨op2, _ | ⟨_, _⟩⟩⟩ <;> rcases ys with _ | ⟨y, _ | ⟨z, _ | ⟨_, _⟩⟩⟩ <;> first | (simp [mt] at h; done) | skip
  simp only [mt, Bool.and_eq_true, decide_eq_true_eq] at h
  obtain ⟨⟨⟨⟨h1, h2⟩, h3⟩, h4⟩, h5⟩ := h
  subst h1 h2
  exact ⟨x, y, z, pos, rfl, h3, h4, h5⟩
theorem l_chn {N : List Str} {sc : Scope} {Wx : XK} {X : Cx} (o : XOk P w C base k N sc Wx X) {o1 o2 : CmpOp} {a b c : Expr} {m n p : E} {pos : Pos} (ha : PE X a (tEv C Γ Wx m)) (hb : PE X b (tEv C Γ Wx n)) (hc : PE X c (tEv C Γ Wx p)) (hp : plainX c = true) :
    PE X (.Compare a [o1, o2] [b, c] pos) (tEv C Γ Wx (.chn o1 o2 m n p)) ∧ PT X (.Compare a [o1, o2] [b, c] pos) (tEvT C Γ Wx (.chn o1 o2 m n p)) := by
  have u := o.units
  have r1 := opr_cmp (op := o1) o.K (by omega)
  have r2 := opr_cmp (op := o2) o.K (by omega)
  have hm : lastMarks [o1, o2] [b, c] = false := plain_behind hp o2
  refine ⟨PE.imp (pe_chain r1 r2 ha hb hc hm) fun σ H Q ⟨W, st, ρ, sl, r, q⟩ => ?_, PT.imp (pt_chain r1 r2 ha hb hc hm) fun σ H Q ⟨W, st, ρ, sl, r, q⟩ => ?_⟩
  · refine seqA sl r q fun x s1 W1 H1 v e1 r1 sl1 p1 q1 => ?_
    refine seqA sl1 r1 q1 fun y s2 W2 H2 u e2 r2 sl2 p2 q2 => ?_
    obtain ⟨kb, eb, q3⟩ := q2.bind.opt
    have q4 := q3 W2 H2 (.refl W2 H2) r2
    refine ⟨W2, s2, x, y, kb, r2, Rep.le e2.le x v p1, p2, eb, kb, rfl, ?_⟩
    cases kb with
    | true =>
      refine seqA sl2 r2 q4 fun z s3 W3 H3 t e3 r3 sl3 p3 q5 => ?_
      obtain ⟨kc, ec, q6⟩ := q5.bind.opt
      exact ⟨W3, s3, y, z, kc, r3, Rep.le e3.le y u p2, p3, ec, oq_ok r3 (q6 W3 H3 (.refl W3 H3) r3) _ rfl⟩
    | false => exact oq_ok r2 q4 _ rfl
  · have q' : OQ C Wx W H (fun k _ _ H' => Q k H') ((ev Γ m ρ st).bind fun x s => (ev Γ n ρ s).bind fun y s => (Out.opt (cmpD o1 x y) s).bind fun k s => if k = true then (ev Γ p ρ s).bind fun z s => Out.opt (cmpD o2 y z) s else .ok false s) := by
      have e : ((ev Γ (.chn o1 o2 m n p) ρ st).bind fun x s => Out.opt (tru x) s) = ((ev Γ m ρ st).bind fun x s => (ev Γ n ρ s).bind fun y s => (Out.opt (cmpD o1 x y) s).bind fun k s => if k = true then (ev Γ p ρ s).bind fun z s => Out.opt (cmpD o2 y z) s else .ok false s) := by
        show (((ev Γ m ρ st).bind fun x s => (ev Γ n ρ s).bind fun y s => (Out.opt (cmpD o1 x y) s).bind fun k s => if k = true then (ev Γ p ρ s).bind fun z s => (Out.opt (cmpD o2 y z) s).bind fun k s => .ok (.bl k) s else .ok (.bl false) s).bind fun x s => Out.opt (tru x) s) = _
        rw [bind_assoc]
        congr 1
        funext x s1
        rw [bind_assoc]
        congr 1
        funext y s2
        rw [bind_assoc]
        congr 1
        funext kb s3
        cases kb with
        | true =>
          show (((ev Γ p ρ s3).bind fun z s => (Out.opt (cmpD o2 y z) s).bind fun k s => .ok (.bl k) s).bind fun x s => Out.opt (tru x) s) = (ev Γ p ρ s3).bind fun z s => Out.opt (cmpD o2 y z) s
          rw [bind_assoc]
          congr 1
          funext z s4
          rw [bind_assoc]
          cases cmpD o2 y z <;> rfl
        | false => rfl
      rw [← e]; exact q
    refine seqA sl r q' fun x s1 W1 H1 v e1 r1 sl1 p1 q1 => ?_
    refine seqA sl1 r1 q1 fun y s2 W2 H2 u e2 r2 sl2 p2 q2 => ?_
    obtain ⟨kb, eb, q3⟩ := q2.bind.opt
    have q4 := q3 W2 H2 (.refl W2 H2) r2
    refine ⟨W2, s2, x, y, kb, r2, Rep.le e2.le x v p1, p2, eb, kb, rfl, ?_⟩
    cases kb with
    | true =>
      refine seqA sl2 r2 q4 fun z s3 W3 H3 t e3 r3 sl3 p3 q5 => ?_
      obtain ⟨kc, ec, q6⟩ := q5.opt
      exact ⟨W3, s3, y, z, kc, r3, Rep.le e3.le y u p2, p3, ec, kc, rfl, q6 W3 H3 (.refl W3 H3) r3⟩
    | false => exact ⟨false, rfl, oq_ok r2 q4⟩
abbrev AndOk (C : Rc) (Γ : Gm) (Wx : XK) (X : Cx) (m : Es) (xs : List Expr) : Prop :=
  ∀ pos, (PE X (.BoolOp .And xs pos) (tAndE C Γ Wx m) ∧ PW X (.BoolOp .And xs pos) (tAndX C Γ Wx m)) ∧ PE X (.BoolOp .Or xs pos) (tOrE C Γ Wx m) ∧ PW X (.BoolOp .Or xs pos) (tOrX C Γ Wx m)
theorem both {N : List Str} {sc : Scope} {Wx : XK} {X : Cx} {e : Expr} {m : E} (o : XOk P w C base k N sc Wx X) (h : PE X e (tEv C Γ Wx m)) (he : ∀ whole, isTrue e X.env whole = (do let v ← whole; standAt e.pos; holding [v] (truthy v))) : PE X e (tEv C Γ Wx m) ∧ PT X e (tEvT C Γ Wx m) := ⟨h, l_truth o h he⟩
theorem mt_mkk {N : List Str} {sc : Scope} {c : Str} {ks : List Str} {es : Es} {e : Expr} (h : mt N sc (.mkk c ks es) e = true) : ∃ p kws pos, e = .Call (.Name c p) [] kws pos ∧ glB sc c = true ∧ mtk N sc ks es kws = true := by
  cases e <;> first | (simp [mt] at h; done) | skip
  rename_i fn args kws pos
  cases fn <;> first | (simp [mt] at h; done) | skip
  rename_i x p
  rcases args with _ | ⟨_, _⟩ <;> first | (simp [mt] at h; done) | skip
  simp only [mt, Bool.and_eq_true, decide_eq_true_eq] at h
  obtain ⟨⟨⟨h1, h2⟩, _⟩, h3⟩ := h
  subst h1
  exact ⟨p, kws, pos, rfl, h2, h3⟩
theorem mt_dic {N : List Str} {sc : Scope} {k : Str} {m : E} {e : Expr} (h : mt N sc (.dic k m) e = true) : ∃ j p1 v pos, e = .Dict [some (.Constant (.str k) j p1)] [v] pos ∧ mt N sc m v = true := by
  cases e <;> first | (simp [mt] at h; done) | skip
  rename_i keys vals pos
  rcases keys with _ | ⟨k1, _ | ⟨_, _⟩⟩ <;> rcases vals with _ | ⟨v, _ | ⟨_, _⟩⟩ <;> first | (simp [mt] at h; done) | (cases k1 <;> simp [mt] at h; done) | skip
  cases k1 <;> first | (simp [mt] at h; done) | skip
  rename_i ke
  cases ke <;> first | (simp [mt] at h; done) | skip
  rename_i cc j p1
  cases cc <;> first | (simp [mt] at h; done) | skip
  simp only [mt, Bool.and_eq_true, decide_eq_true_eq] at h
  obtain ⟨h1, h2⟩ := h
  subst h1
  exact ⟨j, p1, v, pos, rfl, h2⟩
theorem mt_pnf {N : List Str} {sc : Scope} {i : Nat} {k : Str} {e : Expr} (h : mt N sc (.pnf i k) e = true) : ∃ x p1 j p2 pos, e = .Subscript (.Name x p1) (.Constant (.str k) j p2) pos ∧ rdB N sc i x = true := by
  cases e <;> first | (simp [mt] at h; done) | skip
  rename_i o i' pos
  cases o <;> first | (simp [mt] at h; done) | skip
  cases i' <;> first | (simp [mt] at h; done) | skip
  rename_i x p1 cc j p2
  cases cc <;> first | (simp [mt] at h; done) | skip
  simp only [mt, Bool.and_eq_true, decide_eq_true_eq] at h
  obtain ⟨h1, h2⟩ := h
  subst h1
  exact ⟨x, p1, j, p2, pos, rfl, h2⟩
theorem mtk_nil {N : List Str} {sc : Scope} {ks : List Str} {kws : List Keyword} (h : mtk N sc ks .nil kws = true) : ks = [] ∧ kws = [] := by
  rcases ks with _ | ⟨_, _⟩ <;> rcases kws with _ | ⟨⟨_, _, _⟩, _⟩ <;> first | exact ⟨rfl, rfl⟩ | (simp [mtk] at h; done)
theorem mtk_cons {N : List Str} {sc : Scope} {ks : List Str} {m : E} {r : Es} {kws : List Keyword} (h : mtk N sc ks (.cons m r) kws = true) : ∃ k ks' x kp kws', ks = k :: ks' ∧ kws = ⟨some k, x, kp⟩ :: kws' ∧ mt N sc m x = true ∧ mtk N sc ks' r kws' = true := by
  rcases ks with _ | ⟨k, ks'⟩ <;> rcases kws with _ | ⟨⟨k', x, kp⟩, kws'⟩ <;> first | (simp [mtk] at h; done) | skip
  cases k' <;> first | (simp [mtk] at h; done) | skip
  simp only [mtk, Bool.and_eq_true, decide_eq_true_eq] at h
  obtain ⟨⟨h1, h2⟩, h3⟩ := h
  subst h1
  exact ⟨_, ks', x, kp, kws', rfl, rfl, h2, h3⟩
theorem mtk_args {N : List Str} {sc : Scope} : ∀ {m : Es} {ks : List Str} {kws : List Keyword}, mtk N sc ks m kws = true → kws.map (·.arg) = ks.map some
  | .nil, ks, kws, h => by obtain ⟨e1, e2⟩ := mtk_nil h; subst e1 e2; rfl
  | .cons m r, ks, kws, h => by
    obtain ⟨k0, ks', x, kp, kws', e1, e2, _, h2⟩ := mtk_cons h
    subst e1 e2
    simp [mtk_args h2]
theorem cons_args {m : E} {ms : Es} {Wx : XK} {σ : Sg} {H : Hp} {Q : List V → Hp → Prop} (h : tEvs C Γ Wx (.cons m ms) σ H Q) : tCons (tEv C Γ Wx m) (tEvs C Γ Wx ms) σ H Q := by
  obtain ⟨W, st, ρ, sl, r, q⟩ := h
  refine seqA sl r q fun x s1 W1 H1 v e1 r1 sl1 p1 q1 => ?_
  exact ⟨W1, s1, ρ, sl1, r1, q1.bind.imp fun xs s2 W2 H2 e2 r2 q2 vs ps => q2 W2 H2 (.refl W2 H2) r2 _ ⟨v, vs, rfl, Rep.le e2.le x v p1, ps⟩⟩
theorem evs_cons_ok {m : E} {ms : Es} {ρ : List (Option D)} {s s' : Ms} {ds : List D} (h : evs Γ (.cons m ms) ρ s = .ok ds s') : ∃ x xs s1, ev Γ m ρ s = .ok x s1 ∧ evs Γ ms ρ s1 = .ok xs s' ∧ ds = x :: xs := by
  have h' : ((ev Γ m ρ s).bind fun x s => (evs Γ ms ρ s).bind fun xs s => .ok (x :: xs) s) = .ok ds s' := h
  cases e1 : ev Γ m ρ s with
  | ok x s1 =>
    rw [e1] at h'
    have h2 : ((evs Γ ms ρ s1).bind fun xs s => Out.ok (x :: xs) s) = .ok ds s' := h'
    cases e2 : evs Γ ms ρ s1 with
    | ok xs s2 =>
      rw [e2] at h2
      cases h2
      exact ⟨x, xs, s1, rfl, e2, rfl⟩
    | ex _ _ => rw [e2] at h2; cases h2
    | bad => rw [e2] at h2; cases h2
  | ex _ _ => rw [e1] at h'; cases h'
  | bad => rw [e1] at h'; cases h'
mutual
theorem ev_ok (G : GOk P w C base k Γ) : ∀ (m : E) (N : List Str) (sc : Scope) (Wx : XK) (X : Cx) (e : Expr), XOk P w C base k N sc Wx X → mt N sc m e = true → PE X e (tEv C Γ Wx m) ∧ PT X e (tEvT C Γ Wx m)
  | .lit c, N, sc, Wx, X, e, o, h => by
    cases e <;> simp [mt] at h
    subst h
    exact both o (l_lit) fun _ => rfl
  | .var i, N, sc, Wx, X, e, o, h => by
    cases e <;> simp [mt] at h
    obtain ⟨⟨⟨h1, h2⟩, h3⟩, h4⟩ := h
    exact both o (l_var o h1 h2 (by simpa using h3) (by simpa using h4)) fun _ => rfl
  | .con x, N, sc, Wx, X, e, o, h => by
    cases e <;> simp [mt] at h
    obtain ⟨h1, h2⟩ := h
    subst h1
    exact both o (l_con o G h2) fun _ => rfl
  | .tup es, N, sc, Wx, X, e, o, h => by
    cases e <;> simp [mt] at h
    exact both o (l_tup (evs_ok G es N sc Wx X _ o h).1) fun _ => rfl
  | .lst es, N, sc, Wx, X, e, o, h => by
    cases e <;> simp [mt] at h
    exact both o (l_lst (evs_ok G es N sc Wx X _ o h).1) fun _ => rfl
  | .bin op a b, N, sc, Wx, X, e, o, h => by
    cases e <;> simp [mt] at h
    obtain ⟨⟨h1, h2⟩, h3⟩ := h
    subst h1
    exact both o (l_bin o (ev_ok G a N sc Wx X _ o h2).1 (ev_ok G b N sc Wx X _ o h3).1) fun _ => rfl
  | .neg a, N, sc, Wx, X, e, o, h => by
    cases e <;> first | (simp [mt] at h; done) | skip
    rename_i op x pos
    cases op <;> first | (simp [mt] at h; done) | skip
    simp only [mt] at h
    exact both o (l_neg (ev_ok G a N sc Wx X _ o h).1) fun _ => rfl
  | .inv a, N, sc, Wx, X, e, o, h => by
    cases e <;> first | (simp [mt] at h; done) | skip
    rename_i op x pos
    cases op <;> first | (simp [mt] at h; done) | skip
    simp only [mt] at h
    exact both o (l_inv (ev_ok G a N sc Wx X _ o h).1) fun _ => rfl
  | .not a, N, sc, Wx, X, e, o, h => by
    cases e <;> first | (simp [mt] at h; done) | skip
    rename_i op x pos
    cases op <;> first | (simp [mt] at h; done) | skip
    simp only [mt] at h
    obtain ⟨p1, p2⟩ := ev_ok G a N sc Wx X _ o h
    exact ⟨l_not o p1, l_notT p2⟩
  | .cmp op a b, N, sc, Wx, X, e, o, h => by
    cases e <;> first | (simp [mt] at h; done) | skip
    rename_i x ops ys pos
    rcases ops with _ | ⟨op', _ | ⟨_, _⟩⟩ <;> rcases ys with _ | ⟨y, _ | ⟨_, _⟩⟩ <;> first | (simp [mt] at h; done) | skip
    simp [mt] at h
    obtain ⟨⟨h1, h2⟩, h3⟩ := h
    subst h1
    exact l_cmp o G (ev_ok G a N sc Wx X _ o h2).1 (ev_ok G b N sc Wx X _ o h3).1 (mt_plain h3)
  | .chn o1 o2 a b c, N, sc, Wx, X, e, o, h => by
    obtain ⟨x, y, z, pos, he, h1, h2, h3⟩ := mt_chn h
    rw [he]
    exact l_chn o (ev_ok G a N sc Wx X _ o h1).1 (ev_ok G b N sc Wx X _ o h2).1 (ev_ok G c N sc Wx X _ o h3).1 (mt_plain h3)
  | .and es, N, sc, Wx, X, e, o, h => by
    cases e <;> first | (simp [mt] at h; done) | skip
    rename_i op xs pos
    cases op <;> first | (simp [mt] at h; done) | skip
    simp only [mt] at h
    by_cases hx : xs = []
    · subst hx
      cases es with
      | nil => exact ⟨⟨fun _ _ _ _ _ _ ⟨W, st, ρ, sl, r, q⟩ => False.elim q⟩, ⟨fun _ _ _ _ _ _ ⟨W, st, ρ, sl, r, q⟩ => False.elim q⟩⟩
      | cons _ _ => simp [mts] at h
    · obtain ⟨p1, p2⟩ := ((evs_ok G es N sc Wx X _ o h).2 hx pos).1
      exact ⟨p1, p2.pt⟩
  | .or es, N, sc, Wx, X, e, o, h => by
    cases e <;> first | (simp [mt] at h; done) | skip
    rename_i op xs pos
    cases op <;> first | (simp [mt] at h; done) | skip
    simp only [mt] at h
    by_cases hx : xs = []
    · subst hx
      cases es with
      | nil => exact ⟨⟨fun _ _ _ _ _ _ ⟨W, st, ρ, sl, r, q⟩ => False.elim q⟩, ⟨fun _ _ _ _ _ _ ⟨W, st, ρ, sl, r, q⟩ => False.elim q⟩⟩
      | cons _ _ => simp [mts] at h
    · obtain ⟨p1, p2⟩ := ((evs_ok G es N sc Wx X _ o h).2 hx pos).2
      exact ⟨p1, p2.pt⟩
  | .ifx t a b, N, sc, Wx, X, e, o, h => by
    cases e <;> simp [mt] at h
    obtain ⟨⟨h1, h2⟩, h3⟩ := h
    have a1 := ev_ok G a N sc Wx X _ o h2
    have b1 := ev_ok G b N sc Wx X _ o h3
    have t1 := ev_ok G t N sc Wx X _ o h1
    exact ⟨l_ifx t1.2 a1.1 b1.1, l_ifxT t1.2 a1.2 b1.2⟩
  | .ix a i, N, sc, Wx, X, e, o, h => by
    cases e <;> first | (simp [mt] at h; done) | skip
    simp [mt] at h
    exact both o (l_ix o (ev_ok G a N sc Wx X _ o h.1).1 (ev_ok G i N sc Wx X _ o h.2).1 (mt_plain h.2)) fun _ => rfl
  | .slc a lo hi, N, sc, Wx, X, e, o, h => by
    cases e <;> first | (simp [mt] at h; done) | skip
    rename_i x y pos
    cases y <;> first | (simp [mt] at h; done) | skip
    rename_i l hh st p2
    cases st <;> first | (simp [mt] at h; done) | skip
    simp [mt] at h
    obtain ⟨⟨h1, h2⟩, h3⟩ := h
    exact both o (l_slc o (ev_ok G a N sc Wx X _ o h1).1 (evo_ok G lo N sc Wx X _ o h2).1 (evo_ok G hi N sc Wx X _ o h3).1) fun _ => rfl
  | .lc tg it c el, N, sc, Wx, X, e, o, h => by
    obtain ⟨elt, t, i, ifs, scope, pos, he, h1, h2, h3, h4, h5⟩ := mt_lc h
    rw [he]
    exact both o (fresh_shared (l_lc o (evi_ok G it N sc Wx X t i o h1) (mti_plain h1) h2 h3 fun X' o' => ⟨evc_ok G c N _ noX X' ifs o' h4, (ev_ok G el N _ noX X' elt o' h5).1⟩) fun _ _ _ _ => lc_lst) fun _ => rfl
  | .bi f es, N, sc, Wx, X, e, o, h => by
    cases e <;> first | (simp [mt] at h; done) | skip
    rename_i fn args kws pos
    cases fn <;> first | (simp [mt] at h; done) | skip
    rename_i x p
    rcases args with _ | ⟨y, ys⟩ <;> rcases kws with _ | ⟨_, _⟩ <;> first | (simp [mt] at h; done) | skip
    simp only [mt, Bool.and_eq_true, decide_eq_true_eq] at h
    obtain ⟨⟨h1, h2⟩, h3⟩ := h
    subst h1
    exact both o (l_bi o G h2 (mts_plain h3) (evs_ok G es N sc Wx X _ o h3).1) fun _ => rfl
  | .call f es, N, sc, Wx, X, e, o, h => by
    cases e <;> first | (simp [mt] at h; done) | skip
    rename_i fn args kws pos
    cases fn <;> first | (simp [mt] at h; done) | skip
    rename_i x p
    rcases kws with _ | ⟨_, _⟩ <;> first | (simp [mt] at h; done) | skip
    simp only [mt, Bool.and_eq_true, decide_eq_true_eq] at h
    obtain ⟨⟨h1, h2⟩, h3⟩ := h
    subst h1
    exact both o (l_call o G h2 h3 (evs_ok G es N sc Wx X _ o h3).1) fun _ => rfl
  | .mk c es, N, sc, Wx, X, e, o, h => by
    cases e <;> first | (simp [mt] at h; done) | skip
    rename_i fn args kws pos
    cases fn <;> first | (simp [mt] at h; done) | skip
    rename_i x p
    rcases kws with _ | ⟨_, _⟩ <;> first | (simp [mt] at h; done) | skip
    simp only [mt, Bool.and_eq_true, decide_eq_true_eq] at h
    obtain ⟨⟨h1, h2⟩, h3⟩ := h
    subst h1
    exact both o (l_mk o G h2 h3 (evs_ok G es N sc Wx X _ o h3).1) fun _ => rfl
  | .mkk c ks es, N, sc, Wx, X, e, o, h => by
    obtain ⟨p, kws, pos, he, h2, h3⟩ := mt_mkk h
    rw [he]
    obtain ⟨k1, k2⟩ := evk_ok G es N sc Wx X ks kws o h3
    exact both o (l_mkk o G h2 (mtk_args h3) k1 k2) fun _ => rfl
  | .dic k el, N, sc, Wx, X, e, o, h => by
    obtain ⟨j, p1, v, pos, he, h2⟩ := mt_dic h
    rw [he]
    exact both o (l_dic (ev_ok G el N sc Wx X v o h2).1) fun _ => rfl
  | .pnf i k, N, sc, Wx, X, e, o, h => by
    obtain ⟨x, p1, j, p2, pos, he, h1⟩ := mt_pnf h
    rw [he]
    exact both o (l_pnf o h1) fun _ => rfl
  | .fld a f, N, sc, Wx, X, e, o, h => by
    cases e <;> simp [mt] at h
    obtain ⟨⟨h1, h2⟩, h3⟩ := h
    subst h1
    exact both o (l_fld o G (ev_ok G a N sc Wx X _ o h2).1 h3) fun _ => rfl
  | .isi a c, N, sc, Wx, X, e, o, h => by
    cases e <;> first | (simp [mt] at h; done) | skip
    rename_i fn args kws pos
    cases fn <;> first | (simp [mt] at h; done) | skip
    rename_i x p
    rcases args with _ | ⟨y, _ | ⟨z, _ | ⟨_, _⟩⟩⟩ <;> rcases kws with _ | ⟨_, _⟩ <;> first | (simp [mt] at h; done) | skip
    cases z <;> first | (simp [mt] at h; done) | skip
    simp only [mt, Bool.and_eq_true] at h
    obtain ⟨⟨⟨⟨h1, h2⟩, h3⟩, h4⟩, h5⟩ := h
    have h1 := of_decide_eq_true h1
    subst h1
    exact both o (l_isi o G h2 h4 (mt_plain h3) (ev_ok G a N sc Wx X _ o h3).1 h5) fun _ => rfl
theorem evs_ok (G : GOk P w C base k Γ) : ∀ (m : Es) (N : List Str) (sc : Scope) (Wx : XK) (X : Cx) (es : List Expr), XOk P w C base k N sc Wx X → mts N sc m es = true → PA X es (tEvs C Γ Wx m) ∧ (es ≠ [] → AndOk C Γ Wx X m es)
  | .nil, N, sc, Wx, X, es, o, h => by
    cases es with
    | nil => exact ⟨l_nil, fun z => absurd rfl z⟩
    | cons _ _ => simp [mts] at h
  | .cons m r, N, sc, Wx, X, es, o, h => by
    cases es with
    | nil => simp [mts] at h
    | cons e es =>
      simp only [mts, Bool.and_eq_true] at h
      obtain ⟨e1, e2⟩ := ev_ok G m N sc Wx X e o h.1
      obtain ⟨r1, r2⟩ := evs_ok G r N sc Wx X es o h.2
      refine ⟨l_cons e1 r1 (mt_plain h.1), fun _ pos => ?_⟩
      cases es with
      | nil =>
        cases r with
        | nil => exact l_and1 e1 e2
        | cons _ _ => simp [mts] at h
      | cons e' es =>
        cases r with
        | nil => simp [mts] at h
        | cons m' r' =>
          obtain ⟨⟨a1, a2⟩, b1, b2⟩ := r2 (by simp) pos
          exact ⟨l_andC o e1 e2 a1 a2, l_orC o e1 e2 b1 b2⟩
theorem evk_ok (G : GOk P w C base k Γ) : ∀ (m : Es) (N : List Str) (sc : Scope) (Wx : XK) (X : Cx) (ks : List Str) (kws : List Keyword), XOk P w C base k N sc Wx X → mtk N sc ks m kws = true → PK X kws (tEvs C Γ Wx m) ∧ ∀ ρ s ds s', evs Γ m ρ s = .ok ds s' → ds.length = ks.length
  | .nil, N, sc, Wx, X, ks, kws, o, h => by
    obtain ⟨e1, e2⟩ := mtk_nil h
    subst e1 e2
    exact ⟨⟨fun pos pins s σ H Q I ⟨W, st, ρ, sl, r, q⟩ => pk_nil.run pos pins s σ H Q I (q W H (.refl W H) r [] rfl)⟩, fun ρ s ds s' z => by cases z; rfl⟩
  | .cons m r, N, sc, Wx, X, ks, kws, o, h => by
    obtain ⟨k0, ks', x, kp, kws', e1, e2, h1, h2⟩ := mtk_cons h
    subst e1 e2
    obtain ⟨r1, r2⟩ := evk_ok G r N sc Wx X ks' kws' o h2
    refine ⟨⟨fun pos pins s σ H Q I q => (pk_cons (ev_ok G m N sc Wx X x o h1).1 r1).run pos pins s σ H Q I (cons_args q)⟩, fun ρ s ds s' z => ?_⟩
    obtain ⟨x', xs, s1, e1, e2, e3⟩ := evs_cons_ok z
    rw [e3, List.length_cons, List.length_cons, r2 _ _ _ _ e2]
theorem evi_ok (G : GOk P w C base k Γ) : ∀ (m : It) (N : List Str) (sc : Scope) (Wx : XK) (X : Cx) (tg e : Expr), XOk P w C base k N sc Wx X → mti N sc m tg e = true → PI X tg e (tEvI C Γ Wx m)
  | .e a, N, sc, Wx, X, tg, e, o, h => i_seq o (ev_ok G a N sc Wx X e o (by simpa [mti] using h)).1
  | .rng1 a, N, sc, Wx, X, tg, e, o, h => by
    obtain ⟨p, y, pos, he, h2, h3⟩ := mti_rng1 h
    rw [he]
    exact i_rng1 o G h2 (mt_plain h3) (ev_ok G a N sc Wx X _ o h3).1
  | .rng2 a b, N, sc, Wx, X, tg, e, o, h => by
    obtain ⟨p, y, z, pos, he, h2, h3, h4⟩ := mti_rng2 h
    rw [he]
    exact i_rng2 o G h2 (mt_plain h3) (mt_plain h4) (ev_ok G a N sc Wx X _ o h3).1 (ev_ok G b N sc Wx X _ o h4).1
  | .zip a b, N, sc, Wx, X, tg, e, o, h => by
    obtain ⟨es, kk, tp, p, y, z, pos, ht, he, h2, h3, h4⟩ := mti_zip h
    rw [ht, he]
    exact i_zip o G h2 (mt_plain h3) (mt_plain h4) (ev_ok G a N sc Wx X _ o h3).1 (ev_ok G b N sc Wx X _ o h4).1
theorem evc_ok (G : GOk P w C base k Γ) : ∀ (m : Oe) (N : List Str) (sc : Scope) (Wx : XK) (X : Cx) (es : List Expr), XOk P w C base k N sc Wx X → mtc N sc m es = true → PTs X es (tEvC C Γ Wx m)
  | .no, N, sc, Wx, X, es, o, h => by
    cases es with
    | nil => exact ⟨fun pins s σ H Q I ⟨W, st, ρ, sl, r, q⟩ => pts_nil.run pins s σ H Q I (q W H (.refl W H) r)⟩
    | cons _ _ => simp [mtc] at h
  | .yes m, N, sc, Wx, X, es, o, h => by
    rcases es with _ | ⟨e, _ | ⟨_, _⟩⟩
    · simp [mtc] at h
    · have p := pts_one (ev_ok G m N sc Wx X e o (by simpa [mtc] using h)).2
      exact p
    · simp [mtc] at h
theorem evo_ok (G : GOk P w C base k Γ) : ∀ (m : Oe) (N : List Str) (sc : Scope) (Wx : XK) (X : Cx) (e : Option Expr), XOk P w C base k N sc Wx X → mto N sc m e = true → PO X e (tEvO C Γ Wx m) ∧ True
  | .no, N, sc, Wx, X, e, o, h => by
    cases e with
    | none => exact ⟨l_no, trivial⟩
    | some _ => simp [mto] at h
  | .yes m, N, sc, Wx, X, e, o, h => by
    cases e with
    | none => simp [mto] at h
    | some e => exact ⟨l_yes (ev_ok G m N sc Wx X e o (by simpa [mto] using h)).1, trivial⟩
end
end Mp
set_option Elab.async false
set_option linter.all false
set_option maxRecDepth 100000
set_option maxHeartbeats 2000000
/-! MpStm: statements, and what they do to the names. -/
namespace Mp
open PySem PySem.Spec PyProof.Rows L2
/-- what a name holds: nothing; data; a list that it alone holds and that may change; an object that is being made -/
inductive Sl where
  | no
  | sh (d : D)
  | ow (ds : List D)
  | ob (c : Str) (fs : List (Str × D))
  deriving Inhabited
mutual
def vsE : E → List Nat
  | .lit _ => []
  | .var i => [i]
  | .con _ => []
  | .tup es => vsEs es
  | .lst es => vsEs es
  | .bin _ a b => vsE a ++ vsE b
  | .neg a => vsE a
  | .inv a => vsE a
  | .not a => vsE a
  | .cmp _ a b => vsE a ++ vsE b
  | .chn _ _ a b c => vsE a ++ vsE b ++ vsE c
  | .and es => vsEs es
  | .or es => vsEs es
  | .ifx t a b => vsE t ++ vsE a ++ vsE b
  | .ix a i => vsE a ++ vsE i
  | .slc a lo hi => vsE a ++ vsO lo ++ vsO hi
  | .lc _ it c e => vsI it ++ vsO c ++ vsE e
  | .bi _ es => vsEs es
  | .call _ es => vsEs es
  | .mk _ es => vsEs es
  | .mkk _ _ es => vsEs es
  | .dic _ e => vsE e
  | .pnf i _ => [i]
  | .fld a _ => vsE a
  | .isi a _ => vsE a
def vsEs : Es → List Nat
  | .nil => []
  | .cons e r => vsE e ++ vsEs r
def vsI : It → List Nat
  | .e a => vsE a
  | .rng1 a => vsE a
  | .rng2 a b => vsE a ++ vsE b
  | .zip a b => vsE a ++ vsE b
def vsO : Oe → List Nat
  | .no => []
  | .yes e => vsE e
end
def look1 (vs : List Nat) (i : Nat) : Sl → Option D
  | .sh d => some d
  | .ow ds => if i ∈ vs then some (.lst ds) else none
  | _ => none
/-- the names as a term sees them -/
def look (vs : List Nat) (ρ : List Sl) : List (Option D) := ρ.mapIdx (look1 vs)
def fz1 (vs : List Nat) (i : Nat) : Sl → Sl
  | .ow ds => if i ∈ vs then .sh (.lst ds) else .ow ds
  | x => x
/-- the lists that a term has seen may be known elsewhere from now on -/
def fz (vs : List Nat) (ρ : List Sl) : List Sl := ρ.mapIdx (fz1 vs)
mutual
/-- no list within -/
def D.nol : D → Bool
  | .lst _ => false
  | .tup xs => nols xs
  | .dct kvs => nolk kvs
  | .ins _ _ fs => nolf fs
  | _ => true
def nols : List D → Bool
  | [] => true
  | d :: r => d.nol && nols r
def nolf : List (Str × D) → Bool
  | [] => true
  | (_, d) :: r => d.nol && nolf r
def nolk : List (Key × D) → Bool
  | [] => true
  | (_, d) :: r => d.nol && nolk r
end
/-- kp: the lists that are seen stay the names' own, as nothing of them is kept elsewhere -/
def evX (Γ : Gm) (kp : Bool) (e : E) (ρ : List Sl) (s : Ms) : Out (D × List Sl) := (ev Γ e (look (vsE e) ρ) s).bind fun d s =>
  if kp = true then (if d.nol = true then .ok (d, ρ) s else .bad) else .ok (d, fz (vsE e) ρ) s
/-- a new list of the name's own -/
def evN (Γ : Gm) (kp : Bool) (e : E) (ρ : List Sl) (s : Ms) : Out (List D × List Sl) := (ev Γ e (look (vsE e) ρ) s).bind fun d s => match d with
  | .lst ds => if kp = true then (if nols ds = true then .ok (ds, ρ) s else .bad) else .ok (ds, fz (vsE e) ρ) s
  | _ => .bad
/-- how a value is taken: kp, or as a new list of the name's own -/
structure Md where
  kp : Bool := false
  ow : Bool := false
def evV (Γ : Gm) (m : Md) (e : E) (ρ : List Sl) (s : Ms) : Out (Sl × List Sl) := if m.ow = true then (evN Γ m.kp e ρ s).bind fun p s => .ok (.ow p.1, p.2) s
  else (evX Γ m.kp e ρ s).bind fun p s => .ok (.sh p.1, p.2) s
def evXT (Γ : Gm) (e : E) (ρ : List Sl) (s : Ms) : Out Bool := (ev Γ e (look (vsE e) ρ) s).bind fun x s => Out.opt (tru x) s
def evXI (Γ : Gm) (m : It) (ρ : List Sl) (s : Ms) : Out (List D × List Sl) := (evi Γ m (look (vsI m) ρ) s).bind fun ds s => .ok (ds, fz (vsI m) ρ) s
inductive Ctl where
  | nx (ρ : List Sl)
  | rt (d : D)
  | bk (ρ : List Sl)
  | ct (ρ : List Sl)
mutual
inductive S where
  | asg (i : Nat) (m : Md) (e : E)
  | unp (is : List Nat) (m : Md) (e : E)
  | par (i j : Nat) (m n : Md) (a b : E)
  | app (i : Nat) (m : Md) (e : E)
  | sti (i : Nat) (m n : Md) (a e : E)
  | aug (i : Nat) (op : Operator) (m : Md) (e : E)
  | sto (f : Str) (m : Md) (e : E)
  | pns (i : Nat) (k : Str) (m : Md) (e : E)
  | ret (e : E)
  | rtn
  | ife (c : E) (a b : Ss)
  | for_ (tg : Tg) (it : It) (b : Ss)
  | whl (n : Nat) (c : E) (b : Ss)
  | brk
  | cnt
  | pas
  | doc
  | rse (c : Str) (es : Es)
  | exp (e : E)
inductive Ss where
  | nil
  | cons (s : S) (r : Ss)
end
def putSl : List Nat → List D → List Sl → Option (List Sl)
  | [], [], ρ => some ρ
  | i :: is, d :: ds, ρ => putSl is ds (ρ.set i (.sh d))
  | _, _, _ => none
def bindS (t : Tg) (d : D) (ρ : List Sl) : Option (List Sl) := match t with
  | .v i => some (ρ.set i (.sh d))
  | .t is => match d with
    | .tup xs => putSl is xs ρ
    | .lst xs => putSl is xs ρ
    | _ => none
def evFor (tg : Tg) (body : List Sl → Ms → Out Ctl) : List D → List Sl → Ms → Out Ctl
  | [], ρ, s => .ok (.nx ρ) s
  | d :: ds, ρ, s => match bindS tg d ρ with
    | none => .bad
    | some ρ' => (body ρ' s).bind fun c s => match c with
      | .nx ρ2 => evFor tg body ds ρ2 s
      | .ct ρ2 => evFor tg body ds ρ2 s
      | .bk ρ2 => .ok (.nx ρ2) s
      | .rt d => .ok (.rt d) s
def evWhl (test : List Sl → Ms → Out Bool) (body : List Sl → Ms → Out Ctl) : Nat → List Sl → Ms → Out Ctl
  | 0, _, _ => .bad
  | n + 1, ρ, s => (test ρ s).bind fun k s => if k = true then (body ρ s).bind fun c s => match c with
      | .nx ρ2 => evWhl test body n ρ2 s
      | .ct ρ2 => evWhl test body n ρ2 s
      | .bk ρ2 => .ok (.nx ρ2) s
      | .rt d => .ok (.rt d) s
    else .ok (.nx ρ) s
def putFd (f : Str) (d : D) : List (Str × D) → List (Str × D)
  | [] => [(f, d)]
  | (g, e) :: r => if g = f then (g, d) :: r else (g, e) :: putFd f d r
def augD (op : Operator) (x y : D) : Option D := match x, y with
  | .int i, .int j => match op with
    | .Add => some (.int (i + j))
    | .Sub => some (.int (i - j))
    | _ => none
  | _, _ => none
/-- the errors of the module: how one is made of its arguments -/
structure Gx where
  g : Gm
  exc : Str → List D → Option Exc
  excs : Str → Bool
/-- one thing is put on a list of the name's own -/
def appS (i : Nat) (d : D) (ρ : List Sl) : Option (List Sl) := match ρ[i]? with
  | some (.ow ds) => if ds.length < sizeLine then some (ρ.set i (.ow (ds ++ [d]))) else none
  | _ => none
def stiS (i : Nat) (k d : D) (ρ : List Sl) : Option (List Sl) := match k, ρ[i]? with
  | .int k, some (.ow ds) => match ixN ds.length k with
    | some j => some (ρ.set i (.ow (ds.set j d)))
    | none => none
  | _, _ => none
def stoS (Γ : Gm) (f : Str) (d : D) (ρ : List Sl) : Option (List Sl) := match ρ[(0 : Nat)]? with
  | some (.ob c fs) => if Γ.fld c f = true ∧ fs.length < 1000 then some (ρ.set 0 (.ob c (putFd f d fs))) else none
  | _ => none
def owS (i : Nat) (ρ : List Sl) : Option Unit := match ρ[i]? with
  | some (.ow _) => some ()
  | _ => none
def intS (i : Nat) (ρ : List Sl) : Option Int := match ρ[i]? with
  | some (.sh (.int x)) => some x
  | _ => none
def isPen (i : Nat) (ρ : List Sl) : Option Unit := match ρ[i]? with
  | some (.sh .pen) => some ()
  | _ => none
mutual
def evS (Γ : Gx) : S → List Sl → Ms → Out Ctl
  | .asg i m e, ρ, s => (evV Γ.g m e ρ s).bind fun p s => .ok (.nx (p.2.set i p.1)) s
  | .unp is m e, ρ, s => (evX Γ.g m.kp e ρ s).bind fun p s => (Out.opt (bindS (.t is) p.1 p.2) s).bind fun ρ' s => .ok (.nx ρ') s
  | .par i j m n a b, ρ, s => (evV Γ.g m a ρ s).bind fun p s => (evV Γ.g n b p.2 s).bind fun q s => .ok (.nx ((q.2.set i p.1).set j q.1)) s
  | .app i m e, ρ, s => (Out.opt (owS i ρ) s).bind fun _ s => (evX Γ.g m.kp e ρ s).bind fun p s => (Out.opt (appS i p.1 p.2) s).bind fun ρ' s => .ok (.nx ρ') s
  | .sti i m n a e, ρ, s => (Out.opt (owS i ρ) s).bind fun _ s => (evX Γ.g m.kp e ρ s).bind fun p s => (evX Γ.g n.kp a p.2 s).bind fun q s => (Out.opt (stiS i q.1 p.1 q.2) s).bind fun ρ' s => .ok (.nx ρ') s
  | .aug i op m e, ρ, s => (Out.opt (intS i ρ) s).bind fun x s => (evX Γ.g m.kp e ρ s).bind fun p s => (Out.opt (augD op (.int x) p.1) s).bind fun y s => .ok (.nx (p.2.set i (.sh y))) s
  | .sto f m e, ρ, s => (evX Γ.g m.kp e ρ s).bind fun p s => (Out.opt (stoS Γ.g f p.1 p.2) s).bind fun ρ' s => .ok (.nx ρ') s
  | .pns i k m e, ρ, s => (Out.opt (isPen i ρ) s).bind fun _ s => (evX Γ.g m.kp e ρ s).bind fun p s => (Out.opt (s.pen.bind (penSet k p.1)) s).bind fun n s => .ok (.nx p.2) { s with pen := some n }
  | .ret e, ρ, s => (ev Γ.g e (look (vsE e) ρ) s).bind fun d s => .ok (.rt d) s
  | .rtn, _, s => .ok (.rt .non) s
  | .ife c a b, ρ, s => (evXT Γ.g c ρ s).bind fun k s => if k = true then evSs Γ a ρ s else evSs Γ b ρ s
  | .for_ tg it b, ρ, s => (evXI Γ.g it ρ s).bind fun p s => evFor tg (fun ρ s => evSs Γ b ρ s) p.1 p.2 s
  | .whl n c b, ρ, s => evWhl (fun ρ s => evXT Γ.g c ρ s) (fun ρ s => evSs Γ b ρ s) n ρ s
  | .brk, ρ, s => .ok (.bk ρ) s
  | .cnt, ρ, s => .ok (.ct ρ) s
  | .pas, ρ, s => .ok (.nx ρ) s
  | .doc, ρ, s => .ok (.nx ρ) s
  | .rse c es, ρ, s => if Γ.excs c = true then (evs Γ.g es (look (vsEs es) ρ) s).bind fun ds s => match Γ.exc c ds with
    | some x => .ex x s
    | none => .bad
    else .bad
  | .exp e, ρ, s => (ev Γ.g e (look (vsE e) ρ) s).bind fun _ s => .ok (.nx ρ) s
def evSs (Γ : Gx) : Ss → List Sl → Ms → Out Ctl
  | .nil, ρ, s => .ok (.nx ρ) s
  | .cons t r, ρ, s => (evS Γ t ρ s).bind fun c s => match c with
    | .nx ρ' => evSs Γ r ρ' s
    | c => .ok c s
end
/-- a def's worth, by its body: n names in all -/
def denOf (Γ : Gx) (np n : Nat) (b : Ss) : Den := fun ds s => if ds.length = np then (evSs Γ b (ds.map Sl.sh ++ List.replicate (n - np) .no) s).bind fun c s => match c with
    | .nx _ => .ok .non s
    | .rt d => .ok d s
    | _ => .bad
  else .bad
end Mp
set_option Elab.async false
set_option linter.all false
set_option maxRecDepth 100000
set_option maxHeartbeats 2000000
/-! MpStm2: names that own lists: how the world follows. -/
namespace Mp
open PySem PySem.Spec PyProof.Rows L2
open Classical in
/-- these lists never change again -/
noncomputable def Wd.frz (W : Wd) (H : Hp) (L : Addr → Prop) : Wd := { W with G := fun a => if L a then H a else W.G a }
open Classical in
/-- these may again -/
noncomputable def Wd.cut (W : Wd) (L : Addr → Prop) : Wd := { W with G := fun a => if L a then none else W.G a }
section
open Classical
variable {C : Rc} {W W' W0 : Wd} {H H' H0 : Hp} {st st' : Ms} {L : Addr → Prop}
theorem frz_in {a : Addr} (h : L a) : (W.frz H L).G a = H a := by
  show (if L a then H a else W.G a) = _
  rw [if_pos h]
theorem frz_out {a : Addr} (h : ¬ L a) : (W.frz H L).G a = W.G a := by
  show (if L a then H a else W.G a) = _
  rw [if_neg h]
theorem cut_in {a : Addr} (h : L a) : (W.cut L).G a = none := by
  show (if L a then none else W.G a) = _
  rw [if_pos h]
theorem cut_out {a : Addr} (h : ¬ L a) : (W.cut L).G a = W.G a := by
  show (if L a then none else W.G a) = _
  rw [if_neg h]
/-- own lists: not known, there -/
abbrev OwnL (W : Wd) (H : Hp) (L : Addr → Prop) : Prop := ∀ a, L a → W.G a = none ∧ ∃ vs, H a = some (.lst vs)
theorem le_frz (o : OwnL W H L) : Le W (W.frz H L) := ⟨fun a u e => by
  have n : ¬ L a := fun h => by rw [(o a h).1] at e; cases e
  rw [frz_out n]; exact e, rfl, fun _ _ e => e, Nat.le_refl _⟩
theorem rel_frzL (r : Rel C W st H) (o : OwnL W H L) : Rel C (W.frz H L) st H where
  sub := fun a u e => by
    by_cases h : L a
    · rw [frz_in h] at e; exact e
    · rw [frz_out h] at e; exact r.sub a u e
  pen := fun x hx => by
    obtain ⟨q, h1, h2, h3, h4⟩ := r.pen x hx
    have n1 : ¬ L x.1 := fun h => by
      obtain ⟨vs, e⟩ := (o _ h).2
      rw [h2] at e; cases e
    exact ⟨q, h1, h2, by rw [frz_out n1]; exact h3, (le_frz o).G _ _ h4⟩
  penE := r.penE
  nid := r.nid
  idlt := fun i a e => by
    obtain ⟨h1, cl, dx, fs, h2⟩ := r.idlt i a e
    exact ⟨h1, cl, dx, fs, (le_frz o).G _ _ h2⟩
  idinj := r.idinj
theorem ext_frzL (e : Ext W0 H0 W H) (o : OwnL W H L) (n : ∀ a, L a → H0 a = none) : Ext W0 H0 (W.frz H L) H where
  le := e.le.trans (le_frz o)
  keep := e.keep
  dom := e.dom
  newG := fun a u z => by
    by_cases h : L a
    · exact .inr (n a h)
    · rw [frz_out h] at z; exact e.newG a u z
  scr := e.scr
/-- what the later world knows of them -/
theorem own_later (r : Rel C W st H) (o : OwnL W H L) (e : Ext (W.frz H L) H W' H') : ∀ a, L a → H' a = H a ∧ W'.G a = H a := fun a h => by
  obtain ⟨n, vs, hv⟩ := o a h
  have ne : ∀ x, W.pen = some x → a ≠ x.1 := fun x hx z => by
    obtain ⟨q, _, h2, _⟩ := r.pen x hx
    rw [← z, hv] at h2; cases h2
  refine ⟨by rw [hv]; exact e.keep a _ hv ne, ?_⟩
  have g := e.le.G a (.lst vs) (by rw [frz_in h]; exact hv)
  rw [g, hv]
theorem le_cut (o : ∀ a, L a → W.G a = none) (e : Le W W') : Le W (W'.cut L) := ⟨fun a u z => by
  have n : ¬ L a := fun h => by rw [o a h] at z; cases z
  rw [cut_out n]; exact e.G a u z, e.pen, e.ids, e.nid⟩
theorem rel_cutL (r : Rel C W st H) (o : OwnL W H L) (e : Ext (W.frz H L) H W' H') (r' : Rel C W' st' H') : Rel C (W'.cut L) st' H' where
  sub := fun a u z => by
    by_cases h : L a
    · rw [cut_in h] at z; cases z
    · rw [cut_out h] at z; exact r'.sub a u z
  pen := fun x hx => by
    obtain ⟨q, h1, h2, h3, h4⟩ := r'.pen x hx
    have hx' : W.pen = some x := e.le.pen.symm.trans hx
    obtain ⟨p, g1, g2, g3, g4⟩ := r.pen x hx'
    have n1 : ¬ L x.1 := fun h => by
      obtain ⟨vs, z⟩ := (o _ h).2
      rw [g2] at z; cases z
    have n2 : ¬ L x.2 := fun h => by
      rw [(o _ h).1] at g4; cases g4
    exact ⟨q, h1, h2, by rw [cut_out n1]; exact h3, by rw [cut_out n2]; exact h4⟩
  penE := r'.penE
  nid := r'.nid
  idlt := fun i a z => by
    obtain ⟨h1, cl, dx, fs, h2⟩ := r'.idlt i a z
    have n : ¬ L a := fun h => by
      obtain ⟨_, vs, hv⟩ := o a h
      have g := (own_later r o e a h).2
      rw [h2, hv] at g; cases g
    exact ⟨h1, cl, dx, fs, by rw [cut_out n]; exact h2⟩
  idinj := r'.idinj

theorem cut_sq {K : PySem.W.Frag} (o : ∀ a, L a → ∃ vs, W.G a = some (.lst vs)) {a : Addr} {vs : List V} (s : SqT K W.G a vs) : SqT K (W.cut L).G a vs := by
  rcases s with (g | ⟨u, g⟩) | g
  · have n : ¬ L a := fun h => by obtain ⟨ws, z⟩ := o a h; rw [g] at z; cases z
    exact .inl (.inl (by rw [cut_out n]; exact g))
  · have n : ¬ L a := fun h => by obtain ⟨ws, z⟩ := o a h; rw [g] at z; cases z
    exact .inl (.inr ⟨u, by rw [cut_out n]; exact g⟩)
  · exact .inr g
mutual
theorem Rep.cutL (o : ∀ a, L a → ∃ vs, W.G a = some (.lst vs)) : ∀ (d : D) (v : V), d.nol = true → Rep C W d v → Rep C (W.cut L) d v
  | .non, v, _, r => r
  | .bl b, v, _, r => r
  | .int i, v, _, r => r
  | .str x, v, _, r => r
  | .tup ds, v, n, ⟨a, vs, e, s, r⟩ => ⟨a, vs, e, cut_sq o s, Reps.cutL o ds vs n r⟩
  | .lst ds, v, n, r => by cases n
  | .dct ds, v, n, ⟨a, vs, e, s, r⟩ => ⟨a, vs, e, by
      have q : ¬ L a := fun h => by obtain ⟨ws, z⟩ := o a h; rw [s] at z; cases z
      rw [cut_out q]; exact s, RepK.cutL o ds vs n r⟩
  | .ins c i fs, v, n, ⟨a, cl, dx, vs, e, m, s, r, q⟩ => ⟨a, cl, dx, vs, e, m, by
      have q : ¬ L a := fun h => by obtain ⟨ws, z⟩ := o a h; rw [s] at z; cases z
      rw [cut_out q]; exact s, RepF.cutL o fs vs n r, q⟩
  | .pen, v, _, r => r
  | .scr, v, _, r => r
theorem Reps.cutL (o : ∀ a, L a → ∃ vs, W.G a = some (.lst vs)) : ∀ (ds : List D) (vs : List V), nols ds = true → Reps C W ds vs → Reps C (W.cut L) ds vs
  | [], vs, _, r => r
  | d :: ds, vs, n, ⟨v, r, e, p, q⟩ => by
    have n' : (d.nol && nols ds) = true := n
    rw [Bool.and_eq_true] at n'
    exact ⟨v, r, e, Rep.cutL o d v n'.1 p, Reps.cutL o ds r n'.2 q⟩
theorem RepF.cutL (o : ∀ a, L a → ∃ vs, W.G a = some (.lst vs)) : ∀ (ds : List (Str × D)) (vs : List (Str × V)), nolf ds = true → RepF C W ds vs → RepF C (W.cut L) ds vs
  | [], vs, _, r => r
  | (x, d) :: ds, vs, n, ⟨v, r, e, p, q⟩ => by
    have n' : (d.nol && nolf ds) = true := n
    rw [Bool.and_eq_true] at n'
    exact ⟨v, r, e, Rep.cutL o d v n'.1 p, RepF.cutL o ds r n'.2 q⟩
theorem RepK.cutL (o : ∀ a, L a → ∃ vs, W.G a = some (.lst vs)) : ∀ (ds : List (Key × D)) (vs : List (Key × V)), nolk ds = true → RepK C W ds vs → RepK C (W.cut L) ds vs
  | [], vs, _, r => r
  | (x, d) :: ds, vs, n, ⟨v, r, e, p, q⟩ => by
    have n' : (d.nol && nolk ds) = true := n
    rw [Bool.and_eq_true] at n'
    exact ⟨v, r, e, Rep.cutL o d v n'.1 p, RepK.cutL o ds r n'.2 q⟩
end

/-! ### what a name holds -/
def SlRep (C : Rc) (W : Wd) (H0 H : Hp) : Sl → V → Prop
  | .no, _ => True
  | .sh d, v => Rep C W d v
  | .ow ds, v => ∃ a vs, v = .ref a ∧ H a = some (.lst vs) ∧ W.G a = none ∧ H0 a = none ∧ Reps C W ds vs
  | .ob c fs, v => ∃ a cl dx vs, v = .ref a ∧ (C.mg c = some (.ref cl) ∧ W.scr = some a) ∧ H a = some (.ins cl dx vs) ∧ W.G a = none ∧ H0 a = none ∧ RepF C W fs vs
def Sl.own : Sl → Bool
  | .ow _ => true
  | .ob _ _ => true
  | _ => false
def Sl.any : Sl → Bool
  | .no => false
  | _ => true
structure SSl (C : Rc) (W : Wd) (H0 H : Hp) (ρ : List Sl) (σ : Sg) : Prop where
  len : ρ.length = σ.length
  at_ : ∀ (i : Nat) (x : Sl), ρ[i]? = some x → x.any = true → ∃ v, σ[i]? = some (some v) ∧ SlRep C W H0 H x v
  inj : ∀ (i j : Nat) (x y : Sl) (v : V), ρ[i]? = some x → ρ[j]? = some y → x.own = true → y.own = true → σ[i]? = some (some v) → σ[j]? = some (some v) → i = j
/-- where a body stands: at the entry W0, H0 -/
structure SI (C : Rc) (W0 : Wd) (H0 : Hp) (W : Wd) (H : Hp) (ρ : List Sl) (σ : Sg) (st : Ms) : Prop where
  rel : Rel C W st H
  ext : Ext W0 H0 W H
  sl : SSl C W H0 H ρ σ
/-- the own lists that a term sees -/
def Lof (vs : List Nat) (ρ : List Sl) (σ : Sg) (a : Addr) : Prop := ∃ i ds, i ∈ vs ∧ ρ[i]? = some (.ow ds) ∧ σ[i]? = some (some (.ref a))
theorem SSl.ownL {ρ : List Sl} {σ : Sg} (s : SSl C W H0 H ρ σ) (vs : List Nat) : OwnL W H (Lof vs ρ σ) := fun a ⟨i, ds, _, h1, h2⟩ => by
  obtain ⟨v, e, b, ws, ev, g1, g2, g3, g4⟩ := s.at_ i _ h1 rfl
  rw [h2] at e
  cases e
  cases ev
  exact ⟨g2, ws, g1⟩
theorem SSl.newL {ρ : List Sl} {σ : Sg} (s : SSl C W H0 H ρ σ) (vs : List Nat) : ∀ a, Lof vs ρ σ a → H0 a = none := fun a ⟨i, ds, _, h1, h2⟩ => by
  obtain ⟨v, e, b, ws, ev, g1, g2, g3, g4⟩ := s.at_ i _ h1 rfl
  rw [h2] at e
  cases e
  cases ev
  exact g3
theorem look_at {vs : List Nat} {ρ : List Sl} {i : Nat} {d : D} (h : (look vs ρ)[i]? = some (some d)) : ρ[i]? = some (.sh d) ∨ ∃ ds, ρ[i]? = some (.ow ds) ∧ i ∈ vs ∧ d = .lst ds := by
  unfold look at h
  rw [List.getElem?_mapIdx] at h
  cases e : ρ[i]? with
  | none => rw [e] at h; cases h
  | some x =>
    rw [e] at h
    have h' : look1 vs i x = some d := by simpa using h
    cases x with
    | no => cases h'
    | sh d' => exact .inl (by cases h'; rfl)
    | ow ds =>
      have h2 : (if i ∈ vs then some (D.lst ds) else none) = some d := h'
      split at h2
      · rename_i hi
        cases h2
        exact .inr ⟨ds, rfl, hi, rfl⟩
      · cases h2
    | ob c fs => cases h'
theorem fz_at {vs : List Nat} {ρ : List Sl} {i : Nat} {x : Sl} (h : (fz vs ρ)[i]? = some x) : (∃ ds, ρ[i]? = some (.ow ds) ∧ i ∈ vs ∧ x = .sh (.lst ds)) ∨ (ρ[i]? = some x ∧ (x.own = true → (∀ c fs, x ≠ .ob c fs) → i ∉ vs)) := by
  unfold fz at h
  rw [List.getElem?_mapIdx] at h
  cases e : ρ[i]? with
  | none => rw [e] at h; cases h
  | some y =>
    rw [e] at h
    have h' : fz1 vs i y = x := by simpa using h
    cases y with
    | ow ds =>
      have h2 : (if i ∈ vs then Sl.sh (D.lst ds) else .ow ds) = x := h'
      split at h2
      · rename_i hi
        exact .inl ⟨ds, rfl, hi, h2.symm⟩
      · rename_i hi
        exact .inr ⟨by rw [h2], fun _ _ => hi⟩
    | no => subst h'; exact .inr ⟨rfl, fun z _ => by cases z⟩
    | sh d => subst h'; exact .inr ⟨rfl, fun z _ => by cases z⟩
    | ob c fs => subst h'; exact .inr ⟨rfl, fun _ z => absurd rfl (z c fs)⟩
theorem fz_len {vs : List Nat} {ρ : List Sl} : (fz vs ρ).length = ρ.length := by unfold fz; simp
theorem look_len {vs : List Nat} {ρ : List Sl} : (look vs ρ).length = ρ.length := by unfold look; simp
theorem SSl.slots {ρ : List Sl} {σ : Sg} (s : SSl C W H0 H ρ σ) (vs : List Nat) : Slots C (W.frz H (Lof vs ρ σ)) (look vs ρ) σ := by
  refine ⟨by rw [look_len]; exact s.len, fun i d h => ?_⟩
  rcases look_at h with q | ⟨ds, q, hi, e⟩
  · obtain ⟨v, e, r⟩ := s.at_ i _ q rfl
    exact ⟨v, e, Rep.le (le_frz (s.ownL vs)) d v r⟩
  · subst e
    obtain ⟨v, e, a, ws, ev, g1, g2, g3, g4⟩ := s.at_ i _ q rfl
    subst ev
    refine ⟨_, e, a, ws, rfl, ?_, Reps.le (le_frz (s.ownL vs)) _ _ g4⟩
    rw [frz_in ⟨i, ds, hi, q, e⟩]; exact g1
/-- a thing of one's own stays while others run -/
theorem own_stays {x : Sl} {v : V} (r : Rel C W st H) (e : Ext W H W' H') (hx : x.own = true) (s : SlRep C W H0 H x v) : SlRep C W' H0 H' x v := by
  have np : ∀ {a : Addr} {o : HO}, H a = some o → (∀ p c, o ≠ .dK (penKvs p c)) → ∀ y, W.pen = some y → a ≠ y.1 := fun {a o} h n y hy z => by
    obtain ⟨q, _, h2, _⟩ := r.pen y hy
    rw [← z, h] at h2
    exact n _ _ (Option.some.inj h2)
  have ng : ∀ {a : Addr} {o : HO}, H a = some o → W.G a = none → W'.G a = none := fun {a o} h n => by
    cases q : W'.G a with
    | none => rfl
    | some u =>
      rcases e.newG a u q with z | z
      · rw [n] at z; cases z
      · rw [h] at z; cases z
  cases x with
  | no => cases hx
  | sh d => cases hx
  | ow ds =>
    obtain ⟨a, vs, ev, g1, g2, g3, g4⟩ := s
    exact ⟨a, vs, ev, e.keep a _ g1 (np g1 fun _ _ z => by cases z), ng g1 g2, g3, Reps.le e.le _ _ g4⟩
  | ob c fs =>
    obtain ⟨a, cl, dx, vs, ev, m, g1, g2, g3, g4⟩ := s
    exact ⟨a, cl, dx, vs, ev, ⟨m.1, e.scr.trans m.2⟩, e.keep a _ g1 (np g1 fun _ _ z => by cases z), ng g1 g2, g3, RepF.le e.le _ _ g4⟩
theorem sl_stays {x : Sl} {v : V} (r : Rel C W st H) (e : Ext W H W' H') (s : SlRep C W H0 H x v) : SlRep C W' H0 H' x v := by
  cases x with
  | no => trivial
  | sh d => exact Rep.le e.le d v s
  | ow ds => exact own_stays r e rfl s
  | ob c fs => exact own_stays r e rfl s
/-- a thing of one's own that is not among L, in the world where L is frozen -/
theorem own_frz {x : Sl} {v : V} (o : OwnL W H L) (hx : x.own = true) (n : ∀ a, v = .ref a → ¬ L a) (s : SlRep C W H0 H x v) : SlRep C (W.frz H L) H0 H x v := by
  cases x with
  | no => cases hx
  | sh d => cases hx
  | ow ds =>
    obtain ⟨a, vs, ev, g1, g2, g3, g4⟩ := s
    exact ⟨a, vs, ev, g1, by rw [frz_out (n a ev)]; exact g2, g3, Reps.le (le_frz o) _ _ g4⟩
  | ob c fs =>
    obtain ⟨a, cl, dx, vs, ev, m, g1, g2, g3, g4⟩ := s
    exact ⟨a, cl, dx, vs, ev, m, g1, by rw [frz_out (n a ev)]; exact g2, g3, RepF.le (le_frz o) _ _ g4⟩
/-- frozen from now on -/
theorem SSl.frozen {ρ : List Sl} {σ : Sg} (r : Rel C W st H) (s : SSl C W H0 H ρ σ) (vs : List Nat) (e : Ext (W.frz H (Lof vs ρ σ)) H W' H') : SSl C W' H0 H' (fz vs ρ) σ := by
  have o := s.ownL vs
  have r' := rel_frzL r o
  refine ⟨by rw [fz_len]; exact s.len, fun i x h hx => ?_, fun i j x y v hi hj ox oy vi vj => ?_⟩
  · rcases fz_at h with ⟨ds, q, hi, ee⟩ | ⟨q, hn⟩
    · subst ee
      obtain ⟨v, e1, a, ws, ev, g1, g2, g3, g4⟩ := s.at_ i _ q rfl
      subst ev
      refine ⟨_, e1, a, ws, rfl, ?_, Reps.le ((le_frz o).trans e.le) _ _ g4⟩
      rw [(own_later r o e a ⟨i, ds, hi, q, e1⟩).2]; exact g1
    · obtain ⟨v, e1, sr⟩ := s.at_ i _ q hx
      refine ⟨v, e1, sl_stays r' e ?_⟩
      cases hox : x.own with
      | true =>
        refine own_frz o hox (fun a ev ⟨j, ds, hj, q2, e2⟩ => ?_) sr
        subst ev
        have ij := s.inj i j _ _ _ q q2 hox rfl e1 e2
        subst ij
        rw [q] at q2
        cases q2
        exact hn rfl (fun _ _ z => by cases z) hj
      | false =>
        cases x with
        | no => trivial
        | sh d => exact Rep.le (le_frz o) d v sr
        | ow ds => cases hox
        | ob c fs => cases hox
  · have get : ∀ {i : Nat} {x : Sl}, (fz vs ρ)[i]? = some x → x.own = true → ρ[i]? = some x := fun {i x} h ox => by
      rcases fz_at h with ⟨ds, q, hi, ee⟩ | ⟨q, hn⟩
      · subst ee; cases ox
      · exact q
    exact s.inj i j x y v (get hi ox) (get hj oy) ox oy vi vj
/-- nothing of them was kept -/
theorem SSl.kept {ρ : List Sl} {σ : Sg} (r : Rel C W st H) (s : SSl C W H0 H ρ σ) (vs : List Nat) (e : Ext (W.frz H (Lof vs ρ σ)) H W' H') : SSl C (W'.cut (Lof vs ρ σ)) H0 H' ρ σ := by
  have o := s.ownL vs
  have r' := rel_frzL r o
  have lc : Le W (W'.cut (Lof vs ρ σ)) := le_cut (fun a h => (o a h).1) ((le_frz o).trans e.le)
  refine ⟨s.len, fun i x q hx => ?_, s.inj⟩
  obtain ⟨v, e1, sr⟩ := s.at_ i _ q hx
  refine ⟨v, e1, ?_⟩
  have np : ∀ {a : Addr} {u : HO}, H a = some u → (∀ p c, u ≠ .dK (penKvs p c)) → H' a = some u := fun {a u} h n => e.keep a u h fun y hy z => by
    obtain ⟨p, _, h2, _⟩ := r.pen y hy
    rw [← z, h] at h2
    exact n _ _ (Option.some.inj h2)
  have ng : ∀ {a : Addr} {u : HO}, H a = some u → W.G a = none → (W'.cut (Lof vs ρ σ)).G a = none := fun {a u} h n => by
    by_cases hl : Lof vs ρ σ a
    · exact cut_in hl
    · rw [cut_out hl]
      cases z : W'.G a with
      | none => rfl
      | some w =>
        rcases e.newG a w z with y | y
        · rw [frz_out hl, n] at y; cases y
        · rw [h] at y; cases y
  cases x with
  | no => trivial
  | sh d => exact Rep.le lc d v sr
  | ow ds =>
    obtain ⟨a, ws, ev, g1, g2, g3, g4⟩ := sr
    exact ⟨a, ws, ev, np g1 (fun _ _ z => by cases z), ng g1 g2, g3, Reps.le lc _ _ g4⟩
  | ob c fs =>
    obtain ⟨a, cl, dx, ws, ev, m, g1, g2, g3, g4⟩ := sr
    exact ⟨a, cl, dx, ws, ev, ⟨m.1, e.scr.trans m.2⟩, np g1 (fun _ _ z => by cases z), ng g1 g2, g3, RepF.le lc _ _ g4⟩
theorem ext_cutL (e0 : Ext W0 H0 W H) (r : Rel C W st H) (o : OwnL W H L) (n : ∀ a, L a → H0 a = none) (e : Ext (W.frz H L) H W' H') : Ext W0 H0 (W'.cut L) H' where
  le := e0.le.trans (le_cut (fun a h => (o a h).1) ((le_frz o).trans e.le))
  keep := ((ext_frzL e0 o n).trans e).keep
  dom := ((ext_frzL e0 o n).trans e).dom
  newG := fun a u z => by
    by_cases h : L a
    · rw [cut_in h] at z; cases z
    · rw [cut_out h] at z; exact ((ext_frzL e0 o n).trans e).newG a u z
  scr := e.scr.trans e0.scr
/-- after a term: frozen -/
theorem SI.frozen {ρ : List Sl} {σ : Sg} (I : SI C W0 H0 W H ρ σ st) (vs : List Nat) (e : Ext (W.frz H (Lof vs ρ σ)) H W' H') (r' : Rel C W' st' H') : SI C W0 H0 W' H' (fz vs ρ) σ st' :=
  ⟨r', (ext_frzL I.ext (I.sl.ownL vs) (I.sl.newL vs)).trans e, I.sl.frozen I.rel vs e⟩
theorem SI.kept {ρ : List Sl} {σ : Sg} (I : SI C W0 H0 W H ρ σ st) (vs : List Nat) (e : Ext (W.frz H (Lof vs ρ σ)) H W' H') (r' : Rel C W' st' H') : SI C W0 H0 (W'.cut (Lof vs ρ σ)) H' ρ σ st' :=
  ⟨rel_cutL I.rel (I.sl.ownL vs) e r', ext_cutL I.ext I.rel (I.sl.ownL vs) (I.sl.newL vs) e, I.sl.kept I.rel vs e⟩
theorem SI.lst {ρ : List Sl} {σ : Sg} (I : SI C W0 H0 W H ρ σ st) (vs : List Nat) (e : Ext (W.frz H (Lof vs ρ σ)) H W' H') : ∀ a, Lof vs ρ σ a → ∃ ws, W'.G a = some (.lst ws) := fun a h => by
  obtain ⟨_, ws, hw⟩ := I.sl.ownL vs a h
  exact ⟨ws, by rw [(own_later I.rel (I.sl.ownL vs) e a h).2]; exact hw⟩
end
end Mp
set_option Elab.async false
set_option linter.all false
set_option maxRecDepth 100000
set_option maxHeartbeats 2000000
/-! MpStm3: terms in statements. -/
namespace Mp
open PySem PySem.Spec PyProof.Rows L2
section
variable {P : Program} {w : World} {C : Rc} {base : Heap} {k : Nat} {N : List Str} {sc : Scope} {Wx : XK} {X : Cx} {Γ : Gm}
/-! ### new lists -/
theorem l_lstF {es : List Expr} {m : Es} {pos : Pos} (h : PA X es (tEvs C Γ Wx m)) : PE X (.List es pos) (tEvF C Γ Wx (.lst m)) := by
  refine PE.imp (pe_lst h) fun σ H Q ⟨W, st, ρ, sl, r, q⟩ => ?_
  refine ⟨W, st, ρ, sl, r, q.bind.imp fun ds s W1 H1 e1 r1 q1 vs p => ?_⟩
  by_cases hz : ds.length ≤ sizeLine
  · rw [if_pos hz] at q1
    obtain ⟨ds', ed, q2⟩ := oq_ok r1 q1
    cases ed
    exact ⟨by rw [← p.length]; exact hz, fun a ha => q2 a vs ha ⟨G_free r1 ha, fun x hx z => by
      obtain ⟨_, _, h2, _⟩ := r1.pen x hx
      rw [z, ha] at h2; cases h2⟩ p⟩
  · rw [if_neg hz] at q1
    exact False.elim q1
theorem list_inv {d : D} {ds : List D} (e : biD .list ds = some d) : ∃ xs, d = .lst xs ∧ (ds = [.tup xs] ∨ ds = [.lst xs]) := by
  rcases ds with _ | ⟨x, _ | ⟨_, _⟩⟩
  · cases e
  · cases x <;> first | (cases e; done) | (cases e; exact ⟨_, rfl, .inl rfl⟩) | (cases e; exact ⟨_, rfl, .inr rfl⟩)
  · cases x <;> cases e
theorem l_listF (o : XOk P w C base k N sc Wx X) (G : GOk P w C base k Γ) {y : Expr} {ys : List Expr} {m : Es} {p pos : Pos} (hg : glB sc "list" = true) (hp : ∀ x ∈ y :: ys, plainX x = true) (ha : PA X (y :: ys) (tEvs C Γ Wx m)) :
    PE X (.Call (.Name "list" p) (y :: ys) [] pos) (tEvF C Γ Wx (.bi .list m)) := by
  obtain ⟨g1, g2, g3⟩ := gl_of o hg
  have hm : X.mg "list" = none := by rw [o.mg]; exact G.free _ (by decide)
  have bt := Bi.list.boot
  have hs := plain_star (es := ys) (env := X.env) (hp y List.mem_cons_self)
  have ha2 := stars_any (env := X.env) (pos := pos) fun x hx => hp x (List.mem_cons_of_mem y hx)
  refine PE.imp (pe_callTy call_list_of g1 hm bt ha g3 g2 hs ha2) fun σ H Q ⟨W, st, ρ, sl, r, q⟩ => ?_
  refine ⟨W, st, ρ, sl, r, q.bind.imp fun ds s W1 H1 e1 r1 q1 vs ps => ?_⟩
  obtain ⟨d, ed, q2⟩ := q1.opt
  obtain ⟨xs, exs, q3⟩ := q2 W1 H1 (.refl W1 H1) r1
  obtain ⟨xs', exs', hds⟩ := list_inv ed
  rw [exs] at exs'
  cases exs'
  have fin : ∀ ws, Reps C W1 xs ws → ∀ l, H1 l = none → Q (.ref l) (upd H1 l (.lst ws)) := fun ws rp l hl => q3 l ws hl ⟨G_free r1 hl, fun x hx z => by
      obtain ⟨_, _, h2, _⟩ := r1.pen x hx
      rw [z, hl] at h2; cases h2⟩ rp
  rcases hds with z | z <;> subst z
  · obtain ⟨v, ev, a, ws, ea, sa, qa⟩ := Reps.one ps
    subst ev ea
    exact ⟨a, ws, rfl, .inr (by rw [o.K]; exact sqT_le r1.sub sa), fin ws qa⟩
  · obtain ⟨v, ev, a, ws, ea, sa, qa⟩ := Reps.one ps
    subst ev ea
    exact ⟨a, ws, rfl, .inl (.of (r1.sub _ _ sa)), fin ws qa⟩
/-- the terms that make new lists -/
def newB : E → Bool
  | .lst _ => true
  | .lc _ _ _ _ => true
  | .bi .list _ => true
  | _ => false
theorem new_ok (G : GOk P w C base k Γ) (o : XOk P w C base k N sc Wx X) {m : E} {e : Expr} (hn : newB m = true) (h : mt N sc m e = true) : PE X e (tEvF C Γ Wx m) := by
  cases m with
  | lst es =>
    cases e <;> simp [mt] at h
    exact l_lstF (evs_ok G es N sc Wx X _ o h).1
  | lc tg it c el =>
    obtain ⟨elt, t, i, ifs, scope, pos, he, h1, h2, h3, h4, h5⟩ := mt_lc h
    rw [he]
    exact l_lc o (evi_ok G it N sc Wx X t i o h1) (mti_plain h1) h2 h3 fun X' o' => ⟨evc_ok G c N _ noX X' ifs o' h4, (ev_ok G el N _ noX X' elt o' h5).1⟩
  | bi f es =>
    cases f <;> first | (cases hn; done) | skip
    cases e <;> first | (simp [mt] at h; done) | skip
    rename_i fn args kws pos
    cases fn <;> first | (simp [mt] at h; done) | skip
    rename_i x p
    rcases args with _ | ⟨y, ys⟩ <;> rcases kws with _ | ⟨_, _⟩ <;> first | (simp [mt] at h; done) | skip
    simp only [mt, Bool.and_eq_true, decide_eq_true_eq] at h
    obtain ⟨⟨h1, h2⟩, h3⟩ := h
    subst h1
    exact l_listF o G h2 (mts_plain h3) (evs_ok G es N sc Wx X _ o h3).1
  | _ => cases hn

/-! ### a term where names own lists -/
variable {W0 W W' : Wd} {H0 H H' : Hp} {ρ : List Sl} {σ : Sg} {st st' : Ms}
/-- what stays while a term is walked -/
abbrev Keeps (C : Rc) (H0 : Hp) (W : Wd) (H : Hp) (L : Addr → Prop) (W1 : Wd) (H1 : Hp) : Prop := ∀ x v, SlRep C W H0 H x v → (x.own = true → ∀ a, v = .ref a → ¬ L a) → SlRep C W1 H0 H1 x v
theorem keeps_frozen (I : SI C W0 H0 W H ρ σ st) (vs : List Nat) (e : Ext (W.frz H (Lof vs ρ σ)) H W' H') : Keeps C H0 W H (Lof vs ρ σ) W' H' := fun x v s n => by
  have o := I.sl.ownL vs
  have r' := rel_frzL I.rel o
  refine sl_stays r' e ?_
  cases hox : x.own with
  | true => exact own_frz o hox (n hox) s
  | false =>
    cases x with
    | no => trivial
    | sh d => exact Rep.le (le_frz o) d v s
    | ow ds => cases hox
    | ob c fs => cases hox
theorem keeps_cut (I : SI C W0 H0 W H ρ σ st) (vs : List Nat) (e : Ext (W.frz H (Lof vs ρ σ)) H W' H') : Keeps C H0 W H (Lof vs ρ σ) (W'.cut (Lof vs ρ σ)) H' := fun x v s n => by
  have o := I.sl.ownL vs
  have lc : Le W (W'.cut (Lof vs ρ σ)) := le_cut (fun a h => (o a h).1) ((le_frz o).trans e.le)
  have q := keeps_frozen I vs e x v s n
  cases x with
  | no => trivial
  | sh d => exact Rep.le lc d v s
  | ow ds =>
    obtain ⟨a, ws, ev, g1, g2, g3, g4⟩ := q
    obtain ⟨a', ws', ev', g1', g2', g3', g4'⟩ := s
    rw [ev] at ev'
    cases ev'
    have nl := n rfl a ev
    have e1 : ws = ws' := by
      have z := e.keep a _ g1' fun y hy z => by
        obtain ⟨p, _, h2, _⟩ := I.rel.pen y hy
        rw [← z, g1'] at h2
        cases h2
      rw [g1] at z
      cases z; rfl
    subst e1
    exact ⟨a, ws, ev, g1, by rw [cut_out nl]; exact g2, g3, Reps.le lc _ _ g4'⟩
  | ob c fs =>
    obtain ⟨a, cl, dx, ws, ev, m, g1, g2, g3, g4⟩ := q
    obtain ⟨a', cl', dx', ws', ev', m', g1', g2', g3', g4'⟩ := s
    rw [ev] at ev'
    cases ev'
    have nl := n rfl a ev
    have e1 : ws = ws' := by
      have z := e.keep a _ g1' fun y hy z => by
        obtain ⟨p, _, h2, _⟩ := I.rel.pen y hy
        rw [← z, g1'] at h2
        cases h2
      rw [g1] at z
      cases z; rfl
    subst e1
    exact ⟨a, cl, dx, ws, ev, m, g1, by rw [cut_out nl]; exact g2, g3, RepF.le lc _ _ g4'⟩
/-- by the world where the seen lists are frozen -/
theorem start_tm (I : SI C W0 H0 W H ρ σ st) (vs : List Nat) {α : Type} {R : α → Ms → Wd → Hp → Prop} {o : Out α} (q : OQ C Wx W0 H0 R o) : OQ C Wx (W.frz H (Lof vs ρ σ)) H R o :=
  q.mono (ext_frzL I.ext (I.sl.ownL vs) (I.sl.newL vs))
/-- what is a name's own was so before -/
abbrev OwnSub (ρ ρ' : List Sl) : Prop := ∀ (j : Nat) (y : Sl), ρ'[j]? = some y → y.own = true → ρ[j]? = some y
theorem fz_sub {vs : List Nat} {ρ : List Sl} : OwnSub ρ (fz vs ρ) := fun j y h oy => by
  rcases fz_at h with ⟨ds, q, hi, ee⟩ | ⟨q, hn⟩
  · subst ee; cases oy
  · exact q
theorem x_val {β : Type} {R : β → Ms → Wd → Hp → Prop} {kp : Bool} {e : E} {f : D × List Sl → Ms → Out β} {Q : VK} (I : SI C W0 H0 W H ρ σ st) (q : OQ C Wx W0 H0 R ((evX Γ kp e ρ st).bind f))
    (h : ∀ d ρ' s W1 H1 v, SI C W0 H0 W1 H1 ρ' σ s → Rep C W1 d v → Keeps C H0 W H (Lof (vsE e) ρ σ) W1 H1 → OwnSub ρ ρ' → OQ C Wx W0 H0 R (f (d, ρ') s) → Q v H1) : tEv C Γ Wx e σ H Q := by
  have q1 : OQ C Wx W0 H0 R ((ev Γ e (look (vsE e) ρ) st).bind fun d s => (if kp = true then (if d.nol = true then Out.ok (d, ρ) s else .bad) else .ok (d, fz (vsE e) ρ) s).bind f) := by
    rw [← bind_assoc]; exact q
  refine ⟨W.frz H (Lof (vsE e) ρ σ), st, look (vsE e) ρ, I.sl.slots (vsE e), rel_frzL I.rel (I.sl.ownL (vsE e)), ?_⟩
  have e0 := ext_frzL I.ext (I.sl.ownL (vsE e)) (I.sl.newL (vsE e))
  cases eo : ev Γ e (look (vsE e) ρ) st with
  | bad => rw [eo] at q1; exact False.elim q1
  | ex x s => rw [eo] at q1; exact q1.mono e0
  | ok d s =>
    rw [eo] at q1
    intro W1 H1 e1 r1 v p
    have q2 : OQ C Wx W0 H0 R ((if kp = true then (if d.nol = true then Out.ok (d, ρ) s else .bad) else .ok (d, fz (vsE e) ρ) s).bind f) := q1
    cases kp with
    | true =>
      rw [if_pos rfl] at q2
      by_cases hn : d.nol = true
      · rw [if_pos hn] at q2
        exact h d ρ s _ H1 v (I.kept (vsE e) e1 r1) (Rep.cutL (I.lst (vsE e) e1) d v hn p) (keeps_cut I (vsE e) e1) (fun _ _ z _ => z) q2
      · rw [if_neg hn] at q2
        exact False.elim q2
    | false =>
      rw [if_neg Bool.false_ne_true] at q2
      exact h d _ s W1 H1 v (I.frozen (vsE e) e1 r1) p (keeps_frozen I (vsE e) e1) fz_sub q2
/-- a new thing of one's own is laid -/
theorem SI.laid (I : SI C W0 H0 W H ρ σ st) {p : Addr} {o : HO} (hp : H p = none) : SI C W0 H0 W (upd H p o) ρ σ st := by
  refine ⟨rel_own I.rel hp, I.ext.trans (ext_own hp), I.sl.len, fun i x q hx => ?_, I.sl.inj⟩
  obtain ⟨v, e1, sr⟩ := I.sl.at_ i x q hx
  exact ⟨v, e1, sl_stays I.rel (ext_own hp) sr⟩
theorem x_new {β : Type} {R : β → Ms → Wd → Hp → Prop} {kp : Bool} {e : E} {f : List D × List Sl → Ms → Out β} {Q : VK} (I : SI C W0 H0 W H ρ σ st) (q : OQ C Wx W0 H0 R ((evN Γ kp e ρ st).bind f))
    (h : ∀ ds ρ' s W1 H1 p vs, H1 p = none → H p = none → SI C W0 H0 W1 H1 ρ' σ s → Reps C W1 ds vs → Keeps C H0 W H (Lof (vsE e) ρ σ) W1 H1 → OwnSub ρ ρ' → OQ C Wx W0 H0 R (f (ds, ρ') s) → Q (.ref p) (upd H1 p (.lst vs))) : tEvF C Γ Wx e σ H Q := by
  have q1 : OQ C Wx W0 H0 R ((ev Γ e (look (vsE e) ρ) st).bind fun d s => (match d with
    | .lst ds => if kp = true then (if nols ds = true then Out.ok (ds, ρ) s else .bad) else .ok (ds, fz (vsE e) ρ) s
    | _ => .bad).bind f) := by
    rw [← bind_assoc]; exact q
  refine ⟨W.frz H (Lof (vsE e) ρ σ), st, look (vsE e) ρ, I.sl.slots (vsE e), rel_frzL I.rel (I.sl.ownL (vsE e)), ?_⟩
  have e0 := ext_frzL I.ext (I.sl.ownL (vsE e)) (I.sl.newL (vsE e))
  cases eo : ev Γ e (look (vsE e) ρ) st with
  | bad => rw [eo] at q1; exact False.elim q1
  | ex x s => rw [eo] at q1; exact q1.mono e0
  | ok d s =>
    rw [eo] at q1
    intro W1 H1 e1 r1
    cases d with
    | lst ds =>
      refine ⟨ds, rfl, fun p vs hp mi rp => ?_⟩
      have q2 : OQ C Wx W0 H0 R ((if kp = true then (if nols ds = true then Out.ok (ds, ρ) s else .bad) else .ok (ds, fz (vsE e) ρ) s).bind f) := q1
      cases kp with
      | true =>
        rw [if_pos rfl] at q2
        by_cases hn : nols ds = true
        · rw [if_pos hn] at q2
          exact h ds ρ s _ H1 p vs hp (e1.dom p hp) (I.kept (vsE e) e1 r1) (Reps.cutL (I.lst (vsE e) e1) ds vs hn rp) (keeps_cut I (vsE e) e1) (fun _ _ z _ => z) q2
        · rw [if_neg hn] at q2
          exact False.elim q2
      | false =>
        rw [if_neg Bool.false_ne_true] at q2
        exact h ds _ s W1 H1 p vs hp (e1.dom p hp) (I.frozen (vsE e) e1 r1) rp (keeps_frozen I (vsE e) e1) fz_sub q2
    | _ => exact False.elim q1
/-- a value as it is taken -/
def tV (C : Rc) (Γ : Gm) (Wx : XK) (m : Md) (e : E) : TE := if m.ow = true then tEvF C Γ Wx e else tEv C Γ Wx e
theorem tv_ok (G : GOk P w C base k Γ) (o : XOk P w C base k N sc Wx X) {m : Md} {a : E} {e : Expr} (hn : m.ow = true → newB a = true) (h : mt N sc a e = true) : PE X e (tV C Γ Wx m a) := by
  unfold tV
  by_cases hm : m.ow = true
  · rw [if_pos hm]; exact new_ok G o (hn hm) h
  · rw [if_neg hm]; exact (ev_ok G a N sc Wx X e o h).1
/-- one's own, and no other's -/
abbrev Apart (ρ : List Sl) (σ : Sg) (x : Sl) (v : V) : Prop := x.own = true → ∀ (i : Nat) (y : Sl), ρ[i]? = some y → y.own = true → σ[i]? ≠ some (some v)
theorem v_val {β : Type} {R : β → Ms → Wd → Hp → Prop} {m : Md} {e : E} {f : Sl × List Sl → Ms → Out β} {Q : VK} (I : SI C W0 H0 W H ρ σ st) (q : OQ C Wx W0 H0 R ((evV Γ m e ρ st).bind f))
    (h : ∀ x ρ' s W1 H1 v, SI C W0 H0 W1 H1 ρ' σ s → SlRep C W1 H0 H1 x v → x.any = true → Apart ρ' σ x v → (x.own = true → ∀ a, v = .ref a → H a = none) → Keeps C H0 W H (Lof (vsE e) ρ σ) W1 H1 → OwnSub ρ ρ' → OQ C Wx W0 H0 R (f (x, ρ') s) → Q v H1) : tV C Γ Wx m e σ H Q := by
  unfold tV
  unfold evV at q
  by_cases hm : m.ow = true
  · rw [if_pos hm] at q ⊢
    rw [bind_assoc] at q
    refine x_new I q fun ds ρ' s W1 H1 p vs hp hp0 I1 rp kp sb q1 => h (.ow ds) ρ' s W1 _ (.ref p) (I1.laid hp) ⟨p, vs, rfl, upd_same, G_free I1.rel hp, I1.ext.dom p hp, rp⟩ rfl (fun _ i y hi hy z => ?_) (fun _ a ea => ?_) (fun x v s n => ?_) sb q1
    · obtain ⟨v, e1, sr⟩ := I1.sl.at_ i y hi (by cases y <;> first | rfl | cases hy)
      rw [z] at e1
      cases e1
      cases y with
      | no => cases hy
      | sh d => cases hy
      | ow ds' => obtain ⟨b, _, eb, g, _⟩ := sr; cases eb; rw [hp] at g; cases g
      | ob c fs => obtain ⟨b, _, _, _, eb, _, g, _⟩ := sr; cases eb; rw [hp] at g; cases g
    · cases ea; exact hp0
    · exact sl_stays I1.rel (ext_own hp) (kp x v s n)
  · rw [if_neg hm] at q ⊢
    rw [bind_assoc] at q
    exact x_val I q fun d ρ' s W1 H1 v I1 p kp sb q1 => h (.sh d) ρ' s W1 H1 v I1 p rfl (fun z => by cases z) (fun z => by cases z) kp sb q1
end
end Mp
set_option Elab.async false
set_option linter.all false
set_option maxRecDepth 100000
set_option maxHeartbeats 2000000
/-! MpStm4: names are set. -/
namespace Mp
open PySem PySem.Spec PyProof.Rows L2
section
variable {P : Program} {w : World} {C : Rc} {base : Heap} {k : Nat} {N : List Str} {sc : Scope} {Wx : XK} {X : Cx} {Γ : Gm}
variable {W0 W W' : Wd} {H0 H H' : Hp} {ρ ρ' : List Sl} {σ σ' : Sg} {st st' : Ms}
theorem SSl.set (s : SSl C W H0 H ρ σ) {x : Sl} {v : V} (i : Nat) (r : SlRep C W H0 H x v) (n : Apart ρ σ x v) : SSl C W H0 H (ρ.set i x) (σ.set i (some v)) := by
  have at1 : ∀ {j : Nat} {y : Sl}, (ρ.set i x)[j]? = some y → (j = i ∧ y = x ∧ (σ.set i (some v))[j]? = some (some v)) ∨ (j ≠ i ∧ ρ[j]? = some y ∧ (σ.set i (some v))[j]? = σ[j]?) := fun {j y} h => by
    by_cases q : i = j
    · subst q
      by_cases hi : i < ρ.length
      · rw [List.getElem?_set_self hi] at h
        cases h
        exact .inl ⟨rfl, rfl, List.getElem?_set_self (by rw [← s.len]; exact hi)⟩
      · rw [List.getElem?_eq_none (by simpa using hi)] at h
        cases h
    · rw [List.getElem?_set_ne q] at h
      exact .inr ⟨Ne.symm q, h, List.getElem?_set_ne q⟩
  refine ⟨by simp [s.len], fun j y h hy => ?_, fun j1 j2 y1 y2 u h1 h2 o1 o2 e1 e2 => ?_⟩
  · rcases at1 h with ⟨_, ey, es⟩ | ⟨_, h', es⟩
    · subst ey; exact ⟨v, es, r⟩
    · rw [es]; exact s.at_ j y h' hy
  · rcases at1 h1 with ⟨i1, ey1, es1⟩ | ⟨n1, h1', es1⟩ <;> rcases at1 h2 with ⟨i2, ey2, es2⟩ | ⟨n2, h2', es2⟩
    · rw [i1, i2]
    · rw [es1] at e1
      cases e1
      rw [es2] at e2
      subst ey1
      exact absurd e2 (n o1 j2 y2 h2' o2)
    · rw [es2] at e2
      cases e2
      rw [es1] at e1
      subst ey2
      exact absurd e1 (n o2 j1 y1 h1' o1)
    · rw [es1] at e1
      rw [es2] at e2
      exact s.inj j1 j2 y1 y2 u h1' h2' o1 o2 e1 e2
theorem SI.set (I : SI C W0 H0 W H ρ σ st) {x : Sl} {v : V} (i : Nat) (r : SlRep C W H0 H x v) (n : Apart ρ σ x v) : SI C W0 H0 W H (ρ.set i x) (σ.set i (some v)) st := ⟨I.rel, I.ext, I.sl.set i r n⟩
theorem apart_sh {d : D} {v : V} : Apart ρ σ (.sh d) v := fun z => by cases z
theorem Apart.set {x y : Sl} {v u : V} (n : Apart ρ σ x v) (l : ρ.length = σ.length) (i : Nat) (h : x.own = true → y.own = true → u ≠ v) : Apart (ρ.set i y) (σ.set i (some u)) x v := fun ox j z hz oz e => by
  by_cases q : i = j
  · subst q
    by_cases hi : i < ρ.length
    · rw [List.getElem?_set_self hi] at hz
      cases hz
      rw [List.getElem?_set_self (by rw [← l]; exact hi)] at e
      cases e
      exact h ox oz rfl
    · rw [List.getElem?_eq_none (by simpa using hi)] at hz
      cases hz
  · rw [List.getElem?_set_ne q] at hz e
    exact n ox j z hz oz e
theorem Apart.sub {x : Sl} {v : V} (n : Apart ρ σ x v) (s : OwnSub ρ ρ') : Apart ρ' σ x v := fun ox j z hz oz e => n ox j z (s j z hz oz) oz e
/-- a thing of one's own changes -/
theorem SI.chg (I : SI C W0 H0 W H ρ σ st) {i : Nat} {x x' : Sl} {a : Addr} {o : HO} (h : ρ[i]? = some x) (hx : x.own = true) (hs : σ[i]? = some (some (.ref a))) (hx' : x'.own = true) (m : Mine W a) (h0 : H0 a = none)
    (r : SlRep C W H0 (upd H a o) x' (.ref a)) : SI C W0 H0 W (upd H a o) (ρ.set i x') σ st := by
  have hi : i < ρ.length := by
    by_cases z : i < ρ.length
    · exact z
    · rw [List.getElem?_eq_none (by simpa using z)] at h; cases h
  have at1 : ∀ {j : Nat} {y : Sl}, (ρ.set i x')[j]? = some y → (j = i ∧ y = x') ∨ (j ≠ i ∧ ρ[j]? = some y) := fun {j y} e => by
    by_cases q : i = j
    · subst q
      rw [List.getElem?_set_self hi] at e
      cases e
      exact .inl ⟨rfl, rfl⟩
    · rw [List.getElem?_set_ne q] at e
      exact .inr ⟨Ne.symm q, e⟩
  have own0 : ∀ {j : Nat} {y : Sl}, (ρ.set i x')[j]? = some y → y.own = true → ∃ y0, ρ[j]? = some y0 ∧ y0.own = true := fun {j y} e oy => by
    rcases at1 e with ⟨ej, _⟩ | ⟨_, e'⟩
    · subst ej; exact ⟨x, h, hx⟩
    · exact ⟨y, e', oy⟩
  refine ⟨rel_chgM I.rel m, ext_chg I.ext h0, by simp [I.sl.len], fun j y e hy => ?_, fun j1 j2 y1 y2 v e1 e2 o1 o2 s1 s2 => ?_⟩
  · rcases at1 e with ⟨ej, ey⟩ | ⟨nj, e'⟩
    · subst ej ey; exact ⟨_, hs, r⟩
    · obtain ⟨v, es, sr⟩ := I.sl.at_ j y e' hy
      refine ⟨v, es, ?_⟩
      have far : y.own = true → ∀ b, v = .ref b → b ≠ a := fun oy b eb z => by
        subst eb z
        exact nj (I.sl.inj j i y x _ e' h oy hx es hs)
      cases y with
      | no => cases hy
      | sh d => exact sr
      | ow ds =>
        obtain ⟨b, vs, eb, g1, g⟩ := sr
        exact ⟨b, vs, eb, by rw [upd_ne (far rfl b eb)]; exact g1, g⟩
      | ob c fs =>
        obtain ⟨b, cl, dx, vs, eb, mm, g1, g⟩ := sr
        exact ⟨b, cl, dx, vs, eb, mm, by rw [upd_ne (far rfl b eb)]; exact g1, g⟩
  · obtain ⟨z1, k1, k2⟩ := own0 e1 o1
    obtain ⟨z2, k3, k4⟩ := own0 e2 o2
    exact I.sl.inj j1 j2 z1 z2 v k1 k3 k2 k4 s1 s2
theorem SI.mineL (I : SI C W0 H0 W H ρ σ st) {a : Addr} {o : HO} (g : W.G a = none) (h : H a = some o) (n : ∀ p c, o ≠ .dK (penKvs p c)) : Mine W a := ⟨g, fun x hx z => by
  obtain ⟨q, _, h2, _⟩ := I.rel.pen x hx
  rw [z, h] at h2
  exact n _ _ (Option.some.inj h2)⟩
/-! ### targets -/
theorem look_set {i : Nat} {d : D} : look [] (ρ.set i (.sh d)) = (look [] ρ).set i (some d) := by
  refine List.ext_getElem? fun j => ?_
  by_cases q : i = j
  · subst q
    by_cases hi : i < ρ.length
    · rw [List.getElem?_set_self (by rw [look_len]; exact hi)]
      unfold look
      rw [List.getElem?_mapIdx, List.getElem?_set_self hi]
      rfl
    · rw [List.getElem?_eq_none (by rw [look_len]; simpa using hi), List.getElem?_eq_none (by simpa [look_len] using hi)]
  · rw [List.getElem?_set_ne q]
    unfold look
    rw [List.getElem?_mapIdx, List.getElem?_mapIdx, List.getElem?_set_ne q]
theorem putSl_put : ∀ {is : List Nat} {ds : List D} {ρ ρ' : List Sl}, putSl is ds ρ = some ρ' → putAll is ds (look [] ρ) = some (look [] ρ')
  | [], [], ρ, ρ', h => by cases h; rfl
  | [], _ :: _, _, _, h => by cases h
  | _ :: _, [], _, _, h => by cases h
  | i :: is, d :: ds, ρ, ρ', h => by
    have q := putSl_put (is := is) (ds := ds) (ρ := ρ.set i (.sh d)) h
    rw [look_set] at q
    exact q
theorem putSl_own : ∀ {is : List Nat} {ds : List D} {ρ ρ' : List Sl}, putSl is ds ρ = some ρ' → ∀ j x, ρ'[j]? = some x → x.own = true → ρ[j]? = some x ∧ j ∉ is
  | [], [], ρ, ρ', h => fun j x hj _ => by cases h; exact ⟨hj, fun z => by cases z⟩
  | [], _ :: _, _, _, h => by cases h
  | _ :: _, [], _, _, h => by cases h
  | i :: is, d :: ds, ρ, ρ', h => fun j x hj hx => by
    obtain ⟨q1, q2⟩ := putSl_own (is := is) (ds := ds) (ρ := ρ.set i (.sh d)) h j x hj hx
    by_cases e : i = j
    · subst e
      by_cases hi : i < ρ.length
      · rw [List.getElem?_set_self hi] at q1
        cases q1
        cases hx
      · rw [List.getElem?_eq_none (by simpa using hi)] at q1
        cases q1
    · rw [List.getElem?_set_ne e] at q1
      exact ⟨q1, fun z => (List.mem_cons.mp z).elim (fun z => e z.symm) q2⟩
theorem bindS_ok {t : Tg} {d : D} (h : bindS t d ρ = some ρ') : bindT t d (look [] ρ) = some (look [] ρ') ∧ ∀ j x, ρ'[j]? = some x → x.own = true → ρ[j]? = some x ∧ j ∉ t.slots := by
  cases t with
  | v i =>
    have e : ρ.set i (.sh d) = ρ' := Option.some.inj h
    subst e
    refine ⟨by rw [look_set]; rfl, fun j x hj hx => ?_⟩
    by_cases e : i = j
    · subst e
      by_cases hi : i < ρ.length
      · rw [List.getElem?_set_self hi] at hj
        cases hj
        cases hx
      · rw [List.getElem?_eq_none (by simpa using hi)] at hj
        cases hj
    · rw [List.getElem?_set_ne e] at hj
      exact ⟨hj, fun z => e (List.mem_singleton.mp z).symm⟩
  | t is =>
    cases d with
    | tup xs => exact ⟨putSl_put h, putSl_own h⟩
    | lst xs => exact ⟨putSl_put h, putSl_own h⟩
    | _ => cases h
theorem SSl.sh (s : SSl C W H0 H ρ σ) : Slots C W (look [] ρ) σ := ⟨by rw [look_len]; exact s.len, fun i d h => by
  rcases look_at h with q | ⟨_, _, q, _⟩
  · exact s.at_ i _ q rfl
  · cases q⟩
theorem SSl.bound (s : SSl C W H0 H ρ σ) {t : Tg} {d : D} (h : bindS t d ρ = some ρ') (sl : Slots C W (look [] ρ') σ') (e : L2.wipe σ' t.slots = L2.wipe σ t.slots) : SSl C W H0 H ρ' σ' := by
  obtain ⟨h1, h2⟩ := bindS_ok h
  have out : ∀ j, j ∉ t.slots → σ'[j]? = σ[j]? := fun j hj => by
    have z := congrArg (fun l => l[j]?) e
    simp only [wipe_at, if_neg hj] at z
    exact z
  refine ⟨by rw [← sl.len, look_len], fun i x hi hx => ?_, fun i j x y v hi hj ox oy e1 e2 => ?_⟩
  · cases hox : x.own with
    | true =>
      obtain ⟨q1, q2⟩ := h2 i x hi hox
      rw [out i q2]
      exact s.at_ i x q1 hx
    | false =>
      cases x with
      | no => cases hx
      | sh d' =>
        have z : (look [] ρ')[i]? = some (some d') := by
          unfold look
          rw [List.getElem?_mapIdx, hi]
          rfl
        obtain ⟨v, k1, k2⟩ := sl.at_ i d' z
        exact ⟨v, k1, k2⟩
      | ow _ => cases hox
      | ob _ _ => cases hox
  · obtain ⟨q1, q2⟩ := h2 i x hi ox
    obtain ⟨q3, q4⟩ := h2 j y hj oy
    rw [out i q2] at e1
    rw [out j q4] at e2
    exact s.inj i j x y v q1 q3 ox oy e1 e2
/-- a target is bound -/
theorem tg_bind (I : SI C W0 H0 W H ρ σ st) {t : Tg} {d : D} {v : V} {Q : Sg → Hp → Prop} (p : Rep C W d v) (h : bindS t d ρ = some ρ') (q : ∀ σ', SI C W0 H0 W H ρ' σ' st → Q σ' H) : tTg C t v σ H Q := by
  have s := I.sl.sh
  exact ⟨W, st, d, look [] ρ, look [] ρ', I.rel, p, ⟨s.len, fun i d _ e => s.at_ i d e⟩, (bindS_ok h).1, fun σ' sl e => q σ' ⟨I.rel, I.ext, I.sl.bound h sl e⟩⟩

/-! ### tests, walks -/
theorem x_tst {β : Type} {R : β → Ms → Wd → Hp → Prop} {e : E} {f : Bool → Ms → Out β} {Q : Bool → Hp → Prop} (I : SI C W0 H0 W H ρ σ st) (q : OQ C Wx W0 H0 R ((evXT Γ e ρ st).bind f))
    (h : ∀ b s W1 H1, SI C W0 H0 W1 H1 ρ σ s → OQ C Wx W0 H0 R (f b s) → Q b H1) : tEvT C Γ Wx e σ H Q := by
  refine ⟨W.frz H (Lof (vsE e) ρ σ), st, look (vsE e) ρ, I.sl.slots (vsE e), rel_frzL I.rel (I.sl.ownL (vsE e)), ?_⟩
  have e0 := ext_frzL I.ext (I.sl.ownL (vsE e)) (I.sl.newL (vsE e))
  have q1 : OQ C Wx W0 H0 R (((ev Γ e (look (vsE e) ρ) st).bind fun x s => Out.opt (tru x) s).bind f) := q
  refine (q1.bind0.mono e0).imp ?_
  intro b s W1 H1 e1 r1 q2
  exact h b s _ H1 (I.kept (vsE e) e1 r1) q2
theorem x_itr {β : Type} {R : β → Ms → Wd → Hp → Prop} {m : It} {f : List D × List Sl → Ms → Out β} {Q : L2.It → Hp → Prop} (I : SI C W0 H0 W H ρ σ st) (q : OQ C Wx W0 H0 R ((evXI Γ m ρ st).bind f))
    (h : ∀ ds ρ' s W1 H1 J, SI C W0 H0 W1 H1 ρ' σ s → DWalk C W1 J ds → OQ C Wx W0 H0 R (f (ds, ρ') s) → Q J H1) : tEvI C Γ Wx m σ H Q := by
  refine ⟨W.frz H (Lof (vsI m) ρ σ), st, look (vsI m) ρ, I.sl.slots (vsI m), rel_frzL I.rel (I.sl.ownL (vsI m)), ?_⟩
  have e0 := ext_frzL I.ext (I.sl.ownL (vsI m)) (I.sl.newL (vsI m))
  have q1 : OQ C Wx W0 H0 R ((evi Γ m (look (vsI m) ρ) st).bind fun ds s => f (ds, fz (vsI m) ρ) s) := by
    have z : OQ C Wx W0 H0 R (((evi Γ m (look (vsI m) ρ) st).bind fun ds s => Out.ok (ds, fz (vsI m) ρ) s).bind f) := q
    rw [bind_assoc] at z
    exact z
  refine (q1.bind0.mono e0).imp ?_
  intro ds s W1 H1 e1 r1 q2 J dw
  exact h ds _ s W1 H1 J (I.frozen (vsI m) e1 r1) dw q2
theorem x_arg {β : Type} {R : β → Ms → Wd → Hp → Prop} {m : Es} {f : List D → Ms → Out β} {Q : List V → Hp → Prop} (I : SI C W0 H0 W H ρ σ st) (q : OQ C Wx W0 H0 R ((evs Γ m (look (vsEs m) ρ) st).bind f))
    (h : ∀ ds s W1 H1 vs, SI C W0 H0 W1 H1 (fz (vsEs m) ρ) σ s → Reps C W1 ds vs → OQ C Wx W0 H0 R (f ds s) → Q vs H1) : tEvs C Γ Wx m σ H Q := by
  refine ⟨W.frz H (Lof (vsEs m) ρ σ), st, look (vsEs m) ρ, I.sl.slots (vsEs m), rel_frzL I.rel (I.sl.ownL (vsEs m)), ?_⟩
  have e0 := ext_frzL I.ext (I.sl.ownL (vsEs m)) (I.sl.newL (vsEs m))
  refine (q.bind0.mono e0).imp ?_
  intro ds s W1 H1 e1 r1 q2 vs rp
  exact h ds s W1 H1 vs (I.frozen (vsEs m) e1 r1) rp q2
end
end Mp
set_option Elab.async false
set_option linter.all false
set_option maxRecDepth 100000
set_option maxHeartbeats 2000000
/-! MpStm5: which statement a term stands for; each by itself. -/
namespace Mp
open PySem PySem.Spec PyProof.Rows L2
/-- a comprehension's new list is put at the name at once -/
def lcSw (sc : Scope) (x : Str) (px : Pos) : Expr → Bool
  | .ListComp _ _ s p => decide (sc.names.lookup x = some .local) && (px.line == p.line) && !(s.names.any fun (n, k) => n == x && (k == .local || k == .cell))
  | _ => false
def isLc : Expr → Bool
  | .ListComp _ _ _ _ => true
  | .SetComp _ _ _ _ => true
  | .DictComp _ _ _ _ _ => true
  | _ => false
def isTup : Expr → Bool
  | .Tuple _ _ _ => true
  | _ => false
def isStr : Expr → Bool
  | .Constant (.str _) _ _ => true
  | _ => false
def parOk (sc : Scope) (x y : Str) (px py : Pos) (a b : Expr) : Bool :=
  decide (sc.names.lookup x = some .local) && decide (sc.names.lookup y = some .local) && (py.line == px.line) && !(x == y) && !([a, b].all (foldedForSure 8)) && !([a, b].all (constantsAlone 8))
def asgP : Stmt → Option (Str × Pos × Expr × Pos)
  | .Assign [.Name x px] v p => some (x, px, v, p)
  | _ => none
def asg1P : Stmt → Option (Expr × Expr × Pos)
  | .Assign [tg] v p => some (tg, v, p)
  | _ => none
def exprP : Stmt → Option (Expr × Pos)
  | .Expr e p => some (e, p)
  | _ => none
def tup2P : Expr → Option (Expr × Expr × Nat × Pos)
  | .Tuple [a, b] k p => some (a, b, k, p)
  | _ => none
def nameP : Expr → Option (Str × Pos)
  | .Name x p => some (x, p)
  | _ => none
def attrP : Expr → Option (Expr × Str × Pos)
  | .Attribute o f p => some (o, f, p)
  | _ => none
def subP : Expr → Option (Expr × Expr × Pos)
  | .Subscript o i p => some (o, i, p)
  | _ => none
def callP : Expr → Option (Expr × List Expr × Pos)
  | .Call f ys [] p => some (f, ys, p)
  | _ => none
def oneP : List Expr → Option Expr
  | [x] => some x
  | _ => none
def augP : Stmt → Option (Expr × Operator × Expr × Pos)
  | .AugAssign t op v p => some (t, op, v, p)
  | _ => none
def retP : Stmt → Option (Option Expr × Pos)
  | .Return v p => some (v, p)
  | _ => none
def ifP : Stmt → Option (Expr × List Stmt × List Stmt × Pos)
  | .If t x y p => some (t, x, y, p)
  | _ => none
def forP : Stmt → Option (Expr × Expr × List Stmt × Pos)
  | .For t i x [] p => some (t, i, x, p)
  | _ => none
def whlP : Stmt → Option (Expr × List Stmt × Pos)
  | .While t x [] p => some (t, x, p)
  | _ => none
def rseP : Stmt → Option (Expr × Pos)
  | .Raise (some e) none p => some (e, p)
  | _ => none
theorem asgP_inv {s : Stmt} {x : Str} {px p : Pos} {v : Expr} (h : asgP s = some (x, px, v, p)) : s = .Assign [.Name x px] v p := by
  unfold asgP at h; split at h <;> cases h; rfl
theorem asg1P_inv {s : Stmt} {tg v : Expr} {p : Pos} (h : asg1P s = some (tg, v, p)) : s = .Assign [tg] v p := by
  unfold asg1P at h; split at h <;> cases h; rfl
theorem exprP_inv {s : Stmt} {e : Expr} {p : Pos} (h : exprP s = some (e, p)) : s = .Expr e p := by
  unfold exprP at h; split at h <;> cases h; rfl
theorem tup2P_inv {s a b : Expr} {k : Nat} {p : Pos} (h : tup2P s = some (a, b, k, p)) : s = .Tuple [a, b] k p := by
  unfold tup2P at h; split at h <;> cases h; rfl
theorem nameP_inv {s : Expr} {x : Str} {p : Pos} (h : nameP s = some (x, p)) : s = .Name x p := by
  unfold nameP at h; split at h <;> cases h; rfl
theorem attrP_inv {s o : Expr} {f : Str} {p : Pos} (h : attrP s = some (o, f, p)) : s = .Attribute o f p := by
  unfold attrP at h; split at h <;> cases h; rfl
theorem subP_inv {s o i : Expr} {p : Pos} (h : subP s = some (o, i, p)) : s = .Subscript o i p := by
  unfold subP at h; split at h <;> cases h; rfl
theorem callP_inv {s f : Expr} {ys : List Expr} {p : Pos} (h : callP s = some (f, ys, p)) : s = .Call f ys [] p := by
  unfold callP at h; split at h <;> cases h; rfl
theorem oneP_inv {s : List Expr} {x : Expr} (h : oneP s = some x) : s = [x] := by
  unfold oneP at h; split at h <;> cases h; rfl
theorem augP_inv {s : Stmt} {t v : Expr} {op : Operator} {p : Pos} (h : augP s = some (t, op, v, p)) : s = .AugAssign t op v p := by
  unfold augP at h; split at h <;> cases h; rfl
theorem retP_inv {s : Stmt} {v : Option Expr} {p : Pos} (h : retP s = some (v, p)) : s = .Return v p := by
  unfold retP at h; split at h <;> cases h; rfl
theorem ifP_inv {s : Stmt} {t : Expr} {x y : List Stmt} {p : Pos} (h : ifP s = some (t, x, y, p)) : s = .If t x y p := by
  unfold ifP at h; split at h <;> cases h; rfl
theorem forP_inv {s : Stmt} {t i : Expr} {x : List Stmt} {p : Pos} (h : forP s = some (t, i, x, p)) : s = .For t i x [] p := by
  unfold forP at h; split at h <;> cases h; rfl
theorem whlP_inv {s : Stmt} {t : Expr} {x : List Stmt} {p : Pos} (h : whlP s = some (t, x, p)) : s = .While t x [] p := by
  unfold whlP at h; split at h <;> cases h; rfl
theorem rseP_inv {s : Stmt} {e : Expr} {p : Pos} (h : rseP s = some (e, p)) : s = .Raise (some e) none p := by
  unfold rseP at h; split at h <;> cases h; rfl
def mAsg (N : List Str) (sc : Scope) (i : Nat) (m : Md) (e : E) (s : Stmt) : Bool := match asgP s with
  | some (x, _, v, _) => decide (N[i]? = some x) && locB sc x && mt N sc e v && (!m.ow || newB e)
  | none => false
def mUnp (N : List Str) (sc : Scope) (is : List Nat) (e : E) (s : Stmt) : Bool := match asg1P s with
  | some (tg, v, _) => mtTg N sc (.t is) tg && mt N sc e v && !isTup v
  | none => false
def mPar (N : List Str) (sc : Scope) (i j : Nat) (m n : Md) (a b : E) (s : Stmt) : Bool := match asg1P s with
  | some (tg, tv, _) => match tup2P tg, tup2P tv with
    | some (e1, e2, _, _), some (u, v, _, _) => match nameP e1, nameP e2 with
      | some (x, px), some (y, py) => decide (N[i]? = some x) && decide (N[j]? = some y) && decide (i ≠ j) && mt N sc a u && mt N sc b v && (!m.ow || newB a) && (!n.ow || newB b) && parOk sc x y px py u v
      | _, _ => false
    | _, _ => false
  | none => false
def mApp (N : List Str) (sc : Scope) (i : Nat) (e : E) (s : Stmt) : Bool := match exprP s with
  | some (c, _) => match callP c with
    | some (f, ys, cpos) => match attrP f, oneP ys with
      | some (o, f, apos), some v => match nameP o with
        | some (x, _) => decide (f = ("append" : Str)) && rdB N sc i x && mt N sc e v && (apos.endLine == cpos.line)
        | none => false
      | _, _ => false
    | none => false
  | none => false
def mSti (N : List Str) (sc : Scope) (i : Nat) (a e : E) (s : Stmt) : Bool := match asg1P s with
  | some (tg, v, _) => match subP tg with
    | some (o, u, _) => match nameP o with
      | some (x, _) => rdB N sc i x && mt N sc a u && mt N sc e v
      | none => false
    | none => false
  | none => false
def mAug (N : List Str) (sc : Scope) (i : Nat) (op : Operator) (e : E) (s : Stmt) : Bool := match augP s with
  | some (t, op', v, _) => match nameP t with
    | some (x, _) => decide (N[i]? = some x) && locB sc x && mt N sc e v && decide (op = op')
    | none => false
  | none => false
def mSto (N : List Str) (sc : Scope) (f : Str) (e : E) (s : Stmt) : Bool := match asg1P s with
  | some (tg, v, _) => match attrP tg with
    | some (o, f', _) => match nameP o with
      | some (x, _) => rdB N sc 0 x && mt N sc e v && decide (f = f')
      | none => false
    | none => false
  | none => false
def strP : Expr → Option Str
  | .Constant (.str k) _ _ => some k
  | _ => none
def mPns (N : List Str) (sc : Scope) (i : Nat) (k : Str) (e : E) (s : Stmt) : Bool := match asg1P s with
  | some (tg, v, _) => match subP tg with
    | some (o, u, _) => match nameP o, strP u with
      | some (x, _), some k' => decide (k = k') && rdB N sc i x && mt N sc e v
      | _, _ => false
    | none => false
  | none => false
def mRet (N : List Str) (sc : Scope) (e : E) (s : Stmt) : Bool := match retP s with
  | some (some v, _) => mt N sc e v
  | _ => false
def mRtn (s : Stmt) : Bool := match retP s with
  | some (none, _) => true
  | _ => false
def mRse (N : List Str) (sc : Scope) (c : Str) (es : Es) (s : Stmt) : Bool := match rseP s with
  | some (e, _) => match callP e with
    | some (f, ys, _) => match nameP f with
      | some (x, _) => decide (x = c) && glB sc x && mts N sc es ys
      | none => false
    | none => false
  | none => false
def mExp (N : List Str) (sc : Scope) (e : E) (s : Stmt) : Bool := match exprP s with
  | some (v, _) => mt N sc e v && !isLc v
  | none => false
def mDoc (s : Stmt) : Bool := match exprP s with
  | some (v, _) => isStr v
  | none => false
def isBrk : Stmt → Bool
  | .Break _ => true
  | _ => false
def isCnt : Stmt → Bool
  | .Continue _ => true
  | _ => false
def isPas : Stmt → Bool
  | .Pass _ => true
  | _ => false
mutual
def mtS (N : List Str) (sc : Scope) : S → Stmt → Bool
  | .asg i m e, s => mAsg N sc i m e s
  | .unp is _ e, s => mUnp N sc is e s
  | .par i j m n a b, s => mPar N sc i j m n a b s
  | .app i _ e, s => mApp N sc i e s
  | .sti i _ _ a e, s => mSti N sc i a e s
  | .aug i op _ e, s => mAug N sc i op e s
  | .sto f _ e, s => mSto N sc f e s
  | .pns i k _ e, s => mPns N sc i k e s
  | .ret e, s => mRet N sc e s
  | .rtn, s => mRtn s
  | .ife c a b, s => match ifP s with
    | some (t, x, y, _) => mt N sc c t && mtSs N sc a x && mtSs N sc b y
    | none => false
  | .for_ tg it b, s => match forP s with
    | some (t, i, x, _) => mtTg N sc tg t && mti N sc it t i && mtSs N sc b x
    | none => false
  | .whl _ c b, s => match whlP s with
    | some (t, x, _) => mt N sc c t && mtSs N sc b x
    | none => false
  | .brk, s => isBrk s
  | .cnt, s => isCnt s
  | .pas, s => isPas s
  | .doc, s => mDoc s
  | .rse c es, s => mRse N sc c es s
  | .exp e, s => mExp N sc e s
def mtSs (N : List Str) (sc : Scope) : Ss → List Stmt → Bool
  | .nil, ss => ss.isEmpty
  | .cons m r, ss => match ss with
    | s :: ss => mtS N sc m s && mtSs N sc r ss
    | [] => false
end
section
variable {P : Program} {w : World} {C : Rc} {base : Heap} {k : Nat} {N : List Str} {sc : Scope} {Wx : XK} {X : Cx}
variable {W0 W W' : Wd} {H0 H H' : Hp} {ρ ρ' : List Sl} {σ σ' : Sg} {st st' : Ms}
theorem swap_none {v : Expr} {t : Option Expr} {l : Nat} {env : Env} (h : isLc v = false) : swapsWith v t l env = pure false := by
  cases v <;> first | rfl | cases h
theorem swap_attr {v o : Expr} {f : Str} {p : Pos} {l : Nat} {env : Env} : swapsWith v (some (.Attribute o f p)) l env = pure false := by
  cases v <;> rfl
theorem swap_tup {v tg : Expr} {l : Nat} {env : Env} {N : List Str} {sc : Scope} {is : List Nat} (h : mtTg N sc (.t is) tg = true) : swapsWith v (some tg) l env = pure false := by
  cases tg <;> first | (simp [mtTg] at h; done) | skip
  cases v <;> rfl
theorem swap_sub {v o i : Expr} {p : Pos} {l : Nat} {env : Env} : swapsWith v (some (.Subscript o i p)) l env = pure false := by
  cases v <;> rfl
theorem swap_name {v : Expr} {x : Str} {px : Pos} {l : Nat} {env : Env} {m : E} {N : List Str} (hm : mt N env.scope m v = true) (h : lcSw env.scope x px v = false) : swapsWith v (some (.Name x px)) l env = pure false := by
  cases v with
  | ListComp elt gs s p =>
    unfold swapsWith
    have h' : (decide (env.scope.names.lookup x = some .local) && (px.line == p.line) && !(s.names.any fun (n, k) => n == x && (k == .local || k == .cell))) = false := h
    have e : (env.kindOf x == some NameKind.local) = decide (env.scope.names.lookup x = some .local) := by
      unfold Env.kindOf
      cases z : env.scope.names.lookup x with
      | none => rfl
      | some k => cases k <;> rfl
    show (pure (env.blockKind == .function && env.kindOf x == some .local && px.line == p.line && !(s.names.any fun (n, k) => n == x && (k == .local || k == .cell))) : Sem Bool) = pure false
    rw [e, Bool.and_assoc, Bool.and_assoc, ← Bool.and_assoc (decide _), h', Bool.and_false]
  | SetComp _ _ _ _ => cases m <;> simp [mt] at hm
  | DictComp _ _ _ _ _ => cases m <;> simp [mt] at hm
  | _ => rfl
theorem swapped_none {tg v : Expr} {env : Env} (h : isTup v = false) : swappedStores [tg] v env = pure none := by
  cases v <;> first | (cases tg <;> rfl) | cases h
/-- what is wished behind a statement -/
def RC (C : Rc) (W0 : Wd) (H0 : Hp) (D : Ends) : Ctl → Ms → Wd → Hp → Prop
  | .nx ρ, s, W, H => ∀ σ, SI C W0 H0 W H ρ σ s → D.nx σ H
  | .rt d, _, W, H => ∀ v, Rep C W d v → D.rt v H
  | .bk ρ, s, W, H => ∀ σ, SI C W0 H0 W H ρ σ s → D.bk σ H
  | .ct ρ, s, W, H => ∀ σ, SI C W0 H0 W H ρ σ s → D.ct σ H
def tSt (C : Rc) (Γ : Gx) (Wx : XK) (m : S) : TS := fun D σ H => ∃ W0 H0 W st ρ, SI C W0 H0 W H ρ σ st ∧ OQ C Wx W0 H0 (RC C W0 H0 D) (evS Γ m ρ st)
def tSs (C : Rc) (Γ : Gx) (Wx : XK) (m : Ss) : TS := fun D σ H => ∃ W0 H0 W st ρ, SI C W0 H0 W H ρ σ st ∧ OQ C Wx W0 H0 (RC C W0 H0 D) (evSs Γ m ρ st)
theorem PS.imp {X : Cx} {s : Stmt} {t t' : TS} (h : PS X s t) (i : ∀ D σ H, t' D σ H → t D σ H) : PS X s t' := ⟨fun pins s σ H D I q => h.run pins s σ H D I (i D σ H q)⟩
theorem PSs.imp {X : Cx} {s : List Stmt} {t t' : TS} (h : PSs X s t) (i : ∀ D σ H, t' D σ H → t D σ H) : PSs X s t' := ⟨fun pins s σ H D I q => h.run pins s σ H D I (i D σ H q)⟩
theorem oq_nx {D : Ends} (I : SI C W0 H0 W H ρ σ st) (q : OQ C Wx W0 H0 (RC C W0 H0 D) (.ok (.nx ρ) st)) : D.nx σ H := q W H I.ext I.rel σ I
/-- the body of a def: the context -/
structure SOk (P : Program) (w : World) (C : Rc) (base : Heap) (k : Nat) (N : List Str) (sc : Scope) (Wx : XK) (X : Cx) : Prop where
  x : XOk P w C base k N sc Wx X
  kd : sc.kind = .function
  po : PassesOwn (model X.prog X.w) X.A X.env X.xe
  fn : ∀ x, X.fn x = true
/-- the surroundings, the errors among them -/
structure GxOk (P : Program) (w : World) (C : Rc) (base : Heap) (k : Nat) (Γ : Gx) : Prop where
  g : GOk P w C base k Γ.g
  rse : ∀ (c : Str), Γ.excs c = true → ∀ (N : List Str) (sc : Scope) (Wx : XK) (X : Cx), XOk P w C base k N sc Wx X → ∀ {es : List Expr} {m : Es} {p pos pos2 : Pos}, glB sc c = true → mts N sc m es = true → PA X es (tEvs C Γ.g Wx m) →
    PS X (.Raise (some (.Call (.Name c p) es [] pos)) none pos2) (fun _ σ H => tEvs C Γ.g Wx m σ H fun vs H1 => ∃ W st ds x, Reps C W ds vs ∧ Rel C W st H1 ∧ Γ.exc c ds = some x ∧ ∀ cls dx W' H', Ext W H1 W' H' → Rel C W' st H' → RepX C W' x cls dx H' → Wx cls dx H')
variable {Γ : Gx}
theorem SI.val (I : SI C W0 H0 W H ρ σ st) {i : Nat} {x : Sl} (h : ρ[i]? = some x) (hx : x.any = true) : ∃ v, σ[i]? = some (some v) ∧ SlRep C W H0 H x v := I.sl.at_ i x h hx
theorem vis_of {X : Cx} (o : XOk P w C base k N sc Wx X) {x : Str} (hv : visB sc x = true) : Vis X.env.scope x := by
  rw [o.sc]
  unfold visB at hv
  simp only [Bool.or_eq_true, decide_eq_true_eq] at hv
  rcases hv with (z | z) | z
  · exact .inl z
  · exact .inr (.inl z)
  · exact .inr (.inr z)
theorem loc_of {X : Cx} (o : XOk P w C base k N sc Wx X) {x : Str} (h : locB sc x = true) : Loc X.env.scope x := by
  rw [o.sc]
  unfold locB at h
  simp only [Bool.or_eq_true, decide_eq_true_eq] at h
  exact h
theorem s_asg (o : SOk P w C base k N sc Wx X) (G : GxOk P w C base k Γ) {i : Nat} {m : Md} {e : E} {x : Str} {px pos : Pos} {v : Expr} (hN : N[i]? = some x) (hl : locB sc x = true) (hm : mt N sc e v = true) (hn : m.ow = true → newB e = true) :
    PS X (.Assign [.Name x px] v pos) (tSt C Γ Wx (.asg i m e)) := by
  have fin : ∀ D σ H, tSt C Γ Wx (.asg i m e) D σ H → tAsg (tV C Γ.g Wx m e) (gName i) D σ H := fun D σ H ⟨W0, H0, W, st, ρ, I, q⟩ =>
    v_val I q fun x ρ' s W1 H1 v I1 sr _ ap _ _ _ q1 => oq_nx (I1.set i sr ap) q1
  cases hsw : lcSw sc x px v with
  | false => exact PS.imp (ps_set (by rw [o.x.nm]; exact o.x.nd) (by rw [o.x.nm]; exact hN) (loc_of o.x hl) (tv_ok G.g o.x hn hm) (swap_name (env := X.env) (m := e) (N := N) (by rw [o.x.sc]; exact hm) (by rw [o.x.sc]; exact hsw)) (.inl (o.fn x))) fin
  | true =>
    cases v with
    | ListComp elt gs s p =>
      have h' : (decide (sc.names.lookup x = some .local) && (px.line == p.line) && !(s.names.any fun (n, k) => n == x && (k == .local || k == .cell))) = true := hsw
      simp only [Bool.and_eq_true, decide_eq_true_eq, Bool.not_eq_true'] at h'
      obtain ⟨⟨g1, g2⟩, g3⟩ := h'
      cases e with
      | lc tg it c el =>
        obtain ⟨elt', t, iter, ifs, scope, pos', he, h1, h2, h3, h4, h5⟩ := mt_lc hm
        cases he
        obtain ⟨wi, g, tt, te, k1, k2, k3, k4, k5, k6⟩ := lc_fresh (Γ := Γ.g) o.x (evi_ok G.g it N sc Wx X t iter o.x h1) (mti_plain h1) h2 h3 fun X' o' => ⟨evc_ok G.g c N _ noX X' ifs o' h4, (ev_ok G.g el N _ noX X' elt o' h5).1⟩
        refine PS.imp (ps_setLc o.x.calm (by rw [o.x.nm]; exact o.x.nd) (by rw [o.x.nm]; exact hN) (by rw [o.x.sc]; exact g1) (sw_true (by rw [o.x.sc]; exact o.kd) (by rw [o.x.sc]; exact g1) g2 g3) k1 k2 k3 k4 k5 (plain_set (mti_plain h1))) fun D σ H q => ?_
        have q1 := fin D σ H q
        refine k6 σ H _ ?_
        have q2 : tV C Γ.g Wx m (.lc tg it c el) σ H (fun x H1 => gName i x σ H1 D.nx) := q1
        unfold tV at q2
        by_cases hw : m.ow = true
        · rw [if_pos hw] at q2; exact q2
        · rw [if_neg hw] at q2
          obtain ⟨W, st, ρ, sl, r, z⟩ := q2
          refine ⟨W, st, ρ, sl, r, ?_⟩
          cases eo : ev Γ.g (.lc tg it c el) ρ st with
          | ok d s' =>
            rw [eo] at z
            obtain ⟨ds, ed⟩ := lc_lst eo
            exact fun W' H' x r' => ⟨ds, ed, fun a vs ha mi rp => z _ _ (x.trans (ext_put r' ha)) (rel_put r' ha) _ (by rw [ed]; exact ⟨a, vs, rfl, Wd.put_at, reps_put r' ha rp⟩)⟩
          | ex x s' => rw [eo] at z; exact z
          | bad => rw [eo] at z; exact z
      | _ => simp [mt] at hm
    | _ => cases hsw
theorem s_unp (o : SOk P w C base k N sc Wx X) (G : GxOk P w C base k Γ) {is : List Nat} {m : Md} {e : E} {tg v : Expr} {pos : Pos} (ht : mtTg N sc (.t is) tg = true) (hm : mt N sc e v = true) (h1 : isTup v = false) :
    PS X (.Assign [tg] v pos) (tSt C Γ Wx (.unp is m e)) := by
  have hp : plainX tg = true := by
    cases tg <;> first | rfl | simp [mtTg] at ht
  have hg := l_tg (C := C) (X := X) o.x.calm o.x.K o.x.nm o.x.nd (fun x hx => loc_of o.x hx) ht (fun i _ x _ => .inl (o.fn x))
  refine PS.imp (ps_asg (ev_ok G.g e N sc Wx X v o.x hm).1 hg (show swapsWith v (some tg) pos.line X.env = pure false from swap_tup ht) (swapped_none h1) (by rw [asg_cons hp]; rfl)) fun D σ H ⟨W0, H0, W, st, ρ, I, q⟩ => ?_
  refine x_val I q fun d ρ' s W1 H1 u I1 p _ _ q1 => ?_
  obtain ⟨ρ2, e2, q2⟩ := OQ.opt (OQ.bind0 q1)
  exact tg_bind I1 p e2 fun σ' I2 => oq_nx I2 (q2 W1 H1 I1.ext I1.rel)
theorem par_swapped {x y : Str} {px py pt pt2 : Pos} {kt k2 : Nat} {a b : Expr} {env : Env} (hk : env.scope.kind = .function) (h : parOk env.scope x y px py a b = true) (pa : plainX a = true) (pb : plainX b = true) :
    swappedStores [.Tuple [.Name x px, .Name y py] kt pt] (.Tuple [a, b] k2 pt2) env = pure (some [x, y]) := by
  unfold parOk at h
  simp only [Bool.and_eq_true, decide_eq_true_eq, Bool.not_eq_true'] at h
  obtain ⟨⟨⟨⟨⟨h1, h2⟩, h3⟩, h4⟩, h5⟩, h6⟩ := h
  have hb : env.blockKind = .function := by unfold Env.blockKind; rw [hk]; rfl
  have k1 : env.kindOf x = some .local := h1
  have k2 : env.kindOf y = some .local := h2
  have sa : (match a with | .Starred .. => true | _ => false) = false := by cases a <;> first | rfl | cases pa
  have sb : (match b with | .Starred .. => true | _ => false) = false := by cases b <;> first | rfl | cases pb
  unfold swappedStores
  have ed : ([x, y].eraseDups).length = 2 := by
    have ne : ¬ y = x := fun e => by rw [e] at h4; simp at h4
    simp [List.eraseDups_cons, List.filter_cons, ne]
  simp only [hb, k1, k2, h3, h5, h6, List.any_cons, List.any_nil, sa, sb, Expr.pos, List.head?_cons, Option.map_some, Option.getD_some, List.filterMap_cons, List.filterMap_nil]
  simp [ed, k1, k2, h3, Expr.pos]
  intro z
  exfalso
  rcases z with z | z
  · clear sa sb h5 h6
    cases a <;> first | (cases pa; done) | cases z
  · clear sa sb h5 h6
    cases b <;> first | (cases pb; done) | cases z
theorem s_par (o : SOk P w C base k N sc Wx X) (G : GxOk P w C base k Γ) {i j : Nat} {m n : Md} {a b : E} {x y : Str} {px py pt pt2 pos : Pos} {kt k2 : Nat} {u v : Expr} (hi : N[i]? = some x) (hj : N[j]? = some y) (hij : i ≠ j) (ha : mt N sc a u = true) (hb : mt N sc b v = true)
    (na : m.ow = true → newB a = true) (nb : n.ow = true → newB b = true) (hp : parOk sc x y px py u v = true) :
    PS X (.Assign [.Tuple [.Name x px, .Name y py] kt pt] (.Tuple [u, v] k2 pt2) pos) (tSt C Γ Wx (.par i j m n a b)) := by
  have pu := mt_plain ha
  have pv := mt_plain hb
  have hp' := hp
  unfold parOk at hp'
  simp only [Bool.and_eq_true, decide_eq_true_eq, Bool.not_eq_true'] at hp'
  obtain ⟨⟨⟨⟨⟨h1, h2⟩, h3⟩, h4⟩, h5⟩, h6⟩ := hp'
  refine PS.imp (ps_par o.x.calm (by rw [o.x.nm]; exact o.x.nd) (by rw [o.x.nm]; exact hi) (by rw [o.x.nm]; exact hj) hij (by rw [o.x.sc]; exact h1) (by rw [o.x.sc]; exact h2)
    (pa_cons (tv_ok (m := m) G.g o.x na ha) (pa_cons (tv_ok (m := n) G.g o.x nb hb) pa_nil (plain_star pv)) (plain_star pu))
    (par_swapped (by rw [o.x.sc]; exact o.kd) (by rw [o.x.sc]; exact hp) pu pv)) fun D σ H ⟨W0, H0, W, st, ρ, I, q⟩ => ?_
  refine v_val I q fun x1 ρ1 s1 W1 H1 v1 I1 sr1 any1 ap1 nw1 _ _ q1 => ?_
  refine v_val I1 q1 fun x2 ρ2 s2 W2 H2 v2 I2 sr2 any2 ap2 nw2 kp sb q2 => ?_
  refine ⟨v1, v2, rfl, ?_⟩
  have hl : x1.own = true → ∀ a, v1 = .ref a → ¬ Lof (vsE b) ρ1 σ a := fun ox a ea ⟨i', ds, _, z1, z2⟩ => by
    subst ea
    exact ap1 ox i' _ z1 rfl z2
  have sr1' := kp x1 v1 sr1 hl
  have ap1' : Apart ρ2 σ x1 v1 := ap1.sub sb
  refine oq_nx ((I2.set i sr1' ap1').set j sr2 ?_) q2
  refine Apart.set ap2 I2.sl.len i fun ox oy e => ?_
  subst e
  have n2 : ∀ a, v1 = .ref a → H1 a = none := nw2 ox
  cases x1 with
  | no => cases oy
  | sh d => cases oy
  | ow ds => obtain ⟨a, _, ea, ha, _⟩ := sr1; rw [n2 a ea] at ha; cases ha
  | ob c fs => obtain ⟨a, _, _, _, ea, _, ha, _⟩ := sr1; rw [n2 a ea] at ha; cases ha
theorem s_var {X : Cx} (o : XOk P w C base k N sc Wx X) {i : Nat} {x : Str} {pos : Pos} (hN : N[i]? = some x) (hv : visB sc x = true) (h1 : (x == ("__debug__" : Str)) = false) (h2 : (x == ("__classdict__" : Str)) = false) : PE X (.Name x pos) (tVar i) :=
  pe_var (i := i) (by rw [o.nm]; exact hN) (vis_of o hv) h1 h2
theorem ow_at {i : Nat} {u : Unit} (h : owS i ρ = some u) : ∃ ds, ρ[i]? = some (.ow ds) := by
  unfold owS at h
  split at h
  · rename_i ds e; exact ⟨ds, e⟩
  · cases h
theorem s_app (o : SOk P w C base k N sc Wx X) (G : GxOk P w C base k Γ) {i : Nat} {m : Md} {e : E} {x : Str} {px apos cpos pos : Pos} {v : Expr} (hN : N[i]? = some x) (hv : visB sc x = true) (h1 : (x == ("__debug__" : Str)) = false) (h2 : (x == ("__classdict__" : Str)) = false)
    (hm : mt N sc e v = true) (hl : (apos.endLine == cpos.line) = true) : PS X (.Expr (.Call (.Attribute (.Name x px) "append" apos) [v] [] cpos) pos) (tSt C Γ Wx (.app i m e)) := by
  have pv := mt_plain hm
  have sv : starEach [v] X.env = [(false, eval v X.env)] := plain_star pv
  refine PS.imp (ps_expr (pe_bm PySem.F.plainAttrs_list PySem.F.slot_list_append PySem.F.type_list_append mt_append (s_var o.x hN hv h1 h2) (pa_cons (ev_ok G.g e N sc Wx X v o.x hm).1 pa_nil (plain_star pv)) rfl (by rw [sv]; rfl) hl sv rfl)) fun D σ H ⟨W0, H0, W, st, ρ, I, q⟩ => ?_
  obtain ⟨u, eu, q1⟩ := OQ.opt (OQ.bind0 q)
  have q2 := q1 W H I.ext I.rel
  obtain ⟨ds0, hρ⟩ := ow_at eu
  obtain ⟨v0, hs, a, vs, ev, g1, g2, g3, g4⟩ := I.val hρ rfl
  subst ev
  refine ⟨_, hs, .inl ⟨rfl, _, .of g1⟩, ?_⟩
  refine x_val I q2 fun d ρ' s W1 H1 y I1 p _ _ q3 => ?_
  obtain ⟨ρ2, e2, q4⟩ := OQ.opt (OQ.bind0 q3)
  have q5 := q4 W1 H1 I1.ext I1.rel
  unfold appS at e2
  split at e2
  · rename_i ds hρ'
    split at e2
    · rename_i hz
      cases e2
      obtain ⟨v1, hs1, a1, vs1, ev1, k1, k2, k3, k4⟩ := I1.val hρ' rfl
      rw [hs] at hs1
      cases hs1
      cases ev1
      refine ⟨a, vs1, y, rfl, rfl, k1, by rw [← k4.length]; exact hz, ?_⟩
      exact oq_nx (I1.chg (x' := .ow (ds ++ [d])) hρ' rfl hs rfl (I1.mineL k2 k1 fun _ _ z => by cases z) k3 ⟨a, _, rfl, upd_same, k2, k3, k4.append ⟨y, [], rfl, p, rfl⟩⟩) q5
    · cases e2
  · cases e2
theorem Reps.set {ds : List D} {vs : List V} (r : Reps C W ds vs) {d : D} {v : V} (p : Rep C W d v) : ∀ (j : Nat), Reps C W (ds.set j d) (vs.set j v) := by
  induction ds generalizing vs with
  | nil => intro j; have e : vs = [] := r; subst e; cases j <;> exact rfl
  | cons x xs ih =>
    obtain ⟨u, us, ev, p1, r1⟩ := r
    subst ev
    intro j
    cases j with
    | zero => exact ⟨v, us, rfl, p, r1⟩
    | succ j => exact ⟨u, _, rfl, p1, ih r1 j⟩
theorem s_sti (o : SOk P w C base k N sc Wx X) (G : GxOk P w C base k Γ) {i : Nat} {m n : Md} {a e : E} {x : Str} {px p2 pos : Pos} {u v : Expr} (hN : N[i]? = some x) (hv : visB sc x = true) (h1 : (x == ("__debug__" : Str)) = false) (h2 : (x == ("__classdict__" : Str)) = false)
    (ha : mt N sc a u = true) (hm : mt N sc e v = true) : PS X (.Assign [.Subscript (.Name x px) u p2] v pos) (tSt C Γ Wx (.sti i m n a e)) := by
  have pu := mt_plain ha
  have nt : swappedStores [.Subscript (.Name x px) u p2] v X.env = pure none := by cases v <;> rfl
  have asg : ∀ v, assign (.Subscript (.Name x px) u p2) X.env v = (do
      let ov ← holding [v] (eval (.Name x px) X.env)
      let iv ← holding [v, ov] (eval u X.env)
      standAt p2
      holding [v, ov, iv] (setItem ov iv v)
      release [v, ov, iv] []) := fun v => by
    cases u <;> first | rfl | cases pu
  refine PS.imp (ps_asg (ev_ok G.g e N sc Wx X v o.x hm).1 (pg_sub (s_var o.x hN hv h1 h2) (ev_ok G.g a N sc Wx X u o.x ha).1 set_list asg) (show swapsWith v (some (.Subscript (.Name x px) u p2)) pos.line X.env = pure false from swap_sub) nt rfl) fun D σ H ⟨W0, H0, W, st, ρ, I, q⟩ => ?_
  obtain ⟨un, eu, q0⟩ := OQ.opt (OQ.bind0 q)
  obtain ⟨ds0, hρ0⟩ := ow_at eu
  obtain ⟨v0, hs, b, vs0, ev, _⟩ := I.val hρ0 rfl
  subst ev
  refine x_val I (q0 W H I.ext I.rel) fun d ρ1 s1 W1 H1 y I1 p kp1 sb1 q1 => ?_
  refine ⟨_, hs, ?_⟩
  refine x_val I1 q1 fun d2 ρ2 s2 W2 H2 z I2 p2 kp2 _ q2 => ?_
  obtain ⟨ρ3, e3, q3⟩ := OQ.opt (OQ.bind0 q2)
  have q4 := q3 W2 H2 I2.ext I2.rel
  unfold stiS at e3
  split at e3
  · rename_i kk ds ek hρ'
    have ez : z = .int kk := by
      have : d2 = .int kk := ek
      subst this
      exact p2
    subst ez
    split at e3
    · rename_i j hj
      cases e3
      obtain ⟨v1, hs1, a1, vs1, ev1, k1, k2, k3, k4⟩ := I2.val hρ' rfl
      rw [hs] at hs1
      cases hs1
      cases ev1
      have p' : Rep C W2 d y := kp2 (.sh d) y p (fun z => by cases z)
      refine ⟨b, vs1, kk, j, rfl, rfl, k1, by rw [← k4.length]; exact hj, ?_⟩
      exact oq_nx (I2.chg (x' := .ow (ds.set j d)) hρ' rfl hs rfl (I2.mineL k2 k1 fun _ _ z => by cases z) k3 ⟨b, _, rfl, upd_same, k2, k3, Reps.set k4 p' j⟩) q4
    · cases e3
  · cases e3
theorem int_at {i : Nat} {x : Int} (h : intS i ρ = some x) : ρ[i]? = some (.sh (.int x)) := by
  unfold intS at h
  split at h
  · rename_i y e; cases h; exact e
  · cases h
theorem s_aug (o : SOk P w C base k N sc Wx X) (G : GxOk P w C base k Γ) {i : Nat} {op : Operator} {m : Md} {e : E} {x : Str} {px pos : Pos} {v : Expr} (hN : N[i]? = some x) (hl : locB sc x = true) (hm : mt N sc e v = true) :
    PS X (.AugAssign (.Name x px) op v pos) (tSt C Γ Wx (.aug i op m e)) := by
  have none_of : (∀ x y, augD op (.int x) y = none) → PS X (.AugAssign (.Name x px) op v pos) (tSt C Γ Wx (.aug i op m e)) := fun hn =>
    PS.imp (ps_aug (ti := fun _ _ _ _ => False) (by rw [o.x.nm]; exact o.x.nd) (by rw [o.x.nm]; exact hN) (loc_of o.x hl) (ev_ok G.g e N sc Wx X v o.x hm).1 (fun _ _ _ _ _ _ _ _ _ _ _ _ z => z.elim) (.inl (o.fn x))) fun D σ H ⟨W0, H0, W, st, ρ, I, q⟩ => by
      obtain ⟨xi, ex, q1⟩ := OQ.opt (OQ.bind0 q)
      have q2 := q1 W H I.ext I.rel
      obtain ⟨v0, hs, sr⟩ := I.val (int_at ex) rfl
      refine ⟨v0, hs, ?_⟩
      refine x_val I q2 fun d ρ1 s1 W1 H1 y I1 p _ _ q3 => ?_
      obtain ⟨z, ez, _⟩ := OQ.opt (OQ.bind0 q3)
      have ez' : augD op (.int xi) d = some z := ez
      rw [hn] at ez'; cases ez'
  have some_of : ∀ f : Int → Int → Int, (∀ (x : Int) (y z : D), augD op (.int x) y = some z → ∃ j, y = .int j ∧ z = .int (f x j)) → PIp X op (ipI f) → PS X (.AugAssign (.Name x px) op v pos) (tSt C Γ Wx (.aug i op m e)) := fun f hf hp =>
    PS.imp (ps_aug (by rw [o.x.nm]; exact o.x.nd) (by rw [o.x.nm]; exact hN) (loc_of o.x hl) (ev_ok G.g e N sc Wx X v o.x hm).1 hp (.inl (o.fn x))) fun D σ H ⟨W0, H0, W, st, ρ, I, q⟩ => by
      obtain ⟨xi, ex, q1⟩ := OQ.opt (OQ.bind0 q)
      have q2 := q1 W H I.ext I.rel
      obtain ⟨v0, hs, sr⟩ := I.val (int_at ex) rfl
      have ev : v0 = .int xi := sr
      subst ev
      refine ⟨_, hs, ?_⟩
      refine x_val I q2 fun d ρ1 s1 W1 H1 y I1 p _ _ q3 => ?_
      obtain ⟨z, ez, q4⟩ := OQ.opt (OQ.bind0 q3)
      obtain ⟨j, ed, e2⟩ := hf xi d z ez
      subst ed e2
      exact ⟨xi, j, rfl, p, oq_nx (I1.set (x := .sh (.int (f xi j))) i rfl apart_sh) (q4 W1 H1 I1.ext I1.rel)⟩
  cases op with
  | Add => exact some_of (fun i j => i + j) (fun x y z h => by cases y <;> first | (cases h; done) | (cases h; exact ⟨_, rfl, rfl⟩)) ip_add
  | Sub => exact some_of (fun i j => i - j) (fun x y z h => by cases y <;> first | (cases h; done) | (cases h; exact ⟨_, rfl, rfl⟩)) ip_sub
  | _ => exact none_of fun x y => by cases y <;> rfl
theorem putF_rep {f : Str} {d : D} {v : V} (p : Rep C W d v) : ∀ {fs : List (Str × D)} {vs : List (Str × V)}, RepF C W fs vs → RepF C W (putFd f d fs) (putF f v vs)
  | [], vs, r => by
    have e : vs = [] := r
    subst e
    exact ⟨v, [], rfl, p, rfl⟩
  | (g, x) :: fs, vs, ⟨u, r, ev, p1, r1⟩ => by
    subst ev
    unfold putFd putF
    by_cases h : g = f
    · rw [if_pos h]
      subst h
      first
        | (rw [if_pos rfl]; exact ⟨v, r, rfl, p, r1⟩)
        | (simp only [beq_self_eq_true, if_true]; exact ⟨v, r, rfl, p, r1⟩)
    · rw [if_neg h]
      first
        | (rw [if_neg h]; exact ⟨u, _, rfl, p1, putF_rep p r1⟩)
        | (rw [if_neg (by simpa using h)]; exact ⟨u, _, rfl, p1, putF_rep p r1⟩)
        | (rw [if_neg (fun z => h z.symm)]; exact ⟨u, _, rfl, p1, putF_rep p r1⟩)
theorem RepF.length : ∀ {fs : List (Str × D)} {vs : List (Str × V)}, RepF C W fs vs → fs.length = vs.length
  | [], vs, r => by have e : vs = [] := r; subst e; rfl
  | (g, x) :: fs, vs, ⟨u, r, ev, _, r1⟩ => by subst ev; simp [RepF.length r1]
theorem s_sto (o : SOk P w C base k N sc Wx X) (G : GxOk P w C base k Γ) {f : Str} {m : Md} {e : E} {x : Str} {px p2 pos : Pos} {v : Expr} (hN : N[(0 : Nat)]? = some x) (hv : visB sc x = true) (h1 : (x == ("__debug__" : Str)) = false) (h2 : (x == ("__classdict__" : Str)) = false)
    (hm : mt N sc e v = true) : PS X (.Assign [.Attribute (.Name x px) f p2] v pos) (tSt C Γ Wx (.sto f m e)) := by
  refine PS.imp (ps_fld (s_var o.x hN hv h1 h2) (ev_ok G.g e N sc Wx X v o.x hm).1 swap_attr) fun D σ H ⟨W0, H0, W, st, ρ, I, q⟩ => ?_
  refine x_val I q fun d ρ1 s1 W1 H1 y I1 p _ _ q1 => ?_
  obtain ⟨ρ2, e2, q2⟩ := OQ.opt (OQ.bind0 q1)
  have q3 := q2 W1 H1 I1.ext I1.rel
  unfold stoS at e2
  split at e2
  · rename_i c fs hρ
    split at e2
    · rename_i hc
      cases e2
      obtain ⟨v0, hs, a, cl, dx, vs, ev, mg, g1, g2, g3, g4⟩ := I1.val hρ rfl
      subst ev
      obtain ⟨cl', z1, z2, z3⟩ := G.g.fld c f hc.1
      have z1' : C.mg c = some (.ref cl') := z1
      rw [mg.1] at z1'
      cases z1'
      refine ⟨_, hs, a, cl, dx, vs, rfl, g1, by rw [o.x.K]; exact z2, by rw [o.x.K]; exact z3, by rw [← g4.length]; exact hc.2, ?_⟩
      exact oq_nx (I1.chg (x' := .ob c (putFd f d fs)) hρ rfl hs rfl (I1.mineL g2 g1 fun _ _ z => by cases z) g3 ⟨a, cl, dx, _, rfl, mg, upd_same, g2, g3, putF_rep p g4⟩) q3
    · cases e2
  · cases e2
theorem s_ret (o : SOk P w C base k N sc Wx X) (G : GxOk P w C base k Γ) {e : E} {pos : Pos} {v : Expr} (hm : mt N sc e v = true) : PS X (.Return (some v) pos) (tSt C Γ Wx (.ret e)) := by
  refine PS.imp (ps_ret (ev_ok G.g e N sc Wx X v o.x hm).1) fun D σ H ⟨W0, H0, W, st, ρ, I, q⟩ => ?_
  have e0 := ext_frzL I.ext (I.sl.ownL (vsE e)) (I.sl.newL (vsE e))
  refine ⟨W.frz H (Lof (vsE e) ρ σ), st, look (vsE e) ρ, I.sl.slots (vsE e), rel_frzL I.rel (I.sl.ownL (vsE e)), ?_⟩
  have q1 : OQ C Wx W0 H0 (RC C W0 H0 D) ((ev Γ.g e (look (vsE e) ρ) st).bind fun d s => .ok (.rt d) s) := q
  refine (q1.bind0.mono e0).imp fun d s W1 H1 e1 r1 q2 v p => ?_
  exact q2 W1 H1 (e0.trans e1) r1 v p
theorem s_exp (o : SOk P w C base k N sc Wx X) (G : GxOk P w C base k Γ) {e : E} {pos : Pos} {v : Expr} (hm : mt N sc e v = true) (hl : isLc v = false) : PS X (.Expr v pos) (tSt C Γ Wx (.exp e)) := by
  refine PS.imp (ps_expr (ev_ok G.g e N sc Wx X v o.x hm).1 (swap_none hl)) fun D σ H ⟨W0, H0, W, st, ρ, I, q⟩ => ?_
  have e0 := ext_frzL I.ext (I.sl.ownL (vsE e)) (I.sl.newL (vsE e))
  refine ⟨W.frz H (Lof (vsE e) ρ σ), st, look (vsE e) ρ, I.sl.slots (vsE e), rel_frzL I.rel (I.sl.ownL (vsE e)), ?_⟩
  have q1 : OQ C Wx W0 H0 (RC C W0 H0 D) ((ev Γ.g e (look (vsE e) ρ) st).bind fun d s => .ok (.nx ρ) s) := q
  refine (q1.bind0.mono e0).imp fun d s W1 H1 e1 r1 q2 v p => ?_
  exact oq_nx (I.kept (vsE e) e1 r1) q2
theorem s_rse (o : SOk P w C base k N sc Wx X) (G : GxOk P w C base k Γ) {c : Str} {es : Es} {p pos pos2 : Pos} {ys : List Expr} (hg : glB sc c = true) (hm : mts N sc es ys = true) : PS X (.Raise (some (.Call (.Name c p) ys [] pos)) none pos2) (tSt C Γ Wx (.rse c es)) := by
  by_cases hx : Γ.excs c = true
  · refine PS.imp (G.rse c hx N sc Wx X o.x hg hm (evs_ok G.g es N sc Wx X ys o.x hm).1) fun D σ H ⟨W0, H0, W, st, ρ, I, q⟩ => ?_
    have q1 : OQ C Wx W0 H0 (RC C W0 H0 D) (if Γ.excs c = true then (evs Γ.g es (look (vsEs es) ρ) st).bind fun ds s => match Γ.exc c ds with
      | some x => .ex x s
      | none => .bad
      else .bad) := q
    rw [if_pos hx] at q1
    refine x_arg I q1 fun ds s W1 H1 vs I1 rp q2 => ?_
    cases e : Γ.exc c ds with
    | none => rw [e] at q2; exact False.elim q2
    | some x =>
      rw [e] at q2
      exact ⟨W1, s, ds, x, rp, I1.rel, e, fun cls dx W' H' e1 r1 rx => q2 cls dx W' H' (I1.ext.trans e1) r1 rx⟩
  · exact ⟨fun pins s σ H D I ⟨W0, H0, W, st, ρ, _, q⟩ => by
      have q1 : OQ C Wx W0 H0 (RC C W0 H0 D) (if Γ.excs c = true then (evs Γ.g es (look (vsEs es) ρ) st).bind fun ds s => match Γ.exc c ds with
        | some x => .ex x s
        | none => .bad
        else .bad) := q
      rw [if_neg hx] at q1
      exact False.elim q1⟩
/-! ### bodies -/
/-- what is one's own here -/
def OwnA (ρ : List Sl) (σ : Sg) (a : Addr) : Prop := ∃ (i : Nat) (x : Sl), ρ[i]? = some x ∧ x.own = true ∧ σ[i]? = some (some (.ref a))
open Classical in
noncomputable def less (H : Hp) (L : Addr → Prop) : Hp := fun a => if L a then none else H a
open Classical in
theorem less_in {L : Addr → Prop} {a : Addr} (h : L a) : less H L a = none := by
  show (if L a then none else H a) = _
  rw [if_pos h]
open Classical in
theorem less_out {L : Addr → Prop} {a : Addr} (h : ¬ L a) : less H L a = H a := by
  show (if L a then none else H a) = _
  rw [if_neg h]
theorem SI.own0 (I : SI C W0 H0 W H ρ σ st) {a : Addr} (h : OwnA ρ σ a) : W.G a = none ∧ H0 a = none := by
  obtain ⟨i, x, h1, h2, h3⟩ := h
  obtain ⟨v, e, sr⟩ := I.val h1 (by cases x <;> first | rfl | cases h2)
  rw [h3] at e
  cases e
  cases x with
  | no => cases h2
  | sh d => cases h2
  | ow ds => obtain ⟨b, vs, eb, _, g2, g3, _⟩ := sr; cases eb; exact ⟨g2, g3⟩
  | ob c fs => obtain ⟨b, _, _, vs, eb, _, _, g2, g3, _⟩ := sr; cases eb; exact ⟨g2, g3⟩
/-- the entry moved to here -/
theorem SI.ext0 (I : SI C W0 H0 W H ρ σ st) : Ext W0 H0 W (less H (OwnA ρ σ)) where
  le := I.ext.le
  keep := fun a o h n => by
    have q : ¬ OwnA ρ σ a := fun z => by rw [(I.own0 z).2] at h; cases h
    rw [less_out q]; exact I.ext.keep a o h n
  scr := I.ext.scr
  dom := fun a h => by
    by_cases q : OwnA ρ σ a
    · exact (I.own0 q).2
    · rw [less_out q] at h; exact I.ext.dom a h
  newG := I.ext.newG
theorem SI.here (I : SI C W0 H0 W H ρ σ st) : SI C W (less H (OwnA ρ σ)) W H ρ σ st := by
  refine ⟨I.rel, ⟨.refl W, fun a o h _ => ?_, fun a h => ?_, fun a o h => .inl h, rfl⟩, I.sl.len, fun i x h hx => ?_, I.sl.inj⟩
  · by_cases q : OwnA ρ σ a
    · rw [less_in q] at h; cases h
    · rw [less_out q] at h; exact h
  · by_cases q : OwnA ρ σ a
    · exact less_in q
    · rw [less_out q]; exact h
  · obtain ⟨v, e, sr⟩ := I.val h hx
    refine ⟨v, e, ?_⟩
    cases x with
    | no => cases hx
    | sh d => exact sr
    | ow ds =>
      obtain ⟨a, vs, eb, g1, g2, g3, g4⟩ := sr
      subst eb
      exact ⟨a, vs, rfl, g1, g2, less_in ⟨i, _, h, rfl, e⟩, g4⟩
    | ob c fs =>
      obtain ⟨a, cl, dx, vs, eb, m, g1, g2, g3, g4⟩ := sr
      subst eb
      exact ⟨a, cl, dx, vs, rfl, m, g1, g2, less_in ⟨i, _, h, rfl, e⟩, g4⟩
theorem SI.back {Hm : Hp} (e : Ext W0 H0 W Hm) {W1 : Wd} {H1 : Hp} (J : SI C W Hm W1 H1 ρ' σ' st') : SI C W0 H0 W1 H1 ρ' σ' st' := by
  refine ⟨J.rel, e.trans J.ext, J.sl.len, fun i x h hx => ?_, J.sl.inj⟩
  obtain ⟨v, ee, sr⟩ := J.val h hx
  refine ⟨v, ee, ?_⟩
  cases x with
  | no => cases hx
  | sh d => exact sr
  | ow ds =>
    obtain ⟨a, vs, eb, g1, g2, g3, g4⟩ := sr
    exact ⟨a, vs, eb, g1, g2, e.dom a g3, g4⟩
  | ob c fs =>
    obtain ⟨a, cl, dx, vs, eb, m, g1, g2, g3, g4⟩ := sr
    exact ⟨a, cl, dx, vs, eb, m, g1, g2, e.dom a g3, g4⟩
/-- a later heap, the names as they were -/
theorem SI.later (I : SI C W0 H0 W H ρ σ st) (e : Ext W H W' H') (r : Rel C W' st' H') : SI C W0 H0 W' H' ρ σ st' := by
  refine ⟨r, I.ext.trans e, I.sl.len, fun i x h hx => ?_, I.sl.inj⟩
  obtain ⟨v, ee, sr⟩ := I.val h hx
  exact ⟨v, ee, sl_stays I.rel e sr⟩
/-- the names' own wishes, by the entry moved -/
theorem rc_here {D : Ends} {Hm : Hp} (e : Ext W0 H0 W Hm) {c : Ctl} {s : Ms} {W1 : Wd} {H1 : Hp} (q : RC C W0 H0 D c s W1 H1) : RC C W Hm D c s W1 H1 := by
  cases c with
  | nx ρ => exact fun σ J => q σ (J.back e)
  | rt d => exact q
  | bk ρ => exact fun σ J => q σ (J.back e)
  | ct ρ => exact fun σ J => q σ (J.back e)
theorem s_if (o : SOk P w C base k N sc Wx X) (G : GxOk P w C base k Γ) {c : E} {a b : Ss} {t : Expr} {x y : List Stmt} {pos : Pos} (hc : mt N sc c t = true) (ha : PSs X x (tSs C Γ Wx a)) (hb : PSs X y (tSs C Γ Wx b)) : PS X (.If t x y pos) (tSt C Γ Wx (.ife c a b)) := by
  refine PS.imp (ps_if (ev_ok G.g c N sc Wx X t o.x hc).2 ha hb) fun D σ H ⟨W0, H0, W, st, ρ, I, q⟩ => ?_
  refine x_tst I q fun k s W1 H1 I1 q1 => ?_
  cases k with
  | true => exact ⟨W0, H0, W1, s, ρ, I1, q1⟩
  | false => exact ⟨W0, H0, W1, s, ρ, I1, q1⟩
theorem s_while (o : SOk P w C base k N sc Wx X) (G : GxOk P w C base k Γ) {n : Nat} {c : E} {b : Ss} {t : Expr} {x : List Stmt} {pos : Pos} (hc : mt N sc c t = true) (hb : PSs X x (tSs C Γ Wx b)) : PS X (.While t x [] pos) (tSt C Γ Wx (.whl n c b)) := by
  refine PS.imp (ps_while o.po (ev_ok G.g c N sc Wx X t o.x hc).2 hb) fun D σ H ⟨W0, H0, W, st, ρ, I, q⟩ => ?_
  refine ⟨fun m σ H => ∃ W st ρ, SI C W0 H0 W H ρ σ st ∧ OQ C Wx W0 H0 (RC C W0 H0 D) (evWhl (fun ρ s => evXT Γ.g c ρ s) (fun ρ s => evSs Γ b ρ s) m ρ st), ⟨n, W, st, ρ, I, q⟩, ?_⟩
  rintro m σ H ⟨W, st, ρ, I, q⟩
  cases m with
  | zero => exact False.elim q
  | succ m =>
    refine x_tst I q fun k s W1 H1 I1 q1 => ?_
    cases k with
    | false => exact oq_nx I1 q1
    | true =>
      rw [if_pos rfl] at q1 ⊢
      refine ⟨fun σ H => ∃ W st ρ, SI C W0 H0 W H ρ σ st ∧ OQ C Wx W0 H0 (RC C W0 H0 D) (evWhl (fun ρ s => evXT Γ.g c ρ s) (fun ρ s => evSs Γ b ρ s) m ρ st), fun σ' H' h => ⟨m, Nat.lt_succ_self m, h⟩, W0, H0, W1, s, ρ, I1, ?_⟩
      refine (OQ.bind0 q1).imp fun ct s2 W2 H2 e2 r2 q2 => ?_
      cases ct with
      | nx ρ2 => exact fun σ2 I2 => ⟨W2, s2, ρ2, I2, q2⟩
      | ct ρ2 => exact fun σ2 I2 => ⟨W2, s2, ρ2, I2, q2⟩
      | bk ρ2 => exact fun σ2 I2 => oq_nx I2 q2
      | rt d => exact q2 W2 H2 e2 r2
theorem s_for (o : SOk P w C base k N sc Wx X) (G : GxOk P w C base k Γ) {tg : Tg} {it : It} {b : Ss} {t i : Expr} {x : List Stmt} {pos : Pos} (ht : mtTg N sc tg t = true) (hi : mti N sc it t i = true) (hb : PSs X x (tSs C Γ Wx b)) : PS X (.For t i x [] pos) (tSt C Γ Wx (.for_ tg it b)) := by
  have hg := l_tg (C := C) (X := X) o.x.calm o.x.K o.x.nm o.x.nd (fun x hx => loc_of o.x hx) ht (fun i _ x _ => .inl (o.fn x))
  refine PS.imp (ps_for o.po o.x.calm (evi_ok G.g it N sc Wx X t i o.x hi) hg hb (plain_set (mti_plain hi))) fun D σ H ⟨W0, H0, W, st, ρ, I, q⟩ => ?_
  refine x_itr I q fun ds ρ1 s1 W1 H1 J I1 dw q1 => ?_
  obtain ⟨Gp, Y, wk, hG, hY⟩ := dw
  refine for_it wk (fun i σ H => ∃ W st ρ, Le W1 W ∧ SI C W0 H0 W H ρ σ st ∧ OQ C Wx W0 H0 (RC C W0 H0 D) (evFor tg (fun ρ s => evSs Γ b ρ s) (ds.drop i) ρ st)) ⟨W1, s1, ρ1, .refl _, I1, q1⟩ ?_ ?_ ?_
  · rintro i σ H hi ⟨W, st, ρ, l, I, q⟩
    exact hG W st H l I.rel
  · rintro i y σ H H' hi ⟨W, st, ρ, l, I, q⟩ hy
    obtain ⟨W2, d, y1, y2, y3, y4⟩ := hY i W st H y H' hi l I.rel hy
    have hd : ds.drop i = d :: ds.drop (i + 1) := by
      rw [List.drop_eq_getElem_cons hi]
      rw [List.getElem?_eq_getElem hi] at y3
      rw [Option.some.inj y3]
    rw [hd] at q
    have I2 : SI C W0 H0 W2 H' ρ σ st := I.later y1 y2
    have q' : OQ C Wx W0 H0 (RC C W0 H0 D) (match bindS tg d ρ with
      | none => .bad
      | some ρ' => (evSs Γ b ρ' st).bind fun c s => match c with
        | .nx ρ2 => evFor tg (fun ρ s => evSs Γ b ρ s) (ds.drop (i + 1)) ρ2 s
        | .ct ρ2 => evFor tg (fun ρ s => evSs Γ b ρ s) (ds.drop (i + 1)) ρ2 s
        | .bk ρ2 => .ok (.nx ρ2) s
        | .rt d => .ok (.rt d) s) := q
    cases eb : bindS tg d ρ with
    | none => rw [eb] at q'; exact False.elim q'
    | some ρ2 =>
      rw [eb] at q'
      refine tg_bind I2 y4 eb fun σ2 I3 => ?_
      have J3 := I3.here
      refine ⟨_, _, W2, st, ρ2, J3, ?_⟩
      refine ((OQ.bind0 q').mono I3.ext0).imp fun ct s2 W4 H4 e4 r4 q4 => ?_
      have l4 : Le W1 W4 := l.trans (y1.le.trans e4.le)
      cases ct with
      | nx ρ4 => exact fun σ4 I4 => ⟨W4, s2, ρ4, l4, I4.back I3.ext0, q4⟩
      | ct ρ4 => exact fun σ4 I4 => ⟨W4, s2, ρ4, l4, I4.back I3.ext0, q4⟩
      | bk ρ4 => exact fun σ4 I4 => oq_nx (I4.back I3.ext0) q4
      | rt d4 => exact q4 W4 H4 (I3.ext0.trans e4) r4
  · rintro σ H ⟨W, st, ρ, l, I, q⟩
    rw [List.drop_length] at q
    exact oq_nx I q
theorem pen_at {i : Nat} {u : Unit} (h : isPen i ρ = some u) : ρ[i]? = some (.sh .pen) := by
  unfold isPen at h
  split at h
  · rename_i e; exact e
  · cases h
theorem pen_put {k : Str} {d : D} {p n : Pen} (h : penSet k d p = some n) (c : Addr) : ∃ z : Int, d = .int z ∧ penKvs n c = putK (penKvs p c) (.inr k) (.int z) ∧ n.cells = p.cells := by
  unfold penSet at h
  split at h
  · rename_i z
    have key : ∀ (k' : Str) (n' : Pen), k = k' → n' = n → penKvs n' c = putK (penKvs p c) (.inr k') (.int z) → n'.cells = p.cells → ∃ y : Int, D.int z = .int y ∧ penKvs n c = putK (penKvs p c) (.inr k) (.int y) ∧ n.cells = p.cells := fun k' n' e1 e2 e3 e4 => by
      subst e1 e2
      exact ⟨z, rfl, e3, e4⟩
    split at h
    · rename_i e; exact key "at" _ e (Option.some.inj h) (by rfl) rfl
    split at h
    · rename_i e; exact key "digits" _ e (Option.some.inj h) (by rfl) rfl
    split at h
    · rename_i e; exact key "count" _ e (Option.some.inj h) (by rfl) rfl
    split at h
    · rename_i e; exact key "fold" _ e (Option.some.inj h) (by rfl) rfl
    · cases h
  · cases h
/-- the drawing dict changes -/
theorem SI.pens (I : SI C W0 H0 W H ρ σ st) {a c : Addr} (hp : W.pen = some (a, c)) {p n : Pen} (hs : st.pen = some p) (hc : n.cells = p.cells) : SI C W0 H0 W (upd H a (.dK (penKvs n c))) ρ σ { st with pen := some n } := by
  obtain ⟨q, h1, h2, h3, h4⟩ := I.rel.pen _ hp
  rw [hs] at h1
  cases h1
  have far : ∀ {b : Addr} {o : HO}, W.G b = some o → b ≠ a := fun {b o} e z => by
    rw [z, h3] at e
    cases e
  have own : ∀ {b : Addr} {o : HO}, H b = some o → (∀ p c, o ≠ .dK (penKvs p c)) → b ≠ a := fun {b o} e m z => by
    rw [z, h2] at e
    exact m _ _ (Option.some.inj e).symm
  refine ⟨⟨fun b o e => ?_, fun x hx => ?_, fun z => ?_, I.rel.nid, I.rel.idlt, I.rel.idinj⟩, ⟨I.ext.le, fun b o e m => ?_, fun b e => ?_, I.ext.newG, I.ext.scr⟩, I.sl.len, fun i x hx ha => ?_, I.sl.inj⟩
  · rw [upd_ne (far e)]; exact I.rel.sub b o e
  · rw [hp] at hx
    cases hx
    exact ⟨n, rfl, upd_same, h3, by rw [hc]; exact h4⟩
  · rw [hp] at z; cases z
  · have na : b ≠ a := m (a, c) (I.ext.le.pen.symm.trans hp)
    rw [upd_ne na]; exact I.ext.keep b o e m
  · by_cases z : b = a
    · rw [z, upd_same] at e; cases e
    · rw [upd_ne z] at e; exact I.ext.dom b e
  · obtain ⟨v, ev, sr⟩ := I.sl.at_ i x hx ha
    refine ⟨v, ev, ?_⟩
    cases x with
    | no => cases ha
    | sh d => exact sr
    | ow ds =>
      obtain ⟨b, vs, eb, g1, g⟩ := sr
      exact ⟨b, vs, eb, by rw [upd_ne (own g1 fun _ _ z => by cases z)]; exact g1, g⟩
    | ob c fs =>
      obtain ⟨b, cl, dx, vs, eb, m, g1, g⟩ := sr
      exact ⟨b, cl, dx, vs, eb, m, by rw [upd_ne (own g1 fun _ _ z => by cases z)]; exact g1, g⟩
theorem s_pns (o : SOk P w C base k N sc Wx X) (G : GxOk P w C base k Γ) {i j : Nat} {f : Str} {m : Md} {e : E} {x : Str} {px p1 p2 pos : Pos} {v : Expr} (hr : rdB N sc i x = true) (hm : mt N sc e v = true) :
    PS X (.Assign [.Subscript (.Name x px) (.Constant (.str f) j p1) p2] v pos) (tSt C Γ Wx (.pns i f m e)) := by
  obtain ⟨h1, h2, h3, h4⟩ := rd_of hr
  have u := o.x.units
  refine PS.imp (ps_dput (by omega) (s_var o.x h1 h2 h3 h4) pe_str (ev_ok G.g e N sc Wx X v o.x hm).1 swap_sub) fun D σ H ⟨W0, H0, W, st, ρ, I, q⟩ => ?_
  obtain ⟨un, eu, q0⟩ := OQ.opt (OQ.bind0 q)
  have hρ := pen_at eu
  obtain ⟨v0, hs, a, c, ev, hp⟩ := I.val hρ rfl
  subst ev
  refine x_val I (q0 W H I.ext I.rel) fun d ρ1 s1 W1 H1 y I1 p _ _ q1 => ?_
  obtain ⟨n, en, q2⟩ := OQ.opt (OQ.bind0 q1)
  obtain ⟨pp, e1, e2⟩ := Option.bind_eq_some_iff.mp en
  refine ⟨_, hs, ?_⟩
  have hp1 : W1.pen = some (a, c) := by
    have z := (I1.ext.le.pen).trans (I.ext.le.pen.symm.trans hp)
    exact z
  obtain ⟨zi, ed, ek, ec⟩ := pen_put e2 c
  have ed : d = .int zi := ed
  subst ed
  have ey : y = .int zi := p
  subst ey
  obtain ⟨q', g1, g2, _⟩ := I1.rel.pen _ hp1
  rw [e1] at g1
  cases g1
  refine ⟨a, upd H1 a (.dK (penKvs n c)), rfl, ?_, ?_⟩
  · rw [ek]
    exact DPut.k (k := .inr f) g2 (by show 5 < sizeLine; decide)
  · have J := I1.pens hp1 e1 ec
    have q3 := q2 W1 H1 I1.ext I1.rel
    exact q3 W1 _ J.ext J.rel σ J
end
end Mp
set_option Elab.async false
set_option linter.all false
set_option maxRecDepth 100000
set_option maxHeartbeats 4000000
/-! MpStm6: every statement keeps its reading; defs. -/
namespace Mp
open PySem PySem.Spec PyProof.Rows L2
section
variable {P : Program} {w : World} {C : Rc} {base : Heap} {k : Nat} {Γ : Gx}
theorem ss_nil {N : List Str} {sc : Scope} {Wx : XK} {X : Cx} : PSs X [] (tSs C Γ Wx .nil) :=
  ⟨fun pins s σ H D I ⟨W0, H0, W, st, ρ, J, q⟩ => pss_nil.run pins s σ H D I (oq_nx J q)⟩
theorem ss_cons {N : List Str} {sc : Scope} {Wx : XK} {X : Cx} {t : Stmt} {ts : List Stmt} {m : S} {r : Ss} (h1 : PS X t (tSt C Γ Wx m)) (h2 : PSs X ts (tSs C Γ Wx r)) : PSs X (t :: ts) (tSs C Γ Wx (.cons m r)) := by
  refine PSs.imp (pss_cons h1 h2) fun D σ H ⟨W0, H0, W, st, ρ, J, q⟩ => ?_
  refine ⟨W0, H0, W, st, ρ, J, (OQ.bind0 q).imp fun c s W1 H1 e1 r1 q1 => ?_⟩
  cases c with
  | nx ρ' => exact fun σ' J' => ⟨W0, H0, W1, s, ρ', J', q1⟩
  | rt d => exact q1 W1 H1 e1 r1
  | bk ρ' => exact q1 W1 H1 e1 r1
  | ct ρ' => exact q1 W1 H1 e1 r1
theorem ow_or {m : Md} {e : E} (h : (!m.ow || newB e) = true) (z : m.ow = true) : newB e = true := by
  rw [z] at h
  simpa using h
variable {N : List Str} {sc : Scope} {Wx : XK} {X : Cx} {s : Stmt}
theorem k_asg (G : GxOk P w C base k Γ) (o : SOk P w C base k N sc Wx X) {i : Nat} {m : Md} {e : E} (h : mAsg N sc i m e s = true) : PS X s (tSt C Γ Wx (.asg i m e)) := by
  unfold mAsg at h
  split at h
  · rename_i x px v pos hs
    simp only [Bool.and_eq_true, decide_eq_true_eq] at h
    obtain ⟨⟨⟨h1, h2⟩, h3⟩, h4⟩ := h
    rw [asgP_inv hs]
    exact s_asg o G h1 h2 h3 (ow_or h4)
  · cases h
theorem k_unp (G : GxOk P w C base k Γ) (o : SOk P w C base k N sc Wx X) {is : List Nat} {m : Md} {e : E} (h : mUnp N sc is e s = true) : PS X s (tSt C Γ Wx (.unp is m e)) := by
  unfold mUnp at h
  split at h
  · rename_i tg v pos hs
    simp only [Bool.and_eq_true, Bool.not_eq_true'] at h
    obtain ⟨⟨h1, h2⟩, h3⟩ := h
    rw [asg1P_inv hs]
    exact s_unp o G h1 h2 h3
  · cases h
theorem k_par (G : GxOk P w C base k Γ) (o : SOk P w C base k N sc Wx X) {i j : Nat} {m n : Md} {a b : E} (h : mPar N sc i j m n a b s = true) : PS X s (tSt C Γ Wx (.par i j m n a b)) := by
  unfold mPar at h
  split at h
  · rename_i tg tv pos hs
    split at h
    · rename_i e1 e2 kt pt u v k2 pt2 ht hv
      split at h
      · rename_i x px y py hx hy
        simp only [Bool.and_eq_true, decide_eq_true_eq] at h
        obtain ⟨⟨⟨⟨⟨⟨⟨h1, h2⟩, h3⟩, h4⟩, h5⟩, h6⟩, h7⟩, h8⟩ := h
        rw [asg1P_inv hs, tup2P_inv ht, tup2P_inv hv, nameP_inv hx, nameP_inv hy]
        exact s_par o G h1 h2 h3 h4 h5 (ow_or h6) (ow_or h7) h8
      · cases h
    · cases h
  · cases h
theorem k_app (G : GxOk P w C base k Γ) (o : SOk P w C base k N sc Wx X) {i : Nat} {m : Md} {e : E} (h : mApp N sc i e s = true) : PS X s (tSt C Γ Wx (.app i m e)) := by
  unfold mApp at h
  split at h
  · rename_i c pos hs
    split at h
    · rename_i f ys cpos hc
      split at h
      · rename_i o' f' apos v hf hy
        split at h
        · rename_i x px hx
          simp only [Bool.and_eq_true, decide_eq_true_eq] at h
          obtain ⟨⟨⟨h1, h2⟩, h3⟩, h4⟩ := h
          obtain ⟨r1, r2, r3, r4⟩ := rd_of h2
          rw [exprP_inv hs, callP_inv hc, attrP_inv hf, oneP_inv hy, nameP_inv hx, h1]
          exact s_app o G r1 r2 r3 r4 h3 h4
        · cases h
      · cases h
    · cases h
  · cases h
theorem k_sti (G : GxOk P w C base k Γ) (o : SOk P w C base k N sc Wx X) {i : Nat} {m n : Md} {a e : E} (h : mSti N sc i a e s = true) : PS X s (tSt C Γ Wx (.sti i m n a e)) := by
  unfold mSti at h
  split at h
  · rename_i tg v pos hs
    split at h
    · rename_i o' u p2 ht
      split at h
      · rename_i x px hx
        simp only [Bool.and_eq_true] at h
        obtain ⟨⟨h1, h2⟩, h3⟩ := h
        obtain ⟨r1, r2, r3, r4⟩ := rd_of h1
        rw [asg1P_inv hs, subP_inv ht, nameP_inv hx]
        exact s_sti o G r1 r2 r3 r4 h2 h3
      · cases h
    · cases h
  · cases h
theorem k_aug (G : GxOk P w C base k Γ) (o : SOk P w C base k N sc Wx X) {i : Nat} {op : Operator} {m : Md} {e : E} (h : mAug N sc i op e s = true) : PS X s (tSt C Γ Wx (.aug i op m e)) := by
  unfold mAug at h
  split at h
  · rename_i t op' v pos hs
    split at h
    · rename_i x px hx
      simp only [Bool.and_eq_true, decide_eq_true_eq] at h
      obtain ⟨⟨⟨h1, h2⟩, h3⟩, h4⟩ := h
      rw [augP_inv hs, nameP_inv hx, ← h4]
      exact s_aug o G h1 h2 h3
    · cases h
  · cases h
theorem k_sto (G : GxOk P w C base k Γ) (o : SOk P w C base k N sc Wx X) {f : Str} {m : Md} {e : E} (h : mSto N sc f e s = true) : PS X s (tSt C Γ Wx (.sto f m e)) := by
  unfold mSto at h
  split at h
  · rename_i tg v pos hs
    split at h
    · rename_i o' f' p2 ht
      split at h
      · rename_i x px hx
        simp only [Bool.and_eq_true, decide_eq_true_eq] at h
        obtain ⟨⟨h1, h2⟩, h3⟩ := h
        obtain ⟨r1, r2, r3, r4⟩ := rd_of h1
        rw [asg1P_inv hs, attrP_inv ht, nameP_inv hx, ← h3]
        exact s_sto o G r1 r2 r3 r4 h2
      · cases h
    · cases h
  · cases h
theorem strP_inv {e : Expr} {k : Str} (h : strP e = some k) : ∃ j p, e = .Constant (.str k) j p := by
  cases e <;> first | (cases h; done) | skip
  rename_i c j p
  cases c <;> first | (cases h; done) | skip
  cases h
  exact ⟨j, p, rfl⟩
theorem k_pns (G : GxOk P w C base k Γ) (o : SOk P w C base k N sc Wx X) {i : Nat} {f : Str} {m : Md} {e : E} (h : mPns N sc i f e s = true) : PS X s (tSt C Γ Wx (.pns i f m e)) := by
  unfold mPns at h
  split at h
  · rename_i tg v pos hs
    split at h
    · rename_i o' u p2 ht
      split at h
      · rename_i x px k' hx hk
        simp only [Bool.and_eq_true, decide_eq_true_eq] at h
        obtain ⟨⟨h1, h2⟩, h3⟩ := h
        subst h1
        obtain ⟨j, p1, hu⟩ := strP_inv hk
        rw [asg1P_inv hs, subP_inv ht, nameP_inv hx, hu]
        exact s_pns o G h2 h3
      · cases h
    · cases h
  · cases h
theorem k_rse (G : GxOk P w C base k Γ) (o : SOk P w C base k N sc Wx X) {c : Str} {es : Es} (h : mRse N sc c es s = true) : PS X s (tSt C Γ Wx (.rse c es)) := by
  unfold mRse at h
  split at h
  · rename_i e pos hs
    split at h
    · rename_i f ys cpos hc
      split at h
      · rename_i x px hx
        simp only [Bool.and_eq_true, decide_eq_true_eq] at h
        obtain ⟨⟨h1, h2⟩, h3⟩ := h
        subst h1
        rw [rseP_inv hs, callP_inv hc, nameP_inv hx]
        exact s_rse o G h2 h3
      · cases h
    · cases h
  · cases h
theorem k_ret (G : GxOk P w C base k Γ) (o : SOk P w C base k N sc Wx X) {e : E} (h : mRet N sc e s = true) : PS X s (tSt C Γ Wx (.ret e)) := by
  unfold mRet at h
  split at h
  · rename_i v pos hs
    rw [retP_inv hs]
    exact s_ret o G h
  · cases h
theorem k_rtn (h : mRtn s = true) : PS X s (tSt C Γ Wx .rtn) := by
  unfold mRtn at h
  split at h
  · rename_i pos hs
    rw [retP_inv hs]
    exact PS.imp ps_retN fun D σ H ⟨W0, H0, W, st, ρ, I, q⟩ => q W H I.ext I.rel _ rfl
  · cases h
theorem k_exp (G : GxOk P w C base k Γ) (o : SOk P w C base k N sc Wx X) {e : E} (h : mExp N sc e s = true) : PS X s (tSt C Γ Wx (.exp e)) := by
  unfold mExp at h
  split at h
  · rename_i v pos hs
    simp only [Bool.and_eq_true, Bool.not_eq_true'] at h
    rw [exprP_inv hs]
    exact s_exp o G h.1 h.2
  · cases h
theorem k_doc (h : mDoc s = true) : PS X s (tSt C Γ Wx .doc) := by
  unfold mDoc at h
  split at h
  · rename_i v pos hs
    rw [exprP_inv hs]
    cases v <;> first | (cases h; done) | skip
    rename_i c j p
    cases c <;> first | (cases h; done) | skip
    exact PS.imp ps_doc fun D σ H ⟨W0, H0, W, st, ρ, I, q⟩ => oq_nx I q
  · cases h
theorem k_brk (h : isBrk s = true) : PS X s (tSt C Γ Wx .brk) := by
  cases s <;> first | (cases h; done) | skip
  exact PS.imp ps_break fun D σ H ⟨W0, H0, W, st, ρ, I, q⟩ => q W H I.ext I.rel σ I
theorem k_cnt (h : isCnt s = true) : PS X s (tSt C Γ Wx .cnt) := by
  cases s <;> first | (cases h; done) | skip
  exact PS.imp ps_continue fun D σ H ⟨W0, H0, W, st, ρ, I, q⟩ => q W H I.ext I.rel σ I
theorem k_pas (h : isPas s = true) : PS X s (tSt C Γ Wx .pas) := by
  cases s <;> first | (cases h; done) | skip
  exact PS.imp ps_pass fun D σ H ⟨W0, H0, W, st, ρ, I, q⟩ => oq_nx I q
theorem if_inv {c : E} {a b : Ss} (h : mtS N sc (.ife c a b) s = true) : ∃ t x y pos, s = .If t x y pos ∧ mt N sc c t = true ∧ mtSs N sc a x = true ∧ mtSs N sc b y = true := by
  have h' : (match ifP s with
    | some (t, x, y, _) => mt N sc c t && mtSs N sc a x && mtSs N sc b y
    | none => false) = true := h
  split at h'
  · rename_i t x y pos hs
    simp only [Bool.and_eq_true] at h'
    exact ⟨t, x, y, pos, ifP_inv hs, h'.1.1, h'.1.2, h'.2⟩
  · cases h'
theorem for_inv {tg : Tg} {it : It} {b : Ss} (h : mtS N sc (.for_ tg it b) s = true) : ∃ t i x pos, s = .For t i x [] pos ∧ mtTg N sc tg t = true ∧ mti N sc it t i = true ∧ mtSs N sc b x = true := by
  have h' : (match forP s with
    | some (t, i, x, _) => mtTg N sc tg t && mti N sc it t i && mtSs N sc b x
    | none => false) = true := h
  split at h'
  · rename_i t i x pos hs
    simp only [Bool.and_eq_true] at h'
    exact ⟨t, i, x, pos, forP_inv hs, h'.1.1, h'.1.2, h'.2⟩
  · cases h'
theorem whl_inv {n : Nat} {c : E} {b : Ss} (h : mtS N sc (.whl n c b) s = true) : ∃ t x pos, s = .While t x [] pos ∧ mt N sc c t = true ∧ mtSs N sc b x = true := by
  have h' : (match whlP s with
    | some (t, x, _) => mt N sc c t && mtSs N sc b x
    | none => false) = true := h
  split at h'
  · rename_i t x pos hs
    simp only [Bool.and_eq_true] at h'
    exact ⟨t, x, pos, whlP_inv hs, h'.1, h'.2⟩
  · cases h'
theorem cons_inv {m : S} {r : Ss} {ss : List Stmt} (h : mtSs N sc (.cons m r) ss = true) : ∃ s t, ss = s :: t ∧ mtS N sc m s = true ∧ mtSs N sc r t = true := by
  cases ss with
  | nil => cases h
  | cons s t =>
    have h' : (mtS N sc m s && mtSs N sc r t) = true := h
    rw [Bool.and_eq_true] at h'
    exact ⟨s, t, rfl, h'.1, h'.2⟩
theorem nil_inv {ss : List Stmt} (h : mtSs N sc .nil ss = true) : ss = [] := by
  have h' : ss.isEmpty = true := h
  simpa using h'
mutual
theorem st_ok (G : GxOk P w C base k Γ) : ∀ (m : S) (N : List Str) (sc : Scope) (Wx : XK) (X : Cx) (s : Stmt), SOk P w C base k N sc Wx X → mtS N sc m s = true → PS X s (tSt C Γ Wx m)
  | .asg i m e, N, sc, Wx, X, s, o, h => k_asg G o h
  | .unp is m e, N, sc, Wx, X, s, o, h => k_unp G o h
  | .par i j m n a b, N, sc, Wx, X, s, o, h => k_par G o h
  | .app i m e, N, sc, Wx, X, s, o, h => k_app G o h
  | .sti i m n a e, N, sc, Wx, X, s, o, h => k_sti G o h
  | .aug i op m e, N, sc, Wx, X, s, o, h => k_aug G o h
  | .sto f m e, N, sc, Wx, X, s, o, h => k_sto G o h
  | .pns i k m e, N, sc, Wx, X, s, o, h => k_pns G o h
  | .ret e, N, sc, Wx, X, s, o, h => k_ret G o h
  | .rtn, N, sc, Wx, X, s, o, h => k_rtn h
  | .ife c a b, N, sc, Wx, X, s, o, h => by
    obtain ⟨t, x, y, pos, hs, h1, h2, h3⟩ := if_inv h
    rw [hs]
    exact s_if o G h1 (sts_ok G a N sc Wx X x o h2) (sts_ok G b N sc Wx X y o h3)
  | .for_ tg it b, N, sc, Wx, X, s, o, h => by
    obtain ⟨t, i, x, pos, hs, h1, h2, h3⟩ := for_inv h
    rw [hs]
    exact s_for o G h1 h2 (sts_ok G b N sc Wx X x o h3)
  | .whl n c b, N, sc, Wx, X, s, o, h => by
    obtain ⟨t, x, pos, hs, h1, h2⟩ := whl_inv h
    rw [hs]
    exact s_while o G h1 (sts_ok G b N sc Wx X x o h2)
  | .brk, N, sc, Wx, X, s, o, h => k_brk h
  | .cnt, N, sc, Wx, X, s, o, h => k_cnt h
  | .pas, N, sc, Wx, X, s, o, h => k_pas h
  | .doc, N, sc, Wx, X, s, o, h => k_doc h
  | .rse c es, N, sc, Wx, X, s, o, h => k_rse G o h
  | .exp e, N, sc, Wx, X, s, o, h => k_exp G o h
theorem sts_ok (G : GxOk P w C base k Γ) : ∀ (m : Ss) (N : List Str) (sc : Scope) (Wx : XK) (X : Cx) (s : List Stmt), SOk P w C base k N sc Wx X → mtSs N sc m s = true → PSs X s (tSs C Γ Wx m)
  | .nil, N, sc, Wx, X, s, o, h => by
    rw [nil_inv h]; exact ss_nil (N := N) (sc := sc)
  | .cons m r, N, sc, Wx, X, s, o, h => by
    obtain ⟨s1, t, hs, h1, h2⟩ := cons_inv h
    rw [hs]
    exact ss_cons (N := N) (sc := sc) (st_ok G m N sc Wx X s1 o h1) (sts_ok G r N sc Wx X t o h2)
end
end
end Mp
set_option Elab.async false
set_option linter.all false
set_option maxRecDepth 100000
set_option maxHeartbeats 2000000
/-! MpDef: defs by their bodies, classes by their __init__. -/
namespace Mp
open PySem PySem.Spec PyProof.Rows L2
section
variable {P : Program} {w : World} {C : Rc} {base : Heap} {k : Nat} {Γ : Gx} {x qual : Str} {params : Arguments} {body : List Stmt} {scope : Scope} {dvs : List V} {kws : List (Str × V)} {f : Addr} {fd : FuncData} {N ps : List Str}
theorem fnG_gen {sp : Sp} (F : FunD C.K x qual params body scope dvs kws f fd) (S : FnScope N ps scope) (len : ∀ vs H Q E, sp vs H Q E → vs.length = ps.length)
    (hbody : ∀ (cdv : Value) (A : Around) (outer : List Env) (s : Shared) (H : Hp) (vs : List V) (Q : VK) (E : XK), RoomG k (A.deeper (envOfC qual scope s.heap.objs.size f cdv)) → sp vs H Q E →
      ∃ t, PSs (cxOf (CX P w) P w C.K C.mg base N qual scope f cdv A outer s H E) body t ∧ t { nx := fun _ H' => Q .non H', rt := Q } (L2.start N vs) H) : FnG P w C base (k + 1) f fd ps sp := by
  obtain ⟨oc, od, dV, kV, doc, pm, an, cdv, ct, osl, rfl, lk, hcd, _, _⟩ := F.ex
  refine ⟨len, fun A outer s H args us vs Q E hr e0 hb r hsp => ?_⟩
  have hl := len _ _ _ _ hsp
  have KX : C.K.In s.heap := e0.mod.kin.keeps fun b o e => (e0.bs b o e).1
  have lim : s.heap.NoLimit := e0.mod.nolimit.keeps fun b o e => (e0.bs b o e).1
  have hkind : ∀ y ∈ ps.zip us, scope.names.lookup y.1 = some .local ∨ (scope.names.lookup y.1 = some .cell ∧ ((cellsFrom (s.heap.objs.size + 1) scope.names []).lookup y.1).isSome = true) := fun ⟨n, v⟩ hy => by
    rcases S.par n (List.of_mem_zip hy).1 with q | q
    · exact .inl q
    · exact .inr ⟨q, PySem.W.cellsFrom_some _ _ _ (.inl q)⟩
  refine codeAny_call_function hr.room.depth (KX _ _ lk) rfl S.co S.gen rfl (PySem.W.codeRec_of KX hcd) (hb _ _ _ _ ?_)
  refine wpAny_newFunctionEnv_cells S.kind hkind fun env he s1 x => ?_
  subst he
  refine ⟨lim.keeps x.toInCall.keep, codeAny_func ?_⟩
  obtain ⟨t, ht, hq⟩ := hbody cdv A outer s H vs Q E (hr.deeper _) hsp
  have I : Inv (cxOf (CX P w) P w C.K C.mg base N qual scope f cdv A outer s H E) [] (L2.start N vs) H s1 := inv_start S hr.room.hd e0 hl r x
  refine wpAny_mono (ht.run [] s1 (L2.start N vs) H _ I hq) (fun fl s' hs => ?_) fun e s' hs => hs
  have fin : ∀ {σ' : Sg} {H' : Hp} {v : V} {u : Value}, Inv (cxOf (CX P w) P w C.K C.mg base N qual scope f cdv A outer s H E) [] σ' H' s' → RelV v u → Q v H' → CE outer P w H s Q u s' :=
    fun {σ' H' v u} J rv q => ⟨v, H', J.os, J.bare, J.base, J.hok, rv, q⟩
  cases fl with
  | ret u =>
    obtain ⟨v, σ', H', J, rv, q⟩ := hs
    exact fin J rv q
  | next =>
    obtain ⟨σ', H', J, q⟩ := hs
    exact fin (v := V.non) (u := Value.none) J rfl q
  | brk =>
    obtain ⟨_, _, _, q⟩ := hs
    exact False.elim q
  | cont =>
    obtain ⟨_, _, _, q⟩ := hs
    exact False.elim q
/-- the context of a body -/
theorem sok_body (S : FnScope N ps scope) {cdv : Value} {A : Around} {outer : List Env} {s : Shared} {H : Hp} {E : XK} (hr : RoomG (k + 1) (A.deeper (envOfC qual scope s.heap.objs.size f cdv))) :
    SOk P w C base k N scope E (cxOf (CX P w) P w C.K C.mg base N qual scope f cdv A outer s H E) :=
  ⟨⟨rfl, rfl, rfl, rfl, rfl, rfl, rfl, S.nd, rfl, hr, takes_of rfl rfl rfl rfl⟩, S.kind, passes_of rfl, fun _ => rfl⟩
/-! ### defs -/
def rho0 (ds : List D) (n : Nat) : List Sl := ds.map Sl.sh ++ List.replicate (n - ds.length) .no
theorem start_sl {W : Wd} {H0 H : Hp} {ds : List D} {vs : List V} (r : Reps C W ds vs) (hn : vs.length ≤ N.length) : SSl C W H0 H (rho0 ds N.length) (L2.start N vs) := by
  have hl := r.length
  have own : ∀ {i : Nat} {y : Sl}, (rho0 ds N.length)[i]? = some y → y.any = true → ∃ d, y = .sh d ∧ ds[i]? = some d := fun {i y} h hy => by
    unfold rho0 at h
    by_cases hi : i < ds.length
    · rw [List.getElem?_append_left (by simpa using hi), List.getElem?_map] at h
      cases e : ds[i]? with
      | none => rw [e] at h; cases h
      | some d => rw [e] at h; cases h; exact ⟨d, rfl, rfl⟩
    · rw [List.getElem?_append_right (by simpa using hi), List.getElem?_replicate] at h
      split at h
      · cases h; cases hy
      · cases h
  refine ⟨by unfold rho0 L2.start; simp [hl], fun i y h hy => ?_, fun i j y z v h1 h2 o1 _ _ _ => ?_⟩
  · obtain ⟨d, ey, hd⟩ := own h hy
    subst ey
    obtain ⟨v, hv, rep⟩ := r.get hd
    refine ⟨v, ?_, rep⟩
    unfold L2.start
    have hi : i < vs.length := by
      by_cases q : i < vs.length
      · exact q
      · rw [List.getElem?_eq_none (by simpa using q)] at hv; cases hv
    rw [List.getElem?_append_left (by simpa using hi), List.getElem?_map, hv]
    rfl
  · obtain ⟨d, ey, _⟩ := own h1 (by cases y <;> first | rfl | cases o1)
    subst ey
    cases o1
theorem fnG_den (F : FunD C.K x qual params body scope dvs kws f fd) (S : FnScope N ps scope) (hp : ps.length ≤ N.length) (G : GxOk P w C base k Γ) {m : Ss} (hm : mtSs N scope m body = true) :
    FnG P w C base (k + 2) f fd ps (spDen C (denOf Γ ps.length N.length m)) := by
  have len : ∀ vs H Q E, spDen C (denOf Γ ps.length N.length m) vs H Q E → vs.length = ps.length := fun vs H Q E ⟨W, st, ds, r, _, q⟩ => by
    by_cases h : ds.length = ps.length
    · rw [← r.length, h]
    · unfold denOf at q
      rw [if_neg h] at q
      exact False.elim q
  refine fnG_gen F S len fun cdv A outer s H vs Q E hr hsp => ⟨tSs C Γ E m, sts_ok G m N scope E _ body (sok_body S hr) hm, ?_⟩
  have hl := len _ _ _ _ hsp
  obtain ⟨W, st, ds, r, rel, q⟩ := hsp
  have hd : ds.length = ps.length := r.length.trans hl
  unfold denOf at q
  rw [if_pos hd] at q
  refine ⟨W, H, W, st, rho0 ds N.length, ⟨rel, .refl W H, start_sl r (by rw [hl]; exact hp)⟩, ?_⟩
  have e : rho0 ds N.length = ds.map Sl.sh ++ List.replicate (N.length - ps.length) .no := by unfold rho0; rw [hd]
  rw [e]
  refine (OQ.bind0 q).imp fun c s1 W1 H1 e1 r1 q1 => ?_
  cases c with
  | nx ρ => exact fun σ J => q1 W1 H1 e1 r1 .non rfl
  | rt d => exact fun v p => q1 W1 H1 e1 r1 v p
  | bk ρ => exact False.elim q1
  | ct ρ => exact False.elim q1
/-- a def of the module, by its body -/
theorem def_ok (F : FunD C.K x qual params body scope [] [] f fd) (S : FnScope N ps scope) (hp : ps.length ≤ N.length) (hg : C.mg x = some (.ref f)) (hb : Binds C.K fd ps []) (G : GxOk P w C base k Γ) {m : Ss} (hm : mtSs N scope m body = true) :
    DefOk P w C base (k + 2) x (denOf Γ ps.length N.length m) := ⟨f, fd, ps, hg, F.kp, hb, fnG_den F S hp G hm⟩

/-! ### __init__ -/
abbrev Ini := List D → Ms → Out (List (Str × D))
def iniOf (Γ : Gx) (c : Str) (np n : Nat) (b : Ss) : Ini := fun ds s => if ds.length + 1 = np then (evSs Γ b (.ob c [] :: (ds.map Sl.sh ++ List.replicate (n - np) .no)) s).bind fun q s => match q with
    | .nx ρ => (match ρ[(0 : Nat)]? with
      | some (.ob c' fs) => if c' = c then .ok fs s else .bad
      | _ => .bad)
    | _ => .bad
  else .bad
def spIni (C : Rc) (c : Str) (ini : Ini) : Sp := fun vs H Q E => ∃ W st ds a us cl dx, vs = .ref a :: us ∧ Reps C W ds us ∧ Rel C W st H ∧ C.mg c = some (.ref cl) ∧ H a = some (.ins cl dx []) ∧ W.G a = none ∧
  OQ C E W (del H a) (fun fs s W' H' => ∀ dx' vs', H' a = some (.ins cl dx' vs') → W'.G a = none → RepF C W' fs vs' → Q .non H') (ini ds st)
theorem fnG_ini (F : FunD C.K x qual params body scope dvs kws f fd) (S : FnScope N ps scope) (hp : ps.length ≤ N.length) (G : GxOk P w C base k Γ) {c : Str} {m : Ss} (hm : mtSs N scope m body = true) :
    FnG P w C base (k + 2) f fd ps (spIni C c (iniOf Γ c ps.length N.length m)) := by
  have len : ∀ vs H Q E, spIni C c (iniOf Γ c ps.length N.length m) vs H Q E → vs.length = ps.length := fun vs H Q E ⟨W, st, ds, a, us, cl, dx, ev, r, _, _, _, _, q⟩ => by
    by_cases h : ds.length + 1 = ps.length
    · rw [ev, List.length_cons, ← r.length, h]
    · unfold iniOf at q
      rw [if_neg h] at q
      exact False.elim q
  refine fnG_gen F S len fun cdv A outer s H vs Q E hr hsp => ⟨tSs C Γ E m, sts_ok G m N scope E _ body (sok_body S hr) hm, ?_⟩
  have hl := len _ _ _ _ hsp
  obtain ⟨W, st, ds, a, us, cl, dx, ev, r, rel, mg, ha, ga, q⟩ := hsp
  subst ev
  have hd : ds.length + 1 = ps.length := by rw [r.length]; exact hl
  unfold iniOf at q
  rw [if_pos hd] at q
  have mi : Mine W a := ⟨ga, fun y hy z => by
    obtain ⟨_, _, h2, _⟩ := rel.pen y hy
    rw [z, ha] at h2
    cases h2⟩
  -- the world where the new object is told
  have lw : Le W { W with scr := some a } := ⟨fun _ _ z => z, rfl, fun _ _ z => z, Nat.le_refl _⟩
  have r' : Reps C { W with scr := some a } ds us := Reps.le lw ds us r
  have rel' : Rel C { W with scr := some a } st H := ⟨rel.sub, rel.pen, rel.penE, rel.nid, rel.idlt, rel.idinj⟩
  -- the names at the entry, by a start where the first is a datum
  have s0 : SSl C { W with scr := some a } (del H a) H (rho0 (D.non :: ds) N.length) (L2.start N (.non :: us)) := start_sl (N := N) (ds := D.non :: ds) (vs := V.non :: us) ⟨.non, us, rfl, rfl, r'⟩ (by simp at hl ⊢; omega)
  have e0 : Ext { W with scr := some a } (del H a) { W with scr := some a } H := ⟨.refl _, fun b o z _ => (del_some z).2, fun b z => del_none z, fun b o z => .inl z, rfl⟩
  have s1 : SSl C { W with scr := some a } (del H a) H ((rho0 (D.non :: ds) N.length).set 0 (.ob c [])) ((L2.start N (.non :: us)).set 0 (some (.ref a))) := by
    refine s0.set (x := .ob c []) (v := .ref a) 0 ⟨a, cl, dx, [], rfl, ⟨mg, rfl⟩, ha, ga, del_at, rfl⟩ fun _ j y hj oy => ?_
    intro z
    have : ∀ (l : List Sl), (∀ t ∈ l, t.own = false) → l[j]? = some y → False := fun l hl hy => by
      have := hl y (List.mem_of_getElem? hy)
      rw [oy] at this
      cases this
    refine this _ (fun t ht => ?_) hj
    unfold rho0 at ht
    rcases List.mem_append.mp ht with q | q
    · obtain ⟨d, _, e⟩ := List.mem_map.mp q
      rw [← e]; rfl
    · rw [(List.mem_replicate.mp q).2]; rfl
  have eσ : (L2.start N (.non :: us)).set 0 (some (.ref a)) = L2.start N (.ref a :: us) := by
    unfold L2.start
    simp
  have eρ : (rho0 (D.non :: ds) N.length).set 0 (.ob c []) = .ob c [] :: (ds.map Sl.sh ++ List.replicate (N.length - ps.length) .no) := by
    unfold rho0
    simp [hd]
  rw [eσ, eρ] at s1
  refine ⟨{ W with scr := some a }, del H a, { W with scr := some a }, st, _, ⟨rel', e0, s1⟩, ?_⟩
  -- back to the world of the entry
  have back : ∀ {W1 : Wd} {H1 : Hp}, Ext { W with scr := some a } (del H a) W1 H1 → Ext W (del H a) { W1 with scr := W.scr } H1 := fun {W1 H1} e => ⟨⟨e.le.G, e.le.pen, e.le.ids, e.le.nid⟩, e.keep, e.dom, e.newG, rfl⟩
  have relb : ∀ {W1 : Wd} {H1 : Hp} {s : Ms}, Rel C W1 s H1 → Rel C { W1 with scr := W.scr } s H1 := fun {W1 H1 s} r => ⟨r.sub, r.pen, r.penE, r.nid, r.idlt, r.idinj⟩
  have leb : ∀ {W1 : Wd}, Le W1 { W1 with scr := W.scr } := fun {W1} => ⟨fun _ _ z => z, rfl, fun _ _ z => z, Nat.le_refl _⟩
  cases eo : evSs Γ m (.ob c [] :: (ds.map Sl.sh ++ List.replicate (N.length - ps.length) .no)) st with
  | bad => rw [eo] at q; exact False.elim q
  | ex x s2 =>
    rw [eo] at q
    intro cls d W1 H1 e1 r1 ⟨cl1, d1, vs1, x1, x2, x3, x4, x5⟩
    exact q cls d _ H1 (back e1) (relb r1) ⟨cl1, d1, vs1, x1, x2, x3, x4, RepF.le leb _ _ x5⟩
  | ok ct s2 =>
    rw [eo] at q
    cases ct with
    | nx ρ =>
      intro W1 H1 e1 r1 σ J
      cases eh : ρ[(0 : Nat)]? with
      | none =>
        have q2 := q
        simp only [Out.bind_ok, eh] at q2
        exact False.elim q2
      | some y =>
        have q2 := q
        simp only [Out.bind_ok, eh] at q2
        cases y with
        | ob c' fs =>
          have q3 : OQ C E W (del H a) (fun fs s W' H' => ∀ (dx' : Addr) (vs' : List (Str × V)), H' a = some (.ins cl dx' vs') → W'.G a = none → RepF C W' fs vs' → Q V.non H') (if c' = c then Out.ok fs s2 else .bad) := q2
          by_cases ec : c' = c
          · rw [if_pos ec] at q3
            subst ec
            obtain ⟨v, hv, b, cl', dx', vs', eb, ⟨mg', sc'⟩, k1, k2, k3, k4⟩ := J.val eh rfl
            have es : W1.scr = some a := e1.scr
            rw [es] at sc'
            have eab := Option.some.inj sc'
            subst eab
            rw [mg] at mg'
            cases mg'
            exact q3 _ H1 (back e1) (relb r1) dx' vs' k1 k2 (RepF.le leb _ _ k4)
          · rw [if_neg ec] at q3
            exact False.elim q3
        | _ => exact False.elim q2
    | rt d => exact False.elim q
    | bk ρ => exact False.elim q
    | ct ρ => exact False.elim q
/-! ### making -/
def mkDen (c : Str) (idn : Bool) (ini : Ini) : Den := fun ds s => (ini ds s).bind fun fs s => if idn = true then .ok (.ins c (s.oid + 1) fs) { s with oid := s.oid + 1 } else .ok (.ins c 0 fs) s
/-- a made object becomes known -/
theorem made_known {W W1 : Wd} {H H1 : Hp} {s : Ms} {c : Str} {cl a : Addr} {dx : Addr} {vs : List (Str × V)} {fs : List (Str × D)} {idn : Bool} {Q : VK} {Wx : XK} (mg : C.mg c = some (.ref cl)) (hn : H a = none) (e : Ext W H W1 H1) (r : Rel C W1 s H1) (ha : H1 a = some (.ins cl dx vs)) (ga : W1.G a = none) (rf : RepF C W1 fs vs)
    (q : OQ C Wx W H (RD C Q) (if idn = true then .ok (.ins c (s.oid + 1) fs) { s with oid := s.oid + 1 } else .ok (.ins c 0 fs) s)) : Q (.ref a) H1 := by
  have mi : Mine W1 a := ⟨ga, fun y hy z => by
    obtain ⟨_, _, h2, _⟩ := r.pen y hy
    rw [z, ha] at h2
    cases h2⟩
  have r2 := rel_frz r mi ha
  have e2 : Ext W H (W1.put a (.ins cl dx vs)) H1 := {
    le := e.le.trans (le_put ga)
    keep := e.keep
    dom := e.dom
    newG := fun b u z => by
      have z' : upd W1.G a (.ins cl dx vs) b = some u := z
      by_cases h : b = a
      · rw [h]; exact .inr hn
      · rw [upd_ne h] at z'; exact e.newG b u z'
    scr := e.scr }
  have rf2 := RepF.le (le_put (o := .ins cl dx vs) ga) fs vs rf
  cases idn with
  | false =>
    rw [if_neg Bool.false_ne_true] at q
    exact q _ H1 e2 r2 (.ref a) ⟨a, cl, dx, vs, rfl, mg, Wd.put_at, rf2, fun z => absurd rfl z⟩
  | true =>
    rw [if_pos rfl] at q
    have en := r.nid
    have old : ∀ i b, W1.ids i = some b → i ≤ s.oid := fun i b z => by rw [← en]; exact (r.idlt i b z).1
    have lids : ∀ (i : Nat) (b : Addr), W1.ids i = some b → (if i = s.oid + 1 then some a else W1.ids i) = some b := fun i b z => by
      have := old i b z
      rw [if_neg (by omega)]; exact z
    have l3 : Le (W1.put a (.ins cl dx vs)) { W1.put a (.ins cl dx vs) with nid := s.oid + 1, ids := fun i => if i = s.oid + 1 then some a else W1.ids i } :=
      ⟨fun _ _ z => z, rfl, lids, by show W1.nid ≤ _; rw [en]; exact Nat.le_succ _⟩
    refine q { W1.put a (.ins cl dx vs) with nid := s.oid + 1, ids := fun i => if i = s.oid + 1 then some a else W1.ids i } H1 ⟨e2.le.trans l3, e2.keep, e2.dom, e2.newG, e2.scr⟩ ⟨r2.sub, r2.pen, r2.penE, rfl, fun i b z => ?_, fun i j b z1 z2 => ?_⟩ (.ref a) ⟨a, cl, dx, vs, rfl, mg, Wd.put_at, RepF.le l3 _ _ rf2, fun _ => ?_⟩
    · have z' : (if i = s.oid + 1 then some a else W1.ids i) = some b := z
      split at z'
      · rename_i hi
        cases z'
        exact ⟨Nat.le_of_eq hi, cl, dx, vs, Wd.put_at⟩
      · obtain ⟨h1, cl', dx', fs', h2⟩ := r2.idlt i b z'
        exact ⟨Nat.le_trans (old i b z') (Nat.le_succ _), cl', dx', fs', h2⟩
    · have z1' : (if i = s.oid + 1 then some a else W1.ids i) = some b := z1
      have z2' : (if j = s.oid + 1 then some a else W1.ids j) = some b := z2
      have na : ∀ i, W1.ids i = some a → False := fun i z => by
        obtain ⟨_, _, _, _, h2⟩ := r.idlt i a z
        rw [ga] at h2
        cases h2
      split at z1' <;> split at z2'
      · rename_i h1 h2; rw [h1, h2]
      · cases z1'; exact (na j z2').elim
      · cases z2'; exact (na i z1').elim
      · exact r.idinj i j b z1' z2'
    · show (if s.oid + 1 = s.oid + 1 then some a else W1.ids (s.oid + 1)) = some a
      rw [if_pos rfl]
variable {X : Cx} {Wx : XK} {sc : Scope} {N' : List Str}
theorem run_makeG (o : XOk P w C base k N' sc Wx X) {cl fI : Addr} (M : Mk C.K cl fI) {c : Str} {idn : Bool} {ini : Ini} (mg : C.mg c = some (.ref cl)) (F : FnG P w C base k fI fd ps (spIni C c ini)) (hb : Binds C.K fd ps [])
    {pins : List (Addr × Obj)} {σ : Sg} {H : Hp} {s : Shared} {Q : VK} {us : List Value} {vs : List V} (I : Inv X pins σ H s) (r : Vals vs us) (h : spDen C (mkDen c idn ini) vs H Q Wx) :
    wpAny (model X.prog X.w) X.A (call (.ref cl) us) (EP X pins σ Q) X.xe s := by
  obtain ⟨W, st, ds, rp, rel, q⟩ := h
  have n1 : H (s.heap.objs.size + 1) = none := I.hok.fresh (Nat.le_succ _)
  have n2 : H s.heap.objs.size = none := I.hok.fresh (Nat.le_refl _)
  have ne : s.heap.objs.size ≠ s.heap.objs.size + 1 := Nat.ne_of_lt (Nat.lt_succ_self _)
  have n3 : upd H s.heap.objs.size (.own (s.heap.objs.size + 1)) (s.heap.objs.size + 1) = none := by rw [upd_ne (Ne.symm ne)]; exact n1
  have hq : spIni C c ini (.ref (s.heap.objs.size + 1) :: vs) (upd (upd H s.heap.objs.size (.own (s.heap.objs.size + 1))) (s.heap.objs.size + 1) (.ins cl s.heap.objs.size [])) (fun v H2 => v = .non ∧ Q (.ref (s.heap.objs.size + 1)) H2) Wx := by
    have rel2 := rel_own rel (o := .own (s.heap.objs.size + 1)) n2
    refine ⟨W, st, ds, s.heap.objs.size + 1, vs, cl, s.heap.objs.size, rfl, rp, rel_own rel2 n3, mg, upd_same, G_free rel n1, ?_⟩
    rw [del_upd, del_free n3]
    refine ((OQ.bind0 q).mono (ext_own n2)).imp fun fs s' W1 H1 e1 r1 q1 dx' vs' ha ga rf => ⟨rfl, ?_⟩
    exact made_known (Wx := Wx) (idn := idn) mg n1 ((ext_own n2).trans e1) r1 ha ga rf q1
  have I2 := Inv.made (C := cl) I
  have r2 : Vals (V.ref (s.heap.objs.size + 1) :: vs) (Value.ref (s.heap.objs.size + 1) :: us) := .cons rfl r
  have hl : (Value.ref (s.heap.objs.size + 1) :: us ++ []).length = ps.length := by
    rw [List.append_nil]
    exact r2.length.symm.trans (F.len _ _ _ _ hq)
  have e0 := I2.env0.make cl us []
  have hB := hb _ (Value.ref (s.heap.objs.size + 1) :: us) (by have z := I2.kIn; rw [o.K] at z; exact z) hl
  rw [List.append_nil] at hB
  have hE := I2.env0.make cl us []
  rw [o.prog, o.wd, o.K, o.mg, o.base] at hE
  have M' : Mk X.K cl fI := by rw [o.K]; exact M
  have run := F.run _ X.stack _ _ ⟨Value.ref (s.heap.objs.size + 1) :: us, []⟩ (Value.ref (s.heap.objs.size + 1) :: us) _ _ Wx (o.rm.make cl us []) hE hB r2 hq
  rw [← o.prog, ← o.wd] at run
  refine wpAny_call (make_map (f := fI) I.kIn M'.makes M'.init (beq_iff_eq.mp M'.fn) (codeAny_mono run fun r s' hq' => ?_))
  cases r with
  | error e => exact o.tk e s' (XE.of_call I2 (W := fun cls d _ H => Wx cls d H) (fun cls d H' z => z) hq')
  | ok fl =>
    cases fl with
    | ret u =>
      obtain ⟨v, H', I3, rv, ev, q3⟩ := I2.after hq'
      subst ev
      exact ⟨rv, ⟨V.ref (s.heap.objs.size + 1), H', I3, rfl, q3⟩⟩
    | next => exact False.elim hq'
    | brk => exact False.elim hq'
    | cont => exact False.elim hq'
/-- a class of the module, by its __init__: C(..) -/
theorem mke_ok {cl fI : Addr} (M : Mk C.K cl fI) {c : Str} {idn : Bool} {ini : Ini} (mg : C.mg c = some (.ref cl)) (F : FnG P w C base k fI fd ps (spIni C c ini)) (hb : Binds C.K fd ps []) (o : XOk P w C base k N' sc Wx X)
    {es : List Expr} {t : TA} {p pos : Pos} (hg : glB sc c = true) (hp : ∀ y ∈ es, plainX y = true) (ha : PA X es t) (hn : es = [] → ∀ σ H Q, t σ H Q → Q [] H) :
    PE X (.Call (.Name c p) es [] pos) (fun σ H Q => t σ H fun vs H1 => spDen C (mkDen c idn ini) vs H1 Q Wx) := by
  obtain ⟨g1, g2, g3⟩ := gl_of o hg
  have M' : Mk X.K cl fI := by rw [o.K]; exact M
  have mg' : X.mg c = some (.ref cl) := by rw [o.mg]; exact mg
  refine ⟨fun pins s σ H Q I h => ?_⟩
  refine wpAny_Call_Name_kw (ld_glob I g1 mg' ?_ g2)
  cases es with
  | nil => exact PySem.W.callWith_K0 I.kIn M'.kp (run_makeG o M (idn := idn) mg F hb (us := []) I .nil (hn rfl σ H _ h))
  | cons e es =>
    have hs := plain_star (es := es) (env := X.env) (hp e List.mem_cons_self)
    have ha2 := stars_any (env := X.env) (pos := pos) fun x hx => hp x (List.mem_cons_of_mem e hx)
    exact PySem.W.callWith_K (h₀ := X.base) I.ok.mod.kin M'.kp (thn (ha.run pos pins s σ H _ I h) fun us s1 ⟨vs, H1, I1, r, q⟩ => ⟨I1.kIn, run_makeG o M (idn := idn) mg F hb I1 r q⟩) hs ha2
end
end Mp
set_option Elab.async false
set_option linter.all false
set_option maxRecDepth 100000
set_option maxHeartbeats 2000000
/-! MpEq: instances that are equal to themselves alone. -/
namespace Mp
open PySem PySem.Spec PyProof.Rows L2
structure IdC (K : PySem.W.Frag) (c : Addr) : Prop where
  eq : PySem.W.findIn K (.ref c) "__eq__" = some (some (.builtin "object.__eq__"))
  ne : PySem.W.findIn K (.ref c) "__ne__" = some (some (.builtin "object.__ne__"))
  mro : ∀ b, PySem.W.mroIn K c b = some ([Value.ref c, .type "object"].contains b)
theorem idC_of {K : PySem.W.Frag} {c : Addr} (h : idnB K c = true) : IdC K c := by
  unfold idnB at h
  simp only [Bool.and_eq_true, decide_eq_true_eq] at h
  obtain ⟨⟨h1, h2⟩, h3⟩ := h
  refine ⟨h1, h2, fun b => ?_⟩
  unfold PySem.W.mroIn
  cases e : PySem.W.clsIn K c with
  | none => rw [e] at h3; cases h3
  | some cd =>
    rw [e] at h3
    have h3 := of_decide_eq_true h3
    rw [Option.bind_some, h3]
    rfl
theorem IdC.obj {K : PySem.W.Frag} {c : Addr} (h : IdC K c) : PySem.W.mroIn K c (.type "object") = some true := by
  rw [h.mro]
  simp
theorem IdC.sub {K : PySem.W.Frag} {c d : Addr} (h : IdC K c) (n : c ≠ d) : PySem.W.subIn K (.ref c) (.ref d) = some false := by
  show PySem.W.mroIn K c (.ref d) = some false
  rw [h.mro]
  simp [Ne.symm n]
section
variable {prog : Program} {w : World} {A : Around} {E : Value → Shared → Prop} {s : Shared} {K : PySem.W.Frag} {x y C D : Addr} {ox oy : Obj} {od od' : Option Obj}
theorem noTup (I : PySem.W.InstAt s.heap x ox C od) : ox.cls ≠ .type "tuple" := by rw [I.cls]; exact fun z => nomatch z
theorem eqC_same {Q : Value → Shared → Prop} (X : K.In s.heap) (I : PySem.W.InstAt s.heap x ox C od) (c : IdC K C) (hq : Q (.bool true) s) : wpAny (model prog w) A (call (.builtin "object.__eq__") [.ref x, .ref x]) Q E s :=
  wpAny_call (codeAny_call_builtin F.cmp_object.eq.plain F.cmpEntry_eq (PySem.W.check_slot F.cmpKind_eq F.cmpSplit_eq (I.type.andThen (PySem.W.looks_mroIn X c.obj)) (F.cmpArgs_eq _ _) (objEq_entry_same hq)))
theorem eqC_other {Q : Value → Shared → Prop} (X : K.In s.heap) (I : PySem.W.InstAt s.heap x ox C od) (c : IdC K C) (hy : s.heap.get? y = some oy) (hxy : x ≠ y) (hq : Q .notImplemented s) : wpAny (model prog w) A (call (.builtin "object.__eq__") [.ref x, .ref y]) Q E s :=
  wpAny_call (codeAny_call_builtin F.cmp_object.eq.plain F.cmpEntry_eq (PySem.W.check_slot F.cmpKind_eq F.cmpSplit_eq (I.type.andThen (PySem.W.looks_mroIn X c.obj)) (F.cmpArgs_eq _ _) (objEq_entry_other hxy I.at_ hy (noTup I) hq)))
theorem eqS_same {Q : Option Value → Shared → Prop} (X : K.In s.heap) (I : PySem.W.InstAt s.heap x ox C od) (c : IdC K C) (hq : Q (some (.bool true)) s) : wpAny (model prog w) A (callSpecialIfBound? (.ref x) "__eq__" [.ref x]) Q E s :=
  HN.ifBound_objEq X I c.eq (eqC_same X I c hq)
theorem eqS_other {Q : Option Value → Shared → Prop} (X : K.In s.heap) (I : PySem.W.InstAt s.heap x ox C od) (c : IdC K C) (hy : s.heap.get? y = some oy) (hxy : x ≠ y) (hq : Q (some .notImplemented) s) : wpAny (model prog w) A (callSpecialIfBound? (.ref x) "__eq__" [.ref y]) Q E s :=
  HN.ifBound_objEq X I c.eq (eqC_other X I c hy hxy hq)
theorem eqT_same {Q : Option Value → Shared → Prop} (X : K.In s.heap) (I : PySem.W.InstAt s.heap x ox C od) (c : IdC K C) (hq : Q (some (.bool true)) s) : wpAny (model prog w) A (tryCompare (.ref x) "__eq__" (.ref x)) Q E s := by
  simp only [tryCompare]
  exact wpAny_bind (eqS_same X I c (wpAny_pure hq))
theorem eqT_other {Q : Option Value → Shared → Prop} (X : K.In s.heap) (I : PySem.W.InstAt s.heap x ox C od) (c : IdC K C) (hy : s.heap.get? y = some oy) (hxy : x ≠ y) (hq : Q none s) : wpAny (model prog w) A (tryCompare (.ref x) "__eq__" (.ref y)) Q E s := by
  simp only [tryCompare]
  exact wpAny_bind (eqS_other X I c hy hxy (wpAny_pure hq))
theorem neE_same {Q : Fin → Shared → Prop} (X : K.In s.heap) (I : PySem.W.InstAt s.heap x ox C od) (c : IdC K C) (hu : A.units < cLine) (hq : Q (.done (.ret (.bool false))) s) : wpAny (model prog w) A (Builtin.«object.__ne__» ⟨[.ref x, .ref x], []⟩) Q E s := by
  unfold Builtin.«object.__ne__»
  repeat (first | with_reducible refine wpAny_cRoomFor hu ?_ | with_reducible refine eqS_same X I c ?_ | wp_step)
  exact hq
theorem neE_other {Q : Fin → Shared → Prop} (X : K.In s.heap) (I : PySem.W.InstAt s.heap x ox C od) (c : IdC K C) (hy : s.heap.get? y = some oy) (hxy : x ≠ y) (hu : A.units < cLine) (hq : Q (.done (.ret .notImplemented)) s) : wpAny (model prog w) A (Builtin.«object.__ne__» ⟨[.ref x, .ref y], []⟩) Q E s := by
  unfold Builtin.«object.__ne__»
  repeat (first | with_reducible refine wpAny_cRoomFor hu ?_ | with_reducible refine eqS_other X I c hy hxy ?_ | wp_step)
  exact hq
theorem ifBound_objNe {args : List Value} {Q : Option Value → Shared → Prop} (X : K.In s.heap) (I : PySem.W.InstAt s.heap x ox C od) (hs : PySem.W.findIn K (.ref C) "__ne__" = some (some (.builtin "object.__ne__")))
    (h : wpAny (model prog w) A (call (.builtin "object.__ne__") (.ref x :: args)) (fun v => Q (some v)) E s) : wpAny (model prog w) A (callSpecialIfBound? (.ref x) "__ne__" args) Q E s := by
  simp only [callSpecialIfBound?, bindSpecialIfBound?]
  refine wpAny_holding (wpAny_bind (wpAny_bind (wpAny_bind (I.type.here ((PySem.W.looks_findIn X hs).here ?_)))))
  refine wpAny_bind (wpAny_askSetting (wpAny_ite ?_))
  have fin : wpAny (model prog w) A (call (.builtin "object.__ne__") ([.ref x] ++ args) >>= fun v => pure (some v)) Q E s := wpAny_bind (wpAny_mono h (fun v s' h' => wpAny_pure h') fun _ _ h' => h')
  split
  · exact wpAny_bind (wpAny_of_eq (F.cmp_object.ne.bind _) (wpAny_pure (by exact fin)))
  · exact wpAny_tryCatch (wpAny_bind (wpAny_of_eq (F.cmp_object.ne.bind _) (wpAny_pure (by exact fin))))
theorem neT_same {Q : Option Value → Shared → Prop} (X : K.In s.heap) (I : PySem.W.InstAt s.heap x ox C od) (c : IdC K C) (hu : A.units + 1 < cLine) (hq : Q (some (.bool false)) s) : wpAny (model prog w) A (tryCompare (.ref x) "__ne__" (.ref x)) Q E s := by
  simp only [tryCompare]
  refine wpAny_bind (ifBound_objNe X I c.ne (wpAny_call (codeAny_call_builtin F.cmp_object.ne.plain F.cmpEntry_ne (PySem.W.check_slot F.cmpKind_ne F.cmpSplit_ne (I.type.andThen (PySem.W.looks_mroIn X c.obj)) (F.cmpArgs_ne _ _) (neE_same (A := A.in1) X I c hu ?_)))))
  exact wpAny_pure hq
theorem neT_other {Q : Option Value → Shared → Prop} (X : K.In s.heap) (I : PySem.W.InstAt s.heap x ox C od) (c : IdC K C) (hy : s.heap.get? y = some oy) (hxy : x ≠ y) (hu : A.units + 1 < cLine) (hq : Q none s) : wpAny (model prog w) A (tryCompare (.ref x) "__ne__" (.ref y)) Q E s := by
  simp only [tryCompare]
  refine wpAny_bind (ifBound_objNe X I c.ne (wpAny_call (codeAny_call_builtin F.cmp_object.ne.plain F.cmpEntry_ne (PySem.W.check_slot F.cmpKind_ne F.cmpSplit_ne (I.type.andThen (PySem.W.looks_mroIn X c.obj)) (F.cmpArgs_ne _ _) (neE_other (A := A.in1) X I c hy hxy hu ?_)))))
  exact wpAny_pure hq
theorem right_no {M : Model} {α : Type} {k : Bool → Sem α} {Q : α → Shared → Prop} (X : K.In s.heap) (d : IdC K D) (hq : wpAny M A (k false) Q E s) :
    wpAny M A (if Value.ref C != Value.ref D then isSubtype (.ref D) (.ref C) >>= k else pure false >>= k) Q E s := by
  by_cases hCD : D = C
  · subst hCD
    rw [if_neg (by simp)]
    exact wpAny_bind (wpAny_pure hq)
  · rw [if_pos (by simp [Ne.symm hCD])]
    exact wpAny_bind ((PySem.W.looks_subIn X (d.sub hCD)).here hq)
theorem rcEq_same {Q : Value → Shared → Prop} (X : K.In s.heap) (I : PySem.W.InstAt s.heap x ox C od) (c : IdC K C) (hu : A.units < cLine) (hq : Q (.bool true) s) : wpAny (model prog w) A (richCompare .Eq (.ref x) (.ref x)) Q E s := by
  simp only [richCompare, cmpInfo_Eq, oneThing_ref]
  refine wpAny_holding (wpAny_bind (wpAny_cRoomFor hu ?_))
  refine wpAny_bind (I.type.here (wpAny_bind (I.type.here ?_)))
  refine right_no X c ?_
  simp only [Bool.false_eq_true, if_false]
  exact wpAny_bind (eqT_same X I c (wpAny_pure hq))
theorem rcNe_same {Q : Value → Shared → Prop} (X : K.In s.heap) (I : PySem.W.InstAt s.heap x ox C od) (c : IdC K C) (hu : A.units + 1 < cLine) (hq : Q (.bool false) s) : wpAny (model prog w) A (richCompare .NotEq (.ref x) (.ref x)) Q E s := by
  simp only [richCompare, cmpInfo_NotEq, oneThing_ref]
  refine wpAny_holding (wpAny_bind (wpAny_cRoomFor (Nat.lt_of_succ_lt hu) ?_))
  refine wpAny_bind (I.type.here (wpAny_bind (I.type.here ?_)))
  refine right_no X c ?_
  simp only [Bool.false_eq_true, if_false]
  exact wpAny_bind (neT_same X I c hu (wpAny_pure hq))
theorem rcEq_other {Q : Value → Shared → Prop} (X : K.In s.heap) (I : PySem.W.InstAt s.heap x ox C od) (J : PySem.W.InstAt s.heap y oy D od') (c : IdC K C) (d : IdC K D) (hxy : x ≠ y) (hu : A.units < cLine) (hq : Q (.bool false) s) : wpAny (model prog w) A (richCompare .Eq (.ref x) (.ref y)) Q E s := by
  simp only [richCompare, cmpInfo_Eq, oneThing_ref]
  refine wpAny_holding (wpAny_bind (wpAny_cRoomFor hu ?_))
  refine wpAny_bind (I.type.here (wpAny_bind (J.type.here ?_)))
  refine right_no X d ?_
  simp only [Bool.false_eq_true, if_false, Bool.not_false, if_true]
  refine wpAny_bind (eqT_other X I c J.at_ hxy ?_)
  refine wpAny_bind (eqT_other X J d I.at_ (Ne.symm hxy) ?_)
  exact wpAny_bind (wpAny_rule (wpAny_bind (wpAny_isSame_ref_other hxy I.at_ J.at_ (noTup I) (wpAny_pure hq))))
theorem rcNe_other {Q : Value → Shared → Prop} (X : K.In s.heap) (I : PySem.W.InstAt s.heap x ox C od) (J : PySem.W.InstAt s.heap y oy D od') (c : IdC K C) (d : IdC K D) (hxy : x ≠ y) (hu : A.units + 1 < cLine) (hq : Q (.bool true) s) : wpAny (model prog w) A (richCompare .NotEq (.ref x) (.ref y)) Q E s := by
  simp only [richCompare, cmpInfo_NotEq, oneThing_ref]
  refine wpAny_holding (wpAny_bind (wpAny_cRoomFor (Nat.lt_of_succ_lt hu) ?_))
  refine wpAny_bind (I.type.here (wpAny_bind (J.type.here ?_)))
  refine right_no X d ?_
  simp only [Bool.false_eq_true, if_false, Bool.not_false, if_true]
  refine wpAny_bind (neT_other X I c J.at_ hxy hu ?_)
  refine wpAny_bind (neT_other X J d I.at_ (Ne.symm hxy) hu ?_)
  exact wpAny_bind (wpAny_rule (wpAny_bind (wpAny_isSame_ref_other hxy I.at_ J.at_ (noTup I) (wpAny_pure hq))))
end
section
variable {P : Program} {w : World} {C : Rc} {base : Heap} {k : Nat} {N : List Str} {sc : Scope} {Wx : XK} {X : Cx} {Γ : Gm}
theorem eqo_idn (hi : ∀ c, Γ.idn c = true → ∃ cl, C.mg c = some (.ref cl) ∧ IdC C.K cl) (o : XOk P w C base k N sc Wx X) : OpR X (compareOp .Eq) (fun vx vy H Q => ∃ W st x y, Rel C W st H ∧ Rep C W x vx ∧ Rep C W y vy ∧ (∃ c i fs c' j gs, x = .ins c i fs ∧ y = .ins c' j gs ∧ Γ.idn c = true ∧ Γ.idn c' = true ∧ i ≠ 0 ∧ j ≠ 0 ∧ Q (.bl (decide (i = j))) H)) := by
  intro pins s σ H x y v u Q I rx ry ⟨W, st, dx, dy, r, px, py, c, i, fs, c', j, gs, ex, ey, hc, hc', hi0, hj0, q⟩
  have uu := o.units
  subst ex ey
  obtain ⟨a, cl, d1, vs, e1, m1, g1, _, n1⟩ := px
  obtain ⟨b, cl', d2, ws, e2, m2, g2, _, n2⟩ := py
  subst e1 e2
  cases rx
  cases ry
  obtain ⟨z, mz, ic⟩ := hi c hc
  rw [m1] at mz
  cases mz
  obtain ⟨z, mz, id⟩ := hi c' hc'
  rw [m2] at mz
  cases mz
  obtain ⟨mA, O, _⟩ := ins_get I.hok (r.sub _ _ g1)
  obtain ⟨od, J, _⟩ := O.look
  obtain ⟨mB, O2, _⟩ := ins_get I.hok (r.sub _ _ g2)
  obtain ⟨od2, J2, _⟩ := O2.look
  have kin : C.K.In s.heap := by have z := I.kIn; rw [o.K] at z; exact z
  have t1 := n1 hi0
  have t2 := n2 hj0
  show wpAny _ _ (richCompare .Eq (.ref a) (.ref b)) _ _ s
  by_cases hij : i = j
  · subst hij
    rw [t1] at t2
    cases t2
    refine rcEq_same kin J ic (by omega) ⟨.bl true, H, I, rfl, ?_⟩
    rw [decide_eq_true rfl] at q
    exact q
  · have nab : a ≠ b := fun z => hij (r.idinj i j a t1 (by rw [z]; exact t2))
    refine rcEq_other kin J J2 ic id nab (by omega) ⟨.bl false, H, I, rfl, ?_⟩
    rw [decide_eq_false hij] at q
    exact q
theorem neo_idn (hi : ∀ c, Γ.idn c = true → ∃ cl, C.mg c = some (.ref cl) ∧ IdC C.K cl) (o : XOk P w C base k N sc Wx X) : OpR X (compareOp .NotEq) (fun vx vy H Q => ∃ W st x y, Rel C W st H ∧ Rep C W x vx ∧ Rep C W y vy ∧ (∃ c i fs c' j gs, x = .ins c i fs ∧ y = .ins c' j gs ∧ Γ.idn c = true ∧ Γ.idn c' = true ∧ i ≠ 0 ∧ j ≠ 0 ∧ Q (.bl (!decide (i = j))) H)) := by
  intro pins s σ H x y v u Q I rx ry ⟨W, st, dx, dy, r, px, py, c, i, fs, c', j, gs, ex, ey, hc, hc', hi0, hj0, q⟩
  have uu := o.units
  subst ex ey
  obtain ⟨a, cl, d1, vs, e1, m1, g1, _, n1⟩ := px
  obtain ⟨b, cl', d2, ws, e2, m2, g2, _, n2⟩ := py
  subst e1 e2
  cases rx
  cases ry
  obtain ⟨z, mz, ic⟩ := hi c hc
  rw [m1] at mz
  cases mz
  obtain ⟨z, mz, id⟩ := hi c' hc'
  rw [m2] at mz
  cases mz
  obtain ⟨mA, O, _⟩ := ins_get I.hok (r.sub _ _ g1)
  obtain ⟨od, J, _⟩ := O.look
  obtain ⟨mB, O2, _⟩ := ins_get I.hok (r.sub _ _ g2)
  obtain ⟨od2, J2, _⟩ := O2.look
  have kin : C.K.In s.heap := by have z := I.kIn; rw [o.K] at z; exact z
  have t1 := n1 hi0
  have t2 := n2 hj0
  show wpAny _ _ (richCompare .NotEq (.ref a) (.ref b)) _ _ s
  by_cases hij : i = j
  · subst hij
    rw [t1] at t2
    cases t2
    refine rcNe_same kin J ic (by omega) ⟨.bl false, H, I, rfl, ?_⟩
    rw [decide_eq_true rfl] at q
    exact q
  · have nab : a ≠ b := fun z => hij (r.idinj i j a t1 (by rw [z]; exact t2))
    refine rcNe_other kin J J2 ic id nab (by omega) ⟨.bl true, H, I, rfl, ?_⟩
    rw [decide_eq_false hij] at q
    exact q
end
end Mp
set_option Elab.async false
set_option linter.all false
set_option maxRecDepth 100000
set_option maxHeartbeats 2000000
/-! MpLaw: a law's end where no repr is under way; the head's facts. -/
namespace Mp
open PySem PySem.Spec PyProof.Rows L2
/-- what a law's run is to leave -/
abbrev LawEnd (h : Heap) (os : OsState) (r : Result) (s' : Shared) : Prop := r = .ok (.ret (.bool true)) ∧ OldK h s'.heap ∧ s'.os = os ∧ AllBare s'.gens
section
variable {P : Program} {w : World} {C : Rc} {mb : Str → Option Value} {k : Nat} {fa a : Addr} {fd : FuncData} {x : Str} {sp : Sp} {s₁ : Shared} {vs : List Value} {ns : List Int}
/-- the run from an abstract heap H that tracks the script alone (frozen), or nothing -/
theorem law_core (KX : C.K.In s₁.heap) (gl : s₁.heap.Ns mainGlobals C.mg) (bl : s₁.heap.Ns builtinsNs mb) (bb : ∀ y : Str, y ≠ "__name__" → mb y = bootBuiltins y) (nl : s₁.heap.NoLimit) (ng : s₁.gens = #[])
    (ha : s₁.heap.get? a = some { cls := .type "list", data := .seq vs.toArray }) (hr : RoomG k callerA)
    (hF : ∀ base : Heap, C.K.In base → base.Ns mainGlobals C.mg → FnG P w C base k fa fd [x] sp) (hb : ∀ (s : Shared) (u : Value), BindsTo s fd ⟨[u], []⟩ [(x, u)]) {H : Hp}
    (only : ∀ b u, H b = some u → b = a ∧ ∃ o ys, u = .frz o (.lst ys)) (hK : H a ≠ none → C.K.lookup a = none) (ok : HOk P w H s₁.heap) (hsp : sp [.ref a] H (fun v _ => v = .bl true) fun _ _ _ => False) :
    codeAny (model P w) callerA (.call (.ref fa) ⟨[.ref a], []⟩) (LawEnd s₁.heap s₁.os) s₁ := by
  have here : ∀ {b : Addr} {o : Obj}, s₁.heap.get? b = some o → (b = a → H a = none) → (hidT s₁.heap H).get? b = some o := fun {b o} e n => hidT_get e (by
    cases q : H b with
    | none => rfl
    | some u =>
      have e1 := (only b u q).1
      rw [e1, n e1] at q
      cases q)
  have dct : ∀ {b : Addr} {o : Obj} {es : Array DictEntry} {n : Nat}, s₁.heap.get? b = some o → o.data = .dict es n → b = a → H a = none := fun {b o es n} e d z => by
    rw [z, ha] at e
    have e1 := Option.some.inj e
    rw [← e1] at d
    cases d
  have nsB : ∀ {b : Addr} {m : Str → Option Value}, s₁.heap.Ns b m → (hidT s₁.heap H).Ns b m := fun {b m} q => by
    obtain ⟨o, es, n, e, d, r⟩ := q
    exact ⟨o, es, n, here e (dct e d), d, r⟩
  have KB : C.K.In (hidT s₁.heap H) := fun b o e => here (KX b o e) fun z => by
    by_cases q : H a = none
    · exact q
    · have l := hK q
      rw [z, l] at e
      cases e
  have md : Mod C.K C.mg (hidT s₁.heap H) := by
    obtain ⟨mc, l1, l2⟩ := nl
    exact ⟨KB, nsB gl, ⟨mb, nsB bl, bb⟩, mc, nsB l1, l2⟩
  have nof : ∀ b : Addr, b ∉ frs ([] : List Env) := fun b z => by cases z
  have e0 : Env0 P w C.K C.mg (hidT s₁.heap H) callerA [] s₁ H :=
    { frames := rfl, mod := md, bs := fun _ _ e => of_hidT e, bsz := Nat.le_of_eq (hidT_size _ _), funs := trivial, frf := fun b z => absurd z (nof b), hok := ok, bare := .of_eq ng }
  have run := (hF _ KB (nsB gl)).run callerA [] s₁ H ⟨[.ref a], []⟩ [.ref a] [.ref a] _ _ hr e0 (hb s₁ (.ref a)) (.cons rfl .nil) hsp
  refine codeAny_mono run fun r s' q => ?_
  match r, q with
  | .error e, q =>
    obtain ⟨_, _, _, _, _, _, _, _, _, _, _, _, no⟩ := q
    exact no.elim
  | .ok .next, q => exact False.elim q
  | .ok .brk, q => exact False.elim q
  | .ok .cont, q => exact False.elim q
  | .ok (.ret u), q =>
    obtain ⟨v, H', os, bare, un, ok', rv, ev⟩ := q
    have ev : v = .bl true := ev
    subst ev
    obtain rfl : u = Value.bool true := rv
    refine ⟨rfl, OldK.of_keep fun b o e => ?_, os, bare⟩
    cases z : H b with
    | none => exact un.keep b o e z (nof b) (by simp)
    | some t =>
      obtain ⟨_, ob, ys, et⟩ := only b t z
      subst et
      have k1 := (ok b _ z).1
      have k2 := (ok' b _ (un.frzs b ob _ z)).1
      rw [e] at k1
      cases k1
      exact k2
/-- the law's call -/
theorem law_run (KX : C.K.In s₁.heap) (gl : s₁.heap.Ns mainGlobals C.mg) (bl : s₁.heap.Ns builtinsNs mb) (bb : ∀ y : Str, y ≠ "__name__" → mb y = bootBuiltins y) (nl : s₁.heap.NoLimit) (ng : s₁.gens = #[])
    (ha : s₁.heap.get? a = some { cls := .type "list", data := .seq vs.toArray }) (hi : IntsAre vs ns) (hl : ns.length ≤ sizeLine) (hr : RoomG k callerA)
    (hF : ∀ base : Heap, C.K.In base → base.Ns mainGlobals C.mg → FnG P w C base k fa fd [x] sp) (hb : ∀ (s : Shared) (u : Value), BindsTo s fd ⟨[u], []⟩ [(x, u)])
    (hsp : ∀ H : Hp, SqL C.K H a (ns.map V.int) → sp [.ref a] H (fun v _ => v = .bl true) fun _ _ _ => False) :
    codeAny (model P w) callerA (.call (.ref fa) ⟨[.ref a], []⟩) (LawEnd s₁.heap s₁.os) s₁ := by
  have rv := vals_ints hi
  have lv := hi.length
  cases hk : C.K.lookup a with
  | some o =>
    have e := KX a o hk
    rw [ha] at e
    cases e
    have sq : SqL C.K (fun _ => none) a (ns.map V.int) := .inr ⟨_, vs.toArray, _, hk, rfl, rfl, rfl, by rw [List.size_toArray, lv]; exact hl, by simpa using rv⟩
    refine law_core (H := fun _ => none) KX gl bl bb nl ng ha hr hF hb (fun b u z => ?_) (fun z => absurd rfl z) (fun b u z => ?_) (hsp _ sq)
    · have z' : (none : Option HO) = some u := z
      cases z'
    · have z' : (none : Option HO) = some u := z
      cases z'
  | none =>
    let H : Hp := upd (fun _ => none) a (.frz { cls := .type "list", data := .seq vs.toArray } (.lst (ns.map V.int)))
    have at1 : H a = some (.frz { cls := .type "list", data := .seq vs.toArray } (.lst (ns.map V.int))) := upd_same
    have one : ∀ b u, H b = some u → b = a ∧ u = .frz { cls := .type "list", data := .seq vs.toArray } (.lst (ns.map V.int)) := fun b u z => by
      by_cases q : b = a
      · subst q
        rw [at1] at z
        exact ⟨rfl, (Option.some.inj z).symm⟩
      · have z' : (upd (fun _ => none) a (.frz { cls := .type "list", data := .seq vs.toArray } (.lst (ns.map V.int)))) b = some u := z
        rw [upd_ne q] at z'
        cases z'
    refine law_core (H := H) KX gl bl bb nl ng ha hr hF hb (fun b u z => ?_) (fun _ => hk) (fun b u z => ?_) (hsp _ (.inl (.inr ⟨_, at1⟩)))
    · obtain ⟨e1, e2⟩ := one b u z
      exact ⟨e1, _, _, e2⟩
    · obtain ⟨e1, e2⟩ := one b u z
      subst e1 e2
      exact ⟨ha, by rw [List.length_map]; exact hl, vs, _, rv, ha⟩
end
/-- a law over a head by facts: F gives the written part, the function object, the promise over every base -/
theorem walk_G {l : PySem.W.OpenLaw} {n k : Nat} {q : Program} {loose : List Str} {XP : (Str → Option Value) → Heap → Prop} {YP : World → Heap → Prop} {d : DefRec} {x : Str} (hn : l.most = some n) (hz : n ≤ sizeLine) (hd : d.params.defaults = []) (hr : RoomG k callerA)
    (F : ∀ (w : World) (mg : Str → Option Value) (fa : Addr) (h : Heap), YP w h → h.Ns mainGlobals mg → mg d.name = some (.ref fa) →
      ∃ (K : PySem.W.Frag) (fd : FuncData) (sp : Sp), K.In h ∧ (∀ (s : Shared) (u : Value), BindsTo s fd ⟨[u], []⟩ [(x, u)]) ∧ (∀ (H : Hp) (a : Addr) (ns : List Int), ns.length ≤ n → SqL K H a (ns.map V.int) → sp [.ref a] H (fun v _ => v = .bl true) fun _ _ _ => False) ∧
        ∀ base : Heap, K.In base → base.Ns mainGlobals mg → FnG l.prog w ⟨K, mg⟩ base k fa fd [x] sp) :
    PySem.W.WalkO q loose XP YP l.row.toRowW d [] (fun f vs => PySem.call f vs) := by
  refine Att.attach_call hn hd fun w s0 s1 mg mb fa o pm cd doc a vs ns G Y ho hd hcd hm hobj hi hlen hg => ?_
  obtain ⟨K, fd, sp, KX, hb, hsp, hF⟩ := F w mg fa _ Y G.T.g hm
  exact law_run (C := ⟨K, mg⟩) KX G.T.g G.T.b G.T.builtins G.T.nolimit hg hobj hi (Nat.le_trans hlen hz) hr hF hb fun H hS => hsp H a ns hlen hS

theorem ty_of {K : PySem.W.Frag} {cl : Addr} (h : ownB K cl = true) (m : String) (hm : m ∈ tyNames) : PySem.W.kitOne K (.type m) (.ref cl) = some false := by
  unfold ownB at h
  rw [Bool.and_eq_true] at h
  exact of_decide_eq_true (List.all_eq_true.mp h.2 m hm)
theorem own_of {C : Rc} {c : Str} {cl : Addr} (mg : C.mg c = some (.ref cl)) (k : Cls C.K cl) (h : ownB C.K cl = true) : OwnC C c cl := by
  unfold ownB at h
  simp only [Bool.and_eq_true, decide_eq_true_eq] at h
  exact ⟨mg, k, h.1.1.1.1, h.1.1.1.2, h.1.1.2, h.1.2⟩
end Mp
set_option Elab.async false
set_option linter.all false
set_option maxRecDepth 100000
set_option maxHeartbeats 2000000
/-! MpPen: the drawing dict is made. -/
namespace Mp
open PySem PySem.Spec PyProof.Rows L2
/-- the world of nothing -/
def W00 : Wd := ⟨fun _ => none, none, fun _ => none, 0, none⟩
theorem rel00 {C : Rc} {H : Hp} : Rel C W00 {} H := ⟨fun _ _ z => (by cases z), fun _ z => (by cases z), fun _ => rfl, rfl, fun _ _ z => (by cases z), fun _ _ _ z => (by cases z)⟩
/-- a later heap -/
structure Kp (H H' : Hp) : Prop where
  keep : ∀ b o, H b = some o → H' b = some o
  dom : ∀ b, H' b = none → H b = none
theorem Kp.refl (H : Hp) : Kp H H := ⟨fun _ _ z => z, fun _ z => z⟩
theorem kp_ext {W W' : Wd} {H H1 H2 : Hp} (k : Kp H H1) (e : Ext W H1 W' H2) (n : W.pen = none) : Kp H H2 := ⟨fun b o z => e.keep b o (k.keep b o z) fun x hx => (by rw [n] at hx; cases hx), fun b z => k.dom b (e.dom b z)⟩
/-- the fold's bound -/
abbrev foB : Int := 1099511627776
def penHp (H : Hp) (p c : Addr) (ns : List Int) (fo : Int) : Hp := upd (upd (upd H p (.dK [])) c (.lst (ns.map V.int))) p (.dK (penKvs ⟨ns, 0, 0, 0, fo⟩ c))
def spPen (C : Rc) : Sp := fun vs H Q _ => ∃ a ns, vs = [.ref a] ∧ SqL C.K H a (ns.map V.int) ∧ ∀ H1 fo p c, Kp H H1 → 0 ≤ fo → fo < foB → H1 p = none → H1 c = none → c ≠ p → Q (.ref p) (penHp H1 p c ns fo)
/-- the text: fold = 0; for cell in script: fold = e; return {..} -/
structure PenT (N : List Str) (sc : Scope) (e : E) (body : List Stmt) : Prop where
  nm : N = (["script", "fold", "cell"] : List Str)
  loc : (sc.names.lookup ("script" : Str) = some .local ∧ sc.names.lookup ("fold" : Str) = some .local) ∧ sc.names.lookup ("cell" : Str) = some .local
  gl : glB sc "list" = true
  text : ∃ p1 p2 j1 q1 p3 p4 p5 v q2 q3 k1 k2 k3 k4 k5 l1 l2 l3 l4 l5 u1 u2 u3 n2 n3 n4 v2 v3 v4 v5 q4 q5,
    body = [.Assign [.Name "fold" p1] (.Constant (.int 0) j1 p2) q1, .For (.Name "cell" p3) (.Name "script" p4) [.Assign [.Name "fold" p5] v q2] [] q3,
      .Return (some (.Dict [some (.Constant (.str "cells") k1 l1), some (.Constant (.str "at") k2 l2), some (.Constant (.str "digits") k3 l3), some (.Constant (.str "count") k4 l4), some (.Constant (.str "fold") k5 l5)]
        [.Call (.Name "list" u1) [.Name "script" u2] [] u3, .Constant (.int 0) n2 v2, .Constant (.int 0) n3 v3, .Constant (.int 0) n4 v4, .Name "fold" v5] q4)) q5] ∧ mt N sc e v = true ∧ isLc v = false
section
variable {P : Program} {w : World} {C : Rc} {base : Heap} {k : Nat} {Γ : Gm} {x qual : Str} {params : Arguments} {body : List Stmt} {scope : Scope} {dvs : List V} {kws : List (Str × V)} {f : Addr} {fd : FuncData} {N : List Str}
theorem fnG_pen (F : FunD C.K x qual params body scope dvs kws f fd) (S : FnScope N ["script"] scope) (G : GOk P w C base k Γ) {e : E} (T : PenT N scope e body)
    (he : ∀ fo ce : Int, 0 ≤ fo → fo < foB → ∃ fo', ev Γ e [none, some (.int fo), some (.int ce)] {} = .ok (.int fo') {} ∧ 0 ≤ fo' ∧ fo' < foB) : FnG P w C base (k + 2) f fd ["script"] (spPen C) := by
  obtain ⟨nm, ⟨⟨l1, l2⟩, l3⟩, gl, p1, p2, j1, q1, p3, p4, p5, v, q2, q3, k1, k2, k3, k4, k5, m1, m2, m3, m4, m5, u1, u2, u3, n2, n3, n4, v2, v3, v4, v5, q4, q5, hb, hm, hl⟩ := T
  subst nm hb
  refine fnG_gen F S (fun vs H Q E ⟨a, ns, ev, _⟩ => by rw [ev]; rfl) fun cdv A outer s H vs Q E hr ⟨a, ns, ev, sq, q⟩ => ?_
  subst ev
  have o := (sok_body (C := C) (base := base) (w := w) (P := P) (E := E) (H := H) (outer := outer) (cdv := cdv) (f := f) S hr)
  generalize hX : cxOf (CX P w) P w C.K C.mg base ["script", "fold", "cell"] qual scope f cdv A outer s H E = X at o
  have hN : X.N = (["script", "fold", "cell"] : List Str) := o.x.nm
  have nd : X.N.Nodup := by rw [o.x.nm]; exact o.x.nd
  have lc : ∀ y, scope.names.lookup y = some .local → X.env.scope.names.lookup y = some .local := fun y z => by rw [o.x.sc]; exact z
  have pv0 : ∀ pos, PE X (.Name "script" pos) (tVar 0) := fun pos => pe_var (i := 0) (by rw [hN]; rfl) (.inl (lc _ l1)) (by decide) (by decide)
  have pv1 : ∀ pos, PE X (.Name "fold" pos) (tVar 1) := fun pos => pe_var (i := 1) (by rw [hN]; rfl) (.inl (lc _ l2)) (by decide) (by decide)
  have s0 : PS X (.Assign [.Name "fold" p1] (.Constant (.int 0) j1 p2) q1) (tAsg (tC (.int 0)) (gName 1)) := ps_set nd (by rw [hN]; rfl) (.inl (lc _ l2)) pe_int (swap_none rfl) (.inl (o.fn _))
  have b0 : PS X (.Assign [.Name "fold" p5] v q2) (tAsg (tEv C Γ E e) (gName 1)) := ps_set nd (by rw [hN]; rfl) (.inl (lc _ l2)) (ev_ok G e _ scope E X v o.x hm).1 (swap_none hl) (.inl (o.fn _))
  have s1 := ps_for (pos := q3) o.po o.x.calm (pi_list (tg := .Name "cell" p3) (pv0 p4)) (pg_name (i := 2) (pos := p3) nd (by rw [hN]; rfl) (.inl (lc _ l3)) (.inl (o.fn _))) (pss_one b0) (fun _ => rfl)
  obtain ⟨g1, g2, g3⟩ := gl_of o.x gl
  have hml : X.mg "list" = none := by rw [o.x.mg]; exact G.free _ (by decide)
  have lst := pe_callTy (pos := u3) (p := u1) call_list_of g1 hml Bi.list.boot (pa_cons (pv0 u2) pa_nil) g3 g2
  have s2 := ps_ret (pos := q5) (pe_disp (pos := q4) (pps_cons (pe_str (x := "cells") (j := k1) (pos := m1)) lst (pps_cons (pe_str (x := "at") (j := k2) (pos := m2)) (pe_int (i := 0) (j := n2) (pos := v2)) (pps_cons (pe_str (x := "digits") (j := k3) (pos := m3)) (pe_int (i := 0) (j := n3) (pos := v3))
    (pps_cons (pe_str (x := "count") (j := k4) (pos := m4)) (pe_int (i := 0) (j := n4) (pos := v4)) (pps_cons (pe_str (x := "fold") (j := k5) (pos := m5)) (pv1 v5) pps_nil))))) rfl rfl (by simp) (by simp))
  refine ⟨_, pss_cons s0 (pss_cons s1 (pss_one s2)), ?_⟩
  -- the walk through the script
  have st0 : L2.start ["script", "fold", "cell"] [V.ref a] = [some (.ref a), none, none] := rfl
  rw [st0]
  refine ⟨_, rfl, a, rfl, ⟨_, by rw [o.x.K]; exact sq⟩, ?_⟩
  have wk := walk_list (K := X.K) (a := a) (xs := ns.map V.int)
  refine for_it wk (fun i σ H' => ∃ fo c, 0 ≤ fo ∧ fo < foB ∧ σ = [some (.ref a), some (.int fo), c] ∧ Kp H H') ⟨0, none, by decide, by decide, rfl, .refl H⟩ ?_ ?_ ?_
  · rintro i σ H' hi ⟨fo, c, _, _, _, kp⟩
    rw [o.x.K]
    exact sqL_le kp.keep sq
  · rintro i y σ H' H'' hi ⟨fo, c, h1, h2, h3, kp⟩ ⟨eH, hy⟩
    subst eH h3
    have hy' : ∃ ce : Int, y = .int ce := by
      rw [List.getElem?_map] at hy
      cases z : ns[i]? with
      | none => rw [z] at hy; cases hy
      | some ce => rw [z] at hy; cases hy; exact ⟨ce, rfl⟩
    obtain ⟨ce, ey⟩ := hy'
    subst ey
    obtain ⟨fo', e1, e2, e3⟩ := he fo ce h1 h2
    show tEv C Γ E e [some (.ref a), some (.int fo), some (.int ce)] H'' _
    refine ⟨W00, {}, [none, some (.int fo), some (.int ce)], ⟨rfl, fun j d z => ?_⟩, rel00, ?_⟩
    · match j, z with
      | 1, z => cases z; exact ⟨_, rfl, rfl⟩
      | 2, z => cases z; exact ⟨_, rfl, rfl⟩
    · rw [e1]
      intro W' H3 e4 r4 u pu
      have eu : u = .int fo' := pu
      subst eu
      exact ⟨fo', _, e2, e3, rfl, kp_ext kp e4 rfl⟩
  · rintro σ H' ⟨fo, c, h1, h2, h3, kp⟩
    subst h3
    intro p hp
    refine ⟨_, rfl, a, _, rfl, .inl (by rw [o.x.K]; exact sqL_le (G := H) (G' := upd H' p (.dK [])) (fun b o z => by
      have nb : b ≠ p := fun e => by rw [e] at z; rw [kp.keep p o z] at hp; cases hp
      rw [upd_ne nb]; exact kp.keep b o z) sq), fun c' hc => ?_⟩
    have ncp : c' ≠ p := fun e => by rw [e, upd_same] at hc; cases hc
    have hc' : H' c' = none := by rw [upd_ne ncp] at hc; exact hc
    refine ⟨_, rfl, ?_⟩
    refine ⟨by rw [upd_ne (Ne.symm ncp), upd_same], [(.inr "cells", .ref c'), (.inr "at", .int 0), (.inr "digits", .int 0), (.inr "count", .int 0), (.inr "fold", .int fo)], rfl, by simp, ?_⟩
    exact q H' fo p c' kp h1 h2 hp hc' ncp
end
end Mp
set_option Elab.async false
set_option linter.all false
set_option maxRecDepth 100000
set_option maxHeartbeats 2000000
/-! MpTail: statements by terms, then others; chains of surroundings. -/
namespace Mp
open PySem PySem.Spec PyProof.Rows L2
section
variable {P : Program} {w : World} {C : Rc} {base : Heap} {k : Nat} {Γ : Gx}
/-- these statements, then what t2 wishes -/
def tThen (C : Rc) (Γ : Gx) (Wx : XK) (m : Ss) (t2 : TS) : TS := fun D σ H => ∃ W0 H0 W st ρ, SI C W0 H0 W H ρ σ st ∧
  OQ C Wx W0 H0 (fun c s W H => match c with
    | .nx ρ => ∀ σ, SI C W0 H0 W H ρ σ s → t2 D σ H
    | .rt d => ∀ v, Rep C W d v → D.rt v H
    | .bk ρ => ∀ σ, SI C W0 H0 W H ρ σ s → D.bk σ H
    | .ct ρ => ∀ σ, SI C W0 H0 W H ρ σ s → D.ct σ H) (evSs Γ m ρ st)
theorem sts_then (G : GxOk P w C base k Γ) {N : List Str} {sc : Scope} {Wx : XK} {X : Cx} (o : SOk P w C base k N sc Wx X) {rest : List Stmt} {t2 : TS} (h2 : PSs X rest t2) : ∀ (m : Ss) (ss : List Stmt), mtSs N sc m ss = true → PSs X (ss ++ rest) (tThen C Γ Wx m t2)
  | .nil, ss, h => by
    rw [nil_inv h]
    refine PSs.imp h2 fun D σ H ⟨W0, H0, W, st, ρ, J, q⟩ => q W H J.ext J.rel σ J
  | .cons m r, ss, h => by
    obtain ⟨s1, t, hs, g1, g2⟩ := cons_inv h
    rw [hs]
    refine PSs.imp (pss_cons (st_ok G m N sc Wx X s1 o g1) (sts_then G o h2 r t g2)) fun D σ H ⟨W0, H0, W, st, ρ, J, q⟩ => ?_
    refine ⟨W0, H0, W, st, ρ, J, (OQ.bind0 q).imp fun c s W1 H1 e1 r1 q1 => ?_⟩
    cases c with
    | nx ρ' => exact fun σ' J' => ⟨W0, H0, W1, s, ρ', J', q1⟩
    | rt d => exact q1 W1 H1 e1 r1
    | bk ρ' => exact q1 W1 H1 e1 r1
    | ct ρ' => exact q1 W1 H1 e1 r1
/-! ### one list is taken back -/
mutual
/-- no list of n things within -/
def D.nll (n : Nat) : D → Bool
  | .lst xs => xs.length != n && nlls n xs
  | .tup xs => nlls n xs
  | .dct kvs => nllk n kvs
  | .ins _ _ fs => nllf n fs
  | .pen => false
  | _ => true
def nlls (n : Nat) : List D → Bool
  | [] => true
  | d :: r => d.nll n && nlls n r
def nllf (n : Nat) : List (Str × D) → Bool
  | [] => true
  | (_, d) :: r => d.nll n && nllf n r
def nllk (n : Nat) : List (Key × D) → Bool
  | [] => true
  | (_, d) :: r => d.nll n && nllk n r
end
/-- a world without the list at a, without the drawing dict -/
def Wd.drop (W : Wd) (a : Addr) : Wd := { W with G := fun b => if b = a then none else W.G b, pen := none }
variable {W : Wd} {a : Addr} {n : Nat} {ws : List V}
theorem drop_out {b : Addr} (h : b ≠ a) : (W.drop a).G b = W.G b := if_neg h
theorem drop_sq {K : PySem.W.Frag} (ha : W.G a = some (.lst ws)) {b : Addr} {vs : List V} (s : SqT K W.G b vs) : SqT K (W.drop a).G b vs := by
  have far : ∀ {o : HO}, W.G b = some o → o ≠ .lst ws → b ≠ a := fun {o} e m z => by
    rw [z, ha] at e
    exact m (Option.some.inj e).symm
  rcases s with (g | ⟨u, g⟩) | g
  · exact .inl (.inl (by rw [drop_out (far g fun z => by cases z)]; exact g))
  · exact .inl (.inr ⟨u, by rw [drop_out (far g fun z => by cases z)]; exact g⟩)
  · exact .inr g
mutual
theorem Rep.drop (ha : W.G a = some (.lst ws)) (hn : ws.length = n) : ∀ (d : D) (v : V), d.nll n = true → Rep C W d v → Rep C (W.drop a) d v
  | .non, v, _, r => r
  | .bl b, v, _, r => r
  | .int i, v, _, r => r
  | .str x, v, _, r => r
  | .tup ds, v, h, ⟨b, vs, e, s, r⟩ => ⟨b, vs, e, drop_sq ha s, Reps.drop1 ha hn ds vs h r⟩
  | .lst ds, v, h, ⟨b, vs, e, s, r⟩ => by
    have h' : (ds.length != n && nlls n ds) = true := h
    rw [Bool.and_eq_true] at h'
    have nb : b ≠ a := fun z => by
      rw [z, ha] at s
      cases s
      have l := r.length
      rw [hn] at l
      simp [l] at h'
    exact ⟨b, vs, e, by rw [drop_out nb]; exact s, Reps.drop1 ha hn ds vs h'.2 r⟩
  | .dct ds, v, h, ⟨b, vs, e, s, r⟩ => ⟨b, vs, e, by
      have nb : b ≠ a := fun z => by rw [z, ha] at s; cases s
      rw [drop_out nb]; exact s, RepK.drop1 ha hn ds vs h r⟩
  | .ins c i fs, v, h, ⟨b, cl, dx, vs, e, m, s, r, q⟩ => ⟨b, cl, dx, vs, e, m, by
      have nb : b ≠ a := fun z => by rw [z, ha] at s; cases s
      rw [drop_out nb]; exact s, RepF.drop1 ha hn fs vs h r, q⟩
  | .pen, v, h, r => by cases h
  | .scr, v, _, r => trivial
theorem Reps.drop1 (ha : W.G a = some (.lst ws)) (hn : ws.length = n) : ∀ (ds : List D) (vs : List V), nlls n ds = true → Reps C W ds vs → Reps C (W.drop a) ds vs
  | [], vs, _, r => r
  | d :: ds, vs, h, ⟨v, r, e, p, q⟩ => by
    have h' : (d.nll n && nlls n ds) = true := h
    rw [Bool.and_eq_true] at h'
    exact ⟨v, r, e, Rep.drop ha hn d v h'.1 p, Reps.drop1 ha hn ds r h'.2 q⟩
theorem RepF.drop1 (ha : W.G a = some (.lst ws)) (hn : ws.length = n) : ∀ (ds : List (Str × D)) (vs : List (Str × V)), nllf n ds = true → RepF C W ds vs → RepF C (W.drop a) ds vs
  | [], vs, _, r => r
  | (x, d) :: ds, vs, h, ⟨v, r, e, p, q⟩ => by
    have h' : (d.nll n && nllf n ds) = true := h
    rw [Bool.and_eq_true] at h'
    exact ⟨v, r, e, Rep.drop ha hn d v h'.1 p, RepF.drop1 ha hn ds r h'.2 q⟩
theorem RepK.drop1 (ha : W.G a = some (.lst ws)) (hn : ws.length = n) : ∀ (ds : List (Key × D)) (vs : List (Key × V)), nllk n ds = true → RepK C W ds vs → RepK C (W.drop a) ds vs
  | [], vs, _, r => r
  | (x, d) :: ds, vs, h, ⟨v, r, e, p, q⟩ => by
    have h' : (d.nll n && nllk n ds) = true := h
    rw [Bool.and_eq_true] at h'
    exact ⟨v, r, e, Rep.drop ha hn d v h'.1 p, RepK.drop1 ha hn ds r h'.2 q⟩
end
/-- a list of another length, its things forgotten -/
theorem rep_len (ha : W.G a = some (.lst ws)) {ds : List D} {v : V} (h : ds.length ≠ ws.length) (r : Rep C W (.lst ds) v) : Rep C (W.drop a) (.lst (List.replicate ds.length .scr)) v := by
  obtain ⟨b, vs, e, s, q⟩ := r
  have nb : b ≠ a := fun z => by
    rw [z, ha] at s
    cases s
    exact h q.length
  refine ⟨b, vs, e, by rw [drop_out nb]; exact s, ?_⟩
  rw [q.length]
  clear s q e
  induction vs with
  | nil => rfl
  | cons v vs ih => exact ⟨v, vs, rfl, trivial, ih⟩
theorem rel_drop {st : Ms} {H : Hp} (r : Rel C W st H) (ha : W.G a = some (.lst ws)) {o : HO} : Rel C (W.drop a) { st with pen := none } (upd H a o) where
  sub := fun b u e => by
    by_cases z : b = a
    · have e' : (if b = a then none else W.G b) = some u := e
      rw [if_pos z] at e'
      cases e'
    · rw [drop_out z] at e
      rw [upd_ne z]
      exact r.sub b u e
  pen := fun _ z => by cases z
  penE := fun _ => rfl
  nid := r.nid
  idlt := fun i b e => by
    obtain ⟨h1, cl, dx, fs, h2⟩ := r.idlt i b e
    have nb : b ≠ a := fun z => by rw [z, ha] at h2; cases h2
    exact ⟨h1, cl, dx, fs, by rw [drop_out nb]; exact h2⟩
  idinj := r.idinj
end
/-! ### chains -/
section
variable {P : Program} {w : World} {C : Rc} {base : Heap} {j k : Nat}
theorem DefOk.mono {x : Str} {den : Den} (d : DefOk P w C base j x den) (h : j ≤ k) : DefOk P w C base k x den := by
  obtain ⟨f, fd, ps, h1, h2, h3, h4⟩ := d
  exact ⟨f, fd, ps, h1, h2, h3, h4.mono h⟩
theorem XOk.mono {N : List Str} {sc : Scope} {Wx : XK} {X : Cx} (o : XOk P w C base k N sc Wx X) (h : j ≤ k) : XOk P w C base j N sc Wx X :=
  ⟨o.prog, o.wd, o.K, o.mg, o.base, o.calm, o.nm, o.nd, o.sc, o.rm.mono (by omega), o.tk⟩
end
end Mp
set_option Elab.async false
set_option linter.all false
set_option maxRecDepth 100000
set_option maxHeartbeats 2000000
/-! MpMod: a module's surroundings by tables. -/
namespace Mp
open PySem PySem.Spec PyProof.Rows L2
structure Tb where
  fn : List (Str × Den) := []
  con : List (Str × D) := []
  ini : List (Str × Ini) := []
  kw : List ((Str × List Str) × Den) := []
  cls : List Str := []
  sub : List ((Str × Str) × Bool) := []
  isT : List ((Str × String) × Bool) := []
  fld : List (Str × Str) := []
  idn : Bool := false
def Tb.gm (t : Tb) : Gm where
  fn := fun x => t.fn.lookup x
  con := fun x => t.con.lookup x
  mke := fun c => (t.ini.lookup c).map (mkDen c t.idn)
  mkk := fun c ks => t.kw.lookup (c, ks)
  meth := fun _ _ => none
  own := fun c => t.cls.contains c
  sub := fun a b => t.sub.lookup (a, b)
  isT := fun a b => t.isT.lookup (a, b)
  idn := fun c => t.idn && t.cls.contains c
  fld := fun c f => t.fld.contains (c, f)
theorem in_of_lookup {α β : Type} [BEq α] [LawfulBEq α] {a : α} {b : β} : ∀ {l : List (α × β)}, l.lookup a = some b → (a, b) ∈ l
  | [], h => by cases h
  | (x, y) :: l, h => by
    rw [List.lookup_cons] at h
    split at h
    · rename_i e
      cases h
      rw [eq_of_beq e]
      exact List.mem_cons_self
    · exact List.mem_cons_of_mem _ (in_of_lookup h)
section
variable {P : Program} {w : World} {C : Rc} {base : Heap} {k : Nat}
/-- making by keywords alone, as it is promised -/
def MkkOk (P : Program) (w : World) (C : Rc) (base : Heap) (k : Nat) (c : Str) (ks : List Str) (den : Den) : Prop :=
  ∀ (N : List Str) (sc : Scope) (Wx : XK) (X : Cx), XOk P w C base k N sc Wx X → ∀ {kws : List Keyword} {t : TA} {p pos : Pos}, glB sc c = true → kws.map (·.arg) = ks.map some → PK X kws t → (∀ σ H Q, t σ H Q → t σ H fun vs H1 => vs.length = ks.length ∧ Q vs H1) →
    PE X (.Call (.Name c p) [] kws pos) (fun σ H Q => t σ H fun vs H1 => spDen C den vs H1 Q Wx)
structure TbOk (P : Program) (w : World) (C : Rc) (base : Heap) (k : Nat) (t : Tb) : Prop where
  fn : ∀ p ∈ t.fn, DefOk P w C base k p.1 p.2
  con : ∀ p ∈ t.con, ∃ u v, C.mg p.1 = some u ∧ RelV v u ∧ ∀ W, Rep C W p.2 v
  ini : ∀ p ∈ t.ini, ∃ cl fI fd ps, C.mg p.1 = some (.ref cl) ∧ Mk C.K cl fI ∧ FnG P w C base k fI fd ps (spIni C p.1 p.2) ∧ Binds C.K fd ps []
  kw : ∀ p ∈ t.kw, MkkOk P w C base k p.1.1 p.1.2 p.2
  cls : ∀ c ∈ t.cls, ∃ cl, OwnC C c cl ∧ (∀ m ∈ tyNames, PySem.W.kitOne C.K (.type m) (.ref cl) = some false) ∧ (t.idn = true → IdC C.K cl)
  sub : ∀ p ∈ t.sub, ∃ cl cl', C.mg p.1.1 = some (.ref cl) ∧ C.mg p.1.2 = some (.ref cl') ∧ PySem.W.kitOne C.K (.ref cl) (.ref cl') = some p.2
  isT : ∀ p ∈ t.isT, ∃ cl, C.mg p.1.1 = some (.ref cl) ∧ PySem.W.kitOne C.K (.ref cl) (.type p.1.2) = some p.2
  fld : ∀ p ∈ t.fld, ∃ cl, C.mg p.1 = some (.ref cl) ∧ Cls C.K cl ∧ NoAttr C.K cl p.2
  free : ∀ x ∈ freeNames, C.mg x = none
  sys : ∃ o, base.get? sysModules = some o
theorem mem_has {α : Type} [BEq α] [LawfulBEq α] {l : List α} {a : α} (h : l.contains a = true) : a ∈ l := by simpa using h
theorem gok {t : Tb} (T : TbOk P w C base k t) : GOk P w C base k t.gm := by
  have hid : ∀ c, t.gm.idn c = true → ∃ cl, C.mg c = some (.ref cl) ∧ IdC C.K cl := fun c h => by
    have h' : (t.idn && t.cls.contains c) = true := h
    rw [Bool.and_eq_true] at h'
    obtain ⟨cl, o, _, i⟩ := T.cls c (mem_has h'.2)
    exact ⟨cl, o.1, i h'.1⟩
  refine
    { fn := fun x den h => T.fn (x, den) (in_of_lookup h)
      con := fun x d h => T.con (x, d) (in_of_lookup h)
      mke := fun c den h N sc Wx X o es t' p pos hg hp ha hn => ?_
      mkk := fun c ks den h => T.kw ((c, ks), den) (in_of_lookup h)
      own := fun c h => let ⟨cl, o, _⟩ := T.cls c (mem_has h); ⟨cl, o⟩
      sub := fun a b r h => T.sub ((a, b), r) (in_of_lookup h)
      isT := fun a b r h => T.isT ((a, b), r) (in_of_lookup h)
      tyO := fun m c hm h => let ⟨cl, o, z, _⟩ := T.cls c (mem_has h); ⟨cl, o.1, z m hm⟩
      fld := fun c f h => T.fld (c, f) (mem_has h)
      free := T.free
      sys := T.sys
      eqo := fun N sc Wx X o => ?_
      neo := fun N sc Wx X o => ?_ }
  · have h' : (t.ini.lookup c).map (mkDen c t.idn) = some den := h
    obtain ⟨ini, e1, e2⟩ := Option.map_eq_some_iff.mp h'
    subst e2
    obtain ⟨cl, fI, fd, ps, mg, M, F, hb⟩ := T.ini (c, ini) (in_of_lookup e1)
    exact mke_ok M mg F hb o hg hp ha hn
  · intro pins s σ H x y v u Q I rx ry ⟨W, st, dx, dy, r, px, py, ⟨c, i, fs, ex⟩, q⟩
    subst ex
    have q1 : OQ C Wx W H (fun k _ _ H' => Q (.bl k) H') (if t.gm.idn c = true then (match (generalizing := false) dy with
      | .ins c' j _ => if t.gm.idn c' = true ∧ i ≠ 0 ∧ j ≠ 0 then .ok (decide (i = j)) st else .bad
      | _ => .bad) else .bad) := q
    by_cases hc : t.gm.idn c = true
    · rw [if_pos hc] at q1
      cases dy with
      | ins c' j gs =>
        have q2 : OQ C Wx W H (fun k _ _ H' => Q (.bl k) H') (if t.gm.idn c' = true ∧ i ≠ 0 ∧ j ≠ 0 then .ok (decide (i = j)) st else .bad) := q1
        by_cases hz : t.gm.idn c' = true ∧ i ≠ 0 ∧ j ≠ 0
        · rw [if_pos hz] at q2
          exact eqo_idn hid o pins s σ H x y v u Q I rx ry ⟨W, st, _, _, r, px, py, c, i, fs, c', j, gs, rfl, rfl, hc, hz.1, hz.2.1, hz.2.2, q2 W H (.refl W H) r⟩
        · rw [if_neg hz] at q2; exact False.elim q2
      | _ => exact False.elim q1
    · rw [if_neg hc] at q1; exact False.elim q1
  · intro pins s σ H x y v u Q I rx ry ⟨W, st, dx, dy, r, px, py, ⟨c, i, fs, ex⟩, q⟩
    subst ex
    have q1 : OQ C Wx W H (fun k _ _ H' => Q (.bl k) H') (if t.gm.idn c = true then (match (generalizing := false) dy with
      | .ins c' j _ => if t.gm.idn c' = true ∧ i ≠ 0 ∧ j ≠ 0 then .ok (!decide (i = j)) st else .bad
      | _ => .bad) else .bad) := q
    by_cases hc : t.gm.idn c = true
    · rw [if_pos hc] at q1
      cases dy with
      | ins c' j gs =>
        have q2 : OQ C Wx W H (fun k _ _ H' => Q (.bl k) H') (if t.gm.idn c' = true ∧ i ≠ 0 ∧ j ≠ 0 then .ok (!decide (i = j)) st else .bad) := q1
        by_cases hz : t.gm.idn c' = true ∧ i ≠ 0 ∧ j ≠ 0
        · rw [if_pos hz] at q2
          exact neo_idn hid o pins s σ H x y v u Q I rx ry ⟨W, st, _, _, r, px, py, c, i, fs, c', j, gs, rfl, rfl, hc, hz.1, hz.2.1, hz.2.2, q2 W H (.refl W H) r⟩
        · rw [if_neg hz] at q2; exact False.elim q2
      | _ => exact False.elim q1
    · rw [if_neg hc] at q1; exact False.elim q1
/-- no errors -/
def Tb.gx (t : Tb) : Gx := ⟨t.gm, fun _ _ => none, fun _ => false⟩
theorem gxok {t : Tb} (T : TbOk P w C base k t) : GxOk P w C base k t.gx := ⟨gok T, fun c h => by cases h⟩
theorem none_of_dfl {K : PySem.W.Frag} {dV : Value} (h : DflV K dV []) : dV = .none := by
  rcases h with ⟨_, e⟩ | ⟨e, _⟩
  · exact e
  · exact absurd rfl e
/-- C(k = v, ..), the names from the last to the first -/
theorem mkk_ok {x qual : Str} {params : Arguments} {body : List Stmt} {scope : Scope} {kws0 : List (Str × V)} {fI cl : Addr} {fd : FuncData} {ps ks : List Str} {c : Str} {idn : Bool} {ini : Ini} (F0 : FunD C.K x qual params body scope [] kws0 fI fd)
    (hb : ∀ (kV doc pm : Value) (an : Option Addr) (cdv ct u : Value) (ws : List Value), ws.length = ks.length → bindArgs (PySem.W.fnOf x qual params body scope .none kV doc pm an cdv ct) ⟨[u], ks.zip ws⟩ = pure (ps.zip (u :: ws.reverse)))
    (hks : ks ≠ []) (M : Mk C.K cl fI) (mg : C.mg c = some (.ref cl)) (F : FnG P w C base k fI fd ps (spIni C c ini)) : MkkOk P w C base k c ks (fun ds s => mkDen c idn ini ds.reverse s) := by
  intro N sc Wx X o kws t p pos hg hn ht hlen
  obtain ⟨g1, g2, g3⟩ := gl_of o hg
  have M' : Mk X.K cl fI := by rw [o.K]; exact M
  have mg' : X.mg c = some (.ref cl) := by rw [o.mg]; exact mg
  have kwE : ∀ (kws : List Keyword), (backToKw pos (keywordEach kws X.env)).map (·.1) = kws.map (·.arg) := fun kws => by
    induction kws with
    | nil => rfl
    | cons a r ih =>
      obtain ⟨n, v, q⟩ := a
      show n :: _ = n :: _
      exact congrArg _ ih
  have names : (backToKw pos (keywordEach kws X.env)).map (·.1) = ks.map some := (kwE kws).trans hn
  have hall : (backToKw pos (keywordEach kws X.env)).all (·.1.isSome) = true := by
    rw [List.all_eq_true]
    intro y hy
    have z : y.1 ∈ ks.map some := by rw [← names]; exact List.mem_map_of_mem hy
    obtain ⟨z1, _, z2⟩ := List.mem_map.mp z
    rw [← z2]; rfl
  have hks2 : (backToKw pos (keywordEach kws X.env)).filterMap (·.1) = ks := by
    have e : ∀ (l : List (Option Str × Sem Value)) (ks : List Str), l.map (·.1) = ks.map some → l.filterMap (·.1) = ks := fun l => by
      induction l with
      | nil => intro ks h; cases ks with
        | nil => rfl
        | cons _ _ => cases h
      | cons a r ih => intro ks h; cases ks with
        | nil => cases h
        | cons k1 kr =>
          injection h with h1 h2
          have h1' : a.1 = some k1 := h1
          rw [List.filterMap_cons, h1']
          show k1 :: _ = k1 :: _
          rw [ih kr h2]
    exact e _ _ names
  have hpl : ((backTo pos (starEach [] X.env)).any (·.1) || (backToKw pos (keywordEach kws X.env)).any (·.1.isNone)) = false := by
    show (false || _) = false
    rw [Bool.false_or, List.any_eq_false]
    intro y hy z
    have q := List.all_eq_true.mp hall y hy
    cases e : y.1 with
    | none => rw [e] at q; cases q
    | some _ => rw [e] at z; cases z
  refine ⟨fun pins s σ H Q I h => ?_⟩
  refine wpAny_Call_Name_kw (ld_glob I g1 mg' ?_ g2)
  refine PySem.W.callWith_KW0 (h₀ := X.base) I.ok.mod.kin M'.kp hall ?_ hpl
  refine thn (ht.run pos pins s σ H _ I (hlen σ H _ h)) fun ws s2 ⟨zs, H2, I2, rz, l2, q2⟩ => ⟨I2.kIn, ?_⟩
  rw [hks2]
  -- the call
  obtain ⟨W, st, ds, rp, rel, q⟩ := q2
  have n1 : H2 (s2.heap.objs.size + 1) = none := I2.hok.fresh (Nat.le_succ _)
  have n2 : H2 s2.heap.objs.size = none := I2.hok.fresh (Nat.le_refl _)
  have ne : s2.heap.objs.size ≠ s2.heap.objs.size + 1 := Nat.ne_of_lt (Nat.lt_succ_self _)
  have n3 : upd H2 s2.heap.objs.size (.own (s2.heap.objs.size + 1)) (s2.heap.objs.size + 1) = none := by rw [upd_ne (Ne.symm ne)]; exact n1
  have rev : ∀ {ds : List D} {vs : List V}, Reps C W ds vs → Reps C W ds.reverse vs.reverse := fun {ds} => by
    induction ds with
    | nil => intro vs r; have e : vs = [] := r; subst e; exact rfl
    | cons d ds ih =>
      intro vs ⟨v, r, e, p, q⟩
      subst e
      rw [List.reverse_cons, List.reverse_cons]
      exact (ih q).append ⟨v, [], rfl, p, rfl⟩
  have hq : spIni C c ini (.ref (s2.heap.objs.size + 1) :: zs.reverse) (upd (upd H2 s2.heap.objs.size (.own (s2.heap.objs.size + 1))) (s2.heap.objs.size + 1) (.ins cl s2.heap.objs.size [])) (fun v H3 => v = .non ∧ Q (.ref (s2.heap.objs.size + 1)) H3) Wx := by
    have rel2 := rel_own rel (o := .own (s2.heap.objs.size + 1)) n2
    refine ⟨W, st, ds.reverse, s2.heap.objs.size + 1, zs.reverse, cl, s2.heap.objs.size, rfl, rev rp, rel_own rel2 n3, mg, upd_same, G_free rel n1, ?_⟩
    rw [del_upd, del_free n3]
    refine ((OQ.bind0 q).mono (ext_own n2)).imp fun fs s' W1 H1 e1 r1 q1 dx' vs' ha ga rf => ⟨rfl, ?_⟩
    exact made_known (Wx := Wx) (idn := idn) mg n1 ((ext_own n2).trans e1) r1 ha ga rf q1
  have I3 := Inv.made (C := cl) I2
  have vr : ∀ {zs : List V} {ws : List Value}, Vals zs ws → Vals zs.reverse ws.reverse := fun {zs} => by
    induction zs with
    | nil => intro ws r; cases r; exact .nil
    | cons z zs ih =>
      intro ws r
      cases r with
      | cons a b =>
        rw [List.reverse_cons, List.reverse_cons]
        exact (ih b).append (.cons a .nil)
  have r2 : Vals (V.ref (s2.heap.objs.size + 1) :: zs.reverse) (Value.ref (s2.heap.objs.size + 1) :: ws.reverse) := .cons rfl (vr rz)
  have hE := I3.env0.make cl [] (ks.zip ws)
  rw [o.prog, o.wd, o.K, o.mg, o.base] at hE
  obtain ⟨oc, od, dV, kV, doc, pm, an, cdv, ct, osl, rfl, lk, hcd, hD, _⟩ := F0.ex
  have dn := none_of_dfl hD
  subst dn
  have hB : BindsTo { s2 with heap := (s2.heap.push PySem.W.emptyDict).push (PySem.W.instObj cl s2.heap.objs.size) } (PySem.W.fnOf x qual params body scope .none kV doc pm an cdv ct) ⟨[Value.ref (s2.heap.objs.size + 1)], ks.zip ws⟩ (ps.zip (Value.ref (s2.heap.objs.size + 1) :: ws.reverse)) :=
    .of_eq (hb kV doc pm an cdv ct _ ws (rz.length.symm.trans l2))
  have run := F.run _ X.stack _ _ ⟨[Value.ref (s2.heap.objs.size + 1)], ks.zip ws⟩ (Value.ref (s2.heap.objs.size + 1) :: ws.reverse) _ _ Wx (o.rm.make cl [] (ks.zip ws)) hE hB r2 hq
  rw [← o.prog, ← o.wd] at run
  refine wpAny_call (make_map (f := fI) I2.kIn M'.makes M'.init (beq_iff_eq.mp M'.fn) (codeAny_mono run fun r s' hq' => ?_))
  cases r with
  | error e => exact o.tk e s' (XE.of_call I3 (W := fun cls d _ H => Wx cls d H) (fun cls d H' z => z) hq')
  | ok fl =>
    cases fl with
    | ret u =>
      obtain ⟨v, H', I4, rv, ev, q3⟩ := I3.after hq'
      subst ev
      exact ⟨rv, ⟨V.ref (s2.heap.objs.size + 1), H', I4, rfl, q3⟩⟩
    | next => exact False.elim hq'
    | brk => exact False.elim hq'
    | cont => exact False.elim hq'
theorem allm_nil {α : Type} {Pr : α → Prop} : ∀ p ∈ ([] : List α), Pr p := fun _ h => by cases h
theorem allm_cons {α : Type} {Pr : α → Prop} {a : α} {l : List α} (h : Pr a) (t : ∀ p ∈ l, Pr p) : ∀ p ∈ a :: l, Pr p := fun p hp => by
  rcases List.mem_cons.mp hp with z | z
  · subst z; exact h
  · exact t p z
theorem allm_app {α : Type} {Pr : α → Prop} {l r : List α} (h : ∀ p ∈ l, Pr p) (t : ∀ p ∈ r, Pr p) : ∀ p ∈ l ++ r, Pr p := fun p hp => (List.mem_append.mp hp).elim (h p) (t p)
theorem ini_mono {j k : Nat} (h : j ≤ k) {c : Str} {ini : Ini} (i : ∃ cl fI fd ps, C.mg c = some (.ref cl) ∧ Mk C.K cl fI ∧ FnG P w C base j fI fd ps (spIni C c ini) ∧ Binds C.K fd ps []) :
    ∃ cl fI fd ps, C.mg c = some (.ref cl) ∧ Mk C.K cl fI ∧ FnG P w C base k fI fd ps (spIni C c ini) ∧ Binds C.K fd ps [] := by
  obtain ⟨cl, fI, fd, ps, h1, h2, h3, h4⟩ := i
  exact ⟨cl, fI, fd, ps, h1, h2, h3.mono h, h4⟩
theorem kw_mono {j k : Nat} (h : j ≤ k) {c : Str} {ks : List Str} {den : Den} (i : MkkOk P w C base j c ks den) : MkkOk P w C base k c ks den :=
  fun N sc Wx X o => i N sc Wx X (o.mono h)
end
end Mp
set_option Elab.async false
set_option linter.all false
set_option maxRecDepth 100000
set_option maxHeartbeats 0
/-! Head: the facts by names, the run (printed by head.py). -/
namespace Mk
open PySem PySem.Spec PyProof.Rows L2 Mp
def top (i : Nat) : Stmt := PySem.Challenge.pw_newsranks_k82_classes_made_by_hand.main.body.getD i (.Pass ⟨0, 0, 0, 0⟩)
abbrev s_copied : Stmt := top 1
abbrev s__law_pen : Stmt := top 63
abbrev s__law_draw : Stmt := top 64
abbrev s__law_pick : Stmt := top 65
abbrev s__law_made_a : Stmt := top 66
abbrev s__law_made_b : Stmt := top 67
abbrev s__law_made_c : Stmt := top 68
abbrev s__law_made_d : Stmt := top 69
abbrev s__law_value : Stmt := top 70
abbrev s__law_copy : Stmt := top 71
abbrev s_law : Stmt := top 72
abbrev s_Sum_init : Stmt := inClass (top 3) 0
abbrev s_Broken_init : Stmt := inClass (top 4) 0
abbrev s_Greatest_init : Stmt := inClass (top 5) 0
abbrev s_Drawn_init : Stmt := inClass (top 7) 0
abbrev s_Lacking_init : Stmt := inClass (top 8) 0
abbrev s_Open_init : Stmt := inClass (top 10) 0
abbrev s_Shut_init : Stmt := inClass (top 11) 0
abbrev s_Turns_init : Stmt := inClass (top 13) 0
abbrev s_Differs_init : Stmt := inClass (top 14) 0
abbrev s_Even_init : Stmt := inClass (top 16) 0
abbrev s_Uneven_init : Stmt := inClass (top 17) 0
abbrev s_IsApart_init : Stmt := inClass (top 18) 0
abbrev s_IsTied_init : Stmt := inClass (top 19) 0
abbrev s_Derived_init : Stmt := inClass (top 21) 0
abbrev s_Parting_init : Stmt := inClass (top 22) 0
abbrev s_Chase_init : Stmt := inClass (top 24) 0
abbrev s_Shown_init : Stmt := inClass (top 26) 0
abbrev s_Unshown_init : Stmt := inClass (top 27) 0
abbrev s_RowSum_init : Stmt := inClass (top 28) 0
abbrev s_RowsBreak_init : Stmt := inClass (top 29) 0
abbrev s_Copied_init : Stmt := inClass (top 31) 0
abbrev s_Uncopied_init : Stmt := inClass (top 32) 0
abbrev s_Covers_init : Stmt := inClass (top 34) 0
abbrev s_Uncovered_init : Stmt := inClass (top 35) 0
abbrev s_Minor_init : Stmt := inClass (top 37) 0
abbrev s_Over_init : Stmt := inClass (top 39) 0
abbrev s_Shuts_init : Stmt := inClass (top 40) 0
abbrev s_GreatestJoin_init : Stmt := inClass (top 42) 0
abbrev s_Limited_init : Stmt := inClass (top 43) 0
abbrev s_Endless_init : Stmt := inClass (top 44) 0
abbrev s_Least_init : Stmt := inClass (top 46) 0
abbrev s_Port_init : Stmt := inClass (top 47) 0
abbrev s_Costly_init : Stmt := inClass (top 48) 0
abbrev s_Both_init : Stmt := inClass (top 50) 0
abbrev s_Heaviest_init : Stmt := inClass (top 51) 0
abbrev s_Flow_init : Stmt := inClass (top 53) 0
abbrev s_Code_init : Stmt := inClass (top 54) 0
abbrev s_Narrow_init : Stmt := inClass (top 55) 0
abbrev s_Past_init : Stmt := inClass (top 57) 0
abbrev s_Cut_init : Stmt := inClass (top 58) 0
abbrev s_Hung_init : Stmt := inClass (top 60) 0
abbrev s_Core_init : Stmt := inClass (top 61) 0
def d_copied : He.DefD := ⟨("copied", none), "copied", "copied", defArgs (top 1), defBody (top 1), defScope (top 1), [], []⟩
def d__law_pen : He.DefD := ⟨("_law_pen", none), "_law_pen", "_law_pen", defArgs (top 63), defBody (top 63), defScope (top 63), [], []⟩
def d__law_draw : He.DefD := ⟨("_law_draw", none), "_law_draw", "_law_draw", defArgs (top 64), defBody (top 64), defScope (top 64), [], []⟩
def d__law_pick : He.DefD := ⟨("_law_pick", none), "_law_pick", "_law_pick", defArgs (top 65), defBody (top 65), defScope (top 65), [], []⟩
def d__law_made_a : He.DefD := ⟨("_law_made_a", none), "_law_made_a", "_law_made_a", defArgs (top 66), defBody (top 66), defScope (top 66), [], []⟩
def d__law_made_b : He.DefD := ⟨("_law_made_b", none), "_law_made_b", "_law_made_b", defArgs (top 67), defBody (top 67), defScope (top 67), [], []⟩
def d__law_made_c : He.DefD := ⟨("_law_made_c", none), "_law_made_c", "_law_made_c", defArgs (top 68), defBody (top 68), defScope (top 68), [], []⟩
def d__law_made_d : He.DefD := ⟨("_law_made_d", none), "_law_made_d", "_law_made_d", defArgs (top 69), defBody (top 69), defScope (top 69), [], []⟩
def d__law_value : He.DefD := ⟨("_law_value", none), "_law_value", "_law_value", defArgs (top 70), defBody (top 70), defScope (top 70), [], []⟩
def d__law_copy : He.DefD := ⟨("_law_copy", none), "_law_copy", "_law_copy", defArgs (top 71), defBody (top 71), defScope (top 71), [], []⟩
def d_law : He.DefD := ⟨("law", none), "law", "law", defArgs (top 72), defBody (top 72), defScope (top 72), [], []⟩
def fn0 : List He.DefD := [d_copied, d__law_pen, d__law_draw, d__law_pick, d__law_made_a, d__law_made_b, d__law_made_c, d__law_made_d, d__law_value, d__law_copy, d_law]
def fa0 : List He.Fa := [.glo "copied", .glo "_law_pen", .glo "_law_draw", .glo "_law_pick", .glo "_law_made_a", .glo "_law_made_b", .glo "_law_made_c", .glo "_law_made_d", .glo "_law_value", .glo "_law_copy", .glo "law", .free "len", .free "int", .free "abs", .free "sum", .free "any", .free "all", .free "sorted", .free "tuple", .free "list", .free "repr", .free "min", .free "max", .free "isinstance", .free "range", .free "zip", .free "bool", .free "str", .free "dict", .free "set"]
def cl0 : List Str := []
def pt0 : PartM := ⟨fa0, fn0, fun K => cl0.all fun c => ownB K (He.ga K c) && idnB K (He.ga K c)⟩
def d_Sum_init : He.DefD := ⟨("Sum", some "__init__"), "__init__", "Sum.__init__", defArgs s_Sum_init, defBody s_Sum_init, defScope s_Sum_init, [], []⟩
def d_Broken_init : He.DefD := ⟨("Broken", some "__init__"), "__init__", "Broken.__init__", defArgs s_Broken_init, defBody s_Broken_init, defScope s_Broken_init, [], []⟩
def d_Greatest_init : He.DefD := ⟨("Greatest", some "__init__"), "__init__", "Greatest.__init__", defArgs s_Greatest_init, defBody s_Greatest_init, defScope s_Greatest_init, [], []⟩
def d_Drawn_init : He.DefD := ⟨("Drawn", some "__init__"), "__init__", "Drawn.__init__", defArgs s_Drawn_init, defBody s_Drawn_init, defScope s_Drawn_init, [], []⟩
def d_Lacking_init : He.DefD := ⟨("Lacking", some "__init__"), "__init__", "Lacking.__init__", defArgs s_Lacking_init, defBody s_Lacking_init, defScope s_Lacking_init, [], []⟩
def d_Open_init : He.DefD := ⟨("Open", some "__init__"), "__init__", "Open.__init__", defArgs s_Open_init, defBody s_Open_init, defScope s_Open_init, [], []⟩
def d_Shut_init : He.DefD := ⟨("Shut", some "__init__"), "__init__", "Shut.__init__", defArgs s_Shut_init, defBody s_Shut_init, defScope s_Shut_init, [], []⟩
def d_Turns_init : He.DefD := ⟨("Turns", some "__init__"), "__init__", "Turns.__init__", defArgs s_Turns_init, defBody s_Turns_init, defScope s_Turns_init, [], []⟩
def d_Differs_init : He.DefD := ⟨("Differs", some "__init__"), "__init__", "Differs.__init__", defArgs s_Differs_init, defBody s_Differs_init, defScope s_Differs_init, [], []⟩
def d_Even_init : He.DefD := ⟨("Even", some "__init__"), "__init__", "Even.__init__", defArgs s_Even_init, defBody s_Even_init, defScope s_Even_init, [], []⟩
def d_Uneven_init : He.DefD := ⟨("Uneven", some "__init__"), "__init__", "Uneven.__init__", defArgs s_Uneven_init, defBody s_Uneven_init, defScope s_Uneven_init, [], []⟩
def d_IsApart_init : He.DefD := ⟨("IsApart", some "__init__"), "__init__", "IsApart.__init__", defArgs s_IsApart_init, defBody s_IsApart_init, defScope s_IsApart_init, [], []⟩
def d_IsTied_init : He.DefD := ⟨("IsTied", some "__init__"), "__init__", "IsTied.__init__", defArgs s_IsTied_init, defBody s_IsTied_init, defScope s_IsTied_init, [], []⟩
def d_Derived_init : He.DefD := ⟨("Derived", some "__init__"), "__init__", "Derived.__init__", defArgs s_Derived_init, defBody s_Derived_init, defScope s_Derived_init, [], []⟩
def fn1 : List He.DefD := [d_Sum_init, d_Broken_init, d_Greatest_init, d_Drawn_init, d_Lacking_init, d_Open_init, d_Shut_init, d_Turns_init, d_Differs_init, d_Even_init, d_Uneven_init, d_IsApart_init, d_IsTied_init, d_Derived_init]
def fa1 : List He.Fa := [.glo "Sum", .cls "Sum", .mkr "Sum", .noat "Sum" "weights", .glo "Broken", .cls "Broken", .mkr "Broken", .noat "Broken" "ranks", .glo "Greatest", .cls "Greatest", .mkr "Greatest", .noat "Greatest" "ranks", .noat "Greatest" "weights", .glo "Drawn", .cls "Drawn", .mkr "Drawn", .noat "Drawn" "steps", .glo "Lacking", .cls "Lacking", .mkr "Lacking", .noat "Lacking" "rows", .glo "Open", .cls "Open", .mkr "Open", .noat "Open" "way", .glo "Shut", .cls "Shut", .mkr "Shut", .noat "Shut" "lot", .glo "Turns", .cls "Turns", .mkr "Turns", .noat "Turns" "ties", .glo "Differs", .cls "Differs", .mkr "Differs", .noat "Differs" "statement", .glo "Even", .cls "Even", .mkr "Even", .noat "Even" "times", .glo "Uneven", .cls "Uneven", .mkr "Uneven", .noat "Uneven" "lot", .noat "Uneven" "one", .noat "Uneven" "other", .glo "IsApart", .cls "IsApart", .mkr "IsApart", .noat "IsApart" "times", .glo "IsTied", .cls "IsTied", .mkr "IsTied", .noat "IsTied" "one", .noat "IsTied" "other", .noat "IsTied" "given", .glo "Derived", .cls "Derived", .mkr "Derived", .noat "Derived" "numbers"]
def cl1 : List Str := ["Sum", "Broken", "Greatest", "Drawn", "Lacking", "Open", "Shut", "Turns", "Differs", "Even", "Uneven", "IsApart", "IsTied", "Derived"]
def pt1 : PartM := ⟨fa1, fn1, fun K => cl1.all fun c => ownB K (He.ga K c) && idnB K (He.ga K c)⟩
def d_Parting_init : He.DefD := ⟨("Parting", some "__init__"), "__init__", "Parting.__init__", defArgs s_Parting_init, defBody s_Parting_init, defScope s_Parting_init, [], []⟩
def d_Chase_init : He.DefD := ⟨("Chase", some "__init__"), "__init__", "Chase.__init__", defArgs s_Chase_init, defBody s_Chase_init, defScope s_Chase_init, [], []⟩
def d_Shown_init : He.DefD := ⟨("Shown", some "__init__"), "__init__", "Shown.__init__", defArgs s_Shown_init, defBody s_Shown_init, defScope s_Shown_init, [], []⟩
def d_Unshown_init : He.DefD := ⟨("Unshown", some "__init__"), "__init__", "Unshown.__init__", defArgs s_Unshown_init, defBody s_Unshown_init, defScope s_Unshown_init, [], []⟩
def d_RowSum_init : He.DefD := ⟨("RowSum", some "__init__"), "__init__", "RowSum.__init__", defArgs s_RowSum_init, defBody s_RowSum_init, defScope s_RowSum_init, [], []⟩
def d_RowsBreak_init : He.DefD := ⟨("RowsBreak", some "__init__"), "__init__", "RowsBreak.__init__", defArgs s_RowsBreak_init, defBody s_RowsBreak_init, defScope s_RowsBreak_init, [], []⟩
def d_Copied_init : He.DefD := ⟨("Copied", some "__init__"), "__init__", "Copied.__init__", defArgs s_Copied_init, defBody s_Copied_init, defScope s_Copied_init, [], []⟩
def d_Uncopied_init : He.DefD := ⟨("Uncopied", some "__init__"), "__init__", "Uncopied.__init__", defArgs s_Uncopied_init, defBody s_Uncopied_init, defScope s_Uncopied_init, [], []⟩
def d_Covers_init : He.DefD := ⟨("Covers", some "__init__"), "__init__", "Covers.__init__", defArgs s_Covers_init, defBody s_Covers_init, defScope s_Covers_init, [], []⟩
def d_Uncovered_init : He.DefD := ⟨("Uncovered", some "__init__"), "__init__", "Uncovered.__init__", defArgs s_Uncovered_init, defBody s_Uncovered_init, defScope s_Uncovered_init, [], []⟩
def d_Minor_init : He.DefD := ⟨("Minor", some "__init__"), "__init__", "Minor.__init__", defArgs s_Minor_init, defBody s_Minor_init, defScope s_Minor_init, [], []⟩
def d_Over_init : He.DefD := ⟨("Over", some "__init__"), "__init__", "Over.__init__", defArgs s_Over_init, defBody s_Over_init, defScope s_Over_init, [], []⟩
def d_Shuts_init : He.DefD := ⟨("Shuts", some "__init__"), "__init__", "Shuts.__init__", defArgs s_Shuts_init, defBody s_Shuts_init, defScope s_Shuts_init, [], []⟩
def d_GreatestJoin_init : He.DefD := ⟨("GreatestJoin", some "__init__"), "__init__", "GreatestJoin.__init__", defArgs s_GreatestJoin_init, defBody s_GreatestJoin_init, defScope s_GreatestJoin_init, [], []⟩
def fn2 : List He.DefD := [d_Parting_init, d_Chase_init, d_Shown_init, d_Unshown_init, d_RowSum_init, d_RowsBreak_init, d_Copied_init, d_Uncopied_init, d_Covers_init, d_Uncovered_init, d_Minor_init, d_Over_init, d_Shuts_init, d_GreatestJoin_init]
def fa2 : List He.Fa := [.glo "Parting", .cls "Parting", .mkr "Parting", .noat "Parting" "table", .glo "Chase", .cls "Chase", .mkr "Chase", .noat "Chase" "steps", .glo "Shown", .cls "Shown", .mkr "Shown", .noat "Shown" "many", .noat "Shown" "rows", .glo "Unshown", .cls "Unshown", .mkr "Unshown", .noat "Unshown" "name", .glo "RowSum", .cls "RowSum", .mkr "RowSum", .noat "RowSum" "weights", .glo "RowsBreak", .cls "RowsBreak", .mkr "RowsBreak", .noat "RowsBreak" "rows", .glo "Copied", .cls "Copied", .mkr "Copied", .noat "Copied" "weights", .noat "Copied" "shares", .glo "Uncopied", .cls "Uncopied", .mkr "Uncopied", .noat "Uncopied" "ranks", .glo "Covers", .cls "Covers", .mkr "Covers", .noat "Covers" "sums", .glo "Uncovered", .cls "Uncovered", .mkr "Uncovered", .noat "Uncovered" "source", .noat "Uncovered" "table", .glo "Minor", .cls "Minor", .mkr "Minor", .noat "Minor" "given", .noat "Minor" "left", .noat "Minor" "names", .glo "Over", .cls "Over", .mkr "Over", .noat "Over" "rows", .glo "Shuts", .cls "Shuts", .mkr "Shuts", .noat "Shuts" "number", .noat "Shuts" "minor", .glo "GreatestJoin", .cls "GreatestJoin", .mkr "GreatestJoin", .noat "GreatestJoin" "weights", .noat "GreatestJoin" "heights"]
def cl2 : List Str := ["Parting", "Chase", "Shown", "Unshown", "RowSum", "RowsBreak", "Copied", "Uncopied", "Covers", "Uncovered", "Minor", "Over", "Shuts", "GreatestJoin"]
def pt2 : PartM := ⟨fa2, fn2, fun K => cl2.all fun c => ownB K (He.ga K c) && idnB K (He.ga K c)⟩
def d_Limited_init : He.DefD := ⟨("Limited", some "__init__"), "__init__", "Limited.__init__", defArgs s_Limited_init, defBody s_Limited_init, defScope s_Limited_init, [], []⟩
def d_Endless_init : He.DefD := ⟨("Endless", some "__init__"), "__init__", "Endless.__init__", defArgs s_Endless_init, defBody s_Endless_init, defScope s_Endless_init, [], []⟩
def d_Least_init : He.DefD := ⟨("Least", some "__init__"), "__init__", "Least.__init__", defArgs s_Least_init, defBody s_Least_init, defScope s_Least_init, [], []⟩
def d_Port_init : He.DefD := ⟨("Port", some "__init__"), "__init__", "Port.__init__", defArgs s_Port_init, defBody s_Port_init, defScope s_Port_init, [], []⟩
def d_Costly_init : He.DefD := ⟨("Costly", some "__init__"), "__init__", "Costly.__init__", defArgs s_Costly_init, defBody s_Costly_init, defScope s_Costly_init, [], []⟩
def d_Both_init : He.DefD := ⟨("Both", some "__init__"), "__init__", "Both.__init__", defArgs s_Both_init, defBody s_Both_init, defScope s_Both_init, [], []⟩
def d_Heaviest_init : He.DefD := ⟨("Heaviest", some "__init__"), "__init__", "Heaviest.__init__", defArgs s_Heaviest_init, defBody s_Heaviest_init, defScope s_Heaviest_init, [], []⟩
def d_Flow_init : He.DefD := ⟨("Flow", some "__init__"), "__init__", "Flow.__init__", defArgs s_Flow_init, defBody s_Flow_init, defScope s_Flow_init, [], []⟩
def d_Code_init : He.DefD := ⟨("Code", some "__init__"), "__init__", "Code.__init__", defArgs s_Code_init, defBody s_Code_init, defScope s_Code_init, [], []⟩
def d_Narrow_init : He.DefD := ⟨("Narrow", some "__init__"), "__init__", "Narrow.__init__", defArgs s_Narrow_init, defBody s_Narrow_init, defScope s_Narrow_init, [], []⟩
def d_Past_init : He.DefD := ⟨("Past", some "__init__"), "__init__", "Past.__init__", defArgs s_Past_init, defBody s_Past_init, defScope s_Past_init, [], []⟩
def d_Cut_init : He.DefD := ⟨("Cut", some "__init__"), "__init__", "Cut.__init__", defArgs s_Cut_init, defBody s_Cut_init, defScope s_Cut_init, [], []⟩
def d_Hung_init : He.DefD := ⟨("Hung", some "__init__"), "__init__", "Hung.__init__", defArgs s_Hung_init, defBody s_Hung_init, defScope s_Hung_init, [], []⟩
def d_Core_init : He.DefD := ⟨("Core", some "__init__"), "__init__", "Core.__init__", defArgs s_Core_init, defBody s_Core_init, defScope s_Core_init, [], []⟩
def fn3 : List He.DefD := [d_Limited_init, d_Endless_init, d_Least_init, d_Port_init, d_Costly_init, d_Both_init, d_Heaviest_init, d_Flow_init, d_Code_init, d_Narrow_init, d_Past_init, d_Cut_init, d_Hung_init, d_Core_init]
def fa3 : List He.Fa := [.glo "Limited", .cls "Limited", .mkr "Limited", .noat "Limited" "weights", .noat "Limited" "heights", .glo "Endless", .cls "Endless", .mkr "Endless", .noat "Endless" "source", .glo "Least", .cls "Least", .mkr "Least", .noat "Least" "ranks", .noat "Least" "weights", .glo "Port", .cls "Port", .mkr "Port", .noat "Port" "ranks", .glo "Costly", .cls "Costly", .mkr "Costly", .noat "Costly" "weights", .glo "Both", .cls "Both", .mkr "Both", .noat "Both" "lot", .noat "Both" "part", .glo "Heaviest", .cls "Heaviest", .mkr "Heaviest", .noat "Heaviest" "lot", .noat "Heaviest" "drops", .glo "Flow", .cls "Flow", .mkr "Flow", .noat "Flow" "ways", .noat "Flow" "lot", .glo "Code", .cls "Code", .mkr "Code", .noat "Code" "rows", .glo "Narrow", .cls "Narrow", .mkr "Narrow", .noat "Narrow" "sink", .noat "Narrow" "lot", .glo "Past", .cls "Past", .mkr "Past", .noat "Past" "way", .glo "Cut", .cls "Cut", .mkr "Cut", .noat "Cut" "lot", .glo "Hung", .cls "Hung", .mkr "Hung", .noat "Hung" "parents", .glo "Core", .cls "Core", .mkr "Core", .noat "Core" "lot"]
def cl3 : List Str := ["Limited", "Endless", "Least", "Port", "Costly", "Both", "Heaviest", "Flow", "Code", "Narrow", "Past", "Cut", "Hung", "Core"]
def pt3 : PartM := ⟨fa3, fn3, fun K => cl3.all fun c => ownB K (He.ga K c) && idnB K (He.ga K c)⟩
def lo0 : List Str := ["copied", "Sum", "Broken", "Greatest", "Drawn", "Lacking", "Open", "Shut", "Turns", "Differs", "Even", "Uneven", "IsApart", "IsTied", "Derived", "Parting", "Chase", "Shown", "Unshown", "RowSum", "RowsBreak", "Copied", "Uncopied", "Covers", "Uncovered", "Minor", "Over", "Shuts", "GreatestJoin", "Limited"]
def lo1 : List Str := ["Endless", "Least", "Port", "Costly", "Both", "Heaviest", "Flow", "Code", "Narrow", "Past", "Cut", "Hung", "Core", "_law_pen", "_law_draw", "_law_pick", "_law_made_a", "_law_made_b", "_law_made_c", "_law_made_d", "_law_value", "_law_copy"]
def loA : List Str := lo0 ++ lo1
abbrev R : PySem.W.OpenRow := PySem.W.OpenLaw.row PySem.Challenge.rw_newsranks_k82_classes_made_by_hand
abbrev qv : Program := PySem.W.view R.prog [72]
theorem run0 (w : World) : HandSHeadRun.RunEq R qv (hookM [pt0]) (obM [pt0]) 12000 loA w := by
  intro os
  kernel_rfl
theorem run1 (w : World) : HandSHeadRun.RunEq R qv (hookM [pt1]) (obM [pt1]) 12000 loA w := by
  intro os
  kernel_rfl
theorem run2 (w : World) : HandSHeadRun.RunEq R qv (hookM [pt2]) (obM [pt2]) 12000 loA w := by
  intro os
  kernel_rfl
theorem run3 (w : World) : HandSHeadRun.RunEq R qv (hookM [pt3]) (obM [pt3]) 12000 loA w := by
  intro os
  kernel_rfl
def ptA : List PartM := [pt0, pt1, pt2, pt3]
theorem run (w : World) : HandSHeadRun.RunEq R qv (hookM ptA) (obM ptA) 12000 loA w := run_cons (run0 w) (run_cons (run1 w) (run_cons (run2 w) (run3 w)))
end Mk
set_option Elab.async false
set_option linter.all false
set_option maxRecDepth 100000
set_option maxHeartbeats 2000000
/-! Terms: the text by its mini terms (printed by gen.py). -/
namespace Mk
open PySem PySem.Spec PyProof.Rows L2 Mp
def n_copied : List Str := ["value"]
def p_copied : List Str := ["value"]
def m_copied : Ss := (.cons (.ret (.ifx (.isi (.var 0) (.ty "list")) (.bi .tuple (.cons (.var 0) .nil)) (.var 0))) .nil)
theorem k_copied : mtSs n_copied (defScope s_copied) m_copied (defBody s_copied) = true := by decide +kernel
theorem c_copied : FnScope n_copied p_copied (defScope s_copied) := ⟨rfl, rfl, rfl, by decide +kernel, rfl, by decide +kernel, by decide +kernel⟩
def n__law_draw : List Str := ["pen", "many", "cell", "digit", "blend"]
def p__law_draw : List Str := ["pen", "many"]
def m__law_draw : Ss := (.cons (.pns 0 "count" {} (.bin .Add (.pnf 0 "count") (.lit (.int 1)))) (.cons (.ife (.and (.cons (.cmp .Eq (.pnf 0 "digits") (.lit (.int 0))) (.cons (.cmp .Lt (.pnf 0 "at") (.bi .len (.cons (.pnf 0 "cells") .nil))) .nil))) (.cons (.asg 2 {} (.ix (.pnf 0 "cells") (.pnf 0 "at"))) (.cons (.pns 0 "at" {} (.bin .Add (.pnf 0 "at") (.lit (.int 1)))) (.cons (.ife (.cmp .GtE (.var 2) (.bin .Pow (.lit (.int 10)) (.lit (.int 18)))) (.cons (.pns 0 "digits" {} (.bin .Sub (.var 2) (.bin .Pow (.lit (.int 10)) (.lit (.int 18))))) .nil) (.cons (.pns 0 "fold" {} (.bin .Mod (.bi .int (.cons (.bin .Add (.bin .Mult (.pnf 0 "fold") (.lit (.int 44497))) (.var 2)) .nil)) (.lit (.int 2147483587)))) .nil)) .nil))) .nil) (.cons (.ife (.cmp .Gt (.pnf 0 "digits") (.lit (.int 0))) (.cons (.asg 3 {} (.bin .Mod (.bi .int (.cons (.pnf 0 "digits") .nil)) (.var 1))) (.cons (.pns 0 "digits" {} (.bin .FloorDiv (.pnf 0 "digits") (.var 1))) (.cons (.ret (.var 3)) .nil))) .nil) (.cons (.asg 4 {} (.bin .Add (.bin .Add (.pnf 0 "fold") (.bin .Mult (.pnf 0 "count") (.lit (.int 8167)))) (.lit (.int 97)))) (.cons (.ret (.bin .Mod (.bin .FloorDiv (.bi .int (.cons (.bin .Mod (.bin .Pow (.var 4) (.lit (.int 23))) (.lit (.int 2305843009213693951))) .nil)) (.lit (.int 128))) (.var 1))) .nil)))))
theorem k__law_draw : mtSs n__law_draw (defScope s__law_draw) m__law_draw (defBody s__law_draw) = true := by decide +kernel
theorem c__law_draw : FnScope n__law_draw p__law_draw (defScope s__law_draw) := ⟨rfl, rfl, rfl, by decide +kernel, rfl, by decide +kernel, by decide +kernel⟩
def n__law_pick : List Str := ["pen", "some"]
def p__law_pick : List Str := ["pen", "some"]
def m__law_pick : Ss := (.cons (.ret (.ix (.var 1) (.call "_law_draw" (.cons (.var 0) (.cons (.bi .len (.cons (.var 1) .nil)) .nil))))) .nil)
theorem k__law_pick : mtSs n__law_pick (defScope s__law_pick) m__law_pick (defBody s__law_pick) = true := by decide +kernel
theorem c__law_pick : FnScope n__law_pick p__law_pick (defScope s__law_pick) := ⟨rfl, rfl, rfl, by decide +kernel, rfl, by decide +kernel, by decide +kernel⟩
def n__law_made_a : List Str := ["a", "b", "c", "rows", "one", "two", "kind", "first"]
def p__law_made_a : List Str := ["a", "b", "c"]
def m__law_made_a : Ss := (.cons (.asg 3 { ow := true } (.lst .nil)) (.cons (.par 4 5 {} {} (.mk "Turns" (.cons (.var 0) .nil)) (.mkk "Turns" ["ties"] (.cons (.var 0) .nil))) (.cons (.par 6 7 {} {} (.and (.cons (.isi (.var 4) (.own "Turns")) (.cons (.isi (.var 5) (.own "Turns")) .nil))) (.lst (.cons (.fld (.var 4) "ties") .nil))) (.cons (.app 3 {} (.tup (.cons (.var 4) (.cons (.var 5) (.cons (.var 6) (.cons (.var 7) (.cons (.lst (.cons (.fld (.var 5) "ties") .nil)) (.cons (.lst (.cons (.var 0) .nil)) .nil)))))))) (.cons (.par 4 5 {} {} (.mk "Differs" (.cons (.var 0) .nil)) (.mkk "Differs" ["statement"] (.cons (.var 0) .nil))) (.cons (.par 6 7 {} {} (.and (.cons (.isi (.var 4) (.own "Differs")) (.cons (.isi (.var 5) (.own "Differs")) .nil))) (.lst (.cons (.fld (.var 4) "statement") .nil))) (.cons (.app 3 {} (.tup (.cons (.var 4) (.cons (.var 5) (.cons (.var 6) (.cons (.var 7) (.cons (.lst (.cons (.fld (.var 5) "statement") .nil)) (.cons (.lst (.cons (.var 0) .nil)) .nil)))))))) (.cons (.par 4 5 {} {} (.mk "Chase" (.cons (.var 0) .nil)) (.mkk "Chase" ["steps"] (.cons (.var 0) .nil))) (.cons (.par 6 7 {} {} (.and (.cons (.isi (.var 4) (.own "Chase")) (.cons (.isi (.var 5) (.own "Chase")) .nil))) (.lst (.cons (.fld (.var 4) "steps") .nil))) (.cons (.app 3 {} (.tup (.cons (.var 4) (.cons (.var 5) (.cons (.var 6) (.cons (.var 7) (.cons (.lst (.cons (.fld (.var 5) "steps") .nil)) (.cons (.lst (.cons (.var 0) .nil)) .nil)))))))) (.cons (.par 4 5 {} {} (.mk "Copied" (.cons (.var 0) (.cons (.var 1) .nil))) (.mkk "Copied" ["shares", "weights"] (.cons (.var 1) (.cons (.var 0) .nil)))) (.cons (.par 6 7 {} {} (.and (.cons (.isi (.var 4) (.own "Copied")) (.cons (.isi (.var 5) (.own "Copied")) .nil))) (.lst (.cons (.fld (.var 4) "weights") (.cons (.fld (.var 4) "shares") .nil)))) (.cons (.app 3 {} (.tup (.cons (.var 4) (.cons (.var 5) (.cons (.var 6) (.cons (.var 7) (.cons (.lst (.cons (.fld (.var 5) "weights") (.cons (.fld (.var 5) "shares") .nil))) (.cons (.lst (.cons (.var 0) (.cons (.var 1) .nil))) .nil)))))))) (.cons (.par 4 5 {} {} (.mk "Uncopied" (.cons (.var 0) .nil)) (.mkk "Uncopied" ["ranks"] (.cons (.var 0) .nil))) (.cons (.par 6 7 {} {} (.and (.cons (.isi (.var 4) (.own "Uncopied")) (.cons (.isi (.var 5) (.own "Uncopied")) .nil))) (.lst (.cons (.fld (.var 4) "ranks") .nil))) (.cons (.app 3 {} (.tup (.cons (.var 4) (.cons (.var 5) (.cons (.var 6) (.cons (.var 7) (.cons (.lst (.cons (.fld (.var 5) "ranks") .nil)) (.cons (.lst (.cons (.var 0) .nil)) .nil)))))))) (.cons (.par 4 5 {} {} (.mk "Covers" (.cons (.var 0) .nil)) (.mkk "Covers" ["sums"] (.cons (.var 0) .nil))) (.cons (.par 6 7 {} {} (.and (.cons (.isi (.var 4) (.own "Covers")) (.cons (.isi (.var 5) (.own "Covers")) .nil))) (.lst (.cons (.fld (.var 4) "sums") .nil))) (.cons (.app 3 {} (.tup (.cons (.var 4) (.cons (.var 5) (.cons (.var 6) (.cons (.var 7) (.cons (.lst (.cons (.fld (.var 5) "sums") .nil)) (.cons (.lst (.cons (.var 0) .nil)) .nil)))))))) (.cons (.par 4 5 {} {} (.mk "Uncovered" (.cons (.var 0) (.cons (.var 1) .nil))) (.mkk "Uncovered" ["table", "source"] (.cons (.var 1) (.cons (.var 0) .nil)))) (.cons (.par 6 7 {} {} (.and (.cons (.isi (.var 4) (.own "Uncovered")) (.cons (.isi (.var 5) (.own "Uncovered")) .nil))) (.lst (.cons (.fld (.var 4) "source") (.cons (.fld (.var 4) "table") .nil)))) (.cons (.app 3 {} (.tup (.cons (.var 4) (.cons (.var 5) (.cons (.var 6) (.cons (.var 7) (.cons (.lst (.cons (.fld (.var 5) "source") (.cons (.fld (.var 5) "table") .nil))) (.cons (.lst (.cons (.var 0) (.cons (.var 1) .nil))) .nil)))))))) (.cons (.par 4 5 {} {} (.mk "Over" (.cons (.var 0) .nil)) (.mkk "Over" ["rows"] (.cons (.var 0) .nil))) (.cons (.par 6 7 {} {} (.and (.cons (.isi (.var 4) (.own "Over")) (.cons (.isi (.var 5) (.own "Over")) .nil))) (.lst (.cons (.fld (.var 4) "rows") .nil))) (.cons (.app 3 {} (.tup (.cons (.var 4) (.cons (.var 5) (.cons (.var 6) (.cons (.var 7) (.cons (.lst (.cons (.fld (.var 5) "rows") .nil)) (.cons (.lst (.cons (.var 0) .nil)) .nil)))))))) (.cons (.par 4 5 {} {} (.mk "Shuts" (.cons (.var 0) (.cons (.var 1) .nil))) (.mkk "Shuts" ["minor", "number"] (.cons (.var 1) (.cons (.var 0) .nil)))) (.cons (.par 6 7 {} {} (.and (.cons (.isi (.var 4) (.own "Shuts")) (.cons (.isi (.var 5) (.own "Shuts")) .nil))) (.lst (.cons (.fld (.var 4) "number") (.cons (.fld (.var 4) "minor") .nil)))) (.cons (.app 3 {} (.tup (.cons (.var 4) (.cons (.var 5) (.cons (.var 6) (.cons (.var 7) (.cons (.lst (.cons (.fld (.var 5) "number") (.cons (.fld (.var 5) "minor") .nil))) (.cons (.lst (.cons (.var 0) (.cons (.var 1) .nil))) .nil)))))))) (.cons (.par 4 5 {} {} (.mk "Shown" (.cons (.var 0) (.cons (.var 1) .nil))) (.mkk "Shown" ["rows", "many"] (.cons (.var 1) (.cons (.var 0) .nil)))) (.cons (.par 6 7 {} {} (.and (.cons (.isi (.var 4) (.own "Shown")) (.cons (.isi (.var 5) (.own "Shown")) .nil))) (.lst (.cons (.fld (.var 4) "many") (.cons (.fld (.var 4) "rows") .nil)))) (.cons (.app 3 {} (.tup (.cons (.var 4) (.cons (.var 5) (.cons (.var 6) (.cons (.var 7) (.cons (.lst (.cons (.fld (.var 5) "many") (.cons (.fld (.var 5) "rows") .nil))) (.cons (.lst (.cons (.var 0) (.cons (.var 1) .nil))) .nil)))))))) (.cons (.par 4 5 {} {} (.mk "Unshown" (.cons (.var 0) .nil)) (.mkk "Unshown" ["name"] (.cons (.var 0) .nil))) (.cons (.par 6 7 {} {} (.and (.cons (.isi (.var 4) (.own "Unshown")) (.cons (.isi (.var 5) (.own "Unshown")) .nil))) (.lst (.cons (.fld (.var 4) "name") .nil))) (.cons (.app 3 {} (.tup (.cons (.var 4) (.cons (.var 5) (.cons (.var 6) (.cons (.var 7) (.cons (.lst (.cons (.fld (.var 5) "name") .nil)) (.cons (.lst (.cons (.var 0) .nil)) .nil)))))))) (.cons (.ret (.var 3)) .nil)))))))))))))))))))))))))))))))))))
theorem k__law_made_a : mtSs n__law_made_a (defScope s__law_made_a) m__law_made_a (defBody s__law_made_a) = true := by decide +kernel
theorem c__law_made_a : FnScope n__law_made_a p__law_made_a (defScope s__law_made_a) := ⟨rfl, rfl, rfl, by decide +kernel, rfl, by decide +kernel, by decide +kernel⟩
def n__law_made_b : List Str := ["a", "b", "c", "rows", "one", "two", "kind", "first"]
def p__law_made_b : List Str := ["a", "b", "c"]
def m__law_made_b : Ss := (.cons (.asg 3 { ow := true } (.lst .nil)) (.cons (.par 4 5 {} {} (.mk "RowSum" (.cons (.var 0) .nil)) (.mkk "RowSum" ["weights"] (.cons (.var 0) .nil))) (.cons (.par 6 7 {} {} (.and (.cons (.isi (.var 4) (.own "RowSum")) (.cons (.isi (.var 5) (.own "RowSum")) .nil))) (.lst (.cons (.fld (.var 4) "weights") .nil))) (.cons (.app 3 {} (.tup (.cons (.var 4) (.cons (.var 5) (.cons (.var 6) (.cons (.var 7) (.cons (.lst (.cons (.fld (.var 5) "weights") .nil)) (.cons (.lst (.cons (.var 0) .nil)) .nil)))))))) (.cons (.par 4 5 {} {} (.mk "RowsBreak" (.cons (.var 0) .nil)) (.mkk "RowsBreak" ["rows"] (.cons (.var 0) .nil))) (.cons (.par 6 7 {} {} (.and (.cons (.isi (.var 4) (.own "RowsBreak")) (.cons (.isi (.var 5) (.own "RowsBreak")) .nil))) (.lst (.cons (.fld (.var 4) "rows") .nil))) (.cons (.app 3 {} (.tup (.cons (.var 4) (.cons (.var 5) (.cons (.var 6) (.cons (.var 7) (.cons (.lst (.cons (.fld (.var 5) "rows") .nil)) (.cons (.lst (.cons (.var 0) .nil)) .nil)))))))) (.cons (.par 4 5 {} {} (.mk "GreatestJoin" (.cons (.var 0) (.cons (.var 1) .nil))) (.mkk "GreatestJoin" ["heights", "weights"] (.cons (.var 1) (.cons (.var 0) .nil)))) (.cons (.par 6 7 {} {} (.and (.cons (.isi (.var 4) (.own "GreatestJoin")) (.cons (.isi (.var 5) (.own "GreatestJoin")) .nil))) (.lst (.cons (.fld (.var 4) "weights") (.cons (.fld (.var 4) "heights") .nil)))) (.cons (.app 3 {} (.tup (.cons (.var 4) (.cons (.var 5) (.cons (.var 6) (.cons (.var 7) (.cons (.lst (.cons (.fld (.var 5) "weights") (.cons (.fld (.var 5) "heights") .nil))) (.cons (.lst (.cons (.var 0) (.cons (.var 1) .nil))) .nil)))))))) (.cons (.par 4 5 {} {} (.mk "Limited" (.cons (.var 0) (.cons (.var 1) .nil))) (.mkk "Limited" ["heights", "weights"] (.cons (.var 1) (.cons (.var 0) .nil)))) (.cons (.par 6 7 {} {} (.and (.cons (.isi (.var 4) (.own "Limited")) (.cons (.isi (.var 5) (.own "Limited")) .nil))) (.lst (.cons (.fld (.var 4) "weights") (.cons (.fld (.var 4) "heights") .nil)))) (.cons (.app 3 {} (.tup (.cons (.var 4) (.cons (.var 5) (.cons (.var 6) (.cons (.var 7) (.cons (.lst (.cons (.fld (.var 5) "weights") (.cons (.fld (.var 5) "heights") .nil))) (.cons (.lst (.cons (.var 0) (.cons (.var 1) .nil))) .nil)))))))) (.cons (.par 4 5 {} {} (.mk "Endless" (.cons (.var 0) .nil)) (.mkk "Endless" ["source"] (.cons (.var 0) .nil))) (.cons (.par 6 7 {} {} (.and (.cons (.isi (.var 4) (.own "Endless")) (.cons (.isi (.var 5) (.own "Endless")) .nil))) (.lst (.cons (.fld (.var 4) "source") .nil))) (.cons (.app 3 {} (.tup (.cons (.var 4) (.cons (.var 5) (.cons (.var 6) (.cons (.var 7) (.cons (.lst (.cons (.fld (.var 5) "source") .nil)) (.cons (.lst (.cons (.var 0) .nil)) .nil)))))))) (.cons (.par 4 5 {} {} (.mk "Open" (.cons (.var 0) .nil)) (.mkk "Open" ["way"] (.cons (.var 0) .nil))) (.cons (.par 6 7 {} {} (.and (.cons (.isi (.var 4) (.own "Open")) (.cons (.isi (.var 5) (.own "Open")) .nil))) (.lst (.cons (.fld (.var 4) "way") .nil))) (.cons (.app 3 {} (.tup (.cons (.var 4) (.cons (.var 5) (.cons (.var 6) (.cons (.var 7) (.cons (.lst (.cons (.fld (.var 5) "way") .nil)) (.cons (.lst (.cons (.var 0) .nil)) .nil)))))))) (.cons (.par 4 5 {} {} (.mk "Shut" (.cons (.var 0) .nil)) (.mkk "Shut" ["lot"] (.cons (.var 0) .nil))) (.cons (.par 6 7 {} {} (.and (.cons (.isi (.var 4) (.own "Shut")) (.cons (.isi (.var 5) (.own "Shut")) .nil))) (.lst (.cons (.fld (.var 4) "lot") .nil))) (.cons (.app 3 {} (.tup (.cons (.var 4) (.cons (.var 5) (.cons (.var 6) (.cons (.var 7) (.cons (.lst (.cons (.fld (.var 5) "lot") .nil)) (.cons (.lst (.cons (.var 0) .nil)) .nil)))))))) (.cons (.par 4 5 {} {} (.mk "Minor" (.cons (.var 0) (.cons (.var 1) (.cons (.var 2) .nil)))) (.mkk "Minor" ["names", "left", "given"] (.cons (.var 2) (.cons (.var 1) (.cons (.var 0) .nil))))) (.cons (.par 6 7 {} {} (.and (.cons (.isi (.var 4) (.own "Minor")) (.cons (.isi (.var 5) (.own "Minor")) .nil))) (.lst (.cons (.fld (.var 4) "given") (.cons (.fld (.var 4) "left") (.cons (.fld (.var 4) "names") .nil))))) (.cons (.app 3 {} (.tup (.cons (.var 4) (.cons (.var 5) (.cons (.var 6) (.cons (.var 7) (.cons (.lst (.cons (.fld (.var 5) "given") (.cons (.fld (.var 5) "left") (.cons (.fld (.var 5) "names") .nil)))) (.cons (.lst (.cons (.var 0) (.cons (.var 1) (.cons (.var 2) .nil)))) .nil)))))))) (.cons (.par 4 5 {} {} (.mk "Both" (.cons (.var 0) (.cons (.var 1) .nil))) (.mkk "Both" ["part", "lot"] (.cons (.var 1) (.cons (.var 0) .nil)))) (.cons (.par 6 7 {} {} (.and (.cons (.isi (.var 4) (.own "Both")) (.cons (.isi (.var 5) (.own "Both")) .nil))) (.lst (.cons (.fld (.var 4) "lot") (.cons (.fld (.var 4) "part") .nil)))) (.cons (.app 3 {} (.tup (.cons (.var 4) (.cons (.var 5) (.cons (.var 6) (.cons (.var 7) (.cons (.lst (.cons (.fld (.var 5) "lot") (.cons (.fld (.var 5) "part") .nil))) (.cons (.lst (.cons (.var 0) (.cons (.var 1) .nil))) .nil)))))))) (.cons (.par 4 5 {} {} (.mk "Heaviest" (.cons (.var 0) (.cons (.var 1) .nil))) (.mkk "Heaviest" ["drops", "lot"] (.cons (.var 1) (.cons (.var 0) .nil)))) (.cons (.par 6 7 {} {} (.and (.cons (.isi (.var 4) (.own "Heaviest")) (.cons (.isi (.var 5) (.own "Heaviest")) .nil))) (.lst (.cons (.fld (.var 4) "lot") (.cons (.fld (.var 4) "drops") .nil)))) (.cons (.app 3 {} (.tup (.cons (.var 4) (.cons (.var 5) (.cons (.var 6) (.cons (.var 7) (.cons (.lst (.cons (.fld (.var 5) "lot") (.cons (.fld (.var 5) "drops") .nil))) (.cons (.lst (.cons (.var 0) (.cons (.var 1) .nil))) .nil)))))))) (.cons (.par 4 5 {} {} (.mk "Flow" (.cons (.var 0) (.cons (.var 1) .nil))) (.mkk "Flow" ["lot", "ways"] (.cons (.var 1) (.cons (.var 0) .nil)))) (.cons (.par 6 7 {} {} (.and (.cons (.isi (.var 4) (.own "Flow")) (.cons (.isi (.var 5) (.own "Flow")) .nil))) (.lst (.cons (.fld (.var 4) "ways") (.cons (.fld (.var 4) "lot") .nil)))) (.cons (.app 3 {} (.tup (.cons (.var 4) (.cons (.var 5) (.cons (.var 6) (.cons (.var 7) (.cons (.lst (.cons (.fld (.var 5) "ways") (.cons (.fld (.var 5) "lot") .nil))) (.cons (.lst (.cons (.var 0) (.cons (.var 1) .nil))) .nil)))))))) (.cons (.ret (.var 3)) .nil)))))))))))))))))))))))))))))))))))
theorem k__law_made_b : mtSs n__law_made_b (defScope s__law_made_b) m__law_made_b (defBody s__law_made_b) = true := by decide +kernel
theorem c__law_made_b : FnScope n__law_made_b p__law_made_b (defScope s__law_made_b) := ⟨rfl, rfl, rfl, by decide +kernel, rfl, by decide +kernel, by decide +kernel⟩
def n__law_made_c : List Str := ["a", "b", "c", "rows", "one", "two", "kind", "first"]
def p__law_made_c : List Str := ["a", "b", "c"]
def m__law_made_c : Ss := (.cons (.asg 3 { ow := true } (.lst .nil)) (.cons (.par 4 5 {} {} (.mk "Code" (.cons (.var 0) .nil)) (.mkk "Code" ["rows"] (.cons (.var 0) .nil))) (.cons (.par 6 7 {} {} (.and (.cons (.isi (.var 4) (.own "Code")) (.cons (.isi (.var 5) (.own "Code")) .nil))) (.lst (.cons (.fld (.var 4) "rows") .nil))) (.cons (.app 3 {} (.tup (.cons (.var 4) (.cons (.var 5) (.cons (.var 6) (.cons (.var 7) (.cons (.lst (.cons (.fld (.var 5) "rows") .nil)) (.cons (.lst (.cons (.var 0) .nil)) .nil)))))))) (.cons (.par 4 5 {} {} (.mk "Narrow" (.cons (.var 0) (.cons (.var 1) .nil))) (.mkk "Narrow" ["lot", "sink"] (.cons (.var 1) (.cons (.var 0) .nil)))) (.cons (.par 6 7 {} {} (.and (.cons (.isi (.var 4) (.own "Narrow")) (.cons (.isi (.var 5) (.own "Narrow")) .nil))) (.lst (.cons (.fld (.var 4) "sink") (.cons (.fld (.var 4) "lot") .nil)))) (.cons (.app 3 {} (.tup (.cons (.var 4) (.cons (.var 5) (.cons (.var 6) (.cons (.var 7) (.cons (.lst (.cons (.fld (.var 5) "sink") (.cons (.fld (.var 5) "lot") .nil))) (.cons (.lst (.cons (.var 0) (.cons (.var 1) .nil))) .nil)))))))) (.cons (.par 4 5 {} {} (.mk "Sum" (.cons (.var 0) .nil)) (.mkk "Sum" ["weights"] (.cons (.var 0) .nil))) (.cons (.par 6 7 {} {} (.and (.cons (.isi (.var 4) (.own "Sum")) (.cons (.isi (.var 5) (.own "Sum")) .nil))) (.lst (.cons (.fld (.var 4) "weights") .nil))) (.cons (.app 3 {} (.tup (.cons (.var 4) (.cons (.var 5) (.cons (.var 6) (.cons (.var 7) (.cons (.lst (.cons (.fld (.var 5) "weights") .nil)) (.cons (.lst (.cons (.var 0) .nil)) .nil)))))))) (.cons (.par 4 5 {} {} (.mk "Broken" (.cons (.var 0) .nil)) (.mkk "Broken" ["ranks"] (.cons (.var 0) .nil))) (.cons (.par 6 7 {} {} (.and (.cons (.isi (.var 4) (.own "Broken")) (.cons (.isi (.var 5) (.own "Broken")) .nil))) (.lst (.cons (.fld (.var 4) "ranks") .nil))) (.cons (.app 3 {} (.tup (.cons (.var 4) (.cons (.var 5) (.cons (.var 6) (.cons (.var 7) (.cons (.lst (.cons (.fld (.var 5) "ranks") .nil)) (.cons (.lst (.cons (.var 0) .nil)) .nil)))))))) (.cons (.par 4 5 {} {} (.mk "Greatest" (.cons (.var 0) (.cons (.var 1) .nil))) (.mkk "Greatest" ["weights", "ranks"] (.cons (.var 1) (.cons (.var 0) .nil)))) (.cons (.par 6 7 {} {} (.and (.cons (.isi (.var 4) (.own "Greatest")) (.cons (.isi (.var 5) (.own "Greatest")) .nil))) (.lst (.cons (.fld (.var 4) "ranks") (.cons (.fld (.var 4) "weights") .nil)))) (.cons (.app 3 {} (.tup (.cons (.var 4) (.cons (.var 5) (.cons (.var 6) (.cons (.var 7) (.cons (.lst (.cons (.fld (.var 5) "ranks") (.cons (.fld (.var 5) "weights") .nil))) (.cons (.lst (.cons (.var 0) (.cons (.var 1) .nil))) .nil)))))))) (.cons (.par 4 5 {} {} (.mk "Derived" (.cons (.var 0) .nil)) (.mkk "Derived" ["numbers"] (.cons (.var 0) .nil))) (.cons (.par 6 7 {} {} (.and (.cons (.isi (.var 4) (.own "Derived")) (.cons (.isi (.var 5) (.own "Derived")) .nil))) (.lst (.cons (.fld (.var 4) "numbers") .nil))) (.cons (.app 3 {} (.tup (.cons (.var 4) (.cons (.var 5) (.cons (.var 6) (.cons (.var 7) (.cons (.lst (.cons (.fld (.var 5) "numbers") .nil)) (.cons (.lst (.cons (.var 0) .nil)) .nil)))))))) (.cons (.par 4 5 {} {} (.mk "Parting" (.cons (.var 0) .nil)) (.mkk "Parting" ["table"] (.cons (.var 0) .nil))) (.cons (.par 6 7 {} {} (.and (.cons (.isi (.var 4) (.own "Parting")) (.cons (.isi (.var 5) (.own "Parting")) .nil))) (.lst (.cons (.fld (.var 4) "table") .nil))) (.cons (.app 3 {} (.tup (.cons (.var 4) (.cons (.var 5) (.cons (.var 6) (.cons (.var 7) (.cons (.lst (.cons (.fld (.var 5) "table") .nil)) (.cons (.lst (.cons (.var 0) .nil)) .nil)))))))) (.cons (.par 4 5 {} {} (.mk "Least" (.cons (.var 0) (.cons (.var 1) .nil))) (.mkk "Least" ["weights", "ranks"] (.cons (.var 1) (.cons (.var 0) .nil)))) (.cons (.par 6 7 {} {} (.and (.cons (.isi (.var 4) (.own "Least")) (.cons (.isi (.var 5) (.own "Least")) .nil))) (.lst (.cons (.fld (.var 4) "ranks") (.cons (.fld (.var 4) "weights") .nil)))) (.cons (.app 3 {} (.tup (.cons (.var 4) (.cons (.var 5) (.cons (.var 6) (.cons (.var 7) (.cons (.lst (.cons (.fld (.var 5) "ranks") (.cons (.fld (.var 5) "weights") .nil))) (.cons (.lst (.cons (.var 0) (.cons (.var 1) .nil))) .nil)))))))) (.cons (.par 4 5 {} {} (.mk "Port" (.cons (.var 0) .nil)) (.mkk "Port" ["ranks"] (.cons (.var 0) .nil))) (.cons (.par 6 7 {} {} (.and (.cons (.isi (.var 4) (.own "Port")) (.cons (.isi (.var 5) (.own "Port")) .nil))) (.lst (.cons (.fld (.var 4) "ranks") .nil))) (.cons (.app 3 {} (.tup (.cons (.var 4) (.cons (.var 5) (.cons (.var 6) (.cons (.var 7) (.cons (.lst (.cons (.fld (.var 5) "ranks") .nil)) (.cons (.lst (.cons (.var 0) .nil)) .nil)))))))) (.cons (.par 4 5 {} {} (.mk "Costly" (.cons (.var 0) .nil)) (.mkk "Costly" ["weights"] (.cons (.var 0) .nil))) (.cons (.par 6 7 {} {} (.and (.cons (.isi (.var 4) (.own "Costly")) (.cons (.isi (.var 5) (.own "Costly")) .nil))) (.lst (.cons (.fld (.var 4) "weights") .nil))) (.cons (.app 3 {} (.tup (.cons (.var 4) (.cons (.var 5) (.cons (.var 6) (.cons (.var 7) (.cons (.lst (.cons (.fld (.var 5) "weights") .nil)) (.cons (.lst (.cons (.var 0) .nil)) .nil)))))))) (.cons (.par 4 5 {} {} (.mk "Drawn" (.cons (.var 0) .nil)) (.mkk "Drawn" ["steps"] (.cons (.var 0) .nil))) (.cons (.par 6 7 {} {} (.and (.cons (.isi (.var 4) (.own "Drawn")) (.cons (.isi (.var 5) (.own "Drawn")) .nil))) (.lst (.cons (.fld (.var 4) "steps") .nil))) (.cons (.app 3 {} (.tup (.cons (.var 4) (.cons (.var 5) (.cons (.var 6) (.cons (.var 7) (.cons (.lst (.cons (.fld (.var 5) "steps") .nil)) (.cons (.lst (.cons (.var 0) .nil)) .nil)))))))) (.cons (.ret (.var 3)) .nil)))))))))))))))))))))))))))))))))))
theorem k__law_made_c : mtSs n__law_made_c (defScope s__law_made_c) m__law_made_c (defBody s__law_made_c) = true := by decide +kernel
theorem c__law_made_c : FnScope n__law_made_c p__law_made_c (defScope s__law_made_c) := ⟨rfl, rfl, rfl, by decide +kernel, rfl, by decide +kernel, by decide +kernel⟩
def n__law_made_d : List Str := ["a", "b", "c", "rows", "one", "two", "kind", "first"]
def p__law_made_d : List Str := ["a", "b", "c"]
def m__law_made_d : Ss := (.cons (.asg 3 { ow := true } (.lst .nil)) (.cons (.par 4 5 {} {} (.mk "Lacking" (.cons (.var 0) .nil)) (.mkk "Lacking" ["rows"] (.cons (.var 0) .nil))) (.cons (.par 6 7 {} {} (.and (.cons (.isi (.var 4) (.own "Lacking")) (.cons (.isi (.var 5) (.own "Lacking")) .nil))) (.lst (.cons (.fld (.var 4) "rows") .nil))) (.cons (.app 3 {} (.tup (.cons (.var 4) (.cons (.var 5) (.cons (.var 6) (.cons (.var 7) (.cons (.lst (.cons (.fld (.var 5) "rows") .nil)) (.cons (.lst (.cons (.var 0) .nil)) .nil)))))))) (.cons (.par 4 5 {} {} (.mk "Even" (.cons (.var 0) .nil)) (.mkk "Even" ["times"] (.cons (.var 0) .nil))) (.cons (.par 6 7 {} {} (.and (.cons (.isi (.var 4) (.own "Even")) (.cons (.isi (.var 5) (.own "Even")) .nil))) (.lst (.cons (.fld (.var 4) "times") .nil))) (.cons (.app 3 {} (.tup (.cons (.var 4) (.cons (.var 5) (.cons (.var 6) (.cons (.var 7) (.cons (.lst (.cons (.fld (.var 5) "times") .nil)) (.cons (.lst (.cons (.var 0) .nil)) .nil)))))))) (.cons (.par 4 5 {} {} (.mk "Uneven" (.cons (.var 0) (.cons (.var 1) (.cons (.var 2) .nil)))) (.mkk "Uneven" ["other", "one", "lot"] (.cons (.var 2) (.cons (.var 1) (.cons (.var 0) .nil))))) (.cons (.par 6 7 {} {} (.and (.cons (.isi (.var 4) (.own "Uneven")) (.cons (.isi (.var 5) (.own "Uneven")) .nil))) (.lst (.cons (.fld (.var 4) "lot") (.cons (.fld (.var 4) "one") (.cons (.fld (.var 4) "other") .nil))))) (.cons (.app 3 {} (.tup (.cons (.var 4) (.cons (.var 5) (.cons (.var 6) (.cons (.var 7) (.cons (.lst (.cons (.fld (.var 5) "lot") (.cons (.fld (.var 5) "one") (.cons (.fld (.var 5) "other") .nil)))) (.cons (.lst (.cons (.var 0) (.cons (.var 1) (.cons (.var 2) .nil)))) .nil)))))))) (.cons (.par 4 5 {} {} (.mk "IsApart" (.cons (.var 0) .nil)) (.mkk "IsApart" ["times"] (.cons (.var 0) .nil))) (.cons (.par 6 7 {} {} (.and (.cons (.isi (.var 4) (.own "IsApart")) (.cons (.isi (.var 5) (.own "IsApart")) .nil))) (.lst (.cons (.fld (.var 4) "times") .nil))) (.cons (.app 3 {} (.tup (.cons (.var 4) (.cons (.var 5) (.cons (.var 6) (.cons (.var 7) (.cons (.lst (.cons (.fld (.var 5) "times") .nil)) (.cons (.lst (.cons (.var 0) .nil)) .nil)))))))) (.cons (.par 4 5 {} {} (.mk "IsTied" (.cons (.var 0) (.cons (.var 1) (.cons (.var 2) .nil)))) (.mkk "IsTied" ["given", "other", "one"] (.cons (.var 2) (.cons (.var 1) (.cons (.var 0) .nil))))) (.cons (.par 6 7 {} {} (.and (.cons (.isi (.var 4) (.own "IsTied")) (.cons (.isi (.var 5) (.own "IsTied")) .nil))) (.lst (.cons (.fld (.var 4) "one") (.cons (.fld (.var 4) "other") (.cons (.fld (.var 4) "given") .nil))))) (.cons (.app 3 {} (.tup (.cons (.var 4) (.cons (.var 5) (.cons (.var 6) (.cons (.var 7) (.cons (.lst (.cons (.fld (.var 5) "one") (.cons (.fld (.var 5) "other") (.cons (.fld (.var 5) "given") .nil)))) (.cons (.lst (.cons (.var 0) (.cons (.var 1) (.cons (.var 2) .nil)))) .nil)))))))) (.cons (.par 4 5 {} {} (.mk "Past" (.cons (.var 0) .nil)) (.mkk "Past" ["way"] (.cons (.var 0) .nil))) (.cons (.par 6 7 {} {} (.and (.cons (.isi (.var 4) (.own "Past")) (.cons (.isi (.var 5) (.own "Past")) .nil))) (.lst (.cons (.fld (.var 4) "way") .nil))) (.cons (.app 3 {} (.tup (.cons (.var 4) (.cons (.var 5) (.cons (.var 6) (.cons (.var 7) (.cons (.lst (.cons (.fld (.var 5) "way") .nil)) (.cons (.lst (.cons (.var 0) .nil)) .nil)))))))) (.cons (.par 4 5 {} {} (.mk "Cut" (.cons (.var 0) .nil)) (.mkk "Cut" ["lot"] (.cons (.var 0) .nil))) (.cons (.par 6 7 {} {} (.and (.cons (.isi (.var 4) (.own "Cut")) (.cons (.isi (.var 5) (.own "Cut")) .nil))) (.lst (.cons (.fld (.var 4) "lot") .nil))) (.cons (.app 3 {} (.tup (.cons (.var 4) (.cons (.var 5) (.cons (.var 6) (.cons (.var 7) (.cons (.lst (.cons (.fld (.var 5) "lot") .nil)) (.cons (.lst (.cons (.var 0) .nil)) .nil)))))))) (.cons (.par 4 5 {} {} (.mk "Hung" (.cons (.var 0) .nil)) (.mkk "Hung" ["parents"] (.cons (.var 0) .nil))) (.cons (.par 6 7 {} {} (.and (.cons (.isi (.var 4) (.own "Hung")) (.cons (.isi (.var 5) (.own "Hung")) .nil))) (.lst (.cons (.fld (.var 4) "parents") .nil))) (.cons (.app 3 {} (.tup (.cons (.var 4) (.cons (.var 5) (.cons (.var 6) (.cons (.var 7) (.cons (.lst (.cons (.fld (.var 5) "parents") .nil)) (.cons (.lst (.cons (.var 0) .nil)) .nil)))))))) (.cons (.par 4 5 {} {} (.mk "Core" (.cons (.var 0) .nil)) (.mkk "Core" ["lot"] (.cons (.var 0) .nil))) (.cons (.par 6 7 {} {} (.and (.cons (.isi (.var 4) (.own "Core")) (.cons (.isi (.var 5) (.own "Core")) .nil))) (.lst (.cons (.fld (.var 4) "lot") .nil))) (.cons (.app 3 {} (.tup (.cons (.var 4) (.cons (.var 5) (.cons (.var 6) (.cons (.var 7) (.cons (.lst (.cons (.fld (.var 5) "lot") .nil)) (.cons (.lst (.cons (.var 0) .nil)) .nil)))))))) (.cons (.ret (.var 3)) .nil)))))))))))))))))))))))))))))
theorem k__law_made_d : mtSs n__law_made_d (defScope s__law_made_d) m__law_made_d (defBody s__law_made_d) = true := by decide +kernel
theorem c__law_made_d : FnScope n__law_made_d p__law_made_d (defScope s__law_made_d) := ⟨rfl, rfl, rfl, by decide +kernel, rfl, by decide +kernel, by decide +kernel⟩
def n__law_value : List Str := ["pen", "some", "k"]
def p__law_value : List Str := ["pen"]
def m__law_value : Ss := (.cons (.asg 1 {} (.lst (.cons (.tup (.cons (.lit (.int 1)) (.cons (.lit (.int 2)) .nil))) (.cons (.lst (.cons (.lit (.int 1)) (.cons (.lst (.cons (.lit (.int 2)) .nil)) .nil))) (.cons (.lst .nil) (.cons (.tup .nil) (.cons (.lit (.str "web")) (.cons (.lit (.int 5)) (.cons (.lit .none) (.cons (.lit (.bool true)) (.cons (.tup (.cons (.tup (.cons (.lit (.int 0)) (.cons (.lit (.int 1)) .nil))) .nil)) (.cons (.lst (.cons (.lst (.cons (.lit (.int 0)) .nil)) (.cons (.lst (.cons (.lit (.int 1)) .nil)) .nil))) (.cons (.dic "a" (.lit (.int 1))) (.cons (.neg (.lit (.int 3))) (.cons (.lit (.str "")) (.cons (.lst (.cons (.lit .none) .nil)) .nil)))))))))))))))) (.cons (.ret (.call "_law_pick" (.cons (.var 0) (.cons (.bin .Add (.var 1) (.lst (.cons (.lc (.v 2) (.rng1 (.lit (.int 3))) .no (.call "_law_draw" (.cons (.var 0) (.cons (.lit (.int 9)) .nil)))) .nil))) .nil)))) .nil))
theorem k__law_value : mtSs n__law_value (defScope s__law_value) m__law_value (defBody s__law_value) = true := by decide +kernel
theorem c__law_value : FnScope n__law_value p__law_value (defScope s__law_value) := ⟨rfl, rfl, rfl, by decide +kernel, rfl, by decide +kernel, by decide +kernel⟩
def n__law_copy : List Str := ["value"]
def p__law_copy : List Str := ["value"]
def m__law_copy : Ss := (.cons (.ret (.ifx (.isi (.var 0) (.ty "list")) (.bi .tuple (.cons (.var 0) .nil)) (.var 0))) .nil)
theorem k__law_copy : mtSs n__law_copy (defScope s__law_copy) m__law_copy (defBody s__law_copy) = true := by decide +kernel
theorem c__law_copy : FnScope n__law_copy p__law_copy (defScope s__law_copy) := ⟨rfl, rfl, rfl, by decide +kernel, rfl, by decide +kernel, by decide +kernel⟩
def n_Sum_init : List Str := ["self", "weights"]
def p_Sum_init : List Str := ["self", "weights"]
def m_Sum_init : Ss := (.cons (.sto "weights" {} (.call "copied" (.cons (.var 1) .nil))) .nil)
theorem k_Sum_init : mtSs n_Sum_init (defScope s_Sum_init) m_Sum_init (defBody s_Sum_init) = true := by decide +kernel
theorem c_Sum_init : FnScope n_Sum_init p_Sum_init (defScope s_Sum_init) := ⟨rfl, rfl, rfl, by decide +kernel, rfl, by decide +kernel, by decide +kernel⟩
def n_Broken_init : List Str := ["self", "ranks"]
def p_Broken_init : List Str := ["self", "ranks"]
def m_Broken_init : Ss := (.cons (.sto "ranks" {} (.call "copied" (.cons (.var 1) .nil))) .nil)
theorem k_Broken_init : mtSs n_Broken_init (defScope s_Broken_init) m_Broken_init (defBody s_Broken_init) = true := by decide +kernel
theorem c_Broken_init : FnScope n_Broken_init p_Broken_init (defScope s_Broken_init) := ⟨rfl, rfl, rfl, by decide +kernel, rfl, by decide +kernel, by decide +kernel⟩
def n_Greatest_init : List Str := ["self", "ranks", "weights"]
def p_Greatest_init : List Str := ["self", "ranks", "weights"]
def m_Greatest_init : Ss := (.cons (.sto "ranks" {} (.call "copied" (.cons (.var 1) .nil))) (.cons (.sto "weights" {} (.call "copied" (.cons (.var 2) .nil))) .nil))
theorem k_Greatest_init : mtSs n_Greatest_init (defScope s_Greatest_init) m_Greatest_init (defBody s_Greatest_init) = true := by decide +kernel
theorem c_Greatest_init : FnScope n_Greatest_init p_Greatest_init (defScope s_Greatest_init) := ⟨rfl, rfl, rfl, by decide +kernel, rfl, by decide +kernel, by decide +kernel⟩
def n_Drawn_init : List Str := ["self", "steps"]
def p_Drawn_init : List Str := ["self", "steps"]
def m_Drawn_init : Ss := (.cons (.sto "steps" {} (.call "copied" (.cons (.var 1) .nil))) .nil)
theorem k_Drawn_init : mtSs n_Drawn_init (defScope s_Drawn_init) m_Drawn_init (defBody s_Drawn_init) = true := by decide +kernel
theorem c_Drawn_init : FnScope n_Drawn_init p_Drawn_init (defScope s_Drawn_init) := ⟨rfl, rfl, rfl, by decide +kernel, rfl, by decide +kernel, by decide +kernel⟩
def n_Lacking_init : List Str := ["self", "rows"]
def p_Lacking_init : List Str := ["self", "rows"]
def m_Lacking_init : Ss := (.cons (.sto "rows" {} (.call "copied" (.cons (.var 1) .nil))) .nil)
theorem k_Lacking_init : mtSs n_Lacking_init (defScope s_Lacking_init) m_Lacking_init (defBody s_Lacking_init) = true := by decide +kernel
theorem c_Lacking_init : FnScope n_Lacking_init p_Lacking_init (defScope s_Lacking_init) := ⟨rfl, rfl, rfl, by decide +kernel, rfl, by decide +kernel, by decide +kernel⟩
def n_Open_init : List Str := ["self", "way"]
def p_Open_init : List Str := ["self", "way"]
def m_Open_init : Ss := (.cons (.sto "way" {} (.call "copied" (.cons (.var 1) .nil))) .nil)
theorem k_Open_init : mtSs n_Open_init (defScope s_Open_init) m_Open_init (defBody s_Open_init) = true := by decide +kernel
theorem c_Open_init : FnScope n_Open_init p_Open_init (defScope s_Open_init) := ⟨rfl, rfl, rfl, by decide +kernel, rfl, by decide +kernel, by decide +kernel⟩
def n_Shut_init : List Str := ["self", "lot"]
def p_Shut_init : List Str := ["self", "lot"]
def m_Shut_init : Ss := (.cons (.sto "lot" {} (.call "copied" (.cons (.var 1) .nil))) .nil)
theorem k_Shut_init : mtSs n_Shut_init (defScope s_Shut_init) m_Shut_init (defBody s_Shut_init) = true := by decide +kernel
theorem c_Shut_init : FnScope n_Shut_init p_Shut_init (defScope s_Shut_init) := ⟨rfl, rfl, rfl, by decide +kernel, rfl, by decide +kernel, by decide +kernel⟩
def n_Turns_init : List Str := ["self", "ties"]
def p_Turns_init : List Str := ["self", "ties"]
def m_Turns_init : Ss := (.cons (.sto "ties" {} (.call "copied" (.cons (.var 1) .nil))) .nil)
theorem k_Turns_init : mtSs n_Turns_init (defScope s_Turns_init) m_Turns_init (defBody s_Turns_init) = true := by decide +kernel
theorem c_Turns_init : FnScope n_Turns_init p_Turns_init (defScope s_Turns_init) := ⟨rfl, rfl, rfl, by decide +kernel, rfl, by decide +kernel, by decide +kernel⟩
def n_Differs_init : List Str := ["self", "statement"]
def p_Differs_init : List Str := ["self", "statement"]
def m_Differs_init : Ss := (.cons (.sto "statement" {} (.call "copied" (.cons (.var 1) .nil))) .nil)
theorem k_Differs_init : mtSs n_Differs_init (defScope s_Differs_init) m_Differs_init (defBody s_Differs_init) = true := by decide +kernel
theorem c_Differs_init : FnScope n_Differs_init p_Differs_init (defScope s_Differs_init) := ⟨rfl, rfl, rfl, by decide +kernel, rfl, by decide +kernel, by decide +kernel⟩
def n_Even_init : List Str := ["self", "times"]
def p_Even_init : List Str := ["self", "times"]
def m_Even_init : Ss := (.cons (.sto "times" {} (.call "copied" (.cons (.var 1) .nil))) .nil)
theorem k_Even_init : mtSs n_Even_init (defScope s_Even_init) m_Even_init (defBody s_Even_init) = true := by decide +kernel
theorem c_Even_init : FnScope n_Even_init p_Even_init (defScope s_Even_init) := ⟨rfl, rfl, rfl, by decide +kernel, rfl, by decide +kernel, by decide +kernel⟩
def n_Uneven_init : List Str := ["self", "lot", "one", "other"]
def p_Uneven_init : List Str := ["self", "lot", "one", "other"]
def m_Uneven_init : Ss := (.cons (.sto "lot" {} (.call "copied" (.cons (.var 1) .nil))) (.cons (.sto "one" {} (.call "copied" (.cons (.var 2) .nil))) (.cons (.sto "other" {} (.call "copied" (.cons (.var 3) .nil))) .nil)))
theorem k_Uneven_init : mtSs n_Uneven_init (defScope s_Uneven_init) m_Uneven_init (defBody s_Uneven_init) = true := by decide +kernel
theorem c_Uneven_init : FnScope n_Uneven_init p_Uneven_init (defScope s_Uneven_init) := ⟨rfl, rfl, rfl, by decide +kernel, rfl, by decide +kernel, by decide +kernel⟩
def n_IsApart_init : List Str := ["self", "times"]
def p_IsApart_init : List Str := ["self", "times"]
def m_IsApart_init : Ss := (.cons (.sto "times" {} (.call "copied" (.cons (.var 1) .nil))) .nil)
theorem k_IsApart_init : mtSs n_IsApart_init (defScope s_IsApart_init) m_IsApart_init (defBody s_IsApart_init) = true := by decide +kernel
theorem c_IsApart_init : FnScope n_IsApart_init p_IsApart_init (defScope s_IsApart_init) := ⟨rfl, rfl, rfl, by decide +kernel, rfl, by decide +kernel, by decide +kernel⟩
def n_IsTied_init : List Str := ["self", "one", "other", "given"]
def p_IsTied_init : List Str := ["self", "one", "other", "given"]
def m_IsTied_init : Ss := (.cons (.sto "one" {} (.call "copied" (.cons (.var 1) .nil))) (.cons (.sto "other" {} (.call "copied" (.cons (.var 2) .nil))) (.cons (.sto "given" {} (.call "copied" (.cons (.var 3) .nil))) .nil)))
theorem k_IsTied_init : mtSs n_IsTied_init (defScope s_IsTied_init) m_IsTied_init (defBody s_IsTied_init) = true := by decide +kernel
theorem c_IsTied_init : FnScope n_IsTied_init p_IsTied_init (defScope s_IsTied_init) := ⟨rfl, rfl, rfl, by decide +kernel, rfl, by decide +kernel, by decide +kernel⟩
def n_Derived_init : List Str := ["self", "numbers"]
def p_Derived_init : List Str := ["self", "numbers"]
def m_Derived_init : Ss := (.cons (.sto "numbers" {} (.call "copied" (.cons (.var 1) .nil))) .nil)
theorem k_Derived_init : mtSs n_Derived_init (defScope s_Derived_init) m_Derived_init (defBody s_Derived_init) = true := by decide +kernel
theorem c_Derived_init : FnScope n_Derived_init p_Derived_init (defScope s_Derived_init) := ⟨rfl, rfl, rfl, by decide +kernel, rfl, by decide +kernel, by decide +kernel⟩
def n_Parting_init : List Str := ["self", "table"]
def p_Parting_init : List Str := ["self", "table"]
def m_Parting_init : Ss := (.cons (.sto "table" {} (.call "copied" (.cons (.var 1) .nil))) .nil)
theorem k_Parting_init : mtSs n_Parting_init (defScope s_Parting_init) m_Parting_init (defBody s_Parting_init) = true := by decide +kernel
theorem c_Parting_init : FnScope n_Parting_init p_Parting_init (defScope s_Parting_init) := ⟨rfl, rfl, rfl, by decide +kernel, rfl, by decide +kernel, by decide +kernel⟩
def n_Chase_init : List Str := ["self", "steps"]
def p_Chase_init : List Str := ["self", "steps"]
def m_Chase_init : Ss := (.cons (.sto "steps" {} (.call "copied" (.cons (.var 1) .nil))) .nil)
theorem k_Chase_init : mtSs n_Chase_init (defScope s_Chase_init) m_Chase_init (defBody s_Chase_init) = true := by decide +kernel
theorem c_Chase_init : FnScope n_Chase_init p_Chase_init (defScope s_Chase_init) := ⟨rfl, rfl, rfl, by decide +kernel, rfl, by decide +kernel, by decide +kernel⟩
def n_Shown_init : List Str := ["self", "many", "rows"]
def p_Shown_init : List Str := ["self", "many", "rows"]
def m_Shown_init : Ss := (.cons (.sto "many" {} (.call "copied" (.cons (.var 1) .nil))) (.cons (.sto "rows" {} (.call "copied" (.cons (.var 2) .nil))) .nil))
theorem k_Shown_init : mtSs n_Shown_init (defScope s_Shown_init) m_Shown_init (defBody s_Shown_init) = true := by decide +kernel
theorem c_Shown_init : FnScope n_Shown_init p_Shown_init (defScope s_Shown_init) := ⟨rfl, rfl, rfl, by decide +kernel, rfl, by decide +kernel, by decide +kernel⟩
def n_Unshown_init : List Str := ["self", "name"]
def p_Unshown_init : List Str := ["self", "name"]
def m_Unshown_init : Ss := (.cons (.sto "name" {} (.call "copied" (.cons (.var 1) .nil))) .nil)
theorem k_Unshown_init : mtSs n_Unshown_init (defScope s_Unshown_init) m_Unshown_init (defBody s_Unshown_init) = true := by decide +kernel
theorem c_Unshown_init : FnScope n_Unshown_init p_Unshown_init (defScope s_Unshown_init) := ⟨rfl, rfl, rfl, by decide +kernel, rfl, by decide +kernel, by decide +kernel⟩
def n_RowSum_init : List Str := ["self", "weights"]
def p_RowSum_init : List Str := ["self", "weights"]
def m_RowSum_init : Ss := (.cons (.sto "weights" {} (.call "copied" (.cons (.var 1) .nil))) .nil)
theorem k_RowSum_init : mtSs n_RowSum_init (defScope s_RowSum_init) m_RowSum_init (defBody s_RowSum_init) = true := by decide +kernel
theorem c_RowSum_init : FnScope n_RowSum_init p_RowSum_init (defScope s_RowSum_init) := ⟨rfl, rfl, rfl, by decide +kernel, rfl, by decide +kernel, by decide +kernel⟩
def n_RowsBreak_init : List Str := ["self", "rows"]
def p_RowsBreak_init : List Str := ["self", "rows"]
def m_RowsBreak_init : Ss := (.cons (.sto "rows" {} (.call "copied" (.cons (.var 1) .nil))) .nil)
theorem k_RowsBreak_init : mtSs n_RowsBreak_init (defScope s_RowsBreak_init) m_RowsBreak_init (defBody s_RowsBreak_init) = true := by decide +kernel
theorem c_RowsBreak_init : FnScope n_RowsBreak_init p_RowsBreak_init (defScope s_RowsBreak_init) := ⟨rfl, rfl, rfl, by decide +kernel, rfl, by decide +kernel, by decide +kernel⟩
def n_Copied_init : List Str := ["self", "weights", "shares"]
def p_Copied_init : List Str := ["self", "weights", "shares"]
def m_Copied_init : Ss := (.cons (.sto "weights" {} (.call "copied" (.cons (.var 1) .nil))) (.cons (.sto "shares" {} (.call "copied" (.cons (.var 2) .nil))) .nil))
theorem k_Copied_init : mtSs n_Copied_init (defScope s_Copied_init) m_Copied_init (defBody s_Copied_init) = true := by decide +kernel
theorem c_Copied_init : FnScope n_Copied_init p_Copied_init (defScope s_Copied_init) := ⟨rfl, rfl, rfl, by decide +kernel, rfl, by decide +kernel, by decide +kernel⟩
def n_Uncopied_init : List Str := ["self", "ranks"]
def p_Uncopied_init : List Str := ["self", "ranks"]
def m_Uncopied_init : Ss := (.cons (.sto "ranks" {} (.call "copied" (.cons (.var 1) .nil))) .nil)
theorem k_Uncopied_init : mtSs n_Uncopied_init (defScope s_Uncopied_init) m_Uncopied_init (defBody s_Uncopied_init) = true := by decide +kernel
theorem c_Uncopied_init : FnScope n_Uncopied_init p_Uncopied_init (defScope s_Uncopied_init) := ⟨rfl, rfl, rfl, by decide +kernel, rfl, by decide +kernel, by decide +kernel⟩
def n_Covers_init : List Str := ["self", "sums"]
def p_Covers_init : List Str := ["self", "sums"]
def m_Covers_init : Ss := (.cons (.sto "sums" {} (.call "copied" (.cons (.var 1) .nil))) .nil)
theorem k_Covers_init : mtSs n_Covers_init (defScope s_Covers_init) m_Covers_init (defBody s_Covers_init) = true := by decide +kernel
theorem c_Covers_init : FnScope n_Covers_init p_Covers_init (defScope s_Covers_init) := ⟨rfl, rfl, rfl, by decide +kernel, rfl, by decide +kernel, by decide +kernel⟩
def n_Uncovered_init : List Str := ["self", "source", "table"]
def p_Uncovered_init : List Str := ["self", "source", "table"]
def m_Uncovered_init : Ss := (.cons (.sto "source" {} (.call "copied" (.cons (.var 1) .nil))) (.cons (.sto "table" {} (.call "copied" (.cons (.var 2) .nil))) .nil))
theorem k_Uncovered_init : mtSs n_Uncovered_init (defScope s_Uncovered_init) m_Uncovered_init (defBody s_Uncovered_init) = true := by decide +kernel
theorem c_Uncovered_init : FnScope n_Uncovered_init p_Uncovered_init (defScope s_Uncovered_init) := ⟨rfl, rfl, rfl, by decide +kernel, rfl, by decide +kernel, by decide +kernel⟩
def n_Minor_init : List Str := ["self", "given", "left", "names"]
def p_Minor_init : List Str := ["self", "given", "left", "names"]
def m_Minor_init : Ss := (.cons (.sto "given" {} (.call "copied" (.cons (.var 1) .nil))) (.cons (.sto "left" {} (.call "copied" (.cons (.var 2) .nil))) (.cons (.sto "names" {} (.call "copied" (.cons (.var 3) .nil))) .nil)))
theorem k_Minor_init : mtSs n_Minor_init (defScope s_Minor_init) m_Minor_init (defBody s_Minor_init) = true := by decide +kernel
theorem c_Minor_init : FnScope n_Minor_init p_Minor_init (defScope s_Minor_init) := ⟨rfl, rfl, rfl, by decide +kernel, rfl, by decide +kernel, by decide +kernel⟩
def n_Over_init : List Str := ["self", "rows"]
def p_Over_init : List Str := ["self", "rows"]
def m_Over_init : Ss := (.cons (.sto "rows" {} (.call "copied" (.cons (.var 1) .nil))) .nil)
theorem k_Over_init : mtSs n_Over_init (defScope s_Over_init) m_Over_init (defBody s_Over_init) = true := by decide +kernel
theorem c_Over_init : FnScope n_Over_init p_Over_init (defScope s_Over_init) := ⟨rfl, rfl, rfl, by decide +kernel, rfl, by decide +kernel, by decide +kernel⟩
def n_Shuts_init : List Str := ["self", "number", "minor"]
def p_Shuts_init : List Str := ["self", "number", "minor"]
def m_Shuts_init : Ss := (.cons (.sto "number" {} (.call "copied" (.cons (.var 1) .nil))) (.cons (.sto "minor" {} (.call "copied" (.cons (.var 2) .nil))) .nil))
theorem k_Shuts_init : mtSs n_Shuts_init (defScope s_Shuts_init) m_Shuts_init (defBody s_Shuts_init) = true := by decide +kernel
theorem c_Shuts_init : FnScope n_Shuts_init p_Shuts_init (defScope s_Shuts_init) := ⟨rfl, rfl, rfl, by decide +kernel, rfl, by decide +kernel, by decide +kernel⟩
def n_GreatestJoin_init : List Str := ["self", "weights", "heights"]
def p_GreatestJoin_init : List Str := ["self", "weights", "heights"]
def m_GreatestJoin_init : Ss := (.cons (.sto "weights" {} (.call "copied" (.cons (.var 1) .nil))) (.cons (.sto "heights" {} (.call "copied" (.cons (.var 2) .nil))) .nil))
theorem k_GreatestJoin_init : mtSs n_GreatestJoin_init (defScope s_GreatestJoin_init) m_GreatestJoin_init (defBody s_GreatestJoin_init) = true := by decide +kernel
theorem c_GreatestJoin_init : FnScope n_GreatestJoin_init p_GreatestJoin_init (defScope s_GreatestJoin_init) := ⟨rfl, rfl, rfl, by decide +kernel, rfl, by decide +kernel, by decide +kernel⟩
def n_Limited_init : List Str := ["self", "weights", "heights"]
def p_Limited_init : List Str := ["self", "weights", "heights"]
def m_Limited_init : Ss := (.cons (.sto "weights" {} (.call "copied" (.cons (.var 1) .nil))) (.cons (.sto "heights" {} (.call "copied" (.cons (.var 2) .nil))) .nil))
theorem k_Limited_init : mtSs n_Limited_init (defScope s_Limited_init) m_Limited_init (defBody s_Limited_init) = true := by decide +kernel
theorem c_Limited_init : FnScope n_Limited_init p_Limited_init (defScope s_Limited_init) := ⟨rfl, rfl, rfl, by decide +kernel, rfl, by decide +kernel, by decide +kernel⟩
def n_Endless_init : List Str := ["self", "source"]
def p_Endless_init : List Str := ["self", "source"]
def m_Endless_init : Ss := (.cons (.sto "source" {} (.call "copied" (.cons (.var 1) .nil))) .nil)
theorem k_Endless_init : mtSs n_Endless_init (defScope s_Endless_init) m_Endless_init (defBody s_Endless_init) = true := by decide +kernel
theorem c_Endless_init : FnScope n_Endless_init p_Endless_init (defScope s_Endless_init) := ⟨rfl, rfl, rfl, by decide +kernel, rfl, by decide +kernel, by decide +kernel⟩
def n_Least_init : List Str := ["self", "ranks", "weights"]
def p_Least_init : List Str := ["self", "ranks", "weights"]
def m_Least_init : Ss := (.cons (.sto "ranks" {} (.call "copied" (.cons (.var 1) .nil))) (.cons (.sto "weights" {} (.call "copied" (.cons (.var 2) .nil))) .nil))
theorem k_Least_init : mtSs n_Least_init (defScope s_Least_init) m_Least_init (defBody s_Least_init) = true := by decide +kernel
theorem c_Least_init : FnScope n_Least_init p_Least_init (defScope s_Least_init) := ⟨rfl, rfl, rfl, by decide +kernel, rfl, by decide +kernel, by decide +kernel⟩
def n_Port_init : List Str := ["self", "ranks"]
def p_Port_init : List Str := ["self", "ranks"]
def m_Port_init : Ss := (.cons (.sto "ranks" {} (.call "copied" (.cons (.var 1) .nil))) .nil)
theorem k_Port_init : mtSs n_Port_init (defScope s_Port_init) m_Port_init (defBody s_Port_init) = true := by decide +kernel
theorem c_Port_init : FnScope n_Port_init p_Port_init (defScope s_Port_init) := ⟨rfl, rfl, rfl, by decide +kernel, rfl, by decide +kernel, by decide +kernel⟩
def n_Costly_init : List Str := ["self", "weights"]
def p_Costly_init : List Str := ["self", "weights"]
def m_Costly_init : Ss := (.cons (.sto "weights" {} (.call "copied" (.cons (.var 1) .nil))) .nil)
theorem k_Costly_init : mtSs n_Costly_init (defScope s_Costly_init) m_Costly_init (defBody s_Costly_init) = true := by decide +kernel
theorem c_Costly_init : FnScope n_Costly_init p_Costly_init (defScope s_Costly_init) := ⟨rfl, rfl, rfl, by decide +kernel, rfl, by decide +kernel, by decide +kernel⟩
def n_Both_init : List Str := ["self", "lot", "part"]
def p_Both_init : List Str := ["self", "lot", "part"]
def m_Both_init : Ss := (.cons (.sto "lot" {} (.call "copied" (.cons (.var 1) .nil))) (.cons (.sto "part" {} (.call "copied" (.cons (.var 2) .nil))) .nil))
theorem k_Both_init : mtSs n_Both_init (defScope s_Both_init) m_Both_init (defBody s_Both_init) = true := by decide +kernel
theorem c_Both_init : FnScope n_Both_init p_Both_init (defScope s_Both_init) := ⟨rfl, rfl, rfl, by decide +kernel, rfl, by decide +kernel, by decide +kernel⟩
def n_Heaviest_init : List Str := ["self", "lot", "drops"]
def p_Heaviest_init : List Str := ["self", "lot", "drops"]
def m_Heaviest_init : Ss := (.cons (.sto "lot" {} (.call "copied" (.cons (.var 1) .nil))) (.cons (.sto "drops" {} (.call "copied" (.cons (.var 2) .nil))) .nil))
theorem k_Heaviest_init : mtSs n_Heaviest_init (defScope s_Heaviest_init) m_Heaviest_init (defBody s_Heaviest_init) = true := by decide +kernel
theorem c_Heaviest_init : FnScope n_Heaviest_init p_Heaviest_init (defScope s_Heaviest_init) := ⟨rfl, rfl, rfl, by decide +kernel, rfl, by decide +kernel, by decide +kernel⟩
def n_Flow_init : List Str := ["self", "ways", "lot"]
def p_Flow_init : List Str := ["self", "ways", "lot"]
def m_Flow_init : Ss := (.cons (.sto "ways" {} (.call "copied" (.cons (.var 1) .nil))) (.cons (.sto "lot" {} (.call "copied" (.cons (.var 2) .nil))) .nil))
theorem k_Flow_init : mtSs n_Flow_init (defScope s_Flow_init) m_Flow_init (defBody s_Flow_init) = true := by decide +kernel
theorem c_Flow_init : FnScope n_Flow_init p_Flow_init (defScope s_Flow_init) := ⟨rfl, rfl, rfl, by decide +kernel, rfl, by decide +kernel, by decide +kernel⟩
def n_Code_init : List Str := ["self", "rows"]
def p_Code_init : List Str := ["self", "rows"]
def m_Code_init : Ss := (.cons (.sto "rows" {} (.call "copied" (.cons (.var 1) .nil))) .nil)
theorem k_Code_init : mtSs n_Code_init (defScope s_Code_init) m_Code_init (defBody s_Code_init) = true := by decide +kernel
theorem c_Code_init : FnScope n_Code_init p_Code_init (defScope s_Code_init) := ⟨rfl, rfl, rfl, by decide +kernel, rfl, by decide +kernel, by decide +kernel⟩
def n_Narrow_init : List Str := ["self", "sink", "lot"]
def p_Narrow_init : List Str := ["self", "sink", "lot"]
def m_Narrow_init : Ss := (.cons (.sto "sink" {} (.call "copied" (.cons (.var 1) .nil))) (.cons (.sto "lot" {} (.call "copied" (.cons (.var 2) .nil))) .nil))
theorem k_Narrow_init : mtSs n_Narrow_init (defScope s_Narrow_init) m_Narrow_init (defBody s_Narrow_init) = true := by decide +kernel
theorem c_Narrow_init : FnScope n_Narrow_init p_Narrow_init (defScope s_Narrow_init) := ⟨rfl, rfl, rfl, by decide +kernel, rfl, by decide +kernel, by decide +kernel⟩
def n_Past_init : List Str := ["self", "way"]
def p_Past_init : List Str := ["self", "way"]
def m_Past_init : Ss := (.cons (.sto "way" {} (.call "copied" (.cons (.var 1) .nil))) .nil)
theorem k_Past_init : mtSs n_Past_init (defScope s_Past_init) m_Past_init (defBody s_Past_init) = true := by decide +kernel
theorem c_Past_init : FnScope n_Past_init p_Past_init (defScope s_Past_init) := ⟨rfl, rfl, rfl, by decide +kernel, rfl, by decide +kernel, by decide +kernel⟩
def n_Cut_init : List Str := ["self", "lot"]
def p_Cut_init : List Str := ["self", "lot"]
def m_Cut_init : Ss := (.cons (.sto "lot" {} (.call "copied" (.cons (.var 1) .nil))) .nil)
theorem k_Cut_init : mtSs n_Cut_init (defScope s_Cut_init) m_Cut_init (defBody s_Cut_init) = true := by decide +kernel
theorem c_Cut_init : FnScope n_Cut_init p_Cut_init (defScope s_Cut_init) := ⟨rfl, rfl, rfl, by decide +kernel, rfl, by decide +kernel, by decide +kernel⟩
def n_Hung_init : List Str := ["self", "parents"]
def p_Hung_init : List Str := ["self", "parents"]
def m_Hung_init : Ss := (.cons (.sto "parents" {} (.call "copied" (.cons (.var 1) .nil))) .nil)
theorem k_Hung_init : mtSs n_Hung_init (defScope s_Hung_init) m_Hung_init (defBody s_Hung_init) = true := by decide +kernel
theorem c_Hung_init : FnScope n_Hung_init p_Hung_init (defScope s_Hung_init) := ⟨rfl, rfl, rfl, by decide +kernel, rfl, by decide +kernel, by decide +kernel⟩
def n_Core_init : List Str := ["self", "lot"]
def p_Core_init : List Str := ["self", "lot"]
def m_Core_init : Ss := (.cons (.sto "lot" {} (.call "copied" (.cons (.var 1) .nil))) .nil)
theorem k_Core_init : mtSs n_Core_init (defScope s_Core_init) m_Core_init (defBody s_Core_init) = true := by decide +kernel
theorem c_Core_init : FnScope n_Core_init p_Core_init (defScope s_Core_init) := ⟨rfl, rfl, rfl, by decide +kernel, rfl, by decide +kernel, by decide +kernel⟩
end Mk
set_option Elab.async false
set_option linter.all false
set_option maxRecDepth 100000
set_option maxHeartbeats 2000000
/-! Chain: what each def is worth, level by level (printed by chain.py). -/
namespace Mk
open PySem PySem.Spec PyProof.Rows L2 Mp
theorem hp0 : pt0 ∈ ptA := List.mem_cons_self
theorem hp1 : pt1 ∈ ptA := (List.mem_cons_of_mem _ List.mem_cons_self)
theorem hp2 : pt2 ∈ ptA := (List.mem_cons_of_mem _ (List.mem_cons_of_mem _ List.mem_cons_self))
theorem hp3 : pt3 ∈ ptA := (List.mem_cons_of_mem _ (List.mem_cons_of_mem _ (List.mem_cons_of_mem _ List.mem_cons_self)))
section
variable {P : Program} {w : World} {C : Rc} {base : Heap}
abbrev Base (C : Rc) (base : Heap) : Prop := C.K.In base ∧ base.Ns mainGlobals C.mg ∧ ∀ p ∈ ptA, SaysM p C.K
theorem g_copied (b : Base C base) : C.mg "copied" = some (.ref (He.ga C.K "copied")) := He.glo_ok b.1 b.2.1 ((b.2.2 pt0 hp0).d.fact 0 rfl)
theorem g__law_pen (b : Base C base) : C.mg "_law_pen" = some (.ref (He.ga C.K "_law_pen")) := He.glo_ok b.1 b.2.1 ((b.2.2 pt0 hp0).d.fact 1 rfl)
theorem g__law_draw (b : Base C base) : C.mg "_law_draw" = some (.ref (He.ga C.K "_law_draw")) := He.glo_ok b.1 b.2.1 ((b.2.2 pt0 hp0).d.fact 2 rfl)
theorem g__law_pick (b : Base C base) : C.mg "_law_pick" = some (.ref (He.ga C.K "_law_pick")) := He.glo_ok b.1 b.2.1 ((b.2.2 pt0 hp0).d.fact 3 rfl)
theorem g__law_made_a (b : Base C base) : C.mg "_law_made_a" = some (.ref (He.ga C.K "_law_made_a")) := He.glo_ok b.1 b.2.1 ((b.2.2 pt0 hp0).d.fact 4 rfl)
theorem g__law_made_b (b : Base C base) : C.mg "_law_made_b" = some (.ref (He.ga C.K "_law_made_b")) := He.glo_ok b.1 b.2.1 ((b.2.2 pt0 hp0).d.fact 5 rfl)
theorem g__law_made_c (b : Base C base) : C.mg "_law_made_c" = some (.ref (He.ga C.K "_law_made_c")) := He.glo_ok b.1 b.2.1 ((b.2.2 pt0 hp0).d.fact 6 rfl)
theorem g__law_made_d (b : Base C base) : C.mg "_law_made_d" = some (.ref (He.ga C.K "_law_made_d")) := He.glo_ok b.1 b.2.1 ((b.2.2 pt0 hp0).d.fact 7 rfl)
theorem g__law_value (b : Base C base) : C.mg "_law_value" = some (.ref (He.ga C.K "_law_value")) := He.glo_ok b.1 b.2.1 ((b.2.2 pt0 hp0).d.fact 8 rfl)
theorem g__law_copy (b : Base C base) : C.mg "_law_copy" = some (.ref (He.ga C.K "_law_copy")) := He.glo_ok b.1 b.2.1 ((b.2.2 pt0 hp0).d.fact 9 rfl)
theorem g_law (b : Base C base) : C.mg "law" = some (.ref (He.ga C.K "law")) := He.glo_ok b.1 b.2.1 ((b.2.2 pt0 hp0).d.fact 10 rfl)
theorem g_Sum (b : Base C base) : C.mg "Sum" = some (.ref (He.ga C.K "Sum")) := He.glo_ok b.1 b.2.1 ((b.2.2 pt1 hp1).d.fact 0 rfl)
theorem g_Broken (b : Base C base) : C.mg "Broken" = some (.ref (He.ga C.K "Broken")) := He.glo_ok b.1 b.2.1 ((b.2.2 pt1 hp1).d.fact 4 rfl)
theorem g_Greatest (b : Base C base) : C.mg "Greatest" = some (.ref (He.ga C.K "Greatest")) := He.glo_ok b.1 b.2.1 ((b.2.2 pt1 hp1).d.fact 8 rfl)
theorem g_Drawn (b : Base C base) : C.mg "Drawn" = some (.ref (He.ga C.K "Drawn")) := He.glo_ok b.1 b.2.1 ((b.2.2 pt1 hp1).d.fact 13 rfl)
theorem g_Lacking (b : Base C base) : C.mg "Lacking" = some (.ref (He.ga C.K "Lacking")) := He.glo_ok b.1 b.2.1 ((b.2.2 pt1 hp1).d.fact 17 rfl)
theorem g_Open (b : Base C base) : C.mg "Open" = some (.ref (He.ga C.K "Open")) := He.glo_ok b.1 b.2.1 ((b.2.2 pt1 hp1).d.fact 21 rfl)
theorem g_Shut (b : Base C base) : C.mg "Shut" = some (.ref (He.ga C.K "Shut")) := He.glo_ok b.1 b.2.1 ((b.2.2 pt1 hp1).d.fact 25 rfl)
theorem g_Turns (b : Base C base) : C.mg "Turns" = some (.ref (He.ga C.K "Turns")) := He.glo_ok b.1 b.2.1 ((b.2.2 pt1 hp1).d.fact 29 rfl)
theorem g_Differs (b : Base C base) : C.mg "Differs" = some (.ref (He.ga C.K "Differs")) := He.glo_ok b.1 b.2.1 ((b.2.2 pt1 hp1).d.fact 33 rfl)
theorem g_Even (b : Base C base) : C.mg "Even" = some (.ref (He.ga C.K "Even")) := He.glo_ok b.1 b.2.1 ((b.2.2 pt1 hp1).d.fact 37 rfl)
theorem g_Uneven (b : Base C base) : C.mg "Uneven" = some (.ref (He.ga C.K "Uneven")) := He.glo_ok b.1 b.2.1 ((b.2.2 pt1 hp1).d.fact 41 rfl)
theorem g_IsApart (b : Base C base) : C.mg "IsApart" = some (.ref (He.ga C.K "IsApart")) := He.glo_ok b.1 b.2.1 ((b.2.2 pt1 hp1).d.fact 47 rfl)
theorem g_IsTied (b : Base C base) : C.mg "IsTied" = some (.ref (He.ga C.K "IsTied")) := He.glo_ok b.1 b.2.1 ((b.2.2 pt1 hp1).d.fact 51 rfl)
theorem g_Derived (b : Base C base) : C.mg "Derived" = some (.ref (He.ga C.K "Derived")) := He.glo_ok b.1 b.2.1 ((b.2.2 pt1 hp1).d.fact 57 rfl)
theorem g_Parting (b : Base C base) : C.mg "Parting" = some (.ref (He.ga C.K "Parting")) := He.glo_ok b.1 b.2.1 ((b.2.2 pt2 hp2).d.fact 0 rfl)
theorem g_Chase (b : Base C base) : C.mg "Chase" = some (.ref (He.ga C.K "Chase")) := He.glo_ok b.1 b.2.1 ((b.2.2 pt2 hp2).d.fact 4 rfl)
theorem g_Shown (b : Base C base) : C.mg "Shown" = some (.ref (He.ga C.K "Shown")) := He.glo_ok b.1 b.2.1 ((b.2.2 pt2 hp2).d.fact 8 rfl)
theorem g_Unshown (b : Base C base) : C.mg "Unshown" = some (.ref (He.ga C.K "Unshown")) := He.glo_ok b.1 b.2.1 ((b.2.2 pt2 hp2).d.fact 13 rfl)
theorem g_RowSum (b : Base C base) : C.mg "RowSum" = some (.ref (He.ga C.K "RowSum")) := He.glo_ok b.1 b.2.1 ((b.2.2 pt2 hp2).d.fact 17 rfl)
theorem g_RowsBreak (b : Base C base) : C.mg "RowsBreak" = some (.ref (He.ga C.K "RowsBreak")) := He.glo_ok b.1 b.2.1 ((b.2.2 pt2 hp2).d.fact 21 rfl)
theorem g_Copied (b : Base C base) : C.mg "Copied" = some (.ref (He.ga C.K "Copied")) := He.glo_ok b.1 b.2.1 ((b.2.2 pt2 hp2).d.fact 25 rfl)
theorem g_Uncopied (b : Base C base) : C.mg "Uncopied" = some (.ref (He.ga C.K "Uncopied")) := He.glo_ok b.1 b.2.1 ((b.2.2 pt2 hp2).d.fact 30 rfl)
theorem g_Covers (b : Base C base) : C.mg "Covers" = some (.ref (He.ga C.K "Covers")) := He.glo_ok b.1 b.2.1 ((b.2.2 pt2 hp2).d.fact 34 rfl)
theorem g_Uncovered (b : Base C base) : C.mg "Uncovered" = some (.ref (He.ga C.K "Uncovered")) := He.glo_ok b.1 b.2.1 ((b.2.2 pt2 hp2).d.fact 38 rfl)
theorem g_Minor (b : Base C base) : C.mg "Minor" = some (.ref (He.ga C.K "Minor")) := He.glo_ok b.1 b.2.1 ((b.2.2 pt2 hp2).d.fact 43 rfl)
theorem g_Over (b : Base C base) : C.mg "Over" = some (.ref (He.ga C.K "Over")) := He.glo_ok b.1 b.2.1 ((b.2.2 pt2 hp2).d.fact 49 rfl)
theorem g_Shuts (b : Base C base) : C.mg "Shuts" = some (.ref (He.ga C.K "Shuts")) := He.glo_ok b.1 b.2.1 ((b.2.2 pt2 hp2).d.fact 53 rfl)
theorem g_GreatestJoin (b : Base C base) : C.mg "GreatestJoin" = some (.ref (He.ga C.K "GreatestJoin")) := He.glo_ok b.1 b.2.1 ((b.2.2 pt2 hp2).d.fact 58 rfl)
theorem g_Limited (b : Base C base) : C.mg "Limited" = some (.ref (He.ga C.K "Limited")) := He.glo_ok b.1 b.2.1 ((b.2.2 pt3 hp3).d.fact 0 rfl)
theorem g_Endless (b : Base C base) : C.mg "Endless" = some (.ref (He.ga C.K "Endless")) := He.glo_ok b.1 b.2.1 ((b.2.2 pt3 hp3).d.fact 5 rfl)
theorem g_Least (b : Base C base) : C.mg "Least" = some (.ref (He.ga C.K "Least")) := He.glo_ok b.1 b.2.1 ((b.2.2 pt3 hp3).d.fact 9 rfl)
theorem g_Port (b : Base C base) : C.mg "Port" = some (.ref (He.ga C.K "Port")) := He.glo_ok b.1 b.2.1 ((b.2.2 pt3 hp3).d.fact 14 rfl)
theorem g_Costly (b : Base C base) : C.mg "Costly" = some (.ref (He.ga C.K "Costly")) := He.glo_ok b.1 b.2.1 ((b.2.2 pt3 hp3).d.fact 18 rfl)
theorem g_Both (b : Base C base) : C.mg "Both" = some (.ref (He.ga C.K "Both")) := He.glo_ok b.1 b.2.1 ((b.2.2 pt3 hp3).d.fact 22 rfl)
theorem g_Heaviest (b : Base C base) : C.mg "Heaviest" = some (.ref (He.ga C.K "Heaviest")) := He.glo_ok b.1 b.2.1 ((b.2.2 pt3 hp3).d.fact 27 rfl)
theorem g_Flow (b : Base C base) : C.mg "Flow" = some (.ref (He.ga C.K "Flow")) := He.glo_ok b.1 b.2.1 ((b.2.2 pt3 hp3).d.fact 32 rfl)
theorem g_Code (b : Base C base) : C.mg "Code" = some (.ref (He.ga C.K "Code")) := He.glo_ok b.1 b.2.1 ((b.2.2 pt3 hp3).d.fact 37 rfl)
theorem g_Narrow (b : Base C base) : C.mg "Narrow" = some (.ref (He.ga C.K "Narrow")) := He.glo_ok b.1 b.2.1 ((b.2.2 pt3 hp3).d.fact 41 rfl)
theorem g_Past (b : Base C base) : C.mg "Past" = some (.ref (He.ga C.K "Past")) := He.glo_ok b.1 b.2.1 ((b.2.2 pt3 hp3).d.fact 46 rfl)
theorem g_Cut (b : Base C base) : C.mg "Cut" = some (.ref (He.ga C.K "Cut")) := He.glo_ok b.1 b.2.1 ((b.2.2 pt3 hp3).d.fact 50 rfl)
theorem g_Hung (b : Base C base) : C.mg "Hung" = some (.ref (He.ga C.K "Hung")) := He.glo_ok b.1 b.2.1 ((b.2.2 pt3 hp3).d.fact 54 rfl)
theorem g_Core (b : Base C base) : C.mg "Core" = some (.ref (He.ga C.K "Core")) := He.glo_ok b.1 b.2.1 ((b.2.2 pt3 hp3).d.fact 58 rfl)
theorem F_copied (b : Base C base) : ∃ fd, FunD C.K "copied" "copied" (defArgs s_copied) (defBody s_copied) (defScope s_copied) [] [] (He.fAd C.K d_copied.at_) fd := (b.2.2 pt0 hp0).d.def_ 0 rfl
theorem F__law_pen (b : Base C base) : ∃ fd, FunD C.K "_law_pen" "_law_pen" (defArgs s__law_pen) (defBody s__law_pen) (defScope s__law_pen) [] [] (He.fAd C.K d__law_pen.at_) fd := (b.2.2 pt0 hp0).d.def_ 1 rfl
theorem F__law_draw (b : Base C base) : ∃ fd, FunD C.K "_law_draw" "_law_draw" (defArgs s__law_draw) (defBody s__law_draw) (defScope s__law_draw) [] [] (He.fAd C.K d__law_draw.at_) fd := (b.2.2 pt0 hp0).d.def_ 2 rfl
theorem F__law_pick (b : Base C base) : ∃ fd, FunD C.K "_law_pick" "_law_pick" (defArgs s__law_pick) (defBody s__law_pick) (defScope s__law_pick) [] [] (He.fAd C.K d__law_pick.at_) fd := (b.2.2 pt0 hp0).d.def_ 3 rfl
theorem F__law_made_a (b : Base C base) : ∃ fd, FunD C.K "_law_made_a" "_law_made_a" (defArgs s__law_made_a) (defBody s__law_made_a) (defScope s__law_made_a) [] [] (He.fAd C.K d__law_made_a.at_) fd := (b.2.2 pt0 hp0).d.def_ 4 rfl
theorem F__law_made_b (b : Base C base) : ∃ fd, FunD C.K "_law_made_b" "_law_made_b" (defArgs s__law_made_b) (defBody s__law_made_b) (defScope s__law_made_b) [] [] (He.fAd C.K d__law_made_b.at_) fd := (b.2.2 pt0 hp0).d.def_ 5 rfl
theorem F__law_made_c (b : Base C base) : ∃ fd, FunD C.K "_law_made_c" "_law_made_c" (defArgs s__law_made_c) (defBody s__law_made_c) (defScope s__law_made_c) [] [] (He.fAd C.K d__law_made_c.at_) fd := (b.2.2 pt0 hp0).d.def_ 6 rfl
theorem F__law_made_d (b : Base C base) : ∃ fd, FunD C.K "_law_made_d" "_law_made_d" (defArgs s__law_made_d) (defBody s__law_made_d) (defScope s__law_made_d) [] [] (He.fAd C.K d__law_made_d.at_) fd := (b.2.2 pt0 hp0).d.def_ 7 rfl
theorem F__law_value (b : Base C base) : ∃ fd, FunD C.K "_law_value" "_law_value" (defArgs s__law_value) (defBody s__law_value) (defScope s__law_value) [] [] (He.fAd C.K d__law_value.at_) fd := (b.2.2 pt0 hp0).d.def_ 8 rfl
theorem F__law_copy (b : Base C base) : ∃ fd, FunD C.K "_law_copy" "_law_copy" (defArgs s__law_copy) (defBody s__law_copy) (defScope s__law_copy) [] [] (He.fAd C.K d__law_copy.at_) fd := (b.2.2 pt0 hp0).d.def_ 9 rfl
theorem F_law (b : Base C base) : ∃ fd, FunD C.K "law" "law" (defArgs s_law) (defBody s_law) (defScope s_law) [] [] (He.fAd C.K d_law.at_) fd := (b.2.2 pt0 hp0).d.def_ 10 rfl
theorem F_Sum_init (b : Base C base) : ∃ fd, FunD C.K "__init__" "Sum.__init__" (defArgs s_Sum_init) (defBody s_Sum_init) (defScope s_Sum_init) [] [] (He.fAd C.K d_Sum_init.at_) fd := (b.2.2 pt1 hp1).d.def_ 0 rfl
theorem F_Broken_init (b : Base C base) : ∃ fd, FunD C.K "__init__" "Broken.__init__" (defArgs s_Broken_init) (defBody s_Broken_init) (defScope s_Broken_init) [] [] (He.fAd C.K d_Broken_init.at_) fd := (b.2.2 pt1 hp1).d.def_ 1 rfl
theorem F_Greatest_init (b : Base C base) : ∃ fd, FunD C.K "__init__" "Greatest.__init__" (defArgs s_Greatest_init) (defBody s_Greatest_init) (defScope s_Greatest_init) [] [] (He.fAd C.K d_Greatest_init.at_) fd := (b.2.2 pt1 hp1).d.def_ 2 rfl
theorem F_Drawn_init (b : Base C base) : ∃ fd, FunD C.K "__init__" "Drawn.__init__" (defArgs s_Drawn_init) (defBody s_Drawn_init) (defScope s_Drawn_init) [] [] (He.fAd C.K d_Drawn_init.at_) fd := (b.2.2 pt1 hp1).d.def_ 3 rfl
theorem F_Lacking_init (b : Base C base) : ∃ fd, FunD C.K "__init__" "Lacking.__init__" (defArgs s_Lacking_init) (defBody s_Lacking_init) (defScope s_Lacking_init) [] [] (He.fAd C.K d_Lacking_init.at_) fd := (b.2.2 pt1 hp1).d.def_ 4 rfl
theorem F_Open_init (b : Base C base) : ∃ fd, FunD C.K "__init__" "Open.__init__" (defArgs s_Open_init) (defBody s_Open_init) (defScope s_Open_init) [] [] (He.fAd C.K d_Open_init.at_) fd := (b.2.2 pt1 hp1).d.def_ 5 rfl
theorem F_Shut_init (b : Base C base) : ∃ fd, FunD C.K "__init__" "Shut.__init__" (defArgs s_Shut_init) (defBody s_Shut_init) (defScope s_Shut_init) [] [] (He.fAd C.K d_Shut_init.at_) fd := (b.2.2 pt1 hp1).d.def_ 6 rfl
theorem F_Turns_init (b : Base C base) : ∃ fd, FunD C.K "__init__" "Turns.__init__" (defArgs s_Turns_init) (defBody s_Turns_init) (defScope s_Turns_init) [] [] (He.fAd C.K d_Turns_init.at_) fd := (b.2.2 pt1 hp1).d.def_ 7 rfl
theorem F_Differs_init (b : Base C base) : ∃ fd, FunD C.K "__init__" "Differs.__init__" (defArgs s_Differs_init) (defBody s_Differs_init) (defScope s_Differs_init) [] [] (He.fAd C.K d_Differs_init.at_) fd := (b.2.2 pt1 hp1).d.def_ 8 rfl
theorem F_Even_init (b : Base C base) : ∃ fd, FunD C.K "__init__" "Even.__init__" (defArgs s_Even_init) (defBody s_Even_init) (defScope s_Even_init) [] [] (He.fAd C.K d_Even_init.at_) fd := (b.2.2 pt1 hp1).d.def_ 9 rfl
theorem F_Uneven_init (b : Base C base) : ∃ fd, FunD C.K "__init__" "Uneven.__init__" (defArgs s_Uneven_init) (defBody s_Uneven_init) (defScope s_Uneven_init) [] [] (He.fAd C.K d_Uneven_init.at_) fd := (b.2.2 pt1 hp1).d.def_ 10 rfl
theorem F_IsApart_init (b : Base C base) : ∃ fd, FunD C.K "__init__" "IsApart.__init__" (defArgs s_IsApart_init) (defBody s_IsApart_init) (defScope s_IsApart_init) [] [] (He.fAd C.K d_IsApart_init.at_) fd := (b.2.2 pt1 hp1).d.def_ 11 rfl
theorem F_IsTied_init (b : Base C base) : ∃ fd, FunD C.K "__init__" "IsTied.__init__" (defArgs s_IsTied_init) (defBody s_IsTied_init) (defScope s_IsTied_init) [] [] (He.fAd C.K d_IsTied_init.at_) fd := (b.2.2 pt1 hp1).d.def_ 12 rfl
theorem F_Derived_init (b : Base C base) : ∃ fd, FunD C.K "__init__" "Derived.__init__" (defArgs s_Derived_init) (defBody s_Derived_init) (defScope s_Derived_init) [] [] (He.fAd C.K d_Derived_init.at_) fd := (b.2.2 pt1 hp1).d.def_ 13 rfl
theorem F_Parting_init (b : Base C base) : ∃ fd, FunD C.K "__init__" "Parting.__init__" (defArgs s_Parting_init) (defBody s_Parting_init) (defScope s_Parting_init) [] [] (He.fAd C.K d_Parting_init.at_) fd := (b.2.2 pt2 hp2).d.def_ 0 rfl
theorem F_Chase_init (b : Base C base) : ∃ fd, FunD C.K "__init__" "Chase.__init__" (defArgs s_Chase_init) (defBody s_Chase_init) (defScope s_Chase_init) [] [] (He.fAd C.K d_Chase_init.at_) fd := (b.2.2 pt2 hp2).d.def_ 1 rfl
theorem F_Shown_init (b : Base C base) : ∃ fd, FunD C.K "__init__" "Shown.__init__" (defArgs s_Shown_init) (defBody s_Shown_init) (defScope s_Shown_init) [] [] (He.fAd C.K d_Shown_init.at_) fd := (b.2.2 pt2 hp2).d.def_ 2 rfl
theorem F_Unshown_init (b : Base C base) : ∃ fd, FunD C.K "__init__" "Unshown.__init__" (defArgs s_Unshown_init) (defBody s_Unshown_init) (defScope s_Unshown_init) [] [] (He.fAd C.K d_Unshown_init.at_) fd := (b.2.2 pt2 hp2).d.def_ 3 rfl
theorem F_RowSum_init (b : Base C base) : ∃ fd, FunD C.K "__init__" "RowSum.__init__" (defArgs s_RowSum_init) (defBody s_RowSum_init) (defScope s_RowSum_init) [] [] (He.fAd C.K d_RowSum_init.at_) fd := (b.2.2 pt2 hp2).d.def_ 4 rfl
theorem F_RowsBreak_init (b : Base C base) : ∃ fd, FunD C.K "__init__" "RowsBreak.__init__" (defArgs s_RowsBreak_init) (defBody s_RowsBreak_init) (defScope s_RowsBreak_init) [] [] (He.fAd C.K d_RowsBreak_init.at_) fd := (b.2.2 pt2 hp2).d.def_ 5 rfl
theorem F_Copied_init (b : Base C base) : ∃ fd, FunD C.K "__init__" "Copied.__init__" (defArgs s_Copied_init) (defBody s_Copied_init) (defScope s_Copied_init) [] [] (He.fAd C.K d_Copied_init.at_) fd := (b.2.2 pt2 hp2).d.def_ 6 rfl
theorem F_Uncopied_init (b : Base C base) : ∃ fd, FunD C.K "__init__" "Uncopied.__init__" (defArgs s_Uncopied_init) (defBody s_Uncopied_init) (defScope s_Uncopied_init) [] [] (He.fAd C.K d_Uncopied_init.at_) fd := (b.2.2 pt2 hp2).d.def_ 7 rfl
theorem F_Covers_init (b : Base C base) : ∃ fd, FunD C.K "__init__" "Covers.__init__" (defArgs s_Covers_init) (defBody s_Covers_init) (defScope s_Covers_init) [] [] (He.fAd C.K d_Covers_init.at_) fd := (b.2.2 pt2 hp2).d.def_ 8 rfl
theorem F_Uncovered_init (b : Base C base) : ∃ fd, FunD C.K "__init__" "Uncovered.__init__" (defArgs s_Uncovered_init) (defBody s_Uncovered_init) (defScope s_Uncovered_init) [] [] (He.fAd C.K d_Uncovered_init.at_) fd := (b.2.2 pt2 hp2).d.def_ 9 rfl
theorem F_Minor_init (b : Base C base) : ∃ fd, FunD C.K "__init__" "Minor.__init__" (defArgs s_Minor_init) (defBody s_Minor_init) (defScope s_Minor_init) [] [] (He.fAd C.K d_Minor_init.at_) fd := (b.2.2 pt2 hp2).d.def_ 10 rfl
theorem F_Over_init (b : Base C base) : ∃ fd, FunD C.K "__init__" "Over.__init__" (defArgs s_Over_init) (defBody s_Over_init) (defScope s_Over_init) [] [] (He.fAd C.K d_Over_init.at_) fd := (b.2.2 pt2 hp2).d.def_ 11 rfl
theorem F_Shuts_init (b : Base C base) : ∃ fd, FunD C.K "__init__" "Shuts.__init__" (defArgs s_Shuts_init) (defBody s_Shuts_init) (defScope s_Shuts_init) [] [] (He.fAd C.K d_Shuts_init.at_) fd := (b.2.2 pt2 hp2).d.def_ 12 rfl
theorem F_GreatestJoin_init (b : Base C base) : ∃ fd, FunD C.K "__init__" "GreatestJoin.__init__" (defArgs s_GreatestJoin_init) (defBody s_GreatestJoin_init) (defScope s_GreatestJoin_init) [] [] (He.fAd C.K d_GreatestJoin_init.at_) fd := (b.2.2 pt2 hp2).d.def_ 13 rfl
theorem F_Limited_init (b : Base C base) : ∃ fd, FunD C.K "__init__" "Limited.__init__" (defArgs s_Limited_init) (defBody s_Limited_init) (defScope s_Limited_init) [] [] (He.fAd C.K d_Limited_init.at_) fd := (b.2.2 pt3 hp3).d.def_ 0 rfl
theorem F_Endless_init (b : Base C base) : ∃ fd, FunD C.K "__init__" "Endless.__init__" (defArgs s_Endless_init) (defBody s_Endless_init) (defScope s_Endless_init) [] [] (He.fAd C.K d_Endless_init.at_) fd := (b.2.2 pt3 hp3).d.def_ 1 rfl
theorem F_Least_init (b : Base C base) : ∃ fd, FunD C.K "__init__" "Least.__init__" (defArgs s_Least_init) (defBody s_Least_init) (defScope s_Least_init) [] [] (He.fAd C.K d_Least_init.at_) fd := (b.2.2 pt3 hp3).d.def_ 2 rfl
theorem F_Port_init (b : Base C base) : ∃ fd, FunD C.K "__init__" "Port.__init__" (defArgs s_Port_init) (defBody s_Port_init) (defScope s_Port_init) [] [] (He.fAd C.K d_Port_init.at_) fd := (b.2.2 pt3 hp3).d.def_ 3 rfl
theorem F_Costly_init (b : Base C base) : ∃ fd, FunD C.K "__init__" "Costly.__init__" (defArgs s_Costly_init) (defBody s_Costly_init) (defScope s_Costly_init) [] [] (He.fAd C.K d_Costly_init.at_) fd := (b.2.2 pt3 hp3).d.def_ 4 rfl
theorem F_Both_init (b : Base C base) : ∃ fd, FunD C.K "__init__" "Both.__init__" (defArgs s_Both_init) (defBody s_Both_init) (defScope s_Both_init) [] [] (He.fAd C.K d_Both_init.at_) fd := (b.2.2 pt3 hp3).d.def_ 5 rfl
theorem F_Heaviest_init (b : Base C base) : ∃ fd, FunD C.K "__init__" "Heaviest.__init__" (defArgs s_Heaviest_init) (defBody s_Heaviest_init) (defScope s_Heaviest_init) [] [] (He.fAd C.K d_Heaviest_init.at_) fd := (b.2.2 pt3 hp3).d.def_ 6 rfl
theorem F_Flow_init (b : Base C base) : ∃ fd, FunD C.K "__init__" "Flow.__init__" (defArgs s_Flow_init) (defBody s_Flow_init) (defScope s_Flow_init) [] [] (He.fAd C.K d_Flow_init.at_) fd := (b.2.2 pt3 hp3).d.def_ 7 rfl
theorem F_Code_init (b : Base C base) : ∃ fd, FunD C.K "__init__" "Code.__init__" (defArgs s_Code_init) (defBody s_Code_init) (defScope s_Code_init) [] [] (He.fAd C.K d_Code_init.at_) fd := (b.2.2 pt3 hp3).d.def_ 8 rfl
theorem F_Narrow_init (b : Base C base) : ∃ fd, FunD C.K "__init__" "Narrow.__init__" (defArgs s_Narrow_init) (defBody s_Narrow_init) (defScope s_Narrow_init) [] [] (He.fAd C.K d_Narrow_init.at_) fd := (b.2.2 pt3 hp3).d.def_ 9 rfl
theorem F_Past_init (b : Base C base) : ∃ fd, FunD C.K "__init__" "Past.__init__" (defArgs s_Past_init) (defBody s_Past_init) (defScope s_Past_init) [] [] (He.fAd C.K d_Past_init.at_) fd := (b.2.2 pt3 hp3).d.def_ 10 rfl
theorem F_Cut_init (b : Base C base) : ∃ fd, FunD C.K "__init__" "Cut.__init__" (defArgs s_Cut_init) (defBody s_Cut_init) (defScope s_Cut_init) [] [] (He.fAd C.K d_Cut_init.at_) fd := (b.2.2 pt3 hp3).d.def_ 11 rfl
theorem F_Hung_init (b : Base C base) : ∃ fd, FunD C.K "__init__" "Hung.__init__" (defArgs s_Hung_init) (defBody s_Hung_init) (defScope s_Hung_init) [] [] (He.fAd C.K d_Hung_init.at_) fd := (b.2.2 pt3 hp3).d.def_ 12 rfl
theorem F_Core_init (b : Base C base) : ∃ fd, FunD C.K "__init__" "Core.__init__" (defArgs s_Core_init) (defBody s_Core_init) (defScope s_Core_init) [] [] (He.fAd C.K d_Core_init.at_) fd := (b.2.2 pt3 hp3).d.def_ 13 rfl
theorem frees (b : Base C base) : ∀ x ∈ freeNames, C.mg x = none := by
  intro x hx
  simp only [freeNames, List.mem_cons, List.not_mem_nil, or_false] at hx
  rcases hx with h | h | h | h | h | h | h | h | h | h | h | h | h | h | h | h | h | h | h <;> subst h
  · exact He.free_ok b.1 b.2.1 ((b.2.2 pt0 hp0).d.fact 11 rfl)
  · exact He.free_ok b.1 b.2.1 ((b.2.2 pt0 hp0).d.fact 12 rfl)
  · exact He.free_ok b.1 b.2.1 ((b.2.2 pt0 hp0).d.fact 13 rfl)
  · exact He.free_ok b.1 b.2.1 ((b.2.2 pt0 hp0).d.fact 14 rfl)
  · exact He.free_ok b.1 b.2.1 ((b.2.2 pt0 hp0).d.fact 15 rfl)
  · exact He.free_ok b.1 b.2.1 ((b.2.2 pt0 hp0).d.fact 16 rfl)
  · exact He.free_ok b.1 b.2.1 ((b.2.2 pt0 hp0).d.fact 17 rfl)
  · exact He.free_ok b.1 b.2.1 ((b.2.2 pt0 hp0).d.fact 18 rfl)
  · exact He.free_ok b.1 b.2.1 ((b.2.2 pt0 hp0).d.fact 19 rfl)
  · exact He.free_ok b.1 b.2.1 ((b.2.2 pt0 hp0).d.fact 20 rfl)
  · exact He.free_ok b.1 b.2.1 ((b.2.2 pt0 hp0).d.fact 21 rfl)
  · exact He.free_ok b.1 b.2.1 ((b.2.2 pt0 hp0).d.fact 22 rfl)
  · exact He.free_ok b.1 b.2.1 ((b.2.2 pt0 hp0).d.fact 23 rfl)
  · exact He.free_ok b.1 b.2.1 ((b.2.2 pt0 hp0).d.fact 24 rfl)
  · exact He.free_ok b.1 b.2.1 ((b.2.2 pt0 hp0).d.fact 25 rfl)
  · exact He.free_ok b.1 b.2.1 ((b.2.2 pt0 hp0).d.fact 26 rfl)
  · exact He.free_ok b.1 b.2.1 ((b.2.2 pt0 hp0).d.fact 27 rfl)
  · exact He.free_ok b.1 b.2.1 ((b.2.2 pt0 hp0).d.fact 28 rfl)
  · exact He.free_ok b.1 b.2.1 ((b.2.2 pt0 hp0).d.fact 29 rfl)
theorem sysb (b : Base C base) : ∃ o, base.get? sysModules = some o := by
  obtain ⟨o, h⟩ := (b.2.2 pt0 hp0).sys
  exact ⟨o, b.1 _ _ h⟩
def cls : List Str := cl1 ++ (cl2 ++ (cl3))
theorem clsok1 (b : Base C base) : ∀ c ∈ cl1, ∃ cl, OwnC C c cl ∧ (∀ m ∈ tyNames, PySem.W.kitOne C.K (.type m) (.ref cl) = some false) ∧ (true = true → IdC C.K cl) := by
  have one : ∀ c, c ∈ cl1 → C.mg c = some (.ref (He.ga C.K c)) → Cls C.K (He.ga C.K c) → ∃ cl, OwnC C c cl ∧ (∀ m ∈ tyNames, PySem.W.kitOne C.K (.type m) (.ref cl) = some false) ∧ (true = true → IdC C.K cl) := fun c hc mg k => by
    have e := List.all_eq_true.mp (b.2.2 pt1 hp1).ex c hc
    rw [Bool.and_eq_true] at e
    exact ⟨_, own_of mg k e.1, ty_of e.1, fun _ => idC_of e.2⟩
  intro c hc
  have hc2 := hc
  simp only [cl1, List.mem_cons, List.not_mem_nil, or_false] at hc2
  rcases hc2 with h | h | h | h | h | h | h | h | h | h | h | h | h | h <;> subst h
  · exact one _ hc (g_Sum b) (He.cls_ok ((b.2.2 pt1 hp1).d.fact 1 rfl))
  · exact one _ hc (g_Broken b) (He.cls_ok ((b.2.2 pt1 hp1).d.fact 5 rfl))
  · exact one _ hc (g_Greatest b) (He.cls_ok ((b.2.2 pt1 hp1).d.fact 9 rfl))
  · exact one _ hc (g_Drawn b) (He.cls_ok ((b.2.2 pt1 hp1).d.fact 14 rfl))
  · exact one _ hc (g_Lacking b) (He.cls_ok ((b.2.2 pt1 hp1).d.fact 18 rfl))
  · exact one _ hc (g_Open b) (He.cls_ok ((b.2.2 pt1 hp1).d.fact 22 rfl))
  · exact one _ hc (g_Shut b) (He.cls_ok ((b.2.2 pt1 hp1).d.fact 26 rfl))
  · exact one _ hc (g_Turns b) (He.cls_ok ((b.2.2 pt1 hp1).d.fact 30 rfl))
  · exact one _ hc (g_Differs b) (He.cls_ok ((b.2.2 pt1 hp1).d.fact 34 rfl))
  · exact one _ hc (g_Even b) (He.cls_ok ((b.2.2 pt1 hp1).d.fact 38 rfl))
  · exact one _ hc (g_Uneven b) (He.cls_ok ((b.2.2 pt1 hp1).d.fact 42 rfl))
  · exact one _ hc (g_IsApart b) (He.cls_ok ((b.2.2 pt1 hp1).d.fact 48 rfl))
  · exact one _ hc (g_IsTied b) (He.cls_ok ((b.2.2 pt1 hp1).d.fact 52 rfl))
  · exact one _ hc (g_Derived b) (He.cls_ok ((b.2.2 pt1 hp1).d.fact 58 rfl))
theorem clsok2 (b : Base C base) : ∀ c ∈ cl2, ∃ cl, OwnC C c cl ∧ (∀ m ∈ tyNames, PySem.W.kitOne C.K (.type m) (.ref cl) = some false) ∧ (true = true → IdC C.K cl) := by
  have one : ∀ c, c ∈ cl2 → C.mg c = some (.ref (He.ga C.K c)) → Cls C.K (He.ga C.K c) → ∃ cl, OwnC C c cl ∧ (∀ m ∈ tyNames, PySem.W.kitOne C.K (.type m) (.ref cl) = some false) ∧ (true = true → IdC C.K cl) := fun c hc mg k => by
    have e := List.all_eq_true.mp (b.2.2 pt2 hp2).ex c hc
    rw [Bool.and_eq_true] at e
    exact ⟨_, own_of mg k e.1, ty_of e.1, fun _ => idC_of e.2⟩
  intro c hc
  have hc2 := hc
  simp only [cl2, List.mem_cons, List.not_mem_nil, or_false] at hc2
  rcases hc2 with h | h | h | h | h | h | h | h | h | h | h | h | h | h <;> subst h
  · exact one _ hc (g_Parting b) (He.cls_ok ((b.2.2 pt2 hp2).d.fact 1 rfl))
  · exact one _ hc (g_Chase b) (He.cls_ok ((b.2.2 pt2 hp2).d.fact 5 rfl))
  · exact one _ hc (g_Shown b) (He.cls_ok ((b.2.2 pt2 hp2).d.fact 9 rfl))
  · exact one _ hc (g_Unshown b) (He.cls_ok ((b.2.2 pt2 hp2).d.fact 14 rfl))
  · exact one _ hc (g_RowSum b) (He.cls_ok ((b.2.2 pt2 hp2).d.fact 18 rfl))
  · exact one _ hc (g_RowsBreak b) (He.cls_ok ((b.2.2 pt2 hp2).d.fact 22 rfl))
  · exact one _ hc (g_Copied b) (He.cls_ok ((b.2.2 pt2 hp2).d.fact 26 rfl))
  · exact one _ hc (g_Uncopied b) (He.cls_ok ((b.2.2 pt2 hp2).d.fact 31 rfl))
  · exact one _ hc (g_Covers b) (He.cls_ok ((b.2.2 pt2 hp2).d.fact 35 rfl))
  · exact one _ hc (g_Uncovered b) (He.cls_ok ((b.2.2 pt2 hp2).d.fact 39 rfl))
  · exact one _ hc (g_Minor b) (He.cls_ok ((b.2.2 pt2 hp2).d.fact 44 rfl))
  · exact one _ hc (g_Over b) (He.cls_ok ((b.2.2 pt2 hp2).d.fact 50 rfl))
  · exact one _ hc (g_Shuts b) (He.cls_ok ((b.2.2 pt2 hp2).d.fact 54 rfl))
  · exact one _ hc (g_GreatestJoin b) (He.cls_ok ((b.2.2 pt2 hp2).d.fact 59 rfl))
theorem clsok3 (b : Base C base) : ∀ c ∈ cl3, ∃ cl, OwnC C c cl ∧ (∀ m ∈ tyNames, PySem.W.kitOne C.K (.type m) (.ref cl) = some false) ∧ (true = true → IdC C.K cl) := by
  have one : ∀ c, c ∈ cl3 → C.mg c = some (.ref (He.ga C.K c)) → Cls C.K (He.ga C.K c) → ∃ cl, OwnC C c cl ∧ (∀ m ∈ tyNames, PySem.W.kitOne C.K (.type m) (.ref cl) = some false) ∧ (true = true → IdC C.K cl) := fun c hc mg k => by
    have e := List.all_eq_true.mp (b.2.2 pt3 hp3).ex c hc
    rw [Bool.and_eq_true] at e
    exact ⟨_, own_of mg k e.1, ty_of e.1, fun _ => idC_of e.2⟩
  intro c hc
  have hc2 := hc
  simp only [cl3, List.mem_cons, List.not_mem_nil, or_false] at hc2
  rcases hc2 with h | h | h | h | h | h | h | h | h | h | h | h | h | h <;> subst h
  · exact one _ hc (g_Limited b) (He.cls_ok ((b.2.2 pt3 hp3).d.fact 1 rfl))
  · exact one _ hc (g_Endless b) (He.cls_ok ((b.2.2 pt3 hp3).d.fact 6 rfl))
  · exact one _ hc (g_Least b) (He.cls_ok ((b.2.2 pt3 hp3).d.fact 10 rfl))
  · exact one _ hc (g_Port b) (He.cls_ok ((b.2.2 pt3 hp3).d.fact 15 rfl))
  · exact one _ hc (g_Costly b) (He.cls_ok ((b.2.2 pt3 hp3).d.fact 19 rfl))
  · exact one _ hc (g_Both b) (He.cls_ok ((b.2.2 pt3 hp3).d.fact 23 rfl))
  · exact one _ hc (g_Heaviest b) (He.cls_ok ((b.2.2 pt3 hp3).d.fact 28 rfl))
  · exact one _ hc (g_Flow b) (He.cls_ok ((b.2.2 pt3 hp3).d.fact 33 rfl))
  · exact one _ hc (g_Code b) (He.cls_ok ((b.2.2 pt3 hp3).d.fact 38 rfl))
  · exact one _ hc (g_Narrow b) (He.cls_ok ((b.2.2 pt3 hp3).d.fact 42 rfl))
  · exact one _ hc (g_Past b) (He.cls_ok ((b.2.2 pt3 hp3).d.fact 47 rfl))
  · exact one _ hc (g_Cut b) (He.cls_ok ((b.2.2 pt3 hp3).d.fact 51 rfl))
  · exact one _ hc (g_Hung b) (He.cls_ok ((b.2.2 pt3 hp3).d.fact 55 rfl))
  · exact one _ hc (g_Core b) (He.cls_ok ((b.2.2 pt3 hp3).d.fact 59 rfl))
def fld0 : List (Str × Str) := [("Sum", "weights"), ("Broken", "ranks"), ("Greatest", "ranks"), ("Greatest", "weights"), ("Drawn", "steps"), ("Lacking", "rows"), ("Open", "way"), ("Shut", "lot"), ("Turns", "ties"), ("Differs", "statement"), ("Even", "times"), ("Uneven", "lot"), ("Uneven", "one"), ("Uneven", "other"), ("IsApart", "times"), ("IsTied", "one"), ("IsTied", "other"), ("IsTied", "given"), ("Derived", "numbers"), ("Parting", "table")]
theorem fldok0 (b : Base C base) : ∀ q ∈ fld0, ∃ cl, C.mg q.1 = some (.ref cl) ∧ Cls C.K cl ∧ NoAttr C.K cl q.2 := by
  exact (allm_cons ⟨_, g_Sum b, He.cls_ok ((b.2.2 pt1 hp1).d.fact 1 rfl), He.noat_ok ((b.2.2 pt1 hp1).d.fact 3 rfl)⟩ (allm_cons ⟨_, g_Broken b, He.cls_ok ((b.2.2 pt1 hp1).d.fact 5 rfl), He.noat_ok ((b.2.2 pt1 hp1).d.fact 7 rfl)⟩ (allm_cons ⟨_, g_Greatest b, He.cls_ok ((b.2.2 pt1 hp1).d.fact 9 rfl), He.noat_ok ((b.2.2 pt1 hp1).d.fact 11 rfl)⟩ (allm_cons ⟨_, g_Greatest b, He.cls_ok ((b.2.2 pt1 hp1).d.fact 9 rfl), He.noat_ok ((b.2.2 pt1 hp1).d.fact 12 rfl)⟩ (allm_cons ⟨_, g_Drawn b, He.cls_ok ((b.2.2 pt1 hp1).d.fact 14 rfl), He.noat_ok ((b.2.2 pt1 hp1).d.fact 16 rfl)⟩ (allm_cons ⟨_, g_Lacking b, He.cls_ok ((b.2.2 pt1 hp1).d.fact 18 rfl), He.noat_ok ((b.2.2 pt1 hp1).d.fact 20 rfl)⟩ (allm_cons ⟨_, g_Open b, He.cls_ok ((b.2.2 pt1 hp1).d.fact 22 rfl), He.noat_ok ((b.2.2 pt1 hp1).d.fact 24 rfl)⟩ (allm_cons ⟨_, g_Shut b, He.cls_ok ((b.2.2 pt1 hp1).d.fact 26 rfl), He.noat_ok ((b.2.2 pt1 hp1).d.fact 28 rfl)⟩ (allm_cons ⟨_, g_Turns b, He.cls_ok ((b.2.2 pt1 hp1).d.fact 30 rfl), He.noat_ok ((b.2.2 pt1 hp1).d.fact 32 rfl)⟩ (allm_cons ⟨_, g_Differs b, He.cls_ok ((b.2.2 pt1 hp1).d.fact 34 rfl), He.noat_ok ((b.2.2 pt1 hp1).d.fact 36 rfl)⟩ (allm_cons ⟨_, g_Even b, He.cls_ok ((b.2.2 pt1 hp1).d.fact 38 rfl), He.noat_ok ((b.2.2 pt1 hp1).d.fact 40 rfl)⟩ (allm_cons ⟨_, g_Uneven b, He.cls_ok ((b.2.2 pt1 hp1).d.fact 42 rfl), He.noat_ok ((b.2.2 pt1 hp1).d.fact 44 rfl)⟩ (allm_cons ⟨_, g_Uneven b, He.cls_ok ((b.2.2 pt1 hp1).d.fact 42 rfl), He.noat_ok ((b.2.2 pt1 hp1).d.fact 45 rfl)⟩ (allm_cons ⟨_, g_Uneven b, He.cls_ok ((b.2.2 pt1 hp1).d.fact 42 rfl), He.noat_ok ((b.2.2 pt1 hp1).d.fact 46 rfl)⟩ (allm_cons ⟨_, g_IsApart b, He.cls_ok ((b.2.2 pt1 hp1).d.fact 48 rfl), He.noat_ok ((b.2.2 pt1 hp1).d.fact 50 rfl)⟩ (allm_cons ⟨_, g_IsTied b, He.cls_ok ((b.2.2 pt1 hp1).d.fact 52 rfl), He.noat_ok ((b.2.2 pt1 hp1).d.fact 54 rfl)⟩ (allm_cons ⟨_, g_IsTied b, He.cls_ok ((b.2.2 pt1 hp1).d.fact 52 rfl), He.noat_ok ((b.2.2 pt1 hp1).d.fact 55 rfl)⟩ (allm_cons ⟨_, g_IsTied b, He.cls_ok ((b.2.2 pt1 hp1).d.fact 52 rfl), He.noat_ok ((b.2.2 pt1 hp1).d.fact 56 rfl)⟩ (allm_cons ⟨_, g_Derived b, He.cls_ok ((b.2.2 pt1 hp1).d.fact 58 rfl), He.noat_ok ((b.2.2 pt1 hp1).d.fact 60 rfl)⟩ (allm_cons ⟨_, g_Parting b, He.cls_ok ((b.2.2 pt2 hp2).d.fact 1 rfl), He.noat_ok ((b.2.2 pt2 hp2).d.fact 3 rfl)⟩ allm_nil))))))))))))))))))))
def fld1 : List (Str × Str) := [("Chase", "steps"), ("Shown", "many"), ("Shown", "rows"), ("Unshown", "name"), ("RowSum", "weights"), ("RowsBreak", "rows"), ("Copied", "weights"), ("Copied", "shares"), ("Uncopied", "ranks"), ("Covers", "sums"), ("Uncovered", "source"), ("Uncovered", "table"), ("Minor", "given"), ("Minor", "left"), ("Minor", "names"), ("Over", "rows"), ("Shuts", "number"), ("Shuts", "minor"), ("GreatestJoin", "weights"), ("GreatestJoin", "heights")]
theorem fldok1 (b : Base C base) : ∀ q ∈ fld1, ∃ cl, C.mg q.1 = some (.ref cl) ∧ Cls C.K cl ∧ NoAttr C.K cl q.2 := by
  exact (allm_cons ⟨_, g_Chase b, He.cls_ok ((b.2.2 pt2 hp2).d.fact 5 rfl), He.noat_ok ((b.2.2 pt2 hp2).d.fact 7 rfl)⟩ (allm_cons ⟨_, g_Shown b, He.cls_ok ((b.2.2 pt2 hp2).d.fact 9 rfl), He.noat_ok ((b.2.2 pt2 hp2).d.fact 11 rfl)⟩ (allm_cons ⟨_, g_Shown b, He.cls_ok ((b.2.2 pt2 hp2).d.fact 9 rfl), He.noat_ok ((b.2.2 pt2 hp2).d.fact 12 rfl)⟩ (allm_cons ⟨_, g_Unshown b, He.cls_ok ((b.2.2 pt2 hp2).d.fact 14 rfl), He.noat_ok ((b.2.2 pt2 hp2).d.fact 16 rfl)⟩ (allm_cons ⟨_, g_RowSum b, He.cls_ok ((b.2.2 pt2 hp2).d.fact 18 rfl), He.noat_ok ((b.2.2 pt2 hp2).d.fact 20 rfl)⟩ (allm_cons ⟨_, g_RowsBreak b, He.cls_ok ((b.2.2 pt2 hp2).d.fact 22 rfl), He.noat_ok ((b.2.2 pt2 hp2).d.fact 24 rfl)⟩ (allm_cons ⟨_, g_Copied b, He.cls_ok ((b.2.2 pt2 hp2).d.fact 26 rfl), He.noat_ok ((b.2.2 pt2 hp2).d.fact 28 rfl)⟩ (allm_cons ⟨_, g_Copied b, He.cls_ok ((b.2.2 pt2 hp2).d.fact 26 rfl), He.noat_ok ((b.2.2 pt2 hp2).d.fact 29 rfl)⟩ (allm_cons ⟨_, g_Uncopied b, He.cls_ok ((b.2.2 pt2 hp2).d.fact 31 rfl), He.noat_ok ((b.2.2 pt2 hp2).d.fact 33 rfl)⟩ (allm_cons ⟨_, g_Covers b, He.cls_ok ((b.2.2 pt2 hp2).d.fact 35 rfl), He.noat_ok ((b.2.2 pt2 hp2).d.fact 37 rfl)⟩ (allm_cons ⟨_, g_Uncovered b, He.cls_ok ((b.2.2 pt2 hp2).d.fact 39 rfl), He.noat_ok ((b.2.2 pt2 hp2).d.fact 41 rfl)⟩ (allm_cons ⟨_, g_Uncovered b, He.cls_ok ((b.2.2 pt2 hp2).d.fact 39 rfl), He.noat_ok ((b.2.2 pt2 hp2).d.fact 42 rfl)⟩ (allm_cons ⟨_, g_Minor b, He.cls_ok ((b.2.2 pt2 hp2).d.fact 44 rfl), He.noat_ok ((b.2.2 pt2 hp2).d.fact 46 rfl)⟩ (allm_cons ⟨_, g_Minor b, He.cls_ok ((b.2.2 pt2 hp2).d.fact 44 rfl), He.noat_ok ((b.2.2 pt2 hp2).d.fact 47 rfl)⟩ (allm_cons ⟨_, g_Minor b, He.cls_ok ((b.2.2 pt2 hp2).d.fact 44 rfl), He.noat_ok ((b.2.2 pt2 hp2).d.fact 48 rfl)⟩ (allm_cons ⟨_, g_Over b, He.cls_ok ((b.2.2 pt2 hp2).d.fact 50 rfl), He.noat_ok ((b.2.2 pt2 hp2).d.fact 52 rfl)⟩ (allm_cons ⟨_, g_Shuts b, He.cls_ok ((b.2.2 pt2 hp2).d.fact 54 rfl), He.noat_ok ((b.2.2 pt2 hp2).d.fact 56 rfl)⟩ (allm_cons ⟨_, g_Shuts b, He.cls_ok ((b.2.2 pt2 hp2).d.fact 54 rfl), He.noat_ok ((b.2.2 pt2 hp2).d.fact 57 rfl)⟩ (allm_cons ⟨_, g_GreatestJoin b, He.cls_ok ((b.2.2 pt2 hp2).d.fact 59 rfl), He.noat_ok ((b.2.2 pt2 hp2).d.fact 61 rfl)⟩ (allm_cons ⟨_, g_GreatestJoin b, He.cls_ok ((b.2.2 pt2 hp2).d.fact 59 rfl), He.noat_ok ((b.2.2 pt2 hp2).d.fact 62 rfl)⟩ allm_nil))))))))))))))))))))
def fld2 : List (Str × Str) := [("Limited", "weights"), ("Limited", "heights"), ("Endless", "source"), ("Least", "ranks"), ("Least", "weights"), ("Port", "ranks"), ("Costly", "weights"), ("Both", "lot"), ("Both", "part"), ("Heaviest", "lot"), ("Heaviest", "drops"), ("Flow", "ways"), ("Flow", "lot"), ("Code", "rows"), ("Narrow", "sink"), ("Narrow", "lot"), ("Past", "way"), ("Cut", "lot"), ("Hung", "parents"), ("Core", "lot")]
theorem fldok2 (b : Base C base) : ∀ q ∈ fld2, ∃ cl, C.mg q.1 = some (.ref cl) ∧ Cls C.K cl ∧ NoAttr C.K cl q.2 := by
  exact (allm_cons ⟨_, g_Limited b, He.cls_ok ((b.2.2 pt3 hp3).d.fact 1 rfl), He.noat_ok ((b.2.2 pt3 hp3).d.fact 3 rfl)⟩ (allm_cons ⟨_, g_Limited b, He.cls_ok ((b.2.2 pt3 hp3).d.fact 1 rfl), He.noat_ok ((b.2.2 pt3 hp3).d.fact 4 rfl)⟩ (allm_cons ⟨_, g_Endless b, He.cls_ok ((b.2.2 pt3 hp3).d.fact 6 rfl), He.noat_ok ((b.2.2 pt3 hp3).d.fact 8 rfl)⟩ (allm_cons ⟨_, g_Least b, He.cls_ok ((b.2.2 pt3 hp3).d.fact 10 rfl), He.noat_ok ((b.2.2 pt3 hp3).d.fact 12 rfl)⟩ (allm_cons ⟨_, g_Least b, He.cls_ok ((b.2.2 pt3 hp3).d.fact 10 rfl), He.noat_ok ((b.2.2 pt3 hp3).d.fact 13 rfl)⟩ (allm_cons ⟨_, g_Port b, He.cls_ok ((b.2.2 pt3 hp3).d.fact 15 rfl), He.noat_ok ((b.2.2 pt3 hp3).d.fact 17 rfl)⟩ (allm_cons ⟨_, g_Costly b, He.cls_ok ((b.2.2 pt3 hp3).d.fact 19 rfl), He.noat_ok ((b.2.2 pt3 hp3).d.fact 21 rfl)⟩ (allm_cons ⟨_, g_Both b, He.cls_ok ((b.2.2 pt3 hp3).d.fact 23 rfl), He.noat_ok ((b.2.2 pt3 hp3).d.fact 25 rfl)⟩ (allm_cons ⟨_, g_Both b, He.cls_ok ((b.2.2 pt3 hp3).d.fact 23 rfl), He.noat_ok ((b.2.2 pt3 hp3).d.fact 26 rfl)⟩ (allm_cons ⟨_, g_Heaviest b, He.cls_ok ((b.2.2 pt3 hp3).d.fact 28 rfl), He.noat_ok ((b.2.2 pt3 hp3).d.fact 30 rfl)⟩ (allm_cons ⟨_, g_Heaviest b, He.cls_ok ((b.2.2 pt3 hp3).d.fact 28 rfl), He.noat_ok ((b.2.2 pt3 hp3).d.fact 31 rfl)⟩ (allm_cons ⟨_, g_Flow b, He.cls_ok ((b.2.2 pt3 hp3).d.fact 33 rfl), He.noat_ok ((b.2.2 pt3 hp3).d.fact 35 rfl)⟩ (allm_cons ⟨_, g_Flow b, He.cls_ok ((b.2.2 pt3 hp3).d.fact 33 rfl), He.noat_ok ((b.2.2 pt3 hp3).d.fact 36 rfl)⟩ (allm_cons ⟨_, g_Code b, He.cls_ok ((b.2.2 pt3 hp3).d.fact 38 rfl), He.noat_ok ((b.2.2 pt3 hp3).d.fact 40 rfl)⟩ (allm_cons ⟨_, g_Narrow b, He.cls_ok ((b.2.2 pt3 hp3).d.fact 42 rfl), He.noat_ok ((b.2.2 pt3 hp3).d.fact 44 rfl)⟩ (allm_cons ⟨_, g_Narrow b, He.cls_ok ((b.2.2 pt3 hp3).d.fact 42 rfl), He.noat_ok ((b.2.2 pt3 hp3).d.fact 45 rfl)⟩ (allm_cons ⟨_, g_Past b, He.cls_ok ((b.2.2 pt3 hp3).d.fact 47 rfl), He.noat_ok ((b.2.2 pt3 hp3).d.fact 49 rfl)⟩ (allm_cons ⟨_, g_Cut b, He.cls_ok ((b.2.2 pt3 hp3).d.fact 51 rfl), He.noat_ok ((b.2.2 pt3 hp3).d.fact 53 rfl)⟩ (allm_cons ⟨_, g_Hung b, He.cls_ok ((b.2.2 pt3 hp3).d.fact 55 rfl), He.noat_ok ((b.2.2 pt3 hp3).d.fact 57 rfl)⟩ (allm_cons ⟨_, g_Core b, He.cls_ok ((b.2.2 pt3 hp3).d.fact 59 rfl), He.noat_ok ((b.2.2 pt3 hp3).d.fact 61 rfl)⟩ allm_nil))))))))))))))))))))
def flds : List (Str × Str) := fld0 ++ (fld1 ++ (fld2))
theorem fldok (b : Base C base) : ∀ q ∈ flds, ∃ cl, C.mg q.1 = some (.ref cl) ∧ Cls C.K cl ∧ NoAttr C.K cl q.2 := allm_app (fldok0 b) (allm_app (fldok1 b) (fldok2 b))
def T0 : Tb := { cls := cls, sub := cls.map fun c => ((c, c), true), fld := flds, idn := true }
theorem ok0 (b : Base C base) : TbOk P w C base 0 T0 := by
  have hc : ∀ c ∈ cls, ∃ cl, OwnC C c cl ∧ (∀ m ∈ tyNames, PySem.W.kitOne C.K (.type m) (.ref cl) = some false) ∧ (true = true → IdC C.K cl) := (allm_app (clsok1 b) (allm_app (clsok2 b) (clsok3 b)))
  refine { fn := allm_nil, con := allm_nil, ini := allm_nil, kw := allm_nil, cls := hc, sub := fun q hq => ?_, isT := allm_nil, fld := fldok b, free := frees b, sys := sysb b }
  obtain ⟨c, h1, h2⟩ := List.mem_map.mp hq
  subst h2
  obtain ⟨cl, o, _⟩ := hc c h1
  exact ⟨cl, cl, o.1, o.1, by unfold PySem.W.kitOne; rw [if_pos (by simp)]⟩
def e_copied : Den := denOf T0.gx p_copied.length n_copied.length m_copied
theorem D_copied (b : Base C base) (ok : TbOk P w C base 0 T0) : DefOk P w C base 2 "copied" e_copied := by
  obtain ⟨fd, F⟩ := F_copied b
  exact def_ok F c_copied (by decide) (g_copied b) (F.bindsN fun _ _ _ _ _ _ us hl => match us, hl with | [_], _ => rfl) (gxok ok) k_copied
def e__law_draw : Den := denOf T0.gx p__law_draw.length n__law_draw.length m__law_draw
theorem D__law_draw (b : Base C base) (ok : TbOk P w C base 0 T0) : DefOk P w C base 2 "_law_draw" e__law_draw := by
  obtain ⟨fd, F⟩ := F__law_draw b
  exact def_ok F c__law_draw (by decide) (g__law_draw b) (F.bindsN fun _ _ _ _ _ _ us hl => match us, hl with | [_, _], _ => rfl) (gxok ok) k__law_draw
def e__law_copy : Den := denOf T0.gx p__law_copy.length n__law_copy.length m__law_copy
theorem D__law_copy (b : Base C base) (ok : TbOk P w C base 0 T0) : DefOk P w C base 2 "_law_copy" e__law_copy := by
  obtain ⟨fd, F⟩ := F__law_copy b
  exact def_ok F c__law_copy (by decide) (g__law_copy b) (F.bindsN fun _ _ _ _ _ _ us hl => match us, hl with | [_], _ => rfl) (gxok ok) k__law_copy
def T1 : Tb := { T0 with fn := ("copied", e_copied) :: ("_law_draw", e__law_draw) :: ("_law_copy", e__law_copy) :: T0.fn, ini :=  T0.ini, kw :=  T0.kw }
theorem ok1 (b : Base C base) (ok : TbOk P w C base 0 T0) : TbOk P w C base 2 T1 :=
  { fn := allm_cons (D_copied b ok) (allm_cons (D__law_draw b ok) (allm_cons (D__law_copy b ok) (fun q hq => (ok.fn q hq).mono (by decide)))), con := ok.con, ini := fun q hq => ini_mono (by decide) (ok.ini q hq), kw := fun q hq => kw_mono (by decide) (ok.kw q hq), cls := ok.cls, sub := ok.sub, isT := ok.isT, fld := ok.fld, free := ok.free, sys := ok.sys }
def e__law_pick : Den := denOf T1.gx p__law_pick.length n__law_pick.length m__law_pick
theorem D__law_pick (b : Base C base) (ok : TbOk P w C base 2 T1) : DefOk P w C base 4 "_law_pick" e__law_pick := by
  obtain ⟨fd, F⟩ := F__law_pick b
  exact def_ok F c__law_pick (by decide) (g__law_pick b) (F.bindsN fun _ _ _ _ _ _ us hl => match us, hl with | [_, _], _ => rfl) (gxok ok) k__law_pick
def i_Sum : Ini := iniOf T1.gx "Sum" p_Sum_init.length n_Sum_init.length m_Sum_init
theorem I_Sum (b : Base C base) (ok : TbOk P w C base 2 T1) : ∃ cl fI fd ps, C.mg "Sum" = some (.ref cl) ∧ Mk C.K cl fI ∧ FnG P w C base 4 fI fd ps (spIni C "Sum" i_Sum) ∧ Binds C.K fd ps [] := by
  obtain ⟨fd, F⟩ := F_Sum_init b
  exact ⟨_, _, fd, p_Sum_init, g_Sum b, He.mkr_ok ((b.2.2 pt1 hp1).d.fact 2 rfl), fnG_ini F c_Sum_init (by decide) (gxok ok) k_Sum_init, F.bindsN fun _ _ _ _ _ _ us hl => match us, hl with | [_, _], _ => rfl⟩
def i_Broken : Ini := iniOf T1.gx "Broken" p_Broken_init.length n_Broken_init.length m_Broken_init
theorem I_Broken (b : Base C base) (ok : TbOk P w C base 2 T1) : ∃ cl fI fd ps, C.mg "Broken" = some (.ref cl) ∧ Mk C.K cl fI ∧ FnG P w C base 4 fI fd ps (spIni C "Broken" i_Broken) ∧ Binds C.K fd ps [] := by
  obtain ⟨fd, F⟩ := F_Broken_init b
  exact ⟨_, _, fd, p_Broken_init, g_Broken b, He.mkr_ok ((b.2.2 pt1 hp1).d.fact 6 rfl), fnG_ini F c_Broken_init (by decide) (gxok ok) k_Broken_init, F.bindsN fun _ _ _ _ _ _ us hl => match us, hl with | [_, _], _ => rfl⟩
def i_Greatest : Ini := iniOf T1.gx "Greatest" p_Greatest_init.length n_Greatest_init.length m_Greatest_init
theorem I_Greatest (b : Base C base) (ok : TbOk P w C base 2 T1) : ∃ cl fI fd ps, C.mg "Greatest" = some (.ref cl) ∧ Mk C.K cl fI ∧ FnG P w C base 4 fI fd ps (spIni C "Greatest" i_Greatest) ∧ Binds C.K fd ps [] := by
  obtain ⟨fd, F⟩ := F_Greatest_init b
  exact ⟨_, _, fd, p_Greatest_init, g_Greatest b, He.mkr_ok ((b.2.2 pt1 hp1).d.fact 10 rfl), fnG_ini F c_Greatest_init (by decide) (gxok ok) k_Greatest_init, F.bindsN fun _ _ _ _ _ _ us hl => match us, hl with | [_, _, _], _ => rfl⟩
def i_Drawn : Ini := iniOf T1.gx "Drawn" p_Drawn_init.length n_Drawn_init.length m_Drawn_init
theorem I_Drawn (b : Base C base) (ok : TbOk P w C base 2 T1) : ∃ cl fI fd ps, C.mg "Drawn" = some (.ref cl) ∧ Mk C.K cl fI ∧ FnG P w C base 4 fI fd ps (spIni C "Drawn" i_Drawn) ∧ Binds C.K fd ps [] := by
  obtain ⟨fd, F⟩ := F_Drawn_init b
  exact ⟨_, _, fd, p_Drawn_init, g_Drawn b, He.mkr_ok ((b.2.2 pt1 hp1).d.fact 15 rfl), fnG_ini F c_Drawn_init (by decide) (gxok ok) k_Drawn_init, F.bindsN fun _ _ _ _ _ _ us hl => match us, hl with | [_, _], _ => rfl⟩
def i_Lacking : Ini := iniOf T1.gx "Lacking" p_Lacking_init.length n_Lacking_init.length m_Lacking_init
theorem I_Lacking (b : Base C base) (ok : TbOk P w C base 2 T1) : ∃ cl fI fd ps, C.mg "Lacking" = some (.ref cl) ∧ Mk C.K cl fI ∧ FnG P w C base 4 fI fd ps (spIni C "Lacking" i_Lacking) ∧ Binds C.K fd ps [] := by
  obtain ⟨fd, F⟩ := F_Lacking_init b
  exact ⟨_, _, fd, p_Lacking_init, g_Lacking b, He.mkr_ok ((b.2.2 pt1 hp1).d.fact 19 rfl), fnG_ini F c_Lacking_init (by decide) (gxok ok) k_Lacking_init, F.bindsN fun _ _ _ _ _ _ us hl => match us, hl with | [_, _], _ => rfl⟩
def i_Open : Ini := iniOf T1.gx "Open" p_Open_init.length n_Open_init.length m_Open_init
theorem I_Open (b : Base C base) (ok : TbOk P w C base 2 T1) : ∃ cl fI fd ps, C.mg "Open" = some (.ref cl) ∧ Mk C.K cl fI ∧ FnG P w C base 4 fI fd ps (spIni C "Open" i_Open) ∧ Binds C.K fd ps [] := by
  obtain ⟨fd, F⟩ := F_Open_init b
  exact ⟨_, _, fd, p_Open_init, g_Open b, He.mkr_ok ((b.2.2 pt1 hp1).d.fact 23 rfl), fnG_ini F c_Open_init (by decide) (gxok ok) k_Open_init, F.bindsN fun _ _ _ _ _ _ us hl => match us, hl with | [_, _], _ => rfl⟩
def i_Shut : Ini := iniOf T1.gx "Shut" p_Shut_init.length n_Shut_init.length m_Shut_init
theorem I_Shut (b : Base C base) (ok : TbOk P w C base 2 T1) : ∃ cl fI fd ps, C.mg "Shut" = some (.ref cl) ∧ Mk C.K cl fI ∧ FnG P w C base 4 fI fd ps (spIni C "Shut" i_Shut) ∧ Binds C.K fd ps [] := by
  obtain ⟨fd, F⟩ := F_Shut_init b
  exact ⟨_, _, fd, p_Shut_init, g_Shut b, He.mkr_ok ((b.2.2 pt1 hp1).d.fact 27 rfl), fnG_ini F c_Shut_init (by decide) (gxok ok) k_Shut_init, F.bindsN fun _ _ _ _ _ _ us hl => match us, hl with | [_, _], _ => rfl⟩
def i_Turns : Ini := iniOf T1.gx "Turns" p_Turns_init.length n_Turns_init.length m_Turns_init
theorem I_Turns (b : Base C base) (ok : TbOk P w C base 2 T1) : ∃ cl fI fd ps, C.mg "Turns" = some (.ref cl) ∧ Mk C.K cl fI ∧ FnG P w C base 4 fI fd ps (spIni C "Turns" i_Turns) ∧ Binds C.K fd ps [] := by
  obtain ⟨fd, F⟩ := F_Turns_init b
  exact ⟨_, _, fd, p_Turns_init, g_Turns b, He.mkr_ok ((b.2.2 pt1 hp1).d.fact 31 rfl), fnG_ini F c_Turns_init (by decide) (gxok ok) k_Turns_init, F.bindsN fun _ _ _ _ _ _ us hl => match us, hl with | [_, _], _ => rfl⟩
def i_Differs : Ini := iniOf T1.gx "Differs" p_Differs_init.length n_Differs_init.length m_Differs_init
theorem I_Differs (b : Base C base) (ok : TbOk P w C base 2 T1) : ∃ cl fI fd ps, C.mg "Differs" = some (.ref cl) ∧ Mk C.K cl fI ∧ FnG P w C base 4 fI fd ps (spIni C "Differs" i_Differs) ∧ Binds C.K fd ps [] := by
  obtain ⟨fd, F⟩ := F_Differs_init b
  exact ⟨_, _, fd, p_Differs_init, g_Differs b, He.mkr_ok ((b.2.2 pt1 hp1).d.fact 35 rfl), fnG_ini F c_Differs_init (by decide) (gxok ok) k_Differs_init, F.bindsN fun _ _ _ _ _ _ us hl => match us, hl with | [_, _], _ => rfl⟩
def i_Even : Ini := iniOf T1.gx "Even" p_Even_init.length n_Even_init.length m_Even_init
theorem I_Even (b : Base C base) (ok : TbOk P w C base 2 T1) : ∃ cl fI fd ps, C.mg "Even" = some (.ref cl) ∧ Mk C.K cl fI ∧ FnG P w C base 4 fI fd ps (spIni C "Even" i_Even) ∧ Binds C.K fd ps [] := by
  obtain ⟨fd, F⟩ := F_Even_init b
  exact ⟨_, _, fd, p_Even_init, g_Even b, He.mkr_ok ((b.2.2 pt1 hp1).d.fact 39 rfl), fnG_ini F c_Even_init (by decide) (gxok ok) k_Even_init, F.bindsN fun _ _ _ _ _ _ us hl => match us, hl with | [_, _], _ => rfl⟩
def i_Uneven : Ini := iniOf T1.gx "Uneven" p_Uneven_init.length n_Uneven_init.length m_Uneven_init
theorem I_Uneven (b : Base C base) (ok : TbOk P w C base 2 T1) : ∃ cl fI fd ps, C.mg "Uneven" = some (.ref cl) ∧ Mk C.K cl fI ∧ FnG P w C base 4 fI fd ps (spIni C "Uneven" i_Uneven) ∧ Binds C.K fd ps [] := by
  obtain ⟨fd, F⟩ := F_Uneven_init b
  exact ⟨_, _, fd, p_Uneven_init, g_Uneven b, He.mkr_ok ((b.2.2 pt1 hp1).d.fact 43 rfl), fnG_ini F c_Uneven_init (by decide) (gxok ok) k_Uneven_init, F.bindsN fun _ _ _ _ _ _ us hl => match us, hl with | [_, _, _, _], _ => rfl⟩
def i_IsApart : Ini := iniOf T1.gx "IsApart" p_IsApart_init.length n_IsApart_init.length m_IsApart_init
theorem I_IsApart (b : Base C base) (ok : TbOk P w C base 2 T1) : ∃ cl fI fd ps, C.mg "IsApart" = some (.ref cl) ∧ Mk C.K cl fI ∧ FnG P w C base 4 fI fd ps (spIni C "IsApart" i_IsApart) ∧ Binds C.K fd ps [] := by
  obtain ⟨fd, F⟩ := F_IsApart_init b
  exact ⟨_, _, fd, p_IsApart_init, g_IsApart b, He.mkr_ok ((b.2.2 pt1 hp1).d.fact 49 rfl), fnG_ini F c_IsApart_init (by decide) (gxok ok) k_IsApart_init, F.bindsN fun _ _ _ _ _ _ us hl => match us, hl with | [_, _], _ => rfl⟩
def i_IsTied : Ini := iniOf T1.gx "IsTied" p_IsTied_init.length n_IsTied_init.length m_IsTied_init
theorem I_IsTied (b : Base C base) (ok : TbOk P w C base 2 T1) : ∃ cl fI fd ps, C.mg "IsTied" = some (.ref cl) ∧ Mk C.K cl fI ∧ FnG P w C base 4 fI fd ps (spIni C "IsTied" i_IsTied) ∧ Binds C.K fd ps [] := by
  obtain ⟨fd, F⟩ := F_IsTied_init b
  exact ⟨_, _, fd, p_IsTied_init, g_IsTied b, He.mkr_ok ((b.2.2 pt1 hp1).d.fact 53 rfl), fnG_ini F c_IsTied_init (by decide) (gxok ok) k_IsTied_init, F.bindsN fun _ _ _ _ _ _ us hl => match us, hl with | [_, _, _, _], _ => rfl⟩
def i_Derived : Ini := iniOf T1.gx "Derived" p_Derived_init.length n_Derived_init.length m_Derived_init
theorem I_Derived (b : Base C base) (ok : TbOk P w C base 2 T1) : ∃ cl fI fd ps, C.mg "Derived" = some (.ref cl) ∧ Mk C.K cl fI ∧ FnG P w C base 4 fI fd ps (spIni C "Derived" i_Derived) ∧ Binds C.K fd ps [] := by
  obtain ⟨fd, F⟩ := F_Derived_init b
  exact ⟨_, _, fd, p_Derived_init, g_Derived b, He.mkr_ok ((b.2.2 pt1 hp1).d.fact 59 rfl), fnG_ini F c_Derived_init (by decide) (gxok ok) k_Derived_init, F.bindsN fun _ _ _ _ _ _ us hl => match us, hl with | [_, _], _ => rfl⟩
def i_Parting : Ini := iniOf T1.gx "Parting" p_Parting_init.length n_Parting_init.length m_Parting_init
theorem I_Parting (b : Base C base) (ok : TbOk P w C base 2 T1) : ∃ cl fI fd ps, C.mg "Parting" = some (.ref cl) ∧ Mk C.K cl fI ∧ FnG P w C base 4 fI fd ps (spIni C "Parting" i_Parting) ∧ Binds C.K fd ps [] := by
  obtain ⟨fd, F⟩ := F_Parting_init b
  exact ⟨_, _, fd, p_Parting_init, g_Parting b, He.mkr_ok ((b.2.2 pt2 hp2).d.fact 2 rfl), fnG_ini F c_Parting_init (by decide) (gxok ok) k_Parting_init, F.bindsN fun _ _ _ _ _ _ us hl => match us, hl with | [_, _], _ => rfl⟩
def i_Chase : Ini := iniOf T1.gx "Chase" p_Chase_init.length n_Chase_init.length m_Chase_init
theorem I_Chase (b : Base C base) (ok : TbOk P w C base 2 T1) : ∃ cl fI fd ps, C.mg "Chase" = some (.ref cl) ∧ Mk C.K cl fI ∧ FnG P w C base 4 fI fd ps (spIni C "Chase" i_Chase) ∧ Binds C.K fd ps [] := by
  obtain ⟨fd, F⟩ := F_Chase_init b
  exact ⟨_, _, fd, p_Chase_init, g_Chase b, He.mkr_ok ((b.2.2 pt2 hp2).d.fact 6 rfl), fnG_ini F c_Chase_init (by decide) (gxok ok) k_Chase_init, F.bindsN fun _ _ _ _ _ _ us hl => match us, hl with | [_, _], _ => rfl⟩
def i_Shown : Ini := iniOf T1.gx "Shown" p_Shown_init.length n_Shown_init.length m_Shown_init
theorem I_Shown (b : Base C base) (ok : TbOk P w C base 2 T1) : ∃ cl fI fd ps, C.mg "Shown" = some (.ref cl) ∧ Mk C.K cl fI ∧ FnG P w C base 4 fI fd ps (spIni C "Shown" i_Shown) ∧ Binds C.K fd ps [] := by
  obtain ⟨fd, F⟩ := F_Shown_init b
  exact ⟨_, _, fd, p_Shown_init, g_Shown b, He.mkr_ok ((b.2.2 pt2 hp2).d.fact 10 rfl), fnG_ini F c_Shown_init (by decide) (gxok ok) k_Shown_init, F.bindsN fun _ _ _ _ _ _ us hl => match us, hl with | [_, _, _], _ => rfl⟩
def i_Unshown : Ini := iniOf T1.gx "Unshown" p_Unshown_init.length n_Unshown_init.length m_Unshown_init
theorem I_Unshown (b : Base C base) (ok : TbOk P w C base 2 T1) : ∃ cl fI fd ps, C.mg "Unshown" = some (.ref cl) ∧ Mk C.K cl fI ∧ FnG P w C base 4 fI fd ps (spIni C "Unshown" i_Unshown) ∧ Binds C.K fd ps [] := by
  obtain ⟨fd, F⟩ := F_Unshown_init b
  exact ⟨_, _, fd, p_Unshown_init, g_Unshown b, He.mkr_ok ((b.2.2 pt2 hp2).d.fact 15 rfl), fnG_ini F c_Unshown_init (by decide) (gxok ok) k_Unshown_init, F.bindsN fun _ _ _ _ _ _ us hl => match us, hl with | [_, _], _ => rfl⟩
def i_RowSum : Ini := iniOf T1.gx "RowSum" p_RowSum_init.length n_RowSum_init.length m_RowSum_init
theorem I_RowSum (b : Base C base) (ok : TbOk P w C base 2 T1) : ∃ cl fI fd ps, C.mg "RowSum" = some (.ref cl) ∧ Mk C.K cl fI ∧ FnG P w C base 4 fI fd ps (spIni C "RowSum" i_RowSum) ∧ Binds C.K fd ps [] := by
  obtain ⟨fd, F⟩ := F_RowSum_init b
  exact ⟨_, _, fd, p_RowSum_init, g_RowSum b, He.mkr_ok ((b.2.2 pt2 hp2).d.fact 19 rfl), fnG_ini F c_RowSum_init (by decide) (gxok ok) k_RowSum_init, F.bindsN fun _ _ _ _ _ _ us hl => match us, hl with | [_, _], _ => rfl⟩
def i_RowsBreak : Ini := iniOf T1.gx "RowsBreak" p_RowsBreak_init.length n_RowsBreak_init.length m_RowsBreak_init
theorem I_RowsBreak (b : Base C base) (ok : TbOk P w C base 2 T1) : ∃ cl fI fd ps, C.mg "RowsBreak" = some (.ref cl) ∧ Mk C.K cl fI ∧ FnG P w C base 4 fI fd ps (spIni C "RowsBreak" i_RowsBreak) ∧ Binds C.K fd ps [] := by
  obtain ⟨fd, F⟩ := F_RowsBreak_init b
  exact ⟨_, _, fd, p_RowsBreak_init, g_RowsBreak b, He.mkr_ok ((b.2.2 pt2 hp2).d.fact 23 rfl), fnG_ini F c_RowsBreak_init (by decide) (gxok ok) k_RowsBreak_init, F.bindsN fun _ _ _ _ _ _ us hl => match us, hl with | [_, _], _ => rfl⟩
def i_Copied : Ini := iniOf T1.gx "Copied" p_Copied_init.length n_Copied_init.length m_Copied_init
theorem I_Copied (b : Base C base) (ok : TbOk P w C base 2 T1) : ∃ cl fI fd ps, C.mg "Copied" = some (.ref cl) ∧ Mk C.K cl fI ∧ FnG P w C base 4 fI fd ps (spIni C "Copied" i_Copied) ∧ Binds C.K fd ps [] := by
  obtain ⟨fd, F⟩ := F_Copied_init b
  exact ⟨_, _, fd, p_Copied_init, g_Copied b, He.mkr_ok ((b.2.2 pt2 hp2).d.fact 27 rfl), fnG_ini F c_Copied_init (by decide) (gxok ok) k_Copied_init, F.bindsN fun _ _ _ _ _ _ us hl => match us, hl with | [_, _, _], _ => rfl⟩
def i_Uncopied : Ini := iniOf T1.gx "Uncopied" p_Uncopied_init.length n_Uncopied_init.length m_Uncopied_init
theorem I_Uncopied (b : Base C base) (ok : TbOk P w C base 2 T1) : ∃ cl fI fd ps, C.mg "Uncopied" = some (.ref cl) ∧ Mk C.K cl fI ∧ FnG P w C base 4 fI fd ps (spIni C "Uncopied" i_Uncopied) ∧ Binds C.K fd ps [] := by
  obtain ⟨fd, F⟩ := F_Uncopied_init b
  exact ⟨_, _, fd, p_Uncopied_init, g_Uncopied b, He.mkr_ok ((b.2.2 pt2 hp2).d.fact 32 rfl), fnG_ini F c_Uncopied_init (by decide) (gxok ok) k_Uncopied_init, F.bindsN fun _ _ _ _ _ _ us hl => match us, hl with | [_, _], _ => rfl⟩
def i_Covers : Ini := iniOf T1.gx "Covers" p_Covers_init.length n_Covers_init.length m_Covers_init
theorem I_Covers (b : Base C base) (ok : TbOk P w C base 2 T1) : ∃ cl fI fd ps, C.mg "Covers" = some (.ref cl) ∧ Mk C.K cl fI ∧ FnG P w C base 4 fI fd ps (spIni C "Covers" i_Covers) ∧ Binds C.K fd ps [] := by
  obtain ⟨fd, F⟩ := F_Covers_init b
  exact ⟨_, _, fd, p_Covers_init, g_Covers b, He.mkr_ok ((b.2.2 pt2 hp2).d.fact 36 rfl), fnG_ini F c_Covers_init (by decide) (gxok ok) k_Covers_init, F.bindsN fun _ _ _ _ _ _ us hl => match us, hl with | [_, _], _ => rfl⟩
def i_Uncovered : Ini := iniOf T1.gx "Uncovered" p_Uncovered_init.length n_Uncovered_init.length m_Uncovered_init
theorem I_Uncovered (b : Base C base) (ok : TbOk P w C base 2 T1) : ∃ cl fI fd ps, C.mg "Uncovered" = some (.ref cl) ∧ Mk C.K cl fI ∧ FnG P w C base 4 fI fd ps (spIni C "Uncovered" i_Uncovered) ∧ Binds C.K fd ps [] := by
  obtain ⟨fd, F⟩ := F_Uncovered_init b
  exact ⟨_, _, fd, p_Uncovered_init, g_Uncovered b, He.mkr_ok ((b.2.2 pt2 hp2).d.fact 40 rfl), fnG_ini F c_Uncovered_init (by decide) (gxok ok) k_Uncovered_init, F.bindsN fun _ _ _ _ _ _ us hl => match us, hl with | [_, _, _], _ => rfl⟩
def i_Minor : Ini := iniOf T1.gx "Minor" p_Minor_init.length n_Minor_init.length m_Minor_init
theorem I_Minor (b : Base C base) (ok : TbOk P w C base 2 T1) : ∃ cl fI fd ps, C.mg "Minor" = some (.ref cl) ∧ Mk C.K cl fI ∧ FnG P w C base 4 fI fd ps (spIni C "Minor" i_Minor) ∧ Binds C.K fd ps [] := by
  obtain ⟨fd, F⟩ := F_Minor_init b
  exact ⟨_, _, fd, p_Minor_init, g_Minor b, He.mkr_ok ((b.2.2 pt2 hp2).d.fact 45 rfl), fnG_ini F c_Minor_init (by decide) (gxok ok) k_Minor_init, F.bindsN fun _ _ _ _ _ _ us hl => match us, hl with | [_, _, _, _], _ => rfl⟩
def i_Over : Ini := iniOf T1.gx "Over" p_Over_init.length n_Over_init.length m_Over_init
theorem I_Over (b : Base C base) (ok : TbOk P w C base 2 T1) : ∃ cl fI fd ps, C.mg "Over" = some (.ref cl) ∧ Mk C.K cl fI ∧ FnG P w C base 4 fI fd ps (spIni C "Over" i_Over) ∧ Binds C.K fd ps [] := by
  obtain ⟨fd, F⟩ := F_Over_init b
  exact ⟨_, _, fd, p_Over_init, g_Over b, He.mkr_ok ((b.2.2 pt2 hp2).d.fact 51 rfl), fnG_ini F c_Over_init (by decide) (gxok ok) k_Over_init, F.bindsN fun _ _ _ _ _ _ us hl => match us, hl with | [_, _], _ => rfl⟩
def i_Shuts : Ini := iniOf T1.gx "Shuts" p_Shuts_init.length n_Shuts_init.length m_Shuts_init
theorem I_Shuts (b : Base C base) (ok : TbOk P w C base 2 T1) : ∃ cl fI fd ps, C.mg "Shuts" = some (.ref cl) ∧ Mk C.K cl fI ∧ FnG P w C base 4 fI fd ps (spIni C "Shuts" i_Shuts) ∧ Binds C.K fd ps [] := by
  obtain ⟨fd, F⟩ := F_Shuts_init b
  exact ⟨_, _, fd, p_Shuts_init, g_Shuts b, He.mkr_ok ((b.2.2 pt2 hp2).d.fact 55 rfl), fnG_ini F c_Shuts_init (by decide) (gxok ok) k_Shuts_init, F.bindsN fun _ _ _ _ _ _ us hl => match us, hl with | [_, _, _], _ => rfl⟩
def i_GreatestJoin : Ini := iniOf T1.gx "GreatestJoin" p_GreatestJoin_init.length n_GreatestJoin_init.length m_GreatestJoin_init
theorem I_GreatestJoin (b : Base C base) (ok : TbOk P w C base 2 T1) : ∃ cl fI fd ps, C.mg "GreatestJoin" = some (.ref cl) ∧ Mk C.K cl fI ∧ FnG P w C base 4 fI fd ps (spIni C "GreatestJoin" i_GreatestJoin) ∧ Binds C.K fd ps [] := by
  obtain ⟨fd, F⟩ := F_GreatestJoin_init b
  exact ⟨_, _, fd, p_GreatestJoin_init, g_GreatestJoin b, He.mkr_ok ((b.2.2 pt2 hp2).d.fact 60 rfl), fnG_ini F c_GreatestJoin_init (by decide) (gxok ok) k_GreatestJoin_init, F.bindsN fun _ _ _ _ _ _ us hl => match us, hl with | [_, _, _], _ => rfl⟩
def i_Limited : Ini := iniOf T1.gx "Limited" p_Limited_init.length n_Limited_init.length m_Limited_init
theorem I_Limited (b : Base C base) (ok : TbOk P w C base 2 T1) : ∃ cl fI fd ps, C.mg "Limited" = some (.ref cl) ∧ Mk C.K cl fI ∧ FnG P w C base 4 fI fd ps (spIni C "Limited" i_Limited) ∧ Binds C.K fd ps [] := by
  obtain ⟨fd, F⟩ := F_Limited_init b
  exact ⟨_, _, fd, p_Limited_init, g_Limited b, He.mkr_ok ((b.2.2 pt3 hp3).d.fact 2 rfl), fnG_ini F c_Limited_init (by decide) (gxok ok) k_Limited_init, F.bindsN fun _ _ _ _ _ _ us hl => match us, hl with | [_, _, _], _ => rfl⟩
def i_Endless : Ini := iniOf T1.gx "Endless" p_Endless_init.length n_Endless_init.length m_Endless_init
theorem I_Endless (b : Base C base) (ok : TbOk P w C base 2 T1) : ∃ cl fI fd ps, C.mg "Endless" = some (.ref cl) ∧ Mk C.K cl fI ∧ FnG P w C base 4 fI fd ps (spIni C "Endless" i_Endless) ∧ Binds C.K fd ps [] := by
  obtain ⟨fd, F⟩ := F_Endless_init b
  exact ⟨_, _, fd, p_Endless_init, g_Endless b, He.mkr_ok ((b.2.2 pt3 hp3).d.fact 7 rfl), fnG_ini F c_Endless_init (by decide) (gxok ok) k_Endless_init, F.bindsN fun _ _ _ _ _ _ us hl => match us, hl with | [_, _], _ => rfl⟩
def i_Least : Ini := iniOf T1.gx "Least" p_Least_init.length n_Least_init.length m_Least_init
theorem I_Least (b : Base C base) (ok : TbOk P w C base 2 T1) : ∃ cl fI fd ps, C.mg "Least" = some (.ref cl) ∧ Mk C.K cl fI ∧ FnG P w C base 4 fI fd ps (spIni C "Least" i_Least) ∧ Binds C.K fd ps [] := by
  obtain ⟨fd, F⟩ := F_Least_init b
  exact ⟨_, _, fd, p_Least_init, g_Least b, He.mkr_ok ((b.2.2 pt3 hp3).d.fact 11 rfl), fnG_ini F c_Least_init (by decide) (gxok ok) k_Least_init, F.bindsN fun _ _ _ _ _ _ us hl => match us, hl with | [_, _, _], _ => rfl⟩
def i_Port : Ini := iniOf T1.gx "Port" p_Port_init.length n_Port_init.length m_Port_init
theorem I_Port (b : Base C base) (ok : TbOk P w C base 2 T1) : ∃ cl fI fd ps, C.mg "Port" = some (.ref cl) ∧ Mk C.K cl fI ∧ FnG P w C base 4 fI fd ps (spIni C "Port" i_Port) ∧ Binds C.K fd ps [] := by
  obtain ⟨fd, F⟩ := F_Port_init b
  exact ⟨_, _, fd, p_Port_init, g_Port b, He.mkr_ok ((b.2.2 pt3 hp3).d.fact 16 rfl), fnG_ini F c_Port_init (by decide) (gxok ok) k_Port_init, F.bindsN fun _ _ _ _ _ _ us hl => match us, hl with | [_, _], _ => rfl⟩
def i_Costly : Ini := iniOf T1.gx "Costly" p_Costly_init.length n_Costly_init.length m_Costly_init
theorem I_Costly (b : Base C base) (ok : TbOk P w C base 2 T1) : ∃ cl fI fd ps, C.mg "Costly" = some (.ref cl) ∧ Mk C.K cl fI ∧ FnG P w C base 4 fI fd ps (spIni C "Costly" i_Costly) ∧ Binds C.K fd ps [] := by
  obtain ⟨fd, F⟩ := F_Costly_init b
  exact ⟨_, _, fd, p_Costly_init, g_Costly b, He.mkr_ok ((b.2.2 pt3 hp3).d.fact 20 rfl), fnG_ini F c_Costly_init (by decide) (gxok ok) k_Costly_init, F.bindsN fun _ _ _ _ _ _ us hl => match us, hl with | [_, _], _ => rfl⟩
def i_Both : Ini := iniOf T1.gx "Both" p_Both_init.length n_Both_init.length m_Both_init
theorem I_Both (b : Base C base) (ok : TbOk P w C base 2 T1) : ∃ cl fI fd ps, C.mg "Both" = some (.ref cl) ∧ Mk C.K cl fI ∧ FnG P w C base 4 fI fd ps (spIni C "Both" i_Both) ∧ Binds C.K fd ps [] := by
  obtain ⟨fd, F⟩ := F_Both_init b
  exact ⟨_, _, fd, p_Both_init, g_Both b, He.mkr_ok ((b.2.2 pt3 hp3).d.fact 24 rfl), fnG_ini F c_Both_init (by decide) (gxok ok) k_Both_init, F.bindsN fun _ _ _ _ _ _ us hl => match us, hl with | [_, _, _], _ => rfl⟩
def i_Heaviest : Ini := iniOf T1.gx "Heaviest" p_Heaviest_init.length n_Heaviest_init.length m_Heaviest_init
theorem I_Heaviest (b : Base C base) (ok : TbOk P w C base 2 T1) : ∃ cl fI fd ps, C.mg "Heaviest" = some (.ref cl) ∧ Mk C.K cl fI ∧ FnG P w C base 4 fI fd ps (spIni C "Heaviest" i_Heaviest) ∧ Binds C.K fd ps [] := by
  obtain ⟨fd, F⟩ := F_Heaviest_init b
  exact ⟨_, _, fd, p_Heaviest_init, g_Heaviest b, He.mkr_ok ((b.2.2 pt3 hp3).d.fact 29 rfl), fnG_ini F c_Heaviest_init (by decide) (gxok ok) k_Heaviest_init, F.bindsN fun _ _ _ _ _ _ us hl => match us, hl with | [_, _, _], _ => rfl⟩
def i_Flow : Ini := iniOf T1.gx "Flow" p_Flow_init.length n_Flow_init.length m_Flow_init
theorem I_Flow (b : Base C base) (ok : TbOk P w C base 2 T1) : ∃ cl fI fd ps, C.mg "Flow" = some (.ref cl) ∧ Mk C.K cl fI ∧ FnG P w C base 4 fI fd ps (spIni C "Flow" i_Flow) ∧ Binds C.K fd ps [] := by
  obtain ⟨fd, F⟩ := F_Flow_init b
  exact ⟨_, _, fd, p_Flow_init, g_Flow b, He.mkr_ok ((b.2.2 pt3 hp3).d.fact 34 rfl), fnG_ini F c_Flow_init (by decide) (gxok ok) k_Flow_init, F.bindsN fun _ _ _ _ _ _ us hl => match us, hl with | [_, _, _], _ => rfl⟩
def i_Code : Ini := iniOf T1.gx "Code" p_Code_init.length n_Code_init.length m_Code_init
theorem I_Code (b : Base C base) (ok : TbOk P w C base 2 T1) : ∃ cl fI fd ps, C.mg "Code" = some (.ref cl) ∧ Mk C.K cl fI ∧ FnG P w C base 4 fI fd ps (spIni C "Code" i_Code) ∧ Binds C.K fd ps [] := by
  obtain ⟨fd, F⟩ := F_Code_init b
  exact ⟨_, _, fd, p_Code_init, g_Code b, He.mkr_ok ((b.2.2 pt3 hp3).d.fact 39 rfl), fnG_ini F c_Code_init (by decide) (gxok ok) k_Code_init, F.bindsN fun _ _ _ _ _ _ us hl => match us, hl with | [_, _], _ => rfl⟩
def i_Narrow : Ini := iniOf T1.gx "Narrow" p_Narrow_init.length n_Narrow_init.length m_Narrow_init
theorem I_Narrow (b : Base C base) (ok : TbOk P w C base 2 T1) : ∃ cl fI fd ps, C.mg "Narrow" = some (.ref cl) ∧ Mk C.K cl fI ∧ FnG P w C base 4 fI fd ps (spIni C "Narrow" i_Narrow) ∧ Binds C.K fd ps [] := by
  obtain ⟨fd, F⟩ := F_Narrow_init b
  exact ⟨_, _, fd, p_Narrow_init, g_Narrow b, He.mkr_ok ((b.2.2 pt3 hp3).d.fact 43 rfl), fnG_ini F c_Narrow_init (by decide) (gxok ok) k_Narrow_init, F.bindsN fun _ _ _ _ _ _ us hl => match us, hl with | [_, _, _], _ => rfl⟩
def i_Past : Ini := iniOf T1.gx "Past" p_Past_init.length n_Past_init.length m_Past_init
theorem I_Past (b : Base C base) (ok : TbOk P w C base 2 T1) : ∃ cl fI fd ps, C.mg "Past" = some (.ref cl) ∧ Mk C.K cl fI ∧ FnG P w C base 4 fI fd ps (spIni C "Past" i_Past) ∧ Binds C.K fd ps [] := by
  obtain ⟨fd, F⟩ := F_Past_init b
  exact ⟨_, _, fd, p_Past_init, g_Past b, He.mkr_ok ((b.2.2 pt3 hp3).d.fact 48 rfl), fnG_ini F c_Past_init (by decide) (gxok ok) k_Past_init, F.bindsN fun _ _ _ _ _ _ us hl => match us, hl with | [_, _], _ => rfl⟩
def i_Cut : Ini := iniOf T1.gx "Cut" p_Cut_init.length n_Cut_init.length m_Cut_init
theorem I_Cut (b : Base C base) (ok : TbOk P w C base 2 T1) : ∃ cl fI fd ps, C.mg "Cut" = some (.ref cl) ∧ Mk C.K cl fI ∧ FnG P w C base 4 fI fd ps (spIni C "Cut" i_Cut) ∧ Binds C.K fd ps [] := by
  obtain ⟨fd, F⟩ := F_Cut_init b
  exact ⟨_, _, fd, p_Cut_init, g_Cut b, He.mkr_ok ((b.2.2 pt3 hp3).d.fact 52 rfl), fnG_ini F c_Cut_init (by decide) (gxok ok) k_Cut_init, F.bindsN fun _ _ _ _ _ _ us hl => match us, hl with | [_, _], _ => rfl⟩
def i_Hung : Ini := iniOf T1.gx "Hung" p_Hung_init.length n_Hung_init.length m_Hung_init
theorem I_Hung (b : Base C base) (ok : TbOk P w C base 2 T1) : ∃ cl fI fd ps, C.mg "Hung" = some (.ref cl) ∧ Mk C.K cl fI ∧ FnG P w C base 4 fI fd ps (spIni C "Hung" i_Hung) ∧ Binds C.K fd ps [] := by
  obtain ⟨fd, F⟩ := F_Hung_init b
  exact ⟨_, _, fd, p_Hung_init, g_Hung b, He.mkr_ok ((b.2.2 pt3 hp3).d.fact 56 rfl), fnG_ini F c_Hung_init (by decide) (gxok ok) k_Hung_init, F.bindsN fun _ _ _ _ _ _ us hl => match us, hl with | [_, _], _ => rfl⟩
def i_Core : Ini := iniOf T1.gx "Core" p_Core_init.length n_Core_init.length m_Core_init
theorem I_Core (b : Base C base) (ok : TbOk P w C base 2 T1) : ∃ cl fI fd ps, C.mg "Core" = some (.ref cl) ∧ Mk C.K cl fI ∧ FnG P w C base 4 fI fd ps (spIni C "Core" i_Core) ∧ Binds C.K fd ps [] := by
  obtain ⟨fd, F⟩ := F_Core_init b
  exact ⟨_, _, fd, p_Core_init, g_Core b, He.mkr_ok ((b.2.2 pt3 hp3).d.fact 60 rfl), fnG_ini F c_Core_init (by decide) (gxok ok) k_Core_init, F.bindsN fun _ _ _ _ _ _ us hl => match us, hl with | [_, _], _ => rfl⟩
theorem W_Turns (b : Base C base) (ok : TbOk P w C base 2 T1) : MkkOk P w C base 4 "Turns" ["ties"] (fun ds s => mkDen "Turns" true i_Turns ds.reverse s) := by
  obtain ⟨fd, F⟩ := F_Turns_init b
  exact mkk_ok F (fun _ _ _ _ _ _ _ ws hl => match ws, hl with | [_], _ => rfl) (by decide) (He.mkr_ok ((b.2.2 pt1 hp1).d.fact 31 rfl)) (g_Turns b) (fnG_ini F c_Turns_init (by decide) (gxok ok) k_Turns_init)
theorem W_Differs (b : Base C base) (ok : TbOk P w C base 2 T1) : MkkOk P w C base 4 "Differs" ["statement"] (fun ds s => mkDen "Differs" true i_Differs ds.reverse s) := by
  obtain ⟨fd, F⟩ := F_Differs_init b
  exact mkk_ok F (fun _ _ _ _ _ _ _ ws hl => match ws, hl with | [_], _ => rfl) (by decide) (He.mkr_ok ((b.2.2 pt1 hp1).d.fact 35 rfl)) (g_Differs b) (fnG_ini F c_Differs_init (by decide) (gxok ok) k_Differs_init)
theorem W_Chase (b : Base C base) (ok : TbOk P w C base 2 T1) : MkkOk P w C base 4 "Chase" ["steps"] (fun ds s => mkDen "Chase" true i_Chase ds.reverse s) := by
  obtain ⟨fd, F⟩ := F_Chase_init b
  exact mkk_ok F (fun _ _ _ _ _ _ _ ws hl => match ws, hl with | [_], _ => rfl) (by decide) (He.mkr_ok ((b.2.2 pt2 hp2).d.fact 6 rfl)) (g_Chase b) (fnG_ini F c_Chase_init (by decide) (gxok ok) k_Chase_init)
theorem W_Copied (b : Base C base) (ok : TbOk P w C base 2 T1) : MkkOk P w C base 4 "Copied" ["shares", "weights"] (fun ds s => mkDen "Copied" true i_Copied ds.reverse s) := by
  obtain ⟨fd, F⟩ := F_Copied_init b
  exact mkk_ok F (fun _ _ _ _ _ _ _ ws hl => match ws, hl with | [_, _], _ => rfl) (by decide) (He.mkr_ok ((b.2.2 pt2 hp2).d.fact 27 rfl)) (g_Copied b) (fnG_ini F c_Copied_init (by decide) (gxok ok) k_Copied_init)
theorem W_Uncopied (b : Base C base) (ok : TbOk P w C base 2 T1) : MkkOk P w C base 4 "Uncopied" ["ranks"] (fun ds s => mkDen "Uncopied" true i_Uncopied ds.reverse s) := by
  obtain ⟨fd, F⟩ := F_Uncopied_init b
  exact mkk_ok F (fun _ _ _ _ _ _ _ ws hl => match ws, hl with | [_], _ => rfl) (by decide) (He.mkr_ok ((b.2.2 pt2 hp2).d.fact 32 rfl)) (g_Uncopied b) (fnG_ini F c_Uncopied_init (by decide) (gxok ok) k_Uncopied_init)
theorem W_Covers (b : Base C base) (ok : TbOk P w C base 2 T1) : MkkOk P w C base 4 "Covers" ["sums"] (fun ds s => mkDen "Covers" true i_Covers ds.reverse s) := by
  obtain ⟨fd, F⟩ := F_Covers_init b
  exact mkk_ok F (fun _ _ _ _ _ _ _ ws hl => match ws, hl with | [_], _ => rfl) (by decide) (He.mkr_ok ((b.2.2 pt2 hp2).d.fact 36 rfl)) (g_Covers b) (fnG_ini F c_Covers_init (by decide) (gxok ok) k_Covers_init)
theorem W_Uncovered (b : Base C base) (ok : TbOk P w C base 2 T1) : MkkOk P w C base 4 "Uncovered" ["table", "source"] (fun ds s => mkDen "Uncovered" true i_Uncovered ds.reverse s) := by
  obtain ⟨fd, F⟩ := F_Uncovered_init b
  exact mkk_ok F (fun _ _ _ _ _ _ _ ws hl => match ws, hl with | [_, _], _ => rfl) (by decide) (He.mkr_ok ((b.2.2 pt2 hp2).d.fact 40 rfl)) (g_Uncovered b) (fnG_ini F c_Uncovered_init (by decide) (gxok ok) k_Uncovered_init)
theorem W_Over (b : Base C base) (ok : TbOk P w C base 2 T1) : MkkOk P w C base 4 "Over" ["rows"] (fun ds s => mkDen "Over" true i_Over ds.reverse s) := by
  obtain ⟨fd, F⟩ := F_Over_init b
  exact mkk_ok F (fun _ _ _ _ _ _ _ ws hl => match ws, hl with | [_], _ => rfl) (by decide) (He.mkr_ok ((b.2.2 pt2 hp2).d.fact 51 rfl)) (g_Over b) (fnG_ini F c_Over_init (by decide) (gxok ok) k_Over_init)
theorem W_Shuts (b : Base C base) (ok : TbOk P w C base 2 T1) : MkkOk P w C base 4 "Shuts" ["minor", "number"] (fun ds s => mkDen "Shuts" true i_Shuts ds.reverse s) := by
  obtain ⟨fd, F⟩ := F_Shuts_init b
  exact mkk_ok F (fun _ _ _ _ _ _ _ ws hl => match ws, hl with | [_, _], _ => rfl) (by decide) (He.mkr_ok ((b.2.2 pt2 hp2).d.fact 55 rfl)) (g_Shuts b) (fnG_ini F c_Shuts_init (by decide) (gxok ok) k_Shuts_init)
theorem W_Shown (b : Base C base) (ok : TbOk P w C base 2 T1) : MkkOk P w C base 4 "Shown" ["rows", "many"] (fun ds s => mkDen "Shown" true i_Shown ds.reverse s) := by
  obtain ⟨fd, F⟩ := F_Shown_init b
  exact mkk_ok F (fun _ _ _ _ _ _ _ ws hl => match ws, hl with | [_, _], _ => rfl) (by decide) (He.mkr_ok ((b.2.2 pt2 hp2).d.fact 10 rfl)) (g_Shown b) (fnG_ini F c_Shown_init (by decide) (gxok ok) k_Shown_init)
theorem W_Unshown (b : Base C base) (ok : TbOk P w C base 2 T1) : MkkOk P w C base 4 "Unshown" ["name"] (fun ds s => mkDen "Unshown" true i_Unshown ds.reverse s) := by
  obtain ⟨fd, F⟩ := F_Unshown_init b
  exact mkk_ok F (fun _ _ _ _ _ _ _ ws hl => match ws, hl with | [_], _ => rfl) (by decide) (He.mkr_ok ((b.2.2 pt2 hp2).d.fact 15 rfl)) (g_Unshown b) (fnG_ini F c_Unshown_init (by decide) (gxok ok) k_Unshown_init)
theorem W_RowSum (b : Base C base) (ok : TbOk P w C base 2 T1) : MkkOk P w C base 4 "RowSum" ["weights"] (fun ds s => mkDen "RowSum" true i_RowSum ds.reverse s) := by
  obtain ⟨fd, F⟩ := F_RowSum_init b
  exact mkk_ok F (fun _ _ _ _ _ _ _ ws hl => match ws, hl with | [_], _ => rfl) (by decide) (He.mkr_ok ((b.2.2 pt2 hp2).d.fact 19 rfl)) (g_RowSum b) (fnG_ini F c_RowSum_init (by decide) (gxok ok) k_RowSum_init)
theorem W_RowsBreak (b : Base C base) (ok : TbOk P w C base 2 T1) : MkkOk P w C base 4 "RowsBreak" ["rows"] (fun ds s => mkDen "RowsBreak" true i_RowsBreak ds.reverse s) := by
  obtain ⟨fd, F⟩ := F_RowsBreak_init b
  exact mkk_ok F (fun _ _ _ _ _ _ _ ws hl => match ws, hl with | [_], _ => rfl) (by decide) (He.mkr_ok ((b.2.2 pt2 hp2).d.fact 23 rfl)) (g_RowsBreak b) (fnG_ini F c_RowsBreak_init (by decide) (gxok ok) k_RowsBreak_init)
theorem W_GreatestJoin (b : Base C base) (ok : TbOk P w C base 2 T1) : MkkOk P w C base 4 "GreatestJoin" ["heights", "weights"] (fun ds s => mkDen "GreatestJoin" true i_GreatestJoin ds.reverse s) := by
  obtain ⟨fd, F⟩ := F_GreatestJoin_init b
  exact mkk_ok F (fun _ _ _ _ _ _ _ ws hl => match ws, hl with | [_, _], _ => rfl) (by decide) (He.mkr_ok ((b.2.2 pt2 hp2).d.fact 60 rfl)) (g_GreatestJoin b) (fnG_ini F c_GreatestJoin_init (by decide) (gxok ok) k_GreatestJoin_init)
theorem W_Limited (b : Base C base) (ok : TbOk P w C base 2 T1) : MkkOk P w C base 4 "Limited" ["heights", "weights"] (fun ds s => mkDen "Limited" true i_Limited ds.reverse s) := by
  obtain ⟨fd, F⟩ := F_Limited_init b
  exact mkk_ok F (fun _ _ _ _ _ _ _ ws hl => match ws, hl with | [_, _], _ => rfl) (by decide) (He.mkr_ok ((b.2.2 pt3 hp3).d.fact 2 rfl)) (g_Limited b) (fnG_ini F c_Limited_init (by decide) (gxok ok) k_Limited_init)
theorem W_Endless (b : Base C base) (ok : TbOk P w C base 2 T1) : MkkOk P w C base 4 "Endless" ["source"] (fun ds s => mkDen "Endless" true i_Endless ds.reverse s) := by
  obtain ⟨fd, F⟩ := F_Endless_init b
  exact mkk_ok F (fun _ _ _ _ _ _ _ ws hl => match ws, hl with | [_], _ => rfl) (by decide) (He.mkr_ok ((b.2.2 pt3 hp3).d.fact 7 rfl)) (g_Endless b) (fnG_ini F c_Endless_init (by decide) (gxok ok) k_Endless_init)
theorem W_Open (b : Base C base) (ok : TbOk P w C base 2 T1) : MkkOk P w C base 4 "Open" ["way"] (fun ds s => mkDen "Open" true i_Open ds.reverse s) := by
  obtain ⟨fd, F⟩ := F_Open_init b
  exact mkk_ok F (fun _ _ _ _ _ _ _ ws hl => match ws, hl with | [_], _ => rfl) (by decide) (He.mkr_ok ((b.2.2 pt1 hp1).d.fact 23 rfl)) (g_Open b) (fnG_ini F c_Open_init (by decide) (gxok ok) k_Open_init)
theorem W_Shut (b : Base C base) (ok : TbOk P w C base 2 T1) : MkkOk P w C base 4 "Shut" ["lot"] (fun ds s => mkDen "Shut" true i_Shut ds.reverse s) := by
  obtain ⟨fd, F⟩ := F_Shut_init b
  exact mkk_ok F (fun _ _ _ _ _ _ _ ws hl => match ws, hl with | [_], _ => rfl) (by decide) (He.mkr_ok ((b.2.2 pt1 hp1).d.fact 27 rfl)) (g_Shut b) (fnG_ini F c_Shut_init (by decide) (gxok ok) k_Shut_init)
theorem W_Minor (b : Base C base) (ok : TbOk P w C base 2 T1) : MkkOk P w C base 4 "Minor" ["names", "left", "given"] (fun ds s => mkDen "Minor" true i_Minor ds.reverse s) := by
  obtain ⟨fd, F⟩ := F_Minor_init b
  exact mkk_ok F (fun _ _ _ _ _ _ _ ws hl => match ws, hl with | [_, _, _], _ => rfl) (by decide) (He.mkr_ok ((b.2.2 pt2 hp2).d.fact 45 rfl)) (g_Minor b) (fnG_ini F c_Minor_init (by decide) (gxok ok) k_Minor_init)
theorem W_Both (b : Base C base) (ok : TbOk P w C base 2 T1) : MkkOk P w C base 4 "Both" ["part", "lot"] (fun ds s => mkDen "Both" true i_Both ds.reverse s) := by
  obtain ⟨fd, F⟩ := F_Both_init b
  exact mkk_ok F (fun _ _ _ _ _ _ _ ws hl => match ws, hl with | [_, _], _ => rfl) (by decide) (He.mkr_ok ((b.2.2 pt3 hp3).d.fact 24 rfl)) (g_Both b) (fnG_ini F c_Both_init (by decide) (gxok ok) k_Both_init)
theorem W_Heaviest (b : Base C base) (ok : TbOk P w C base 2 T1) : MkkOk P w C base 4 "Heaviest" ["drops", "lot"] (fun ds s => mkDen "Heaviest" true i_Heaviest ds.reverse s) := by
  obtain ⟨fd, F⟩ := F_Heaviest_init b
  exact mkk_ok F (fun _ _ _ _ _ _ _ ws hl => match ws, hl with | [_, _], _ => rfl) (by decide) (He.mkr_ok ((b.2.2 pt3 hp3).d.fact 29 rfl)) (g_Heaviest b) (fnG_ini F c_Heaviest_init (by decide) (gxok ok) k_Heaviest_init)
theorem W_Flow (b : Base C base) (ok : TbOk P w C base 2 T1) : MkkOk P w C base 4 "Flow" ["lot", "ways"] (fun ds s => mkDen "Flow" true i_Flow ds.reverse s) := by
  obtain ⟨fd, F⟩ := F_Flow_init b
  exact mkk_ok F (fun _ _ _ _ _ _ _ ws hl => match ws, hl with | [_, _], _ => rfl) (by decide) (He.mkr_ok ((b.2.2 pt3 hp3).d.fact 34 rfl)) (g_Flow b) (fnG_ini F c_Flow_init (by decide) (gxok ok) k_Flow_init)
theorem W_Code (b : Base C base) (ok : TbOk P w C base 2 T1) : MkkOk P w C base 4 "Code" ["rows"] (fun ds s => mkDen "Code" true i_Code ds.reverse s) := by
  obtain ⟨fd, F⟩ := F_Code_init b
  exact mkk_ok F (fun _ _ _ _ _ _ _ ws hl => match ws, hl with | [_], _ => rfl) (by decide) (He.mkr_ok ((b.2.2 pt3 hp3).d.fact 39 rfl)) (g_Code b) (fnG_ini F c_Code_init (by decide) (gxok ok) k_Code_init)
theorem W_Narrow (b : Base C base) (ok : TbOk P w C base 2 T1) : MkkOk P w C base 4 "Narrow" ["lot", "sink"] (fun ds s => mkDen "Narrow" true i_Narrow ds.reverse s) := by
  obtain ⟨fd, F⟩ := F_Narrow_init b
  exact mkk_ok F (fun _ _ _ _ _ _ _ ws hl => match ws, hl with | [_, _], _ => rfl) (by decide) (He.mkr_ok ((b.2.2 pt3 hp3).d.fact 43 rfl)) (g_Narrow b) (fnG_ini F c_Narrow_init (by decide) (gxok ok) k_Narrow_init)
theorem W_Sum (b : Base C base) (ok : TbOk P w C base 2 T1) : MkkOk P w C base 4 "Sum" ["weights"] (fun ds s => mkDen "Sum" true i_Sum ds.reverse s) := by
  obtain ⟨fd, F⟩ := F_Sum_init b
  exact mkk_ok F (fun _ _ _ _ _ _ _ ws hl => match ws, hl with | [_], _ => rfl) (by decide) (He.mkr_ok ((b.2.2 pt1 hp1).d.fact 2 rfl)) (g_Sum b) (fnG_ini F c_Sum_init (by decide) (gxok ok) k_Sum_init)
theorem W_Broken (b : Base C base) (ok : TbOk P w C base 2 T1) : MkkOk P w C base 4 "Broken" ["ranks"] (fun ds s => mkDen "Broken" true i_Broken ds.reverse s) := by
  obtain ⟨fd, F⟩ := F_Broken_init b
  exact mkk_ok F (fun _ _ _ _ _ _ _ ws hl => match ws, hl with | [_], _ => rfl) (by decide) (He.mkr_ok ((b.2.2 pt1 hp1).d.fact 6 rfl)) (g_Broken b) (fnG_ini F c_Broken_init (by decide) (gxok ok) k_Broken_init)
theorem W_Greatest (b : Base C base) (ok : TbOk P w C base 2 T1) : MkkOk P w C base 4 "Greatest" ["weights", "ranks"] (fun ds s => mkDen "Greatest" true i_Greatest ds.reverse s) := by
  obtain ⟨fd, F⟩ := F_Greatest_init b
  exact mkk_ok F (fun _ _ _ _ _ _ _ ws hl => match ws, hl with | [_, _], _ => rfl) (by decide) (He.mkr_ok ((b.2.2 pt1 hp1).d.fact 10 rfl)) (g_Greatest b) (fnG_ini F c_Greatest_init (by decide) (gxok ok) k_Greatest_init)
theorem W_Derived (b : Base C base) (ok : TbOk P w C base 2 T1) : MkkOk P w C base 4 "Derived" ["numbers"] (fun ds s => mkDen "Derived" true i_Derived ds.reverse s) := by
  obtain ⟨fd, F⟩ := F_Derived_init b
  exact mkk_ok F (fun _ _ _ _ _ _ _ ws hl => match ws, hl with | [_], _ => rfl) (by decide) (He.mkr_ok ((b.2.2 pt1 hp1).d.fact 59 rfl)) (g_Derived b) (fnG_ini F c_Derived_init (by decide) (gxok ok) k_Derived_init)
theorem W_Parting (b : Base C base) (ok : TbOk P w C base 2 T1) : MkkOk P w C base 4 "Parting" ["table"] (fun ds s => mkDen "Parting" true i_Parting ds.reverse s) := by
  obtain ⟨fd, F⟩ := F_Parting_init b
  exact mkk_ok F (fun _ _ _ _ _ _ _ ws hl => match ws, hl with | [_], _ => rfl) (by decide) (He.mkr_ok ((b.2.2 pt2 hp2).d.fact 2 rfl)) (g_Parting b) (fnG_ini F c_Parting_init (by decide) (gxok ok) k_Parting_init)
theorem W_Least (b : Base C base) (ok : TbOk P w C base 2 T1) : MkkOk P w C base 4 "Least" ["weights", "ranks"] (fun ds s => mkDen "Least" true i_Least ds.reverse s) := by
  obtain ⟨fd, F⟩ := F_Least_init b
  exact mkk_ok F (fun _ _ _ _ _ _ _ ws hl => match ws, hl with | [_, _], _ => rfl) (by decide) (He.mkr_ok ((b.2.2 pt3 hp3).d.fact 11 rfl)) (g_Least b) (fnG_ini F c_Least_init (by decide) (gxok ok) k_Least_init)
theorem W_Port (b : Base C base) (ok : TbOk P w C base 2 T1) : MkkOk P w C base 4 "Port" ["ranks"] (fun ds s => mkDen "Port" true i_Port ds.reverse s) := by
  obtain ⟨fd, F⟩ := F_Port_init b
  exact mkk_ok F (fun _ _ _ _ _ _ _ ws hl => match ws, hl with | [_], _ => rfl) (by decide) (He.mkr_ok ((b.2.2 pt3 hp3).d.fact 16 rfl)) (g_Port b) (fnG_ini F c_Port_init (by decide) (gxok ok) k_Port_init)
theorem W_Costly (b : Base C base) (ok : TbOk P w C base 2 T1) : MkkOk P w C base 4 "Costly" ["weights"] (fun ds s => mkDen "Costly" true i_Costly ds.reverse s) := by
  obtain ⟨fd, F⟩ := F_Costly_init b
  exact mkk_ok F (fun _ _ _ _ _ _ _ ws hl => match ws, hl with | [_], _ => rfl) (by decide) (He.mkr_ok ((b.2.2 pt3 hp3).d.fact 20 rfl)) (g_Costly b) (fnG_ini F c_Costly_init (by decide) (gxok ok) k_Costly_init)
theorem W_Drawn (b : Base C base) (ok : TbOk P w C base 2 T1) : MkkOk P w C base 4 "Drawn" ["steps"] (fun ds s => mkDen "Drawn" true i_Drawn ds.reverse s) := by
  obtain ⟨fd, F⟩ := F_Drawn_init b
  exact mkk_ok F (fun _ _ _ _ _ _ _ ws hl => match ws, hl with | [_], _ => rfl) (by decide) (He.mkr_ok ((b.2.2 pt1 hp1).d.fact 15 rfl)) (g_Drawn b) (fnG_ini F c_Drawn_init (by decide) (gxok ok) k_Drawn_init)
theorem W_Lacking (b : Base C base) (ok : TbOk P w C base 2 T1) : MkkOk P w C base 4 "Lacking" ["rows"] (fun ds s => mkDen "Lacking" true i_Lacking ds.reverse s) := by
  obtain ⟨fd, F⟩ := F_Lacking_init b
  exact mkk_ok F (fun _ _ _ _ _ _ _ ws hl => match ws, hl with | [_], _ => rfl) (by decide) (He.mkr_ok ((b.2.2 pt1 hp1).d.fact 19 rfl)) (g_Lacking b) (fnG_ini F c_Lacking_init (by decide) (gxok ok) k_Lacking_init)
theorem W_Even (b : Base C base) (ok : TbOk P w C base 2 T1) : MkkOk P w C base 4 "Even" ["times"] (fun ds s => mkDen "Even" true i_Even ds.reverse s) := by
  obtain ⟨fd, F⟩ := F_Even_init b
  exact mkk_ok F (fun _ _ _ _ _ _ _ ws hl => match ws, hl with | [_], _ => rfl) (by decide) (He.mkr_ok ((b.2.2 pt1 hp1).d.fact 39 rfl)) (g_Even b) (fnG_ini F c_Even_init (by decide) (gxok ok) k_Even_init)
theorem W_Uneven (b : Base C base) (ok : TbOk P w C base 2 T1) : MkkOk P w C base 4 "Uneven" ["other", "one", "lot"] (fun ds s => mkDen "Uneven" true i_Uneven ds.reverse s) := by
  obtain ⟨fd, F⟩ := F_Uneven_init b
  exact mkk_ok F (fun _ _ _ _ _ _ _ ws hl => match ws, hl with | [_, _, _], _ => rfl) (by decide) (He.mkr_ok ((b.2.2 pt1 hp1).d.fact 43 rfl)) (g_Uneven b) (fnG_ini F c_Uneven_init (by decide) (gxok ok) k_Uneven_init)
theorem W_IsApart (b : Base C base) (ok : TbOk P w C base 2 T1) : MkkOk P w C base 4 "IsApart" ["times"] (fun ds s => mkDen "IsApart" true i_IsApart ds.reverse s) := by
  obtain ⟨fd, F⟩ := F_IsApart_init b
  exact mkk_ok F (fun _ _ _ _ _ _ _ ws hl => match ws, hl with | [_], _ => rfl) (by decide) (He.mkr_ok ((b.2.2 pt1 hp1).d.fact 49 rfl)) (g_IsApart b) (fnG_ini F c_IsApart_init (by decide) (gxok ok) k_IsApart_init)
theorem W_IsTied (b : Base C base) (ok : TbOk P w C base 2 T1) : MkkOk P w C base 4 "IsTied" ["given", "other", "one"] (fun ds s => mkDen "IsTied" true i_IsTied ds.reverse s) := by
  obtain ⟨fd, F⟩ := F_IsTied_init b
  exact mkk_ok F (fun _ _ _ _ _ _ _ ws hl => match ws, hl with | [_, _, _], _ => rfl) (by decide) (He.mkr_ok ((b.2.2 pt1 hp1).d.fact 53 rfl)) (g_IsTied b) (fnG_ini F c_IsTied_init (by decide) (gxok ok) k_IsTied_init)
theorem W_Past (b : Base C base) (ok : TbOk P w C base 2 T1) : MkkOk P w C base 4 "Past" ["way"] (fun ds s => mkDen "Past" true i_Past ds.reverse s) := by
  obtain ⟨fd, F⟩ := F_Past_init b
  exact mkk_ok F (fun _ _ _ _ _ _ _ ws hl => match ws, hl with | [_], _ => rfl) (by decide) (He.mkr_ok ((b.2.2 pt3 hp3).d.fact 48 rfl)) (g_Past b) (fnG_ini F c_Past_init (by decide) (gxok ok) k_Past_init)
theorem W_Cut (b : Base C base) (ok : TbOk P w C base 2 T1) : MkkOk P w C base 4 "Cut" ["lot"] (fun ds s => mkDen "Cut" true i_Cut ds.reverse s) := by
  obtain ⟨fd, F⟩ := F_Cut_init b
  exact mkk_ok F (fun _ _ _ _ _ _ _ ws hl => match ws, hl with | [_], _ => rfl) (by decide) (He.mkr_ok ((b.2.2 pt3 hp3).d.fact 52 rfl)) (g_Cut b) (fnG_ini F c_Cut_init (by decide) (gxok ok) k_Cut_init)
theorem W_Hung (b : Base C base) (ok : TbOk P w C base 2 T1) : MkkOk P w C base 4 "Hung" ["parents"] (fun ds s => mkDen "Hung" true i_Hung ds.reverse s) := by
  obtain ⟨fd, F⟩ := F_Hung_init b
  exact mkk_ok F (fun _ _ _ _ _ _ _ ws hl => match ws, hl with | [_], _ => rfl) (by decide) (He.mkr_ok ((b.2.2 pt3 hp3).d.fact 56 rfl)) (g_Hung b) (fnG_ini F c_Hung_init (by decide) (gxok ok) k_Hung_init)
theorem W_Core (b : Base C base) (ok : TbOk P w C base 2 T1) : MkkOk P w C base 4 "Core" ["lot"] (fun ds s => mkDen "Core" true i_Core ds.reverse s) := by
  obtain ⟨fd, F⟩ := F_Core_init b
  exact mkk_ok F (fun _ _ _ _ _ _ _ ws hl => match ws, hl with | [_], _ => rfl) (by decide) (He.mkr_ok ((b.2.2 pt3 hp3).d.fact 60 rfl)) (g_Core b) (fnG_ini F c_Core_init (by decide) (gxok ok) k_Core_init)
def T2 : Tb := { T1 with fn := ("_law_pick", e__law_pick) :: T1.fn, ini := ("Sum", i_Sum) :: ("Broken", i_Broken) :: ("Greatest", i_Greatest) :: ("Drawn", i_Drawn) :: ("Lacking", i_Lacking) :: ("Open", i_Open) :: ("Shut", i_Shut) :: ("Turns", i_Turns) :: ("Differs", i_Differs) :: ("Even", i_Even) :: ("Uneven", i_Uneven) :: ("IsApart", i_IsApart) :: ("IsTied", i_IsTied) :: ("Derived", i_Derived) :: ("Parting", i_Parting) :: ("Chase", i_Chase) :: ("Shown", i_Shown) :: ("Unshown", i_Unshown) :: ("RowSum", i_RowSum) :: ("RowsBreak", i_RowsBreak) :: ("Copied", i_Copied) :: ("Uncopied", i_Uncopied) :: ("Covers", i_Covers) :: ("Uncovered", i_Uncovered) :: ("Minor", i_Minor) :: ("Over", i_Over) :: ("Shuts", i_Shuts) :: ("GreatestJoin", i_GreatestJoin) :: ("Limited", i_Limited) :: ("Endless", i_Endless) :: ("Least", i_Least) :: ("Port", i_Port) :: ("Costly", i_Costly) :: ("Both", i_Both) :: ("Heaviest", i_Heaviest) :: ("Flow", i_Flow) :: ("Code", i_Code) :: ("Narrow", i_Narrow) :: ("Past", i_Past) :: ("Cut", i_Cut) :: ("Hung", i_Hung) :: ("Core", i_Core) :: T1.ini, kw := (("Turns", ["ties"]), fun ds s => mkDen "Turns" true i_Turns ds.reverse s) :: (("Differs", ["statement"]), fun ds s => mkDen "Differs" true i_Differs ds.reverse s) :: (("Chase", ["steps"]), fun ds s => mkDen "Chase" true i_Chase ds.reverse s) :: (("Copied", ["shares", "weights"]), fun ds s => mkDen "Copied" true i_Copied ds.reverse s) :: (("Uncopied", ["ranks"]), fun ds s => mkDen "Uncopied" true i_Uncopied ds.reverse s) :: (("Covers", ["sums"]), fun ds s => mkDen "Covers" true i_Covers ds.reverse s) :: (("Uncovered", ["table", "source"]), fun ds s => mkDen "Uncovered" true i_Uncovered ds.reverse s) :: (("Over", ["rows"]), fun ds s => mkDen "Over" true i_Over ds.reverse s) :: (("Shuts", ["minor", "number"]), fun ds s => mkDen "Shuts" true i_Shuts ds.reverse s) :: (("Shown", ["rows", "many"]), fun ds s => mkDen "Shown" true i_Shown ds.reverse s) :: (("Unshown", ["name"]), fun ds s => mkDen "Unshown" true i_Unshown ds.reverse s) :: (("RowSum", ["weights"]), fun ds s => mkDen "RowSum" true i_RowSum ds.reverse s) :: (("RowsBreak", ["rows"]), fun ds s => mkDen "RowsBreak" true i_RowsBreak ds.reverse s) :: (("GreatestJoin", ["heights", "weights"]), fun ds s => mkDen "GreatestJoin" true i_GreatestJoin ds.reverse s) :: (("Limited", ["heights", "weights"]), fun ds s => mkDen "Limited" true i_Limited ds.reverse s) :: (("Endless", ["source"]), fun ds s => mkDen "Endless" true i_Endless ds.reverse s) :: (("Open", ["way"]), fun ds s => mkDen "Open" true i_Open ds.reverse s) :: (("Shut", ["lot"]), fun ds s => mkDen "Shut" true i_Shut ds.reverse s) :: (("Minor", ["names", "left", "given"]), fun ds s => mkDen "Minor" true i_Minor ds.reverse s) :: (("Both", ["part", "lot"]), fun ds s => mkDen "Both" true i_Both ds.reverse s) :: (("Heaviest", ["drops", "lot"]), fun ds s => mkDen "Heaviest" true i_Heaviest ds.reverse s) :: (("Flow", ["lot", "ways"]), fun ds s => mkDen "Flow" true i_Flow ds.reverse s) :: (("Code", ["rows"]), fun ds s => mkDen "Code" true i_Code ds.reverse s) :: (("Narrow", ["lot", "sink"]), fun ds s => mkDen "Narrow" true i_Narrow ds.reverse s) :: (("Sum", ["weights"]), fun ds s => mkDen "Sum" true i_Sum ds.reverse s) :: (("Broken", ["ranks"]), fun ds s => mkDen "Broken" true i_Broken ds.reverse s) :: (("Greatest", ["weights", "ranks"]), fun ds s => mkDen "Greatest" true i_Greatest ds.reverse s) :: (("Derived", ["numbers"]), fun ds s => mkDen "Derived" true i_Derived ds.reverse s) :: (("Parting", ["table"]), fun ds s => mkDen "Parting" true i_Parting ds.reverse s) :: (("Least", ["weights", "ranks"]), fun ds s => mkDen "Least" true i_Least ds.reverse s) :: (("Port", ["ranks"]), fun ds s => mkDen "Port" true i_Port ds.reverse s) :: (("Costly", ["weights"]), fun ds s => mkDen "Costly" true i_Costly ds.reverse s) :: (("Drawn", ["steps"]), fun ds s => mkDen "Drawn" true i_Drawn ds.reverse s) :: (("Lacking", ["rows"]), fun ds s => mkDen "Lacking" true i_Lacking ds.reverse s) :: (("Even", ["times"]), fun ds s => mkDen "Even" true i_Even ds.reverse s) :: (("Uneven", ["other", "one", "lot"]), fun ds s => mkDen "Uneven" true i_Uneven ds.reverse s) :: (("IsApart", ["times"]), fun ds s => mkDen "IsApart" true i_IsApart ds.reverse s) :: (("IsTied", ["given", "other", "one"]), fun ds s => mkDen "IsTied" true i_IsTied ds.reverse s) :: (("Past", ["way"]), fun ds s => mkDen "Past" true i_Past ds.reverse s) :: (("Cut", ["lot"]), fun ds s => mkDen "Cut" true i_Cut ds.reverse s) :: (("Hung", ["parents"]), fun ds s => mkDen "Hung" true i_Hung ds.reverse s) :: (("Core", ["lot"]), fun ds s => mkDen "Core" true i_Core ds.reverse s) :: T1.kw }
theorem ok2 (b : Base C base) (ok : TbOk P w C base 2 T1) : TbOk P w C base 4 T2 :=
  { fn := allm_cons (D__law_pick b ok) (fun q hq => (ok.fn q hq).mono (by decide)), con := ok.con, ini := allm_cons (I_Sum b ok) (allm_cons (I_Broken b ok) (allm_cons (I_Greatest b ok) (allm_cons (I_Drawn b ok) (allm_cons (I_Lacking b ok) (allm_cons (I_Open b ok) (allm_cons (I_Shut b ok) (allm_cons (I_Turns b ok) (allm_cons (I_Differs b ok) (allm_cons (I_Even b ok) (allm_cons (I_Uneven b ok) (allm_cons (I_IsApart b ok) (allm_cons (I_IsTied b ok) (allm_cons (I_Derived b ok) (allm_cons (I_Parting b ok) (allm_cons (I_Chase b ok) (allm_cons (I_Shown b ok) (allm_cons (I_Unshown b ok) (allm_cons (I_RowSum b ok) (allm_cons (I_RowsBreak b ok) (allm_cons (I_Copied b ok) (allm_cons (I_Uncopied b ok) (allm_cons (I_Covers b ok) (allm_cons (I_Uncovered b ok) (allm_cons (I_Minor b ok) (allm_cons (I_Over b ok) (allm_cons (I_Shuts b ok) (allm_cons (I_GreatestJoin b ok) (allm_cons (I_Limited b ok) (allm_cons (I_Endless b ok) (allm_cons (I_Least b ok) (allm_cons (I_Port b ok) (allm_cons (I_Costly b ok) (allm_cons (I_Both b ok) (allm_cons (I_Heaviest b ok) (allm_cons (I_Flow b ok) (allm_cons (I_Code b ok) (allm_cons (I_Narrow b ok) (allm_cons (I_Past b ok) (allm_cons (I_Cut b ok) (allm_cons (I_Hung b ok) (allm_cons (I_Core b ok) (fun q hq => ini_mono (by decide) (ok.ini q hq))))))))))))))))))))))))))))))))))))))))))), kw := allm_cons (W_Turns b ok) (allm_cons (W_Differs b ok) (allm_cons (W_Chase b ok) (allm_cons (W_Copied b ok) (allm_cons (W_Uncopied b ok) (allm_cons (W_Covers b ok) (allm_cons (W_Uncovered b ok) (allm_cons (W_Over b ok) (allm_cons (W_Shuts b ok) (allm_cons (W_Shown b ok) (allm_cons (W_Unshown b ok) (allm_cons (W_RowSum b ok) (allm_cons (W_RowsBreak b ok) (allm_cons (W_GreatestJoin b ok) (allm_cons (W_Limited b ok) (allm_cons (W_Endless b ok) (allm_cons (W_Open b ok) (allm_cons (W_Shut b ok) (allm_cons (W_Minor b ok) (allm_cons (W_Both b ok) (allm_cons (W_Heaviest b ok) (allm_cons (W_Flow b ok) (allm_cons (W_Code b ok) (allm_cons (W_Narrow b ok) (allm_cons (W_Sum b ok) (allm_cons (W_Broken b ok) (allm_cons (W_Greatest b ok) (allm_cons (W_Derived b ok) (allm_cons (W_Parting b ok) (allm_cons (W_Least b ok) (allm_cons (W_Port b ok) (allm_cons (W_Costly b ok) (allm_cons (W_Drawn b ok) (allm_cons (W_Lacking b ok) (allm_cons (W_Even b ok) (allm_cons (W_Uneven b ok) (allm_cons (W_IsApart b ok) (allm_cons (W_IsTied b ok) (allm_cons (W_Past b ok) (allm_cons (W_Cut b ok) (allm_cons (W_Hung b ok) (allm_cons (W_Core b ok) (fun q hq => kw_mono (by decide) (ok.kw q hq))))))))))))))))))))))))))))))))))))))))))), cls := ok.cls, sub := ok.sub, isT := ok.isT, fld := ok.fld, free := ok.free, sys := ok.sys }
def e__law_made_a : Den := denOf T2.gx p__law_made_a.length n__law_made_a.length m__law_made_a
theorem D__law_made_a (b : Base C base) (ok : TbOk P w C base 4 T2) : DefOk P w C base 6 "_law_made_a" e__law_made_a := by
  obtain ⟨fd, F⟩ := F__law_made_a b
  exact def_ok F c__law_made_a (by decide) (g__law_made_a b) (F.bindsN fun _ _ _ _ _ _ us hl => match us, hl with | [_, _, _], _ => rfl) (gxok ok) k__law_made_a
def e__law_made_b : Den := denOf T2.gx p__law_made_b.length n__law_made_b.length m__law_made_b
theorem D__law_made_b (b : Base C base) (ok : TbOk P w C base 4 T2) : DefOk P w C base 6 "_law_made_b" e__law_made_b := by
  obtain ⟨fd, F⟩ := F__law_made_b b
  exact def_ok F c__law_made_b (by decide) (g__law_made_b b) (F.bindsN fun _ _ _ _ _ _ us hl => match us, hl with | [_, _, _], _ => rfl) (gxok ok) k__law_made_b
def e__law_made_c : Den := denOf T2.gx p__law_made_c.length n__law_made_c.length m__law_made_c
theorem D__law_made_c (b : Base C base) (ok : TbOk P w C base 4 T2) : DefOk P w C base 6 "_law_made_c" e__law_made_c := by
  obtain ⟨fd, F⟩ := F__law_made_c b
  exact def_ok F c__law_made_c (by decide) (g__law_made_c b) (F.bindsN fun _ _ _ _ _ _ us hl => match us, hl with | [_, _, _], _ => rfl) (gxok ok) k__law_made_c
def e__law_made_d : Den := denOf T2.gx p__law_made_d.length n__law_made_d.length m__law_made_d
theorem D__law_made_d (b : Base C base) (ok : TbOk P w C base 4 T2) : DefOk P w C base 6 "_law_made_d" e__law_made_d := by
  obtain ⟨fd, F⟩ := F__law_made_d b
  exact def_ok F c__law_made_d (by decide) (g__law_made_d b) (F.bindsN fun _ _ _ _ _ _ us hl => match us, hl with | [_, _, _], _ => rfl) (gxok ok) k__law_made_d
def e__law_value : Den := denOf T2.gx p__law_value.length n__law_value.length m__law_value
theorem D__law_value (b : Base C base) (ok : TbOk P w C base 4 T2) : DefOk P w C base 6 "_law_value" e__law_value := by
  obtain ⟨fd, F⟩ := F__law_value b
  exact def_ok F c__law_value (by decide) (g__law_value b) (F.bindsN fun _ _ _ _ _ _ us hl => match us, hl with | [_], _ => rfl) (gxok ok) k__law_value
def T3 : Tb := { T2 with fn := ("_law_made_a", e__law_made_a) :: ("_law_made_b", e__law_made_b) :: ("_law_made_c", e__law_made_c) :: ("_law_made_d", e__law_made_d) :: ("_law_value", e__law_value) :: T2.fn, ini :=  T2.ini, kw :=  T2.kw }
theorem ok3 (b : Base C base) (ok : TbOk P w C base 4 T2) : TbOk P w C base 6 T3 :=
  { fn := allm_cons (D__law_made_a b ok) (allm_cons (D__law_made_b b ok) (allm_cons (D__law_made_c b ok) (allm_cons (D__law_made_d b ok) (allm_cons (D__law_value b ok) (fun q hq => (ok.fn q hq).mono (by decide)))))), con := ok.con, ini := fun q hq => ini_mono (by decide) (ok.ini q hq), kw := fun q hq => kw_mono (by decide) (ok.kw q hq), cls := ok.cls, sub := ok.sub, isT := ok.isT, fld := ok.fld, free := ok.free, sys := ok.sys }
theorem okA (b : Base C base) : TbOk P w C base 6 T3 := ok3 b (ok2 b (ok1 b (ok0 b)))
end
end Mk
set_option Elab.async false
set_option linter.all false
set_option maxRecDepth 100000
set_option maxHeartbeats 2000000
/-! Law82: the law's own def. -/
namespace Mk
open PySem PySem.Spec PyProof.Rows L2 Mp
def nl : List Str := ["script", "pen", "values", "k", "a", "b", "c", "value", "rows", "more", "one", "two", "kind", "first", "second", "handed", "due", "other", "kept", "before"]
def m_law : Ss := (.cons (.asg 2 {} (.lc (.v 3) (.rng1 (.lit (.int 3))) .no (.call "_law_value" (.cons (.var 1) .nil)))) (.cons (.unp [4, 5, 6] {} (.lc (.v 7) (.e (.var 2)) .no (.ifx (.isi (.var 7) (.ty "list")) (.bi .list (.cons (.var 7) .nil)) (.var 7)))) (.cons (.asg 8 {} (.lst .nil)) (.cons (.for_ (.v 9) (.e (.lst (.cons (.call "_law_made_a" (.cons (.var 4) (.cons (.var 5) (.cons (.var 6) .nil)))) (.cons (.call "_law_made_b" (.cons (.var 4) (.cons (.var 5) (.cons (.var 6) .nil)))) (.cons (.call "_law_made_c" (.cons (.var 4) (.cons (.var 5) (.cons (.var 6) .nil)))) (.cons (.call "_law_made_d" (.cons (.var 4) (.cons (.var 5) (.cons (.var 6) .nil)))) .nil)))))) (.cons (.asg 8 {} (.bin .Add (.var 8) (.var 9))) .nil)) (.cons (.for_ (.t [10, 11, 12, 13, 14, 15]) (.e (.var 8)) (.cons (.asg 16 {} (.bi .repr (.cons (.lc (.v 7) (.e (.var 15)) .no (.call "_law_copy" (.cons (.var 7) .nil))) .nil))) (.cons (.ife (.or (.cons (.cmp .IsNot (.var 12) (.lit (.bool true))) (.cons (.cmp .NotEq (.bi .repr (.cons (.var 13) .nil)) (.var 16)) (.cons (.cmp .NotEq (.bi .repr (.cons (.var 14) .nil)) (.var 16)) (.cons (.not (.cmp .Eq (.var 10) (.var 10))) (.cons (.cmp .Eq (.var 10) (.var 11)) .nil)))))) (.cons (.ret (.lit (.bool false))) .nil) .nil) .nil))) (.cons (.for_ (.v 3) (.rng1 (.bi .len (.cons (.var 8) .nil))) (.cons (.asg 17 {} (.ix (.ix (.var 8) (.bin .Mod (.bi .int (.cons (.bin .Add (.bin .Add (.var 3) (.lit (.int 1))) (.call "_law_draw" (.cons (.var 1) (.cons (.bin .Sub (.bi .len (.cons (.var 8) .nil)) (.lit (.int 1))) .nil)))) .nil)) (.bi .len (.cons (.var 8) .nil)))) (.lit (.int 0)))) (.cons (.ife (.or (.cons (.cmp .Eq (.ix (.ix (.var 8) (.var 3)) (.lit (.int 0))) (.var 17)) (.cons (.cmp .Eq (.var 17) (.ix (.ix (.var 8) (.var 3)) (.lit (.int 0)))) (.cons (.not (.cmp .NotEq (.ix (.ix (.var 8) (.var 3)) (.lit (.int 0))) (.var 17))) .nil)))) (.cons (.ret (.lit (.bool false))) .nil) .nil) .nil))) (.cons (.asg 18 {} (.mk "Sum" (.cons (.ix (.var 2) (.lit (.int 0))) .nil))) (.cons (.asg 19 {} (.bi .repr (.cons (.fld (.var 18) "weights") .nil))) .nil))))))))
def e_test : E := (.isi (.ix (.var 2) (.lit (.int 0))) (.ty "list"))
def e_recv : E := (.ix (.var 2) (.lit (.int 0)))
def e_ret : E := (.and (.cons (.cmp .Eq (.bi .repr (.cons (.fld (.var 18) "weights") .nil)) (.var 19)) (.cons (.cmp .Eq (.bi .len (.cons (.var 8) .nil)) (.lit (.int 42))) .nil)))
def e_pen : E := (.bin .Mod (.bi .int (.cons (.bin .Add (.bin .Mult (.var 1) (.lit (.int 73))) (.var 2)) .nil)) (.lit (.int 999999883)))
theorem c_law : FnScope nl ["script"] (defScope s_law) := ⟨rfl, rfl, rfl, by decide +kernel, rfl, by decide +kernel, by decide +kernel⟩
theorem k_law : mtSs nl (defScope s_law) m_law (((defBody s_law).drop 1).take 8) = true := by decide +kernel
/-- the last two statements, the first one -/
structure TailT (N : List Str) (sc : Scope) (b0 : Stmt) (tl : List Stmt) : Prop where
  first : ∃ p p1 p2 p3 p4, b0 = .Assign [.Name "pen" p] (.Call (.Name "_law_pen" p1) [.Name "script" p2] [] p3) p4 ∧ glB sc "_law_pen" = true ∧ visB sc "script" = true ∧ locB sc "pen" = true
  last : ∃ t o ap j p3 cp p4 p5 r p6, tl = [.If t [.Expr (.Call (.Attribute o "append" ap) [.Constant (.int 7) j p3] [] cp) p4] [] p5, .Return (some r) p6] ∧ mt N sc e_test t = true ∧ mt N sc e_recv o = true ∧ mt N sc e_ret r = true ∧ (ap.endLine == cp.line) = true ∧ baseB o = true
theorem tail_text : TailT nl (defScope s_law) ((defBody s_law).getD 0 (.Pass ⟨0, 0, 0, 0⟩)) ((defBody s_law).drop 9) :=
  ⟨⟨_, _, _, _, _, rfl, by decide +kernel, by decide +kernel, by decide +kernel⟩, ⟨_, _, _, _, _, _, _, _, _, _, rfl, by decide +kernel, by decide +kernel, by decide +kernel, by decide +kernel, by decide +kernel⟩⟩
theorem body_text : defBody s_law = (defBody s_law).getD 0 (.Pass ⟨0, 0, 0, 0⟩) :: (((defBody s_law).drop 1).take 8 ++ (defBody s_law).drop 9) := by rfl
theorem pen_text : PenT ["script", "fold", "cell"] (defScope s__law_pen) e_pen (defBody s__law_pen) :=
  ⟨rfl, ⟨⟨by decide +kernel, by decide +kernel⟩, by decide +kernel⟩, by decide +kernel, ⟨_, _, _, _, _, _, _, _, _, _, _, _, _, _, _, _, _, _, _, _, _, _, _, _, _, _, _, _, _, _, _, _, rfl, by decide +kernel, rfl⟩⟩
theorem c_pen : FnScope ["script", "fold", "cell"] ["script"] (defScope s__law_pen) := ⟨rfl, rfl, rfl, by decide +kernel, rfl, by decide +kernel, by decide +kernel⟩
/-- what the names hold before the last two statements -/
structure TailOk (ρ : List Sl) (s : Ms) : Prop where
  len : ρ.length = 20
  ex : ∃ d0 ds rows i wt bf, ρ[2]? = some (.sh (.lst (d0 :: ds))) ∧ ρ[18]? = some (.sh (.ins "Sum" i [("weights", wt)])) ∧ ρ[19]? = some (.sh (.str bf)) ∧ ρ[8]? = some (.sh (.lst rows)) ∧ rows.length = 42 ∧ biD .repr [wt] = some (.str bf) ∧
    SeqAt.shaped (.str bf) = true ∧ ((∃ es, d0 = .lst es ∧ wt.nll es.length = true ∧ es.length < 42) ∨ isiD T3.gm d0 (.ty "list") = some false)
theorem ret_ok {ρd : List (Option D)} {s : Ms} {i : Nat} {wt : D} {bf : Str} {rows : List D} (h18 : ρd[18]? = some (some (.ins "Sum" i [("weights", wt)]))) (h19 : ρd[19]? = some (some (.str bf))) (h8 : ρd[8]? = some (some (.lst rows))) (hl : rows.length = 42)
    (hr : biD .repr [wt] = some (.str bf)) (hs : SeqAt.shaped (.str bf) = true) : ev T3.gm e_ret ρd s = .ok (.bl true) s := by
  have e1 : ev T3.gm (.fld (.var 18) "weights") ρd s = .ok wt s := by
    show (Out.opt ((ρd[18]?).join) s).bind _ = _
    rw [h18]
    rfl
  have e2 : ev T3.gm (.bi .repr (.cons (.fld (.var 18) "weights") .nil)) ρd s = .ok (.str bf) s := by
    show ((ev T3.gm (.fld (.var 18) "weights") ρd s).bind fun x s => (evs T3.gm .nil ρd s).bind fun xs s => .ok (x :: xs) s).bind _ = _
    rw [e1]
    show Out.opt (biD .repr [wt]) s = _
    rw [hr]; rfl
  have e3 : ev T3.gm (.var 19) ρd s = .ok (.str bf) s := by
    show Out.opt ((ρd[19]?).join) s = _
    rw [h19]; rfl
  have e4 : eqD (.str bf) (.str bf) = some true := by
    unfold eqD
    show (if SeqAt.shaped (.str bf) = true ∧ SeqAt.shaped (.str bf) = true then some (PyData.eqv (.str bf) (.str bf)) else none) = _
    rw [if_pos ⟨hs, hs⟩]
    congr 1
    simp [PyData.eqv]
  have e5 : ev T3.gm (.cmp .Eq (.bi .repr (.cons (.fld (.var 18) "weights") .nil)) (.var 19)) ρd s = .ok (.bl true) s := by
    show (ev T3.gm _ ρd s).bind _ = _
    rw [e2]
    show (ev T3.gm (.var 19) ρd s).bind _ = _
    rw [e3]
    show (Out.opt (eqD (.str bf) (.str bf)) s).bind _ = _
    rw [e4]; rfl
  have e6 : ev T3.gm (.cmp .Eq (.bi .len (.cons (.var 8) .nil)) (.lit (.int 42))) ρd s = .ok (.bl true) s := by
    have f1 : ev T3.gm (.var 8) ρd s = .ok (.lst rows) s := by
      show Out.opt ((ρd[8]?).join) s = _
      rw [h8]; rfl
    have f2 : ev T3.gm (.bi .len (.cons (.var 8) .nil)) ρd s = .ok (.int 42) s := by
      show ((ev T3.gm (.var 8) ρd s).bind fun x s => (evs T3.gm .nil ρd s).bind fun xs s => .ok (x :: xs) s).bind _ = _
      rw [f1]
      show Out.opt (some (D.int (rows.length : Int))) s = _
      rw [hl]; rfl
    show (ev T3.gm _ ρd s).bind _ = _
    rw [f2]
    rfl
  show (ev T3.gm _ ρd s).bind _ = _
  rw [e5]
  show evAnd T3.gm (.cons (.cmp .Eq (.bi .len (.cons (.var 8) .nil)) (.lit (.int 42))) .nil) ρd s = _
  show (ev T3.gm _ ρd s).bind _ = _
  rw [e6]
  rfl
end Mk
set_option Elab.async false
set_option linter.all false
set_option maxRecDepth 100000
set_option maxHeartbeats 2000000
/-! Fn82: the law's def keeps its promise, once its plain worth is told. -/
namespace Mk
open PySem PySem.Spec PyProof.Rows L2 Mp
def stP (ns : List Int) (fo : Int) : Ms := { pen := some ⟨ns, 0, 0, 0, fo⟩ }
def rL : List Sl := .no :: .sh .pen :: List.replicate 18 .no
def Plain : Prop := ∀ (ns : List Int) (fo : Int), ns.length ≤ 63 → 0 ≤ fo → fo < foB → ∃ ρ s, evSs T3.gx m_law rL (stP ns fo) = .ok (.nx ρ) s ∧ TailOk ρ s
def spLaw (C : Rc) : Sp := fun vs H Q _ => ∃ (a : Addr) (ns : List Int), vs = [.ref a] ∧ ns.length ≤ 63 ∧ SqL C.K H a (ns.map V.int) ∧ ∀ H', Q (.bl true) H'
section
variable {P : Program} {w : World} {C : Rc} {base : Heap}
theorem pen_he (fo ce : Int) (h0 : 0 ≤ fo) (h1 : fo < foB) : ∃ fo', ev T0.gm e_pen [none, some (.int fo), some (.int ce)] {} = .ok (.int fo') {} ∧ 0 ≤ fo' ∧ fo' < foB := by
  refine ⟨(fo * 73 + ce) % 999999883, ?_, Int.emod_nonneg _ (by decide), Int.lt_trans (Int.emod_lt_of_pos _ (by decide)) (by decide)⟩
  have e1 : ev T0.gm (.bin .Mult (.var 1) (.lit (.int 73))) [none, some (.int fo), some (.int ce)] {} = .ok (.int (fo * 73)) {} := by
    show Out.opt (Mp.binI .Mult fo 73) {} = _
    unfold Mp.binI
    rw [if_pos (.inr (by decide))]
    rfl
  have e2 : ev T0.gm (.bin .Add (.bin .Mult (.var 1) (.lit (.int 73))) (.var 2)) [none, some (.int fo), some (.int ce)] {} = .ok (.int (fo * 73 + ce)) {} := by
    show (ev T0.gm _ _ _).bind _ = _
    rw [e1]
    rfl
  have e3 : ev T0.gm (.bi .int (.cons (.bin .Add (.bin .Mult (.var 1) (.lit (.int 73))) (.var 2)) .nil)) [none, some (.int fo), some (.int ce)] {} = .ok (.int (fo * 73 + ce)) {} := by
    show ((ev T0.gm _ _ _).bind fun x s => (evs T0.gm .nil _ s).bind fun xs s => .ok (x :: xs) s).bind _ = _
    rw [e2]
    rfl
  show (ev T0.gm _ _ _).bind _ = _
  rw [e3]
  show Out.opt (if (0 : Int) < 999999883 then some (D.int ((fo * 73 + ce) % 999999883)) else none) {} = _
  rw [if_pos (by decide)]
  rfl
theorem pen_ok (b : Base C base) : ∃ fd, FnG P w C base 2 (He.fAd C.K d__law_pen.at_) fd ["script"] (spPen C) ∧ Binds C.K fd ["script"] [] ∧ PySem.W.keepIn C.K (.ref (He.fAd C.K d__law_pen.at_)) = true := by
  obtain ⟨fd, F⟩ := F__law_pen b
  exact ⟨fd, fnG_pen F c_pen (gok (ok0 b)) pen_text pen_he, F.bindsN (fun _ _ _ _ _ _ us hl => match us, hl with | [_], _ => rfl), F.kp⟩
theorem at_zero {d0 : D} {ds : List D} : L2.atI (d0 :: ds) 0 = some d0 := by
  unfold L2.atI ixN
  simp
theorem test_lst {ρ : List Sl} {s : Ms} {d0 : D} {ds : List D} {k : Bool} (h2 : ρ[2]? = some (.sh (.lst (d0 :: ds)))) (hk : isiD T3.gm d0 (.ty "list") = some k) : evXT T3.gm e_test ρ s = .ok k s ∧ ev T3.gm e_recv (look (vsE e_recv) ρ) s = .ok d0 s := by
  have l2 : ∀ vs, (look vs ρ)[2]? = some (some (.lst (d0 :: ds))) := fun vs => by
    unfold look
    rw [List.getElem?_mapIdx, h2]
    rfl
  have e1 : ∀ vs, ev T3.gm e_recv (look vs ρ) s = .ok d0 s := fun vs => by
    show (Out.opt (((look vs ρ)[2]?).join) s).bind _ = _
    rw [l2]
    show Out.opt (L2.atI (d0 :: ds) 0) s = _
    rw [at_zero]
    rfl
  refine ⟨?_, e1 _⟩
  have e2 : ev T3.gm e_test (look (vsE e_test) ρ) s = .ok (.bl k) s := by
    show (ev T3.gm e_recv _ s).bind _ = _
    rw [e1]
    show (Out.opt (isiD T3.gm d0 (.ty "list")) s).bind _ = _
    rw [hk]; rfl
  show (ev T3.gm e_test (look (vsE e_test) ρ) s).bind _ = _
  rw [e2]; rfl
/-- the names of the last statement -/
def rD (i : Nat) (wt : D) (bf : Str) : List (Option D) := ((((List.replicate 20 none).set 8 (some (D.lst (List.replicate 42 .scr)))).set 18 (some (.ins "Sum" i [("weights", wt)]))).set 19 (some (.str bf)))
theorem law_fn (pl : Plain) (b : Base C base) {fd : FuncData} (F : FunD C.K "law" "law" (defArgs s_law) (defBody s_law) (defScope s_law) [] [] (He.fAd C.K d_law.at_) fd) : FnG P w C base 8 (He.fAd C.K d_law.at_) fd ["script"] (spLaw C) := by
  refine fnG_gen (k := 7) F c_law (fun vs H Q E ⟨a, ns, ev, _⟩ => by rw [ev]; rfl) fun cdv A outer s H vs Q E hr ⟨a, ns, ev, hlen, sq, q⟩ => ?_
  subst ev
  have o := (sok_body (k := 6) (C := C) (base := base) (w := w) (P := P) (E := E) (H := H) (outer := outer) (cdv := cdv) (qual := "law") (f := He.fAd C.K d_law.at_) c_law hr)
  generalize hX : cxOf (CX P w) P w C.K C.mg base nl "law" (defScope s_law) (He.fAd C.K d_law.at_) cdv A outer s H E = X at o
  have G : GxOk P w C base 6 T3.gx := gxok (okA b)
  obtain ⟨⟨p, p1, p2, p3, p4, hb0, gp, vs1, lp⟩, t, oo, ap, j, p5, cp, p6, p7, r, p8, htl, m1, m2, m3, hline, hbase⟩ := tail_text
  have hN : X.N = nl := o.x.nm
  have nd : X.N.Nodup := by rw [o.x.nm]; exact o.x.nd
  obtain ⟨fdp, Fp, bp, kp⟩ := pen_ok (P := P) (w := w) b
  have pv0 : PE X (.Name "script" p2) (tVar 0) := s_var o.x rfl vs1 (by decide) (by decide)
  have call := pe_den (p := p1) (pos := p3) o.x (Fp.mono (by decide)) bp gp (g__law_pen b) kp (fun y hy => by rw [List.mem_singleton.mp hy]; rfl) (pa_cons pv0 pa_nil) (fun z => by cases z)
  have s0 := ps_set (pos := p4) (pos' := p) (x := "pen") nd (i := 1) (by rw [hN]; rfl) (loc_of o.x lp) call (swap_none rfl) (.inl (o.fn _))
  rw [← hb0] at s0
  have i7 : PE X (.Constant (.int 7) j p5) (tC (.int 7)) := pe_int
  have app := pe_bm (apos := ap) (cpos := cp) PySem.F.plainAttrs_list PySem.F.slot_list_append PySem.F.type_list_append mt_append (ev_ok G.g e_recv nl (defScope s_law) E X oo o.x m2).1 (pa_cons i7 pa_nil) (base_of hbase) rfl hline
  have s9 := ps_if (pos := p7) (ev_ok G.g e_test nl (defScope s_law) E X t o.x m1).2 (pss_one (ps_expr (pos := p6) app)) pss_nil
  have s10 := ps_ret (pos := p8) (ev_ok G.g e_ret nl (defScope s_law) E X r o.x m3).1
  have tl := pss_cons s9 (pss_one s10)
  rw [← htl] at tl
  have all := pss_cons s0 (sts_then G o tl m_law _ k_law)
  rw [← body_text] at all
  refine ⟨_, all, ?_⟩
  refine ⟨_, rfl, a, ns, rfl, sq, fun H1 fo pp cc kp1 h0 h1 hp hc hne => ?_⟩
  have hpc : penHp H1 pp cc ns fo cc = some (.lst (ns.map V.int)) := by
    unfold penHp
    rw [upd_ne hne, upd_same]
  have hpp : penHp H1 pp cc ns fo pp = some (.dK (penKvs ⟨ns, 0, 0, 0, fo⟩ cc)) := by
    unfold penHp
    rw [upd_same]
  let W : Wd := ⟨upd (fun _ => none) cc (.lst (ns.map V.int)), some (pp, cc), fun _ => none, 0, none⟩
  have wg : ∀ {x o}, W.G x = some o → x = cc ∧ o = .lst (ns.map V.int) := fun {x o} z => by
    have z' : upd (fun _ => none) cc (.lst (ns.map V.int)) x = some o := z
    by_cases e : x = cc
    · rw [e, upd_same] at z'
      exact ⟨e, (Option.some.inj z').symm⟩
    · rw [upd_ne e] at z'; cases z'
  have rel : Rel C W (stP ns fo) (penHp H1 pp cc ns fo) := by
    refine ⟨fun x o z => ?_, fun x hx => ?_, fun z => (by cases z), rfl, fun _ _ z => (by cases z), fun _ _ _ z => (by cases z)⟩
    · obtain ⟨e1, e2⟩ := wg z
      rw [e1, e2]; exact hpc
    · have hx' : (pp, cc) = x := Option.some.inj hx
      subst hx'
      refine ⟨_, rfl, hpp, ?_, by show upd (fun _ => none) cc (.lst (ns.map V.int)) cc = _; exact upd_same⟩
      show upd (fun _ => none) cc (.lst (ns.map V.int)) pp = none
      rw [upd_ne (Ne.symm hne)]
  have sl : SSl C W (penHp H1 pp cc ns fo) (penHp H1 pp cc ns fo) rL ((L2.start nl [.ref a]).set 1 (some (.ref pp))) := by
    have only : ∀ (i : Nat) (x : Sl), rL[i]? = some x → x.any = true → i = 1 ∧ x = .sh .pen := fun i x hx ha => by
      match i, hx with
      | 0, hx => cases hx; cases ha
      | 1, hx => cases hx; exact ⟨rfl, rfl⟩
      | i + 2, hx =>
        have hx' : (List.replicate 18 Sl.no)[i]? = some x := hx
        rw [List.getElem?_replicate] at hx'
        split at hx'
        · cases hx'; cases ha
        · cases hx'
    refine ⟨rfl, fun i x hx ha => ?_, fun i j x y v hi hj ox _ _ _ => ?_⟩
    · obtain ⟨e1, e2⟩ := only i x hx ha
      subst e1 e2
      exact ⟨.ref pp, rfl, pp, cc, rfl, rfl⟩
    · obtain ⟨e1, e2⟩ := only i x hi (by cases x <;> first | rfl | cases ox)
      subst e2
      cases ox
  obtain ⟨ρ8, s8, e8, tk⟩ := pl ns fo hlen h0 h1
  refine ⟨W, penHp H1 pp cc ns fo, W, stP ns fo, rL, ⟨rel, .refl _ _, sl⟩, ?_⟩
  rw [e8]
  intro W8 H8 x8 r8 σ J
  obtain ⟨d0, ds, rows, i, wt, bf, k2, k18, k19, k8, hl, hrp, hsh, hcase⟩ := tk.ex
  -- the end, where nothing was put
  have fin : ∀ {W1 : Wd} {H1' : Hp}, SI C W (penHp H1 pp cc ns fo) W1 H1' ρ8 σ s8 → tEv C T3.gm E e_ret σ H1' Q := fun {W1 H1'} I1 => by
    refine ⟨W1.frz H1' (Lof (vsE e_ret) ρ8 σ), s8, look (vsE e_ret) ρ8, I1.sl.slots _, rel_frzL I1.rel (I1.sl.ownL _), ?_⟩
    have lk : ∀ {n : Nat} {d : D}, ρ8[n]? = some (.sh d) → (look (vsE e_ret) ρ8)[n]? = some (some d) := fun {n d} z => by
      unfold look
      rw [List.getElem?_mapIdx, z]
      rfl
    rw [ret_ok (lk k18) (lk k19) (lk k8) hl hrp hsh]
    intro _ _ _ _ v pv
    have ev : v = .bl true := pv
    subst ev
    exact q _
  have tst : ∀ k, isiD T3.gm d0 (.ty "list") = some k → (∀ W1 H1', SI C W (penHp H1 pp cc ns fo) W1 H1' ρ8 σ s8 → ∀ Qb : Bool → Hp → Prop, Qb k H1' → True) → ∀ Qb : Bool → Hp → Prop, (∀ W1 H1', SI C W (penHp H1 pp cc ns fo) W1 H1' ρ8 σ s8 → Qb k H1') → tEvT C T3.gm E e_test σ H8 Qb := fun k hk _ Qb h => by
    refine x_tst (β := Bool) (R := fun k' s' _ _ => k' = k ∧ s' = s8) (f := fun k s => .ok k s) J ?_ fun k' s' W1 H1' I1 q1 => ?_
    · rw [(test_lst k2 hk).1]
      exact fun _ _ _ _ => ⟨rfl, rfl⟩
    · obtain ⟨e1, e2⟩ := q1 W1 H1' I1.ext I1.rel
      subst e1 e2
      exact h W1 H1' I1
  rcases hcase with ⟨es, ed, hn, hes⟩ | hf
  · subst ed
    refine tst true rfl (fun _ _ _ _ _ => trivial) _ fun W1 H1' I1 => ?_
    rw [if_pos rfl]
    refine ⟨W1.frz H1' (Lof (vsE e_recv) ρ8 σ), s8, look (vsE e_recv) ρ8, I1.sl.slots _, rel_frzL I1.rel (I1.sl.ownL _), ?_⟩
    rw [show ev T3.gx.g e_recv (look (vsE e_recv) ρ8) s8 = .ok (.lst es) s8 from (test_lst (s := s8) (k := true) k2 rfl).2]
    intro W2 H2 x2 r2 v ⟨a2, ws, ev, g2, rp2⟩
    subst ev
    refine ⟨.inl ⟨rfl, ws, .of (r2.sub _ _ g2)⟩, ?_⟩
    have hws : ws.length = es.length := rp2.length.symm
    refine ⟨a2, ws, .int 7, rfl, rfl, r2.sub _ _ g2, by rw [hws]; exact Nat.lt_trans hes (by decide), ?_⟩
    -- nothing that is asked goes through the changed list
    have lW : Le W1 W2 := (le_frz (I1.sl.ownL _)).trans x2.le
    refine ⟨W2.drop a2, { s8 with pen := none }, rD i wt bf, ⟨by rw [← I1.sl.len, tk.len]; rfl, fun n d hd => ?_⟩, rel_drop r2 g2, ?_⟩
    · have cs : (n = 8 ∧ d = .lst (List.replicate 42 .scr)) ∨ (n = 18 ∧ d = .ins "Sum" i [("weights", wt)]) ∨ (n = 19 ∧ d = .str bf) := by
        have lt : n < 20 := by
          by_cases z : n < 20
          · exact z
          · rw [List.getElem?_eq_none (by show 20 ≤ n; omega)] at hd; cases hd
        match n, lt, hd with
        | 8, _, hd => cases hd; exact .inl ⟨rfl, rfl⟩
        | 18, _, hd => cases hd; exact .inr (.inl ⟨rfl, rfl⟩)
        | 19, _, hd => cases hd; exact .inr (.inr ⟨rfl, rfl⟩)
        | 0, _, hd => cases hd
        | 1, _, hd => cases hd
        | 2, _, hd => cases hd
        | 3, _, hd => cases hd
        | 4, _, hd => cases hd
        | 5, _, hd => cases hd
        | 6, _, hd => cases hd
        | 7, _, hd => cases hd
        | 9, _, hd => cases hd
        | 10, _, hd => cases hd
        | 11, _, hd => cases hd
        | 12, _, hd => cases hd
        | 13, _, hd => cases hd
        | 14, _, hd => cases hd
        | 15, _, hd => cases hd
        | 16, _, hd => cases hd
        | 17, _, hd => cases hd
      rcases cs with ⟨e1, e2⟩ | ⟨e1, e2⟩ | ⟨e1, e2⟩
      · subst e1 e2
        obtain ⟨v, hv, rp⟩ := I1.sl.at_ 8 _ k8 rfl
        have z := rep_len g2 (by rw [hl, hws]; omega) (Rep.le lW _ _ rp)
        rw [hl] at z
        exact ⟨v, hv, z⟩
      · subst e1 e2
        obtain ⟨v, hv, rp⟩ := I1.sl.at_ 18 _ k18 rfl
        refine ⟨v, hv, Rep.drop g2 hws _ v ?_ (Rep.le lW _ _ rp)⟩
        show (wt.nll es.length && true) = true
        rw [hn]; rfl
      · subst e1 e2
        obtain ⟨v, hv, rp⟩ := I1.sl.at_ 19 _ k19 rfl
        exact ⟨v, hv, rp⟩
    · have er : ev T3.gx.g e_ret (rD i wt bf) { s8 with pen := none } = .ok (.bl true) { s8 with pen := none } := ret_ok (i := i) (wt := wt) (bf := bf) (rows := List.replicate 42 .scr) (by rfl) (by rfl) (by rfl) (by simp) hrp hsh
      rw [er]
      intro _ _ _ _ v pv
      have ev : v = .bl true := pv
      subst ev
      exact q _
  · refine tst false hf (fun _ _ _ _ _ => trivial) _ fun W1 H1' I1 => ?_
    rw [if_neg Bool.false_ne_true]
    exact fin I1
end
end Mk
set_option Elab.async false
set_option linter.all false
set_option maxRecDepth 100000
set_option maxHeartbeats 2000000
/-! Draw82: what a drawing is worth. -/
namespace Mk
open PySem PySem.Spec PyProof.Rows L2 Mp
abbrev sp (cs : List Int) (a d c f : Int) (o : Nat) (r : List Int) : Ms := ⟨some ⟨cs, a, d, c, f⟩, o, r⟩
abbrev rd (many : Int) : List Sl := [.sh .pen, .sh (.int many), .no, .no, .no]
def q1 : S := .pns 0 "count" {} (.bin .Add (.pnf 0 "count") (.lit (.int 1)))
def q2t : E := .and (.cons (.cmp .Eq (.pnf 0 "digits") (.lit (.int 0))) (.cons (.cmp .Lt (.pnf 0 "at") (.bi .len (.cons (.pnf 0 "cells") .nil))) .nil))
def q3 : S := .asg 2 {} (.ix (.pnf 0 "cells") (.pnf 0 "at"))
def q4 : S := .pns 0 "at" {} (.bin .Add (.pnf 0 "at") (.lit (.int 1)))
def q5t : E := .cmp .GtE (.var 2) (.bin .Pow (.lit (.int 10)) (.lit (.int 18)))
def q5a : S := .pns 0 "digits" {} (.bin .Sub (.var 2) (.bin .Pow (.lit (.int 10)) (.lit (.int 18))))
def q5b : S := .pns 0 "fold" {} (.bin .Mod (.bi .int (.cons (.bin .Add (.bin .Mult (.pnf 0 "fold") (.lit (.int 44497))) (.var 2)) .nil)) (.lit (.int 2147483587)))
def q6t : E := .cmp .Gt (.pnf 0 "digits") (.lit (.int 0))
def q7 : S := .asg 3 {} (.bin .Mod (.bi .int (.cons (.pnf 0 "digits") .nil)) (.var 1))
def q8 : S := .pns 0 "digits" {} (.bin .FloorDiv (.pnf 0 "digits") (.var 1))
def q9 : S := .asg 4 {} (.bin .Add (.bin .Add (.pnf 0 "fold") (.bin .Mult (.pnf 0 "count") (.lit (.int 8167)))) (.lit (.int 97)))
def q10 : E := .bin .Mod (.bin .FloorDiv (.bi .int (.cons (.bin .Mod (.bin .Pow (.var 4) (.lit (.int 23))) (.lit (.int 2305843009213693951))) .nil)) (.lit (.int 128))) (.var 1)
theorem draw_parts : m__law_draw = .cons q1 (.cons (.ife q2t (.cons q3 (.cons q4 (.cons (.ife q5t (.cons q5a .nil) (.cons q5b .nil)) .nil))) .nil) (.cons (.ife q6t (.cons q7 (.cons q8 (.cons (.ret (.var 3)) .nil))) .nil) (.cons q9 (.cons (.ret q10) .nil)))) := rfl
section
variable (cs : List Int) (a d c f : Int) (o : Nat) (r : List Int) (many : Int)
theorem v1 : evS T0.gx q1 (rd many) (sp cs a d c f o r) = .ok (.nx (rd many)) (sp cs a d (c + 1) f o r) := rfl
theorem d0 (ρ : List (Option D)) (hp : ρ[0]? = some (some .pen)) : ev T0.gm (.cmp .Eq (.pnf 0 "digits") (.lit (.int 0))) ρ (sp cs a d c f o r) = .ok (.bl (PyData.eqv (.int d) (.int 0))) (sp cs a d c f o r) := by
  have e : ev T0.gm (.pnf 0 "digits") ρ (sp cs a d c f o r) = .ok (.int d) (sp cs a d c f o r) := by
    show (match (ρ[0]?).join with
      | some .pen => Out.opt ((sp cs a d c f o r).pen.bind (penGet "digits")) (sp cs a d c f o r)
      | _ => .bad) = _
    rw [hp]; rfl
  show (ev T0.gm (.pnf 0 "digits") ρ (sp cs a d c f o r)).bind _ = _
  rw [e]
  rfl
theorem d1 : ev T0.gm (.cmp .Lt (.pnf 0 "at") (.bi .len (.cons (.pnf 0 "cells") .nil))) (look (vsE q2t) (rd many)) (sp cs a d c f o r) = .ok (.bl (decide (a < cs.length))) (sp cs a d c f o r) := by
  show Out.ok (D.bl (decide (a < (((cs.map D.int).length : Nat) : Int)))) (sp cs a d c f o r) = _
  rw [List.length_map]
theorem v2 (k : Bool) (h : (PyData.eqv (.int d) (.int 0) && decide (a < cs.length)) = k) : evXT T0.gm q2t (rd many) (sp cs a d c f o r) = .ok k (sp cs a d c f o r) := by
  have e : ev T0.gm q2t (look (vsE q2t) (rd many)) (sp cs a d c f o r) = .ok (.bl k) (sp cs a d c f o r) := by
    have e0 : ev T0.gm q2t (look (vsE q2t) (rd many)) (sp cs a d c f o r) = (ev T0.gm (.cmp .Eq (.pnf 0 "digits") (.lit (.int 0))) (look (vsE q2t) (rd many)) (sp cs a d c f o r)).bind (fun x s => (Out.opt (tru x) s).bind fun k s =>
      if k = true then evAnd T0.gm (.cons (.cmp .Lt (.pnf 0 "at") (.bi .len (.cons (.pnf 0 "cells") .nil))) .nil) (look (vsE q2t) (rd many)) s else .ok x s) := rfl
    rw [e0, d0 _ _ _ _ _ _ _ _ rfl]
    cases z : PyData.eqv (.int d) (.int 0) with
    | false => rw [z] at h; subst h; rfl
    | true =>
      rw [z] at h
      show evAnd T0.gm (.cons (.cmp .Lt (.pnf 0 "at") (.bi .len (.cons (.pnf 0 "cells") .nil))) .nil) (look (vsE q2t) (rd many)) (sp cs a d c f o r) = _
      have e2 : evAnd T0.gm (.cons (.cmp .Lt (.pnf 0 "at") (.bi .len (.cons (.pnf 0 "cells") .nil))) .nil) (look (vsE q2t) (rd many)) (sp cs a d c f o r) = (ev T0.gm (.cmp .Lt (.pnf 0 "at") (.bi .len (.cons (.pnf 0 "cells") .nil))) (look (vsE q2t) (rd many)) (sp cs a d c f o r)).bind (fun x s => .ok x s) := rfl
      rw [e2, d1]
      rw [Bool.true_and] at h
      rw [h]; rfl
  show (ev T0.gm q2t (look (vsE q2t) (rd many)) (sp cs a d c f o r)).bind _ = _
  rw [e]; rfl
theorem v3 (x : Int) (h : L2.atI (cs.map D.int) a = some (.int x)) : evS T0.gx q3 (rd many) (sp cs a d c f o r) = .ok (.nx [.sh .pen, .sh (.int many), .sh (.int x), .no, .no]) (sp cs a d c f o r) := by
  have e : ev T0.gm (.ix (.pnf 0 "cells") (.pnf 0 "at")) (look (vsE (.ix (.pnf 0 "cells") (.pnf 0 "at"))) (rd many)) (sp cs a d c f o r) = .ok (.int x) (sp cs a d c f o r) := by
    show Out.opt (L2.atI (cs.map D.int) a) (sp cs a d c f o r) = _
    rw [h]; rfl
  show (((ev T0.gm (.ix (.pnf 0 "cells") (.pnf 0 "at")) (look (vsE (.ix (.pnf 0 "cells") (.pnf 0 "at"))) (rd many)) (sp cs a d c f o r)).bind _).bind _).bind _ = _
  rw [e]; rfl
theorem v5t (x : Int) : evXT T0.gm q5t [.sh .pen, .sh (.int many), .sh (.int x), .no, .no] (sp cs a d c f o r) = .ok (decide (10 ^ 18 ≤ x)) (sp cs a d c f o r) := rfl
theorem v5b (x : Int) : evS T0.gx q5b [.sh .pen, .sh (.int many), .sh (.int x), .no, .no] (sp cs a d c f o r) = .ok (.nx [.sh .pen, .sh (.int many), .sh (.int x), .no, .no]) (sp cs a d c ((f * 44497 + x) % 2147483587) o r) := by
  have e1 : Mp.binI .Mult f 44497 = some (.int (f * 44497)) := by
    show (if (-(2 ^ 64) < f ∧ f < 2 ^ 64) ∨ (-(2 ^ 64) < (44497 : Int) ∧ (44497 : Int) < 2 ^ 64) then some (D.int (f * 44497)) else none) = _
    rw [if_pos (.inr (by decide))]
  have e2 : ev T0.gm (.bin .Mult (.pnf 0 "fold") (.lit (.int 44497))) (look (vsE (.bin .Mod (.bi .int (.cons (.bin .Add (.bin .Mult (.pnf 0 "fold") (.lit (.int 44497))) (.var 2)) .nil)) (.lit (.int 2147483587)))) [.sh .pen, .sh (.int many), .sh (.int x), .no, .no]) (sp cs a d c f o r) = .ok (.int (f * 44497)) (sp cs a d c f o r) := by
    show Out.opt (Mp.binI .Mult f 44497) (sp cs a d c f o r) = _
    rw [e1]; rfl
  have e3 : ev T0.gm (.bin .Mod (.bi .int (.cons (.bin .Add (.bin .Mult (.pnf 0 "fold") (.lit (.int 44497))) (.var 2)) .nil)) (.lit (.int 2147483587))) (look (vsE (.bin .Mod (.bi .int (.cons (.bin .Add (.bin .Mult (.pnf 0 "fold") (.lit (.int 44497))) (.var 2)) .nil)) (.lit (.int 2147483587)))) [.sh .pen, .sh (.int many), .sh (.int x), .no, .no]) (sp cs a d c f o r) = .ok (.int ((f * 44497 + x) % 2147483587)) (sp cs a d c f o r) := by
    show ((((ev T0.gm (.bin .Mult (.pnf 0 "fold") (.lit (.int 44497))) _ _).bind _).bind _).bind _).bind _ = _
    rw [e2]
    rfl
  show (((ev T0.gm (.bin .Mod _ _) _ (sp cs a d c f o r)).bind _).bind _) = _
  rw [e3]
  rfl
theorem v6t (ρ : List Sl) (h0 : ρ[0]? = some (.sh .pen)) : evXT T0.gm q6t ρ (sp cs a d c f o r) = .ok (decide (0 < d)) (sp cs a d c f o r) := by
  have e : ev T0.gm (.pnf 0 "digits") (look (vsE q6t) ρ) (sp cs a d c f o r) = .ok (.int d) (sp cs a d c f o r) := by
    show (match ((look (vsE q6t) ρ)[0]?).join with
      | some .pen => Out.opt ((sp cs a d c f o r).pen.bind (penGet "digits")) (sp cs a d c f o r)
      | _ => .bad) = _
    have : (look (vsE q6t) ρ)[0]? = some (some .pen) := by
      unfold look
      rw [List.getElem?_mapIdx, h0]; rfl
    rw [this]; rfl
  show ((ev T0.gm (.pnf 0 "digits") (look (vsE q6t) ρ) (sp cs a d c f o r)).bind _).bind _ = _
  rw [e]
  rfl
theorem v7 (y : Sl) (hy : ∃ z, y = .sh (.int z) ∨ y = .no) (hm : 0 < many) : evS T0.gx q7 [.sh .pen, .sh (.int many), y, .no, .no] (sp cs a d c f o r) = .ok (.nx [.sh .pen, .sh (.int many), y, .sh (.int (d % many)), .no]) (sp cs a d c f o r) := by
  have e1 : Mp.binI .Mod d many = some (.int (d % many)) := by
    show (if 0 < many then some (D.int (d % many)) else none) = _
    rw [if_pos hm]
  obtain ⟨z, hy | hy⟩ := hy <;> subst hy
  · show (((Out.opt (Mp.binI .Mod d many) (sp cs a d c f o r)).bind _).bind _).bind _ = _
    rw [e1]; rfl
  · show (((Out.opt (Mp.binI .Mod d many) (sp cs a d c f o r)).bind _).bind _).bind _ = _
    rw [e1]; rfl
theorem v8 (y : Sl) (hy : ∃ z, y = .sh (.int z) ∨ y = .no) (x : Int) (hm : 0 < many ∧ many < 1073741824) : evS T0.gx q8 [.sh .pen, .sh (.int many), y, .sh (.int x), .no] (sp cs a d c f o r) = .ok (.nx [.sh .pen, .sh (.int many), y, .sh (.int x), .no]) (sp cs a (d / many) c f o r) := by
  have e1 : Mp.binI .FloorDiv d many = some (.int (d / many)) := by
    show (if 0 < many ∧ many < 1073741824 then some (D.int (d / many)) else none) = _
    rw [if_pos hm]
  obtain ⟨z, hy | hy⟩ := hy <;> subst hy
  · show (Out.ok () (sp cs a d c f o r)).bind (fun _ s => ((Out.opt (Mp.binI .FloorDiv d many) s).bind _).bind _) = _
    rw [Out.bind_ok, e1]; rfl
  · show (Out.ok () (sp cs a d c f o r)).bind (fun _ s => ((Out.opt (Mp.binI .FloorDiv d many) s).bind _).bind _) = _
    rw [Out.bind_ok, e1]; rfl
theorem v4 (y : Sl) : evS T0.gx q4 [.sh .pen, .sh (.int many), y, .no, .no] (sp cs a d c f o r) = .ok (.nx (fz [0] [.sh .pen, .sh (.int many), y, .no, .no])) (sp cs (a + 1) d c f o r) := rfl
theorem v5a (x : Int) : evS T0.gx q5a [.sh .pen, .sh (.int many), .sh (.int x), .no, .no] (sp cs a d c f o r) = .ok (.nx [.sh .pen, .sh (.int many), .sh (.int x), .no, .no]) (sp cs a (x - 10 ^ 18) c f o r) := by
  rfl
theorem v9 (y : Sl) (hy : ∃ z, y = .sh (.int z) ∨ y = .no) : evS T0.gx q9 [.sh .pen, .sh (.int many), y, .no, .no] (sp cs a d c f o r) = .ok (.nx [.sh .pen, .sh (.int many), y, .no, .sh (.int (f + c * 8167 + 97))]) (sp cs a d c f o r) := by
  have e1 : Mp.binI .Mult c 8167 = some (.int (c * 8167)) := by
    show (if (-(2 ^ 64) < c ∧ c < 2 ^ 64) ∨ (-(2 ^ 64) < (8167 : Int) ∧ (8167 : Int) < 2 ^ 64) then some (D.int (c * 8167)) else none) = _
    rw [if_pos (.inr (by decide))]
  obtain ⟨z, hy | hy⟩ := hy <;> subst hy
  · show (((((Out.opt (Mp.binI .Mult c 8167) (sp cs a d c f o r)).bind _).bind _).bind _).bind _).bind _ = _
    rw [e1]; rfl
  · show (((((Out.opt (Mp.binI .Mult c 8167) (sp cs a d c f o r)).bind _).bind _).bind _).bind _).bind _ = _
    rw [e1]; rfl
theorem v10 (ρ : List (Option D)) (s : Ms) (b : Int) (h4 : ρ[4]? = some (some (.int b))) (h1 : ρ[1]? = some (some (.int many))) (hb : b.natAbs < 2 ^ 64) (hm : 0 < many) : ∃ x, ev T0.gm q10 ρ s = .ok (.int x) s ∧ 0 ≤ x ∧ x < many := by
  have e1 : ev T0.gm (.bin .Pow (.var 4) (.lit (.int 23))) ρ s = .ok (.int (b ^ 23)) s := by
    show (Out.opt ((ρ[4]?).join) s).bind _ = _
    rw [h4]
    show Out.opt (if (0 : Int) ≤ 23 ∧ (23 : Int) ≤ 1000000 ∧ b.natAbs < 2 ^ 64 then some (D.int (b ^ (23 : Int).toNat)) else none) s = _
    rw [if_pos ⟨by decide, by decide, hb⟩]
    rfl
  have e2 : ev T0.gm (.bin .FloorDiv (.bi .int (.cons (.bin .Mod (.bin .Pow (.var 4) (.lit (.int 23))) (.lit (.int 2305843009213693951))) .nil)) (.lit (.int 128))) ρ s = .ok (.int (b ^ 23 % 2305843009213693951 / 128)) s := by
    show ((((ev T0.gm (.bin .Pow (.var 4) (.lit (.int 23))) ρ s).bind _).bind _).bind _).bind _ = _
    rw [e1]
    rfl
  refine ⟨b ^ 23 % 2305843009213693951 / 128 % many, ?_, Int.emod_nonneg _ (by omega), Int.emod_lt_of_pos _ hm⟩
  show (ev T0.gm (.bin .FloorDiv _ _) ρ s).bind _ = _
  rw [e2]
  show (Out.opt ((ρ[1]?).join) s).bind _ = _
  rw [h1]
  show Out.opt (if 0 < many then some (D.int (b ^ 23 % 2305843009213693951 / 128 % many)) else none) s = _
  rw [if_pos hm]
  rfl
end
/-- the drawing dict as it may be after n drawings -/
structure PenI (n : Int) (p : Pen) : Prop where
  f0 : 0 ≤ p.fold
  f1 : p.fold < foB
  c0 : 0 ≤ p.count
  c1 : p.count ≤ n
  d0 : 0 ≤ p.digits
  a0 : 0 ≤ p.at_
  l : p.cells.length ≤ 63
def tl2 : Ss := .cons (.ife q6t (.cons q7 (.cons q8 (.cons (.ret (.var 3)) .nil))) .nil) (.cons q9 (.cons (.ret q10) .nil))
theorem ss_cons_eq {Γ : Gx} {t : S} {m : Ss} {ρ : List Sl} {s : Ms} : evSs Γ (.cons t m) ρ s = (evS Γ t ρ s).bind fun c s => match c with
    | .nx ρ' => evSs Γ m ρ' s
    | c => .ok c s := rfl
theorem ife_eq {Γ : Gx} {c : E} {x y : Ss} {ρ : List Sl} {s : Ms} {k : Bool} (h : evXT Γ.g c ρ s = .ok k s) : evS Γ (.ife c x y) ρ s = if k = true then evSs Γ x ρ s else evSs Γ y ρ s := by
  show (evXT Γ.g c ρ s).bind _ = _
  rw [h]; rfl
theorem ret_eq {Γ : Gx} {e : E} {ρ : List Sl} {s s' : Ms} {d : D} (h : ev Γ.g e (look (vsE e) ρ) s = .ok d s') : evS Γ (.ret e) ρ s = .ok (.rt d) s' := by
  show (ev Γ.g e (look (vsE e) ρ) s).bind _ = _
  rw [h]; rfl
theorem tail2 (cs : List Int) (a d c f : Int) (o : Nat) (r : List Int) (many : Int) (y : Sl) (hy : ∃ z, y = .sh (.int z) ∨ y = .no) (hm : 0 < many ∧ many < 1073741824) (n : Int) (hn : n < 1000000000) (I : PenI n ⟨cs, a, d, c, f⟩) :
    ∃ x d', evSs T0.gx tl2 [.sh .pen, .sh (.int many), y, .no, .no] (sp cs a d c f o r) = .ok (.rt (.int x)) (sp cs a d' c f o r) ∧ 0 ≤ x ∧ x < many ∧ PenI n ⟨cs, a, d', c, f⟩ := by
  have t6 := v6t cs a d c f o r [.sh .pen, .sh (.int many), y, .no, .no] rfl
  by_cases h : 0 < d
  · refine ⟨d % many, d / many, ?_, Int.emod_nonneg _ (by omega), Int.emod_lt_of_pos _ hm.1, ⟨I.f0, I.f1, I.c0, I.c1, Int.ediv_nonneg I.d0 (by omega), I.a0, I.l⟩⟩
    unfold tl2
    rw [ss_cons_eq, ife_eq t6, decide_eq_true h, if_pos rfl, ss_cons_eq, v7 cs a d c f o r many y hy hm.1]
    show (evSs T0.gx (.cons q8 (.cons (.ret (.var 3)) .nil)) _ _).bind _ = _
    rw [ss_cons_eq, v8 cs a d c f o r many y hy (d % many) hm]
    rfl
  · have hb : (f + c * 8167 + 97).natAbs < 2 ^ 64 := by
      have h0 := I.f0
      have h1 := I.f1
      have h2 := I.c0
      have h3 := I.c1
      simp only at h0 h1 h2 h3
      show (f + c * 8167 + 97).natAbs < 18446744073709551616
      have : foB = 1099511627776 := rfl
      omega
    obtain ⟨x, e, x0, x1⟩ := v10 many (look (vsE q10) [.sh .pen, .sh (.int many), y, .no, .sh (.int (f + c * 8167 + 97))]) (sp cs a d c f o r) (f + c * 8167 + 97) (by rfl) (by rfl) hb hm.1
    refine ⟨x, d, ?_, x0, x1, I⟩
    unfold tl2
    rw [ss_cons_eq, ife_eq t6, decide_eq_false h, if_neg Bool.false_ne_true]
    show evSs T0.gx (.cons q9 (.cons (.ret q10) .nil)) _ _ = _
    rw [ss_cons_eq, v9 cs a d c f o r many y hy]
    show evSs T0.gx (.cons (.ret q10) .nil) _ _ = _
    rw [ss_cons_eq, ret_eq e]
    rfl
theorem draw {n : Int} (hn : n < 999999999) {s : Ms} {p : Pen} (hs : s.pen = some p) (I : PenI n p) {many : Int} (hm : 0 < many ∧ many < 1073741824) :
    ∃ x p', e__law_draw [.pen, .int many] s = .ok (.int x) { s with pen := some p' } ∧ 0 ≤ x ∧ x < many ∧ PenI (n + 1) p' := by
  obtain ⟨pn, o, r⟩ := s
  have hs' : pn = some p := hs
  subst hs'
  obtain ⟨cs, a, d, c, f⟩ := p
  have i0 := I.c0
  have i1 := I.c1
  have i2 := I.a0
  simp only at i0 i1 i2
  have I1 : PenI (n + 1) ⟨cs, a, d, c + 1, f⟩ := ⟨I.f0, I.f1, by show 0 ≤ c + 1; omega, by show c + 1 ≤ n + 1; omega, I.d0, I.a0, I.l⟩
  have fin : ∀ {ct : Out Ctl} {x : Int} {s' : Ms}, ct = .ok (.rt (.int x)) s' → (ct.bind fun c s => match c with
      | .nx _ => Out.ok D.non s
      | .rt d => .ok d s
      | _ => .bad) = .ok (.int x) s' := fun {ct x s'} e => by rw [e]; rfl
  have start : e__law_draw [.pen, .int many] ⟨some ⟨cs, a, d, c, f⟩, o, r⟩ = ((evSs T0.gx m__law_draw (rd many) (sp cs a d c f o r)).bind fun c s => match c with
      | .nx _ => Out.ok D.non s
      | .rt d => .ok d s
      | _ => .bad) := rfl
  rw [start, draw_parts, ss_cons_eq, v1]
  by_cases h : (PyData.eqv (.int d) (.int 0) && decide (a < cs.length)) = true
  · have hl : a < cs.length := by
      rw [Bool.and_eq_true] at h
      exact of_decide_eq_true h.2
    have hx : ∃ x, cs[a.toNat]? = some x := ⟨cs[a.toNat]'(by omega), by rw [List.getElem?_eq_getElem]⟩
    obtain ⟨x, hx⟩ := hx
    have ha : L2.atI (cs.map D.int) a = some (.int x) := by
      unfold L2.atI ixN
      rw [List.length_map, if_pos i2, if_pos hl]
      show (cs.map D.int)[a.toNat]? = _
      rw [List.getElem?_map, hx]; rfl
    have mid : ∃ d' f', evSs T0.gx (.cons q3 (.cons q4 (.cons (.ife q5t (.cons q5a .nil) (.cons q5b .nil)) .nil))) (rd many) (sp cs a d (c + 1) f o r) = .ok (.nx [.sh .pen, .sh (.int many), .sh (.int x), .no, .no]) (sp cs (a + 1) d' (c + 1) f' o r) ∧ PenI (n + 1) ⟨cs, a + 1, d', c + 1, f'⟩ := by
      rw [ss_cons_eq, v3 cs a d (c + 1) f o r many x ha]
      show ∃ d' f', evSs T0.gx (.cons q4 (.cons (.ife q5t (.cons q5a .nil) (.cons q5b .nil)) .nil)) [.sh .pen, .sh (.int many), .sh (.int x), .no, .no] (sp cs a d (c + 1) f o r) = .ok (.nx [.sh .pen, .sh (.int many), .sh (.int x), .no, .no]) (sp cs (a + 1) d' (c + 1) f' o r) ∧ PenI (n + 1) ⟨cs, a + 1, d', c + 1, f'⟩
      rw [ss_cons_eq, v4]
      show ∃ d' f', evSs T0.gx (.cons (.ife q5t (.cons q5a .nil) (.cons q5b .nil)) .nil) [.sh .pen, .sh (.int many), .sh (.int x), .no, .no] (sp cs (a + 1) d (c + 1) f o r) = .ok (.nx [.sh .pen, .sh (.int many), .sh (.int x), .no, .no]) (sp cs (a + 1) d' (c + 1) f' o r) ∧ PenI (n + 1) ⟨cs, a + 1, d', c + 1, f'⟩
      rw [ss_cons_eq, ife_eq (v5t cs (a + 1) d (c + 1) f o r many x)]
      have id := I.d0
      have if0 := I.f0
      simp only at id if0
      by_cases hc : (10 : Int) ^ 18 ≤ x
      · refine ⟨x - 10 ^ 18, f, ?_, ⟨I.f0, I.f1, by show 0 ≤ c + 1; omega, by show c + 1 ≤ n + 1; omega, by show 0 ≤ x - 10 ^ 18; omega, by show 0 ≤ a + 1; omega, I.l⟩⟩
        rw [decide_eq_true hc, if_pos rfl, ss_cons_eq, v5a]
        rfl
      · refine ⟨d, (f * 44497 + x) % 2147483587, ?_, ⟨Int.emod_nonneg _ (by decide), Int.lt_trans (Int.emod_lt_of_pos _ (by decide)) (by decide), by show 0 ≤ c + 1; omega, by show c + 1 ≤ n + 1; omega, I.d0, by show 0 ≤ a + 1; omega, I.l⟩⟩
        rw [decide_eq_false hc, if_neg Bool.false_ne_true, ss_cons_eq, v5b]
        rfl
    obtain ⟨d', f', em, I2⟩ := mid
    obtain ⟨x', d2, e2, x0, x1, I3⟩ := tail2 cs (a + 1) d' (c + 1) f' o r many (.sh (.int x)) ⟨x, .inl rfl⟩ hm (n + 1) (by omega) I2
    refine ⟨x', ⟨cs, a + 1, d2, c + 1, f'⟩, fin ?_, x0, x1, I3⟩
    show evSs T0.gx (.cons (.ife q2t _ .nil) tl2) (rd many) (sp cs a d (c + 1) f o r) = _
    rw [ss_cons_eq, ife_eq (v2 cs a d (c + 1) f o r many true h), if_pos rfl, em]
    exact e2
  · have h' : (PyData.eqv (.int d) (.int 0) && decide (a < cs.length)) = false := by
      cases z : (PyData.eqv (.int d) (.int 0) && decide (a < cs.length)) with
      | true => exact absurd z h
      | false => rfl
    obtain ⟨x', d2, e2, x0, x1, I3⟩ := tail2 cs a d (c + 1) f o r many .no ⟨0, .inr rfl⟩ hm (n + 1) (by omega) I1
    refine ⟨x', ⟨cs, a, d2, c + 1, f⟩, fin ?_, x0, x1, I3⟩
    show evSs T0.gx (.cons (.ife q2t _ .nil) tl2) (rd many) (sp cs a d (c + 1) f o r) = _
    rw [ss_cons_eq, ife_eq (v2 cs a d (c + 1) f o r many false h'), if_neg Bool.false_ne_true]
    exact e2
end Mk
set_option Elab.async false
set_option linter.all false
set_option maxRecDepth 100000
set_option maxHeartbeats 2000000
/-! Val82: a drawn value. -/
namespace Mk
open PySem PySem.Spec PyProof.Rows L2 Mp
theorem den1 {Γ : Gx} {e : E} {ds : List D} {np n : Nat} {s s' : Ms} {d : D} (hl : ds.length = np) (h : ev Γ.g e (look (vsE e) (ds.map Sl.sh ++ List.replicate (n - np) .no)) s = .ok d s') : denOf Γ np n (.cons (.ret e) .nil) ds s = .ok d s' := by
  unfold denOf
  rw [if_pos hl, ss_cons_eq]
  show (((ev Γ.g e _ s).bind _).bind _).bind _ = _
  rw [h]; rfl
theorem fn_draw1 : T1.gx.g.fn "_law_draw" = some e__law_draw := by rfl
theorem fn_draw2 : T2.gx.g.fn "_law_draw" = some e__law_draw := by rfl
theorem fn_pick2 : T2.gx.g.fn "_law_pick" = some e__law_pick := by rfl
theorem call_eq {Γ : Gm} {f : Str} {den : Den} {es : Es} {ρ : List (Option D)} {s s' : Ms} {ds : List D} (hf : Γ.fn f = some den) (h : evs Γ es ρ s = .ok ds s') : ev Γ (.call f es) ρ s = den ds s' := by
  show (match Γ.fn f with
    | some d => (evs Γ es ρ s).bind d
    | none => .bad) = _
  rw [hf, h]; rfl
theorem pick {n : Int} (hn : n < 999999999) {s : Ms} {p : Pen} (hs : s.pen = some p) (I : PenI n p) {xs : List D} (h0 : xs ≠ []) (hl : xs.length < 1000) :
    ∃ x p', x ∈ xs ∧ e__law_pick [.pen, .lst xs] s = .ok x { s with pen := some p' } ∧ PenI (n + 1) p' := by
  have hpos : 0 < xs.length := List.length_pos_iff.mpr h0
  obtain ⟨i, p', e1, i0, i1, I1⟩ := draw hn hs I (many := xs.length) ⟨by omega, by omega⟩
  have hx : ∃ x, xs[i.toNat]? = some x := ⟨xs[i.toNat]'(by omega), by rw [List.getElem?_eq_getElem]⟩
  obtain ⟨x, hx⟩ := hx
  refine ⟨x, p', List.mem_of_getElem? hx, ?_, I1⟩
  refine den1 rfl ?_
  have ec : ev T1.gx.g (.call "_law_draw" (.cons (.var 0) (.cons (.bi .len (.cons (.var 1) .nil)) .nil))) (look (vsE (.ix (.var 1) (.call "_law_draw" (.cons (.var 0) (.cons (.bi .len (.cons (.var 1) .nil)) .nil))))) ([D.pen, .lst xs].map Sl.sh ++ List.replicate (2 - 2) .no)) s = .ok (.int i) { s with pen := some p' } := by
    rw [call_eq (s' := s) (ds := [.pen, .int xs.length]) fn_draw1 (by rfl)]
    exact e1
  have ea : L2.atI xs i = some x := by
    unfold L2.atI ixN
    rw [if_pos i0, if_pos i1]
    exact hx
  refine (show _ = (ev T1.gx.g (.call "_law_draw" (.cons (.var 0) (.cons (.bi .len (.cons (.var 1) .nil)) .nil))) (look (vsE (.ix (.var 1) (.call "_law_draw" (.cons (.var 0) (.cons (.bi .len (.cons (.var 1) .nil)) .nil))))) ([D.pen, .lst xs].map Sl.sh ++ List.replicate (2 - 2) .no)) s).bind (fun y s => Out.opt (ixD (.lst xs) y) s) from rfl).trans ?_
  rw [ec]
  show Out.opt (L2.atI xs i) { s with pen := some p' } = _
  rw [ea]; rfl
/-- the values that may be drawn -/
def vals (x y z : Int) : List D := [.tup [.int 1, .int 2], .lst [.int 1, .lst [.int 2]], .lst [], .tup [], .str "web", .int 5, .non, .bl true, .tup [.tup [.int 0, .int 1]], .lst [.lst [.int 0], .lst [.int 1]], .dct [(.inr "a", .int 1)], .int (-3), .str "", .lst [.non], .lst [.int x, .int y, .int z]]
abbrev d9 (x : Int) : Prop := 0 ≤ x ∧ x < 9
def t_some : E := .lst (.cons (.tup (.cons (.lit (.int 1)) (.cons (.lit (.int 2)) .nil))) (.cons (.lst (.cons (.lit (.int 1)) (.cons (.lst (.cons (.lit (.int 2)) .nil)) .nil))) (.cons (.lst .nil) (.cons (.tup .nil) (.cons (.lit (.str "web")) (.cons (.lit (.int 5)) (.cons (.lit .none) (.cons (.lit (.bool true)) (.cons (.tup (.cons (.tup (.cons (.lit (.int 0)) (.cons (.lit (.int 1)) .nil))) .nil)) (.cons (.lst (.cons (.lst (.cons (.lit (.int 0)) .nil)) (.cons (.lst (.cons (.lit (.int 1)) .nil)) .nil))) (.cons (.dic "a" (.lit (.int 1))) (.cons (.neg (.lit (.int 3))) (.cons (.lit (.str "")) (.cons (.lst (.cons (.lit .none) .nil)) .nil))))))))))))))
def t_draw9 : E := .call "_law_draw" (.cons (.var 0) (.cons (.lit (.int 9)) .nil))
def t_lc : E := .lc (.v 2) (.rng1 (.lit (.int 3))) .no t_draw9
theorem value_parts : m__law_value = .cons (.asg 1 {} t_some) (.cons (.ret (.call "_law_pick" (.cons (.var 0) (.cons (.bin .Add (.var 1) (.lst (.cons t_lc .nil))) .nil)))) .nil) := rfl
theorem draw9 {n : Int} (hn : n < 999999999) {s : Ms} {p : Pen} (hs : s.pen = some p) (I : PenI n p) {ρ : List (Option D)} (h0 : ρ[0]? = some (some .pen)) :
    ∃ x p', ev T2.gm t_draw9 ρ s = .ok (.int x) { s with pen := some p' } ∧ d9 x ∧ PenI (n + 1) p' := by
  obtain ⟨x, p', e, x0, x1, I1⟩ := draw hn hs I (many := 9) (by decide)
  refine ⟨x, p', ?_, ⟨x0, x1⟩, I1⟩
  have ea : evs T2.gm (.cons (.var 0) (.cons (.lit (.int 9)) .nil)) ρ s = .ok [.pen, .int 9] s := by
    show (Out.opt ((ρ[0]?).join) s).bind _ = _
    rw [h0]; rfl
  unfold t_draw9
  rw [call_eq (Γ := T2.gm) fn_draw2 ea]
  exact e
theorem lc3 {n : Int} (hn : n < 999999990) {s : Ms} {p : Pen} (hs : s.pen = some p) (I : PenI n p) {a b : Option D} : ∃ x y z p', ev T2.gm t_lc [some .pen, a, b] s = .ok (.lst [.int x, .int y, .int z]) { s with pen := some p' } ∧ d9 x ∧ d9 y ∧ d9 z ∧ PenI (n + 3) p' := by
  obtain ⟨x, p1, e1, hx, I1⟩ := draw9 (by omega) hs I (ρ := [some .pen, a, some (.int 0)]) rfl
  obtain ⟨y, p2, e2, hy, I2⟩ := draw9 (s := { s with pen := some p1 }) (by omega) rfl I1 (ρ := [some .pen, a, some (.int 1)]) rfl
  obtain ⟨z, p3, e3, hz, I3⟩ := draw9 (s := { s with pen := some p2 }) (by omega) rfl I2 (ρ := [some .pen, a, some (.int 2)]) rfl
  refine ⟨x, y, z, p3, ?_, hx, hy, hz, by have := I3; rw [show n + 1 + 1 + 1 = n + 3 by omega] at this; exact this⟩
  let F : D → Ms → Out (Option D) := fun d s => (match bindT (.v 2) d [some .pen, a, b] with
    | none => Out.bad
    | some ρ' => (evc T2.gm .no ρ' s).bind fun k s => if k = true then (ev T2.gm t_draw9 ρ' s).bind fun x s => .ok (some x) s else .ok none s).nox
  have f1 : F (.int 0) s = .ok (some (.int x)) { s with pen := some p1 } := by
    show ((ev T2.gm t_draw9 [some .pen, a, some (.int 0)] s).bind fun x s => .ok (some x) s).nox = _
    rw [e1]; rfl
  have f2 : F (.int 1) { s with pen := some p1 } = .ok (some (.int y)) { s with pen := some p2 } := by
    show ((ev T2.gm t_draw9 [some .pen, a, some (.int 1)] { s with pen := some p1 }).bind fun x s => .ok (some x) s).nox = _
    rw [e2]; rfl
  have f3 : F (.int 2) { s with pen := some p2 } = .ok (some (.int z)) { s with pen := some p3 } := by
    show ((ev T2.gm t_draw9 [some .pen, a, some (.int 2)] { s with pen := some p2 }).bind fun x s => .ok (some x) s).nox = _
    rw [e3]; rfl
  show (loopL F [.int 0, .int 1, .int 2] s).bind (fun ds s => if ds.length ≤ sizeLine then Out.ok (D.lst ds) s else .bad) = _
  have el : loopL F [.int 0, .int 1, .int 2] s = .ok [.int x, .int y, .int z] { s with pen := some p3 } := by
    show (F (.int 0) s).bind _ = _
    rw [f1]
    show (((F (.int 1) { s with pen := some p1 }).bind _).bind _) = _
    rw [f2]
    show ((((F (.int 2) { s with pen := some p2 }).bind _).bind _).bind _) = _
    rw [f3]
    rfl
  rw [el, Out.bind_ok, if_pos (by show 3 ≤ sizeLine; decide)]
theorem value {n : Int} (hn : n < 999999900) {s : Ms} {p : Pen} (hs : s.pen = some p) (I : PenI n p) : ∃ v x y z p', v ∈ vals x y z ∧ d9 x ∧ d9 y ∧ d9 z ∧ e__law_value [.pen] s = .ok v { s with pen := some p' } ∧ PenI (n + 4) p' := by
  obtain ⟨x, y, z, p1, e1, hx, hy, hz, I1⟩ := lc3 (a := some (.lst ((vals 0 0 0).take 14))) (b := none) (by omega) hs I
  obtain ⟨v, p2, hv, e2, I2⟩ := pick (n := n + 3) (s := { s with pen := some p1 }) (by omega) rfl I1 (xs := vals x y z) (by simp [vals]) (by simp [vals])
  refine ⟨v, x, y, z, p2, hv, hx, hy, hz, ?_, by have := I2; rw [show n + 3 + 1 = n + 4 by omega] at this; exact this⟩
  have s1 : evS T2.gx (.asg 1 {} t_some) [.sh .pen, .no, .no] s = .ok (.nx [.sh .pen, .sh (.lst ((vals 0 0 0).take 14)), .no]) s := by rfl
  have s2 : ev T2.gx.g (.bin .Add (.var 1) (.lst (.cons t_lc .nil))) [some .pen, some (.lst ((vals 0 0 0).take 14)), none] s = .ok (.lst (vals x y z)) { s with pen := some p1 } := by
    show ((((ev T2.gm t_lc [some .pen, some (.lst ((vals 0 0 0).take 14)), none] s).bind _).bind _).bind _) = _
    rw [e1]
    rfl
  have s3 : ev T2.gx.g (.call "_law_pick" (.cons (.var 0) (.cons (.bin .Add (.var 1) (.lst (.cons t_lc .nil))) .nil))) [some .pen, some (.lst ((vals 0 0 0).take 14)), none] s = .ok v { s with pen := some p2 } := by
    have ea : evs T2.gx.g (.cons (.var 0) (.cons (.bin .Add (.var 1) (.lst (.cons t_lc .nil))) .nil)) [some .pen, some (.lst ((vals 0 0 0).take 14)), none] s = .ok [.pen, .lst (vals x y z)] { s with pen := some p1 } := by
      show ((((ev T2.gx.g (.bin .Add (.var 1) (.lst (.cons t_lc .nil))) _ s).bind _).bind _)) = _
      rw [s2]; rfl
    rw [call_eq fn_pick2 ea]
    exact e2
  show ((evSs T2.gx m__law_value [.sh .pen, .no, .no] s).bind _) = _
  rw [value_parts, ss_cons_eq, s1]
  show ((evSs T2.gx (.cons (.ret _) .nil) _ s).bind _) = _
  rw [ss_cons_eq, ret_eq (Γ := T2.gx) (d := v) (s' := { s with pen := some p2 }) s3]
  rfl
end Mk
set_option Elab.async false
set_option linter.all false
set_option maxRecDepth 100000
set_option maxHeartbeats 2000000
/-! Loop82: the loop over the rows. -/
namespace Mk
open PySem PySem.Spec PyProof.Rows L2 Mp
def b1a : S := .asg 16 {} (.bi .repr (.cons (.lc (.v 7) (.e (.var 15)) .no (.call "_law_copy" (.cons (.var 7) .nil))) .nil))
def b1t : E := .or (.cons (.cmp .IsNot (.var 12) (.lit (.bool true))) (.cons (.cmp .NotEq (.bi .repr (.cons (.var 13) .nil)) (.var 16)) (.cons (.cmp .NotEq (.bi .repr (.cons (.var 14) .nil)) (.var 16)) (.cons (.not (.cmp .Eq (.var 10) (.var 10))) (.cons (.cmp .Eq (.var 10) (.var 11)) .nil)))))
def b1 : Ss := .cons b1a (.cons (.ife b1t (.cons (.ret (.lit (.bool false))) .nil) .nil) .nil)
theorem fn_copy3 : T3.gm.fn "_law_copy" = some e__law_copy := by rfl
/-- a value as it is copied -/
def cp : D → D
  | .lst xs => .tup xs
  | d => d
def bi : D → Bool
  | .non => true
  | .bl _ => true
  | .int _ => true
  | .str _ => true
  | .tup _ => true
  | .lst _ => true
  | .dct _ => true
  | _ => false
theorem copy_eq (v : D) (h : bi v = true) (s : Ms) : e__law_copy [v] s = .ok (cp v) s := by
  cases v <;> first | (cases h; done) | kernel_rfl
/-- the test of a row's turn: nothing is wrong -/
theorem test_row {ρ : List (Option D)} {s : Ms} {c : Str} {i j : Nat} {f g : List (Str × D)} {F : D} {t : Str} (h10 : ρ[10]? = some (some (.ins c i f))) (h11 : ρ[11]? = some (some (.ins c j g))) (h12 : ρ[12]? = some (some (.bl true))) (h13 : ρ[13]? = some (some F)) (h14 : ρ[14]? = some (some F)) (h16 : ρ[16]? = some (some (.str t)))
    (hc : T3.gm.idn c = true) (hi : i ≠ 0) (hj : j ≠ 0) (hij : i ≠ j) (hr : biD .repr [F] = some (.str t)) (hs : SeqAt.shaped (.str t) = true) : ev T3.gm b1t ρ s = .ok (.bl false) s := by
  have v : ∀ {n : Nat} {d : D}, ρ[n]? = some (some d) → ev T3.gm (.var n) ρ s = .ok d s := fun {n d} h => by
    show Out.opt ((ρ[n]?).join) s = _
    rw [h]; rfl
  have e1 : ev T3.gm (.cmp .IsNot (.var 12) (.lit (.bool true))) ρ s = .ok (.bl false) s := by
    show (ev T3.gm (.var 12) ρ s).bind _ = _
    rw [v h12]; rfl
  have er : ∀ {n : Nat}, ρ[n]? = some (some F) → ev T3.gm (.cmp .NotEq (.bi .repr (.cons (.var n) .nil)) (.var 16)) ρ s = .ok (.bl false) s := fun {n} h => by
    have f1 : ev T3.gm (.bi .repr (.cons (.var n) .nil)) ρ s = .ok (.str t) s := by
      show ((ev T3.gm (.var n) ρ s).bind fun x s => (evs T3.gm .nil ρ s).bind fun xs s => .ok (x :: xs) s).bind _ = _
      rw [v h]
      show Out.opt (biD .repr [F]) s = _
      rw [hr]; rfl
    have f2 : eqD (.str t) (.str t) = some true := by
      unfold eqD
      show (if SeqAt.shaped (.str t) = true ∧ SeqAt.shaped (.str t) = true then some (PyData.eqv (.str t) (.str t)) else none) = _
      rw [if_pos ⟨hs, hs⟩]
      congr 1
      simp [PyData.eqv]
    show (ev T3.gm (.bi .repr (.cons (.var n) .nil)) ρ s).bind _ = _
    rw [f1]
    show (ev T3.gm (.var 16) ρ s).bind _ = _
    rw [v h16]
    show (Out.opt ((eqD (.str t) (.str t)).map (!·)) s).bind _ = _
    rw [f2]; rfl
  have eo : ∀ {k : Nat} {h' : List (Str × D)}, k ≠ 0 → eqO T3.gm (.ins c i f) (.ins c k h') s = .ok (decide (i = k)) s := fun {k h'} hk => by
    show (if T3.gm.idn c = true then (if T3.gm.idn c = true ∧ i ≠ 0 ∧ k ≠ 0 then Out.ok (decide (i = k)) s else .bad) else _) = _
    rw [if_pos hc, if_pos ⟨hc, hi, hk⟩]
  have e4 : ev T3.gm (.not (.cmp .Eq (.var 10) (.var 10))) ρ s = .ok (.bl false) s := by
    have f1 : ev T3.gm (.cmp .Eq (.var 10) (.var 10)) ρ s = .ok (.bl true) s := by
      show (ev T3.gm (.var 10) ρ s).bind _ = _
      rw [v h10]
      show (ev T3.gm (.var 10) ρ s).bind _ = _
      rw [v h10]
      show (eqO T3.gm (.ins c i f) (.ins c i f) s).bind _ = _
      rw [eo hi, decide_eq_true rfl]; rfl
    show (ev T3.gm (.cmp .Eq (.var 10) (.var 10)) ρ s).bind _ = _
    rw [f1]; rfl
  have e5 : ev T3.gm (.cmp .Eq (.var 10) (.var 11)) ρ s = .ok (.bl false) s := by
    show (ev T3.gm (.var 10) ρ s).bind _ = _
    rw [v h10]
    show (ev T3.gm (.var 11) ρ s).bind _ = _
    rw [v h11]
    show (eqO T3.gm (.ins c i f) (.ins c j g) s).bind _ = _
    rw [eo hj, decide_eq_false hij]; rfl
  have orC : ∀ {e e2 : E} {es : Es}, ev T3.gm e ρ s = .ok (.bl false) s → evOr T3.gm (.cons e (.cons e2 es)) ρ s = evOr T3.gm (.cons e2 es) ρ s := fun {e e2 es} h => by
    show (ev T3.gm e ρ s).bind _ = _
    rw [h]; rfl
  show evOr T3.gm _ ρ s = _
  rw [orC e1, orC (er h13), orC (er h14), orC e4]
  show (ev T3.gm (.cmp .Eq (.var 10) (.var 11)) ρ s).bind _ = _
  rw [e5]; rfl
/-- the copies of a row's values -/
theorem lc_copy (hs : List D) (hb : ∀ v ∈ hs, bi v = true) (hl : hs.length < 1000) (ρ : List (Option D)) (h15 : ρ[15]? = some (some (.lst hs))) (hn : ρ.length = 20) (s : Ms) : ev T3.gm (.lc (.v 7) (.e (.var 15)) .no (.call "_law_copy" (.cons (.var 7) .nil))) ρ s = .ok (.lst (hs.map cp)) s := by
  let F : D → Ms → Out (Option D) := fun d s => (match bindT (.v 7) d ρ with
    | none => Out.bad
    | some ρ' => (evc T3.gm .no ρ' s).bind fun k s => if k = true then (ev T3.gm (.call "_law_copy" (.cons (.var 7) .nil)) ρ' s).bind fun x s => .ok (some x) s else .ok none s).nox
  have f1 : ∀ d, bi d = true → F d s = .ok (some (cp d)) s := fun d hd => by
    have e : ev T3.gm (.call "_law_copy" (.cons (.var 7) .nil)) (ρ.set 7 (some d)) s = .ok (cp d) s := by
      have ea : evs T3.gm (.cons (.var 7) .nil) (ρ.set 7 (some d)) s = .ok [d] s := by
        show (Out.opt (((ρ.set 7 (some d))[7]?).join) s).bind _ = _
        rw [List.getElem?_set_self (by omega)]; rfl
      rw [call_eq fn_copy3 ea]
      exact copy_eq d hd s
    show ((ev T3.gm (.call "_law_copy" (.cons (.var 7) .nil)) (ρ.set 7 (some d)) s).bind fun x s => .ok (some x) s).nox = _
    rw [e]; rfl
  have fl : ∀ hs : List D, (∀ v ∈ hs, bi v = true) → loopL F hs s = .ok (hs.map cp) s := fun hs => by
    induction hs with
    | nil => intro _; rfl
    | cons d ds ih =>
      intro h
      show (F d s).bind _ = _
      rw [f1 d (h d List.mem_cons_self)]
      show (loopL F ds s).bind _ = _
      rw [ih fun v hv => h v (List.mem_cons_of_mem _ hv)]
      rfl
  show (((Out.opt ((ρ[15]?).join) s).bind _).bind _) = _
  rw [h15]
  show (loopL F hs s).bind (fun ds s => if ds.length ≤ sizeLine then Out.ok (D.lst ds) s else .bad) = _
  rw [fl hs hb, Out.bind_ok, if_pos (by rw [List.length_map]; exact Nat.le_trans (Nat.le_of_lt hl) (by decide))]
end Mk
set_option Elab.async false
set_option linter.all false
set_option maxRecDepth 100000
set_option maxHeartbeats 2000000
/-! Row82: one class's row. -/
namespace Mk
open PySem PySem.Spec PyProof.Rows L2 Mp
/-- a row: two objects of one class, made of the values hs -/
def mkRow (c : Str) (fs : List Str) (o : Nat) (hs : List D) : D := .tup [.ins c (o + 1) (fs.zip (hs.map cp)), .ins c (o + 2) (fs.zip (hs.map cp)), .bl true, .lst (hs.map cp), .lst (hs.map cp), .lst hs]
def vE : List Nat → Es
  | [] => .nil
  | i :: is => .cons (.var i) (vE is)
def fE (k : Nat) : List Str → Es
  | [] => .nil
  | f :: fs => .cons (.fld (.var k) f) (fE k fs)
theorem fz_id {vs : List Nat} {ρ : List Sl} (h : ∀ (i : Nat) ds, ρ[i]? = some (.ow ds) → i ∉ vs) : fz vs ρ = ρ := by
  refine List.ext_getElem? fun i => ?_
  unfold fz
  rw [List.getElem?_mapIdx]
  cases e : ρ[i]? with
  | none => rfl
  | some x =>
    cases x with
    | ow ds =>
      show some (if i ∈ vs then Sl.sh (.lst ds) else .ow ds) = _
      rw [if_neg (h i ds e)]
    | _ => rfl
theorem look_sh {vs : List Nat} {ρ : List Sl} {i : Nat} {d : D} (h : ρ[i]? = some (.sh d)) : (look vs ρ)[i]? = some (some d) := by
  unfold look
  rw [List.getElem?_mapIdx, h]; rfl
theorem var_eq {Γ : Gm} {ρ : List (Option D)} {s : Ms} {i : Nat} {d : D} (h : ρ[i]? = some (some d)) : ev Γ (.var i) ρ s = .ok d s := by
  show Out.opt ((ρ[i]?).join) s = _
  rw [h]; rfl
theorem evs_vars {Γ : Gm} {ρ : List (Option D)} {s : Ms} : ∀ {is : List Nat} {ds : List D}, is.map (fun i => ρ[i]?) = ds.map (fun d => some (some d)) → evs Γ (vE is) ρ s = .ok ds s
  | [], [], _ => rfl
  | [], _ :: _, h => by cases h
  | _ :: _, [], h => by cases h
  | i :: is, d :: ds, h => by
    injection h with h1 h2
    show (ev Γ (.var i) ρ s).bind (fun x s => (evs Γ (vE is) ρ s).bind fun xs s => .ok (x :: xs) s) = _
    rw [var_eq h1, Out.bind_ok, evs_vars h2]; rfl
theorem vs_vE : ∀ {is : List Nat}, vsEs (vE is) = is
  | [] => rfl
  | i :: is => by show [i] ++ vsEs (vE is) = _; rw [vs_vE]; rfl
theorem vs_fE {k : Nat} : ∀ {fs : List Str} {i : Nat}, i ∈ vsEs (fE k fs) → i = k
  | [], _, h => by cases h
  | f :: fs, i, h => by
    have h' : i ∈ [k] ++ vsEs (fE k fs) := h
    rcases List.mem_append.mp h' with z | z
    · exact List.mem_singleton.mp z
    · exact vs_fE z
theorem evs_flds {Γ : Gm} {ρ : List (Option D)} {s : Ms} {k i : Nat} {c : Str} {gs : List (Str × D)} (h : ρ[k]? = some (some (.ins c i gs))) : ∀ {fs : List Str} {ds : List D}, (∀ f ∈ fs, Γ.fld c f = true) → fs.map (fun f => gs.lookup f) = ds.map some → evs Γ (fE k fs) ρ s = .ok ds s
  | [], [], _, _ => rfl
  | [], _ :: _, _, e => by cases e
  | _ :: _, [], _, e => by cases e
  | f :: fs, d :: ds, hf, e => by
    injection e with e1 e2
    have ef : ev Γ (.fld (.var k) f) ρ s = .ok d s := by
      show (ev Γ (.var k) ρ s).bind (fun x s => Out.opt (fldD Γ x f) s) = _
      rw [var_eq h, Out.bind_ok]
      show Out.opt (if Γ.fld c f = true then gs.lookup f else none) s = _
      have e3 : gs.lookup f = some d := e1
      rw [if_pos (hf f List.mem_cons_self), e3]; rfl
    show (ev Γ (.fld (.var k) f) ρ s).bind (fun x s => (evs Γ (fE k fs) ρ s).bind fun xs s => .ok (x :: xs) s) = _
    rw [ef, Out.bind_ok, evs_flds h (fun f hf' => hf f (List.mem_cons_of_mem _ hf')) e2]; rfl
def r1 (c : Str) (fs : List Str) (is : List Nat) : S := .par 4 5 {} {} (.mk c (vE is)) (.mkk c fs.reverse (vE is.reverse))
def r2 (c : Str) (fs : List Str) : S := .par 6 7 {} {} (.and (.cons (.isi (.var 4) (.own c)) (.cons (.isi (.var 5) (.own c)) .nil))) (.lst (fE 4 fs))
def r3 (fs : List Str) (is : List Nat) : S := .app 3 {} (.tup (.cons (.var 4) (.cons (.var 5) (.cons (.var 6) (.cons (.var 7) (.cons (.lst (fE 5 fs)) (.cons (.lst (vE is)) .nil)))))))
abbrev rR (a b c : D) (R : List D) (y4 y5 y6 y7 : Sl) : List Sl := [.sh a, .sh b, .sh c, .ow R, y4, y5, y6, y7]
theorem ow3 {a b c : D} {R : List D} {y4 y5 y6 y7 : Sl} (hy : y4.own = false ∧ y5.own = false ∧ y6.own = false ∧ y7.own = false) : ∀ (i : Nat) ds, (rR a b c R y4 y5 y6 y7)[i]? = some (.ow ds) → i = 3
  | 0, _, h => by cases h
  | 1, _, h => by cases h
  | 2, _, h => by cases h
  | 3, _, _ => rfl
  | 4, _, h => by
    have e : y4 = .ow _ := Option.some.inj h
    have z := hy.1
    rw [e] at z; cases z
  | 5, _, h => by
    have e : y5 = .ow _ := Option.some.inj h
    have z := hy.2.1
    rw [e] at z; cases z
  | 6, _, h => by
    have e : y6 = .ow _ := Option.some.inj h
    have z := hy.2.2.1
    rw [e] at z; cases z
  | 7, _, h => by
    have e : y7 = .ow _ := Option.some.inj h
    have z := hy.2.2.2
    rw [e] at z; cases z
  | n + 8, _, h => by cases h
theorem map_look {vs : List Nat} {a b c : D} {R : List D} {y4 y5 y6 y7 : Sl} : ∀ {is : List Nat} {hs : List D}, is.map (fun i => [a, b, c][i]?) = hs.map some → is.map (fun i => (look vs (rR a b c R y4 y5 y6 y7))[i]?) = hs.map (fun d => some (some d))
  | [], [], _ => rfl
  | [], _ :: _, h => by cases h
  | _ :: _, [], h => by cases h
  | i :: is, d :: hs, h => by
    injection h with h1 h2
    have e : (rR a b c R y4 y5 y6 y7)[i]? = some (.sh d) := by
      match i, h1 with
      | 0, h1 => cases h1; rfl
      | 1, h1 => cases h1; rfl
      | 2, h1 => cases h1; rfl
      | n + 3, h1 => cases h1
    rw [List.map_cons, List.map_cons, look_sh e, map_look h2]
theorem zip_look : ∀ {fs : List Str} {ds : List D}, fs.Nodup → fs.length = ds.length → fs.map (fun f => (fs.zip ds).lookup f) = ds.map some
  | [], [], _, _ => rfl
  | [], _ :: _, _, h => by cases h
  | _ :: _, [], _, h => by cases h
  | f :: fs, d :: ds, hn, h => by
    rw [List.nodup_cons] at hn
    have ih := zip_look hn.2 (Nat.succ.inj h)
    rw [List.map_cons, List.map_cons, List.zip_cons_cons]
    congr 1
    · rw [List.lookup_cons]; simp
    · rw [← ih]
      refine List.map_congr_left fun g hg => ?_
      have ne : (g == f) = false := by
        rw [beq_eq_false_iff_ne]
        exact fun e => hn.1 (e ▸ hg)
      rw [List.lookup_cons, ne]
theorem evV0 {Γ : Gm} {e : E} {ρ : List Sl} {s s' : Ms} {d : D} (h : ev Γ e (look (vsE e) ρ) s = .ok d s') (hf : fz (vsE e) ρ = ρ) : evV Γ {} e ρ s = .ok (.sh d, ρ) s' := by
  have hx : evX Γ false e ρ s = .ok (d, ρ) s' := by
    unfold evX
    rw [h, Out.bind_ok, if_neg Bool.false_ne_true, hf]
  show (evX Γ false e ρ s).bind _ = _
  rw [hx]; rfl
theorem one_row {Γ : Gx} {cl : Str} {fs : List Str} {is : List Nat} {hs : List D} {ini : Ini} {a b c : D} {R : List D} {y4 y5 y6 y7 : Sl} {rest : Ss} {pn : Option Pen} {o : Nat} {r : List Int}
    (hy : y4.own = false ∧ y5.own = false ∧ y6.own = false ∧ y7.own = false) (his : ∀ i ∈ is, i < 3) (hv : is.map (fun i => [a, b, c][i]?) = hs.map some) (hfl : fs.length = is.length) (hnd : fs.Nodup) (hlen : is.length ≤ 3)
    (hmk : Γ.g.mke cl = some (mkDen cl true ini)) (hkk : Γ.g.mkk cl fs.reverse = some (fun ds s => mkDen cl true ini ds.reverse s)) (hini : ∀ s, ini hs s = .ok (fs.zip (hs.map cp)) s) (hown : Γ.g.own cl = true) (hsub : Γ.g.sub cl cl = some true) (hfd : ∀ f ∈ fs, Γ.g.fld cl f = true) (hR : R.length < 1000) :
    evSs Γ (.cons (r1 cl fs is) (.cons (r2 cl fs) (.cons (r3 fs is) rest))) (rR a b c R y4 y5 y6 y7) ⟨pn, o, r⟩ = evSs Γ rest (rR a b c (R ++ [mkRow cl fs o hs]) (.sh (.ins cl (o + 1) (fs.zip (hs.map cp)))) (.sh (.ins cl (o + 2) (fs.zip (hs.map cp)))) (.sh (.bl true)) (.sh (.lst (hs.map cp)))) ⟨pn, o + 2, r⟩ := by
  have hhl : hs.length = is.length := by
    have z := congrArg List.length hv
    simp at z
    omega
  have rev : is.reverse.map (fun i => [a, b, c][i]?) = hs.reverse.map some := by rw [List.map_reverse, List.map_reverse, hv]
  have out3 : ∀ {l : List Nat} {y4 y5 y6 y7 : Sl}, (y4.own = false ∧ y5.own = false ∧ y6.own = false ∧ y7.own = false) → 3 ∉ l → fz l (rR a b c R y4 y5 y6 y7) = rR a b c R y4 y5 y6 y7 := fun hy hl => fz_id fun i ds h z => by
    rw [ow3 hy i ds h] at z
    exact hl z
  have n1 : 3 ∉ is := fun z => by have := his 3 z; omega
  have n2 : 3 ∉ is.reverse := fun z => n1 (List.mem_reverse.mp z)
  -- the two objects
  have m1 : evV Γ.g {} (.mk cl (vE is)) (rR a b c R y4 y5 y6 y7) ⟨pn, o, r⟩ = .ok (.sh (.ins cl (o + 1) (fs.zip (hs.map cp))), rR a b c R y4 y5 y6 y7) ⟨pn, o + 1, r⟩ := by
    refine evV0 ?_ (out3 hy (by show 3 ∉ vsEs (vE is); rw [vs_vE]; exact n1))
    show (match Γ.g.mke cl with
      | some d => (evs Γ.g (vE is) _ _).bind d
      | none => .bad) = _
    rw [hmk, evs_vars (map_look hv)]
    show (ini hs ⟨pn, o, r⟩).bind _ = _
    rw [hini]; rfl
  have m2 : evV Γ.g {} (.mkk cl fs.reverse (vE is.reverse)) (rR a b c R y4 y5 y6 y7) ⟨pn, o + 1, r⟩ = .ok (.sh (.ins cl (o + 2) (fs.zip (hs.map cp))), rR a b c R y4 y5 y6 y7) ⟨pn, o + 2, r⟩ := by
    refine evV0 ?_ (out3 hy (by show 3 ∉ vsEs (vE is.reverse); rw [vs_vE]; exact n2))
    show (match Γ.g.mkk cl fs.reverse with
      | some d => (evs Γ.g (vE is.reverse) _ _).bind d
      | none => .bad) = _
    rw [hkk, evs_vars (map_look rev)]
    show (ini hs.reverse.reverse ⟨pn, o + 1, r⟩).bind _ = _
    rw [List.reverse_reverse, hini]; rfl
  have t1 : evS Γ (r1 cl fs is) (rR a b c R y4 y5 y6 y7) ⟨pn, o, r⟩ = .ok (.nx (rR a b c R (.sh (.ins cl (o + 1) (fs.zip (hs.map cp)))) (.sh (.ins cl (o + 2) (fs.zip (hs.map cp)))) y6 y7)) ⟨pn, o + 2, r⟩ := by
    show ((evV Γ.g {} (.mk cl (vE is)) _ _).bind fun p s => (evV Γ.g {} (.mkk cl fs.reverse (vE is.reverse)) p.2 s).bind _) = _
    rw [m1, Out.bind_ok, m2]; rfl
  have hy1 : (Sl.sh (.ins cl (o + 1) (fs.zip (hs.map cp)))).own = false ∧ (Sl.sh (.ins cl (o + 2) (fs.zip (hs.map cp)))).own = false ∧ y6.own = false ∧ y7.own = false := ⟨rfl, rfl, hy.2.2.1, hy.2.2.2⟩
  -- their kind, what they hold
  have isi : ∀ {k i : Nat} {gs : List (Str × D)} {ρ : List (Option D)} {s : Ms}, ρ[k]? = some (some (.ins cl i gs)) → ev Γ.g (.isi (.var k) (.own cl)) ρ s = .ok (.bl true) s := fun {k i gs ρ s} h => by
    show (if Γ.g.own cl = true then (ev Γ.g (.var k) ρ s).bind _ else .bad) = _
    rw [if_pos hown, var_eq h]
    show (Out.opt (if Γ.g.own cl = true then Γ.g.sub cl cl else none) s).bind _ = _
    rw [if_pos hown, hsub]; rfl
  have flds : ∀ {k i : Nat} {ρ : List (Option D)} {s : Ms}, ρ[k]? = some (some (.ins cl i (fs.zip (hs.map cp)))) → ev Γ.g (.lst (fE k fs)) ρ s = .ok (.lst (hs.map cp)) s := fun {k i ρ s} h => by
    show (evs Γ.g (fE k fs) ρ s).bind _ = _
    rw [evs_flds h hfd (zip_look hnd (by rw [List.length_map]; omega)), Out.bind_ok, if_pos (by rw [List.length_map]; exact Nat.le_trans (show hs.length ≤ 3 by omega) (by decide))]
  have k1 : evV Γ.g {} (.and (.cons (.isi (.var 4) (.own cl)) (.cons (.isi (.var 5) (.own cl)) .nil))) (rR a b c R (.sh (.ins cl (o + 1) (fs.zip (hs.map cp)))) (.sh (.ins cl (o + 2) (fs.zip (hs.map cp)))) y6 y7) ⟨pn, o + 2, r⟩ = .ok (.sh (.bl true), rR a b c R (.sh (.ins cl (o + 1) (fs.zip (hs.map cp)))) (.sh (.ins cl (o + 2) (fs.zip (hs.map cp)))) y6 y7) ⟨pn, o + 2, r⟩ := by
    refine evV0 ?_ (out3 hy1 (by show 3 ∉ [4, 5]; decide))
    show (ev Γ.g (.isi (.var 4) (.own cl)) _ _).bind _ = _
    rw [isi (k := 4) (i := o + 1) (gs := fs.zip (hs.map cp)) rfl]
    show evAnd Γ.g (.cons (.isi (.var 5) (.own cl)) .nil) _ _ = _
    show (ev Γ.g (.isi (.var 5) (.own cl)) _ _).bind _ = _
    rw [isi (k := 5) (i := o + 2) (gs := fs.zip (hs.map cp)) rfl]; rfl
  have k2 : evV Γ.g {} (.lst (fE 4 fs)) (rR a b c R (.sh (.ins cl (o + 1) (fs.zip (hs.map cp)))) (.sh (.ins cl (o + 2) (fs.zip (hs.map cp)))) y6 y7) ⟨pn, o + 2, r⟩ = .ok (.sh (.lst (hs.map cp)), rR a b c R (.sh (.ins cl (o + 1) (fs.zip (hs.map cp)))) (.sh (.ins cl (o + 2) (fs.zip (hs.map cp)))) y6 y7) ⟨pn, o + 2, r⟩ := by
    refine evV0 ?_ (out3 hy1 fun z => by
      have z' : 3 ∈ vsEs (fE 4 fs) := z
      have := vs_fE z'
      omega)
    exact flds (k := 4) (i := o + 1) (look_sh rfl)
  have t2 : evS Γ (r2 cl fs) (rR a b c R (.sh (.ins cl (o + 1) (fs.zip (hs.map cp)))) (.sh (.ins cl (o + 2) (fs.zip (hs.map cp)))) y6 y7) ⟨pn, o + 2, r⟩ = .ok (.nx (rR a b c R (.sh (.ins cl (o + 1) (fs.zip (hs.map cp)))) (.sh (.ins cl (o + 2) (fs.zip (hs.map cp)))) (.sh (.bl true)) (.sh (.lst (hs.map cp))))) ⟨pn, o + 2, r⟩ := by
    show ((evV Γ.g {} (.and _) _ _).bind fun p s => (evV Γ.g {} (.lst (fE 4 fs)) p.2 s).bind _) = _
    rw [k1, Out.bind_ok, k2]; rfl
  have hy2 : (Sl.sh (.ins cl (o + 1) (fs.zip (hs.map cp)))).own = false ∧ (Sl.sh (.ins cl (o + 2) (fs.zip (hs.map cp)))).own = false ∧ (Sl.sh (.bl true)).own = false ∧ (Sl.sh (.lst (hs.map cp))).own = false := ⟨rfl, rfl, rfl, rfl⟩
  let tE : E := .tup (.cons (.var 4) (.cons (.var 5) (.cons (.var 6) (.cons (.var 7) (.cons (.lst (fE 5 fs)) (.cons (.lst (vE is)) .nil))))))
  have k3 : ev Γ.g tE (look (vsE tE) (rR a b c R (.sh (.ins cl (o + 1) (fs.zip (hs.map cp)))) (.sh (.ins cl (o + 2) (fs.zip (hs.map cp)))) (.sh (.bl true)) (.sh (.lst (hs.map cp))))) ⟨pn, o + 2, r⟩ = .ok (mkRow cl fs o hs) ⟨pn, o + 2, r⟩ := by
    have f5 : ev Γ.g (.lst (fE 5 fs)) (look (vsE tE) (rR a b c R (.sh (.ins cl (o + 1) (fs.zip (hs.map cp)))) (.sh (.ins cl (o + 2) (fs.zip (hs.map cp)))) (.sh (.bl true)) (.sh (.lst (hs.map cp))))) ⟨pn, o + 2, r⟩ = .ok (.lst (hs.map cp)) ⟨pn, o + 2, r⟩ := flds (k := 5) (i := o + 2) (look_sh rfl)
    have f6 : ev Γ.g (.lst (vE is)) (look (vsE tE) (rR a b c R (.sh (.ins cl (o + 1) (fs.zip (hs.map cp)))) (.sh (.ins cl (o + 2) (fs.zip (hs.map cp)))) (.sh (.bl true)) (.sh (.lst (hs.map cp))))) ⟨pn, o + 2, r⟩ = .ok (.lst hs) ⟨pn, o + 2, r⟩ := by
      show (evs Γ.g (vE is) _ _).bind _ = _
      rw [evs_vars (map_look hv), Out.bind_ok, if_pos (Nat.le_trans (show hs.length ≤ 3 by omega) (by decide))]
    have v : ∀ {n : Nat} {d : D}, (rR a b c R (.sh (.ins cl (o + 1) (fs.zip (hs.map cp)))) (.sh (.ins cl (o + 2) (fs.zip (hs.map cp)))) (.sh (.bl true)) (.sh (.lst (hs.map cp))))[n]? = some (.sh d) → ev Γ.g (.var n) (look (vsE tE) (rR a b c R (.sh (.ins cl (o + 1) (fs.zip (hs.map cp)))) (.sh (.ins cl (o + 2) (fs.zip (hs.map cp)))) (.sh (.bl true)) (.sh (.lst (hs.map cp))))) ⟨pn, o + 2, r⟩ = .ok d ⟨pn, o + 2, r⟩ := fun h => var_eq (look_sh h)
    have cons : ∀ {e : E} {es : Es} {ρ : List (Option D)} {s s1 s2 : Ms} {d : D} {ds : List D}, ev Γ.g e ρ s = .ok d s1 → evs Γ.g es ρ s1 = .ok ds s2 → evs Γ.g (.cons e es) ρ s = .ok (d :: ds) s2 := fun {e es ρ s s1 s2 d ds} h1 h2 => by
      show (ev Γ.g e ρ s).bind _ = _
      rw [h1]
      show (evs Γ.g es ρ s1).bind _ = _
      rw [h2]; rfl
    have al := cons (v (n := 4) rfl) (cons (v (n := 5) rfl) (cons (v (n := 6) rfl) (cons (v (n := 7) rfl) (cons f5 (cons f6 (show evs Γ.g .nil _ _ = .ok [] _ from rfl))))))
    show (evs Γ.g _ _ _).bind _ = _
    rw [al, Out.bind_ok, if_pos (by show 6 ≤ sizeLine; decide)]
    rfl
  have f3 : fz (vsE tE) (rR a b c R (.sh (.ins cl (o + 1) (fs.zip (hs.map cp)))) (.sh (.ins cl (o + 2) (fs.zip (hs.map cp)))) (.sh (.bl true)) (.sh (.lst (hs.map cp)))) = rR a b c R (.sh (.ins cl (o + 1) (fs.zip (hs.map cp)))) (.sh (.ins cl (o + 2) (fs.zip (hs.map cp)))) (.sh (.bl true)) (.sh (.lst (hs.map cp))) := out3 hy2 fun z => by
    have z' : 3 ∈ [4] ++ ([5] ++ ([6] ++ ([7] ++ (vsEs (fE 5 fs) ++ (vsEs (vE is) ++ []))))) := z
    rw [vs_vE] at z'
    simp only [List.mem_append, List.mem_singleton, List.not_mem_nil, or_false] at z'
    rcases z' with h | h | h | h | h | h
    · cases h
    · cases h
    · cases h
    · cases h
    · have := vs_fE h; omega
    · exact n1 h
  have k4 : evX Γ.g false tE (rR a b c R (.sh (.ins cl (o + 1) (fs.zip (hs.map cp)))) (.sh (.ins cl (o + 2) (fs.zip (hs.map cp)))) (.sh (.bl true)) (.sh (.lst (hs.map cp)))) ⟨pn, o + 2, r⟩ = .ok (mkRow cl fs o hs, rR a b c R (.sh (.ins cl (o + 1) (fs.zip (hs.map cp)))) (.sh (.ins cl (o + 2) (fs.zip (hs.map cp)))) (.sh (.bl true)) (.sh (.lst (hs.map cp)))) ⟨pn, o + 2, r⟩ := by
    unfold evX
    rw [k3, Out.bind_ok, if_neg Bool.false_ne_true, f3]
  have t3 : evS Γ (r3 fs is) (rR a b c R (.sh (.ins cl (o + 1) (fs.zip (hs.map cp)))) (.sh (.ins cl (o + 2) (fs.zip (hs.map cp)))) (.sh (.bl true)) (.sh (.lst (hs.map cp)))) ⟨pn, o + 2, r⟩ = .ok (.nx (rR a b c (R ++ [mkRow cl fs o hs]) (.sh (.ins cl (o + 1) (fs.zip (hs.map cp)))) (.sh (.ins cl (o + 2) (fs.zip (hs.map cp)))) (.sh (.bl true)) (.sh (.lst (hs.map cp))))) ⟨pn, o + 2, r⟩ := by
    show (Out.ok () _).bind (fun _ s => (evX Γ.g false tE (rR a b c R (.sh (.ins cl (o + 1) (fs.zip (hs.map cp)))) (.sh (.ins cl (o + 2) (fs.zip (hs.map cp)))) (.sh (.bl true)) (.sh (.lst (hs.map cp)))) s).bind fun p s => (Out.opt (appS 3 p.1 p.2) s).bind fun ρ' s => Out.ok (Ctl.nx ρ') s) = _
    rw [Out.bind_ok, k4, Out.bind_ok]
    show (Out.opt (if R.length < sizeLine then some _ else none) _).bind _ = _
    rw [if_pos (Nat.lt_trans hR (by decide))]
    rfl
  rw [ss_cons_eq, t1]
  show evSs Γ (.cons (r2 cl fs) (.cons (r3 fs is) rest)) _ _ = _
  rw [ss_cons_eq, t2]
  show evSs Γ (.cons (r3 fs is) rest) _ _ = _
  rw [ss_cons_eq, t3]
  rfl
end Mk
set_option Elab.async false
set_option linter.all false
set_option maxRecDepth 100000
set_option maxHeartbeats 0
/-! Rows82: the rows of objects (printed by rows.py). -/
namespace Mk
open PySem PySem.Spec PyProof.Rows L2 Mp
theorem fn_copied1 : T1.gm.fn "copied" = some e_copied := by rfl
theorem copied_eq (v : D) (h : bi v = true) (s : Ms) : e_copied [v] s = .ok (cp v) s := by
  cases v <;> first | (cases h; done) | kernel_rfl
theorem sto_eq {c f : Str} {gs : List (Str × D)} {ρ : List Sl} {i : Nat} {v : D} {s : Ms} (h0 : ρ[(0 : Nat)]? = some (.ob c gs)) (hi : ρ[i]? = some (.sh v)) (hv : bi v = true) (no : ∀ (j : Nat) ds, ρ[j]? ≠ some (.ow ds)) (hf : T1.gm.fld c f = true) (hl : gs.length < 1000) :
    evS T1.gx (.sto f {} (.call "copied" (.cons (.var i) .nil))) ρ s = .ok (.nx (ρ.set 0 (.ob c (putFd f (cp v) gs)))) s := by
  have e : ev T1.gm (.call "copied" (.cons (.var i) .nil)) (look (vsE (.call "copied" (.cons (.var i) .nil))) ρ) s = .ok (cp v) s := by
    have ea : evs T1.gm (.cons (.var i) .nil) (look (vsE (.call "copied" (.cons (.var i) .nil))) ρ) s = .ok [v] s := by
      show (ev T1.gm (.var i) _ s).bind _ = _
      rw [var_eq (look_sh hi)]; rfl
    rw [call_eq fn_copied1 ea]
    exact copied_eq v hv s
  have ex : evX T1.gm false (.call "copied" (.cons (.var i) .nil)) ρ s = .ok (cp v, ρ) s := by
    unfold evX
    rw [e, Out.bind_ok, if_neg Bool.false_ne_true, fz_id fun j ds h => absurd h (no j ds)]
  show (evX T1.gm false (.call "copied" (.cons (.var i) .nil)) ρ s).bind _ = _
  rw [ex]
  show (Out.opt (match ρ[(0 : Nat)]? with
    | some (.ob c fs) => if T1.gm.fld c f = true ∧ fs.length < 1000 then some (ρ.set 0 (.ob c (putFd f (cp v) fs))) else none
    | _ => none) s).bind _ = _
  rw [h0]
  show (Out.opt (if T1.gm.fld c f = true ∧ gs.length < 1000 then some (ρ.set 0 (.ob c (putFd f (cp v) gs))) else none) s).bind _ = _
  rw [if_pos ⟨hf, hl⟩]; rfl
abbrev sC (f : Str) (i : Nat) : S := .sto f {} (.call "copied" (.cons (.var i) .nil))
theorem ini1 {c f : Str} {a : D} (ha : bi a = true) (hf : T1.gm.fld c f = true) (s : Ms) : iniOf T1.gx c 2 2 (.cons (sC f 1) .nil) [a] s = .ok [(f, cp a)] s := by
  have no : ∀ (gs : List (Str × D)) (j : Nat) ds, ([.ob c gs, .sh a] : List Sl)[j]? ≠ some (.ow ds) := fun gs j ds z => by
    match j, z with
    | 0, z => cases z
    | 1, z => cases z
    | n + 2, z => cases z
  show (evSs T1.gx (.cons (sC f 1) .nil) [.ob c [], .sh a] s).bind _ = _
  rw [ss_cons_eq, sto_eq (c := c) (gs := []) (v := a) rfl rfl ha (no _) hf (by decide)]
  show (if c = c then Out.ok _ s else .bad) = _
  rw [if_pos rfl]; rfl
theorem ini2 {c f g : Str} {a b : D} (ha : bi a = true) (hb : bi b = true) (hf : T1.gm.fld c f = true) (hg : T1.gm.fld c g = true) (s : Ms) : iniOf T1.gx c 3 3 (.cons (sC f 1) (.cons (sC g 2) .nil)) [a, b] s = .ok (putFd g (cp b) [(f, cp a)]) s := by
  have no : ∀ (gs : List (Str × D)) (j : Nat) ds, ([.ob c gs, .sh a, .sh b] : List Sl)[j]? ≠ some (.ow ds) := fun gs j ds z => by
    match j, z with
    | 0, z => cases z
    | 1, z => cases z
    | 2, z => cases z
    | n + 3, z => cases z
  show (evSs T1.gx (.cons (sC f 1) (.cons (sC g 2) .nil)) [.ob c [], .sh a, .sh b] s).bind _ = _
  rw [ss_cons_eq, sto_eq (c := c) (gs := []) (v := a) rfl rfl ha (no _) hf (by decide)]
  show (evSs T1.gx (.cons (sC g 2) .nil) [.ob c [(f, cp a)], .sh a, .sh b] s).bind _ = _
  rw [ss_cons_eq, sto_eq (c := c) (gs := [(f, cp a)]) (v := b) rfl rfl hb (no _) hg (by simp)]
  show (if c = c then Out.ok _ s else .bad) = _
  rw [if_pos rfl]
theorem ini3 {c f g h : Str} {a b d : D} (ha : bi a = true) (hb : bi b = true) (hd : bi d = true) (hf : T1.gm.fld c f = true) (hg : T1.gm.fld c g = true) (hh : T1.gm.fld c h = true) (s : Ms) :
    iniOf T1.gx c 4 4 (.cons (sC f 1) (.cons (sC g 2) (.cons (sC h 3) .nil))) [a, b, d] s = .ok (putFd h (cp d) (putFd g (cp b) [(f, cp a)])) s := by
  have no : ∀ (gs : List (Str × D)) (j : Nat) ds, ([.ob c gs, .sh a, .sh b, .sh d] : List Sl)[j]? ≠ some (.ow ds) := fun gs j ds z => by
    match j, z with
    | 0, z => cases z
    | 1, z => cases z
    | 2, z => cases z
    | 3, z => cases z
    | n + 4, z => cases z
  show (evSs T1.gx (.cons (sC f 1) (.cons (sC g 2) (.cons (sC h 3) .nil))) [.ob c [], .sh a, .sh b, .sh d] s).bind _ = _
  rw [ss_cons_eq, sto_eq (c := c) (gs := []) (v := a) rfl rfl ha (no _) hf (by decide)]
  show (evSs T1.gx (.cons (sC g 2) (.cons (sC h 3) .nil)) [.ob c [(f, cp a)], .sh a, .sh b, .sh d] s).bind _ = _
  rw [ss_cons_eq, sto_eq (c := c) (gs := [(f, cp a)]) (v := b) rfl rfl hb (no _) hg (by simp)]
  show (evSs T1.gx (.cons (sC h 3) .nil) [.ob c (putFd g (cp b) [(f, cp a)]), .sh a, .sh b, .sh d] s).bind _ = _
  rw [ss_cons_eq, sto_eq (c := c) (gs := putFd g (cp b) [(f, cp a)]) (v := d) rfl rfl hd (no _) hh (by simp only [putFd]; split <;> simp)]
  show (if c = c then Out.ok _ s else .bad) = _
  rw [if_pos rfl]
def rows_a (a b c : D) (o : Nat) : List D := [mkRow "Turns" ["ties"] (o) [a], mkRow "Differs" ["statement"] (o + 2) [a], mkRow "Chase" ["steps"] (o + 2 + 2) [a], mkRow "Copied" ["weights", "shares"] (o + 2 + 2 + 2) [a, b], mkRow "Uncopied" ["ranks"] (o + 2 + 2 + 2 + 2) [a], mkRow "Covers" ["sums"] (o + 2 + 2 + 2 + 2 + 2) [a], mkRow "Uncovered" ["source", "table"] (o + 2 + 2 + 2 + 2 + 2 + 2) [a, b], mkRow "Over" ["rows"] (o + 2 + 2 + 2 + 2 + 2 + 2 + 2) [a], mkRow "Shuts" ["number", "minor"] (o + 2 + 2 + 2 + 2 + 2 + 2 + 2 + 2) [a, b], mkRow "Shown" ["many", "rows"] (o + 2 + 2 + 2 + 2 + 2 + 2 + 2 + 2 + 2) [a, b], mkRow "Unshown" ["name"] (o + 2 + 2 + 2 + 2 + 2 + 2 + 2 + 2 + 2 + 2) [a]]
theorem n_i_Turns {a : D} (ha : bi a = true) (s : Ms) : i_Turns [a] s = .ok ((["ties"] : List Str).zip ([a].map cp)) s := (ini1 (c := "Turns") ha (by rfl) s).trans (by rfl)
theorem n_i_Differs {a : D} (ha : bi a = true) (s : Ms) : i_Differs [a] s = .ok ((["statement"] : List Str).zip ([a].map cp)) s := (ini1 (c := "Differs") ha (by rfl) s).trans (by rfl)
theorem n_i_Chase {a : D} (ha : bi a = true) (s : Ms) : i_Chase [a] s = .ok ((["steps"] : List Str).zip ([a].map cp)) s := (ini1 (c := "Chase") ha (by rfl) s).trans (by rfl)
theorem n_i_Copied {a b : D} (ha : bi a = true) (hb : bi b = true) (s : Ms) : i_Copied [a, b] s = .ok ((["weights", "shares"] : List Str).zip ([a, b].map cp)) s := (ini2 (c := "Copied") ha hb (by rfl) (by rfl) s).trans (by rfl)
theorem n_i_Uncopied {a : D} (ha : bi a = true) (s : Ms) : i_Uncopied [a] s = .ok ((["ranks"] : List Str).zip ([a].map cp)) s := (ini1 (c := "Uncopied") ha (by rfl) s).trans (by rfl)
theorem n_i_Covers {a : D} (ha : bi a = true) (s : Ms) : i_Covers [a] s = .ok ((["sums"] : List Str).zip ([a].map cp)) s := (ini1 (c := "Covers") ha (by rfl) s).trans (by rfl)
theorem n_i_Uncovered {a b : D} (ha : bi a = true) (hb : bi b = true) (s : Ms) : i_Uncovered [a, b] s = .ok ((["source", "table"] : List Str).zip ([a, b].map cp)) s := (ini2 (c := "Uncovered") ha hb (by rfl) (by rfl) s).trans (by rfl)
theorem n_i_Over {a : D} (ha : bi a = true) (s : Ms) : i_Over [a] s = .ok ((["rows"] : List Str).zip ([a].map cp)) s := (ini1 (c := "Over") ha (by rfl) s).trans (by rfl)
theorem n_i_Shuts {a b : D} (ha : bi a = true) (hb : bi b = true) (s : Ms) : i_Shuts [a, b] s = .ok ((["number", "minor"] : List Str).zip ([a, b].map cp)) s := (ini2 (c := "Shuts") ha hb (by rfl) (by rfl) s).trans (by rfl)
theorem n_i_Shown {a b : D} (ha : bi a = true) (hb : bi b = true) (s : Ms) : i_Shown [a, b] s = .ok ((["many", "rows"] : List Str).zip ([a, b].map cp)) s := (ini2 (c := "Shown") ha hb (by rfl) (by rfl) s).trans (by rfl)
theorem n_i_Unshown {a : D} (ha : bi a = true) (s : Ms) : i_Unshown [a] s = .ok ((["name"] : List Str).zip ([a].map cp)) s := (ini1 (c := "Unshown") ha (by rfl) s).trans (by rfl)
theorem parts_a : m__law_made_a = .cons (.asg 3 { ow := true } (.lst .nil)) (.cons (r1 "Turns" ["ties"] [0]) (.cons (r2 "Turns" ["ties"]) (.cons (r3 ["ties"] [0]) (.cons (r1 "Differs" ["statement"] [0]) (.cons (r2 "Differs" ["statement"]) (.cons (r3 ["statement"] [0]) (.cons (r1 "Chase" ["steps"] [0]) (.cons (r2 "Chase" ["steps"]) (.cons (r3 ["steps"] [0]) (.cons (r1 "Copied" ["weights", "shares"] [0, 1]) (.cons (r2 "Copied" ["weights", "shares"]) (.cons (r3 ["weights", "shares"] [0, 1]) (.cons (r1 "Uncopied" ["ranks"] [0]) (.cons (r2 "Uncopied" ["ranks"]) (.cons (r3 ["ranks"] [0]) (.cons (r1 "Covers" ["sums"] [0]) (.cons (r2 "Covers" ["sums"]) (.cons (r3 ["sums"] [0]) (.cons (r1 "Uncovered" ["source", "table"] [0, 1]) (.cons (r2 "Uncovered" ["source", "table"]) (.cons (r3 ["source", "table"] [0, 1]) (.cons (r1 "Over" ["rows"] [0]) (.cons (r2 "Over" ["rows"]) (.cons (r3 ["rows"] [0]) (.cons (r1 "Shuts" ["number", "minor"] [0, 1]) (.cons (r2 "Shuts" ["number", "minor"]) (.cons (r3 ["number", "minor"] [0, 1]) (.cons (r1 "Shown" ["many", "rows"] [0, 1]) (.cons (r2 "Shown" ["many", "rows"]) (.cons (r3 ["many", "rows"] [0, 1]) (.cons (r1 "Unshown" ["name"] [0]) (.cons (r2 "Unshown" ["name"]) (.cons (r3 ["name"] [0]) (.cons (.ret (.var 3)) .nil)))))))))))))))))))))))))))))))))) := by rfl
theorem x1_Turns : T2.gx.g.mke "Turns" = some (mkDen "Turns" true i_Turns) := by kernel_rfl
theorem x2_Turns : T2.gx.g.mkk "Turns" (["ties"] : List Str).reverse = some (fun ds s => mkDen "Turns" true i_Turns ds.reverse s) := by kernel_rfl
theorem x3_Turns : T2.gx.g.own "Turns" = true := by decide +kernel
theorem x4_Turns : T2.gx.g.sub "Turns" "Turns" = some true := by decide +kernel
theorem x1_Differs : T2.gx.g.mke "Differs" = some (mkDen "Differs" true i_Differs) := by kernel_rfl
theorem x2_Differs : T2.gx.g.mkk "Differs" (["statement"] : List Str).reverse = some (fun ds s => mkDen "Differs" true i_Differs ds.reverse s) := by kernel_rfl
theorem x3_Differs : T2.gx.g.own "Differs" = true := by decide +kernel
theorem x4_Differs : T2.gx.g.sub "Differs" "Differs" = some true := by decide +kernel
theorem x1_Chase : T2.gx.g.mke "Chase" = some (mkDen "Chase" true i_Chase) := by kernel_rfl
theorem x2_Chase : T2.gx.g.mkk "Chase" (["steps"] : List Str).reverse = some (fun ds s => mkDen "Chase" true i_Chase ds.reverse s) := by kernel_rfl
theorem x3_Chase : T2.gx.g.own "Chase" = true := by decide +kernel
theorem x4_Chase : T2.gx.g.sub "Chase" "Chase" = some true := by decide +kernel
theorem x1_Copied : T2.gx.g.mke "Copied" = some (mkDen "Copied" true i_Copied) := by kernel_rfl
theorem x2_Copied : T2.gx.g.mkk "Copied" (["weights", "shares"] : List Str).reverse = some (fun ds s => mkDen "Copied" true i_Copied ds.reverse s) := by kernel_rfl
theorem x3_Copied : T2.gx.g.own "Copied" = true := by decide +kernel
theorem x4_Copied : T2.gx.g.sub "Copied" "Copied" = some true := by decide +kernel
theorem x1_Uncopied : T2.gx.g.mke "Uncopied" = some (mkDen "Uncopied" true i_Uncopied) := by kernel_rfl
theorem x2_Uncopied : T2.gx.g.mkk "Uncopied" (["ranks"] : List Str).reverse = some (fun ds s => mkDen "Uncopied" true i_Uncopied ds.reverse s) := by kernel_rfl
theorem x3_Uncopied : T2.gx.g.own "Uncopied" = true := by decide +kernel
theorem x4_Uncopied : T2.gx.g.sub "Uncopied" "Uncopied" = some true := by decide +kernel
theorem x1_Covers : T2.gx.g.mke "Covers" = some (mkDen "Covers" true i_Covers) := by kernel_rfl
theorem x2_Covers : T2.gx.g.mkk "Covers" (["sums"] : List Str).reverse = some (fun ds s => mkDen "Covers" true i_Covers ds.reverse s) := by kernel_rfl
theorem x3_Covers : T2.gx.g.own "Covers" = true := by decide +kernel
theorem x4_Covers : T2.gx.g.sub "Covers" "Covers" = some true := by decide +kernel
theorem x1_Uncovered : T2.gx.g.mke "Uncovered" = some (mkDen "Uncovered" true i_Uncovered) := by kernel_rfl
theorem x2_Uncovered : T2.gx.g.mkk "Uncovered" (["source", "table"] : List Str).reverse = some (fun ds s => mkDen "Uncovered" true i_Uncovered ds.reverse s) := by kernel_rfl
theorem x3_Uncovered : T2.gx.g.own "Uncovered" = true := by decide +kernel
theorem x4_Uncovered : T2.gx.g.sub "Uncovered" "Uncovered" = some true := by decide +kernel
theorem x1_Over : T2.gx.g.mke "Over" = some (mkDen "Over" true i_Over) := by kernel_rfl
theorem x2_Over : T2.gx.g.mkk "Over" (["rows"] : List Str).reverse = some (fun ds s => mkDen "Over" true i_Over ds.reverse s) := by kernel_rfl
theorem x3_Over : T2.gx.g.own "Over" = true := by decide +kernel
theorem x4_Over : T2.gx.g.sub "Over" "Over" = some true := by decide +kernel
theorem x1_Shuts : T2.gx.g.mke "Shuts" = some (mkDen "Shuts" true i_Shuts) := by kernel_rfl
theorem x2_Shuts : T2.gx.g.mkk "Shuts" (["number", "minor"] : List Str).reverse = some (fun ds s => mkDen "Shuts" true i_Shuts ds.reverse s) := by kernel_rfl
theorem x3_Shuts : T2.gx.g.own "Shuts" = true := by decide +kernel
theorem x4_Shuts : T2.gx.g.sub "Shuts" "Shuts" = some true := by decide +kernel
theorem x1_Shown : T2.gx.g.mke "Shown" = some (mkDen "Shown" true i_Shown) := by kernel_rfl
theorem x2_Shown : T2.gx.g.mkk "Shown" (["many", "rows"] : List Str).reverse = some (fun ds s => mkDen "Shown" true i_Shown ds.reverse s) := by kernel_rfl
theorem x3_Shown : T2.gx.g.own "Shown" = true := by decide +kernel
theorem x4_Shown : T2.gx.g.sub "Shown" "Shown" = some true := by decide +kernel
theorem x1_Unshown : T2.gx.g.mke "Unshown" = some (mkDen "Unshown" true i_Unshown) := by kernel_rfl
theorem x2_Unshown : T2.gx.g.mkk "Unshown" (["name"] : List Str).reverse = some (fun ds s => mkDen "Unshown" true i_Unshown ds.reverse s) := by kernel_rfl
theorem x3_Unshown : T2.gx.g.own "Unshown" = true := by decide +kernel
theorem x4_Unshown : T2.gx.g.sub "Unshown" "Unshown" = some true := by decide +kernel
theorem made_a (a b c : D) (ha : bi a = true) (hb : bi b = true) (hc : bi c = true) (pn : Option Pen) (o : Nat) (r : List Int) : evSs T2.gx m__law_made_a [.sh a, .sh b, .sh c, .no, .no, .no, .no, .no] ⟨pn, o, r⟩ = .ok (.rt (.lst (rows_a a b c o))) ⟨pn, o + 2 + 2 + 2 + 2 + 2 + 2 + 2 + 2 + 2 + 2 + 2, r⟩ := by
  rw [parts_a, ss_cons_eq, show evS T2.gx (.asg 3 { ow := true } (.lst .nil)) [.sh a, .sh b, .sh c, .no, .no, .no, .no, .no] ⟨pn, o, r⟩ = .ok (.nx (rR a b c [] .no .no .no .no)) ⟨pn, o, r⟩ from rfl, Out.bind_ok]
  dsimp only
  rw [one_row (cl := "Turns") (fs := ["ties"]) (is := [0]) (hs := [a]) (ini := i_Turns) ⟨rfl, rfl, rfl, rfl⟩ (by decide) rfl rfl (by decide) (by decide) x1_Turns x2_Turns (n_i_Turns ha) x3_Turns x4_Turns (by decide +kernel) (by simp)]
  rw [one_row (cl := "Differs") (fs := ["statement"]) (is := [0]) (hs := [a]) (ini := i_Differs) ⟨rfl, rfl, rfl, rfl⟩ (by decide) rfl rfl (by decide) (by decide) x1_Differs x2_Differs (n_i_Differs ha) x3_Differs x4_Differs (by decide +kernel) (by simp)]
  rw [one_row (cl := "Chase") (fs := ["steps"]) (is := [0]) (hs := [a]) (ini := i_Chase) ⟨rfl, rfl, rfl, rfl⟩ (by decide) rfl rfl (by decide) (by decide) x1_Chase x2_Chase (n_i_Chase ha) x3_Chase x4_Chase (by decide +kernel) (by simp)]
  rw [one_row (cl := "Copied") (fs := ["weights", "shares"]) (is := [0, 1]) (hs := [a, b]) (ini := i_Copied) ⟨rfl, rfl, rfl, rfl⟩ (by decide) rfl rfl (by decide) (by decide) x1_Copied x2_Copied (n_i_Copied ha hb) x3_Copied x4_Copied (by decide +kernel) (by simp)]
  rw [one_row (cl := "Uncopied") (fs := ["ranks"]) (is := [0]) (hs := [a]) (ini := i_Uncopied) ⟨rfl, rfl, rfl, rfl⟩ (by decide) rfl rfl (by decide) (by decide) x1_Uncopied x2_Uncopied (n_i_Uncopied ha) x3_Uncopied x4_Uncopied (by decide +kernel) (by simp)]
  rw [one_row (cl := "Covers") (fs := ["sums"]) (is := [0]) (hs := [a]) (ini := i_Covers) ⟨rfl, rfl, rfl, rfl⟩ (by decide) rfl rfl (by decide) (by decide) x1_Covers x2_Covers (n_i_Covers ha) x3_Covers x4_Covers (by decide +kernel) (by simp)]
  rw [one_row (cl := "Uncovered") (fs := ["source", "table"]) (is := [0, 1]) (hs := [a, b]) (ini := i_Uncovered) ⟨rfl, rfl, rfl, rfl⟩ (by decide) rfl rfl (by decide) (by decide) x1_Uncovered x2_Uncovered (n_i_Uncovered ha hb) x3_Uncovered x4_Uncovered (by decide +kernel) (by simp)]
  rw [one_row (cl := "Over") (fs := ["rows"]) (is := [0]) (hs := [a]) (ini := i_Over) ⟨rfl, rfl, rfl, rfl⟩ (by decide) rfl rfl (by decide) (by decide) x1_Over x2_Over (n_i_Over ha) x3_Over x4_Over (by decide +kernel) (by simp)]
  rw [one_row (cl := "Shuts") (fs := ["number", "minor"]) (is := [0, 1]) (hs := [a, b]) (ini := i_Shuts) ⟨rfl, rfl, rfl, rfl⟩ (by decide) rfl rfl (by decide) (by decide) x1_Shuts x2_Shuts (n_i_Shuts ha hb) x3_Shuts x4_Shuts (by decide +kernel) (by simp)]
  rw [one_row (cl := "Shown") (fs := ["many", "rows"]) (is := [0, 1]) (hs := [a, b]) (ini := i_Shown) ⟨rfl, rfl, rfl, rfl⟩ (by decide) rfl rfl (by decide) (by decide) x1_Shown x2_Shown (n_i_Shown ha hb) x3_Shown x4_Shown (by decide +kernel) (by simp)]
  rw [one_row (cl := "Unshown") (fs := ["name"]) (is := [0]) (hs := [a]) (ini := i_Unshown) ⟨rfl, rfl, rfl, rfl⟩ (by decide) rfl rfl (by decide) (by decide) x1_Unshown x2_Unshown (n_i_Unshown ha) x3_Unshown x4_Unshown (by decide +kernel) (by simp)]
  rfl
def rows_b (a b c : D) (o : Nat) : List D := [mkRow "RowSum" ["weights"] (o) [a], mkRow "RowsBreak" ["rows"] (o + 2) [a], mkRow "GreatestJoin" ["weights", "heights"] (o + 2 + 2) [a, b], mkRow "Limited" ["weights", "heights"] (o + 2 + 2 + 2) [a, b], mkRow "Endless" ["source"] (o + 2 + 2 + 2 + 2) [a], mkRow "Open" ["way"] (o + 2 + 2 + 2 + 2 + 2) [a], mkRow "Shut" ["lot"] (o + 2 + 2 + 2 + 2 + 2 + 2) [a], mkRow "Minor" ["given", "left", "names"] (o + 2 + 2 + 2 + 2 + 2 + 2 + 2) [a, b, c], mkRow "Both" ["lot", "part"] (o + 2 + 2 + 2 + 2 + 2 + 2 + 2 + 2) [a, b], mkRow "Heaviest" ["lot", "drops"] (o + 2 + 2 + 2 + 2 + 2 + 2 + 2 + 2 + 2) [a, b], mkRow "Flow" ["ways", "lot"] (o + 2 + 2 + 2 + 2 + 2 + 2 + 2 + 2 + 2 + 2) [a, b]]
theorem n_i_RowSum {a : D} (ha : bi a = true) (s : Ms) : i_RowSum [a] s = .ok ((["weights"] : List Str).zip ([a].map cp)) s := (ini1 (c := "RowSum") ha (by rfl) s).trans (by rfl)
theorem n_i_RowsBreak {a : D} (ha : bi a = true) (s : Ms) : i_RowsBreak [a] s = .ok ((["rows"] : List Str).zip ([a].map cp)) s := (ini1 (c := "RowsBreak") ha (by rfl) s).trans (by rfl)
theorem n_i_GreatestJoin {a b : D} (ha : bi a = true) (hb : bi b = true) (s : Ms) : i_GreatestJoin [a, b] s = .ok ((["weights", "heights"] : List Str).zip ([a, b].map cp)) s := (ini2 (c := "GreatestJoin") ha hb (by rfl) (by rfl) s).trans (by rfl)
theorem n_i_Limited {a b : D} (ha : bi a = true) (hb : bi b = true) (s : Ms) : i_Limited [a, b] s = .ok ((["weights", "heights"] : List Str).zip ([a, b].map cp)) s := (ini2 (c := "Limited") ha hb (by rfl) (by rfl) s).trans (by rfl)
theorem n_i_Endless {a : D} (ha : bi a = true) (s : Ms) : i_Endless [a] s = .ok ((["source"] : List Str).zip ([a].map cp)) s := (ini1 (c := "Endless") ha (by rfl) s).trans (by rfl)
theorem n_i_Open {a : D} (ha : bi a = true) (s : Ms) : i_Open [a] s = .ok ((["way"] : List Str).zip ([a].map cp)) s := (ini1 (c := "Open") ha (by rfl) s).trans (by rfl)
theorem n_i_Shut {a : D} (ha : bi a = true) (s : Ms) : i_Shut [a] s = .ok ((["lot"] : List Str).zip ([a].map cp)) s := (ini1 (c := "Shut") ha (by rfl) s).trans (by rfl)
theorem n_i_Minor {a b c : D} (ha : bi a = true) (hb : bi b = true) (hc : bi c = true) (s : Ms) : i_Minor [a, b, c] s = .ok ((["given", "left", "names"] : List Str).zip ([a, b, c].map cp)) s := (ini3 (c := "Minor") ha hb hc (by rfl) (by rfl) (by rfl) s).trans (by rfl)
theorem n_i_Both {a b : D} (ha : bi a = true) (hb : bi b = true) (s : Ms) : i_Both [a, b] s = .ok ((["lot", "part"] : List Str).zip ([a, b].map cp)) s := (ini2 (c := "Both") ha hb (by rfl) (by rfl) s).trans (by rfl)
theorem n_i_Heaviest {a b : D} (ha : bi a = true) (hb : bi b = true) (s : Ms) : i_Heaviest [a, b] s = .ok ((["lot", "drops"] : List Str).zip ([a, b].map cp)) s := (ini2 (c := "Heaviest") ha hb (by rfl) (by rfl) s).trans (by rfl)
theorem n_i_Flow {a b : D} (ha : bi a = true) (hb : bi b = true) (s : Ms) : i_Flow [a, b] s = .ok ((["ways", "lot"] : List Str).zip ([a, b].map cp)) s := (ini2 (c := "Flow") ha hb (by rfl) (by rfl) s).trans (by rfl)
theorem parts_b : m__law_made_b = .cons (.asg 3 { ow := true } (.lst .nil)) (.cons (r1 "RowSum" ["weights"] [0]) (.cons (r2 "RowSum" ["weights"]) (.cons (r3 ["weights"] [0]) (.cons (r1 "RowsBreak" ["rows"] [0]) (.cons (r2 "RowsBreak" ["rows"]) (.cons (r3 ["rows"] [0]) (.cons (r1 "GreatestJoin" ["weights", "heights"] [0, 1]) (.cons (r2 "GreatestJoin" ["weights", "heights"]) (.cons (r3 ["weights", "heights"] [0, 1]) (.cons (r1 "Limited" ["weights", "heights"] [0, 1]) (.cons (r2 "Limited" ["weights", "heights"]) (.cons (r3 ["weights", "heights"] [0, 1]) (.cons (r1 "Endless" ["source"] [0]) (.cons (r2 "Endless" ["source"]) (.cons (r3 ["source"] [0]) (.cons (r1 "Open" ["way"] [0]) (.cons (r2 "Open" ["way"]) (.cons (r3 ["way"] [0]) (.cons (r1 "Shut" ["lot"] [0]) (.cons (r2 "Shut" ["lot"]) (.cons (r3 ["lot"] [0]) (.cons (r1 "Minor" ["given", "left", "names"] [0, 1, 2]) (.cons (r2 "Minor" ["given", "left", "names"]) (.cons (r3 ["given", "left", "names"] [0, 1, 2]) (.cons (r1 "Both" ["lot", "part"] [0, 1]) (.cons (r2 "Both" ["lot", "part"]) (.cons (r3 ["lot", "part"] [0, 1]) (.cons (r1 "Heaviest" ["lot", "drops"] [0, 1]) (.cons (r2 "Heaviest" ["lot", "drops"]) (.cons (r3 ["lot", "drops"] [0, 1]) (.cons (r1 "Flow" ["ways", "lot"] [0, 1]) (.cons (r2 "Flow" ["ways", "lot"]) (.cons (r3 ["ways", "lot"] [0, 1]) (.cons (.ret (.var 3)) .nil)))))))))))))))))))))))))))))))))) := by rfl
theorem x1_RowSum : T2.gx.g.mke "RowSum" = some (mkDen "RowSum" true i_RowSum) := by kernel_rfl
theorem x2_RowSum : T2.gx.g.mkk "RowSum" (["weights"] : List Str).reverse = some (fun ds s => mkDen "RowSum" true i_RowSum ds.reverse s) := by kernel_rfl
theorem x3_RowSum : T2.gx.g.own "RowSum" = true := by decide +kernel
theorem x4_RowSum : T2.gx.g.sub "RowSum" "RowSum" = some true := by decide +kernel
theorem x1_RowsBreak : T2.gx.g.mke "RowsBreak" = some (mkDen "RowsBreak" true i_RowsBreak) := by kernel_rfl
theorem x2_RowsBreak : T2.gx.g.mkk "RowsBreak" (["rows"] : List Str).reverse = some (fun ds s => mkDen "RowsBreak" true i_RowsBreak ds.reverse s) := by kernel_rfl
theorem x3_RowsBreak : T2.gx.g.own "RowsBreak" = true := by decide +kernel
theorem x4_RowsBreak : T2.gx.g.sub "RowsBreak" "RowsBreak" = some true := by decide +kernel
theorem x1_GreatestJoin : T2.gx.g.mke "GreatestJoin" = some (mkDen "GreatestJoin" true i_GreatestJoin) := by kernel_rfl
theorem x2_GreatestJoin : T2.gx.g.mkk "GreatestJoin" (["weights", "heights"] : List Str).reverse = some (fun ds s => mkDen "GreatestJoin" true i_GreatestJoin ds.reverse s) := by kernel_rfl
theorem x3_GreatestJoin : T2.gx.g.own "GreatestJoin" = true := by decide +kernel
theorem x4_GreatestJoin : T2.gx.g.sub "GreatestJoin" "GreatestJoin" = some true := by decide +kernel
theorem x1_Limited : T2.gx.g.mke "Limited" = some (mkDen "Limited" true i_Limited) := by kernel_rfl
theorem x2_Limited : T2.gx.g.mkk "Limited" (["weights", "heights"] : List Str).reverse = some (fun ds s => mkDen "Limited" true i_Limited ds.reverse s) := by kernel_rfl
theorem x3_Limited : T2.gx.g.own "Limited" = true := by decide +kernel
theorem x4_Limited : T2.gx.g.sub "Limited" "Limited" = some true := by decide +kernel
theorem x1_Endless : T2.gx.g.mke "Endless" = some (mkDen "Endless" true i_Endless) := by kernel_rfl
theorem x2_Endless : T2.gx.g.mkk "Endless" (["source"] : List Str).reverse = some (fun ds s => mkDen "Endless" true i_Endless ds.reverse s) := by kernel_rfl
theorem x3_Endless : T2.gx.g.own "Endless" = true := by decide +kernel
theorem x4_Endless : T2.gx.g.sub "Endless" "Endless" = some true := by decide +kernel
theorem x1_Open : T2.gx.g.mke "Open" = some (mkDen "Open" true i_Open) := by kernel_rfl
theorem x2_Open : T2.gx.g.mkk "Open" (["way"] : List Str).reverse = some (fun ds s => mkDen "Open" true i_Open ds.reverse s) := by kernel_rfl
theorem x3_Open : T2.gx.g.own "Open" = true := by decide +kernel
theorem x4_Open : T2.gx.g.sub "Open" "Open" = some true := by decide +kernel
theorem x1_Shut : T2.gx.g.mke "Shut" = some (mkDen "Shut" true i_Shut) := by kernel_rfl
theorem x2_Shut : T2.gx.g.mkk "Shut" (["lot"] : List Str).reverse = some (fun ds s => mkDen "Shut" true i_Shut ds.reverse s) := by kernel_rfl
theorem x3_Shut : T2.gx.g.own "Shut" = true := by decide +kernel
theorem x4_Shut : T2.gx.g.sub "Shut" "Shut" = some true := by decide +kernel
theorem x1_Minor : T2.gx.g.mke "Minor" = some (mkDen "Minor" true i_Minor) := by kernel_rfl
theorem x2_Minor : T2.gx.g.mkk "Minor" (["given", "left", "names"] : List Str).reverse = some (fun ds s => mkDen "Minor" true i_Minor ds.reverse s) := by kernel_rfl
theorem x3_Minor : T2.gx.g.own "Minor" = true := by decide +kernel
theorem x4_Minor : T2.gx.g.sub "Minor" "Minor" = some true := by decide +kernel
theorem x1_Both : T2.gx.g.mke "Both" = some (mkDen "Both" true i_Both) := by kernel_rfl
theorem x2_Both : T2.gx.g.mkk "Both" (["lot", "part"] : List Str).reverse = some (fun ds s => mkDen "Both" true i_Both ds.reverse s) := by kernel_rfl
theorem x3_Both : T2.gx.g.own "Both" = true := by decide +kernel
theorem x4_Both : T2.gx.g.sub "Both" "Both" = some true := by decide +kernel
theorem x1_Heaviest : T2.gx.g.mke "Heaviest" = some (mkDen "Heaviest" true i_Heaviest) := by kernel_rfl
theorem x2_Heaviest : T2.gx.g.mkk "Heaviest" (["lot", "drops"] : List Str).reverse = some (fun ds s => mkDen "Heaviest" true i_Heaviest ds.reverse s) := by kernel_rfl
theorem x3_Heaviest : T2.gx.g.own "Heaviest" = true := by decide +kernel
theorem x4_Heaviest : T2.gx.g.sub "Heaviest" "Heaviest" = some true := by decide +kernel
theorem x1_Flow : T2.gx.g.mke "Flow" = some (mkDen "Flow" true i_Flow) := by kernel_rfl
theorem x2_Flow : T2.gx.g.mkk "Flow" (["ways", "lot"] : List Str).reverse = some (fun ds s => mkDen "Flow" true i_Flow ds.reverse s) := by kernel_rfl
theorem x3_Flow : T2.gx.g.own "Flow" = true := by decide +kernel
theorem x4_Flow : T2.gx.g.sub "Flow" "Flow" = some true := by decide +kernel
theorem made_b (a b c : D) (ha : bi a = true) (hb : bi b = true) (hc : bi c = true) (pn : Option Pen) (o : Nat) (r : List Int) : evSs T2.gx m__law_made_b [.sh a, .sh b, .sh c, .no, .no, .no, .no, .no] ⟨pn, o, r⟩ = .ok (.rt (.lst (rows_b a b c o))) ⟨pn, o + 2 + 2 + 2 + 2 + 2 + 2 + 2 + 2 + 2 + 2 + 2, r⟩ := by
  rw [parts_b, ss_cons_eq, show evS T2.gx (.asg 3 { ow := true } (.lst .nil)) [.sh a, .sh b, .sh c, .no, .no, .no, .no, .no] ⟨pn, o, r⟩ = .ok (.nx (rR a b c [] .no .no .no .no)) ⟨pn, o, r⟩ from rfl, Out.bind_ok]
  dsimp only
  rw [one_row (cl := "RowSum") (fs := ["weights"]) (is := [0]) (hs := [a]) (ini := i_RowSum) ⟨rfl, rfl, rfl, rfl⟩ (by decide) rfl rfl (by decide) (by decide) x1_RowSum x2_RowSum (n_i_RowSum ha) x3_RowSum x4_RowSum (by decide +kernel) (by simp)]
  rw [one_row (cl := "RowsBreak") (fs := ["rows"]) (is := [0]) (hs := [a]) (ini := i_RowsBreak) ⟨rfl, rfl, rfl, rfl⟩ (by decide) rfl rfl (by decide) (by decide) x1_RowsBreak x2_RowsBreak (n_i_RowsBreak ha) x3_RowsBreak x4_RowsBreak (by decide +kernel) (by simp)]
  rw [one_row (cl := "GreatestJoin") (fs := ["weights", "heights"]) (is := [0, 1]) (hs := [a, b]) (ini := i_GreatestJoin) ⟨rfl, rfl, rfl, rfl⟩ (by decide) rfl rfl (by decide) (by decide) x1_GreatestJoin x2_GreatestJoin (n_i_GreatestJoin ha hb) x3_GreatestJoin x4_GreatestJoin (by decide +kernel) (by simp)]
  rw [one_row (cl := "Limited") (fs := ["weights", "heights"]) (is := [0, 1]) (hs := [a, b]) (ini := i_Limited) ⟨rfl, rfl, rfl, rfl⟩ (by decide) rfl rfl (by decide) (by decide) x1_Limited x2_Limited (n_i_Limited ha hb) x3_Limited x4_Limited (by decide +kernel) (by simp)]
  rw [one_row (cl := "Endless") (fs := ["source"]) (is := [0]) (hs := [a]) (ini := i_Endless) ⟨rfl, rfl, rfl, rfl⟩ (by decide) rfl rfl (by decide) (by decide) x1_Endless x2_Endless (n_i_Endless ha) x3_Endless x4_Endless (by decide +kernel) (by simp)]
  rw [one_row (cl := "Open") (fs := ["way"]) (is := [0]) (hs := [a]) (ini := i_Open) ⟨rfl, rfl, rfl, rfl⟩ (by decide) rfl rfl (by decide) (by decide) x1_Open x2_Open (n_i_Open ha) x3_Open x4_Open (by decide +kernel) (by simp)]
  rw [one_row (cl := "Shut") (fs := ["lot"]) (is := [0]) (hs := [a]) (ini := i_Shut) ⟨rfl, rfl, rfl, rfl⟩ (by decide) rfl rfl (by decide) (by decide) x1_Shut x2_Shut (n_i_Shut ha) x3_Shut x4_Shut (by decide +kernel) (by simp)]
  rw [one_row (cl := "Minor") (fs := ["given", "left", "names"]) (is := [0, 1, 2]) (hs := [a, b, c]) (ini := i_Minor) ⟨rfl, rfl, rfl, rfl⟩ (by decide) rfl rfl (by decide) (by decide) x1_Minor x2_Minor (n_i_Minor ha hb hc) x3_Minor x4_Minor (by decide +kernel) (by simp)]
  rw [one_row (cl := "Both") (fs := ["lot", "part"]) (is := [0, 1]) (hs := [a, b]) (ini := i_Both) ⟨rfl, rfl, rfl, rfl⟩ (by decide) rfl rfl (by decide) (by decide) x1_Both x2_Both (n_i_Both ha hb) x3_Both x4_Both (by decide +kernel) (by simp)]
  rw [one_row (cl := "Heaviest") (fs := ["lot", "drops"]) (is := [0, 1]) (hs := [a, b]) (ini := i_Heaviest) ⟨rfl, rfl, rfl, rfl⟩ (by decide) rfl rfl (by decide) (by decide) x1_Heaviest x2_Heaviest (n_i_Heaviest ha hb) x3_Heaviest x4_Heaviest (by decide +kernel) (by simp)]
  rw [one_row (cl := "Flow") (fs := ["ways", "lot"]) (is := [0, 1]) (hs := [a, b]) (ini := i_Flow) ⟨rfl, rfl, rfl, rfl⟩ (by decide) rfl rfl (by decide) (by decide) x1_Flow x2_Flow (n_i_Flow ha hb) x3_Flow x4_Flow (by decide +kernel) (by simp)]
  rfl
def rows_c (a b c : D) (o : Nat) : List D := [mkRow "Code" ["rows"] (o) [a], mkRow "Narrow" ["sink", "lot"] (o + 2) [a, b], mkRow "Sum" ["weights"] (o + 2 + 2) [a], mkRow "Broken" ["ranks"] (o + 2 + 2 + 2) [a], mkRow "Greatest" ["ranks", "weights"] (o + 2 + 2 + 2 + 2) [a, b], mkRow "Derived" ["numbers"] (o + 2 + 2 + 2 + 2 + 2) [a], mkRow "Parting" ["table"] (o + 2 + 2 + 2 + 2 + 2 + 2) [a], mkRow "Least" ["ranks", "weights"] (o + 2 + 2 + 2 + 2 + 2 + 2 + 2) [a, b], mkRow "Port" ["ranks"] (o + 2 + 2 + 2 + 2 + 2 + 2 + 2 + 2) [a], mkRow "Costly" ["weights"] (o + 2 + 2 + 2 + 2 + 2 + 2 + 2 + 2 + 2) [a], mkRow "Drawn" ["steps"] (o + 2 + 2 + 2 + 2 + 2 + 2 + 2 + 2 + 2 + 2) [a]]
theorem n_i_Code {a : D} (ha : bi a = true) (s : Ms) : i_Code [a] s = .ok ((["rows"] : List Str).zip ([a].map cp)) s := (ini1 (c := "Code") ha (by rfl) s).trans (by rfl)
theorem n_i_Narrow {a b : D} (ha : bi a = true) (hb : bi b = true) (s : Ms) : i_Narrow [a, b] s = .ok ((["sink", "lot"] : List Str).zip ([a, b].map cp)) s := (ini2 (c := "Narrow") ha hb (by rfl) (by rfl) s).trans (by rfl)
theorem n_i_Sum {a : D} (ha : bi a = true) (s : Ms) : i_Sum [a] s = .ok ((["weights"] : List Str).zip ([a].map cp)) s := (ini1 (c := "Sum") ha (by rfl) s).trans (by rfl)
theorem n_i_Broken {a : D} (ha : bi a = true) (s : Ms) : i_Broken [a] s = .ok ((["ranks"] : List Str).zip ([a].map cp)) s := (ini1 (c := "Broken") ha (by rfl) s).trans (by rfl)
theorem n_i_Greatest {a b : D} (ha : bi a = true) (hb : bi b = true) (s : Ms) : i_Greatest [a, b] s = .ok ((["ranks", "weights"] : List Str).zip ([a, b].map cp)) s := (ini2 (c := "Greatest") ha hb (by rfl) (by rfl) s).trans (by rfl)
theorem n_i_Derived {a : D} (ha : bi a = true) (s : Ms) : i_Derived [a] s = .ok ((["numbers"] : List Str).zip ([a].map cp)) s := (ini1 (c := "Derived") ha (by rfl) s).trans (by rfl)
theorem n_i_Parting {a : D} (ha : bi a = true) (s : Ms) : i_Parting [a] s = .ok ((["table"] : List Str).zip ([a].map cp)) s := (ini1 (c := "Parting") ha (by rfl) s).trans (by rfl)
theorem n_i_Least {a b : D} (ha : bi a = true) (hb : bi b = true) (s : Ms) : i_Least [a, b] s = .ok ((["ranks", "weights"] : List Str).zip ([a, b].map cp)) s := (ini2 (c := "Least") ha hb (by rfl) (by rfl) s).trans (by rfl)
theorem n_i_Port {a : D} (ha : bi a = true) (s : Ms) : i_Port [a] s = .ok ((["ranks"] : List Str).zip ([a].map cp)) s := (ini1 (c := "Port") ha (by rfl) s).trans (by rfl)
theorem n_i_Costly {a : D} (ha : bi a = true) (s : Ms) : i_Costly [a] s = .ok ((["weights"] : List Str).zip ([a].map cp)) s := (ini1 (c := "Costly") ha (by rfl) s).trans (by rfl)
theorem n_i_Drawn {a : D} (ha : bi a = true) (s : Ms) : i_Drawn [a] s = .ok ((["steps"] : List Str).zip ([a].map cp)) s := (ini1 (c := "Drawn") ha (by rfl) s).trans (by rfl)
theorem parts_c : m__law_made_c = .cons (.asg 3 { ow := true } (.lst .nil)) (.cons (r1 "Code" ["rows"] [0]) (.cons (r2 "Code" ["rows"]) (.cons (r3 ["rows"] [0]) (.cons (r1 "Narrow" ["sink", "lot"] [0, 1]) (.cons (r2 "Narrow" ["sink", "lot"]) (.cons (r3 ["sink", "lot"] [0, 1]) (.cons (r1 "Sum" ["weights"] [0]) (.cons (r2 "Sum" ["weights"]) (.cons (r3 ["weights"] [0]) (.cons (r1 "Broken" ["ranks"] [0]) (.cons (r2 "Broken" ["ranks"]) (.cons (r3 ["ranks"] [0]) (.cons (r1 "Greatest" ["ranks", "weights"] [0, 1]) (.cons (r2 "Greatest" ["ranks", "weights"]) (.cons (r3 ["ranks", "weights"] [0, 1]) (.cons (r1 "Derived" ["numbers"] [0]) (.cons (r2 "Derived" ["numbers"]) (.cons (r3 ["numbers"] [0]) (.cons (r1 "Parting" ["table"] [0]) (.cons (r2 "Parting" ["table"]) (.cons (r3 ["table"] [0]) (.cons (r1 "Least" ["ranks", "weights"] [0, 1]) (.cons (r2 "Least" ["ranks", "weights"]) (.cons (r3 ["ranks", "weights"] [0, 1]) (.cons (r1 "Port" ["ranks"] [0]) (.cons (r2 "Port" ["ranks"]) (.cons (r3 ["ranks"] [0]) (.cons (r1 "Costly" ["weights"] [0]) (.cons (r2 "Costly" ["weights"]) (.cons (r3 ["weights"] [0]) (.cons (r1 "Drawn" ["steps"] [0]) (.cons (r2 "Drawn" ["steps"]) (.cons (r3 ["steps"] [0]) (.cons (.ret (.var 3)) .nil)))))))))))))))))))))))))))))))))) := by rfl
theorem x1_Code : T2.gx.g.mke "Code" = some (mkDen "Code" true i_Code) := by kernel_rfl
theorem x2_Code : T2.gx.g.mkk "Code" (["rows"] : List Str).reverse = some (fun ds s => mkDen "Code" true i_Code ds.reverse s) := by kernel_rfl
theorem x3_Code : T2.gx.g.own "Code" = true := by decide +kernel
theorem x4_Code : T2.gx.g.sub "Code" "Code" = some true := by decide +kernel
theorem x1_Narrow : T2.gx.g.mke "Narrow" = some (mkDen "Narrow" true i_Narrow) := by kernel_rfl
theorem x2_Narrow : T2.gx.g.mkk "Narrow" (["sink", "lot"] : List Str).reverse = some (fun ds s => mkDen "Narrow" true i_Narrow ds.reverse s) := by kernel_rfl
theorem x3_Narrow : T2.gx.g.own "Narrow" = true := by decide +kernel
theorem x4_Narrow : T2.gx.g.sub "Narrow" "Narrow" = some true := by decide +kernel
theorem x1_Sum : T2.gx.g.mke "Sum" = some (mkDen "Sum" true i_Sum) := by kernel_rfl
theorem x2_Sum : T2.gx.g.mkk "Sum" (["weights"] : List Str).reverse = some (fun ds s => mkDen "Sum" true i_Sum ds.reverse s) := by kernel_rfl
theorem x3_Sum : T2.gx.g.own "Sum" = true := by decide +kernel
theorem x4_Sum : T2.gx.g.sub "Sum" "Sum" = some true := by decide +kernel
theorem x1_Broken : T2.gx.g.mke "Broken" = some (mkDen "Broken" true i_Broken) := by kernel_rfl
theorem x2_Broken : T2.gx.g.mkk "Broken" (["ranks"] : List Str).reverse = some (fun ds s => mkDen "Broken" true i_Broken ds.reverse s) := by kernel_rfl
theorem x3_Broken : T2.gx.g.own "Broken" = true := by decide +kernel
theorem x4_Broken : T2.gx.g.sub "Broken" "Broken" = some true := by decide +kernel
theorem x1_Greatest : T2.gx.g.mke "Greatest" = some (mkDen "Greatest" true i_Greatest) := by kernel_rfl
theorem x2_Greatest : T2.gx.g.mkk "Greatest" (["ranks", "weights"] : List Str).reverse = some (fun ds s => mkDen "Greatest" true i_Greatest ds.reverse s) := by kernel_rfl
theorem x3_Greatest : T2.gx.g.own "Greatest" = true := by decide +kernel
theorem x4_Greatest : T2.gx.g.sub "Greatest" "Greatest" = some true := by decide +kernel
theorem x1_Derived : T2.gx.g.mke "Derived" = some (mkDen "Derived" true i_Derived) := by kernel_rfl
theorem x2_Derived : T2.gx.g.mkk "Derived" (["numbers"] : List Str).reverse = some (fun ds s => mkDen "Derived" true i_Derived ds.reverse s) := by kernel_rfl
theorem x3_Derived : T2.gx.g.own "Derived" = true := by decide +kernel
theorem x4_Derived : T2.gx.g.sub "Derived" "Derived" = some true := by decide +kernel
theorem x1_Parting : T2.gx.g.mke "Parting" = some (mkDen "Parting" true i_Parting) := by kernel_rfl
theorem x2_Parting : T2.gx.g.mkk "Parting" (["table"] : List Str).reverse = some (fun ds s => mkDen "Parting" true i_Parting ds.reverse s) := by kernel_rfl
theorem x3_Parting : T2.gx.g.own "Parting" = true := by decide +kernel
theorem x4_Parting : T2.gx.g.sub "Parting" "Parting" = some true := by decide +kernel
theorem x1_Least : T2.gx.g.mke "Least" = some (mkDen "Least" true i_Least) := by kernel_rfl
theorem x2_Least : T2.gx.g.mkk "Least" (["ranks", "weights"] : List Str).reverse = some (fun ds s => mkDen "Least" true i_Least ds.reverse s) := by kernel_rfl
theorem x3_Least : T2.gx.g.own "Least" = true := by decide +kernel
theorem x4_Least : T2.gx.g.sub "Least" "Least" = some true := by decide +kernel
theorem x1_Port : T2.gx.g.mke "Port" = some (mkDen "Port" true i_Port) := by kernel_rfl
theorem x2_Port : T2.gx.g.mkk "Port" (["ranks"] : List Str).reverse = some (fun ds s => mkDen "Port" true i_Port ds.reverse s) := by kernel_rfl
theorem x3_Port : T2.gx.g.own "Port" = true := by decide +kernel
theorem x4_Port : T2.gx.g.sub "Port" "Port" = some true := by decide +kernel
theorem x1_Costly : T2.gx.g.mke "Costly" = some (mkDen "Costly" true i_Costly) := by kernel_rfl
theorem x2_Costly : T2.gx.g.mkk "Costly" (["weights"] : List Str).reverse = some (fun ds s => mkDen "Costly" true i_Costly ds.reverse s) := by kernel_rfl
theorem x3_Costly : T2.gx.g.own "Costly" = true := by decide +kernel
theorem x4_Costly : T2.gx.g.sub "Costly" "Costly" = some true := by decide +kernel
theorem x1_Drawn : T2.gx.g.mke "Drawn" = some (mkDen "Drawn" true i_Drawn) := by kernel_rfl
theorem x2_Drawn : T2.gx.g.mkk "Drawn" (["steps"] : List Str).reverse = some (fun ds s => mkDen "Drawn" true i_Drawn ds.reverse s) := by kernel_rfl
theorem x3_Drawn : T2.gx.g.own "Drawn" = true := by decide +kernel
theorem x4_Drawn : T2.gx.g.sub "Drawn" "Drawn" = some true := by decide +kernel
theorem made_c (a b c : D) (ha : bi a = true) (hb : bi b = true) (hc : bi c = true) (pn : Option Pen) (o : Nat) (r : List Int) : evSs T2.gx m__law_made_c [.sh a, .sh b, .sh c, .no, .no, .no, .no, .no] ⟨pn, o, r⟩ = .ok (.rt (.lst (rows_c a b c o))) ⟨pn, o + 2 + 2 + 2 + 2 + 2 + 2 + 2 + 2 + 2 + 2 + 2, r⟩ := by
  rw [parts_c, ss_cons_eq, show evS T2.gx (.asg 3 { ow := true } (.lst .nil)) [.sh a, .sh b, .sh c, .no, .no, .no, .no, .no] ⟨pn, o, r⟩ = .ok (.nx (rR a b c [] .no .no .no .no)) ⟨pn, o, r⟩ from rfl, Out.bind_ok]
  dsimp only
  rw [one_row (cl := "Code") (fs := ["rows"]) (is := [0]) (hs := [a]) (ini := i_Code) ⟨rfl, rfl, rfl, rfl⟩ (by decide) rfl rfl (by decide) (by decide) x1_Code x2_Code (n_i_Code ha) x3_Code x4_Code (by decide +kernel) (by simp)]
  rw [one_row (cl := "Narrow") (fs := ["sink", "lot"]) (is := [0, 1]) (hs := [a, b]) (ini := i_Narrow) ⟨rfl, rfl, rfl, rfl⟩ (by decide) rfl rfl (by decide) (by decide) x1_Narrow x2_Narrow (n_i_Narrow ha hb) x3_Narrow x4_Narrow (by decide +kernel) (by simp)]
  rw [one_row (cl := "Sum") (fs := ["weights"]) (is := [0]) (hs := [a]) (ini := i_Sum) ⟨rfl, rfl, rfl, rfl⟩ (by decide) rfl rfl (by decide) (by decide) x1_Sum x2_Sum (n_i_Sum ha) x3_Sum x4_Sum (by decide +kernel) (by simp)]
  rw [one_row (cl := "Broken") (fs := ["ranks"]) (is := [0]) (hs := [a]) (ini := i_Broken) ⟨rfl, rfl, rfl, rfl⟩ (by decide) rfl rfl (by decide) (by decide) x1_Broken x2_Broken (n_i_Broken ha) x3_Broken x4_Broken (by decide +kernel) (by simp)]
  rw [one_row (cl := "Greatest") (fs := ["ranks", "weights"]) (is := [0, 1]) (hs := [a, b]) (ini := i_Greatest) ⟨rfl, rfl, rfl, rfl⟩ (by decide) rfl rfl (by decide) (by decide) x1_Greatest x2_Greatest (n_i_Greatest ha hb) x3_Greatest x4_Greatest (by decide +kernel) (by simp)]
  rw [one_row (cl := "Derived") (fs := ["numbers"]) (is := [0]) (hs := [a]) (ini := i_Derived) ⟨rfl, rfl, rfl, rfl⟩ (by decide) rfl rfl (by decide) (by decide) x1_Derived x2_Derived (n_i_Derived ha) x3_Derived x4_Derived (by decide +kernel) (by simp)]
  rw [one_row (cl := "Parting") (fs := ["table"]) (is := [0]) (hs := [a]) (ini := i_Parting) ⟨rfl, rfl, rfl, rfl⟩ (by decide) rfl rfl (by decide) (by decide) x1_Parting x2_Parting (n_i_Parting ha) x3_Parting x4_Parting (by decide +kernel) (by simp)]
  rw [one_row (cl := "Least") (fs := ["ranks", "weights"]) (is := [0, 1]) (hs := [a, b]) (ini := i_Least) ⟨rfl, rfl, rfl, rfl⟩ (by decide) rfl rfl (by decide) (by decide) x1_Least x2_Least (n_i_Least ha hb) x3_Least x4_Least (by decide +kernel) (by simp)]
  rw [one_row (cl := "Port") (fs := ["ranks"]) (is := [0]) (hs := [a]) (ini := i_Port) ⟨rfl, rfl, rfl, rfl⟩ (by decide) rfl rfl (by decide) (by decide) x1_Port x2_Port (n_i_Port ha) x3_Port x4_Port (by decide +kernel) (by simp)]
  rw [one_row (cl := "Costly") (fs := ["weights"]) (is := [0]) (hs := [a]) (ini := i_Costly) ⟨rfl, rfl, rfl, rfl⟩ (by decide) rfl rfl (by decide) (by decide) x1_Costly x2_Costly (n_i_Costly ha) x3_Costly x4_Costly (by decide +kernel) (by simp)]
  rw [one_row (cl := "Drawn") (fs := ["steps"]) (is := [0]) (hs := [a]) (ini := i_Drawn) ⟨rfl, rfl, rfl, rfl⟩ (by decide) rfl rfl (by decide) (by decide) x1_Drawn x2_Drawn (n_i_Drawn ha) x3_Drawn x4_Drawn (by decide +kernel) (by simp)]
  rfl
def rows_d (a b c : D) (o : Nat) : List D := [mkRow "Lacking" ["rows"] (o) [a], mkRow "Even" ["times"] (o + 2) [a], mkRow "Uneven" ["lot", "one", "other"] (o + 2 + 2) [a, b, c], mkRow "IsApart" ["times"] (o + 2 + 2 + 2) [a], mkRow "IsTied" ["one", "other", "given"] (o + 2 + 2 + 2 + 2) [a, b, c], mkRow "Past" ["way"] (o + 2 + 2 + 2 + 2 + 2) [a], mkRow "Cut" ["lot"] (o + 2 + 2 + 2 + 2 + 2 + 2) [a], mkRow "Hung" ["parents"] (o + 2 + 2 + 2 + 2 + 2 + 2 + 2) [a], mkRow "Core" ["lot"] (o + 2 + 2 + 2 + 2 + 2 + 2 + 2 + 2) [a]]
theorem n_i_Lacking {a : D} (ha : bi a = true) (s : Ms) : i_Lacking [a] s = .ok ((["rows"] : List Str).zip ([a].map cp)) s := (ini1 (c := "Lacking") ha (by rfl) s).trans (by rfl)
theorem n_i_Even {a : D} (ha : bi a = true) (s : Ms) : i_Even [a] s = .ok ((["times"] : List Str).zip ([a].map cp)) s := (ini1 (c := "Even") ha (by rfl) s).trans (by rfl)
theorem n_i_Uneven {a b c : D} (ha : bi a = true) (hb : bi b = true) (hc : bi c = true) (s : Ms) : i_Uneven [a, b, c] s = .ok ((["lot", "one", "other"] : List Str).zip ([a, b, c].map cp)) s := (ini3 (c := "Uneven") ha hb hc (by rfl) (by rfl) (by rfl) s).trans (by rfl)
theorem n_i_IsApart {a : D} (ha : bi a = true) (s : Ms) : i_IsApart [a] s = .ok ((["times"] : List Str).zip ([a].map cp)) s := (ini1 (c := "IsApart") ha (by rfl) s).trans (by rfl)
theorem n_i_IsTied {a b c : D} (ha : bi a = true) (hb : bi b = true) (hc : bi c = true) (s : Ms) : i_IsTied [a, b, c] s = .ok ((["one", "other", "given"] : List Str).zip ([a, b, c].map cp)) s := (ini3 (c := "IsTied") ha hb hc (by rfl) (by rfl) (by rfl) s).trans (by rfl)
theorem n_i_Past {a : D} (ha : bi a = true) (s : Ms) : i_Past [a] s = .ok ((["way"] : List Str).zip ([a].map cp)) s := (ini1 (c := "Past") ha (by rfl) s).trans (by rfl)
theorem n_i_Cut {a : D} (ha : bi a = true) (s : Ms) : i_Cut [a] s = .ok ((["lot"] : List Str).zip ([a].map cp)) s := (ini1 (c := "Cut") ha (by rfl) s).trans (by rfl)
theorem n_i_Hung {a : D} (ha : bi a = true) (s : Ms) : i_Hung [a] s = .ok ((["parents"] : List Str).zip ([a].map cp)) s := (ini1 (c := "Hung") ha (by rfl) s).trans (by rfl)
theorem n_i_Core {a : D} (ha : bi a = true) (s : Ms) : i_Core [a] s = .ok ((["lot"] : List Str).zip ([a].map cp)) s := (ini1 (c := "Core") ha (by rfl) s).trans (by rfl)
theorem parts_d : m__law_made_d = .cons (.asg 3 { ow := true } (.lst .nil)) (.cons (r1 "Lacking" ["rows"] [0]) (.cons (r2 "Lacking" ["rows"]) (.cons (r3 ["rows"] [0]) (.cons (r1 "Even" ["times"] [0]) (.cons (r2 "Even" ["times"]) (.cons (r3 ["times"] [0]) (.cons (r1 "Uneven" ["lot", "one", "other"] [0, 1, 2]) (.cons (r2 "Uneven" ["lot", "one", "other"]) (.cons (r3 ["lot", "one", "other"] [0, 1, 2]) (.cons (r1 "IsApart" ["times"] [0]) (.cons (r2 "IsApart" ["times"]) (.cons (r3 ["times"] [0]) (.cons (r1 "IsTied" ["one", "other", "given"] [0, 1, 2]) (.cons (r2 "IsTied" ["one", "other", "given"]) (.cons (r3 ["one", "other", "given"] [0, 1, 2]) (.cons (r1 "Past" ["way"] [0]) (.cons (r2 "Past" ["way"]) (.cons (r3 ["way"] [0]) (.cons (r1 "Cut" ["lot"] [0]) (.cons (r2 "Cut" ["lot"]) (.cons (r3 ["lot"] [0]) (.cons (r1 "Hung" ["parents"] [0]) (.cons (r2 "Hung" ["parents"]) (.cons (r3 ["parents"] [0]) (.cons (r1 "Core" ["lot"] [0]) (.cons (r2 "Core" ["lot"]) (.cons (r3 ["lot"] [0]) (.cons (.ret (.var 3)) .nil)))))))))))))))))))))))))))) := by rfl
theorem x1_Lacking : T2.gx.g.mke "Lacking" = some (mkDen "Lacking" true i_Lacking) := by kernel_rfl
theorem x2_Lacking : T2.gx.g.mkk "Lacking" (["rows"] : List Str).reverse = some (fun ds s => mkDen "Lacking" true i_Lacking ds.reverse s) := by kernel_rfl
theorem x3_Lacking : T2.gx.g.own "Lacking" = true := by decide +kernel
theorem x4_Lacking : T2.gx.g.sub "Lacking" "Lacking" = some true := by decide +kernel
theorem x1_Even : T2.gx.g.mke "Even" = some (mkDen "Even" true i_Even) := by kernel_rfl
theorem x2_Even : T2.gx.g.mkk "Even" (["times"] : List Str).reverse = some (fun ds s => mkDen "Even" true i_Even ds.reverse s) := by kernel_rfl
theorem x3_Even : T2.gx.g.own "Even" = true := by decide +kernel
theorem x4_Even : T2.gx.g.sub "Even" "Even" = some true := by decide +kernel
theorem x1_Uneven : T2.gx.g.mke "Uneven" = some (mkDen "Uneven" true i_Uneven) := by kernel_rfl
theorem x2_Uneven : T2.gx.g.mkk "Uneven" (["lot", "one", "other"] : List Str).reverse = some (fun ds s => mkDen "Uneven" true i_Uneven ds.reverse s) := by kernel_rfl
theorem x3_Uneven : T2.gx.g.own "Uneven" = true := by decide +kernel
theorem x4_Uneven : T2.gx.g.sub "Uneven" "Uneven" = some true := by decide +kernel
theorem x1_IsApart : T2.gx.g.mke "IsApart" = some (mkDen "IsApart" true i_IsApart) := by kernel_rfl
theorem x2_IsApart : T2.gx.g.mkk "IsApart" (["times"] : List Str).reverse = some (fun ds s => mkDen "IsApart" true i_IsApart ds.reverse s) := by kernel_rfl
theorem x3_IsApart : T2.gx.g.own "IsApart" = true := by decide +kernel
theorem x4_IsApart : T2.gx.g.sub "IsApart" "IsApart" = some true := by decide +kernel
theorem x1_IsTied : T2.gx.g.mke "IsTied" = some (mkDen "IsTied" true i_IsTied) := by kernel_rfl
theorem x2_IsTied : T2.gx.g.mkk "IsTied" (["one", "other", "given"] : List Str).reverse = some (fun ds s => mkDen "IsTied" true i_IsTied ds.reverse s) := by kernel_rfl
theorem x3_IsTied : T2.gx.g.own "IsTied" = true := by decide +kernel
theorem x4_IsTied : T2.gx.g.sub "IsTied" "IsTied" = some true := by decide +kernel
theorem x1_Past : T2.gx.g.mke "Past" = some (mkDen "Past" true i_Past) := by kernel_rfl
theorem x2_Past : T2.gx.g.mkk "Past" (["way"] : List Str).reverse = some (fun ds s => mkDen "Past" true i_Past ds.reverse s) := by kernel_rfl
theorem x3_Past : T2.gx.g.own "Past" = true := by decide +kernel
theorem x4_Past : T2.gx.g.sub "Past" "Past" = some true := by decide +kernel
theorem x1_Cut : T2.gx.g.mke "Cut" = some (mkDen "Cut" true i_Cut) := by kernel_rfl
theorem x2_Cut : T2.gx.g.mkk "Cut" (["lot"] : List Str).reverse = some (fun ds s => mkDen "Cut" true i_Cut ds.reverse s) := by kernel_rfl
theorem x3_Cut : T2.gx.g.own "Cut" = true := by decide +kernel
theorem x4_Cut : T2.gx.g.sub "Cut" "Cut" = some true := by decide +kernel
theorem x1_Hung : T2.gx.g.mke "Hung" = some (mkDen "Hung" true i_Hung) := by kernel_rfl
theorem x2_Hung : T2.gx.g.mkk "Hung" (["parents"] : List Str).reverse = some (fun ds s => mkDen "Hung" true i_Hung ds.reverse s) := by kernel_rfl
theorem x3_Hung : T2.gx.g.own "Hung" = true := by decide +kernel
theorem x4_Hung : T2.gx.g.sub "Hung" "Hung" = some true := by decide +kernel
theorem x1_Core : T2.gx.g.mke "Core" = some (mkDen "Core" true i_Core) := by kernel_rfl
theorem x2_Core : T2.gx.g.mkk "Core" (["lot"] : List Str).reverse = some (fun ds s => mkDen "Core" true i_Core ds.reverse s) := by kernel_rfl
theorem x3_Core : T2.gx.g.own "Core" = true := by decide +kernel
theorem x4_Core : T2.gx.g.sub "Core" "Core" = some true := by decide +kernel
theorem made_d (a b c : D) (ha : bi a = true) (hb : bi b = true) (hc : bi c = true) (pn : Option Pen) (o : Nat) (r : List Int) : evSs T2.gx m__law_made_d [.sh a, .sh b, .sh c, .no, .no, .no, .no, .no] ⟨pn, o, r⟩ = .ok (.rt (.lst (rows_d a b c o))) ⟨pn, o + 2 + 2 + 2 + 2 + 2 + 2 + 2 + 2 + 2, r⟩ := by
  rw [parts_d, ss_cons_eq, show evS T2.gx (.asg 3 { ow := true } (.lst .nil)) [.sh a, .sh b, .sh c, .no, .no, .no, .no, .no] ⟨pn, o, r⟩ = .ok (.nx (rR a b c [] .no .no .no .no)) ⟨pn, o, r⟩ from rfl, Out.bind_ok]
  dsimp only
  rw [one_row (cl := "Lacking") (fs := ["rows"]) (is := [0]) (hs := [a]) (ini := i_Lacking) ⟨rfl, rfl, rfl, rfl⟩ (by decide) rfl rfl (by decide) (by decide) x1_Lacking x2_Lacking (n_i_Lacking ha) x3_Lacking x4_Lacking (by decide +kernel) (by simp)]
  rw [one_row (cl := "Even") (fs := ["times"]) (is := [0]) (hs := [a]) (ini := i_Even) ⟨rfl, rfl, rfl, rfl⟩ (by decide) rfl rfl (by decide) (by decide) x1_Even x2_Even (n_i_Even ha) x3_Even x4_Even (by decide +kernel) (by simp)]
  rw [one_row (cl := "Uneven") (fs := ["lot", "one", "other"]) (is := [0, 1, 2]) (hs := [a, b, c]) (ini := i_Uneven) ⟨rfl, rfl, rfl, rfl⟩ (by decide) rfl rfl (by decide) (by decide) x1_Uneven x2_Uneven (n_i_Uneven ha hb hc) x3_Uneven x4_Uneven (by decide +kernel) (by simp)]
  rw [one_row (cl := "IsApart") (fs := ["times"]) (is := [0]) (hs := [a]) (ini := i_IsApart) ⟨rfl, rfl, rfl, rfl⟩ (by decide) rfl rfl (by decide) (by decide) x1_IsApart x2_IsApart (n_i_IsApart ha) x3_IsApart x4_IsApart (by decide +kernel) (by simp)]
  rw [one_row (cl := "IsTied") (fs := ["one", "other", "given"]) (is := [0, 1, 2]) (hs := [a, b, c]) (ini := i_IsTied) ⟨rfl, rfl, rfl, rfl⟩ (by decide) rfl rfl (by decide) (by decide) x1_IsTied x2_IsTied (n_i_IsTied ha hb hc) x3_IsTied x4_IsTied (by decide +kernel) (by simp)]
  rw [one_row (cl := "Past") (fs := ["way"]) (is := [0]) (hs := [a]) (ini := i_Past) ⟨rfl, rfl, rfl, rfl⟩ (by decide) rfl rfl (by decide) (by decide) x1_Past x2_Past (n_i_Past ha) x3_Past x4_Past (by decide +kernel) (by simp)]
  rw [one_row (cl := "Cut") (fs := ["lot"]) (is := [0]) (hs := [a]) (ini := i_Cut) ⟨rfl, rfl, rfl, rfl⟩ (by decide) rfl rfl (by decide) (by decide) x1_Cut x2_Cut (n_i_Cut ha) x3_Cut x4_Cut (by decide +kernel) (by simp)]
  rw [one_row (cl := "Hung") (fs := ["parents"]) (is := [0]) (hs := [a]) (ini := i_Hung) ⟨rfl, rfl, rfl, rfl⟩ (by decide) rfl rfl (by decide) (by decide) x1_Hung x2_Hung (n_i_Hung ha) x3_Hung x4_Hung (by decide +kernel) (by simp)]
  rw [one_row (cl := "Core") (fs := ["lot"]) (is := [0]) (hs := [a]) (ini := i_Core) ⟨rfl, rfl, rfl, rfl⟩ (by decide) rfl rfl (by decide) (by decide) x1_Core x2_Core (n_i_Core ha) x3_Core x4_Core (by decide +kernel) (by simp)]
  rfl
end Mk
set_option Elab.async false
set_option linter.all false
set_option maxRecDepth 100000
set_option maxHeartbeats 2000000
/-! Turn82: the first loop's turns. -/
namespace Mk
open PySem PySem.Spec PyProof.Rows L2 Mp
structure RowAt (ρ : List Sl) (c : Str) (i j : Nat) (f g : List (Str × D)) (hs : List D) : Prop where
  len : ρ.length = 20
  no : ∀ (j : Nat) ds, ρ[j]? ≠ some (.ow ds)
  h10 : ρ[10]? = some (.sh (.ins c i f))
  h11 : ρ[11]? = some (.sh (.ins c j g))
  h12 : ρ[12]? = some (.sh (.bl true))
  h13 : ρ[13]? = some (.sh (.lst (hs.map cp)))
  h14 : ρ[14]? = some (.sh (.lst (hs.map cp)))
  h15 : ρ[15]? = some (.sh (.lst hs))
theorem turn {ρ : List Sl} {c : Str} {i j : Nat} {f g : List (Str × D)} {hs : List D} {t : Str} (R : RowAt ρ c i j f g hs) (hc : T3.gm.idn c = true) (hi : i ≠ 0) (hj : j ≠ 0) (hij : i ≠ j) (hb : ∀ v ∈ hs, bi v = true) (hl : hs.length < 1000)
    (hr : biD .repr [.lst (hs.map cp)] = some (.str t)) (hsh : SeqAt.shaped (.str t) = true) (s : Ms) : evSs T3.gx b1 ρ s = .ok (.nx (ρ.set 16 (.sh (.str t)))) s := by
  have e1 : evS T3.gx b1a ρ s = .ok (.nx (ρ.set 16 (.sh (.str t)))) s := by
    have ev1 : evV T3.gm {} (.bi .repr (.cons (.lc (.v 7) (.e (.var 15)) .no (.call "_law_copy" (.cons (.var 7) .nil))) .nil)) ρ s = .ok (.sh (.str t), ρ) s := by
      refine evV0 ?_ (fz_id fun n ds h => absurd h (R.no n ds))
      have el := lc_copy hs hb hl (look (vsE (.bi .repr (.cons (.lc (.v 7) (.e (.var 15)) .no (.call "_law_copy" (.cons (.var 7) .nil))) .nil))) ρ) (look_sh R.h15) (by rw [look_len]; exact R.len) s
      show ((ev T3.gm (.lc (.v 7) (.e (.var 15)) .no (.call "_law_copy" (.cons (.var 7) .nil))) _ s).bind fun x s => (evs T3.gm .nil _ s).bind fun xs s => .ok (x :: xs) s).bind _ = _
      rw [el]
      show Out.opt (biD .repr [.lst (hs.map cp)]) s = _
      rw [hr]; rfl
    show (evV T3.gm {} _ ρ s).bind _ = _
    rw [ev1]; rfl
  have far : ∀ {n : Nat} {x : Sl}, n ≠ 16 → ρ[n]? = some x → (ρ.set 16 (.sh (.str t)))[n]? = some x := fun h e => by
    rw [List.getElem?_set_ne (Ne.symm h)]; exact e
  have h16 : (ρ.set 16 (.sh (.str t)))[16]? = some (.sh (.str t)) := List.getElem?_set_self (by rw [R.len]; decide)
  have e2 : ev T3.gm b1t (look (vsE b1t) (ρ.set 16 (.sh (.str t)))) s = .ok (.bl false) s :=
    test_row (look_sh (far (by decide) R.h10)) (look_sh (far (by decide) R.h11)) (look_sh (far (by decide) R.h12)) (look_sh (far (by decide) R.h13)) (look_sh (far (by decide) R.h14)) (look_sh h16) hc hi hj hij hr hsh
  have e3 : evXT T3.gx.g b1t (ρ.set 16 (.sh (.str t))) s = .ok false s := by
    show (ev T3.gm b1t (look (vsE b1t) (ρ.set 16 (.sh (.str t)))) s).bind _ = _
    rw [e2]; rfl
  unfold b1
  rw [ss_cons_eq, e1]
  show evSs T3.gx (.cons (.ife b1t _ .nil) .nil) (ρ.set 16 (.sh (.str t))) s = _
  rw [ss_cons_eq, ife_eq e3, if_neg Bool.false_ne_true]
  rfl
/-- what the names are through the loop -/
structure Lp (ρ0 ρ : List Sl) : Prop where
  len : ρ.length = 20
  no : ∀ (j : Nat) ds, ρ[j]? ≠ some (.ow ds)
  old : ∀ j, j < 10 → ρ[j]? = ρ0[j]?
structure GoodRow (d : D) : Prop where
  ex : ∃ c i j f g hs t, d = .tup [.ins c i f, .ins c j g, .bl true, .lst (hs.map cp), .lst (hs.map cp), .lst hs] ∧ T3.gm.idn c = true ∧ i ≠ 0 ∧ j ≠ 0 ∧ i ≠ j ∧ (∀ v ∈ hs, bi v = true) ∧ hs.length < 1000 ∧ biD .repr [.lst (hs.map cp)] = some (.str t) ∧ SeqAt.shaped (.str t) = true
theorem loop1 (ρ0 : List Sl) (s : Ms) : ∀ (rows : List D) (ρ : List Sl), Lp ρ0 ρ → (∀ d ∈ rows, GoodRow d) → ∃ ρ', evFor (.t [10, 11, 12, 13, 14, 15]) (fun ρ s => evSs T3.gx b1 ρ s) rows ρ s = .ok (.nx ρ') s ∧ Lp ρ0 ρ'
  | [], ρ, L, _ => ⟨ρ, rfl, L⟩
  | d :: rows, ρ, L, h => by
    obtain ⟨c, i, j, f, g, hs, t, ed, hc, hi, hj, hij, hb, hl, hr, hsh⟩ := (h d List.mem_cons_self).ex
    subst ed
    let ρ1 := (((((ρ.set 10 (.sh (.ins c i f))).set 11 (.sh (.ins c j g))).set 12 (.sh (.bl true))).set 13 (.sh (.lst (hs.map cp)))).set 14 (.sh (.lst (hs.map cp)))).set 15 (.sh (.lst hs))
    have l1 : ρ1.length = 20 := by simp [ρ1, L.len]
    have set_no : ∀ (r : List Sl) (n : Nat) (d : D), (∀ (j : Nat) ds, r[j]? ≠ some (.ow ds)) → ∀ (j : Nat) ds, (r.set n (.sh d))[j]? ≠ some (.ow ds) := fun r n d hr j ds z => by
      by_cases q : n = j
      · subst q
        by_cases hn : n < r.length
        · rw [List.getElem?_set_self hn] at z; cases z
        · rw [List.getElem?_eq_none (by simpa using hn)] at z; cases z
      · rw [List.getElem?_set_ne q] at z
        exact hr j ds z
    have R : RowAt ρ1 c i j f g hs := by
      have ll := L.len
      refine ⟨l1, set_no _ _ _ (set_no _ _ _ (set_no _ _ _ (set_no _ _ _ (set_no _ _ _ (set_no _ _ _ L.no))))), ?_, ?_, ?_, ?_, ?_, ?_⟩ <;> simp [ρ1, ll]
    have e := turn R hc hi hj hij hb hl hr hsh s
    have L2' : Lp ρ0 (ρ1.set 16 (.sh (.str t))) := by
      refine ⟨by simp [l1], set_no _ _ _ R.no, fun n hn => ?_⟩
      rw [← L.old n hn]
      have n10 : 10 ≠ n := by omega
      have n11 : 11 ≠ n := by omega
      have n12 : 12 ≠ n := by omega
      have n13 : 13 ≠ n := by omega
      have n14 : 14 ≠ n := by omega
      have n15 : 15 ≠ n := by omega
      have n16 : 16 ≠ n := by omega
      simp only [ρ1]
      rw [List.getElem?_set_ne n16, List.getElem?_set_ne n15, List.getElem?_set_ne n14, List.getElem?_set_ne n13, List.getElem?_set_ne n12, List.getElem?_set_ne n11, List.getElem?_set_ne n10]
    obtain ⟨ρ', e', L3⟩ := loop1 ρ0 s rows _ L2' fun d hd => h d (List.mem_cons_of_mem _ hd)
    refine ⟨ρ', ?_, L3⟩
    show (evSs T3.gx b1 ρ1 s).bind _ = _
    rw [e]
    exact e'
end Mk
set_option Elab.async false
set_option linter.all false
set_option maxRecDepth 100000
set_option maxHeartbeats 2000000
/-! Loop2: the second loop. -/
namespace Mk
open PySem PySem.Spec PyProof.Rows L2 Mp
def b2a : S := .asg 17 {} (.ix (.ix (.var 8) (.bin .Mod (.bi .int (.cons (.bin .Add (.bin .Add (.var 3) (.lit (.int 1))) (.call "_law_draw" (.cons (.var 1) (.cons (.bin .Sub (.bi .len (.cons (.var 8) .nil)) (.lit (.int 1))) .nil)))) .nil)) (.bi .len (.cons (.var 8) .nil)))) (.lit (.int 0)))
def b2t : E := .or (.cons (.cmp .Eq (.ix (.ix (.var 8) (.var 3)) (.lit (.int 0))) (.var 17)) (.cons (.cmp .Eq (.var 17) (.ix (.ix (.var 8) (.var 3)) (.lit (.int 0)))) (.cons (.not (.cmp .NotEq (.ix (.ix (.var 8) (.var 3)) (.lit (.int 0))) (.var 17))) .nil)))
def b2 : Ss := .cons b2a (.cons (.ife b2t (.cons (.ret (.lit (.bool false))) .nil) .nil) .nil)
theorem fn_draw3 : T3.gm.fn "_law_draw" = some e__law_draw := by rfl
/-- the objects at the head of the rows -/
def headI (d : D) : Option (Str × Nat × List (Str × D)) := match d with
  | .tup (.ins c i f :: _) => some (c, i, f)
  | _ => none
theorem pick_row {rows : List D} {ρ : List (Option D)} {s s' : Ms} {e : E} {k : Int} {c : Str} {i : Nat} {f : List (Str × D)} {tl : List D} (h8 : ρ[8]? = some (some (.lst rows))) (he : ev T3.gm e ρ s = .ok (.int k) s') (ha : L2.atI rows k = some (.tup (.ins c i f :: tl))) :
    ev T3.gm (.ix (.ix (.var 8) e) (.lit (.int 0))) ρ s = .ok (.ins c i f) s' := by
  show ((ev T3.gm (.var 8) ρ s).bind fun x s => (ev T3.gm e ρ s).bind fun y s => Out.opt (ixD x y) s).bind _ = _
  rw [var_eq h8, Out.bind_ok, he, Out.bind_ok]
  show (Out.opt (L2.atI rows k) s').bind _ = _
  rw [ha]
  show Out.opt (L2.atI (.ins c i f :: tl) 0) s' = _
  rw [at_zero]; rfl
theorem test2 {rows : List D} {ρ : List (Option D)} {s : Ms} {k : Int} {c c' : Str} {i j : Nat} {f g : List (Str × D)} {tl : List D} (h8 : ρ[8]? = some (some (.lst rows))) (h3 : ρ[3]? = some (some (.int k))) (h17 : ρ[17]? = some (some (.ins c' j g))) (ha : L2.atI rows k = some (.tup (.ins c i f :: tl)))
    (hc : T3.gm.idn c = true) (hc' : T3.gm.idn c' = true) (hi : i ≠ 0) (hj : j ≠ 0) (hij : i ≠ j) : ev T3.gm b2t ρ s = .ok (.bl false) s := by
  have r := pick_row (s := s) h8 (var_eq h3) ha
  have v17 := var_eq (Γ := T3.gm) (s := s) h17
  have eo : ∀ {c c' : Str} {i j : Nat} {f g : List (Str × D)}, T3.gm.idn c = true → T3.gm.idn c' = true → i ≠ 0 → j ≠ 0 → eqO T3.gm (.ins c i f) (.ins c' j g) s = .ok (decide (i = j)) s ∧ neO T3.gm (.ins c i f) (.ins c' j g) s = .ok (!decide (i = j)) s := fun {c c' i j f g} hc hc' hi hj => by
    constructor
    · show (if T3.gm.idn c = true then (if T3.gm.idn c' = true ∧ i ≠ 0 ∧ j ≠ 0 then Out.ok (decide (i = j)) s else .bad) else _) = _
      rw [if_pos hc, if_pos ⟨hc', hi, hj⟩]
    · show (if T3.gm.idn c = true then (if T3.gm.idn c' = true ∧ i ≠ 0 ∧ j ≠ 0 then Out.ok (!decide (i = j)) s else .bad) else _) = _
      rw [if_pos hc, if_pos ⟨hc', hi, hj⟩]
  have e1 : ev T3.gm (.cmp .Eq (.ix (.ix (.var 8) (.var 3)) (.lit (.int 0))) (.var 17)) ρ s = .ok (.bl false) s := by
    show (ev T3.gm (.ix (.ix (.var 8) (.var 3)) (.lit (.int 0))) ρ s).bind _ = _
    rw [r]
    show (ev T3.gm (.var 17) ρ s).bind _ = _
    rw [v17]
    show (eqO T3.gm (.ins c i f) (.ins c' j g) s).bind _ = _
    rw [(eo hc hc' hi hj).1, decide_eq_false hij]; rfl
  have e2 : ev T3.gm (.cmp .Eq (.var 17) (.ix (.ix (.var 8) (.var 3)) (.lit (.int 0)))) ρ s = .ok (.bl false) s := by
    show (ev T3.gm (.var 17) ρ s).bind _ = _
    rw [v17]
    show (ev T3.gm (.ix (.ix (.var 8) (.var 3)) (.lit (.int 0))) ρ s).bind _ = _
    rw [r]
    show (eqO T3.gm (.ins c' j g) (.ins c i f) s).bind _ = _
    rw [(eo hc' hc hj hi).1, decide_eq_false (Ne.symm hij)]; rfl
  have e3 : ev T3.gm (.not (.cmp .NotEq (.ix (.ix (.var 8) (.var 3)) (.lit (.int 0))) (.var 17))) ρ s = .ok (.bl false) s := by
    have e4 : ev T3.gm (.cmp .NotEq (.ix (.ix (.var 8) (.var 3)) (.lit (.int 0))) (.var 17)) ρ s = .ok (.bl true) s := by
      show (ev T3.gm (.ix (.ix (.var 8) (.var 3)) (.lit (.int 0))) ρ s).bind _ = _
      rw [r]
      show (ev T3.gm (.var 17) ρ s).bind _ = _
      rw [v17]
      show (neO T3.gm (.ins c i f) (.ins c' j g) s).bind _ = _
      rw [(eo hc hc' hi hj).2, decide_eq_false hij]; rfl
    show (ev T3.gm (.cmp .NotEq (.ix (.ix (.var 8) (.var 3)) (.lit (.int 0))) (.var 17)) ρ s).bind _ = _
    rw [e4]; rfl
  have orC : ∀ {e e2 : E} {es : Es}, ev T3.gm e ρ s = .ok (.bl false) s → evOr T3.gm (.cons e (.cons e2 es)) ρ s = evOr T3.gm (.cons e2 es) ρ s := fun {e e2 es} h => by
    show (ev T3.gm e ρ s).bind _ = _
    rw [h]; rfl
  show evOr T3.gm _ ρ s = _
  rw [orC e1, orC e2]
  show (ev T3.gm (.not (.cmp .NotEq (.ix (.ix (.var 8) (.var 3)) (.lit (.int 0))) (.var 17))) ρ s).bind _ = _
  rw [e3]; rfl
end Mk
set_option Elab.async false
set_option linter.all false
set_option maxRecDepth 100000
set_option maxHeartbeats 2000000
/-! Made82: the four lists of rows. -/
namespace Mk
open PySem PySem.Spec PyProof.Rows L2 Mp
theorem fn_ma : T3.gm.fn "_law_made_a" = some e__law_made_a := by kernel_rfl
theorem fn_mb : T3.gm.fn "_law_made_b" = some e__law_made_b := by kernel_rfl
theorem fn_mc : T3.gm.fn "_law_made_c" = some e__law_made_c := by kernel_rfl
theorem fn_md : T3.gm.fn "_law_made_d" = some e__law_made_d := by kernel_rfl
theorem fn_val : T3.gm.fn "_law_value" = some e__law_value := by kernel_rfl
theorem den_rt {Γ : Gx} {ds : List D} {np n : Nat} {m : Ss} {s s' : Ms} {d : D} (hl : ds.length = np) (h : evSs Γ m (ds.map Sl.sh ++ List.replicate (n - np) .no) s = .ok (.rt d) s') : denOf Γ np n m ds s = .ok d s' := by
  unfold denOf
  rw [if_pos hl, h]; rfl
section
variable {a b c : D} (ha : bi a = true) (hb : bi b = true) (hc : bi c = true) (pn : Option Pen) (o : Nat) (r : List Int)
include ha hb hc
theorem den_ma : e__law_made_a [a, b, c] ⟨pn, o, r⟩ = .ok (.lst (rows_a a b c o)) ⟨pn, o + 2 + 2 + 2 + 2 + 2 + 2 + 2 + 2 + 2 + 2 + 2, r⟩ := den_rt rfl (made_a a b c ha hb hc pn o r)
theorem den_mb : e__law_made_b [a, b, c] ⟨pn, o, r⟩ = .ok (.lst (rows_b a b c o)) ⟨pn, o + 2 + 2 + 2 + 2 + 2 + 2 + 2 + 2 + 2 + 2 + 2, r⟩ := den_rt rfl (made_b a b c ha hb hc pn o r)
theorem den_mc : e__law_made_c [a, b, c] ⟨pn, o, r⟩ = .ok (.lst (rows_c a b c o)) ⟨pn, o + 2 + 2 + 2 + 2 + 2 + 2 + 2 + 2 + 2 + 2 + 2, r⟩ := den_rt rfl (made_c a b c ha hb hc pn o r)
theorem den_md : e__law_made_d [a, b, c] ⟨pn, o, r⟩ = .ok (.lst (rows_d a b c o)) ⟨pn, o + 2 + 2 + 2 + 2 + 2 + 2 + 2 + 2 + 2, r⟩ := den_rt rfl (made_d a b c ha hb hc pn o r)
end
end Mk
set_option Elab.async false
set_option linter.all false
set_option maxRecDepth 100000
set_option maxHeartbeats 2000000
/-! Rows2: all rows together. -/
namespace Mk
open PySem PySem.Spec PyProof.Rows L2 Mp
def allR (a b c : D) (o : Nat) : List D := rows_a a b c o ++ (rows_b a b c (o + 22) ++ (rows_c a b c (o + 44) ++ rows_d a b c (o + 66)))
theorem allR_len (a b c : D) (o : Nat) : (allR a b c o).length = 42 := rfl
/-- the row at k: its class, its values -/
theorem allR_at (a b c : D) (o k : Nat) (h : k < 42) : ∃ cl fs hs, (allR a b c o)[k]? = some (mkRow cl fs (o + 2 * k) hs) ∧ T3.gm.idn cl = true ∧ (hs = [a] ∨ hs = [a, b] ∨ hs = [a, b, c]) := by
  have key : ∀ k : Fin 42, ∃ cl fs hs, (allR a b c o)[(k : Nat)]? = some (mkRow cl fs (o + 2 * (k : Nat)) hs) ∧ T3.gm.idn cl = true ∧ (hs = [a] ∨ hs = [a, b] ∨ hs = [a, b, c]) := by
    intro k
    match k with
    | ⟨0, _⟩ => exact ⟨_, _, _, rfl, by decide +kernel, by simp⟩
    | ⟨1, _⟩ => exact ⟨_, _, _, rfl, by decide +kernel, by simp⟩
    | ⟨2, _⟩ => exact ⟨_, _, _, rfl, by decide +kernel, by simp⟩
    | ⟨3, _⟩ => exact ⟨_, _, _, rfl, by decide +kernel, by simp⟩
    | ⟨4, _⟩ => exact ⟨_, _, _, rfl, by decide +kernel, by simp⟩
    | ⟨5, _⟩ => exact ⟨_, _, _, rfl, by decide +kernel, by simp⟩
    | ⟨6, _⟩ => exact ⟨_, _, _, rfl, by decide +kernel, by simp⟩
    | ⟨7, _⟩ => exact ⟨_, _, _, rfl, by decide +kernel, by simp⟩
    | ⟨8, _⟩ => exact ⟨_, _, _, rfl, by decide +kernel, by simp⟩
    | ⟨9, _⟩ => exact ⟨_, _, _, rfl, by decide +kernel, by simp⟩
    | ⟨10, _⟩ => exact ⟨_, _, _, rfl, by decide +kernel, by simp⟩
    | ⟨11, _⟩ => exact ⟨_, _, _, rfl, by decide +kernel, by simp⟩
    | ⟨12, _⟩ => exact ⟨_, _, _, rfl, by decide +kernel, by simp⟩
    | ⟨13, _⟩ => exact ⟨_, _, _, rfl, by decide +kernel, by simp⟩
    | ⟨14, _⟩ => exact ⟨_, _, _, rfl, by decide +kernel, by simp⟩
    | ⟨15, _⟩ => exact ⟨_, _, _, rfl, by decide +kernel, by simp⟩
    | ⟨16, _⟩ => exact ⟨_, _, _, rfl, by decide +kernel, by simp⟩
    | ⟨17, _⟩ => exact ⟨_, _, _, rfl, by decide +kernel, by simp⟩
    | ⟨18, _⟩ => exact ⟨_, _, _, rfl, by decide +kernel, by simp⟩
    | ⟨19, _⟩ => exact ⟨_, _, _, rfl, by decide +kernel, by simp⟩
    | ⟨20, _⟩ => exact ⟨_, _, _, rfl, by decide +kernel, by simp⟩
    | ⟨21, _⟩ => exact ⟨_, _, _, rfl, by decide +kernel, by simp⟩
    | ⟨22, _⟩ => exact ⟨_, _, _, rfl, by decide +kernel, by simp⟩
    | ⟨23, _⟩ => exact ⟨_, _, _, rfl, by decide +kernel, by simp⟩
    | ⟨24, _⟩ => exact ⟨_, _, _, rfl, by decide +kernel, by simp⟩
    | ⟨25, _⟩ => exact ⟨_, _, _, rfl, by decide +kernel, by simp⟩
    | ⟨26, _⟩ => exact ⟨_, _, _, rfl, by decide +kernel, by simp⟩
    | ⟨27, _⟩ => exact ⟨_, _, _, rfl, by decide +kernel, by simp⟩
    | ⟨28, _⟩ => exact ⟨_, _, _, rfl, by decide +kernel, by simp⟩
    | ⟨29, _⟩ => exact ⟨_, _, _, rfl, by decide +kernel, by simp⟩
    | ⟨30, _⟩ => exact ⟨_, _, _, rfl, by decide +kernel, by simp⟩
    | ⟨31, _⟩ => exact ⟨_, _, _, rfl, by decide +kernel, by simp⟩
    | ⟨32, _⟩ => exact ⟨_, _, _, rfl, by decide +kernel, by simp⟩
    | ⟨33, _⟩ => exact ⟨_, _, _, rfl, by decide +kernel, by simp⟩
    | ⟨34, _⟩ => exact ⟨_, _, _, rfl, by decide +kernel, by simp⟩
    | ⟨35, _⟩ => exact ⟨_, _, _, rfl, by decide +kernel, by simp⟩
    | ⟨36, _⟩ => exact ⟨_, _, _, rfl, by decide +kernel, by simp⟩
    | ⟨37, _⟩ => exact ⟨_, _, _, rfl, by decide +kernel, by simp⟩
    | ⟨38, _⟩ => exact ⟨_, _, _, rfl, by decide +kernel, by simp⟩
    | ⟨39, _⟩ => exact ⟨_, _, _, rfl, by decide +kernel, by simp⟩
    | ⟨40, _⟩ => exact ⟨_, _, _, rfl, by decide +kernel, by simp⟩
    | ⟨41, _⟩ => exact ⟨_, _, _, rfl, by decide +kernel, by simp⟩
    | ⟨n + 42, q⟩ => omega
  exact key ⟨k, h⟩
end Mk
set_option Elab.async false
set_option linter.all false
set_option maxRecDepth 100000
set_option maxHeartbeats 2000000
/-! Small82: how the drawn values are shown. -/
namespace Mk
open PySem PySem.Spec PyProof.Rows L2 Mp
structure Sm (p : PyData) : Prop where
  sh : p.showable = true
  le : p.shown.length ≤ 100
  dp : p.depth ≤ 10
  ok : PyData.strOk p.shown = true
def smB (d : D) : Bool := match toPyR d with
  | some p => p.showable && decide (p.shown.length ≤ 100) && decide (p.depth ≤ 10) && PyData.strOk p.shown
  | none => false
theorem sm_of {d : D} (h : smB d = true) : ∃ p, toPyR d = some p ∧ Sm p := by
  unfold smB at h
  cases e : toPyR d with
  | none => rw [e] at h; cases h
  | some p =>
    rw [e] at h
    simp only [Bool.and_eq_true, decide_eq_true_eq] at h
    exact ⟨p, rfl, h.1.1.1, h.1.1.2, h.1.2, h.2⟩
theorem ok_app (x y : Str) : PyData.strOk (x ++ y) = (PyData.strOk x && PyData.strOk y) := by
  show (x.cps ++ y.cps).all _ = (x.cps.all _ && y.cps.all _)
  rw [Array.all_append]
theorem ok_from : ∀ (ts : List Str) (k : Nat) (acc : Str), PyData.strOk acc = true → (∀ t ∈ ts, PyData.strOk t = true) → PyData.strOk (textFrom k acc ts) = true
  | [], k, acc, h, _ => h
  | t :: ts, k, acc, h, ht => by
    show PyData.strOk (textFrom (k + 1) (acc ++ (if k > 0 then ", " else "" : String) ++ t) ts) = true
    refine ok_from ts (k + 1) _ ?_ fun x hx => ht x (List.mem_cons_of_mem _ hx)
    rw [ok_app, ok_app, h, ht t List.mem_cons_self]
    split <;> decide +kernel
theorem ok_list {ts : List Str} (h : ∀ t ∈ ts, PyData.strOk t = true) : PyData.strOk (listText ts) = true := by
  unfold listText
  rw [ok_app, ok_from ts 0 "[" (by decide +kernel) h]
  decide +kernel
theorem toPyRs_sm : ∀ {ds : List D}, (∀ d ∈ ds, smB d = true) → ∃ ps, toPyRs ds = some ps ∧ ps.length = ds.length ∧ ∀ p ∈ ps, Sm p
  | [], _ => ⟨[], rfl, rfl, fun _ h => by cases h⟩
  | d :: ds, h => by
    obtain ⟨p, e1, s1⟩ := sm_of (h d List.mem_cons_self)
    obtain ⟨ps, e2, l2, s2⟩ := toPyRs_sm fun x hx => h x (List.mem_cons_of_mem _ hx)
    refine ⟨p :: ps, ?_, by rw [List.length_cons, List.length_cons, l2], fun q hq => ?_⟩
    · simp only [toPyRs, e1, e2]
    · rcases List.mem_cons.mp hq with z | z
      · rw [z]; exact s1
      · exact s2 q z
theorem all_sm : ∀ {ps : List PyData}, (∀ p ∈ ps, Sm p) → PyData.showableAll ps = true ∧ ((PyData.shownAll ps).map (·.length)).sum ≤ 100 * ps.length ∧ PyData.depthAll ps ≤ 10 ∧ (PyData.shownAll ps).length = ps.length ∧ ∀ t ∈ PyData.shownAll ps, PyData.strOk t = true
  | [], _ => by
    refine ⟨rfl, ?_, ?_, rfl, ?_⟩
    · simp [PyData.shownAll]
    · simp [PyData.depthAll]
    · intro t h; simp [PyData.shownAll] at h
  | p :: ps, h => by
    have s := h p List.mem_cons_self
    obtain ⟨h1, h2, h3, h4, h5⟩ := all_sm fun x hx => h x (List.mem_cons_of_mem _ hx)
    have hl := s.le
    have hd := s.dp
    refine ⟨?_, ?_, ?_, ?_, ?_⟩
    · simp only [PyData.showableAll, s.sh, h1, Bool.and_self]
    · simp only [PyData.shownAll, List.map_cons, List.sum_cons, List.length_cons]
      omega
    · simp only [PyData.depthAll]
      omega
    · simp only [PyData.shownAll, List.length_cons, h4]
    · intro t ht
      simp only [PyData.shownAll, List.mem_cons] at ht
      rcases ht with z | z
      · rw [z]; exact s.ok
      · exact h5 t z
theorem shaped_str {t : Str} (h : PyData.strOk t = true) : SeqAt.shaped (.str t) = true := by
  unfold SeqAt.shaped
  simp [PyData.canLay0, PyData.depth, h]
theorem repr_list {ds : List D} (h : ∀ d ∈ ds, smB d = true) (hl : ds.length ≤ 3) : ∃ t, biD .repr [.lst ds] = some (.str t) ∧ SeqAt.shaped (.str t) = true := by
  obtain ⟨ps, e, l, s⟩ := toPyRs_sm h
  obtain ⟨h1, h2, h3, h4, h5⟩ := all_sm s
  have ep : toPyR (.lst ds) = some (.list ps) := by simp only [toPyR, e]
  have es : (PyData.list ps).shown = listText (PyData.shownAll ps) := by simp only [PyData.shown]
  have ll := listText_len_le (PyData.shownAll ps)
  refine ⟨(PyData.list ps).shown, ?_, shaped_str (by rw [es]; exact ok_list h5)⟩
  simp only [biD, ep]
  rw [if_pos]
  refine ⟨by simp only [PyData.showable, h1], ?_, ?_⟩
  · rw [es]
    refine Nat.le_trans (show _ ≤ 400 by omega) (by decide)
  · simp only [PyData.depth]
    omega
theorem repr_one {d : D} (h : smB d = true) : ∃ t, biD .repr [d] = some (.str t) ∧ SeqAt.shaped (.str t) = true := by
  obtain ⟨p, e, s⟩ := sm_of h
  refine ⟨p.shown, ?_, shaped_str s.ok⟩
  simp only [biD, e]
  have hl := s.le
  have hd := s.dp
  rw [if_pos ⟨s.sh, Nat.le_trans hl (by decide), by omega⟩]
theorem ints9 : ∀ x y z : Fin 9, smB (.tup [.int (x : Nat), .int (y : Nat), .int (z : Nat)]) = true := by decide +kernel
theorem cp_sm {x y z : Int} (hx : d9 x) (hy : d9 y) (hz : d9 z) : ∀ v ∈ vals x y z, smB (cp v) = true := by
  have h3 : smB (cp (.lst [.int x, .int y, .int z])) = true := by
    have := ints9 ⟨x.toNat, by have := hx.2; have := hx.1; omega⟩ ⟨y.toNat, by have := hy.2; have := hy.1; omega⟩ ⟨z.toNat, by have := hz.2; have := hz.1; omega⟩
    have ex : ((x.toNat : Nat) : Int) = x := Int.toNat_of_nonneg hx.1
    have ey : ((y.toNat : Nat) : Int) = y := Int.toNat_of_nonneg hy.1
    have ez : ((z.toNat : Nat) : Int) = z := Int.toNat_of_nonneg hz.1
    simp only at this
    rw [ex, ey, ez] at this
    exact this
  intro v hv
  simp only [vals, List.mem_cons, List.not_mem_nil, or_false] at hv
  rcases hv with e | e | e | e | e | e | e | e | e | e | e | e | e | e | e <;> subst e <;> first | exact h3 | decide +kernel
theorem vals_bi {x y z : Int} : ∀ v ∈ vals x y z, bi v = true := by
  intro v hv
  simp only [vals, List.mem_cons, List.not_mem_nil, or_false] at hv
  rcases hv with e | e | e | e | e | e | e | e | e | e | e | e | e | e | e <;> subst e <;> rfl
theorem vals_kind {x y z : Int} : ∀ v ∈ vals x y z, (∃ es, v = .lst es ∧ (cp v).nll es.length = true ∧ es.length < 42) ∨ isiD T3.gm v (.ty "list") = some false := by
  intro v hv
  simp only [vals, List.mem_cons, List.not_mem_nil, or_false] at hv
  rcases hv with e | e | e | e | e | e | e | e | e | e | e | e | e | e | e <;> subst e <;> first | exact .inr rfl | exact .inl ⟨_, rfl, rfl, by simp⟩
/-- a drawn value -/
structure GoodV (v : D) : Prop where
  bi : bi v = true
  sm : smB (cp v) = true
  kind : (∃ es, v = .lst es ∧ (cp v).nll es.length = true ∧ es.length < 42) ∨ isiD T3.gm v (.ty "list") = some false
theorem good_row {c : Str} {fs : List Str} {o : Nat} {hs : List D} (hc : T3.gm.idn c = true) (hh : ∀ v ∈ hs, GoodV v) (hl : hs.length ≤ 3) : GoodRow (mkRow c fs o hs) := by
  obtain ⟨t, e1, e2⟩ := repr_list (ds := hs.map cp) (fun d hd => by
    obtain ⟨v, hv, ev⟩ := List.mem_map.mp hd
    rw [← ev]; exact (hh v hv).sm) (by rw [List.length_map]; exact hl)
  exact ⟨c, o + 1, o + 2, _, _, hs, t, rfl, hc, by omega, by omega, by omega, fun v hv => (hh v hv).bi, by omega, e1, e2⟩
end Mk
set_option Elab.async false
set_option linter.all false
set_option maxRecDepth 100000
set_option maxHeartbeats 2000000
/-! PlainA: the law's def, statement by statement. -/
namespace Mk
open PySem PySem.Spec PyProof.Rows L2 Mp
abbrev NoOw (ρ : List Sl) : Prop := ∀ (j : Nat) ds, ρ[j]? ≠ some (.ow ds)
theorem noow_set {ρ : List Sl} (h : NoOw ρ) (n : Nat) (d : D) : NoOw (ρ.set n (.sh d)) := fun j ds z => by
  by_cases q : n = j
  · subst q
    by_cases hn : n < ρ.length
    · rw [List.getElem?_set_self hn] at z; cases z
    · rw [List.getElem?_eq_none (by simpa using hn)] at z; cases z
  · rw [List.getElem?_set_ne q] at z
    exact h j ds z
theorem fz_noow {ρ : List Sl} (h : NoOw ρ) (vs : List Nat) : fz vs ρ = ρ := fz_id fun i ds e => absurd e (h i ds)
theorem asg_eq {Γ : Gx} {i : Nat} {e : E} {ρ : List Sl} {s s' : Ms} {d : D} (no : NoOw ρ) (h : ev Γ.g e (look (vsE e) ρ) s = .ok d s') : evS Γ (.asg i {} e) ρ s = .ok (.nx (ρ.set i (.sh d))) s' := by
  show (evV Γ.g {} e ρ s).bind _ = _
  rw [evV0 h (fz_noow no _)]; rfl
inductive LoopV (Γ : Gm) (i : Nat) (e : E) (ρ : List (Option D)) : List D → Ms → List D → Ms → Prop
  | nil (s : Ms) : LoopV Γ i e ρ [] s [] s
  | cons {x y : D} {xs ys : List D} {s s1 s2 : Ms} (h : ev Γ e (ρ.set i (some x)) s = .ok y s1) (r : LoopV Γ i e ρ xs s1 ys s2) : LoopV Γ i e ρ (x :: xs) s (y :: ys) s2
theorem ev_lc {Γ : Gm} {i : Nat} {it : Mp.It} {e : E} {ρ : List (Option D)} {s s1 s2 : Ms} {xs ys : List D} (hit : evi Γ it ρ s = .ok xs s1) (h : LoopV Γ i e ρ xs s1 ys s2) (hl : ys.length ≤ sizeLine) : ev Γ (.lc (.v i) it .no e) ρ s = .ok (.lst ys) s2 := by
  let F : D → Ms → Out (Option D) := fun d s => (match bindT (.v i) d ρ with
    | none => Out.bad
    | some ρ' => (evc Γ .no ρ' s).bind fun k s => if k = true then (ev Γ e ρ' s).bind fun x s => .ok (some x) s else .ok none s).nox
  have el : loopL F xs s1 = .ok ys s2 := by
    clear hit hl
    induction h with
    | nil s => rfl
    | @cons x y xs ys s s1 s2 h r ih =>
      have f : F x s = .ok (some y) s1 := by
        show ((ev Γ e (ρ.set i (some x)) s).bind fun x s => .ok (some x) s).nox = _
        rw [h]; rfl
      show (F x s).bind _ = _
      rw [f]
      show (loopL F xs s1).bind _ = _
      rw [ih]; rfl
  show (evi Γ it ρ s).bind _ = _
  rw [hit]
  show (loopL F xs s1).bind (fun ds s => if ds.length ≤ sizeLine then Out.ok (D.lst ds) s else .bad) = _
  rw [el, Out.bind_ok, if_pos hl]
theorem lit_eq {Γ : Gm} {c : Const} {ρ : List (Option D)} {s : Ms} {d : D} (h : litD c = some d) : ev Γ (.lit c) ρ s = .ok d s := by
  show Out.opt (litD c) s = _
  rw [h]; rfl
theorem evs_cons {Γ : Gm} {e : E} {es : Es} {ρ : List (Option D)} {s s1 s2 : Ms} {d : D} {ds : List D} (h1 : ev Γ e ρ s = .ok d s1) (h2 : evs Γ es ρ s1 = .ok ds s2) : evs Γ (.cons e es) ρ s = .ok (d :: ds) s2 := by
  show (ev Γ e ρ s).bind _ = _
  rw [h1]
  show (evs Γ es ρ s1).bind _ = _
  rw [h2]; rfl
theorem evs_one {Γ : Gm} {e : E} {ρ : List (Option D)} {s s1 : Ms} {d : D} (h1 : ev Γ e ρ s = .ok d s1) : evs Γ (.cons e .nil) ρ s = .ok [d] s1 := evs_cons h1 rfl
theorem bi_eq {Γ : Gm} {f : Bi} {es : Es} {ρ : List (Option D)} {s s1 : Ms} {ds : List D} {d : D} (h : evs Γ es ρ s = .ok ds s1) (hb : biD f ds = some d) : ev Γ (.bi f es) ρ s = .ok d s1 := by
  show (evs Γ es ρ s).bind _ = _
  rw [h]
  show Out.opt (biD f ds) s1 = _
  rw [hb]; rfl
theorem bin_eq {Γ : Gm} {op : Operator} {a b : E} {ρ : List (Option D)} {s s1 s2 : Ms} {x y d : D} (h1 : ev Γ a ρ s = .ok x s1) (h2 : ev Γ b ρ s1 = .ok y s2) (hb : binD op x y = some d) : ev Γ (.bin op a b) ρ s = .ok d s2 := by
  show (ev Γ a ρ s).bind _ = _
  rw [h1]
  show (ev Γ b ρ s1).bind _ = _
  rw [h2]
  show Out.opt (binD op x y) s2 = _
  rw [hb]; rfl
theorem it_e {Γ : Gm} {a : E} {ρ : List (Option D)} {s s1 : Ms} {x : D} {xs : List D} (h1 : ev Γ a ρ s = .ok x s1) (hx : itemsD x = some xs) : evi Γ (.e a) ρ s = .ok xs s1 := by
  show (ev Γ a ρ s).bind _ = _
  rw [h1]
  show Out.opt (itemsD x) s1 = _
  rw [hx]; rfl
theorem atI_of {xs : List D} {i : Int} {x : D} (h0 : 0 ≤ i) (h : xs[i.toNat]? = some x) : L2.atI xs i = some x := by
  have hl : i < xs.length := by
    by_cases z : i < xs.length
    · exact z
    · rw [List.getElem?_eq_none (by omega)] at h; cases h
  unfold L2.atI ixN
  rw [if_pos h0, if_pos hl]
  exact h
/-! ### one statement after the other -/
theorem ss_seq {Γ : Gx} {t : S} {m : Ss} {ρ ρ' : List Sl} {s s' : Ms} (h : evS Γ t ρ s = .ok (.nx ρ') s') : evSs Γ (.cons t m) ρ s = evSs Γ m ρ' s' := by
  rw [ss_cons_eq, h]; rfl
theorem unp_eq {Γ : Gx} {is : List Nat} {e : E} {ρ ρ' : List Sl} {s s' : Ms} {d : D} (no : NoOw ρ) (h : ev Γ.g e (look (vsE e) ρ) s = .ok d s') (hb : bindS (.t is) d ρ = some ρ') : evS Γ (.unp is {} e) ρ s = .ok (.nx ρ') s' := by
  have ex : evX Γ.g false e ρ s = .ok (d, ρ) s' := by
    unfold evX
    rw [h, Out.bind_ok, if_neg Bool.false_ne_true, fz_noow no]
  show (evX Γ.g false e ρ s).bind _ = _
  rw [ex]
  show (Out.opt (bindS (.t is) d ρ) s').bind _ = _
  rw [hb]; rfl
theorem for_eq {Γ : Gx} {tg : Tg} {it : Mp.It} {b : Ss} {ρ : List Sl} {s s' s2 : Ms} {xs : List D} {c : Ctl} (no : NoOw ρ) (h : evi Γ.g it (look (vsI it) ρ) s = .ok xs s') (hf : evFor tg (fun ρ s => evSs Γ b ρ s) xs ρ s' = .ok c s2) : evS Γ (.for_ tg it b) ρ s = .ok c s2 := by
  have ei : evXI Γ.g it ρ s = .ok (xs, ρ) s' := by
    unfold evXI
    rw [h, Out.bind_ok, fz_noow no]
  show (evXI Γ.g it ρ s).bind _ = _
  rw [ei]
  exact hf
theorem mk_eq {Γ : Gm} {c : Str} {den : Den} {es : Es} {ρ : List (Option D)} {s s' : Ms} {ds : List D} (hf : Γ.mke c = some den) (h : evs Γ es ρ s = .ok ds s') : ev Γ (.mk c es) ρ s = den ds s' := by
  show (match Γ.mke c with
    | some d => (evs Γ es ρ s).bind d
    | none => .bad) = _
  rw [hf, h]; rfl
theorem ix_eq {Γ : Gm} {a i : E} {ρ : List (Option D)} {s s1 s2 : Ms} {x y d : D} (h1 : ev Γ a ρ s = .ok x s1) (h2 : ev Γ i ρ s1 = .ok y s2) (hb : ixD x y = some d) : ev Γ (.ix a i) ρ s = .ok d s2 := by
  show (ev Γ a ρ s).bind _ = _
  rw [h1]
  show (ev Γ i ρ s1).bind _ = _
  rw [h2]
  show Out.opt (ixD x y) s2 = _
  rw [hb]; rfl
theorem fld_eq {Γ : Gm} {a : E} {f : Str} {ρ : List (Option D)} {s s1 : Ms} {x d : D} (h1 : ev Γ a ρ s = .ok x s1) (hb : fldD Γ x f = some d) : ev Γ (.fld a f) ρ s = .ok d s1 := by
  show (ev Γ a ρ s).bind _ = _
  rw [h1]
  show Out.opt (fldD Γ x f) s1 = _
  rw [hb]; rfl
theorem rng1_eq {Γ : Gm} {a : E} {ρ : List (Option D)} {s s1 : Ms} {i : Int} (h1 : ev Γ a ρ s = .ok (.int i) s1) (hb : bnd62 i = true) : evi Γ (.rng1 a) ρ s = .ok (rngD 0 i.toNat) s1 := by
  show (ev Γ a ρ s).bind _ = _
  rw [h1]
  show (if bnd62 i = true then Out.ok (rngD 0 i.toNat) s1 else .bad) = _
  rw [if_pos hb]
theorem rng_42 : rngD 0 (42 : Int).toNat = (List.range' 0 42).map fun i => D.int (i : Nat) := by
  unfold rngD
  rw [List.range_eq_range']
  refine List.map_congr_left fun i _ => ?_
  rw [Int.zero_add]
/-! ### the drawn values -/
def t1 : E := .lc (.v 3) (.rng1 (.lit (.int 3))) .no (.call "_law_value" (.cons (.var 1) .nil))
def t2 : E := .lc (.v 7) (.e (.var 2)) .no (.ifx (.isi (.var 7) (.ty "list")) (.bi .list (.cons (.var 7) .nil)) (.var 7))
theorem one_value {n : Int} (hn : n < 999999900) {s : Ms} {p : Pen} (hs : s.pen = some p) (I : PenI n p) {ρ : List (Option D)} (h1 : ρ[1]? = some (some .pen)) : ∃ v p', ev T3.gm (.call "_law_value" (.cons (.var 1) .nil)) ρ s = .ok v { s with pen := some p' } ∧ GoodV v ∧ PenI (n + 4) p' := by
  obtain ⟨v, x, y, z, p', hv, hx, hy, hz, e, I'⟩ := value hn hs I
  refine ⟨v, p', ?_, ⟨vals_bi v hv, cp_sm hx hy hz v hv, vals_kind v hv⟩, I'⟩
  rw [call_eq fn_val (evs_one (var_eq h1))]
  exact e
theorem values3 {n : Int} (hn : n < 999999000) {s : Ms} {p : Pen} (hs : s.pen = some p) (I : PenI n p) {ρ : List (Option D)} (h1 : ρ[1]? = some (some .pen)) :
    ∃ a b c p', ev T3.gm t1 ρ s = .ok (.lst [a, b, c]) { s with pen := some p' } ∧ GoodV a ∧ GoodV b ∧ GoodV c ∧ PenI (n + 12) p' := by
  have g1 : ∀ d : D, (ρ.set 3 (some d))[1]? = some (some .pen) := fun d => by rw [List.getElem?_set_ne (by decide)]; exact h1
  obtain ⟨a, p1, e1, ga, I1⟩ := one_value (by omega) hs I (g1 (.int 0))
  obtain ⟨b, p2, e2, gb, I2⟩ := one_value (s := { s with pen := some p1 }) (by omega) rfl I1 (g1 (.int 1))
  obtain ⟨c, p3, e3, gc, I3⟩ := one_value (s := { s with pen := some p2 }) (by omega) rfl I2 (g1 (.int 2))
  refine ⟨a, b, c, p3, ?_, ga, gb, gc, by have := I3; rw [show n + 4 + 4 + 4 = n + 12 by omega] at this; exact this⟩
  exact ev_lc (xs := [.int 0, .int 1, .int 2]) (s1 := s) rfl (.cons e1 (.cons e2 (.cons e3 (.nil _)))) (by show 3 ≤ sizeLine; decide)
theorem keep_eq {v : D} (h : bi v = true) {ρ : List (Option D)} {s : Ms} (h7 : ρ[7]? = some (some v)) : ev T3.gm (.ifx (.isi (.var 7) (.ty "list")) (.bi .list (.cons (.var 7) .nil)) (.var 7)) ρ s = .ok v s := by
  have e1 : ∀ k, isiD T3.gm v (.ty "list") = some k → ev T3.gm (.isi (.var 7) (.ty "list")) ρ s = .ok (.bl k) s := fun k hk => by
    show (ev T3.gm (.var 7) ρ s).bind _ = _
    rw [var_eq h7]
    show (Out.opt (isiD T3.gm v (.ty "list")) s).bind _ = _
    rw [hk]; rfl
  have eif : ∀ k, isiD T3.gm v (.ty "list") = some k → ev T3.gm (.ifx (.isi (.var 7) (.ty "list")) (.bi .list (.cons (.var 7) .nil)) (.var 7)) ρ s = if k = true then ev T3.gm (.bi .list (.cons (.var 7) .nil)) ρ s else ev T3.gm (.var 7) ρ s := fun k hk => by
    show (ev T3.gm (.isi (.var 7) (.ty "list")) ρ s).bind _ = _
    rw [e1 k hk]; rfl
  cases v with
  | lst xs =>
    rw [eif true rfl, if_pos rfl]
    exact bi_eq (evs_one (var_eq h7)) rfl
  | non => rw [eif false rfl, if_neg Bool.false_ne_true, var_eq h7]
  | bl b => rw [eif false rfl, if_neg Bool.false_ne_true, var_eq h7]
  | int i => rw [eif false rfl, if_neg Bool.false_ne_true, var_eq h7]
  | str x => rw [eif false rfl, if_neg Bool.false_ne_true, var_eq h7]
  | tup xs => rw [eif false rfl, if_neg Bool.false_ne_true, var_eq h7]
  | dct kvs => rw [eif false rfl, if_neg Bool.false_ne_true, var_eq h7]
  | ins _ _ _ => cases h
  | pen => cases h
  | scr => cases h
theorem copies3 {a b c : D} (ha : bi a = true) (hb : bi b = true) (hc : bi c = true) {ρ : List (Option D)} {s : Ms} (h2 : ρ[2]? = some (some (.lst [a, b, c]))) (hl : ρ.length = 20) : ev T3.gm t2 ρ s = .ok (.lst [a, b, c]) s := by
  have g7 : ∀ d : D, (ρ.set 7 (some d))[7]? = some (some d) := fun d => List.getElem?_set_self (by omega)
  exact ev_lc (it_e (var_eq h2) rfl) (.cons (keep_eq ha (g7 a)) (.cons (keep_eq hb (g7 b)) (.cons (keep_eq hc (g7 c)) (.nil _)))) (by show 3 ≤ sizeLine; decide)
/-! ### the four lists -/
def tk (f : Str) : E := .call f (.cons (.var 4) (.cons (.var 5) (.cons (.var 6) .nil)))
def t4 : Es := .cons (tk "_law_made_a") (.cons (tk "_law_made_b") (.cons (tk "_law_made_c") (.cons (tk "_law_made_d") .nil)))
def t4b : E := .bin .Add (.var 8) (.var 9)
def t6 : E := .bi .len (.cons (.var 8) .nil)
def t7 : E := .mk "Sum" (.cons (.ix (.var 2) (.lit (.int 0))) .nil)
def t8 : E := .bi .repr (.cons (.fld (.var 18) "weights") .nil)
theorem law_parts : m_law = .cons (.asg 2 {} t1) (.cons (.unp [4, 5, 6] {} t2) (.cons (.asg 8 {} (.lst .nil)) (.cons (.for_ (.v 9) (.e (.lst t4)) (.cons (.asg 8 {} t4b) .nil)) (.cons (.for_ (.t [10, 11, 12, 13, 14, 15]) (.e (.var 8)) b1) (.cons (.for_ (.v 3) (.rng1 t6) b2) (.cons (.asg 18 {} t7) (.cons (.asg 19 {} t8) .nil))))))) := rfl
theorem call3 {f : Str} {den : Den} (hf : T3.gm.fn f = some den) {a b c d : D} {ρ : List (Option D)} {s s' : Ms} (h4 : ρ[4]? = some (some a)) (h5 : ρ[5]? = some (some b)) (h6 : ρ[6]? = some (some c)) (h : den [a, b, c] s = .ok d s') : ev T3.gm (tk f) ρ s = .ok d s' := by
  unfold tk
  rw [call_eq hf (evs_cons (var_eq h4) (evs_cons (var_eq h5) (evs_one (var_eq h6))))]
  exact h
theorem four {a b c : D} (ha : bi a = true) (hb : bi b = true) (hc : bi c = true) {ρ : List (Option D)} {pn : Option Pen} {r : List Int} (h4 : ρ[4]? = some (some a)) (h5 : ρ[5]? = some (some b)) (h6 : ρ[6]? = some (some c)) :
    evi T3.gm (.e (.lst t4)) ρ ⟨pn, 0, r⟩ = .ok [.lst (rows_a a b c 0), .lst (rows_b a b c 22), .lst (rows_c a b c 44), .lst (rows_d a b c 66)] ⟨pn, 84, r⟩ := by
  have e1 := call3 fn_ma h4 h5 h6 (den_ma ha hb hc pn 0 r)
  have e2 := call3 fn_mb h4 h5 h6 (den_mb ha hb hc pn 22 r)
  have e3 := call3 fn_mc h4 h5 h6 (den_mc ha hb hc pn 44 r)
  have e4 := call3 fn_md h4 h5 h6 (den_md ha hb hc pn 66 r)
  have es := evs_cons e1 (evs_cons e2 (evs_cons e3 (evs_one e4)))
  refine it_e (x := .lst [.lst (rows_a a b c 0), .lst (rows_b a b c 22), .lst (rows_c a b c 44), .lst (rows_d a b c 66)]) ?_ rfl
  show (evs T3.gm t4 ρ ⟨pn, 0, r⟩).bind _ = _
  unfold t4
  rw [es, Out.bind_ok, if_pos (by show 4 ≤ sizeLine; decide)]
theorem add_turn {ρ : List Sl} {s : Ms} {xs ys : List D} (no : NoOw ρ) (h8 : ρ[8]? = some (.sh (.lst xs))) (h9 : ρ[9]? = some (.sh (.lst ys))) (hl : xs.length + ys.length < 1000) : evSs T3.gx (.cons (.asg 8 {} t4b) .nil) ρ s = .ok (.nx (ρ.set 8 (.sh (.lst (xs ++ ys))))) s := by
  have e : evS T3.gx (.asg 8 {} t4b) ρ s = .ok (.nx (ρ.set 8 (.sh (.lst (xs ++ ys))))) s := by
    refine asg_eq no (bin_eq (var_eq (look_sh h8)) (var_eq (look_sh h9)) ?_)
    show (if xs.length + ys.length ≤ sizeLine then some (D.lst (xs ++ ys)) else none) = _
    rw [if_pos (Nat.le_trans (Nat.le_of_lt hl) (by decide))]
  rw [ss_cons_eq, e]
  rfl
theorem add_loop : ∀ (ls : List (List D)) (xs : List D) (ρ : List Sl) (s : Ms), NoOw ρ → ρ.length = 20 → ρ[8]? = some (.sh (.lst xs)) → xs.length + (ls.map List.length).sum < 1000 →
    ∃ ρ', evFor (.v 9) (fun ρ s => evSs T3.gx (.cons (.asg 8 {} t4b) .nil) ρ s) (ls.map D.lst) ρ s = .ok (.nx ρ') s ∧ NoOw ρ' ∧ ρ'.length = 20 ∧ ρ'[8]? = some (.sh (.lst (xs ++ ls.flatten))) ∧ ∀ j, j < 8 → ρ'[j]? = ρ[j]?
  | [], xs, ρ, s, no, len, h8, _ => ⟨ρ, rfl, no, len, by rw [List.flatten_nil, List.append_nil]; exact h8, fun _ _ => rfl⟩
  | l :: ls, xs, ρ, s, no, len, h8, hl => by
    rw [List.map_cons, List.sum_cons] at hl
    have n1 := noow_set no 9 (.lst l)
    have e := add_turn (ρ := ρ.set 9 (.sh (.lst l))) (s := s) n1 (by rw [List.getElem?_set_ne (by decide)]; exact h8) (List.getElem?_set_self (by omega)) (by omega)
    obtain ⟨ρ', e', no', len', h8', old⟩ := add_loop ls (xs ++ l) ((ρ.set 9 (.sh (.lst l))).set 8 (.sh (.lst (xs ++ l)))) s (noow_set n1 8 _) (by simp [len]) (List.getElem?_set_self (by simp [len])) (by rw [List.length_append]; omega)
    refine ⟨ρ', ?_, no', len', by rw [h8', List.flatten_cons, List.append_assoc], fun j hj => ?_⟩
    · show (evSs T3.gx (.cons (.asg 8 {} t4b) .nil) (ρ.set 9 (.sh (.lst l))) s).bind _ = _
      rw [e]
      exact e'
    · rw [old j hj, List.getElem?_set_ne (by omega), List.getElem?_set_ne (by omega)]
/-! ### the second loop -/
def t2i : E := .bin .Mod (.bi .int (.cons (.bin .Add (.bin .Add (.var 3) (.lit (.int 1))) (.call "_law_draw" (.cons (.var 1) (.cons (.bin .Sub (.bi .len (.cons (.var 8) .nil)) (.lit (.int 1))) .nil)))) .nil)) (.bi .len (.cons (.var 8) .nil))
theorem b2a_parts : b2a = .asg 17 {} (.ix (.ix (.var 8) t2i) (.lit (.int 0))) := rfl
structure Lq (rows vs : List D) (ρ : List Sl) : Prop where
  len : ρ.length = 20
  no : NoOw ρ
  h1 : ρ[1]? = some (.sh .pen)
  h2 : ρ[2]? = some (.sh (.lst vs))
  h8 : ρ[8]? = some (.sh (.lst rows))
/-- the rows' objects -/
structure Rws (rows : List D) : Prop where
  len : rows.length = 42
  at_ : ∀ k, k < 42 → ∃ cl fs hs, rows[k]? = some (mkRow cl fs (2 * k) hs) ∧ T3.gm.idn cl = true
theorem pick_other {rows : List D} (hr : rows.length = 42) {n : Int} (hn : n < 999999999) {s : Ms} {p : Pen} (hs : s.pen = some p) (I : PenI n p) {ρ : List (Option D)} {k : Nat} (hk : k < 42) (h1 : ρ[1]? = some (some .pen)) (h3 : ρ[3]? = some (some (.int k))) (h8 : ρ[8]? = some (some (.lst rows))) :
    ∃ j p', j < 42 ∧ j ≠ k ∧ ev T3.gm t2i ρ s = .ok (.int (j : Nat)) { s with pen := some p' } ∧ PenI (n + 1) p' := by
  obtain ⟨x, p', e, x0, x1, I1⟩ := draw hn hs I (many := 41) (by decide)
  have el : ∀ s, ev T3.gm (.bi .len (.cons (.var 8) .nil)) ρ s = .ok (.int 42) s := fun s => bi_eq (evs_one (var_eq h8)) (by show some (D.int (rows.length : Int)) = _; rw [hr]; rfl)
  have ed : ev T3.gm (.call "_law_draw" (.cons (.var 1) (.cons (.bin .Sub (.bi .len (.cons (.var 8) .nil)) (.lit (.int 1))) .nil))) ρ s = .ok (.int x) { s with pen := some p' } := by
    rw [call_eq fn_draw3 (evs_cons (var_eq h1) (evs_one (bin_eq (d := .int 41) (el s) (lit_eq rfl) rfl)))]
    exact e
  have hj : (((k : Int) + 1 + x) % 42).toNat < 42 := by omega
  refine ⟨(((k : Int) + 1 + x) % 42).toNat, p', hj, by omega, ?_, I1⟩
  have ei : ((((k : Int) + 1 + x) % 42).toNat : Int) = ((k : Int) + 1 + x) % 42 := Int.toNat_of_nonneg (Int.emod_nonneg _ (by decide))
  rw [ei]
  refine bin_eq (bi_eq (ds := [.int ((k : Int) + 1 + x)]) (evs_one (bin_eq (bin_eq (d := .int ((k : Int) + 1)) (var_eq h3) (lit_eq rfl) rfl) ed rfl)) rfl) (el _) ?_
  rfl
theorem turn2 {rows vs : List D} (R : Rws rows) {ρ : List Sl} (L : Lq rows vs ρ) {n : Int} (hn : n < 999999999) {s : Ms} {p : Pen} (hs : s.pen = some p) (I : PenI n p) {k : Nat} (hk : k < 42) (h3 : ρ[3]? = some (.sh (.int k))) :
    ∃ ρ' p', evSs T3.gx b2 ρ s = .ok (.nx ρ') { s with pen := some p' } ∧ Lq rows vs ρ' ∧ PenI (n + 1) p' := by
  have lk : ∀ {vs : List Nat} {i : Nat} {d : D}, ρ[i]? = some (.sh d) → (look vs ρ)[i]? = some (some d) := fun h => look_sh h
  obtain ⟨j, p', hj, hjk, e, I1⟩ := pick_other R.len hn hs I hk (ρ := look (vsE (.ix (.ix (.var 8) t2i) (.lit (.int 0)))) ρ) (lk L.h1) (lk h3) (lk L.h8)
  obtain ⟨c, fs, hh, ek, hc⟩ := R.at_ k hk
  obtain ⟨c', fs', hh', ej, hc'⟩ := R.at_ j hj
  have a1 : evS T3.gx b2a ρ s = .ok (.nx (ρ.set 17 (.sh (.ins c' (2 * j + 1) (fs'.zip (hh'.map cp)))))) { s with pen := some p' } := by
    rw [b2a_parts]
    exact asg_eq L.no (pick_row (lk L.h8) e (atI_of (by omega) ej))
  have far : ∀ {m : Nat} {x : Sl}, m ≠ 17 → ρ[m]? = some x → (ρ.set 17 (.sh (.ins c' (2 * j + 1) (fs'.zip (hh'.map cp)))))[m]? = some x := fun h e => by
    rw [List.getElem?_set_ne (Ne.symm h)]; exact e
  have h17 : (ρ.set 17 (.sh (.ins c' (2 * j + 1) (fs'.zip (hh'.map cp)))))[17]? = some (.sh (.ins c' (2 * j + 1) (fs'.zip (hh'.map cp)))) := List.getElem?_set_self (by rw [L.len]; decide)
  have a2 : evXT T3.gx.g b2t (ρ.set 17 (.sh (.ins c' (2 * j + 1) (fs'.zip (hh'.map cp))))) { s with pen := some p' } = .ok false { s with pen := some p' } := by
    show (ev T3.gm b2t (look (vsE b2t) _) _).bind _ = _
    rw [test2 (look_sh (far (by decide) L.h8)) (look_sh (far (by decide) h3)) (look_sh h17) (atI_of (by omega) ek) hc hc' (by omega) (by omega) (by omega)]
    rfl
  refine ⟨_, p', ?_, ⟨by simp [L.len], noow_set L.no 17 _, far (by decide) L.h1, far (by decide) L.h2, far (by decide) L.h8⟩, I1⟩
  unfold b2
  rw [ss_cons_eq, a1]
  show evSs T3.gx (.cons (.ife b2t _ .nil) .nil) _ _ = _
  rw [ss_cons_eq, ife_eq a2, if_neg Bool.false_ne_true]
  rfl
theorem loop2 {rows vs : List D} (R : Rws rows) : ∀ (m k : Nat) (ρ : List Sl) (n : Int) (s : Ms) (p : Pen), k + m = 42 → Lq rows vs ρ → n + m < 999999999 → s.pen = some p → PenI n p →
    ∃ ρ' p', evFor (.v 3) (fun ρ s => evSs T3.gx b2 ρ s) ((List.range' k m).map fun i => D.int (i : Nat)) ρ s = .ok (.nx ρ') { s with pen := some p' } ∧ Lq rows vs ρ'
  | 0, k, ρ, n, s, p, hk, L, hn, hs, I => ⟨ρ, p, by rw [← hs]; rfl, L⟩
  | m + 1, k, ρ, n, s, p, hk, L, hn, hs, I => by
    have L1 : Lq rows vs (ρ.set 3 (.sh (.int k))) := ⟨by simp [L.len], noow_set L.no 3 _, by rw [List.getElem?_set_ne (by decide)]; exact L.h1, by rw [List.getElem?_set_ne (by decide)]; exact L.h2, by rw [List.getElem?_set_ne (by decide)]; exact L.h8⟩
    obtain ⟨ρ1, p1, e1, L2, I1⟩ := turn2 R L1 (by omega) hs I (by omega) (List.getElem?_set_self (by rw [L.len]; decide))
    obtain ⟨ρ2, p2, e2, L3⟩ := loop2 R m (k + 1) ρ1 (n + 1) { s with pen := some p1 } p1 (by omega) L2 (by omega) rfl I1
    refine ⟨ρ2, p2, ?_, L3⟩
    rw [List.range'_succ, List.map_cons]
    show (evSs T3.gx b2 (ρ.set 3 (.sh (.int k))) s).bind _ = _
    rw [e1]
    exact e2
end Mk
set_option Elab.async false
set_option linter.all false
set_option maxRecDepth 100000
set_option maxHeartbeats 2000000
/-! PlainB: the law's def, statement by statement. -/
namespace Mk
open PySem PySem.Spec PyProof.Rows L2 Mp
theorem x1_Sum3 : T3.gm.mke "Sum" = some (mkDen "Sum" true i_Sum) := by kernel_rfl
theorem fld_Sum3 : T3.gm.fld "Sum" "weights" = true := by decide +kernel
theorem noow_rL : NoOw rL := fun j ds z => by
  match j, z with
  | 0, z => cases z
  | 1, z => cases z
  | j + 2, z =>
    have z' : (List.replicate 18 Sl.no)[j]? = some (.ow ds) := z
    rw [List.getElem?_replicate] at z'
    split at z' <;> cases z'
/-- the first three statements -/
def ρ3 (a b c : D) : List Sl := ((((rL.set 2 (.sh (.lst [a, b, c]))).set 4 (.sh a)).set 5 (.sh b)).set 6 (.sh c)).set 8 (.sh (.lst []))
def tl4 : Ss := .cons (.for_ (.v 9) (.e (.lst t4)) (.cons (.asg 8 {} t4b) .nil)) (.cons (.for_ (.t [10, 11, 12, 13, 14, 15]) (.e (.var 8)) b1) (.cons (.for_ (.v 3) (.rng1 t6) b2) (.cons (.asg 18 {} t7) (.cons (.asg 19 {} t8) .nil))))
theorem part1 (ns : List Int) (fo : Int) (hlen : ns.length ≤ 63) (h0 : 0 ≤ fo) (h1 : fo < foB) : ∃ a b c p1, evSs T3.gx m_law rL (stP ns fo) = evSs T3.gx tl4 (ρ3 a b c) ⟨some p1, 0, []⟩ ∧ GoodV a ∧ GoodV b ∧ GoodV c ∧ PenI 12 p1 := by
  have I0 : PenI 0 ⟨ns, 0, 0, 0, fo⟩ := ⟨h0, h1, Int.le_refl _, Int.le_refl _, Int.le_refl _, Int.le_refl _, hlen⟩
  obtain ⟨a, b, c, p1, e1, ga, gb, gc, I1⟩ := values3 (n := 0) (by decide) (s := stP ns fo) rfl I0 (ρ := look (vsE t1) rL) (look_sh rfl)
  have e1 : ev T3.gm t1 (look (vsE t1) rL) (stP ns fo) = .ok (.lst [a, b, c]) ⟨some p1, 0, []⟩ := e1
  refine ⟨a, b, c, p1, ?_, ga, gb, gc, I1⟩
  have n1 : NoOw (rL.set 2 (.sh (.lst [a, b, c]))) := noow_set noow_rL 2 _
  have n2 : NoOw ((((rL.set 2 (.sh (.lst [a, b, c]))).set 4 (.sh a)).set 5 (.sh b)).set 6 (.sh c)) := noow_set (noow_set (noow_set n1 4 _) 5 _) 6 _
  have l1 : (rL.set 2 (.sh (.lst [a, b, c]))).length = 20 := by rw [List.length_set]; rfl
  have q2 := unp_eq (Γ := T3.gx) (is := [4, 5, 6]) (s := ⟨some p1, 0, []⟩) n1 (copies3 ga.bi gb.bi gc.bi (s := ⟨some p1, 0, []⟩) (look_sh (i := 2) (d := .lst [a, b, c]) (List.getElem?_set_self (by show 2 < 20; decide))) (by rw [look_len]; exact l1)) (ρ' := (((rL.set 2 (.sh (.lst [a, b, c]))).set 4 (.sh a)).set 5 (.sh b)).set 6 (.sh c)) rfl
  have e3 : ev T3.gx.g (.lst .nil) (look (vsE (.lst .nil)) ((((rL.set 2 (.sh (.lst [a, b, c]))).set 4 (.sh a)).set 5 (.sh b)).set 6 (.sh c))) ⟨some p1, 0, []⟩ = .ok (.lst []) ⟨some p1, 0, []⟩ := rfl
  rw [law_parts, ss_seq (asg_eq noow_rL e1), ss_seq q2, ss_seq (asg_eq n2 e3)]
  rfl
theorem noow_3 (a b c : D) : NoOw (ρ3 a b c) := noow_set (noow_set (noow_set (noow_set (noow_set noow_rL 2 _) 4 _) 5 _) 6 _) 8 _
theorem len_3 (a b c : D) : (ρ3 a b c).length = 20 := by
  unfold ρ3
  rw [List.length_set, List.length_set, List.length_set, List.length_set, List.length_set]; rfl
theorem rows_len (a b c : D) : (rows_a a b c 0).length = 11 ∧ (rows_b a b c 22).length = 11 ∧ (rows_c a b c 44).length = 11 ∧ (rows_d a b c 66).length = 9 := ⟨rfl, rfl, rfl, rfl⟩
theorem good_all {a b c : D} (ga : GoodV a) (gb : GoodV b) (gc : GoodV c) : ∀ d ∈ allR a b c 0, GoodRow d := fun d hd => by
  obtain ⟨k, hk⟩ := List.mem_iff_getElem?.mp hd
  have hk' : k < 42 := by
    by_cases z : k < 42
    · exact z
    · rw [List.getElem?_eq_none (by rw [allR_len]; omega)] at hk; cases hk
  obtain ⟨cl, fs, hs, e, hc, hh⟩ := allR_at a b c 0 k hk'
  rw [hk] at e
  rw [Option.some.inj e]
  have hall : ∀ v ∈ hs, GoodV v := fun v hv => by
    rcases hh with z | z | z <;> rw [z] at hv <;> simp only [List.mem_cons, List.not_mem_nil, or_false] at hv
    · rw [hv]; exact ga
    · rcases hv with z | z <;> rw [z] <;> assumption
    · rcases hv with z | z | z <;> rw [z] <;> assumption
  have hl : hs.length ≤ 3 := by rcases hh with z | z | z <;> rw [z] <;> simp
  exact good_row hc hall hl
theorem rws (a b c : D) : Rws (allR a b c 0) := ⟨allR_len a b c 0, fun k hk => by
  obtain ⟨cl, fs, hs, e, hc, _⟩ := allR_at a b c 0 k hk
  rw [Nat.zero_add] at e
  exact ⟨cl, fs, hs, e, hc⟩⟩
theorem all_flat (a b c : D) : [] ++ [rows_a a b c 0, rows_b a b c 22, rows_c a b c 44, rows_d a b c 66].flatten = allR a b c 0 := by
  rw [List.nil_append, List.flatten_cons, List.flatten_cons, List.flatten_cons, List.flatten_cons, List.flatten_nil, List.append_nil]
  rfl
/-- the loops -/
theorem part2 {a b c : D} (ga : GoodV a) (gb : GoodV b) (gc : GoodV c) {p1 : Pen} (I1 : PenI 12 p1) : ∃ ρ6 p6, evSs T3.gx tl4 (ρ3 a b c) ⟨some p1, 0, []⟩ = evSs T3.gx (.cons (.asg 18 {} t7) (.cons (.asg 19 {} t8) .nil)) ρ6 ⟨some p6, 84, []⟩ ∧ Lq (allR a b c 0) [a, b, c] ρ6 := by
  have n3 := noow_3 a b c
  have l3 := len_3 a b c
  obtain ⟨m1, m2, m3, m4⟩ := rows_len a b c
  have g4 : (ρ3 a b c)[4]? = some (.sh a) := rfl
  have g5 : (ρ3 a b c)[5]? = some (.sh b) := rfl
  have g6 : (ρ3 a b c)[6]? = some (.sh c) := rfl
  have g8 : (ρ3 a b c)[8]? = some (.sh (.lst [])) := rfl
  have g1 : (ρ3 a b c)[1]? = some (.sh .pen) := rfl
  have g2 : (ρ3 a b c)[2]? = some (.sh (.lst [a, b, c])) := rfl
  obtain ⟨ρ4, e4, n4, l4, h48, old4⟩ := add_loop [rows_a a b c 0, rows_b a b c 22, rows_c a b c 44, rows_d a b c 66] [] (ρ3 a b c) ⟨some p1, 84, []⟩ n3 l3 g8 (by
    simp only [List.map_cons, List.map_nil, List.sum_cons, List.sum_nil, m1, m2, m3, m4, List.length_nil]; decide)
  have q4 := for_eq (Γ := T3.gx) n3 (four (ρ := look (vsI (.e (.lst t4))) (ρ3 a b c)) (pn := some p1) (r := []) ga.bi gb.bi gc.bi (look_sh g4) (look_sh g5) (look_sh g6)) e4
  rw [all_flat] at h48
  obtain ⟨ρ5, e5, L5⟩ := loop1 ρ4 ⟨some p1, 84, []⟩ (allR a b c 0) ρ4 ⟨l4, n4, fun _ _ => rfl⟩ (good_all ga gb gc)
  have q5 := for_eq (Γ := T3.gx) n4 (it_e (var_eq (Γ := T3.gm) (ρ := look (vsI (.e (.var 8))) ρ4) (s := ⟨some p1, 84, []⟩) (look_sh h48)) rfl) e5
  have L6 : Lq (allR a b c 0) [a, b, c] ρ5 := ⟨L5.len, L5.no, by rw [L5.old 1 (by decide), old4 1 (by decide)]; exact g1, by rw [L5.old 2 (by decide), old4 2 (by decide)]; exact g2, by rw [L5.old 8 (by decide)]; exact h48⟩
  obtain ⟨ρ6, p6, e6, L7⟩ := loop2 (rws a b c) 42 0 ρ5 12 ⟨some p1, 84, []⟩ p1 rfl L6 (by decide) rfl I1
  have el : ev T3.gm t6 (look (vsI (.rng1 t6)) ρ5) ⟨some p1, 84, []⟩ = .ok (.int 42) ⟨some p1, 84, []⟩ := bi_eq (evs_one (var_eq (look_sh L6.h8))) (by
    show some (D.int (((allR a b c 0).length : Nat) : Int)) = _
    rw [allR_len]; rfl)
  have eg := rng1_eq el (by decide)
  rw [rng_42] at eg
  have q6 := for_eq (Γ := T3.gx) L6.no eg e6
  refine ⟨ρ6, p6, ?_, L7⟩
  unfold tl4
  rw [ss_seq q4, ss_seq q5, ss_seq q6]
theorem plain : Plain := by
  intro ns fo hlen h0 h1
  obtain ⟨a, b, c, p1, w1, ga, gb, gc, I1⟩ := part1 ns fo hlen h0 h1
  obtain ⟨ρ6, p6, w2, L7⟩ := part2 ga gb gc I1
  have n7 : NoOw (ρ6.set 18 (.sh (.ins "Sum" 85 [("weights", cp a)]))) := noow_set L7.no 18 _
  have q7 : evS T3.gx (.asg 18 {} t7) ρ6 ⟨some p6, 84, []⟩ = .ok (.nx (ρ6.set 18 (.sh (.ins "Sum" 85 [("weights", cp a)])))) ⟨some p6, 85, []⟩ := by
    refine asg_eq L7.no ?_
    have ea := ix_eq (Γ := T3.gx.g) (d := a) (var_eq (ρ := look (vsE t7) ρ6) (s := ⟨some p6, 84, []⟩) (look_sh L7.h2)) (lit_eq (c := .int 0) rfl) at_zero
    have em := mk_eq (Γ := T3.gx.g) x1_Sum3 (evs_one ea)
    refine em.trans ?_
    show (i_Sum [a] _).bind _ = _
    rw [n_i_Sum ga.bi]; rfl
  obtain ⟨bf, er, sh⟩ := repr_one ga.sm
  have h718 : (ρ6.set 18 (.sh (.ins "Sum" 85 [("weights", cp a)])))[18]? = some (.sh (.ins "Sum" 85 [("weights", cp a)])) := List.getElem?_set_self (by rw [L7.len]; decide)
  have q8 : evS T3.gx (.asg 19 {} t8) (ρ6.set 18 (.sh (.ins "Sum" 85 [("weights", cp a)]))) ⟨some p6, 85, []⟩ = .ok (.nx ((ρ6.set 18 (.sh (.ins "Sum" 85 [("weights", cp a)]))).set 19 (.sh (.str bf)))) ⟨some p6, 85, []⟩ := by
    refine asg_eq n7 (bi_eq (evs_one (fld_eq (d := cp a) (var_eq (look_sh h718)) ?_)) er)
    show (if T3.gm.fld "Sum" "weights" = true then some (cp a) else none) = _
    rw [if_pos fld_Sum3]
  have l7 : (ρ6.set 18 (.sh (.ins "Sum" 85 [("weights", cp a)]))).length = 20 := by rw [List.length_set]; exact L7.len
  refine ⟨(ρ6.set 18 (.sh (.ins "Sum" 85 [("weights", cp a)]))).set 19 (.sh (.str bf)), ⟨some p6, 85, []⟩, ?_, ⟨by rw [List.length_set]; exact l7, a, [b, c], allR a b c 0, 85, cp a, bf, ?_, ?_, ?_, ?_, allR_len a b c 0, er, sh, ga.kind⟩⟩
  · rw [w1, w2, ss_seq q7, ss_seq q8]
    rfl
  · rw [List.getElem?_set_ne (by decide), List.getElem?_set_ne (by decide)]; exact L7.h2
  · rw [List.getElem?_set_ne (by decide)]; exact h718
  · exact List.getElem?_set_self (by rw [l7]; decide)
  · rw [List.getElem?_set_ne (by decide), List.getElem?_set_ne (by decide)]; exact L7.h8
end Mk
set_option Elab.async false
set_option linter.all false
set_option maxRecDepth 100000
set_option maxHeartbeats 0
/-! End82: the statement. -/
open PySem PySem.W PySem.Calls PyProof.Rows
theorem PySem.Challenge.cw_newsranks_k82_classes_made_by_hand_holds : PySem.Challenge.rw_newsranks_k82_classes_made_by_hand.Holds := by
  w_on; o_law
  refine HandSHeadRun.head_any (r := OpenLaw.row PySem.Challenge.rw_newsranks_k82_classes_made_by_hand) (q := Mk.qv) (H := Mp.hookM Mk.ptA) (ob := Mp.obM Mk.ptA) (M := 12000) (loose := Mk.loA)
    (d := HandSHeadRun.topDef (OpenLaw.row PySem.Challenge.rw_newsranks_k82_classes_made_by_hand).prog 72) (kwd := []) (Mp.obM_eq Mk.ptA)
    (by kernel_rfl) (fun s => by kernel_rfl) Mk.run (by kernel_rfl) (by kernel_rfl) (by kernel_rfl) (by rfl) (by first | assumption | decide +kernel) (by decide +kernel) ⟨rfl, rfl, rfl, rfl, rfl, by decide +kernel⟩ ?hw ?hc
  case hw => w_witness2
  case hc =>
    refine Mp.walk_G (l := PySem.Challenge.rw_newsranks_k82_classes_made_by_hand) (n := 63) (k := 8) (x := "script") rfl (by decide) (by kernel_rfl) ⟨⟨rfl, by decide, by decide⟩, rfl⟩ ?F
    intro w mg fa h Y G hm0
    obtain ⟨K, KX, c⟩ := Y
    have hm : mg ("law" : PySem.Str) = some (.ref fa) := by
      have e : (HandSHeadRun.topDef (OpenLaw.row PySem.Challenge.rw_newsranks_k82_classes_made_by_hand).prog 72).name = ("law" : PySem.Str) := by kernel_rfl
      rw [← e]
      exact hm0
    have b0 : Mk.Base ⟨K, mg⟩ h := ⟨KX, G, c⟩
    have e1 := hm.symm.trans (Mk.g_law b0)
    cases e1
    obtain ⟨fd, F⟩ := Mk.F_law b0
    have bd := L2.FunD.bindsA (ps := ["script"]) F fun _ _ _ _ _ _ us hl => match us, hl with | [_], _ => rfl
    exact ⟨K, fd, Mk.spLaw ⟨K, mg⟩, KX, fun s u => bd s [u] rfl, fun H a ns hl hS => ⟨a, ns, rfl, hl, hS, fun _ => rfl⟩, fun base hK hG => Mk.law_fn Mk.plain ⟨hK, hG, c⟩ F⟩
