import PyProof.Rows.All
import Wide.All
import OpenK.AllK
import Wide.FinOn
import HandS.Head0
import HandS.Head1
import HandS.Head2
import HandS.HeadEnd
import HandS.HeadHook1
import HandS.HeadHook2
import HandS.HeadHook4
import HandS.IsInst
import HandS.ForMost
import HandS.Exc
import HandS.Flow
import HandS.NoneIn
import HandS.TupAny
import HandS.Deep
import HandS.Walk
import HandS.Zip
import HandS.SortInts
import HandS.Defaults
import HandS.Lambda
import HandS.ExcInit
import HandS.ExcField
import HandS.TryMany
import HandS.More
import HandS.TupLe
import HandS.SortOrd
import HandS.Words
import PySem.Challenge.RW_newsranks_k67_who_may_know
set_option Elab.async false
set_option linter.all false
set_option maxRecDepth 100000
set_option maxHeartbeats 2000000
/-! MpHead: what the head tells. -/
namespace Mp
open PySem PySem.Spec PyProof.Rows L2
def tyNames : List String := ["NoneType", "bool", "int", "str", "tuple", "list", "dict"]
/-- a class as isinstance looks at its objects, by the written part -/
def ownB (K : PySem.W.Frag) (c : Addr) : Bool := decide (PySem.W.findIn K (.ref c) "__class__" = some (some (.builtin "object.__class__"))) && decide (PySem.W.specialIn K (.builtin "object.__class__") "__get__" = some (some (.builtin "getset_descriptor.__get__"))) &&
  decide (PySem.W.takesIn K (.builtin "object.__class__") = some true) && decide (PySem.W.mroIn K c (.type "object") = some true) && tyNames.all fun m => decide (PySem.W.kitOne K (.type m) (.ref c) = some false)
/-- a class without an order of its own, of no base but object -/
def idnB (K : PySem.W.Frag) (c : Addr) : Bool := decide (PySem.W.findIn K (.ref c) "__eq__" = some (some (.builtin "object.__eq__"))) && decide (PySem.W.findIn K (.ref c) "__ne__" = some (some (.builtin "object.__ne__"))) && (match PySem.W.clsIn K c with
  | some cd => decide (cd.mro = [.ref c, .type "object"])
  | none => false)
/-! ### the head's facts, sys.modules among them -/
/-- what these objects name -/
def nextM (g : Addr → Option Obj) (as : List Addr) : List Addr := as.flatMap fun a => match g a with
  | some o => He.refsD o
  | none => []
/-- the module's names, what they name, in five steps -/
def reachM (g : Addr → Option Obj) : List Addr :=
  let l1 := nextM g [mainGlobals]
  let l2 := nextM g l1
  let l3 := nextM g l2
  let l4 := nextM g l3
  cStatics :: sysModules :: mainGlobals :: (l1 ++ (l2 ++ (l3 ++ l4)))
/-- a part of the facts -/
structure PartM where
  fa : List He.Fa
  fn : List He.DefD
  ex : PySem.W.Frag → Bool
  /-- defs in which functions are made: their tables are empty -/
  tf : List He.Defn := []
abbrev ObM : Type := List (He.AlD × Bool)
def ob1 (g : Addr → Option Obj) (p : PartM) (K : PySem.W.Frag) : He.AlD × Bool := (He.obsD p.fa p.fn K, p.ex K && ((K.lookup sysModules).isSome && He.tabsB g p.tf K))
def obsM (ps : List PartM) (g : Addr → Option Obj) : ObM := match ps with
  | [] => []
  | ps => let K := He.frT g (reachM g); ps.map fun p => ob1 g p K
def val1 (p : PartM) : He.AlD × Bool := (He.valD p.fn, true)
def valM (ps : List PartM) : ObM := ps.map val1
structure SaysM (p : PartM) (K : PySem.W.Frag) : Prop where
  d : He.SaysD p.fa p.fn K
  ex : p.ex K = true
  sys : ∃ o, K.lookup sysModules = some o
  hd : ∀ t ∈ p.tf, PySem.W.codeHdIn K (He.cT K t).1 (He.cT K t).2 = true
  out : ∀ t ∈ p.tf, K.lookup (He.cT K t).2 = none
/-- a table as it is before anything is made -/
abbrev tabO : Obj := { cls := .none, data := .fields #[] }
def EmptyT (p : PartM) (K : PySem.W.Frag) (h : Addr → Option Obj) : Prop := ∀ t ∈ p.tf, h (He.cT K t).2 = some tabO
theorem obsM_cons (p : PartM) (ps : List PartM) (g : Addr → Option Obj) : obsM (p :: ps) g = ob1 g p (He.frT g (reachM g)) :: obsM ps g := by
  cases ps <;> rfl
theorem obsM_all {g : Addr → Option Obj} : ∀ {ps : List PartM}, obsM ps g = valM ps → ∀ p ∈ ps, SaysM p (He.frT g (reachM g)) ∧ EmptyT p (He.frT g (reachM g)) g
  | [], _, p, hp => by cases hp
  | q :: ps, e, p, hp => by
    rw [obsM_cons] at e
    have e' : ob1 g q (He.frT g (reachM g)) :: obsM ps g = val1 q :: valM ps := e
    injection e' with e1 e2
    rcases List.mem_cons.mp hp with z | z
    · subst z
      have x1 := congrArg (fun z : He.AlD × Bool => z.1) e1
      have x2 := Bool.and_eq_true_iff.mp (congrArg (fun z : He.AlD × Bool => z.2) e1)
      have x3 := Bool.and_eq_true_iff.mp x2.2
      have tab : ∀ t ∈ p.tf, PySem.W.codeHdIn (He.frT g (reachM g)) (He.cT (He.frT g (reachM g)) t).1 (He.cT (He.frT g (reachM g)) t).2 = true ∧ ∃ o, g (He.cT (He.frT g (reachM g)) t).2 = some o ∧ He.emptyTab o = true := fun t ht => by
        have y := Bool.and_eq_true_iff.mp (List.all_eq_true.mp x3.2 t ht)
        refine ⟨y.1, ?_⟩
        cases z : g (He.cT (He.frT g (reachM g)) t).2 with
        | none => have y2 := y.2; rw [z] at y2; cases y2
        | some o => have y2 := y.2; rw [z] at y2; exact ⟨o, rfl, y2⟩
      exact ⟨⟨x1, x2.1, Option.isSome_iff_exists.mp x3.1, fun t ht => (tab t ht).1, fun t ht => let ⟨o, h1, h2⟩ := (tab t ht).2; He.frT_none h1 h2⟩, fun t ht => let ⟨o, h1, h2⟩ := (tab t ht).2; by rw [h1, He.emptyTab_eq h2]⟩
    · exact obsM_all e2 p z
def hookM (ps : List PartM) : PySem.W.Hook where
  α := ObM
  obs := fun s => obsM ps s.heap.get?
  val := fun _ => valM ps
  says := fun _ h => ∃ K : PySem.W.Frag, K.In h ∧ (∀ p ∈ ps, SaysM p K) ∧ ∀ p ∈ ps, EmptyT p K h.get?
  of := fun _ _ e => ⟨_, He.frT_in, fun p hp => (obsM_all e p hp).1, fun p hp => (obsM_all e p hp).2⟩
  keeps := fun _ _ _ ⟨K, hK, c, t⟩ k => ⟨K, PySem.W.Frag.In.keeps hK k, c, fun p hp x hx => k _ _ (t p hp x hx)⟩
def obM (ps : List PartM) (s : PySem.W.SharedT) : ObM := obsM ps (HandSHeadRun.getT s)
theorem obM_eq (ps : List PartM) (s : PySem.W.SharedT) : obM ps s = (hookM ps).obs s.abs := by
  have e : HandSHeadRun.getT s = s.abs.heap.get? := funext (HandSHeadRun.getT_eq s)
  unfold obM
  rw [e]
  rfl
/-- two runs with a part each are one run with both -/
theorem run_cons {r : PySem.W.OpenRow} {q : Program} {M : Nat} {loose : List Str} {w : World} {p : PartM} {ps : List PartM} (h1 : HandSHeadRun.RunEq r q (hookM [p]) (obM [p]) M loose w) (h2 : HandSHeadRun.RunEq r q (hookM ps) (obM ps) M loose w) :
    HandSHeadRun.RunEq r q (hookM (p :: ps)) (obM (p :: ps)) M loose w := by
  intro os
  have e1 := h1 os
  have e2 := h2 os
  cases z : HandSHeadRun.endF (HandSHeadRun.stepQ (HandSHeadRun.denQ HandSHeadRun.tabQ) r.prog w) M r.prog w os with
  | none => rw [z] at e1; cases e1
  | some s =>
    rw [z] at e1 e2
    have x1 := Option.some.inj e1
    have x2 := Option.some.inj e2
    have y1 := congrArg (fun t => t.2.2) x1
    have y2 := congrArg (fun t => t.2.2) x2
    have y3 := congrArg (fun t => t.1) x1
    have y4 := congrArg (fun t => t.2.1) x1
    have y1 : obM [p] s = valM [p] := y1
    have y2 : obM ps s = valM ps := y2
    show some _ = some _
    congr 1
    refine Prod.ext y3 (Prod.ext y4 ?_)
    show obM (p :: ps) s = valM (p :: ps)
    have y1' : [ob1 (HandSHeadRun.getT s) p (He.frT (HandSHeadRun.getT s) (reachM (HandSHeadRun.getT s)))] = [val1 p] := y1
    injection y1' with y5 _
    have : obM (p :: ps) s = ob1 (HandSHeadRun.getT s) p (He.frT (HandSHeadRun.getT s) (reachM (HandSHeadRun.getT s))) :: obM ps s := obsM_cons p ps _
    rw [this, y5, y2]
    rfl
end Mp
set_option Elab.async false
set_option linter.all false
set_option maxRecDepth 100000
set_option maxHeartbeats 2000000
/-! MpBase: deep data, worlds, how values stand for data. -/
namespace Mp
open PySem PySem.Spec PyProof.Rows L2

/-- data: immutable, of any depth; ins: an object of an own class (its class's name, a number of its own where that is told apart, else 0, its fields); pen: the law's drawing dict; scr: anything, of which nothing is known; lam: the law's k-th lambda -/
inductive D where
  | non
  | bl (b : Bool)
  | int (i : Int)
  | str (x : Str)
  | tup (xs : List D)
  | lst (xs : List D)
  | dct (kvs : List (Key × D))
  | ins (c : Str) (i : Nat) (fs : List (Str × D))
  | pen
  | scr
  | lam (k : Nat)
  deriving Inhabited

/-- what the drawing dict holds -/
structure Pen where
  cells : List Int
  at_ : Int
  digits : Int
  count : Int
  fold : Int
/-- the running state: the drawing dict (once made), how many numbered objects there are -/
structure Ms where
  pen : Option Pen := none
  oid : Nat := 0
  /-- what the law's names hold, while its lambdas may be called -/
  env : Option (List (Option D)) := none

/-- what is known of the heap: the part that never changes again, where the drawing dict (and its list) lies, where the numbered objects lie -/
structure Wd where
  G : Hp
  pen : Option (Addr × Addr)
  ids : Nat → Option Addr
  nid : Nat
  scr : Option Addr
  env : Option (List (Option D)) := none

/-- the written part, the module's names -/
structure LamT where
  params : Arguments
  body : Expr
  scope : Scope
structure Rc where
  K : PySem.W.Frag
  mg : Str → Option Value
  /-- the law's lambdas: their texts, the law's name, its cells, its names -/
  lamT : Nat → Option LamT := fun _ => none
  lamQ : Str := Str.empty
  cells : List (Str × Addr) := []
  lamN : List Str := []
/-- an object that stays as it is -/
def FrzO (o : Obj) : HO := .frz o (.ext fun _ => True)

mutual
def Rep (C : Rc) (W : Wd) : D → V → Prop
  | .non, v => v = .non
  | .bl b, v => v = .bl b
  | .int i, v => v = .int i
  | .str x, v => v = .str x
  | .tup ds, v => ∃ a vs, v = .ref a ∧ SqT C.K W.G a vs ∧ Reps C W ds vs
  | .lst ds, v => ∃ a vs, v = .ref a ∧ W.G a = some (.lst vs) ∧ Reps C W ds vs
  | .dct ds, v => ∃ a vs, v = .ref a ∧ W.G a = some (.dK vs) ∧ RepK C W ds vs
  | .ins c i fs, v => ∃ a cl dx vs, v = .ref a ∧ C.mg c = some (.ref cl) ∧ W.G a = some (.ins cl dx vs) ∧ RepF C W fs vs ∧ (i ≠ 0 → W.ids i = some a)
  | .pen, v => ∃ a c, v = .ref a ∧ W.pen = some (a, c)
  | .scr, _ => True
  | .lam k, v => ∃ (f c' : Addr) (t : LamT) (pm ctv : Value), v = .ref f ∧ C.lamT k = some t ∧ W.G c' = some (LamX.CodeO c' (C.lamQ ++ "<lambda>")) ∧
    W.G f = some (FrzO (PySem.W.kla_obj "<lambda>" (C.lamQ ++ "<lambda>") t.params t.body t.scope (cloFrom C.cells t.scope.names []) pm c' ctv))
def Reps (C : Rc) (W : Wd) : List D → List V → Prop
  | [], vs => vs = []
  | d :: ds, vs => ∃ v r, vs = v :: r ∧ Rep C W d v ∧ Reps C W ds r
def RepF (C : Rc) (W : Wd) : List (Str × D) → List (Str × V) → Prop
  | [], vs => vs = []
  | (n, d) :: ds, vs => ∃ v r, vs = (n, v) :: r ∧ Rep C W d v ∧ RepF C W ds r
def RepK (C : Rc) (W : Wd) : List (Key × D) → List (Key × V) → Prop
  | [], vs => vs = []
  | (n, d) :: ds, vs => ∃ v r, vs = (n, v) :: r ∧ Rep C W d v ∧ RepK C W ds r
end

/-- a world knows more -/
structure Le (W W' : Wd) : Prop where
  G : ∀ a o, W.G a = some o → W'.G a = some o
  pen : W'.pen = W.pen
  ids : ∀ i a, W.ids i = some a → W'.ids i = some a
  nid : W.nid ≤ W'.nid
  env : W'.env = W.env
theorem Le.refl (W : Wd) : Le W W := ⟨fun _ _ h => h, rfl, fun _ _ h => h, Nat.le_refl _, rfl⟩
theorem Le.trans {W W1 W2 : Wd} (a : Le W W1) (b : Le W1 W2) : Le W W2 := ⟨fun x o h => b.G x o (a.G x o h), b.pen.trans a.pen, fun i x h => b.ids i x (a.ids i x h), Nat.le_trans a.nid b.nid, b.env.trans a.env⟩

theorem rd_le {G G' : Hp} (h : ∀ a o, G a = some o → G' a = some o) {a : Addr} {u : HO} (r : Rd G a u) : Rd G' a u := by
  rcases r with r | ⟨o, r⟩
  · exact .inl (h _ _ r)
  · exact .inr ⟨o, h _ _ r⟩
theorem sqT_le {K : PySem.W.Frag} {G G' : Hp} (h : ∀ a o, G a = some o → G' a = some o) {a : Addr} {vs : List V} (r : SqT K G a vs) : SqT K G' a vs := by
  rcases r with r | r
  · exact .inl (rd_le h r)
  · exact .inr r
theorem sqL_le {K : PySem.W.Frag} {G G' : Hp} (h : ∀ a o, G a = some o → G' a = some o) {a : Addr} {vs : List V} (r : SqL K G a vs) : SqL K G' a vs := by
  rcases r with r | r
  · exact .inl (rd_le h r)
  · exact .inr r

mutual
theorem Rep.le {C : Rc} {W W' : Wd} (h : Le W W') : ∀ (d : D) (v : V), Rep C W d v → Rep C W' d v
  | .non, v, r => r
  | .bl b, v, r => r
  | .int i, v, r => r
  | .str x, v, r => r
  | .tup ds, v, ⟨a, vs, e, s, r⟩ => ⟨a, vs, e, sqT_le h.G s, Reps.le h ds vs r⟩
  | .lst ds, v, ⟨a, vs, e, s, r⟩ => ⟨a, vs, e, h.G _ _ s, Reps.le h ds vs r⟩
  | .dct ds, v, ⟨a, vs, e, s, r⟩ => ⟨a, vs, e, h.G _ _ s, RepK.le h ds vs r⟩
  | .ins c i fs, v, ⟨a, cl, dx, vs, e, m, s, r, q⟩ => ⟨a, cl, dx, vs, e, m, h.G _ _ s, RepF.le h fs vs r, fun z => h.ids _ _ (q z)⟩
  | .pen, v, ⟨a, c, e, p⟩ => ⟨a, c, e, h.pen.trans p⟩
  | .scr, v, r => r
  | .lam k, v, ⟨f, c', t, pm, ctv, e, e2, s, r⟩ => ⟨f, c', t, pm, ctv, e, e2, h.G _ _ s, h.G _ _ r⟩
theorem Reps.le {C : Rc} {W W' : Wd} (h : Le W W') : ∀ (ds : List D) (vs : List V), Reps C W ds vs → Reps C W' ds vs
  | [], vs, r => r
  | d :: ds, vs, ⟨v, r, e, p, q⟩ => ⟨v, r, e, Rep.le h d v p, Reps.le h ds r q⟩
theorem RepF.le {C : Rc} {W W' : Wd} (h : Le W W') : ∀ (ds : List (Str × D)) (vs : List (Str × V)), RepF C W ds vs → RepF C W' ds vs
  | [], vs, r => r
  | (n, d) :: ds, vs, ⟨v, r, e, p, q⟩ => ⟨v, r, e, Rep.le h d v p, RepF.le h ds r q⟩
theorem RepK.le {C : Rc} {W W' : Wd} (h : Le W W') : ∀ (ds : List (Key × D)) (vs : List (Key × V)), RepK C W ds vs → RepK C W' ds vs
  | [], vs, r => r
  | (n, d) :: ds, vs, ⟨v, r, e, p, q⟩ => ⟨v, r, e, Rep.le h d v p, RepK.le h ds r q⟩
end

/-- what the law's lambdas see: its cells stand as they are, and hold what its names hold -/
structure EnvOk (C : Rc) (W : Wd) (ρ : List (Option D)) : Prop where
  len : ρ.length = C.lamN.length
  cel : ∀ (x : Str) (c : Addr), C.cells.lookup x = some c → ∃ (o : Obj) (v : Option Value), o.data = .cell v ∧ W.G c = some (FrzO o)
  at_ : ∀ (i : Nat) (d : D), ρ[i]? = some (some d) → ∃ (x : Str) (c : Addr) (v : V) (u : Value) (o : Obj), C.lamN[i]? = some x ∧ C.cells.lookup x = some c ∧ Rep C W d v ∧ RelV v u ∧ o.data = .cell (some u) ∧ W.G c = some (FrzO o)
theorem EnvOk.le {C : Rc} {W W' : Wd} {ρ : List (Option D)} (e : EnvOk C W ρ) (h : Le W W') : EnvOk C W' ρ where
  len := e.len
  cel := fun x c q => let ⟨o, v, h1, h2⟩ := e.cel x c q; ⟨o, v, h1, h.G _ _ h2⟩
  at_ := fun i d q => by
    obtain ⟨x, c, v, u, o, e1, e2, e3, e4, e5, e6⟩ := e.at_ i d q
    exact ⟨x, c, v, u, o, e1, e2, Rep.le h d v e3, e4, e5, h.G _ _ e6⟩
/-- the drawing dict's pairs -/
def penKvs (p : Pen) (c : Addr) : List (Key × V) := [(.inr "cells", .ref c), (.inr "at", .int p.at_), (.inr "digits", .int p.digits), (.inr "count", .int p.count), (.inr "fold", .int p.fold)]

/-- the heap is as the world and the state say -/
structure Rel (C : Rc) (W : Wd) (st : Ms) (H : Hp) : Prop where
  sub : ∀ a o, W.G a = some o → H a = some o
  pen : ∀ x, W.pen = some x → ∃ p, st.pen = some p ∧ H x.1 = some (.dK (penKvs p x.2)) ∧ W.G x.1 = none ∧ W.G x.2 = some (.lst (p.cells.map V.int))
  penE : W.pen = none → st.pen = none
  nid : W.nid = st.oid
  idlt : ∀ i a, W.ids i = some a → i ≤ W.nid ∧ ∃ cl dx fs, W.G a = some (.ins cl dx fs)
  idinj : ∀ i j a, W.ids i = some a → W.ids j = some a → i = j
  envE : st.env = W.env
  env : ∀ ρ, W.env = some ρ → EnvOk C W ρ

/-- from one world and heap to a later one -/
structure Ext (W : Wd) (H : Hp) (W' : Wd) (H' : Hp) : Prop where
  le : Le W W'
  keep : ∀ a o, H a = some o → (∀ x, W.pen = some x → a ≠ x.1) → H' a = some o
  dom : ∀ a, H' a = none → H a = none
  newG : ∀ a o, W'.G a = some o → W.G a = some o ∨ H a = none
  scr : W'.scr = W.scr
theorem Ext.refl (W : Wd) (H : Hp) : Ext W H W H := ⟨.refl W, fun _ _ h _ => h, fun _ h => h, fun _ _ h => .inl h, rfl⟩
theorem Ext.trans {W W1 W2 : Wd} {H H1 H2 : Hp} (a : Ext W H W1 H1) (b : Ext W1 H1 W2 H2) : Ext W H W2 H2 where
  le := a.le.trans b.le
  keep := fun x o h n => b.keep x o (a.keep x o h n) fun y hy => n y (a.le.pen ▸ hy)
  dom := fun x h => a.dom x (b.dom x h)
  newG := fun x o h => by
    rcases b.newG x o h with z | z
    · exact a.newG x o z
    · exact .inr (a.dom x z)
  scr := b.scr.trans a.scr

/-- a new thing is laid, never to change -/
def Wd.put (W : Wd) (p : Addr) (o : HO) : Wd := { W with G := upd W.G p o }
theorem Wd.put_at {W : Wd} {p : Addr} {o : HO} : (W.put p o).G p = some o := upd_same
theorem G_free {C : Rc} {W : Wd} {st : Ms} {H : Hp} (r : Rel C W st H) {p : Addr} (h : H p = none) : W.G p = none := by
  cases e : W.G p with
  | none => rfl
  | some o => rw [r.sub p o e] at h; cases h
theorem le_put {W : Wd} {p : Addr} {o : HO} (h : W.G p = none) : Le W (W.put p o) :=
  ⟨fun a u e => by
    show upd W.G p o a = some u
    rw [upd_ne (ne_of_none e h)]; exact e, rfl, fun _ _ e => e, Nat.le_refl _, rfl⟩
theorem rel_put {C : Rc} {W : Wd} {st : Ms} {H : Hp} (r : Rel C W st H) {p : Addr} {o : HO} (h : H p = none) : Rel C (W.put p o) st (upd H p o) where
  sub := fun a u e => by
    have e' : upd W.G p o a = some u := e
    by_cases q : a = p
    · rw [q, upd_same] at e' ⊢; exact e'
    · rw [upd_ne q] at e' ⊢; exact r.sub a u e'
  pen := fun x hx => by
    obtain ⟨q, h1, h2, h3, h4⟩ := r.pen x hx
    have n : x.1 ≠ p := ne_of_none h2 h
    refine ⟨q, h1, by rw [upd_ne n]; exact h2, ?_, (le_put (G_free r h)).G _ _ h4⟩
    show upd W.G p o x.1 = none
    rw [upd_ne n]; exact h3
  penE := r.penE
  nid := r.nid
  idlt := fun i a e => by
    obtain ⟨h1, cl, dx, fs, h2⟩ := r.idlt i a e
    exact ⟨h1, cl, dx, fs, (le_put (G_free r h)).G _ _ h2⟩
  idinj := r.idinj
  envE := r.envE
  env := fun ρ e => (r.env ρ e).le (le_put (G_free r h))
theorem ext_put {C : Rc} {W : Wd} {st : Ms} {H : Hp} (r : Rel C W st H) {p : Addr} {o : HO} (h : H p = none) : Ext W H (W.put p o) (upd H p o) where
  le := le_put (G_free r h)
  keep := fun a u e _ => by rw [upd_ne (ne_of_none e h)]; exact e
  dom := fun a e => by
    by_cases q : a = p
    · rw [q]; exact h
    · rw [upd_ne q] at e; exact e
  newG := fun a u e => by
    have e' : upd W.G p o a = some u := e
    by_cases q : a = p
    · rw [q]; exact .inr h
    · rw [upd_ne q] at e'; exact .inl e'
  scr := rfl
/-- a new thing is laid that may change: it is known to nobody -/
theorem rel_own {C : Rc} {W : Wd} {st : Ms} {H : Hp} (r : Rel C W st H) {p : Addr} {o : HO} (h : H p = none) : Rel C W st (upd H p o) where
  sub := fun a u e => by
    have q := r.sub a u e
    rw [upd_ne (ne_of_none q h)]; exact q
  pen := fun x hx => by
    obtain ⟨q, h1, h2, h3, h4⟩ := r.pen x hx
    exact ⟨q, h1, by rw [upd_ne (ne_of_none h2 h)]; exact h2, h3, h4⟩
  penE := r.penE
  nid := r.nid
  idlt := r.idlt
  idinj := r.idinj
  envE := r.envE
  env := r.env
theorem ext_own {W : Wd} {H : Hp} {p : Addr} {o : HO} (h : H p = none) : Ext W H W (upd H p o) where
  le := .refl W
  keep := fun a u e _ => by rw [upd_ne (ne_of_none e h)]; exact e
  dom := fun a e => by
    by_cases q : a = p
    · rw [q]; exact h
    · rw [upd_ne q] at e; exact e
  newG := fun _ _ e => .inl e
  scr := rfl

/-! ### data that need no heap -/
def D.flat : D → Bool
  | .non => true
  | .bl _ => true
  | .int _ => true
  | .str _ => true
  | _ => false
theorem Rep.flat {C : Rc} {W W' : Wd} {d : D} {v : V} (h : d.flat = true) (r : Rep C W d v) : Rep C W' d v := by
  cases d <;> first | exact r | cases h

theorem Reps.length {C : Rc} {W : Wd} : ∀ {ds : List D} {vs : List V}, Reps C W ds vs → ds.length = vs.length
  | [], vs, r => by have e : vs = [] := r; subst e; rfl
  | d :: ds, vs, ⟨v, r, e, _, q⟩ => by subst e; simp [Reps.length q]
theorem Reps.nil {C : Rc} {W : Wd} : ∀ {ds : List D}, Reps C W ds [] → ds = []
  | [], _ => rfl
  | _ :: _, ⟨_, _, e, _⟩ => nomatch e
theorem Reps.append {C : Rc} {W : Wd} : ∀ {ds es : List D} {vs ws : List V}, Reps C W ds vs → Reps C W es ws → Reps C W (ds ++ es) (vs ++ ws)
  | [], _, vs, _, r, q => by have e : vs = [] := r; subst e; exact q
  | d :: ds, _, vs, _, ⟨v, r, e, p, t⟩, q => by subst e; exact ⟨v, _, rfl, p, Reps.append t q⟩
theorem Reps.get {C : Rc} {W : Wd} : ∀ {ds : List D} {vs : List V} {i : Nat} {d : D}, Reps C W ds vs → ds[i]? = some d → ∃ v, vs[i]? = some v ∧ Rep C W d v
  | [], _, _, _, _, h => by simp at h
  | d :: ds, vs, 0, _, ⟨v, r, e, p, _⟩, h => by subst e; simp at h; subst h; exact ⟨v, rfl, p⟩
  | d :: ds, vs, i + 1, x, ⟨v, r, e, _, t⟩, h => by
    subst e
    obtain ⟨w, h1, h2⟩ := Reps.get (i := i) t (by simpa using h)
    exact ⟨w, by simpa using h1, h2⟩
theorem Reps.get' {C : Rc} {W : Wd} : ∀ {ds : List D} {vs : List V} {i : Nat} {v : V}, Reps C W ds vs → vs[i]? = some v → ∃ d, ds[i]? = some d ∧ Rep C W d v
  | [], vs, _, _, r, h => by have e : vs = [] := r; subst e; simp at h
  | d :: ds, vs, 0, _, ⟨v, r, e, p, _⟩, h => by subst e; simp at h; subst h; exact ⟨d, rfl, p⟩
  | d :: ds, vs, i + 1, x, ⟨v, r, e, _, t⟩, h => by
    subst e
    obtain ⟨w, h1, h2⟩ := Reps.get' (i := i) t (by simpa using h)
    exact ⟨w, by simpa using h1, h2⟩
theorem Reps.take {C : Rc} {W : Wd} : ∀ (n : Nat) {ds : List D} {vs : List V}, Reps C W ds vs → Reps C W (ds.take n) (vs.take n)
  | 0, _, _, _ => by simp [Reps]
  | n + 1, [], vs, r => by have e : vs = [] := r; subst e; exact r
  | n + 1, d :: ds, vs, ⟨v, r, e, p, t⟩ => by subst e; exact ⟨v, _, rfl, p, Reps.take n t⟩
theorem Reps.drop {C : Rc} {W : Wd} : ∀ (n : Nat) {ds : List D} {vs : List V}, Reps C W ds vs → Reps C W (ds.drop n) (vs.drop n)
  | 0, _, _, r => r
  | n + 1, [], vs, r => by have e : vs = [] := r; subst e; exact r
  | n + 1, d :: ds, vs, ⟨v, r, e, p, t⟩ => by subst e; exact Reps.drop n t
theorem Reps.ints {C : Rc} {W : Wd} : ∀ {ns : List Int} {vs : List V}, Reps C W (ns.map D.int) vs → vs = ns.map V.int
  | [], vs, r => r
  | n :: ns, vs, ⟨v, r, e, p, t⟩ => by
    have e2 : v = .int n := p
    rw [e, e2, Reps.ints t]; rfl
theorem Reps.ofInts {C : Rc} {W : Wd} : ∀ (ns : List Int), Reps C W (ns.map D.int) (ns.map V.int)
  | [] => rfl
  | n :: ns => ⟨_, _, rfl, rfl, Reps.ofInts ns⟩
theorem Reps.bls {C : Rc} {W : Wd} : ∀ {ns : List Bool} {vs : List V}, Reps C W (ns.map D.bl) vs → vs = ns.map V.bl
  | [], vs, r => r
  | n :: ns, vs, ⟨v, r, e, p, t⟩ => by
    have e2 : v = .bl n := p
    rw [e, e2, Reps.bls t]; rfl
end Mp
set_option Elab.async false
set_option linter.all false
set_option maxRecDepth 100000
set_option maxHeartbeats 2000000
/-! MpEval: a small language and what its terms are worth, in plain Lean. -/
namespace Mp
open PySem PySem.Spec PyProof.Rows L2

/-- an error in the air: its class, its fields -/
structure Exc where
  cls : Str
  fs : List (Str × D)
inductive Out (α : Type) where
  | ok (a : α) (s : Ms)
  | ex (x : Exc) (s : Ms)
  | bad
def Out.bind {α β : Type} : Out α → (α → Ms → Out β) → Out β
  | .ok a s, f => f a s
  | .ex x s, _ => .ex x s
  | .bad, _ => .bad
def Out.nox {α : Type} : Out α → Out α
  | .ok a s => .ok a s
  | _ => .bad
def Out.opt {α : Type} (o : Option α) (s : Ms) : Out α := match o with
  | some a => .ok a s
  | none => .bad
@[simp] theorem Out.bind_ok {α β : Type} (a : α) (s : Ms) (f : α → Ms → Out β) : (Out.ok a s).bind f = f a s := rfl
@[simp] theorem Out.bind_ex {α β : Type} (x : Exc) (s : Ms) (f : α → Ms → Out β) : (Out.ex x s : Out α).bind f = .ex x s := rfl
@[simp] theorem Out.bind_bad {α β : Type} (f : α → Ms → Out β) : (Out.bad : Out α).bind f = .bad := rfl
@[simp] theorem Out.nox_ok {α : Type} (a : α) (s : Ms) : (Out.ok a s).nox = .ok a s := rfl
@[simp] theorem Out.nox_ex {α : Type} (x : Exc) (s : Ms) : (Out.ex x s : Out α).nox = .bad := rfl
@[simp] theorem Out.nox_bad {α : Type} : (Out.bad : Out α).nox = .bad := rfl
@[simp] theorem Out.opt_some {α : Type} (a : α) (s : Ms) : Out.opt (some a) s = .ok a s := rfl
@[simp] theorem Out.opt_none {α : Type} (s : Ms) : (Out.opt none s : Out α) = .bad := rfl
abbrev Den := List D → Ms → Out D
/-- the outcome, with what the law's names held before -/
def Out.envd {α : Type} (e : Option (List (Option D))) : Out α → Out α
  | .ok a s => .ok a { s with env := e }
  | .ex x s => .ex x { s with env := e }
  | .bad => .bad

/-- what the names of the text stand for: defs, constants, classes made, classes' methods, whether one class is another's -/
structure Gm where
  fn : Str → Option Den
  con : Str → Option D
  mke : Str → Option Den
  mkk : Str → List Str → Option Den
  meth : Str → Str → Option Den
  own : Str → Bool
  sub : Str → Str → Option Bool
  isT : Str → String → Option Bool
  idn : Str → Bool
  fld : Str → Str → Bool
  prim : Str → Option (List D → Option D) := fun _ => none
  lam : Nat → Option (List (Option D) → Ms → Out D) := fun _ => none

/-! ### the terms -/
/-- built-ins, by name -/
inductive Bi where
  | len | int | abs | sum | any | all | sorted | tuple | list | repr | min2 | max2 | lenset
  deriving DecidableEq
inductive Tg where
  | v (i : Nat)
  | t (is : List Nat)
/-- the class that isinstance asks for -/
inductive Ic where
  | ty (n : String)
  | own (c : Str)
mutual
inductive E where
  | lit (c : Const)
  | var (i : Nat)
  | con (x : Str)
  | tup (es : Es)
  | lst (es : Es)
  | bin (op : Operator) (a b : E)
  | neg (a : E)
  | inv (a : E)
  | not (a : E)
  | cmp (op : CmpOp) (a b : E)
  | chn (o1 o2 : CmpOp) (a b c : E)
  | and (es : Es)
  | or (es : Es)
  | ifx (t a b : E)
  | ix (a i : E)
  | slc (a : E) (lo hi : Oe)
  | lc (tg : Tg) (it : It) (c : Oe) (e : E)
  | bi (f : Bi) (es : Es)
  | call (f : Str) (es : Es)
  | mk (c : Str) (es : Es)
  | mkk (c : Str) (ks : List Str) (es : Es)
  | dic (k : Str) (e : E)
  | pnf (i : Nat) (k : Str)
  | fld (a : E) (f : Str)
  | isi (a : E) (c : Ic)
  | prim (n : Str) (es : Es)
  | act (i : Nat)
inductive Es where
  | nil
  | cons (e : E) (r : Es)
inductive It where
  | e (a : E)
  | rng1 (a : E)
  | rng2 (a b : E)
  | zip (a b : E)
inductive Oe where
  | no
  | yes (e : E)
end

/-! ### operations on data -/
def litD : Const → Option D
  | .none => some .non
  | .bool b => some (.bl b)
  | .int i => some (.int i)
  | .str x => some (.str x)
  | _ => none
def tru : D → Option Bool
  | .non => some false
  | .bl b => some b
  | .int i => some (i != 0)
  | .str x => if x.length ≤ sizeLine then some ((x.length : Int) != 0) else none
  | .tup xs => some !xs.isEmpty
  | .lst xs => some !xs.isEmpty
  | _ => none
mutual
def toPy : D → Option PyData
  | .non => some .none
  | .bl b => some (.bool b)
  | .int i => some (.int i)
  | .str x => some (.str x)
  | .tup xs => match toPys xs with
    | some ps => some (.tuple ps)
    | none => none
  | .lst xs => match toPys xs with
    | some ps => some (.list ps)
    | none => none
  | _ => none
def toPys : List D → Option (List PyData)
  | [] => some []
  | d :: ds => match toPy d, toPys ds with
    | some p, some ps => some (p :: ps)
    | _, _ => none
end
def keyPy : Key → PyData
  | .inl i => .int i
  | .inr x => .str x
mutual
/-- data as repr shows them, dicts among them -/
def toPyR : D → Option PyData
  | .non => some .none
  | .bl b => some (.bool b)
  | .int i => some (.int i)
  | .str x => some (.str x)
  | .tup xs => match toPyRs xs with
    | some ps => some (.tuple ps)
    | none => none
  | .lst xs => match toPyRs xs with
    | some ps => some (.list ps)
    | none => none
  | .dct xs => match toPyRk xs with
    | some ps => some (.dict ps)
    | none => none
  | _ => none
def toPyRs : List D → Option (List PyData)
  | [] => some []
  | d :: ds => match toPyR d, toPyRs ds with
    | some p, some ps => some (p :: ps)
    | _, _ => none
def toPyRk : List (Key × D) → Option (List (PyData × PyData))
  | [] => some []
  | (k, d) :: ds => match toPyR d, toPyRk ds with
    | some p, some ps => some ((keyPy k, p) :: ps)
    | _, _ => none
end
def eqD (d e : D) : Option Bool := match toPy d, toPy e with
  | some a, some b => if SeqAt.shaped a = true ∧ SeqAt.shaped b = true then some (PyData.eqv a b) else none
  | _, _ => none
def binI (op : Operator) (i j : Int) : Option D := match op with
  | .Add => some (.int (i + j))
  | .Sub => some (.int (i - j))
  | .Mult => if (-(2 ^ 64) < i ∧ i < 2 ^ 64) ∨ (-(2 ^ 64) < j ∧ j < 2 ^ 64) then some (.int (i * j)) else none
  | .FloorDiv => if 0 < j ∧ j < 1073741824 then some (.int (i / j)) else none
  | .Mod => if 0 < j then some (.int (i % j)) else none
  | .Pow => if 0 ≤ j ∧ j ≤ 1000000 ∧ i.natAbs < 2 ^ 64 then some (.int (i ^ j.toNat)) else none
  | .LShift => if 0 ≤ j ∧ j ≤ 1000000 ∧ i.natAbs < 2 ^ 64 then some (.int (i * 2 ^ j.toNat)) else none
  | .RShift => if 0 ≤ j then some (.int (i / 2 ^ j.toNat)) else none
  | .BitAnd => some (.int (Builtin.bitAnd i j))
  | .BitOr => some (.int (Builtin.bitOr i j))
  | .BitXor => some (.int (Builtin.bitXor i j))
  | _ => none
def binD (op : Operator) (a b : D) : Option D := match a, b with
  | .int i, .int j => binI op i j
  | .tup xs, .tup ys => match op with
    | .Add => if xs.length + ys.length ≤ sizeLine then some (.tup (xs ++ ys)) else none
    | _ => none
  | .lst xs, .lst ys => match op with
    | .Add => if xs.length + ys.length ≤ sizeLine then some (.lst (xs ++ ys)) else none
    | _ => none
  | _, _ => none
def inD (x y : D) : Option Bool := match y with
  | .lst ys => match toPy x, toPys ys with
    | some p, some ps => if SeqAt.shaped p = true ∧ SeqAt.shaped (.list ps) = true then some (ps.any fun z => PyData.eqv z p) else none
    | _, _ => none
  | .tup ys => match toPy x, toPys ys with
    | some p, some ps => if SeqAt.shaped p = true ∧ SeqAt.shaped (.tuple ps) = true then some (ps.any fun z => PyData.eqv z p) else none
    | _, _ => none
  | _ => none
def cmpD (op : CmpOp) (a b : D) : Option Bool := match op with
  | .Eq => eqD a b
  | .NotEq => (eqD a b).map (!·)
  | .Lt => match a, b with
    | .int i, .int j => some (decide (i < j))
    | _, _ => none
  | .LtE => match a, b with
    | .int i, .int j => some (decide (i ≤ j))
    | _, _ => none
  | .Gt => match a, b with
    | .int i, .int j => some (decide (j < i))
    | _, _ => none
  | .GtE => match a, b with
    | .int i, .int j => some (decide (j ≤ i))
    | _, _ => none
  | .Is => match a, b with
    | .non, .non => some true
    | .scr, .non => none
    | _, .non => some false
    | .bl x, .bl y => some (decide (x = y))
    | _, _ => none
  | .IsNot => match a, b with
    | .non, .non => some false
    | .scr, .non => none
    | _, .non => some true
    | .bl x, .bl y => some (!decide (x = y))
    | _, _ => none
  | .In => inD a b
  | .NotIn => (inD a b).map (!·)
def itemsD : D → Option (List D)
  | .tup xs => some xs
  | .lst xs => some xs
  | _ => none
def ixD (a i : D) : Option D := match itemsD a, i with
  | some xs, .int k => atI xs k
  | _, _ => none
def cutD (xs : List D) (lo hi : Option Int) : List D := (xs.drop (HT.sIx xs.length 0 lo)).take (HT.sIx xs.length xs.length hi - HT.sIx xs.length 0 lo)
def slcD (a : D) (lo hi : Option Int) : Option D := match a with
  | .lst xs => some (.lst (cutD xs lo hi))
  | .tup xs => some (.tup (cutD xs lo hi))
  | _ => none
def intsD : List D → Option (List Int)
  | [] => some []
  | .int i :: r => (intsD r).map (i :: ·)
  | _ :: _ => none
def blsD : List D → Option (List Bool)
  | [] => some []
  | .bl b :: r => (blsD r).map (b :: ·)
  | _ :: _ => none
def insI (x : Int) : List Int → List Int
  | [] => [x]
  | y :: ys => if x ≤ y then x :: y :: ys else y :: insI x ys
def sortI : List Int → List Int
  | [] => []
  | x :: xs => insI x (sortI xs)
def biD (f : Bi) (ds : List D) : Option D := match f, ds with
  | .len, [.tup xs] => some (.int xs.length)
  | .len, [.lst xs] => some (.int xs.length)
  | .len, [.str x] => if x.length ≤ sizeLine then some (.int x.length) else none
  | .int, [.int i] => some (.int i)
  | .int, [.bl b] => some (.int (if b then 1 else 0))
  | .abs, [.int i] => some (.int (if i < 0 then -i else i))
  | .sum, [.lst xs] => match intsD xs with
    | some ns => some (.int ns.sum)
    | none => none
  | .any, [.lst xs] => match blsD xs with
    | some ns => some (.bl (ns.any id))
    | none => none
  | .all, [.lst xs] => match blsD xs with
    | some ns => some (.bl (ns.all id))
    | none => none
  | .tuple, [.tup xs] => some (.tup xs)
  | .tuple, [.lst xs] => some (.tup xs)
  | .list, [.tup xs] => some (.lst xs)
  | .list, [.lst xs] => some (.lst xs)
  | .min2, [.int i, .int j] => some (.int (if j < i then j else i))
  | .max2, [.int i, .int j] => some (.int (if j > i then j else i))
  | .repr, [d] => match toPyR d with
    | some p => if p.showable = true ∧ p.shown.length ≤ sizeLine ∧ p.depth ≤ 64 then some (.str p.shown) else none
    | none => none
  | _, _ => none
/-- the built-in type's name -/
def tyD : D → Option String
  | .non => some "NoneType"
  | .bl _ => some "bool"
  | .int _ => some "int"
  | .str _ => some "str"
  | .tup _ => some "tuple"
  | .lst _ => some "list"
  | .dct _ => some "dict"
  | _ => none
def isiO (Γ : Gm) (c' : Str) (c : Ic) : Option Bool := if Γ.own c' = true then (match c with
    | .own c => Γ.sub c' c
    | .ty n => Γ.isT c' n) else none
def isiB (Γ : Gm) (m : String) (c : Ic) : Option Bool := match c with
  | .ty n => kitB m n
  | .own c => if Γ.own c = true then some false else none
def isiD (Γ : Gm) (d : D) (c : Ic) : Option Bool := match d with
  | .ins c' _ _ => isiO Γ c' c
  | d => match tyD d with
    | some m => isiB Γ m c
    | none => none
def icOk (Γ : Gm) : Ic → Bool
  | .own c => Γ.own c
  | .ty _ => true
/-- what the drawing dict holds at a name -/
def penGet (k : Str) (p : Pen) : Option D :=
  if k = "cells" then some (.lst (p.cells.map .int)) else if k = "at" then some (.int p.at_) else if k = "digits" then some (.int p.digits) else if k = "count" then some (.int p.count) else if k = "fold" then some (.int p.fold) else none
def penSet (k : Str) (d : D) (p : Pen) : Option Pen := match d with
  | .int n => if k = "at" then some { p with at_ := n } else if k = "digits" then some { p with digits := n } else if k = "count" then some { p with count := n } else if k = "fold" then some { p with fold := n } else none
  | _ => none
def fldD (Γ : Gm) (d : D) (f : Str) : Option D := match d with
  | .ins c _ fs => if Γ.fld c f = true then fs.lookup f else none
  | _ => none
def putAll : List Nat → List D → List (Option D) → Option (List (Option D))
  | [], [], ρ => some ρ
  | i :: is, d :: ds, ρ => putAll is ds (ρ.set i (some d))
  | _, _, _ => none
def bindT (t : Tg) (d : D) (ρ : List (Option D)) : Option (List (Option D)) := match t with
  | .v i => some (ρ.set i (some d))
  | .t is => match d with
    | .tup xs => putAll is xs ρ
    | .lst xs => putAll is xs ρ
    | _ => none
def Tg.slots : Tg → List Nat
  | .v i => [i]
  | .t is => is
/-- a comprehension's turns -/
def loopL (f : D → Ms → Out (Option D)) : List D → Ms → Out (List D)
  | [], s => .ok [] s
  | d :: ds, s => (f d s).bind fun o s1 => (loopL f ds s1).bind fun r s2 => .ok (match o with
    | some x => x :: r
    | none => r) s2
def rngD (lo : Int) (n : Nat) : List D := (List.range n).map fun i => D.int (lo + (i : Nat))
def bnd62 (i : Int) : Bool := decide (-(2 ^ 62) ≤ i ∧ i < 2 ^ 62)
/-- what an own equality is asked of -/
def cmpB (c : Str) (b : D) : Bool := match b with
  | .ins c' _ _ => decide (c' = c)
  | d => (tyD d).isSome
/-- the equality of objects -/
def eqO (Γ : Gm) (a b : D) (s : Ms) : Out Bool := match a with
  | .ins c i _ => if Γ.idn c = true then (match b with
      | .ins c' j _ => if Γ.idn c' = true ∧ i ≠ 0 ∧ j ≠ 0 then .ok (decide (i = j)) s else .bad
      | _ => .bad) else match Γ.meth c "__eq__" with
      | some m => if cmpB c b = true then (m [a, b] s).bind fun d s1 => match d with
        | .bl k => .ok k s1
        | _ => .bad else .bad
      | none => .bad
  | _ => Out.opt (eqD a b) s
def neO (Γ : Gm) (a b : D) (s : Ms) : Out Bool := match a with
  | .ins c i _ => if Γ.idn c = true then (match b with
      | .ins c' j _ => if Γ.idn c' = true ∧ i ≠ 0 ∧ j ≠ 0 then .ok (!decide (i = j)) s else .bad
      | _ => .bad) else match Γ.meth c "__ne__" with
      | some m => if cmpB c b = true then (m [a, b] s).bind fun d s1 => match d with
        | .bl k => .ok k s1
        | _ => .bad else .bad
      | none => .bad
  | _ => Out.opt ((eqD a b).map (!·)) s
def cmpO (Γ : Gm) (op : CmpOp) (a b : D) (s : Ms) : Out Bool := match op with
  | .Eq => eqO Γ a b s
  | .NotEq => neO Γ a b s
  | op => Out.opt (cmpD op a b) s

mutual
def ev (Γ : Gm) : E → List (Option D) → Ms → Out D
  | .lit c, _, s => Out.opt (litD c) s
  | .var i, ρ, s => Out.opt ((ρ[i]?).join) s
  | .con x, _, s => Out.opt (Γ.con x) s
  | .tup es, ρ, s => (evs Γ es ρ s).bind fun ds s => if ds.length ≤ sizeLine then .ok (.tup ds) s else .bad
  | .lst es, ρ, s => (evs Γ es ρ s).bind fun ds s => if ds.length ≤ sizeLine then .ok (.lst ds) s else .bad
  | .bin op a b, ρ, s => (ev Γ a ρ s).bind fun x s => (ev Γ b ρ s).bind fun y s => Out.opt (binD op x y) s
  | .neg a, ρ, s => (ev Γ a ρ s).bind fun x s => match x with
    | .int i => .ok (.int (-i)) s
    | _ => .bad
  | .inv a, ρ, s => (ev Γ a ρ s).bind fun x s => match x with
    | .int i => .ok (.int (Builtin.bitNot i)) s
    | _ => .bad
  | .not a, ρ, s => (ev Γ a ρ s).bind fun x s => (Out.opt (tru x) s).bind fun k s => .ok (.bl (!k)) s
  | .cmp op a b, ρ, s => (ev Γ a ρ s).bind fun x s => (ev Γ b ρ s).bind fun y s => (cmpO Γ op x y s).bind fun k s => .ok (.bl k) s
  | .chn o1 o2 a b c, ρ, s => (ev Γ a ρ s).bind fun x s => (ev Γ b ρ s).bind fun y s => (Out.opt (cmpD o1 x y) s).bind fun k s =>
    if k = true then (ev Γ c ρ s).bind fun z s => (Out.opt (cmpD o2 y z) s).bind fun k s => .ok (.bl k) s else .ok (.bl false) s
  | .and es, ρ, s => evAnd Γ es ρ s
  | .or es, ρ, s => evOr Γ es ρ s
  | .ifx t a b, ρ, s => (ev Γ t ρ s).bind fun x s => (Out.opt (tru x) s).bind fun k s => if k = true then ev Γ a ρ s else ev Γ b ρ s
  | .ix a i, ρ, s => (ev Γ a ρ s).bind fun x s => (ev Γ i ρ s).bind fun y s => Out.opt (ixD x y) s
  | .slc a lo hi, ρ, s => (ev Γ a ρ s).bind fun x s => (evo Γ lo ρ s).bind fun l s => (evo Γ hi ρ s).bind fun h s => Out.opt (slcD x l h) s
  | .lc tg it c e, ρ, s => (evi Γ it ρ s).bind fun xs s => (loopL (fun d s => (match bindT tg d ρ with
    | none => Out.bad
    | some ρ' => (evc Γ c ρ' s).bind fun k s => if k = true then (ev Γ e ρ' s).bind fun x s => .ok (some x) s else .ok none s).nox) xs s).bind fun ds s => if ds.length ≤ sizeLine then .ok (.lst ds) s else .bad
  | .bi f es, ρ, s => (evs Γ es ρ s).bind fun ds s => Out.opt (biD f ds) s
  | .call f es, ρ, s => match Γ.fn f with
    | some d => (evs Γ es ρ s).bind d
    | none => .bad
  | .mk c es, ρ, s => match Γ.mke c with
    | some d => (evs Γ es ρ s).bind d
    | none => .bad
  | .mkk c ks es, ρ, s => match Γ.mkk c ks with
    | some d => (evs Γ es ρ s).bind d
    | none => .bad
  | .dic k e, ρ, s => (ev Γ e ρ s).bind fun x s => .ok (.dct [(.inr k, x)]) s
  | .pnf i k, ρ, s => match (ρ[i]?).join with
    | some .pen => Out.opt (s.pen.bind (penGet k)) s
    | _ => .bad
  | .fld a f, ρ, s => (ev Γ a ρ s).bind fun x s => Out.opt (fldD Γ x f) s
  | .isi a c, ρ, s => if icOk Γ c = true then (ev Γ a ρ s).bind fun x s => (Out.opt (isiD Γ x c) s).bind fun k s => .ok (.bl k) s else .bad
  | .prim n es, ρ, s => match Γ.prim n with
    | some f => (evs Γ es ρ s).bind fun ds s => Out.opt (f ds) s
    | none => .bad
  | .act i, ρ, s => match (ρ[i]?).join with
    | some (.lam k) => (match s.env, Γ.lam k with
      | some e, some f => Out.envd (some e) (f e { s with env := none })
      | _, _ => .bad)
    | _ => .bad
def evs (Γ : Gm) : Es → List (Option D) → Ms → Out (List D)
  | .nil, _, s => .ok [] s
  | .cons e r, ρ, s => (ev Γ e ρ s).bind fun x s => (evs Γ r ρ s).bind fun xs s => .ok (x :: xs) s
def evi (Γ : Gm) : It → List (Option D) → Ms → Out (List D)
  | .e a, ρ, s => (ev Γ a ρ s).bind fun x s => Out.opt (itemsD x) s
  | .rng1 a, ρ, s => (ev Γ a ρ s).bind fun x s => match x with
    | .int i => if bnd62 i = true then .ok (rngD 0 i.toNat) s else .bad
    | _ => .bad
  | .rng2 a b, ρ, s => (ev Γ a ρ s).bind fun x s => (ev Γ b ρ s).bind fun y s => match x, y with
    | .int i, .int j => if bnd62 i = true ∧ bnd62 j = true then .ok (rngD i (j - i).toNat) s else .bad
    | _, _ => .bad
  | .zip a b, ρ, s => (ev Γ a ρ s).bind fun x s => (ev Γ b ρ s).bind fun y s => match x, y with
    | .tup xs, .tup ys => .ok ((xs.zip ys).map fun p => D.tup [p.1, p.2]) s
    | .lst xs, .lst ys => .ok ((xs.zip ys).map fun p => D.tup [p.1, p.2]) s
    | _, _ => .bad
def evAnd (Γ : Gm) : Es → List (Option D) → Ms → Out D
  | .nil, _, _ => .bad
  | .cons e r, ρ, s => (ev Γ e ρ s).bind fun x s => match r with
    | .nil => .ok x s
    | .cons _ _ => (Out.opt (tru x) s).bind fun k s => if k = true then evAnd Γ r ρ s else .ok x s
def evOr (Γ : Gm) : Es → List (Option D) → Ms → Out D
  | .nil, _, _ => .bad
  | .cons e r, ρ, s => (ev Γ e ρ s).bind fun x s => match r with
    | .nil => .ok x s
    | .cons _ _ => (Out.opt (tru x) s).bind fun k s => if k = true then .ok x s else evOr Γ r ρ s
/-- a slice's end -/
def evo (Γ : Gm) : Oe → List (Option D) → Ms → Out (Option Int)
  | .no, _, s => .ok none s
  | .yes e, ρ, s => (ev Γ e ρ s).bind fun x s => match x with
    | .int i => .ok (some i) s
    | _ => .bad
/-- a comprehension's test -/
def evc (Γ : Gm) : Oe → List (Option D) → Ms → Out Bool
  | .no, _, s => .ok true s
  | .yes e, ρ, s => (ev Γ e ρ s).bind fun x s => Out.opt (tru x) s
end
end Mp
set_option Elab.async false
set_option linter.all false
set_option maxRecDepth 100000
set_option maxHeartbeats 2000000
/-! MpMatch: which text a term stands for. -/
namespace Mp
open PySem PySem.Spec PyProof.Rows L2

def Bi.name : Bi → Str
  | .len => "len"
  | .int => "int"
  | .abs => "abs"
  | .sum => "sum"
  | .any => "any"
  | .all => "all"
  | .sorted => "sorted"
  | .tuple => "tuple"
  | .list => "list"
  | .repr => "repr"
  | .min2 => "min"
  | .max2 => "max"
  | .lenset => "len"
/-- the built-in names that the terms lean on -/
def freeNames : List Str := ["len", "int", "abs", "sum", "any", "all", "sorted", "tuple", "list", "repr", "min", "max", "isinstance", "range", "zip", "bool", "str", "dict", "set"]
/-- no written form that the machine takes apart on its own -/
def plainX : Expr → Bool
  | .Starred _ _ => false
  | .Set _ _ _ => false
  | .Slice _ _ _ _ => false
  | _ => true
def visB (sc : Scope) (x : Str) : Bool := decide (sc.names.lookup x = some .local) || decide (sc.names.lookup x = some .cell) || decide (sc.names.lookup x = some .free)
def locB (sc : Scope) (x : Str) : Bool := decide (sc.names.lookup x = some .local) || decide (sc.names.lookup x = some .cell)
def glB (sc : Scope) (x : Str) : Bool := decide (sc.names.lookup x = some .globalImplicit) && !(x == ("__debug__" : Str)) && !(x == ("__name__" : Str))
/-- a name that is read -/
def rdB (N : List Str) (sc : Scope) (i : Nat) (x : Str) : Bool := decide (N[i]? = some x) && visB sc x && !(x == ("__debug__" : Str)) && !(x == ("__classdict__" : Str))
theorem rd_of {N : List Str} {sc : Scope} {i : Nat} {x : Str} (h : rdB N sc i x = true) : N[i]? = some x ∧ visB sc x = true ∧ (x == ("__debug__" : Str)) = false ∧ (x == ("__classdict__" : Str)) = false := by
  unfold rdB at h
  simp only [Bool.and_eq_true, decide_eq_true_eq, Bool.not_eq_true'] at h
  exact ⟨h.1.1.1, h.1.1.2, h.1.2, h.2⟩
/-- a target's names -/
def Tg.own (N : List Str) (t : Tg) : List (Str × Nat) := t.slots.map fun i => (N.getD i Str.empty, i)
def mtTg1 (N : List Str) (sc : Scope) (i : Nat) : Expr → Bool
  | .Name x _ => decide (N[i]? = some x) && locB sc x
  | _ => false
def mtTgs (N : List Str) (sc : Scope) : List Nat → List Expr → Bool
  | [], [] => true
  | i :: is, e :: es => mtTg1 N sc i e && mtTgs N sc is es
  | _, _ => false
def mtTg (N : List Str) (sc : Scope) (t : Tg) (e : Expr) : Bool := match t with
  | .v i => mtTg1 N sc i e
  | .t is => match e with
    | .Tuple es _ _ => mtTgs N sc is es && decide is.Nodup
    | _ => false
def baseB : Expr → Bool
  | .Call (.Name _ _) [] [] _ => false
  | _ => true
/-- further forms, by name: what they are made of -/
def primM (sc : Scope) (n : Str) : Expr → Option (List Expr)
  | .Call (.Name f _) [a, .Tuple [.Name x _, .Name y _] _ _] [] _ => if n = ("isiTL" : Str) ∧ f = ("isinstance" : Str) ∧ x = ("tuple" : Str) ∧ y = ("list" : Str) ∧ glB sc f = true ∧ glB sc x = true ∧ glB sc y = true then some [a] else none
  | .Call (.Name f _) [.Call (.Name g _) [a] [] _] [] _ => if n = ("lenset" : Str) ∧ f = ("len" : Str) ∧ g = ("set" : Str) ∧ glB sc f = true ∧ glB sc g = true then some [a] else none
  | .Call (.Name f _) [a] [] _ => if n = ("sorted" : Str) ∧ f = ("sorted" : Str) ∧ glB sc f = true then some [a] else none
  | .Dict [] [] _ => if n = ("dict0" : Str) then some [] else none
  | _ => none
mutual
def mt (N : List Str) : Scope → E → Expr → Bool
  | _, .lit c, .Constant c' _ _ => decide (c = c')
  | sc, .var i, .Name x _ => decide (N[i]? = some x) && visB sc x && !(x == ("__debug__" : Str)) && !(x == ("__classdict__" : Str))
  | sc, .con x, .Name y _ => decide (x = y) && glB sc y
  | sc, .tup es, .Tuple xs _ _ => mts N sc es xs
  | sc, .lst es, .List xs _ => mts N sc es xs
  | sc, .bin op a b, .BinOp x op' y _ => decide (op = op') && mt N sc a x && mt N sc b y
  | sc, .neg a, .UnaryOp .USub x _ => mt N sc a x
  | sc, .inv a, .UnaryOp .Invert x _ => mt N sc a x
  | sc, .not a, .UnaryOp .Not x _ => mt N sc a x
  | sc, .cmp op a b, .Compare x [op'] [y] _ => decide (op = op') && mt N sc a x && mt N sc b y
  | sc, .chn o1 o2 a b c, .Compare x [o1', o2'] [y, z] _ => decide (o1 = o1') && decide (o2 = o2') && mt N sc a x && mt N sc b y && mt N sc c z
  | sc, .and es, .BoolOp .And xs _ => mts N sc es xs
  | sc, .or es, .BoolOp .Or xs _ => mts N sc es xs
  | sc, .ifx t a b, .IfExp x y z _ => mt N sc t x && mt N sc a y && mt N sc b z
  | sc, .ix a i, .Subscript x y _ => mt N sc a x && mt N sc i y
  | sc, .slc a lo hi, .Subscript x (.Slice l h none _) _ => mt N sc a x && mto N sc lo l && mto N sc hi h
  | sc, .lc tg it c e, .ListComp elt [⟨t, i, ifs, as⟩] scope _ =>
    decide (as = 0) && mti N sc it t i && mtTg N scope tg t && blkC N sc scope (tg.own N) && mtc N (relS scope sc) c ifs && mt N (relS scope sc) e elt
  | sc, .bi f es, .Call (.Name x _) (y :: ys) [] _ => decide (x = f.name) && glB sc x && mts N sc es (y :: ys)
  | sc, .call f es, .Call (.Name x _) ys [] _ => decide (x = f) && glB sc x && mts N sc es ys
  | sc, .mk c es, .Call (.Name x _) ys [] _ => decide (x = c) && glB sc x && mts N sc es ys
  | sc, .mkk c ks es, .Call (.Name x _) [] kws _ => decide (x = c) && glB sc x && decide (ks ≠ []) && mtk N sc ks es kws
  | sc, .dic k e, .Dict [some (.Constant (.str k') _ _)] [v] _ => decide (k = k') && mt N sc e v
  | sc, .pnf i k, .Subscript (.Name x _) (.Constant (.str k') _ _) _ => decide (k = k') && rdB N sc i x
  | sc, .fld a f, .Attribute x f' _ => decide (f = f') && mt N sc a x && baseB x
  | sc, .isi a c, .Call (.Name x _) [y, .Name z _] [] _ => decide (x = ("isinstance" : Str)) && glB sc x && mt N sc a y && glB sc z && (match c with
    | .ty n => decide (z ∈ freeNames) && decide (bootBuiltins z = some (.type n))
    | .own c => decide (z = c))
  | sc, .prim n es, e => match primM sc n e with
    | some args => mts N sc es args && plainX e
    | none => false
  | sc, .act i, .Call (.Name x _) [] [] _ => rdB N sc i x
  | _, _, _ => false
def mts (N : List Str) : Scope → Es → List Expr → Bool
  | _, .nil, [] => true
  | sc, .cons e r, x :: xs => mt N sc e x && mts N sc r xs
  | _, _, _ => false
def mtk (N : List Str) : Scope → List Str → Es → List Keyword → Bool
  | _, [], .nil, [] => true
  | sc, k :: ks, .cons e r, ⟨some k', x, _⟩ :: xs => decide (k = k') && mt N sc e x && mtk N sc ks r xs
  | _, _, _, _ => false
/-- t: the target that it is walked for -/
def mti (N : List Str) : Scope → It → Expr → Expr → Bool
  | sc, .e a, _, x => mt N sc a x
  | sc, .rng1 a, _, .Call (.Name x _) [y] [] _ => decide (x = ("range" : Str)) && glB sc x && mt N sc a y
  | sc, .rng2 a b, _, .Call (.Name x _) [y, z] [] _ => decide (x = ("range" : Str)) && glB sc x && mt N sc a y && mt N sc b z
  | sc, .zip a b, .Tuple _ _ _, .Call (.Name x _) [y, z] [] _ => decide (x = ("zip" : Str)) && glB sc x && mt N sc a y && mt N sc b z
  | _, _, _, _ => false
def mto (N : List Str) : Scope → Oe → Option Expr → Bool
  | _, .no, none => true
  | sc, .yes e, some x => mt N sc e x
  | _, _, _ => false
def mtc (N : List Str) : Scope → Oe → List Expr → Bool
  | _, .no, [] => true
  | sc, .yes e, [x] => mt N sc e x
  | _, _, _ => false
end
theorem mt_plain {N : List Str} {sc : Scope} {m : E} {e : Expr} (h : mt N sc m e = true) : plainX e = true := by
  cases e <;> first | rfl | (cases m <;> first | (simp [mt] at h; done) | (simp only [mt] at h; split at h <;> first | (cases h; done) | (simp [plainX] at h; done)))

section
variable {e : Expr} {es : List Expr} {env : Env}
theorem plain_star (h : plainX e = true) : starEach (e :: es) env = (false, eval e env) :: starEach es env := by
  cases e <;> first | rfl | cases h
theorem plain_ix (h : plainX e = true) : PlainIx e := fun o i => by
  cases e <;> first | rfl | cases h
theorem plain_behind (h : plainX e = true) (op : CmpOp) : behindInMarks op e = false := by
  cases e <;> first | rfl | cases h
theorem plain_set (h : plainX e = true) (x : Value) : foldedSetIterable e env x = pure x := by
  cases e <;> first | rfl | cases h
theorem mts_plain {N : List Str} {sc : Scope} : ∀ {m : Es} {es : List Expr}, mts N sc m es = true → ∀ x ∈ es, plainX x = true
  | .nil, [], _, x, hx => by cases hx
  | .nil, _ :: _, h, _, _ => by simp [mts] at h
  | .cons _ _, [], h, _, _ => by simp [mts] at h
  | .cons m r, e :: es, h, x, hx => by
    simp only [mts, Bool.and_eq_true] at h
    rcases List.mem_cons.mp hx with q | q
    · rw [q]; exact mt_plain h.1
    · exact mts_plain h.2 x q
theorem stars_plain : ∀ {es : List Expr}, (∀ x ∈ es, plainX x = true) → starEach es env = es.map fun e => (false, eval e env)
  | [], _ => rfl
  | e :: es, h => by rw [plain_star (h e List.mem_cons_self), stars_plain fun x hx => h x (List.mem_cons_of_mem _ hx)]; rfl
theorem stars_any {es : List Expr} {pos : Pos} (h : ∀ x ∈ es, plainX x = true) : (backTo pos (starEach es env)).any (·.1) = false := by
  rw [stars_plain h]
  unfold backTo
  rw [List.any_eq_false]
  intro p hp
  obtain ⟨q, hq, e⟩ := List.mem_map.mp hp
  obtain ⟨x, _, e2⟩ := List.mem_map.mp hq
  rw [← e, ← e2]
  exact Bool.false_ne_true
end
theorem base_of {o : Expr} {f : Str} {env : Env} {w : Sem Value} (h : baseB o = true) : attributeBase o f env w = w := by
  unfold attributeBase
  split
  · cases h
  · rfl
end Mp
set_option Elab.async false
set_option linter.all false
set_option maxRecDepth 100000
set_option maxHeartbeats 2000000
/-! MpSnd1: readings of the terms; operators. -/
namespace Mp
open PySem PySem.Spec PyProof.Rows L2
abbrev Sg := L2.St

theorem PE.imp {X : Cx} {e : Expr} {t t' : TE} (h : PE X e t) (i : ∀ σ H Q, t' σ H Q → t σ H Q) : PE X e t' := ⟨fun pins s σ H Q I q => h.run pins s σ H Q I (i σ H Q q)⟩
theorem PT.imp {X : Cx} {e : Expr} {t t' : TT} (h : PT X e t) (i : ∀ σ H Q, t' σ H Q → t σ H Q) : PT X e t' := ⟨fun pins s σ H Q I q => h.run pins s σ H Q I (i σ H Q q)⟩
theorem PA.imp {X : Cx} {e : List Expr} {t t' : TA} (h : PA X e t) (i : ∀ σ H Q, t' σ H Q → t σ H Q) : PA X e t' := ⟨fun pos pins s σ H Q I q => h.run pos pins s σ H Q I (i σ H Q q)⟩
theorem PI.imp {X : Cx} {tg e : Expr} {t t' : TI} (h : PI X tg e t) (i : ∀ σ H R, t' σ H R → t σ H R) : PI X tg e t' := ⟨fun pins s σ H R I q => h.run pins s σ H R I (i σ H R q)⟩

/-- an error as it lies -/
def RepX (C : Rc) (W : Wd) (x : Exc) (cls : Value) (dx : Option Addr) (H : Hp) : Prop :=
  ∃ cl d vs, cls = .ref cl ∧ C.mg x.cls = some (.ref cl) ∧ dx = some d ∧ H d = some (.xd vs) ∧ RepF C W x.fs vs
/-- what is to hold of an outcome: of a value R, of an error the wish -/
def OQ {α : Type} (C : Rc) (Wx : XK) (W : Wd) (H : Hp) (R : α → Ms → Wd → Hp → Prop) : Out α → Prop
  | .ok a s => ∀ W' H', Ext W H W' H' → Rel C W' s H' → R a s W' H'
  | .ex x s => ∀ cls dx W' H', Ext W H W' H' → Rel C W' s H' → RepX C W' x cls dx H' → Wx cls dx H'
  | .bad => False
section
variable {α β : Type} {C : Rc} {Wx : XK} {W W' : Wd} {H H' : Hp}
theorem OQ.mono {R : α → Ms → Wd → Hp → Prop} : ∀ {o : Out α}, OQ C Wx W H R o → Ext W H W' H' → OQ C Wx W' H' R o
  | .ok _ _, h, e => fun W2 H2 e2 r2 => h W2 H2 (e.trans e2) r2
  | .ex _ _, h, e => fun c d W2 H2 e2 r2 x => h c d W2 H2 (e.trans e2) r2 x
  | .bad, h, _ => h
theorem OQ.imp {R R' : α → Ms → Wd → Hp → Prop} : ∀ {o : Out α}, OQ C Wx W H R o → (∀ a s W' H', Ext W H W' H' → Rel C W' s H' → R a s W' H' → R' a s W' H') → OQ C Wx W H R' o
  | .ok _ _, h, i => fun W2 H2 e2 r2 => i _ _ _ _ e2 r2 (h W2 H2 e2 r2)
  | .ex _ _, h, _ => h
  | .bad, h, _ => h
theorem OQ.bind {R : β → Ms → Wd → Hp → Prop} {f : α → Ms → Out β} : ∀ {o : Out α}, OQ C Wx W H R (o.bind f) → OQ C Wx W H (fun a s W' H' => OQ C Wx W' H' R (f a s)) o
  | .ok _ _, h => fun _ _ e _ => OQ.mono h e
  | .ex _ _, h => h
  | .bad, h => h
theorem OQ.opt {R : α → Ms → Wd → Hp → Prop} {o : Option α} {s : Ms} (h : OQ C Wx W H R (Out.opt o s)) : ∃ a, o = some a ∧ ∀ W' H', Ext W H W' H' → Rel C W' s H' → R a s W' H' := by
  cases o with
  | none => exact False.elim h
  | some a => exact ⟨a, rfl, h⟩
theorem OQ.nox {R : α → Ms → Wd → Hp → Prop} : ∀ {o : Out α}, OQ C Wx W H R o.nox → ∀ Wx', OQ C Wx' W H R o
  | .ok _ _, h, _ => h
  | .ex _ _, h, _ => False.elim h
  | .bad, h, _ => False.elim h
end

theorem OQ.bind0 {α β : Type} {C : Rc} {Wx : XK} {W0 : Wd} {H0 : Hp} {R : β → Ms → Wd → Hp → Prop} {f : α → Ms → Out β} : ∀ {o : Out α}, OQ C Wx W0 H0 R (o.bind f) → OQ C Wx W0 H0 (fun a s _ _ => OQ C Wx W0 H0 R (f a s)) o
  | .ok _ _, h => fun _ _ _ _ => h
  | .ex _ _, h => h
  | .bad, h => h
/-- the slots hold what the names are worth -/
structure Slots (C : Rc) (W : Wd) (ρ : List (Option D)) (σ : Sg) : Prop where
  len : ρ.length = σ.length
  at_ : ∀ (i : Nat) (d : D), ρ[i]? = some (some d) → ∃ v, σ[i]? = some (some v) ∧ Rep C W d v
theorem Slots.le {C : Rc} {W W' : Wd} {ρ : List (Option D)} {σ : Sg} (s : Slots C W ρ σ) (h : Le W W') : Slots C W' ρ σ :=
  ⟨s.len, fun i d e => let ⟨v, h1, h2⟩ := s.at_ i d e; ⟨v, h1, Rep.le h d v h2⟩⟩
theorem Slots.set {C : Rc} {W : Wd} {ρ : List (Option D)} {σ : Sg} (s : Slots C W ρ σ) (i : Nat) {d : D} {v : V} (r : Rep C W d v) : Slots C W (ρ.set i (some d)) (σ.set i (some v)) := by
  refine ⟨by simp [s.len], fun j e q => ?_⟩
  by_cases hj : i = j
  · subst hj
    by_cases hi : i < ρ.length
    · rw [List.getElem?_set_self hi] at q
      cases q
      exact ⟨v, List.getElem?_set_self (by rw [← s.len]; exact hi), r⟩
    · rw [List.getElem?_eq_none (by simpa using hi)] at q
      cases q
  · rw [List.getElem?_set_ne hj] at q ⊢
    exact s.at_ j e q
/-- what is wished of a value -/
abbrev RD (C : Rc) (Q : VK) : D → Ms → Wd → Hp → Prop := fun d _ W H => ∀ v, Rep C W d v → Q v H
/-- a term's reading -/
def tEv (C : Rc) (Γ : Gm) (Wx : XK) (m : E) : TE := fun σ H Q => ∃ W st ρ, Slots C W ρ σ ∧ Rel C W st H ∧ OQ C Wx W H (RD C Q) (ev Γ m ρ st)
def tEvs (C : Rc) (Γ : Gm) (Wx : XK) (m : Es) : TA := fun σ H Q => ∃ W st ρ, Slots C W ρ σ ∧ Rel C W st H ∧ OQ C Wx W H (fun ds _ W' H' => ∀ vs, Reps C W' ds vs → Q vs H') (evs Γ m ρ st)
def tEvT (C : Rc) (Γ : Gm) (Wx : XK) (m : E) : TT := fun σ H Q => ∃ W st ρ, Slots C W ρ σ ∧ Rel C W st H ∧ OQ C Wx W H (fun k _ _ H' => Q k H') ((ev Γ m ρ st).bind fun x s => Out.opt (tru x) s)

/-! ### truth -/
theorem tru_rep {C : Rc} {W : Wd} {st : Ms} {H : Hp} (r : Rel C W st H) {d : D} {v : V} {k : Bool} (h : tru d = some k) (p : Rep C W d v) : TruV C.K v H k := by
  cases d with
  | non =>
    have e : v = .non := p
    subst e
    exact (Option.some.inj h).symm
  | bl b =>
    have e : v = .bl b := p
    subst e
    exact (Option.some.inj h).symm
  | int i =>
    have e : v = .int i := p
    subst e
    exact (Option.some.inj h).symm
  | str x =>
    have e : v = .str x := p
    subst e
    have h' : (if x.length ≤ sizeLine then some ((x.length : Int) != 0) else none) = some k := h
    split at h'
    · rename_i hz
      exact ⟨hz, (Option.some.inj h').symm⟩
    · cases h'
  | tup xs =>
    obtain ⟨a, vs, e, s, q⟩ := p
    subst e
    have ek : (!xs.isEmpty) = k := Option.some.inj h
    refine .inr (.inl ⟨vs, sqT_le r.sub s, ?_⟩)
    rw [← ek]
    cases xs with
    | nil => have z : vs = [] := q; subst z; rfl
    | cons x xs => obtain ⟨_, _, z, _⟩ := q; subst z; rfl
  | lst xs =>
    obtain ⟨a, vs, e, s, q⟩ := p
    subst e
    have ek : (!xs.isEmpty) = k := Option.some.inj h
    refine .inl ⟨vs, .of (r.sub _ _ s), ?_⟩
    rw [← ek]
    cases xs with
    | nil => have z : vs = [] := q; subst z; rfl
    | cons x xs => obtain ⟨_, _, z, _⟩ := q; subst z; rfl
  | dct _ => cases h
  | ins _ _ _ => cases h
  | pen => cases h
  | scr => cases h
  | lam _ => cases h

/-! ### operators on values -/
section
variable {X : Cx} {C : Rc} {Wx : XK}
/-- a new value that never changes -/
theorem fin_put {W : Wd} {st : Ms} {H : Hp} {d : D} {Q : VK} (r : Rel C W st H) (q : ∀ W' H', Ext W H W' H' → Rel C W' st H' → RD C Q d st W' H') {p : Addr} {o : HO} (hp : H p = none) (rep : Rep C (W.put p o) d (.ref p)) : Q (.ref p) (upd H p o) :=
  q _ _ (ext_put r hp) (rel_put r hp) _ rep
theorem fin_same {W : Wd} {st : Ms} {H : Hp} {d : D} {v : V} {Q : VK} (r : Rel C W st H) (q : ∀ W' H', Ext W H W' H' → Rel C W' st H' → RD C Q d st W' H') (rep : Rep C W d v) : Q v H :=
  q W H (.refl W H) r v rep

def rBin (C : Rc) (Wx : XK) (op : Operator) : R2 := fun vx vy H Q => ∃ W st x y, Rel C W st H ∧ Rep C W x vx ∧ Rep C W y vy ∧ OQ C Wx W H (RD C Q) (Out.opt (binD op x y) st)
theorem reps_put {W : Wd} {st : Ms} {H : Hp} (r : Rel C W st H) {p : Addr} {o : HO} (hp : H p = none) {ds : List D} {vs : List V} (q : Reps C W ds vs) : Reps C (W.put p o) ds vs := Reps.le (le_put (G_free r hp)) ds vs q
theorem opr_bin {op : Operator} (hK : X.K = C.K) : OpR X (binaryOp op) (rBin C Wx op) := by
  intro pins s σ H x y v u Q I rx ry h
  obtain ⟨W, st, dx, dy, r, px, py, q⟩ := h
  obtain ⟨d, e, q⟩ := q.opt
  have fs : ∀ v, Rep C W d v → Q v H := fun v rep => fin_same r q rep
  unfold binD at e
  split at e
  · rename_i i j
    have ex : x = .int i := px
    have ey : y = .int j := py
    subst ex ey
    unfold binI at e
    split at e
    · cases e; exact op_add pins s σ H _ _ v u Q I rx ry ⟨i, j, rfl, rfl, fs _ rfl⟩
    · cases e; exact op_sub pins s σ H _ _ v u Q I rx ry ⟨i, j, rfl, rfl, fs _ rfl⟩
    · split at e
      · rename_i hc
        cases e; exact op_mul pins s σ H _ _ v u Q I rx ry ⟨i, j, rfl, rfl, hc, fs _ rfl⟩
      · cases e
    · split at e
      · rename_i hc
        cases e; exact op_fdiv pins s σ H _ _ v u Q I rx ry ⟨i, j, rfl, rfl, hc, fs _ rfl⟩
      · cases e
    · split at e
      · rename_i hc
        cases e; exact op_mod pins s σ H _ _ v u Q I rx ry ⟨i, j, rfl, rfl, hc, fs _ rfl⟩
      · cases e
    · split at e
      · rename_i hc
        cases e; exact op_pow pins s σ H _ _ v u Q I rx ry ⟨i, j, rfl, rfl, hc, fs _ rfl⟩
      · cases e
    · split at e
      · rename_i hc
        cases e; exact op_shl pins s σ H _ _ v u Q I rx ry ⟨i, j, rfl, rfl, hc, fs _ rfl⟩
      · cases e
    · split at e
      · rename_i hc
        cases e; exact op_shr pins s σ H _ _ v u Q I rx ry ⟨i, j, rfl, rfl, hc, fs _ rfl⟩
      · cases e
    · cases e; exact op_and pins s σ H _ _ v u Q I rx ry ⟨i, j, rfl, rfl, fs _ rfl⟩
    · cases e; exact op_or pins s σ H _ _ v u Q I rx ry ⟨i, j, rfl, rfl, fs _ rfl⟩
    · cases e; exact op_xor pins s σ H _ _ v u Q I rx ry ⟨i, j, rfl, rfl, fs _ rfl⟩
    · cases e
  · rename_i xs ys
    split at e
    · split at e
      · rename_i hc
        cases e
        obtain ⟨a, vs, ea, sa, qa⟩ := px
        obtain ⟨b, ws, eb, sb, qb⟩ := py
        subst ea eb
        have la := qa.length
        have lb := qb.length
        have h1 : SqT X.K H a vs := by rw [hK]; exact sqT_le r.sub sa
        have h2 : SqT X.K H b ws := by rw [hK]; exact sqT_le r.sub sb
        refine op_catA pins s σ H _ _ v u Q I rx ry ⟨a, b, vs, ws, rfl, rfl, h1, h2, by rw [← la, ← lb]; exact hc, fun z => ?_, fun _ z => ?_, fun _ _ p hp => ?_⟩
        · rw [z] at qa
          have exs := qa.nil
          subst exs
          exact fs _ ⟨b, ws, rfl, sb, qb⟩
        · rw [z] at qb
          have eys := qb.nil
          subst eys
          exact fs _ ⟨a, vs, rfl, sa, by rw [List.append_nil]; exact qa⟩
        · exact fin_put r q hp ⟨p, _, rfl, .inl (.inl Wd.put_at), reps_put r hp (qa.append qb)⟩
      · cases e
    · cases e
  · rename_i xs ys
    split at e
    · split at e
      · rename_i hc
        cases e
        obtain ⟨a, vs, ea, sa, qa⟩ := px
        obtain ⟨b, ws, eb, sb, qb⟩ := py
        subst ea eb
        have la := qa.length
        have lb := qb.length
        refine op_cat pins s σ H _ _ v u Q I rx ry ⟨a, b, vs, ws, rfl, rfl, r.sub _ _ sa, r.sub _ _ sb, by rw [← la, ← lb]; exact hc, fun p hp => ?_⟩
        exact fin_put r q hp ⟨p, _, rfl, Wd.put_at, reps_put r hp (qa.append qb)⟩
      · cases e
    · cases e
  · cases e
end
end Mp
set_option Elab.async false
set_option linter.all false
set_option maxRecDepth 100000
set_option maxHeartbeats 2000000
/-! MpSnd2: comparisons, items, slices, built-ins. -/
namespace Mp
open PySem PySem.Spec PyProof.Rows L2

/-! ### data as the library's -/
mutual
theorem dp_of {C : Rc} {W : Wd} {st : Ms} {H : Hp} (r : Rel C W st H) : ∀ (d : D) (v : V) (p : PyData), Rep C W d v → toPy d = some p → Dp C.K H v p
  | .non, v, p, h, e => by
    have e2 : v = .non := h
    have e3 : PyData.none = p := Option.some.inj e
    rw [e2, ← e3]; exact .non
  | .bl b, v, p, h, e => by
    have e2 : v = .bl b := h
    have e3 : PyData.bool b = p := Option.some.inj e
    rw [e2, ← e3]; exact .bl b
  | .int b, v, p, h, e => by
    have e2 : v = .int b := h
    have e3 : PyData.int b = p := Option.some.inj e
    rw [e2, ← e3]; exact .int b
  | .str b, v, p, h, e => by
    have e2 : v = .str b := h
    have e3 : PyData.str b = p := Option.some.inj e
    rw [e2, ← e3]; exact .str b
  | .tup ds, v, p, h, e => by
    obtain ⟨a, vs, e2, s, q⟩ := h
    have e3 : (match toPys ds with
      | some ps => some (PyData.tuple ps)
      | none => none) = some p := e
    cases z : toPys ds with
    | none => rw [z] at e3; cases e3
    | some ps =>
      rw [z] at e3
      have e4 : PyData.tuple ps = p := Option.some.inj e3
      rw [e2, ← e4]
      exact .tup (sqT_le r.sub s) (dps_of r ds vs ps q z)
  | .lst ds, v, p, h, e => by
    obtain ⟨a, vs, e2, s, q⟩ := h
    have e3 : (match toPys ds with
      | some ps => some (PyData.list ps)
      | none => none) = some p := e
    cases z : toPys ds with
    | none => rw [z] at e3; cases e3
    | some ps =>
      rw [z] at e3
      have e4 : PyData.list ps = p := Option.some.inj e3
      rw [e2, ← e4]
      exact .lst (.of (r.sub _ _ s)) (dps_of r ds vs ps q z)
  | .dct _, _, _, _, e => by cases e
  | .ins _ _ _, _, _, _, e => by cases e
  | .pen, _, _, _, e => by cases e
  | .scr, _, _, _, e => by cases e
  | .lam _, _, _, _, e => by cases e
theorem dps_of {C : Rc} {W : Wd} {st : Ms} {H : Hp} (r : Rel C W st H) : ∀ (ds : List D) (vs : List V) (ps : List PyData), Reps C W ds vs → toPys ds = some ps → DpAll C.K H vs ps
  | [], vs, ps, h, e => by
    have e2 : vs = [] := h
    have e3 : [] = ps := Option.some.inj e
    rw [e2, ← e3]; exact .nil
  | d :: ds, vs, ps, h, e => by
    obtain ⟨v, r2, e2, p, q⟩ := h
    have e3 : (match toPy d, toPys ds with
      | some p, some ps => some (p :: ps)
      | _, _ => none) = some ps := e
    cases z : toPy d with
    | none => rw [z] at e3; cases e3
    | some p1 =>
      cases z2 : toPys ds with
      | none => rw [z, z2] at e3; cases e3
      | some ps1 =>
        rw [z, z2] at e3
        have e4 : p1 :: ps1 = ps := Option.some.inj e3
        rw [e2, ← e4]
        exact .cons (dp_of r d v p1 p z) (dps_of r ds r2 ps1 q z2)
end
theorem eqD_spec {d e : D} {k : Bool} (h : eqD d e = some k) : ∃ a b, toPy d = some a ∧ toPy e = some b ∧ SeqAt.shaped a = true ∧ SeqAt.shaped b = true ∧ PyData.eqv a b = k := by
  unfold eqD at h
  split at h
  · rename_i a b h1 h2
    split at h
    · rename_i hc
      exact ⟨a, b, h1, h2, hc.1, hc.2, Option.some.inj h⟩
    · cases h
  · cases h

theorem inD_spec {C : Rc} {W : Wd} {st : Ms} {H : Hp} (r : Rel C W st H) {x y : D} {vx vy : V} {k : Bool} (px : Rep C W x vx) (py : Rep C W y vy) (h : inD x y = some k) :
    ∃ p, Dp C.K H vx p ∧ SeqAt.shaped p = true ∧ ((∃ ps, Dp C.K H vy (.list ps) ∧ SeqAt.shaped (.list ps) = true ∧ (ps.any fun z => PyData.eqv z p) = k) ∨ ∃ ps, Dp C.K H vy (.tuple ps) ∧ SeqAt.shaped (.tuple ps) = true ∧ (ps.any fun z => PyData.eqv z p) = k) := by
  unfold inD at h
  split at h
  · rename_i ys
    split at h
    · rename_i p ps h1 h2
      split at h
      · rename_i hc
        obtain ⟨a, vs, ea, sa, qa⟩ := py
        subst ea
        exact ⟨p, dp_of r _ _ _ px h1, hc.1, .inl ⟨ps, .lst (.of (r.sub _ _ sa)) (dps_of r _ _ _ qa h2), hc.2, Option.some.inj h⟩⟩
      · cases h
    · cases h
  · rename_i ys
    split at h
    · rename_i p ps h1 h2
      split at h
      · rename_i hc
        obtain ⟨a, vs, ea, sa, qa⟩ := py
        subst ea
        exact ⟨p, dp_of r _ _ _ px h1, hc.1, .inr ⟨ps, .tup (sqT_le r.sub sa) (dps_of r _ _ _ qa h2), hc.2, Option.some.inj h⟩⟩
      · cases h
    · cases h
  · cases h
theorem Rep.isNon {C : Rc} {W : Wd} {d : D} (h : Rep C W d .non) (hs : d ≠ .scr) : d = .non := by
  cases d with
  | non => rfl
  | bl _ => cases h
  | int _ => cases h
  | str _ => cases h
  | tup _ => obtain ⟨_, _, z, _⟩ := h; cases z
  | lst _ => obtain ⟨_, _, z, _⟩ := h; cases z
  | dct _ => obtain ⟨_, _, z, _⟩ := h; cases z
  | ins _ _ _ => obtain ⟨_, _, _, _, z, _⟩ := h; cases z
  | pen => obtain ⟨_, _, z, _⟩ := h; cases z
  | scr => exact absurd rfl hs
  | lam _ => obtain ⟨_, _, _, _, _, z, _⟩ := h; cases z
section
variable {X : Cx} {C : Rc} {Wx : XK}
def rCmp (C : Rc) (op : CmpOp) : R2 := fun vx vy H Q => ∃ W st x y k, Rel C W st H ∧ Rep C W x vx ∧ Rep C W y vy ∧ cmpD op x y = some k ∧ Q (.bl k) H
theorem opr_cmp {op : CmpOp} (hK : X.K = C.K) (hu : X.A.units + 100 < cLine) : OpR X (compareOp op) (rCmp C op) := by
  intro pins s σ H x y v u Q I rx ry h
  obtain ⟨W, st, dx, dy, k, r, px, py, e, q⟩ := h
  unfold cmpD at e
  split at e
  · obtain ⟨a, b, h1, h2, h3, h4, h5⟩ := eqD_spec e
    have := op_eqD (X := X) (by omega) pins s σ H x y v u Q I rx ry ⟨a, b, by rw [hK]; exact dp_of r _ _ _ px h1, by rw [hK]; exact dp_of r _ _ _ py h2, h3, h4, by rw [h5]; exact q⟩
    exact this
  · cases z : eqD dx dy with
    | none => rw [z] at e; cases e
    | some k' =>
      rw [z] at e
      have ek : (!k') = k := Option.some.inj e
      obtain ⟨a, b, h1, h2, h3, h4, h5⟩ := eqD_spec z
      exact op_neD (X := X) (by omega) pins s σ H x y v u Q I rx ry ⟨a, b, by rw [hK]; exact dp_of r _ _ _ px h1, by rw [hK]; exact dp_of r _ _ _ py h2, h3, h4, by rw [h5, ek]; exact q⟩
  · split at e
    · rename_i i j
      have ex : x = .int i := px
      have ey : y = .int j := py
      subst ex ey
      cases e
      exact op_lt pins s σ H _ _ v u Q I rx ry ⟨i, j, rfl, rfl, q⟩
    · cases e
  · split at e
    · rename_i i j
      have ex : x = .int i := px
      have ey : y = .int j := py
      subst ex ey
      cases e
      exact op_le pins s σ H _ _ v u Q I rx ry ⟨i, j, rfl, rfl, q⟩
    · cases e
  · split at e
    · rename_i i j
      have ex : x = .int i := px
      have ey : y = .int j := py
      subst ex ey
      cases e
      exact op_gt pins s σ H _ _ v u Q I rx ry ⟨i, j, rfl, rfl, q⟩
    · cases e
  · split at e
    · rename_i i j
      have ex : x = .int i := px
      have ey : y = .int j := py
      subst ex ey
      cases e
      exact op_ge pins s σ H _ _ v u Q I rx ry ⟨i, j, rfl, rfl, q⟩
    · cases e
  · split at e
    · have ex : x = .non := px
      have ey : y = .non := py
      subst ex ey
      cases e
      exact op_isN pins s σ H _ _ v u Q I rx ry ⟨rfl, q⟩
    · cases e
    · rename_i hne hns
      have ey : y = .non := py
      subst ey
      cases e
      have nx : decide (x = V.non) = false := by
        apply decide_eq_false
        intro z
        subst z
        have z2 := px.isNon hns
        exact hne z2
      exact op_isN pins s σ H _ _ v u Q I rx ry ⟨rfl, by rw [nx]; exact q⟩
    · rename_i a b
      have ex : x = .bl a := px
      have ey : y = .bl b := py
      subst ex ey
      cases e
      obtain rfl : v = Value.bool a := rx
      obtain rfl : u = Value.bool b := ry
      exact wpAny_of_eq (show compareOp .Is (.bool a) (.bool b) = pure (.bool (decide (a = b))) from by cases a <;> cases b <;> rfl) ⟨.bl _, H, I, rfl, q⟩
    · cases e
  · split at e
    · have ex : x = .non := px
      have ey : y = .non := py
      subst ex ey
      cases e
      exact op_notN pins s σ H _ _ v u Q I rx ry ⟨rfl, q⟩
    · cases e
    · rename_i hne hns
      have ey : y = .non := py
      subst ey
      cases e
      have nx : decide (x = V.non) = false := by
        apply decide_eq_false
        intro z
        subst z
        have z2 := px.isNon hns
        exact hne z2
      exact op_notN pins s σ H _ _ v u Q I rx ry ⟨rfl, by rw [nx]; exact q⟩
    · rename_i a b
      have ex : x = .bl a := px
      have ey : y = .bl b := py
      subst ex ey
      cases e
      obtain rfl : v = Value.bool a := rx
      obtain rfl : u = Value.bool b := ry
      exact wpAny_of_eq (show compareOp .IsNot (.bool a) (.bool b) = pure (.bool (!decide (a = b))) from by cases a <;> cases b <;> rfl) ⟨.bl _, H, I, rfl, q⟩
    · cases e
  · obtain ⟨q1, q2, q3, q4⟩ := inD_spec r px py e
    rcases q4 with ⟨ps, ey, se, ek⟩ | ⟨ps, ey, se, ek⟩
    · rw [← hK] at q2 ey
      obtain ⟨as, r1⟩ := Dp.reads I q1 x v q2 rx
      obtain ⟨bs, r2⟩ := Dp.reads I (.list ps) y u ey ry
      exact SeqAt.in_list_reads r2 r1 (SeqAt.canLay_of_shaped se) (SeqAt.canLay_of_shaped q3) (room_in_shaped q3 (by omega)) ⟨.bl _, H, I, rfl, by rw [ek]; exact q⟩
    · rw [← hK] at q2 ey
      obtain ⟨as, r1⟩ := Dp.reads I q1 x v q2 rx
      obtain ⟨bs, r2⟩ := Dp.reads I (.tuple ps) y u ey ry
      exact SeqAt.in_tuple_reads r2 r1 (SeqAt.canLay_of_shaped se) (SeqAt.canLay_of_shaped q3) (room_in_shaped q3 (by omega)) ⟨.bl _, H, I, rfl, by rw [ek]; exact q⟩
  · cases z : inD dx dy with
    | none => rw [z] at e; cases e
    | some k' =>
      rw [z] at e
      have ek : (!k') = k := Option.some.inj e
      obtain ⟨q1, q2, q3, q4⟩ := inD_spec r px py z
      rcases q4 with ⟨ps, ey, se, ek'⟩ | ⟨ps, ey, se, ek'⟩
      · rw [← hK] at q2 ey
        obtain ⟨as, r1⟩ := Dp.reads I q1 x v q2 rx
        obtain ⟨bs, r2⟩ := Dp.reads I (.list ps) y u ey ry
        exact SeqAt.notIn_list_reads r2 r1 (SeqAt.canLay_of_shaped se) (SeqAt.canLay_of_shaped q3) (room_in_shaped q3 (by omega)) ⟨.bl _, H, I, rfl, by rw [ek', ek]; exact q⟩
      · rw [← hK] at q2 ey
        obtain ⟨as, r1⟩ := Dp.reads I q1 x v q2 rx
        obtain ⟨bs, r2⟩ := Dp.reads I (.tuple ps) y u ey ry
        exact SeqAt.notIn_tuple_reads r2 r1 (SeqAt.canLay_of_shaped se) (SeqAt.canLay_of_shaped q3) (room_in_shaped q3 (by omega)) ⟨.bl _, H, I, rfl, by rw [ek', ek]; exact q⟩

/-! ### items, slices -/
theorem Reps.atI {W : Wd} {ds : List D} {vs : List V} {i : Int} {d : D} (q : Reps C W ds vs) (h : atI ds i = some d) : ∃ v, L2.atI vs i = some v ∧ Rep C W d v := by
  unfold L2.atI at h ⊢
  rw [← q.length]
  cases e : ixN ds.length i with
  | none => rw [e] at h; cases h
  | some j =>
    rw [e] at h
    exact q.get h
def rIxD (C : Rc) : R2 := fun vx vy H Q => ∃ W st x y d, Rel C W st H ∧ Rep C W x vx ∧ Rep C W y vy ∧ ixD x y = some d ∧ ∀ v, Rep C W d v → Q v H
theorem ixr_ix (hK : X.K = C.K) : IxR X (rIxD C) := by
  intro value slice pins s σ H x y v u Q I rx ry h hs
  obtain ⟨W, st, dx, dy, d, r, px, py, e, q⟩ := h
  unfold ixD at e
  split at e
  · rename_i xs k he
    have ey : y = .int k := py
    subst ey
    cases dx with
    | tup ds =>
      cases he
      obtain ⟨a, vs, ea, sa, qa⟩ := px
      subst ea
      obtain ⟨w, h1, h2⟩ := qa.atI e
      exact ix_tup value slice pins s σ H _ _ v u Q I rx ry ⟨a, vs, k, w, rfl, rfl, by rw [hK]; exact sqT_le r.sub sa, h1, q w h2⟩ hs
    | lst ds =>
      cases he
      obtain ⟨a, vs, ea, sa, qa⟩ := px
      subst ea
      obtain ⟨w, h1, h2⟩ := qa.atI e
      exact ix_list value slice pins s σ H _ _ v u Q I rx ry ⟨a, vs, k, w, rfl, rfl, .of (r.sub _ _ sa), h1, q w h2⟩ hs
    | _ => cases he
  · cases e
theorem Reps.cut {W : Wd} {ds : List D} {vs : List V} {lo hi : Option Int} (q : Reps C W ds vs) : Reps C W (cutD ds lo hi) (cutV vs lo hi) := by
  unfold cutD cutV
  rw [q.length]
  exact (q.drop _).take _
def rSlD (C : Rc) (Wx : XK) : V → Option Int → Option Int → Hp → VK → Prop := fun vx lo hi H Q => ∃ W st x, Rel C W st H ∧ Rep C W x vx ∧ OQ C Wx W H (RD C Q) (Out.opt (slcD x lo hi) st)
theorem slr_sl (hK : X.K = C.K) : SlR X (rSlD C Wx) := by
  intro pins s σ H x v vl vu lo hi sl Q I rx hs pl pu h
  obtain ⟨W, st, dx, r, px, q⟩ := h
  obtain ⟨d, e, q⟩ := q.opt
  unfold slcD at e
  split at e
  · rename_i xs
    cases e
    obtain ⟨a, vs, ea, sa, qa⟩ := px
    subst ea
    exact sl_list pins s σ H _ v vl vu lo hi sl Q I rx hs pl pu ⟨a, vs, rfl, .of (r.sub _ _ sa), fun p hp => fin_put r q hp ⟨p, _, rfl, Wd.put_at, reps_put r hp qa.cut⟩⟩
  · rename_i xs
    cases e
    obtain ⟨a, vs, ea, sa, qa⟩ := px
    subst ea
    refine sl_tupA pins s σ H _ v vl vu lo hi sl Q I rx hs pl pu ⟨a, vs, rfl, by rw [hK]; exact sqT_le r.sub sa, fun hw => ?_, fun _ p hp => fin_put r q hp ⟨p, _, rfl, .inl (.inl Wd.put_at), reps_put r hp qa.cut⟩⟩
    refine fin_same r q ⟨a, vs, rfl, sa, ?_⟩
    have e : cutD xs lo hi = xs := by
      unfold cutD
      have hl := qa.length
      rw [hl, hw.1, hw.2, List.drop_zero, Nat.sub_zero, ← hl, List.take_length]
    rw [e]
    exact qa
  · cases e

/-! ### built-ins -/
def Bi.isTy : Bi → Bool
  | .int => true
  | .tuple => true
  | .list => true
  | _ => false
def Bi.str : Bi → String
  | .len => "len"
  | .int => "int"
  | .abs => "abs"
  | .sum => "sum"
  | .any => "any"
  | .all => "all"
  | .sorted => "sorted"
  | .tuple => "tuple"
  | .list => "list"
  | .repr => "repr"
  | .min2 => "min"
  | .max2 => "max"
  | .lenset => "len"
def Bi.val (f : Bi) : Value := if f.isTy = true then .type f.str else .builtin f.str
theorem Bi.boot (f : Bi) : bootBuiltins f.name = some f.val := by cases f <;> decide +kernel
theorem intsD_eq : ∀ {xs : List D} {ns : List Int}, intsD xs = some ns → xs = ns.map D.int
  | [], _, h => by cases h; rfl
  | d :: r, ns, h => by
    cases d with
    | int i =>
      have h2 : (intsD r).map (i :: ·) = some ns := h
      cases e : intsD r with
      | none => rw [e] at h2; cases h2
      | some ms =>
        rw [e] at h2
        have h3 : i :: ms = ns := Option.some.inj h2
        rw [← h3, intsD_eq e]; rfl
    | _ => cases h
theorem blsD_eq : ∀ {xs : List D} {ns : List Bool}, blsD xs = some ns → xs = ns.map D.bl
  | [], _, h => by cases h; rfl
  | d :: r, ns, h => by
    cases d with
    | bl i =>
      have h2 : (blsD r).map (i :: ·) = some ns := h
      cases e : blsD r with
      | none => rw [e] at h2; cases h2
      | some ms =>
        rw [e] at h2
        have h3 : i :: ms = ns := Option.some.inj h2
        rw [← h3, blsD_eq e]; rfl
    | _ => cases h
def rBi (C : Rc) (Wx : XK) (f : Bi) : List V → Hp → VK → Prop := fun vs H Q => ∃ W st ds, Rel C W st H ∧ Reps C W ds vs ∧ OQ C Wx W H (RD C Q) (Out.opt (biD f ds) st)
theorem Reps.one {W : Wd} {d : D} {vs : List V} (h : Reps C W [d] vs) : ∃ v, vs = [v] ∧ Rep C W d v := by
  obtain ⟨v, r, e, p, q⟩ := h
  have e2 : r = [] := q
  exact ⟨v, by rw [e, e2], p⟩
theorem Reps.two {W : Wd} {d d' : D} {vs : List V} (h : Reps C W [d, d'] vs) : ∃ v v', vs = [v, v'] ∧ Rep C W d v ∧ Rep C W d' v' := by
  obtain ⟨v, r, e, p, q⟩ := h
  obtain ⟨v', e2, p'⟩ := Reps.one q
  exact ⟨v, v', by rw [e, e2], p, p'⟩
mutual
theorem Rep.reads {X : Cx} {pins : List (Addr × Obj)} {σ : Sg} {H : Hp} {s : Shared} {W : Wd} {st : Ms} (hK : X.K = C.K) (I : Inv X pins σ H s) (r : Rel C W st H) : ∀ (d : D) (v : V) (u : Value) (p : PyData), Rep C W d v → RelV v u → toPyR d = some p → ∃ as, Reads s.heap u p as ∧ ∀ a ∈ as, H a ≠ none
  | .non, v, u, p, h, q, e => by
    have e2 : v = .non := h
    subst e2
    cases q; cases e
    exact ⟨_, .none, fun _ z => nomatch z⟩
  | .bl b, v, u, p, h, q, e => by
    have e2 : v = .bl b := h
    subst e2
    cases q; cases e
    exact ⟨_, .bool b, fun _ z => nomatch z⟩
  | .int b, v, u, p, h, q, e => by
    have e2 : v = .int b := h
    subst e2
    obtain ⟨t, rfl⟩ := q
    cases e
    exact ⟨_, .int b t, fun _ z => nomatch z⟩
  | .str b, v, u, p, h, q, e => by
    have e2 : v = .str b := h
    subst e2
    obtain ⟨t, rfl⟩ := q
    cases e
    exact ⟨_, .str b t, fun _ z => nomatch z⟩
  | .tup ds, v, u, p, h, q, e => by
    obtain ⟨a, vs, e2, sa, qa⟩ := h
    subst e2
    cases q
    have e3 : (match toPyRs ds with
      | some ps => some (PyData.tuple ps)
      | none => none) = some p := e
    cases z : toPyRs ds with
    | none => rw [z] at e3; cases e3
    | some ps =>
      rw [z] at e3
      cases e3
      obtain ⟨its, rv, ⟨o, ho, hc, n, hd⟩, _⟩ := I.tuple (show SqT X.K H a vs by rw [hK]; exact sqT_le r.sub sa)
      obtain ⟨as, h1, h2⟩ := Reps.reads hK I r ds vs its ps qa rv z
      exact ⟨as, .tuple ho hc hd h1, h2⟩
  | .lst ds, v, u, p, h, q, e => by
    obtain ⟨a, vs, e2, sa, qa⟩ := h
    subst e2
    cases q
    have e3 : (match toPyRs ds with
      | some ps => some (PyData.list ps)
      | none => none) = some p := e
    cases z : toPyRs ds with
    | none => rw [z] at e3; cases e3
    | some ps =>
      rw [z] at e3
      cases e3
      have ha := r.sub _ _ sa
      obtain ⟨its, rv, ⟨o, n, ho, hc, _, hd⟩, _⟩ := I.list (show SqL X.K H a vs from .of ha)
      obtain ⟨as, h1, h2⟩ := Reps.reads hK I r ds vs its ps qa rv z
      refine ⟨a :: as, .list ho hc hd h1, fun b hb => ?_⟩
      rcases List.mem_cons.mp hb with z | z
      · rw [z, ha]; exact fun z => nomatch z
      · exact h2 b z
  | .dct ds, v, u, p, h, q, e => by
    obtain ⟨a, vs, e2, sa, qa⟩ := h
    subst e2
    cases q
    have e3 : (match toPyRk ds with
      | some ps => some (PyData.dict ps)
      | none => none) = some p := e
    cases z : toPyRk ds with
    | none => rw [z] at e3; cases e3
    | some ps =>
      rw [z] at e3
      cases e3
      have ha := r.sub _ _ sa
      obtain ⟨_, _, its, rv, o, es, ep, ho, hc, hd, _, hp, _⟩ := (show ObjOk X.prog X.w H s.heap a (.dK vs) from I.hok a _ ha)
      obtain ⟨as, bs, h1, h2, h3⟩ := RepK.reads hK I r ds vs its es.toList ps qa rv hp z
      refine ⟨a :: as ++ bs, .dict ho hc.1 hd h1 h2, fun b hb => ?_⟩
      rcases List.mem_append.mp hb with z | z
      · rcases List.mem_cons.mp z with z | z
        · rw [z, ha]; exact fun z => nomatch z
        · exact h3 b (List.mem_append_left _ z)
      · exact h3 b (List.mem_append_right _ z)
  | .ins _ _ _, _, _, _, _, _, e => by cases e
  | .pen, _, _, _, _, _, e => by cases e
  | .scr, _, _, _, _, _, e => by cases e
  | .lam _, _, _, _, _, _, e => by cases e
theorem Reps.reads {X : Cx} {pins : List (Addr × Obj)} {σ : Sg} {H : Hp} {s : Shared} {W : Wd} {st : Ms} (hK : X.K = C.K) (I : Inv X pins σ H s) (r : Rel C W st H) : ∀ (ds : List D) (vs : List V) (us : List Value) (ps : List PyData), Reps C W ds vs → Vals vs us → toPyRs ds = some ps → ∃ as, ReadsAll s.heap us ps as ∧ ∀ a ∈ as, H a ≠ none
  | [], vs, us, ps, h, q, e => by
    have e2 : vs = [] := h
    subst e2
    cases q; cases e
    exact ⟨_, .nil, fun _ z => nomatch z⟩
  | d :: ds, vs, us, ps, h, q, e => by
    obtain ⟨v, rr, e2, h1, h2⟩ := h
    subst e2
    cases q with
    | cons q1 q2 =>
      have e3 : (match toPyR d, toPyRs ds with
        | some p, some ps => some (p :: ps)
        | _, _ => none) = some ps := e
      cases z : toPyR d with
      | none => rw [z] at e3; cases e3
      | some p1 =>
        cases z2 : toPyRs ds with
        | none => rw [z, z2] at e3; cases e3
        | some ps1 =>
          rw [z, z2] at e3
          cases e3
          obtain ⟨as, a1, a2⟩ := Rep.reads hK I r d v _ p1 h1 q1 z
          obtain ⟨bs, b1, b2⟩ := Reps.reads hK I r ds rr _ ps1 h2 q2 z2
          exact ⟨as ++ bs, .cons a1 b1, fun x hx => (List.mem_append.mp hx).elim (a2 x) (b2 x)⟩
theorem RepK.reads {X : Cx} {pins : List (Addr × Obj)} {σ : Sg} {H : Hp} {s : Shared} {W : Wd} {st : Ms} (hK : X.K = C.K) (I : Inv X pins σ H s) (r : Rel C W st H) : ∀ (ds : List (Key × D)) (vs : List (Key × V)) (us : List (Key × Value)) (es : List DictEntry) (ps : List (PyData × PyData)), RepK C W ds vs → KV vs us → Pairs (mixKind X.prog X.w) es us → toPyRk ds = some ps →
    ∃ as bs, ReadsAll s.heap (es.map (·.key)) (ps.map (·.1)) as ∧ ReadsAll s.heap (es.map (·.val)) (ps.map (·.2)) bs ∧ ∀ a ∈ as ++ bs, H a ≠ none
  | [], vs, us, es, ps, h, q, hp, e => by
    have e2 : vs = [] := h
    subst e2
    cases q; cases hp; cases e
    exact ⟨_, _, .nil, .nil, fun _ z => nomatch z⟩
  | (k, d) :: ds, vs, us, es, ps, h, q, hp, e => by
    obtain ⟨v, rr, e2, h1, h2⟩ := h
    subst e2
    cases q with
    | cons q1 q2 =>
      cases hp with
      | @cons e1 _ _ _ k1 k2 k3 =>
        obtain ⟨q11, q12⟩ := q1
        have e3 : (match toPyR d, toPyRk ds with
          | some p, some ps => some ((keyPy k, p) :: ps)
          | _, _ => none) = some ps := e
        cases z : toPyR d with
        | none => rw [z] at e3; cases e3
        | some p1 =>
          cases z2 : toPyRk ds with
          | none => rw [z, z2] at e3; cases e3
          | some ps1 =>
            rw [z, z2] at e3
            cases e3
            rw [← k2] at q12
            obtain ⟨as, a1, a2⟩ := Rep.reads hK I r d v _ p1 h1 q12 z
            obtain ⟨bs, cs, b1, b2, b3⟩ := RepK.reads hK I r ds rr _ _ ps1 h2 q2 k3 z2
            have kk : ∃ ks, Reads s.heap e1.key (keyPy k) ks ∧ ks = [] := by
              have k1' := k1
              rw [← q11] at k1'
              rcases keyIs_shape (show keyIs k _ = true from k1') with ⟨i, t, ek, ev⟩ | ⟨x, t, ek, ev⟩
              · subst ek
                exact ⟨_, ev ▸ .int i t, rfl⟩
              · subst ek
                exact ⟨_, ev ▸ .str x t, rfl⟩
            obtain ⟨ks, kr, ke⟩ := kk
            refine ⟨ks ++ bs, as ++ cs, .cons kr b1, .cons a1 b2, fun x hx => ?_⟩
            subst ke
            rcases List.mem_append.mp hx with hx | hx
            · exact b3 x (List.mem_append_left _ hx)
            · rcases List.mem_append.mp hx with hx | hx
              · exact a2 x hx
              · exact b3 x (List.mem_append_right _ hx)
end
theorem callr_bi (f : Bi) (hK : X.K = C.K) (hc : X.calm = true) (hg : X.A.guards = some []) (hu : X.A.units + 100 < cLine) (hsys : ∃ o, X.base.get? sysModules = some o) : CallR X f.val (rBi C Wx f) := by
  intro pins s σ H vs us Q I rs h
  obtain ⟨W, st, ds, r, ps, q⟩ := h
  obtain ⟨d, e, q⟩ := q.opt
  have fs : ∀ v, Rep C W d v → Q v H := fun v rep => fin_same r q rep
  unfold biD at e
  split at e
  · rename_i xs
    cases e
    obtain ⟨v, ev, a, ws, ea, sa, qa⟩ := Reps.one ps
    subst ev ea
    exact call_len_seq pins s σ H _ us Q I rs ⟨a, ws, rfl, .inr (by rw [hK]; exact sqT_le r.sub sa), by rw [← qa.length]; exact fs _ rfl⟩
  · rename_i xs
    cases e
    obtain ⟨v, ev, a, ws, ea, sa, qa⟩ := Reps.one ps
    subst ev ea
    exact call_len_seq pins s σ H _ us Q I rs ⟨a, ws, rfl, .inl (.of (r.sub _ _ sa)), by rw [← qa.length]; exact fs _ rfl⟩
  · rename_i x
    split at e
    · rename_i hz
      cases e
      obtain ⟨v, ev, ea⟩ := Reps.one ps
      have ea : v = .str x := ea
      subst ev ea
      exact call_len_str pins s σ H _ us Q I rs ⟨x, rfl, hz, fs _ rfl⟩
    · cases e
  · rename_i i
    cases e
    obtain ⟨v, ev, ea⟩ := Reps.one ps
    have ea : v = .int i := ea
    subst ev ea
    exact call_int1 pins s σ H _ us Q I rs (.inl ⟨i, rfl, fs _ rfl⟩)
  · rename_i i
    cases e
    obtain ⟨v, ev, ea⟩ := Reps.one ps
    have ea : v = .bl i := ea
    subst ev ea
    exact call_int1 pins s σ H _ us Q I rs (.inr ⟨i, rfl, fs _ rfl⟩)
  · rename_i i
    cases e
    obtain ⟨v, ev, ea⟩ := Reps.one ps
    have ea : v = .int i := ea
    subst ev ea
    exact call_abs pins s σ H _ us Q I rs ⟨i, rfl, fs _ rfl⟩
  · rename_i xs
    split at e
    · rename_i ns en
      cases e
      have ex := intsD_eq en
      subst ex
      obtain ⟨v, ev, a, ws, ea, sa, qa⟩ := Reps.one ps
      have eq := qa.ints
      subst ev ea eq
      exact cr_sum hc pins s σ H _ us Q I rs ⟨a, ns, rfl, .of (r.sub _ _ sa), fs _ rfl⟩
    · cases e
  · rename_i xs
    split at e
    · rename_i ns en
      cases e
      have ex := blsD_eq en
      subst ex
      obtain ⟨v, ev, a, ws, ea, sa, qa⟩ := Reps.one ps
      have eq := qa.bls
      subst ev ea eq
      exact cr_any hc pins s σ H _ us Q I rs ⟨a, ns, rfl, .of (r.sub _ _ sa), fs _ rfl⟩
    · cases e
  · rename_i xs
    split at e
    · rename_i ns en
      cases e
      have ex := blsD_eq en
      subst ex
      obtain ⟨v, ev, a, ws, ea, sa, qa⟩ := Reps.one ps
      have eq := qa.bls
      subst ev ea eq
      exact cr_all hc pins s σ H _ us Q I rs ⟨a, ns, rfl, .of (r.sub _ _ sa), fs _ rfl⟩
    · cases e
  · rename_i xs
    cases e
    obtain ⟨v, ev, a, ws, ea, sa, qa⟩ := Reps.one ps
    subst ev ea
    exact call_tuple_of pins s σ H _ us Q I rs ⟨a, ws, rfl, .inr ⟨by rw [hK]; exact sqT_le r.sub sa, fs _ ⟨a, ws, rfl, sa, qa⟩⟩⟩
  · rename_i xs
    cases e
    obtain ⟨v, ev, a, ws, ea, sa, qa⟩ := Reps.one ps
    subst ev ea
    exact call_tuple_of pins s σ H _ us Q I rs ⟨a, ws, rfl, .inl ⟨.of (r.sub _ _ sa), fun p hp => fin_put r q hp ⟨p, _, rfl, .inl (.inl Wd.put_at), reps_put r hp qa⟩⟩⟩
  · rename_i xs
    cases e
    obtain ⟨v, ev, a, ws, ea, sa, qa⟩ := Reps.one ps
    subst ev ea
    exact call_list_of pins s σ H _ us Q I rs ⟨a, ws, rfl, .inr (by rw [hK]; exact sqT_le r.sub sa), fun p hp => fin_put r q hp ⟨p, _, rfl, Wd.put_at, reps_put r hp qa⟩⟩
  · rename_i xs
    cases e
    obtain ⟨v, ev, a, ws, ea, sa, qa⟩ := Reps.one ps
    subst ev ea
    exact call_list_of pins s σ H _ us Q I rs ⟨a, ws, rfl, .inl (.of (r.sub _ _ sa)), fun p hp => fin_put r q hp ⟨p, _, rfl, Wd.put_at, reps_put r hp qa⟩⟩
  · rename_i i j
    cases e
    obtain ⟨v, v', ev, ea, eb⟩ := Reps.two ps
    have ea : v = .int i := ea
    have eb : v' = .int j := eb
    subst ev ea eb
    exact call_min2 hc pins s σ H _ us Q I rs ⟨i, j, rfl, fs _ rfl⟩
  · rename_i i j
    cases e
    obtain ⟨v, v', ev, ea, eb⟩ := Reps.two ps
    have ea : v = .int i := ea
    have eb : v' = .int j := eb
    subst ev ea eb
    exact call_max2 hc pins s σ H _ us Q I rs ⟨i, j, rfl, fs _ rfl⟩
  · rename_i x
    split at e
    · rename_i p ep
      split at e
      · rename_i hz
        cases e
        obtain ⟨v, ev, ea⟩ := Reps.one ps
        subst ev
        obtain ⟨u, eu, ru⟩ := vals1 rs
        subst eu
        obtain ⟨as, rd, hA⟩ := Rep.reads hK I r _ v u p ea ru ep
        have hno : sysModules ∉ as := fun z => by
          obtain ⟨o, ho⟩ := hsys
          exact hA _ z (I.bs _ _ ho).2
        have fin : ∀ h' t tk, (∀ b o, s.heap.get? b = some o → h'.get? b = some o) → EP X pins σ Q (.str p.shown t) { s with heap := h', toks := tk } := fun h' t tk k =>
          ⟨.str p.shown, H, I.kept (t' := tk) k, ⟨t, rfl⟩, fs _ rfl⟩
        cases rd with
        | none => exact PySem.P.repr_of_none (fin s.heap s.toks _ fun _ _ z => z)
        | bool b => exact PySem.P.repr_of_bool (fin s.heap s.toks _ fun _ _ z => z)
        | int i t => exact PySem.P.repr_of_int (by simpa [PyData.showable] using hz.1) (fin s.heap s.toks _ fun _ _ z => z)
        | str x t => exact PySem.P.repr_of_str (fin s.heap s.toks _ fun _ _ z => z) (by simpa only [PyData.shown] using hz.2.1)
        | list a1 a2 a3 a4 => exact repr_of_reads' (.list a1 a2 a3 a4) hz.1 (fun _ => hno) hg (by have := hz.2.2; omega) (fun _ _ z => z) (fun h' t tk k => fin h' t tk k) hz.2.1
        | tuple a1 a2 a3 a4 => exact repr_of_reads' (.tuple a1 a2 a3 a4) hz.1 (fun _ => hno) hg (by have := hz.2.2; omega) (fun _ _ z => z) (fun h' t tk k => fin h' t tk k) hz.2.1
        | dict a1 a2 a3 a4 a5 => exact repr_of_reads' (.dict a1 a2 a3 a4 a5) hz.1 (fun _ => hno) hg (by have := hz.2.2; omega) (fun _ _ z => z) (fun h' t tk k => fin h' t tk k) hz.2.1
      · cases e
    · cases e
  · cases e
end
end Mp
set_option Elab.async false
set_option linter.all false
set_option maxRecDepth 100000
set_option maxHeartbeats 2000000
/-! MpSnd3: defs that keep what their terms are worth; calls. -/
namespace Mp
open PySem PySem.Spec PyProof.Rows L2

/-- room, and no repr under way -/
structure RoomG (k : Nat) (A : Around) : Prop where
  room : Room k A
  gd : A.guards = some []
theorem RoomG.mono {j k : Nat} {A : Around} (r : RoomG k A) (h : j ≤ k) : RoomG j A := ⟨r.room.mono h, r.gd⟩
theorem RoomG.deeper {k : Nat} {A : Around} (r : RoomG (k + 1) A) (env : Env) : RoomG k (A.deeper env) := ⟨r.room.deeper env, r.gd⟩
theorem RoomG.make {k : Nat} {A : Around} (r : RoomG (k + 1) A) (C : Addr) (us : List Value) (kw : List (Str × Value)) : RoomG k (A.under (.builtin "type.__call__" ⟨.ref C :: us, kw⟩)) := by
  refine ⟨r.room.make C us kw, ?_⟩
  have e := r.gd
  show pushGuards (Code.guards (.builtin "type.__call__" ⟨.ref C :: us, kw⟩)) A.guards = some []
  rw [e]
  first | rfl | simp [Code.guards, pushGuards, Code.isGuard, guardIds]
theorem RoomG.in1 {k : Nat} {A : Around} (r : RoomG (k + 1) A) : RoomG k A.in1 := ⟨r.room.in1, r.gd⟩

/-- a def that keeps its promise wherever there is such room -/
structure FnG (P : Program) (w : World) (C : Rc) (base : Heap) (k : Nat) (f : Addr) (fd : FuncData) (ps : List Str) (sp : Sp) : Prop where
  len : ∀ vs H Q E, sp vs H Q E → vs.length = ps.length
  run : ∀ (A : Around) (outer : List Env) (s : Shared) (H : Hp) (args : Args) (us : List Value) (vs : List V) (Q : VK) (E : XK), RoomG k A → Env0 P w C.K C.mg base A outer s H →
    BindsTo s fd args (ps.zip us) → Vals vs us → sp vs H Q E → codeAny (model P w) A (.call (.ref f) args) (CR (CX P w) outer P w H s Q E) s
theorem FnG.mono {P : Program} {w : World} {C : Rc} {base : Heap} {j k : Nat} {f : Addr} {fd : FuncData} {ps : List Str} {sp : Sp} (F : FnG P w C base j f fd ps sp) (h : j ≤ k) : FnG P w C base k f fd ps sp :=
  ⟨F.len, fun A outer s H args us vs Q E hr => F.run A outer s H args us vs Q E (hr.mono h)⟩
/-- what a def's worth promises -/
def spDen (C : Rc) (den : Den) : Sp := fun vs H Q E => ∃ W st ds, Reps C W ds vs ∧ Rel C W st H ∧ OQ C E W H (RD C Q) (den ds st)

/-- a name of the module that is a def of such worth -/
def DefOk (P : Program) (w : World) (C : Rc) (base : Heap) (k : Nat) (x : Str) (den : Den) : Prop :=
  ∃ f fd ps, C.mg x = some (.ref f) ∧ PySem.W.keepIn C.K (.ref f) = true ∧ Binds C.K fd ps [] ∧ FnG P w C base k f fd ps (spDen C den)

/-- the context of a body, of a comprehension's block -/
structure XOk (P : Program) (w : World) (C : Rc) (base : Heap) (k : Nat) (N : List Str) (sc : Scope) (Wx : XK) (X : Cx) : Prop where
  prog : X.prog = P
  wd : X.w = w
  K : X.K = C.K
  mg : X.mg = C.mg
  base : X.base = base
  calm : X.calm = true
  nm : X.N = N
  nd : N.Nodup
  sc : X.env.scope = sc
  rm : RoomG (k + 1) X.A
  tk : Takes X fun cls d _ H => Wx cls d H
theorem XOk.units {P : Program} {w : World} {C : Rc} {base : Heap} {k : Nat} {N : List Str} {sc : Scope} {Wx : XK} {X : Cx} (o : XOk P w C base k N sc Wx X) : X.A.units + 200 < cLine := by
  have := o.rm.room.un
  omega

section
variable {P : Program} {w : World} {C : Rc} {base : Heap} {k : Nat} {N : List Str} {sc : Scope} {Wx : XK} {X : Cx}
/-- the callee runs -/
theorem run_den {pins : List (Addr × Obj)} {σ : Sg} {H : Hp} {s : Shared} {Q : VK} {us : List Value} {vs : List V} {f : Addr} {fd : FuncData} {ps : List Str} {sp : Sp}
    (o : XOk P w C base k N sc Wx X) (F : FnG P w C base k f fd ps sp) (hb : Binds C.K fd ps []) (I : Inv X pins σ H s) (r : Vals vs us) (h : sp vs H Q Wx) :
    wpAny (model X.prog X.w) X.A (call (.ref f) us) (EP X pins σ Q) X.xe s := by
  obtain ⟨o1, o2, o3, o4, o5, o6, o7, o8, o9, o10, o11⟩ := o
  have hl : us.length = ps.length := r.length.symm.trans (F.len _ _ _ _ h)
  have e0 := I.env0
  have hB := hb s us (by have q := I.kIn; rw [o3] at q; exact q) (by rw [List.append_nil]; exact hl)
  rw [List.append_nil] at hB
  rw [o1, o2, o3, o4, o5] at e0
  have run := F.run X.A X.stack s H ⟨us, []⟩ us vs Q Wx (o10.mono (Nat.le_succ k)) e0 hB r h
  rw [← o1, ← o2] at run
  refine wpAny_call (codeAny_mono run fun res s' hq => ?_)
  match res, hq with
  | .error e, hq => exact o11 e s' (XE.of_call I (W := fun cls d _ H => Wx cls d H) (fun cls d H' z => z) hq)
  | .ok (.ret u), hq => exact I.after hq
  | .ok .next, hq => exact False.elim hq
  | .ok .brk, hq => exact False.elim hq
  | .ok .cont, hq => exact False.elim hq
/-- f(..) -/
theorem pe_den {x : Str} {p pos : Pos} {es : List Expr} {t : TA} {f : Addr} {fd : FuncData} {ps : List Str} {sp : Sp} (o : XOk P w C base k N sc Wx X) (F : FnG P w C base k f fd ps sp) (hb : Binds C.K fd ps [])
    (hg : glB sc x = true) (hm : C.mg x = some (.ref f)) (hk : PySem.W.keepIn C.K (.ref f) = true) (hp : ∀ y ∈ es, plainX y = true) (ha : PA X es t) (hn : es = [] → ∀ σ H Q, t σ H Q → Q [] H) :
    PE X (.Call (.Name x p) es [] pos) (fun σ H Q => t σ H fun vs H1 => sp vs H1 Q Wx) := by
  refine ⟨fun pins s σ H Q I h => ?_⟩
  have g1 : Gl X x := by
    have q := hg
    unfold glB at q
    simp only [Bool.and_eq_true, decide_eq_true_eq] at q
    show X.env.scope.names.lookup x = _
    rw [o.sc]
    exact q.1.1
  have g2 : (x == ("__debug__" : Str)) = false := by
    have q := hg
    unfold glB at q
    simp only [Bool.and_eq_true, decide_eq_true_eq] at q
    simpa using q.1.2
  have hm' : X.mg x = some (.ref f) := by rw [o.mg]; exact hm
  have hk' : PySem.W.keepIn X.K (.ref f) = true := by rw [o.K]; exact hk
  refine wpAny_Call_Name_kw (ld_glob I g1 hm' ?_ g2)
  cases es with
  | nil => exact PySem.W.callWith_K0 I.kIn hk' (run_den (us := []) o F hb I .nil (hn rfl σ H _ h))
  | cons e es =>
    refine PySem.W.callWith_K (h₀ := X.base) I.ok.mod.kin hk' (thn (ha.run pos pins s σ H _ I h) fun us s1 ⟨vs, H1, I1, r, q⟩ => ⟨I1.kIn, ?_⟩) (plain_star (hp e List.mem_cons_self)) (stars_any fun y hy => hp y (List.mem_cons_of_mem _ hy))
    exact run_den o F hb I1 r q
end
end Mp
set_option Elab.async false
set_option linter.all false
set_option maxRecDepth 100000
set_option maxHeartbeats 2000000
/-! MpSnd4: each term's reading from those of its parts. -/
namespace Mp
open PySem PySem.Spec PyProof.Rows L2

/-- an own class, as isinstance looks at its objects -/
def OwnC (C : Rc) (c : Str) (cl : Addr) : Prop :=
  C.mg c = some (.ref cl) ∧ Cls C.K cl ∧ PySem.W.findIn C.K (.ref cl) "__class__" = some (some (.builtin "object.__class__")) ∧
    PySem.W.specialIn C.K (.builtin "object.__class__") "__get__" = some (some (.builtin "getset_descriptor.__get__")) ∧ PySem.W.takesIn C.K (.builtin "object.__class__") = some true ∧
    PySem.W.mroIn C.K cl (.type "object") = some true
/-- the parts of a form, each by itself -/
def PEs (C : Rc) (Γ : Gm) (Wx : XK) (X : Cx) : Es → List Expr → Prop
  | .nil, [] => True
  | .cons m r, e :: es => PE X e (tEv C Γ Wx m) ∧ PEs C Γ Wx X r es
  | _, _ => False
/-- what the written part holds, as the names say -/
structure GOk (P : Program) (w : World) (C : Rc) (base : Heap) (k : Nat) (Γ : Gm) : Prop where
  fn : ∀ x den, Γ.fn x = some den → DefOk P w C base k x den
  con : ∀ x d, Γ.con x = some d → ∃ u v, C.mg x = some u ∧ RelV v u ∧ ∀ W, Rep C W d v
  mke : ∀ c den, Γ.mke c = some den → ∀ (N : List Str) (sc : Scope) (Wx : XK) (X : Cx), XOk P w C base k N sc Wx X → ∀ {es : List Expr} {t : TA} {p pos : Pos}, glB sc c = true → (∀ y ∈ es, plainX y = true) → PA X es t → (es = [] → ∀ σ H Q, t σ H Q → Q [] H) →
    PE X (.Call (.Name c p) es [] pos) (fun σ H Q => t σ H fun vs H1 => spDen C den vs H1 Q Wx)
  mkk : ∀ c ks den, Γ.mkk c ks = some den → ∀ (N : List Str) (sc : Scope) (Wx : XK) (X : Cx), XOk P w C base k N sc Wx X → ∀ {kws : List Keyword} {t : TA} {p pos : Pos}, glB sc c = true → kws.map (·.arg) = ks.map some → PK X kws t → (∀ σ H Q, t σ H Q → t σ H fun vs H1 => vs.length = ks.length ∧ Q vs H1) →
    PE X (.Call (.Name c p) [] kws pos) (fun σ H Q => t σ H fun vs H1 => spDen C den vs H1 Q Wx)
  own : ∀ c, Γ.own c = true → ∃ cl, OwnC C c cl
  sub : ∀ c c' b, Γ.sub c c' = some b → ∃ cl cl', C.mg c = some (.ref cl) ∧ C.mg c' = some (.ref cl') ∧ PySem.W.kitOne C.K (.ref cl) (.ref cl') = some b
  isT : ∀ c n b, Γ.isT c n = some b → ∃ cl, C.mg c = some (.ref cl) ∧ PySem.W.kitOne C.K (.ref cl) (.type n) = some b
  tyO : ∀ m c, m ∈ tyNames → Γ.own c = true → ∃ cl, C.mg c = some (.ref cl) ∧ PySem.W.kitOne C.K (.type m) (.ref cl) = some false
  fld : ∀ c f, Γ.fld c f = true → ∃ cl, C.mg c = some (.ref cl) ∧ Cls C.K cl ∧ NoAttr C.K cl f
  free : ∀ x ∈ freeNames, C.mg x = none
  sys : ∃ o, base.get? sysModules = some o
  eqo : ∀ (N : List Str) (sc : Scope) (Wx : XK) (X : Cx), XOk P w C base k N sc Wx X → OpR X (compareOp .Eq) (fun vx vy H Q => ∃ W st x y, Rel C W st H ∧ Rep C W x vx ∧ Rep C W y vy ∧ (∃ c i fs, x = .ins c i fs) ∧ OQ C Wx W H (fun k _ _ H' => Q (.bl k) H') (eqO Γ x y st))
  neo : ∀ (N : List Str) (sc : Scope) (Wx : XK) (X : Cx), XOk P w C base k N sc Wx X → OpR X (compareOp .NotEq) (fun vx vy H Q => ∃ W st x y, Rel C W st H ∧ Rep C W x vx ∧ Rep C W y vy ∧ (∃ c i fs, x = .ins c i fs) ∧ OQ C Wx W H (fun k _ _ H' => Q (.bl k) H') (neO Γ x y st))
  prim : ∀ (n : Str) (f : List D → Option D), Γ.prim n = some f → ∀ (N : List Str) (sc : Scope) (Wx : XK) (X : Cx), XOk P w C base k N sc Wx X → ∀ {e : Expr} {args : List Expr} {m : Es}, primM sc n e = some args → (∀ y ∈ args, plainX y = true) → PEs C Γ Wx X m args → PE X e (tEv C Γ Wx (.prim n m))
  act : ∀ (N : List Str) (sc : Scope) (Wx : XK) (X : Cx), XOk P w C base k N sc Wx X → ∀ {i : Nat} {x : Str} {p pos : Pos}, rdB N sc i x = true → PE X (.Call (.Name x p) [] [] pos) (tEv C Γ Wx (.act i))

section
variable {P : Program} {w : World} {C : Rc} {base : Heap} {k : Nat} {N : List Str} {sc : Scope} {Wx : XK} {X : Cx} {Γ : Gm}
theorem tEv.seq {α : Type} {m a : E} {σ : Sg} {H : Hp} {Q Q' : VK} {R : D → Ms → Wd → Hp → Prop} {f : D → Ms → Out D} {W : Wd} {st : Ms} {ρ : List (Option D)} (sl : Slots C W ρ σ) (r : Rel C W st H)
    (q : OQ C Wx W H R ((ev Γ a ρ st).bind f)) (h : ∀ x s W1 H1 v, Ext W H W1 H1 → Rel C W1 s H1 → Rep C W1 x v → OQ C Wx W1 H1 R (f x s) → Q' v H1) : tEv C Γ Wx a σ H Q' :=
  ⟨W, st, ρ, sl, r, q.bind.imp fun x s W1 H1 e1 r1 q1 v p => h x s W1 H1 v e1 r1 p q1⟩
/-- the same for any goal of the outcome -/
theorem seqA {β : Type} {a : E} {σ : Sg} {H : Hp} {Q' : VK} {R : β → Ms → Wd → Hp → Prop} {f : D → Ms → Out β} {W : Wd} {st : Ms} {ρ : List (Option D)} (sl : Slots C W ρ σ) (r : Rel C W st H)
    (q : OQ C Wx W H R ((ev Γ a ρ st).bind f)) (h : ∀ x s W1 H1 v, Ext W H W1 H1 → Rel C W1 s H1 → Slots C W1 ρ σ → Rep C W1 x v → OQ C Wx W1 H1 R (f x s) → Q' v H1) : tEv C Γ Wx a σ H Q' :=
  ⟨W, st, ρ, sl, r, q.bind.imp fun x s W1 H1 e1 r1 q1 v p => h x s W1 H1 v e1 r1 (sl.le e1.le) p q1⟩

theorem l_lit {c : Const} {j : Nat} {pos : Pos} : PE X (.Constant c j pos) (tEv C Γ Wx (.lit c)) := by
  have go : ∀ (d : D) (v : V), litD c = some d → (∀ W, Rep C W d v) → PE X (.Constant c j pos) (tC v) → PE X (.Constant c j pos) (tEv C Γ Wx (.lit c)) := fun d v e p h => PE.imp h fun σ H Q ⟨W, st, ρ, sl, r, q⟩ => by
    have q' : OQ C Wx W H (RD C Q) (Out.opt (litD c) st) := q
    rw [e] at q'
    exact q' W H (.refl W H) r v (p W)
  cases c with
  | none => exact go .non .non rfl (fun _ => rfl) pe_non
  | bool b => exact go (.bl b) (.bl b) rfl (fun _ => rfl) pe_bl
  | int i => exact go (.int i) (.int i) rfl (fun _ => rfl) pe_int
  | str x => exact go (.str x) (.str x) rfl (fun _ => rfl) pe_str
  | _ => exact ⟨fun _ _ _ _ _ _ ⟨W, st, ρ, sl, r, q⟩ => False.elim q⟩
theorem l_var (o : XOk P w C base k N sc Wx X) {i : Nat} {x : Str} {pos : Pos} (hN : N[i]? = some x) (hv : visB sc x = true) (h1 : (x == ("__debug__" : Str)) = false) (h2 : (x == ("__classdict__" : Str)) = false) :
    PE X (.Name x pos) (tEv C Γ Wx (.var i)) := by
  have vis : Vis X.env.scope x := by
    rw [o.sc]
    unfold visB at hv
    simp only [Bool.or_eq_true, decide_eq_true_eq] at hv
    rcases hv with (z | z) | z
    · exact .inl z
    · exact .inr (.inl z)
    · exact .inr (.inr z)
  refine PE.imp (pe_var (i := i) (by rw [o.nm]; exact hN) vis h1 h2) fun σ H Q ⟨W, st, ρ, sl, r, q⟩ => ?_
  have q' : OQ C Wx W H (RD C Q) (Out.opt ((ρ[i]?).join) st) := q
  obtain ⟨d, e, q2⟩ := q'.opt
  have e2 : ρ[i]? = some (some d) := by
    cases z : ρ[i]? with
    | none => rw [z] at e; cases e
    | some o => rw [z] at e; cases o with
      | none => cases e
      | some d' => cases e; rfl
  obtain ⟨v, hs, rep⟩ := sl.at_ i d e2
  exact ⟨v, hs, q2 W H (.refl W H) r v rep⟩
theorem gl_of (o : XOk P w C base k N sc Wx X) {x : Str} (h : glB sc x = true) : Gl X x ∧ (x == ("__debug__" : Str)) = false ∧ x ≠ "__name__" := by
  unfold glB at h
  simp only [Bool.and_eq_true, decide_eq_true_eq, Bool.not_eq_true'] at h
  refine ⟨?_, h.1.2, fun e => ?_⟩
  · show X.env.scope.names.lookup x = _
    rw [o.sc]; exact h.1.1
  · have z := h.2
    rw [e] at z
    exact absurd z (by decide)
theorem l_con (o : XOk P w C base k N sc Wx X) (G : GOk P w C base k Γ) {x : Str} {pos : Pos} (hg : glB sc x = true) : PE X (.Name x pos) (tEv C Γ Wx (.con x)) := by
  obtain ⟨g1, g2, _⟩ := gl_of o hg
  cases e : Γ.con x with
  | none =>
    refine ⟨fun _ _ _ _ _ _ ⟨W, st, ρ, sl, r, q⟩ => ?_⟩
    have q' : OQ C Wx W _ (RD C _) (Out.opt (Γ.con x) st) := q
    rw [e] at q'
    exact False.elim q'
  | some d =>
    obtain ⟨u, v, h1, h2, h3⟩ := G.con x d e
    refine PE.imp (pe_glob g1 (by rw [o.mg]; exact h1) h2 g2) fun σ H Q ⟨W, st, ρ, sl, r, q⟩ => ?_
    have q' : OQ C Wx W H (RD C Q) (Out.opt (Γ.con x) st) := q
    rw [e] at q'
    exact q' W H (.refl W H) r v (h3 W)
theorem l_tup {es : List Expr} {m : Es} {x1 : Nat} {pos : Pos} (h : PA X es (tEvs C Γ Wx m)) : PE X (.Tuple es x1 pos) (tEv C Γ Wx (.tup m)) := by
  refine PE.imp (pe_tup h) fun σ H Q ⟨W, st, ρ, sl, r, q⟩ => ?_
  refine ⟨W, st, ρ, sl, r, q.bind.imp fun ds s W1 H1 e1 r1 q1 vs p => ?_⟩
  by_cases hz : ds.length ≤ sizeLine
  · rw [if_pos hz] at q1
    exact ⟨by rw [← p.length]; exact hz, fun a ha => q1 _ _ (ext_put r1 ha) (rel_put r1 ha) _ ⟨a, vs, rfl, .inl (.inl Wd.put_at), reps_put r1 ha p⟩⟩
  · rw [if_neg hz] at q1
    exact False.elim q1
theorem l_lst {es : List Expr} {m : Es} {pos : Pos} (h : PA X es (tEvs C Γ Wx m)) : PE X (.List es pos) (tEv C Γ Wx (.lst m)) := by
  refine PE.imp (pe_lst h) fun σ H Q ⟨W, st, ρ, sl, r, q⟩ => ?_
  refine ⟨W, st, ρ, sl, r, q.bind.imp fun ds s W1 H1 e1 r1 q1 vs p => ?_⟩
  by_cases hz : ds.length ≤ sizeLine
  · rw [if_pos hz] at q1
    exact ⟨by rw [← p.length]; exact hz, fun a ha => q1 _ _ (ext_put r1 ha) (rel_put r1 ha) _ ⟨a, vs, rfl, Wd.put_at, reps_put r1 ha p⟩⟩
  · rw [if_neg hz] at q1
    exact False.elim q1
theorem l_bin (o : XOk P w C base k N sc Wx X) {op : Operator} {a b : Expr} {m n : E} {pos : Pos} (ha : PE X a (tEv C Γ Wx m)) (hb : PE X b (tEv C Γ Wx n)) : PE X (.BinOp a op b pos) (tEv C Γ Wx (.bin op m n)) := by
  refine PE.imp (pe_op (opr_bin (Wx := Wx) (op := op) o.K) ha hb) fun σ H Q ⟨W, st, ρ, sl, r, q⟩ => ?_
  refine seqA sl r q fun x s1 W1 H1 v e1 r1 sl1 p1 q1 => ?_
  refine seqA sl1 r1 q1 fun y s2 W2 H2 u e2 r2 sl2 p2 q2 => ?_
  exact ⟨W2, s2, x, y, r2, Rep.le e2.le x v p1, p2, q2⟩
theorem un_of {f : Value → Sem Value} {g : Int → Int} (hf : UnR X f (rU fun i => .int (g i))) : UnR X f (fun vx H Q => ∃ W st x, Rel C W st H ∧ Rep C W x vx ∧ OQ C Wx W H (RD C Q) (match x with
    | .int i => Out.ok (.int (g i)) st
    | _ => .bad)) := by
  intro pins s σ H x v Q I rx h
  obtain ⟨W, st, dx, r, p, q⟩ := h
  cases dx with
  | int i =>
    have e : x = .int i := p
    subst e
    exact hf pins s σ H _ v Q I rx ⟨i, rfl, q W H (.refl W H) r _ rfl⟩
  | _ => exact False.elim q
theorem l_neg {a : Expr} {m : E} {pos : Pos} (ha : PE X a (tEv C Γ Wx m)) : PE X (.UnaryOp .USub a pos) (tEv C Γ Wx (.neg m)) := by
  refine PE.imp (pe_un (un_of (C := C) (Wx := Wx) un_neg) ha) fun σ H Q ⟨W, st, ρ, sl, r, q⟩ => ?_
  exact seqA sl r q fun x s1 W1 H1 v e1 r1 sl1 p1 q1 => ⟨W1, s1, x, r1, p1, q1⟩
theorem l_inv {a : Expr} {m : E} {pos : Pos} (ha : PE X a (tEv C Γ Wx m)) : PE X (.UnaryOp .Invert a pos) (tEv C Γ Wx (.inv m)) := by
  refine PE.imp (pe_un (un_of (C := C) (Wx := Wx) un_inv) ha) fun σ H Q ⟨W, st, ρ, sl, r, q⟩ => ?_
  exact seqA sl r q fun x s1 W1 H1 v e1 r1 sl1 p1 q1 => ⟨W1, s1, x, r1, p1, q1⟩
theorem l_not (o : XOk P w C base k N sc Wx X) {a : Expr} {m : E} {pos : Pos} (ha : PE X a (tEv C Γ Wx m)) : PE X (.UnaryOp .Not a pos) (tEv C Γ Wx (.not m)) := by
  refine PE.imp (pe_notT ha) fun σ H Q ⟨W, st, ρ, sl, r, q⟩ => ?_
  refine seqA sl r q fun x s1 W1 H1 v e1 r1 sl1 p1 q1 => ?_
  obtain ⟨b, e, q2⟩ := q1.bind.opt
  exact ⟨b, by rw [o.K]; exact tru_rep r1 e p1, q2 W1 H1 (.refl W1 H1) r1 W1 H1 (.refl W1 H1) r1 _ rfl⟩
theorem l_ifx {t a b : Expr} {mt' ma mb : E} {pos : Pos} (ht : PT X t (tEvT C Γ Wx mt')) (ha : PE X a (tEv C Γ Wx ma)) (hb : PE X b (tEv C Γ Wx mb)) : PE X (.IfExp t a b pos) (tEv C Γ Wx (.ifx mt' ma mb)) := by
  refine PE.imp (pe_ifExp ht ha hb) fun σ H Q ⟨W, st, ρ, sl, r, q⟩ => ?_
  have q' : OQ C Wx W H (RD C Q) (((ev Γ mt' ρ st).bind fun x s => Out.opt (tru x) s).bind fun k s => if k = true then ev Γ ma ρ s else ev Γ mb ρ s) := by
    have e : ∀ o : Out D, ((o.bind fun x s => Out.opt (tru x) s).bind fun k s => if k = true then ev Γ ma ρ s else ev Γ mb ρ s) = (o.bind fun x s => (Out.opt (tru x) s).bind fun k s => if k = true then ev Γ ma ρ s else ev Γ mb ρ s) := fun o => by
      cases o <;> rfl
    rw [e]; exact q
  refine ⟨W, st, ρ, sl, r, q'.bind.imp fun k s W1 H1 e1 r1 q1 => ?_⟩
  cases k with
  | true =>
    rw [if_pos rfl] at q1 ⊢
    exact ⟨W1, s, ρ, sl.le e1.le, r1, q1⟩
  | false =>
    rw [if_neg Bool.false_ne_true] at q1 ⊢
    exact ⟨W1, s, ρ, sl.le e1.le, r1, q1⟩
theorem l_ix (o : XOk P w C base k N sc Wx X) {a b : Expr} {m n : E} {pos : Pos} (ha : PE X a (tEv C Γ Wx m)) (hb : PE X b (tEv C Γ Wx n)) (hp : plainX b = true) : PE X (.Subscript a b pos) (tEv C Γ Wx (.ix m n)) := by
  refine PE.imp (pe_ix (ixr_ix (C := C) o.K) ha hb (plain_ix hp)) fun σ H Q ⟨W, st, ρ, sl, r, q⟩ => ?_
  refine seqA sl r q fun x s1 W1 H1 v e1 r1 sl1 p1 q1 => ?_
  refine seqA sl1 r1 q1 fun y s2 W2 H2 u e2 r2 sl2 p2 q2 => ?_
  obtain ⟨d, e, q3⟩ := q2.opt
  exact ⟨W2, s2, x, y, d, r2, Rep.le e2.le x v p1, p2, e, fun v' p' => q3 W2 H2 (.refl W2 H2) r2 v' p'⟩
def tEvO (C : Rc) (Γ : Gm) (Wx : XK) (m : Oe) : TO := fun σ H Q => ∃ W st ρ, Slots C W ρ σ ∧ Rel C W st H ∧ OQ C Wx W H (fun i _ _ H' => Q i H') (evo Γ m ρ st)
theorem l_no : PO X none (tEvO C Γ Wx .no) := by
  have h : PO X none tNoPart := po_none
  exact ⟨fun pins s σ H Q I ⟨W, st, ρ, sl, r, q⟩ => h.run pins s σ H Q I (q W H (.refl W H) r)⟩
theorem l_yes {e : Expr} {m : E} (h : PE X e (tEv C Γ Wx m)) : PO X (some e) (tEvO C Γ Wx (.yes m)) := by
  have h' : PO X (some e) (tPart (tEv C Γ Wx m)) := po_some h
  refine ⟨fun pins s σ H Q I ⟨W, st, ρ, sl, r, q⟩ => h'.run pins s σ H Q I ?_⟩
  refine seqA sl r q fun x s1 W1 H1 v e1 r1 sl1 p1 q1 => ?_
  cases x with
  | int i => exact ⟨i, p1, q1 W1 H1 (.refl W1 H1) r1⟩
  | _ => exact False.elim q1
theorem l_slc (o : XOk P w C base k N sc Wx X) {e : Expr} {lo hi : Option Expr} {m : E} {l h : Oe} {p2 pos : Pos} (he : PE X e (tEv C Γ Wx m)) (hl : PO X lo (tEvO C Γ Wx l)) (hh : PO X hi (tEvO C Γ Wx h)) :
    PE X (.Subscript e (.Slice lo hi none p2) pos) (tEv C Γ Wx (.slc m l h)) := by
  refine PE.imp (pe_slice (slr_sl (C := C) (Wx := Wx) o.K) he hl hh) fun σ H Q ⟨W, st, ρ, sl, r, q⟩ => ?_
  refine seqA sl r q fun x s1 W1 H1 v e1 r1 sl1 p1 q1 => ?_
  refine ⟨W1, s1, ρ, sl1, r1, q1.bind.imp fun i s2 W2 H2 e2 r2 q2 => ?_⟩
  refine ⟨W2, s2, ρ, sl1.le e2.le, r2, q2.bind.imp fun j s3 W3 H3 e3 r3 q3 => ?_⟩
  exact ⟨W3, s3, x, r3, Rep.le (e2.le.trans e3.le) x v p1, q3⟩
theorem l_bi (o : XOk P w C base k N sc Wx X) (G : GOk P w C base k Γ) {f : Bi} {y : Expr} {ys : List Expr} {m : Es} {p pos : Pos} (hg : glB sc f.name = true) (hp : ∀ x ∈ y :: ys, plainX x = true) (ha : PA X (y :: ys) (tEvs C Γ Wx m)) :
    PE X (.Call (.Name f.name p) (y :: ys) [] pos) (tEv C Γ Wx (.bi f m)) := by
  obtain ⟨g1, g2, g3⟩ := gl_of o hg
  have u := o.units
  have cr : CallR X f.val (rBi C Wx f) := callr_bi f o.K o.calm o.rm.gd (by omega) (by rw [o.base]; exact G.sys)
  have hm : X.mg f.name = none := by rw [o.mg]; exact G.free _ (by cases f <;> decide)
  have bt := f.boot
  have hs := plain_star (es := ys) (env := X.env) (hp y List.mem_cons_self)
  have ha2 := stars_any (env := X.env) (pos := pos) fun x hx => hp x (List.mem_cons_of_mem y hx)
  have fin : ∀ σ H Q, tEv C Γ Wx (.bi f m) σ H Q → tCB (rBi C Wx f) (tEvs C Γ Wx m) σ H Q := fun σ H Q ⟨W, st, ρ, sl, r, q⟩ =>
    ⟨W, st, ρ, sl, r, q.bind.imp fun ds s W1 H1 e1 r1 q1 vs p => ⟨W1, s, ds, r1, p, q1⟩⟩
  unfold Bi.val at cr bt
  by_cases ht : f.isTy = true
  · rw [if_pos ht] at cr bt
    exact PE.imp (pe_callTy cr g1 hm bt ha g3 g2 hs ha2) fin
  · rw [if_neg ht] at cr bt
    exact PE.imp (pe_callB cr g1 hm bt ha g3 g2 hs ha2) fin
theorem l_fld (o : XOk P w C base k N sc Wx X) (G : GOk P w C base k Γ) {a : Expr} {f : Str} {m : E} {pos : Pos} (ha : PE X a (tEv C Γ Wx m)) (hb : baseB a = true) : PE X (.Attribute a f pos) (tEv C Γ Wx (.fld m f)) := by
  refine PE.imp (pe_fld ha (base_of hb)) fun σ H Q ⟨W, st, ρ, sl, r, q⟩ => ?_
  refine seqA sl r q fun x s1 W1 H1 v e1 r1 sl1 p1 q1 => ?_
  obtain ⟨d, e, q2⟩ := q1.opt
  cases x with
  | ins c i fs =>
    have e' : (if Γ.fld c f = true then fs.lookup f else none) = some d := e
    split at e'
    · rename_i hf
      obtain ⟨cl, h1, h2, h3⟩ := G.fld c f hf
      obtain ⟨a', cl', dx, vs, ev, m1, m2, m3, _⟩ := p1
      rw [h1] at m1
      cases m1
      have key : ∀ (fs : List (Str × D)) (vs : List (Str × V)), RepF C W1 fs vs → fs.lookup f = some d → ∃ v, vs.lookup f = some v ∧ Rep C W1 d v := by
        intro fs
        induction fs with
        | nil => intro vs _ z; cases z
        | cons p fs ih =>
          intro vs hr z
          obtain ⟨n, d'⟩ := p
          obtain ⟨v', r', ev', p', q'⟩ := hr
          subst ev'
          rw [List.lookup_cons] at z ⊢
          cases hb : f == n with
          | true => rw [hb] at z; cases z; exact ⟨v', rfl, p'⟩
          | false => rw [hb] at z; exact ih r' q' z
      obtain ⟨v', l1, l2⟩ := key fs vs m3 e'
      exact ⟨a', cl, dx, vs, v', ev, r1.sub _ _ m2, by rw [o.K]; exact h2, by rw [o.K]; exact h3, l1, q2 W1 H1 (.refl W1 H1) r1 v' l2⟩
    · cases e'
  | _ => cases e
end
end Mp
set_option Elab.async false
set_option linter.all false
set_option maxRecDepth 100000
set_option maxHeartbeats 2000000
/-! MpSnd5: comparisons, tests, calls, comprehensions. -/
namespace Mp
open PySem PySem.Spec PyProof.Rows L2
section
variable {P : Program} {w : World} {C : Rc} {base : Heap} {k : Nat} {N : List Str} {sc : Scope} {Wx : XK} {X : Cx} {Γ : Gm}
def rCmpO (C : Rc) (Γ : Gm) (Wx : XK) (op : CmpOp) : R2 := fun vx vy H Q => ∃ W st x y, Rel C W st H ∧ Rep C W x vx ∧ Rep C W y vy ∧ OQ C Wx W H (fun k _ _ H' => Q (.bl k) H') (cmpO Γ op x y st)
theorem opr_cmpO (o : XOk P w C base k N sc Wx X) (G : GOk P w C base k Γ) (op : CmpOp) : OpR X (compareOp op) (rCmpO C Γ Wx op) := by
  have u := o.units
  have plain : ∀ op, OpR X (compareOp op) (rCmp C op) := fun op => opr_cmp o.K (by omega)
  intro pins s σ H x y v u Q I rx ry h
  obtain ⟨W, st, dx, dy, r, px, py, q⟩ := h
  have base : ∀ op, OQ C Wx W H (fun k _ _ H' => Q (.bl k) H') (Out.opt (cmpD op dx dy) st) → wpAny (model X.prog X.w) X.A (compareOp op v u) (EP X pins σ Q) X.xe s := fun op q => by
    obtain ⟨b, e, q2⟩ := q.opt
    exact plain op pins s σ H x y v u Q I rx ry ⟨W, st, dx, dy, b, r, px, py, e, q2 W H (.refl W H) r⟩
  cases op with
  | Eq =>
    cases dx with
    | ins c i fs => exact G.eqo N sc Wx X o pins s σ H x y v u Q I rx ry ⟨W, st, _, dy, r, px, py, ⟨c, i, fs, rfl⟩, q⟩
    | _ => exact base .Eq q
  | NotEq =>
    cases dx with
    | ins c i fs => exact G.neo N sc Wx X o pins s σ H x y v u Q I rx ry ⟨W, st, _, dy, r, px, py, ⟨c, i, fs, rfl⟩, q⟩
    | _ => exact base .NotEq q
  | Lt => exact base .Lt q
  | LtE => exact base .LtE q
  | Gt => exact base .Gt q
  | GtE => exact base .GtE q
  | Is => exact base .Is q
  | IsNot => exact base .IsNot q
  | In => exact base .In q
  | NotIn => exact base .NotIn q
theorem l_cmp (o : XOk P w C base k N sc Wx X) (G : GOk P w C base k Γ) {op : CmpOp} {a b : Expr} {m n : E} {pos : Pos} (ha : PE X a (tEv C Γ Wx m)) (hb : PE X b (tEv C Γ Wx n)) (hp : plainX b = true) :
    PE X (.Compare a [op] [b] pos) (tEv C Γ Wx (.cmp op m n)) ∧ PT X (.Compare a [op] [b] pos) (tEvT C Γ Wx (.cmp op m n)) := by
  refine ⟨PE.imp (pe_cmpR (opr_cmpO o G op) ha hb (plain_behind hp op)) fun σ H Q ⟨W, st, ρ, sl, r, q⟩ => ?_, PT.imp (pt_cmpR (opr_cmpO o G op) ha hb (plain_behind hp op)) fun σ H Q ⟨W, st, ρ, sl, r, q⟩ => ?_⟩
  · refine seqA sl r q fun x s1 W1 H1 v e1 r1 sl1 p1 q1 => ?_
    refine seqA sl1 r1 q1 fun y s2 W2 H2 u e2 r2 sl2 p2 q2 => ?_
    exact ⟨W2, s2, x, y, r2, Rep.le e2.le x v p1, p2, q2.bind.imp fun b s3 W3 H3 e3 r3 q3 => q3 W3 H3 (.refl W3 H3) r3 _ rfl⟩
  · have q' : OQ C Wx W H (fun k _ _ H' => Q k H') ((ev Γ m ρ st).bind fun x s => (ev Γ n ρ s).bind fun y s => cmpO Γ op x y s) := by
      have e : ((ev Γ (.cmp op m n) ρ st).bind fun x s => Out.opt (tru x) s) = ((ev Γ m ρ st).bind fun x s => (ev Γ n ρ s).bind fun y s => cmpO Γ op x y s) := by
        show ((((ev Γ m ρ st).bind fun x s => (ev Γ n ρ s).bind fun y s => (cmpO Γ op x y s).bind fun k s => .ok (.bl k) s)).bind fun x s => Out.opt (tru x) s) = _
        cases ev Γ m ρ st with
        | ok x s1 =>
          show (((ev Γ n ρ s1).bind fun y s => (cmpO Γ op x y s).bind fun k s => .ok (.bl k) s).bind fun x s => Out.opt (tru x) s) = (ev Γ n ρ s1).bind fun y s => cmpO Γ op x y s
          cases ev Γ n ρ s1 with
          | ok y s2 =>
            show (((cmpO Γ op x y s2).bind fun k s => Out.ok (.bl k) s).bind fun x s => Out.opt (tru x) s) = cmpO Γ op x y s2
            cases cmpO Γ op x y s2 <;> rfl
          | ex _ _ => rfl
          | bad => rfl
        | ex _ _ => rfl
        | bad => rfl
      rw [← e]; exact q
    refine seqA sl r q' fun x s1 W1 H1 v e1 r1 sl1 p1 q1 => ?_
    refine seqA sl1 r1 q1 fun y s2 W2 H2 u e2 r2 sl2 p2 q2 => ?_
    exact ⟨W2, s2, x, y, r2, Rep.le e2.le x v p1, p2, q2.imp fun b s3 W3 H3 e3 r3 q3 => ⟨b, rfl, q3⟩⟩
/-- as a test, by its value's truth -/
theorem l_truth (o : XOk P w C base k N sc Wx X) {e : Expr} {m : E} (h : PE X e (tEv C Γ Wx m)) (he : ∀ whole, isTrue e X.env whole = (do let v ← whole; standAt e.pos; holding [v] (truthy v))) : PT X e (tEvT C Γ Wx m) := by
  refine PT.imp (pt_truth h he) fun σ H Q ⟨W, st, ρ, sl, r, q⟩ => ?_
  refine seqA sl r q fun x s1 W1 H1 v e1 r1 sl1 p1 q1 => ?_
  obtain ⟨b, e2, q2⟩ := q1.opt
  exact ⟨b, by rw [o.K]; exact tru_rep r1 e2 p1, q2 W1 H1 (.refl W1 H1) r1⟩
theorem l_notT {a : Expr} {m : E} {pos : Pos} (ha : PT X a (tEvT C Γ Wx m)) : PT X (.UnaryOp .Not a pos) (tEvT C Γ Wx (.not m)) := by
  refine PT.imp (pt_not ha) fun σ H Q ⟨W, st, ρ, sl, r, q⟩ => ?_
  refine ⟨W, st, ρ, sl, r, ?_⟩
  have e : ((ev Γ (.not m) ρ st).bind fun x s => Out.opt (tru x) s) = ((ev Γ m ρ st).bind fun x s => Out.opt (tru x) s).bind fun k s => .ok (!k) s := by
    show (((ev Γ m ρ st).bind fun x s => (Out.opt (tru x) s).bind fun k s => .ok (.bl (!k)) s).bind fun x s => Out.opt (tru x) s) = _
    cases ev Γ m ρ st with
    | ok x s1 =>
      show (((Out.opt (tru x) s1).bind fun k s => Out.ok (D.bl (!k)) s).bind fun x s => Out.opt (tru x) s) = (Out.opt (tru x) s1).bind fun k s => .ok (!k) s
      cases tru x <;> rfl
    | ex _ _ => rfl
    | bad => rfl
  rw [e] at q
  exact q.bind.imp fun b s1 W1 H1 e1 r1 q1 => q1 W1 H1 (.refl W1 H1) r1
theorem l_ifxT {t a b : Expr} {mt' ma mb : E} {pos : Pos} (ht : PT X t (tEvT C Γ Wx mt')) (ha : PT X a (tEvT C Γ Wx ma)) (hb : PT X b (tEvT C Γ Wx mb)) : PT X (.IfExp t a b pos) (tEvT C Γ Wx (.ifx mt' ma mb)) := by
  refine ⟨fun pins s σ H Q I ⟨W, st, ρ, sl, r, q⟩ => ?_⟩
  have e : ((ev Γ (.ifx mt' ma mb) ρ st).bind fun x s => Out.opt (tru x) s) = ((ev Γ mt' ρ st).bind fun x s => Out.opt (tru x) s).bind fun k s => if k = true then (ev Γ ma ρ s).bind fun x s => Out.opt (tru x) s else (ev Γ mb ρ s).bind fun x s => Out.opt (tru x) s := by
    show (((ev Γ mt' ρ st).bind fun x s => (Out.opt (tru x) s).bind fun k s => if k = true then ev Γ ma ρ s else ev Γ mb ρ s).bind fun x s => Out.opt (tru x) s) = _
    cases ev Γ mt' ρ st with
    | ok x s1 =>
      show (((Out.opt (tru x) s1).bind fun k s => if k = true then ev Γ ma ρ s else ev Γ mb ρ s).bind fun x s => Out.opt (tru x) s) = (Out.opt (tru x) s1).bind _
      cases tru x with
      | none => rfl
      | some b => cases b <;> rfl
    | ex _ _ => rfl
    | bad => rfl
  rw [e] at q
  show wpAny _ _ (do if ← isTrue t X.env (eval t X.env) then isTrue a X.env (eval a X.env) else isTrue b X.env (eval b X.env)) _ _ s
  refine wpAny_bind (thn (ht.run pins s σ H _ I ⟨W, st, ρ, sl, r, q.bind.imp fun k s1 W1 H1 e1 r1 q1 => (show (if k = true then tEvT C Γ Wx ma σ H1 Q else tEvT C Γ Wx mb σ H1 Q) from ?_)⟩) fun c s1 ⟨H1, I1, q1⟩ => ?_)
  · cases k with
    | true => exact ⟨W1, s1, ρ, sl.le e1.le, r1, q1⟩
    | false => exact ⟨W1, s1, ρ, sl.le e1.le, r1, q1⟩
  · cases c with
    | true => exact ha.run pins s1 σ H1 Q I1 q1
    | false => exact hb.run pins s1 σ H1 Q I1 q1

/-! ### argument lists -/
theorem l_nil : PA X [] (tEvs C Γ Wx .nil) := PA.imp pa_nil fun σ H Q ⟨W, st, ρ, sl, r, q⟩ => q W H (.refl W H) r [] rfl
theorem l_cons {e : Expr} {es : List Expr} {m : E} {ms : Es} (he : PE X e (tEv C Γ Wx m)) (hs : PA X es (tEvs C Γ Wx ms)) (hp : plainX e = true) : PA X (e :: es) (tEvs C Γ Wx (.cons m ms)) := by
  refine PA.imp (pa_cons he hs (plain_star hp)) fun σ H Q ⟨W, st, ρ, sl, r, q⟩ => ?_
  refine seqA sl r q fun x s1 W1 H1 v e1 r1 sl1 p1 q1 => ?_
  exact ⟨W1, s1, ρ, sl1, r1, q1.bind.imp fun xs s2 W2 H2 e2 r2 q2 vs ps => q2 W2 H2 (.refl W2 H2) r2 _ ⟨v, vs, rfl, Rep.le e2.le x v p1, ps⟩⟩

/-! ### and, or -/
def tAndE (C : Rc) (Γ : Gm) (Wx : XK) (m : Es) : TE := fun σ H Q => ∃ W st ρ, Slots C W ρ σ ∧ Rel C W st H ∧ OQ C Wx W H (RD C Q) (evAnd Γ m ρ st)
def tOrE (C : Rc) (Γ : Gm) (Wx : XK) (m : Es) : TE := fun σ H Q => ∃ W st ρ, Slots C W ρ σ ∧ Rel C W st H ∧ OQ C Wx W H (RD C Q) (evOr Γ m ρ st)
def tAndX (C : Rc) (Γ : Gm) (Wx : XK) (m : Es) : TT := fun σ H Q => ∃ W st ρ, Slots C W ρ σ ∧ Rel C W st H ∧ OQ C Wx W H (fun k _ _ H' => Q k H') ((evAnd Γ m ρ st).bind fun x s => Out.opt (tru x) s)
def tOrX (C : Rc) (Γ : Gm) (Wx : XK) (m : Es) : TT := fun σ H Q => ∃ W st ρ, Slots C W ρ σ ∧ Rel C W st H ∧ OQ C Wx W H (fun k _ _ H' => Q k H') ((evOr Γ m ρ st).bind fun x s => Out.opt (tru x) s)
theorem oq_ok {α : Type} {R : α → Ms → Wd → Hp → Prop} {W : Wd} {H : Hp} {a : α} {s : Ms} (r : Rel C W s H) (q : OQ C Wx W H R (.ok a s)) : R a s W H := q W H (.refl W H) r
theorem l_and1 {e : Expr} {m : E} {pos : Pos} (he : PE X e (tEv C Γ Wx m)) (ht : PT X e (tEvT C Γ Wx m)) :
    (PE X (.BoolOp .And [e] pos) (tAndE C Γ Wx (.cons m .nil)) ∧ PW X (.BoolOp .And [e] pos) (tAndX C Γ Wx (.cons m .nil))) ∧ PE X (.BoolOp .Or [e] pos) (tOrE C Γ Wx (.cons m .nil)) ∧ PW X (.BoolOp .Or [e] pos) (tOrX C Γ Wx (.cons m .nil)) := by
  have e1 : ∀ ρ s, evAnd Γ (.cons m .nil) ρ s = ev Γ m ρ s := fun ρ s => by
    show (ev Γ m ρ s).bind (fun x s => .ok x s) = ev Γ m ρ s
    cases ev Γ m ρ s <;> rfl
  have e2 : ∀ ρ s, evOr Γ (.cons m .nil) ρ s = ev Γ m ρ s := fun ρ s => by
    show (ev Γ m ρ s).bind (fun x s => .ok x s) = ev Γ m ρ s
    cases ev Γ m ρ s <;> rfl
  refine ⟨⟨PE.imp (pe_one he) fun σ H Q ⟨W, st, ρ, sl, r, q⟩ => ⟨W, st, ρ, sl, r, by rw [← e1]; exact q⟩, ⟨fun wh pins s σ H Q I ⟨W, st, ρ, sl, r, q⟩ => (pw_and1 ht).run wh pins s σ H Q I ⟨W, st, ρ, sl, r, by rw [← e1]; exact q⟩⟩⟩,
    PE.imp (pe_one he) fun σ H Q ⟨W, st, ρ, sl, r, q⟩ => ⟨W, st, ρ, sl, r, by rw [← e2]; exact q⟩, ⟨fun wh pins s σ H Q I ⟨W, st, ρ, sl, r, q⟩ => (pw_or1 ht).run wh pins s σ H Q I ⟨W, st, ρ, sl, r, by rw [← e2]; exact q⟩⟩⟩
theorem bind_assoc {α β γ : Type} (o : Out α) (f : α → Ms → Out β) (g : β → Ms → Out γ) : (o.bind f).bind g = o.bind fun a s => (f a s).bind g := by cases o <;> rfl
theorem l_andC (o : XOk P w C base k N sc Wx X) {e e2 : Expr} {es : List Expr} {m m2 : E} {ms : Es} {pos : Pos} (he : PE X e (tEv C Γ Wx m)) (ht : PT X e (tEvT C Γ Wx m))
    (hs : PE X (.BoolOp .And (e2 :: es) pos) (tAndE C Γ Wx (.cons m2 ms))) (hts : PW X (.BoolOp .And (e2 :: es) pos) (tAndX C Γ Wx (.cons m2 ms))) :
    PE X (.BoolOp .And (e :: e2 :: es) pos) (tAndE C Γ Wx (.cons m (.cons m2 ms))) ∧ PW X (.BoolOp .And (e :: e2 :: es) pos) (tAndX C Γ Wx (.cons m (.cons m2 ms))) := by
  refine ⟨PE.imp (pe_andT he hs) fun σ H Q ⟨W, st, ρ, sl, r, q⟩ => ?_, ⟨fun wh pins s σ H Q I ⟨W, st, ρ, sl, r, q⟩ => (pw_and ht hts).run wh pins s σ H Q I ?_⟩⟩
  · refine seqA sl r q fun x s1 W1 H1 v e1 r1 sl1 p1 q1 => ?_
    obtain ⟨b, eb, q2⟩ := q1.bind.opt
    have q3 := q2 W1 H1 (.refl W1 H1) r1
    refine ⟨b, by rw [o.K]; exact tru_rep r1 eb p1, ?_⟩
    cases b with
    | true => exact ⟨W1, s1, ρ, sl1, r1, q3⟩
    | false => exact oq_ok r1 q3 _ p1
  · have q' : OQ C Wx W H (fun k _ _ H' => Q k H') (((ev Γ m ρ st).bind fun x s => Out.opt (tru x) s).bind fun k s => if k = true then (evAnd Γ (.cons m2 ms) ρ s).bind fun x s => Out.opt (tru x) s else .ok false s) := by
      have ee : ((evAnd Γ (.cons m (.cons m2 ms)) ρ st).bind fun x s => Out.opt (tru x) s) = (((ev Γ m ρ st).bind fun x s => Out.opt (tru x) s).bind fun k s => if k = true then (evAnd Γ (.cons m2 ms) ρ s).bind fun x s => Out.opt (tru x) s else .ok false s) := by
        show (((ev Γ m ρ st).bind fun x s => (Out.opt (tru x) s).bind fun k s => if k = true then evAnd Γ (.cons m2 ms) ρ s else .ok x s).bind fun x s => Out.opt (tru x) s) = _
        rw [bind_assoc, bind_assoc]
        cases ev Γ m ρ st with
        | ok x s1 =>
          show (((Out.opt (tru x) s1).bind fun k s => if k = true then evAnd Γ (.cons m2 ms) ρ s else .ok x s).bind fun x s => Out.opt (tru x) s) = (Out.opt (tru x) s1).bind _
          cases e : tru x with
          | none => rfl
          | some b =>
            cases b with
            | true => rfl
            | false =>
              show Out.opt (tru x) s1 = .ok false s1
              rw [e]; rfl
        | ex _ _ => rfl
        | bad => rfl
      rw [← ee]; exact q
    refine ⟨W, st, ρ, sl, r, q'.bind.imp fun b s1 W1 H1 e1 r1 q1 => ?_⟩
    cases b with
    | true => exact ⟨W1, s1, ρ, sl.le e1.le, r1, q1⟩
    | false => exact oq_ok r1 q1
theorem l_orC (o : XOk P w C base k N sc Wx X) {e e2 : Expr} {es : List Expr} {m m2 : E} {ms : Es} {pos : Pos} (he : PE X e (tEv C Γ Wx m)) (ht : PT X e (tEvT C Γ Wx m))
    (hs : PE X (.BoolOp .Or (e2 :: es) pos) (tOrE C Γ Wx (.cons m2 ms))) (hts : PW X (.BoolOp .Or (e2 :: es) pos) (tOrX C Γ Wx (.cons m2 ms))) :
    PE X (.BoolOp .Or (e :: e2 :: es) pos) (tOrE C Γ Wx (.cons m (.cons m2 ms))) ∧ PW X (.BoolOp .Or (e :: e2 :: es) pos) (tOrX C Γ Wx (.cons m (.cons m2 ms))) := by
  refine ⟨PE.imp (pe_orT he hs) fun σ H Q ⟨W, st, ρ, sl, r, q⟩ => ?_, ⟨fun wh pins s σ H Q I ⟨W, st, ρ, sl, r, q⟩ => (pw_or ht hts).run wh pins s σ H Q I ?_⟩⟩
  · refine seqA sl r q fun x s1 W1 H1 v e1 r1 sl1 p1 q1 => ?_
    obtain ⟨b, eb, q2⟩ := q1.bind.opt
    have q3 := q2 W1 H1 (.refl W1 H1) r1
    refine ⟨b, by rw [o.K]; exact tru_rep r1 eb p1, ?_⟩
    cases b with
    | true => exact oq_ok r1 q3 _ p1
    | false => exact ⟨W1, s1, ρ, sl1, r1, q3⟩
  · have q' : OQ C Wx W H (fun k _ _ H' => Q k H') (((ev Γ m ρ st).bind fun x s => Out.opt (tru x) s).bind fun k s => if k = true then .ok true s else (evOr Γ (.cons m2 ms) ρ s).bind fun x s => Out.opt (tru x) s) := by
      have ee : ((evOr Γ (.cons m (.cons m2 ms)) ρ st).bind fun x s => Out.opt (tru x) s) = (((ev Γ m ρ st).bind fun x s => Out.opt (tru x) s).bind fun k s => if k = true then .ok true s else (evOr Γ (.cons m2 ms) ρ s).bind fun x s => Out.opt (tru x) s) := by
        show (((ev Γ m ρ st).bind fun x s => (Out.opt (tru x) s).bind fun k s => if k = true then .ok x s else evOr Γ (.cons m2 ms) ρ s).bind fun x s => Out.opt (tru x) s) = _
        rw [bind_assoc, bind_assoc]
        cases ev Γ m ρ st with
        | ok x s1 =>
          show (((Out.opt (tru x) s1).bind fun k s => if k = true then .ok x s else evOr Γ (.cons m2 ms) ρ s).bind fun x s => Out.opt (tru x) s) = (Out.opt (tru x) s1).bind _
          cases e : tru x with
          | none => rfl
          | some b =>
            cases b with
            | true =>
              show Out.opt (tru x) s1 = .ok true s1
              rw [e]; rfl
            | false => rfl
        | ex _ _ => rfl
        | bad => rfl
      rw [← ee]; exact q
    refine ⟨W, st, ρ, sl, r, q'.bind.imp fun b s1 W1 H1 e1 r1 q1 => ?_⟩
    cases b with
    | true => exact oq_ok r1 q1
    | false => exact ⟨W1, s1, ρ, sl.le e1.le, r1, q1⟩
end
end Mp
set_option Elab.async false
set_option linter.all false
set_option maxRecDepth 100000
set_option maxHeartbeats 2000000
/-! MpSnd6: calls, isinstance, targets, what is walked, comprehensions; every term. -/
namespace Mp
open PySem PySem.Spec PyProof.Rows L2
section
variable {P : Program} {w : World} {C : Rc} {base : Heap} {k : Nat} {N : List Str} {sc : Scope} {Wx : XK} {X : Cx} {Γ : Gm}
theorem tEvs_nil {m : Es} {es : List Expr} {N : List Str} {sc : Scope} (h : mts N sc m es = true) (e : es = []) : ∀ σ H Q, tEvs C Γ Wx m σ H Q → Q [] H := by
  subst e
  cases m with
  | nil => exact fun σ H Q ⟨W, st, ρ, sl, r, q⟩ => q W H (.refl W H) r [] rfl
  | cons _ _ => simp [mts] at h
theorem l_call (o : XOk P w C base k N sc Wx X) (G : GOk P w C base k Γ) {f : Str} {es : List Expr} {m : Es} {p pos : Pos} (hg : glB sc f = true) (hm : mts N sc m es = true) (ha : PA X es (tEvs C Γ Wx m)) :
    PE X (.Call (.Name f p) es [] pos) (tEv C Γ Wx (.call f m)) := by
  cases e : Γ.fn f with
  | none => exact ⟨fun pins s σ H Q I ⟨W, st, ρ, sl, r, q⟩ => by
      have q' : OQ C Wx W H (RD C Q) (match Γ.fn f with
        | some d => (evs Γ m ρ st).bind d
        | none => .bad) := q
      rw [e] at q'
      exact False.elim q'⟩
  | some den =>
    obtain ⟨fa, fd, ps, h1, h2, h3, h4⟩ := G.fn f den e
    refine PE.imp (pe_den o h4 h3 hg h1 h2 (mts_plain hm) ha (tEvs_nil hm)) fun σ H Q ⟨W, st, ρ, sl, r, q⟩ => ?_
    have q' : OQ C Wx W H (RD C Q) (match Γ.fn f with
      | some d => (evs Γ m ρ st).bind d
      | none => .bad) := q
    rw [e] at q'
    exact ⟨W, st, ρ, sl, r, q'.bind.imp fun ds s W1 H1 e1 r1 q1 vs p1 => ⟨W1, s, ds, p1, r1, q1⟩⟩
theorem l_mk (o : XOk P w C base k N sc Wx X) (G : GOk P w C base k Γ) {f : Str} {es : List Expr} {m : Es} {p pos : Pos} (hg : glB sc f = true) (hm : mts N sc m es = true) (ha : PA X es (tEvs C Γ Wx m)) :
    PE X (.Call (.Name f p) es [] pos) (tEv C Γ Wx (.mk f m)) := by
  cases e : Γ.mke f with
  | none => exact ⟨fun pins s σ H Q I ⟨W, st, ρ, sl, r, q⟩ => by
      have q' : OQ C Wx W H (RD C Q) (match Γ.mke f with
        | some d => (evs Γ m ρ st).bind d
        | none => .bad) := q
      rw [e] at q'
      exact False.elim q'⟩
  | some den =>
    refine PE.imp (G.mke f den e N sc Wx X o hg (mts_plain hm) ha (tEvs_nil hm)) fun σ H Q ⟨W, st, ρ, sl, r, q⟩ => ?_
    have q' : OQ C Wx W H (RD C Q) (match Γ.mke f with
      | some d => (evs Γ m ρ st).bind d
      | none => .bad) := q
    rw [e] at q'
    exact ⟨W, st, ρ, sl, r, q'.bind.imp fun ds s W1 H1 e1 r1 q1 vs p1 => ⟨W1, s, ds, p1, r1, q1⟩⟩

theorem l_mkk (o : XOk P w C base k N sc Wx X) (G : GOk P w C base k Γ) {f : Str} {ks : List Str} {kws : List Keyword} {m : Es} {p pos : Pos} (hg : glB sc f = true) (hn : kws.map (·.arg) = ks.map some) (ha : PK X kws (tEvs C Γ Wx m)) (hl : ∀ ρ s ds s', evs Γ m ρ s = .ok ds s' → ds.length = ks.length) :
    PE X (.Call (.Name f p) [] kws pos) (tEv C Γ Wx (.mkk f ks m)) := by
  cases e : Γ.mkk f ks with
  | none => exact ⟨fun pins s σ H Q I ⟨W, st, ρ, sl, r, q⟩ => by
      have q' : OQ C Wx W H (RD C Q) (match Γ.mkk f ks with
        | some d => (evs Γ m ρ st).bind d
        | none => .bad) := q
      rw [e] at q'
      exact False.elim q'⟩
  | some den =>
    refine PE.imp (G.mkk f ks den e N sc Wx X o hg hn ha fun σ H Q ⟨W, st, ρ, sl, r, q⟩ => ⟨W, st, ρ, sl, r, ?_⟩) fun σ H Q ⟨W, st, ρ, sl, r, q⟩ => ?_
    · cases eo : evs Γ m ρ st with
      | ok ds s' =>
        rw [eo] at q
        exact fun W' H' e1 r1 vs rp => ⟨by rw [← rp.length]; exact hl _ _ _ _ eo, q W' H' e1 r1 vs rp⟩
      | ex x s' => rw [eo] at q; exact q
      | bad => rw [eo] at q; exact q
    · have q' : OQ C Wx W H (RD C Q) (match Γ.mkk f ks with
        | some d => (evs Γ m ρ st).bind d
        | none => .bad) := q
      rw [e] at q'
      exact ⟨W, st, ρ, sl, r, q'.bind.imp fun ds s W1 H1 e1 r1 q1 vs p1 => ⟨W1, s, ds, p1, r1, q1⟩⟩

/-! ### isinstance -/
theorem tyX_of {W : Wd} {st : Ms} {H : Hp} (r : Rel C W st H) {d : D} {v : V} {n : String} (h : tyD d = some n) (p : Rep C W d v) : TyX C.K H v (.type n) := by
  cases d with
  | non => cases h; have e : v = .non := p; subst e; exact .base .non
  | bl b => cases h; have e : v = .bl b := p; subst e; exact .base (.bl b)
  | int b => cases h; have e : v = .int b := p; subst e; exact .base (.int b)
  | str b => cases h; have e : v = .str b := p; subst e; exact .base (.str b)
  | tup ds =>
    cases h
    obtain ⟨a, vs, e, s, _⟩ := p
    subst e
    rcases sqT_le r.sub s with z | ⟨o, its, n, h1, h2, _⟩
    · rcases z with z | ⟨o, z⟩
      · exact .base (.tup z)
      · exact .fTuple z
    · exact .kTuple h1 h2
  | lst ds =>
    cases h
    obtain ⟨a, vs, e, s, _⟩ := p
    subst e
    exact .base (.lst (r.sub _ _ s))
  | dct ds =>
    cases h
    obtain ⟨a, vs, e, s, _⟩ := p
    subst e
    exact .base (.dK (r.sub _ _ s))
  | ins _ _ _ => cases h
  | pen => cases h
  | scr => cases h
  | lam _ => cases h
theorem tyD_mem {d : D} {n : String} (h : tyD d = some n) : n ∈ tyNames := by
  cases d <;> cases h <;> decide
/-- the class's value as it stands, as the deciders take it -/
theorem isi_spec (G : GOk P w C base k Γ) {W : Wd} {st : Ms} {H : Hp} (r : Rel C W st H) {d : D} {v : V} {c : Ic} {b : Bool} (h : isiD Γ d c = some b) (p : Rep C W d v) :
    ∃ t, TyX C.K H v t ∧ match c with
      | .ty n => PySem.W.kitOne C.K t (.type n) = some b
      | .own c => ∃ cl, C.mg c = some (.ref cl) ∧ PySem.W.kitOne C.K t (.ref cl) = some b := by
  have base : ∀ m, tyD d = some m → isiB Γ m c = some b → ∃ t, TyX C.K H v t ∧ match c with
      | .ty n => PySem.W.kitOne C.K t (.type n) = some b
      | .own c => ∃ cl, C.mg c = some (.ref cl) ∧ PySem.W.kitOne C.K t (.ref cl) = some b := fun m hm h => by
    refine ⟨_, tyX_of r hm p, ?_⟩
    cases c with
    | ty n => exact kit_ty h
    | own c =>
      have h' : (if Γ.own c = true then some false else none) = some b := h
      split at h'
      · rename_i ho
        cases h'
        exact G.tyO m c (tyD_mem hm) ho
      · cases h'
  cases d with
  | ins c' i fs =>
    have h' : (if Γ.own c' = true then (match c with
      | .own c => Γ.sub c' c
      | .ty n => Γ.isT c' n) else none) = some b := h
    by_cases ho : Γ.own c' = true
    · rw [if_pos ho] at h'
      obtain ⟨cl, o1, o2, o3, o4, o5, o6⟩ := G.own c' ho
      obtain ⟨a, cl', dx, vs, ev, m1, m2, _, _⟩ := p
      rw [o1] at m1
      cases m1
      subst ev
      refine ⟨.ref cl, .base (.ins (r.sub _ _ m2) o2 o3 o4 o5 o6), ?_⟩
      cases c with
      | own c =>
        obtain ⟨cl1, cl2, k1, k2, k3⟩ := G.sub c' c b h'
        rw [o1] at k1
        cases k1
        exact ⟨cl2, k2, k3⟩
      | ty n =>
        obtain ⟨cl1, k1, k3⟩ := G.isT c' n b h'
        rw [o1] at k1
        cases k1
        exact k3
    · rw [if_neg ho] at h'
      cases h'
  | non => exact base _ rfl h
  | bl _ => exact base _ rfl h
  | int _ => exact base _ rfl h
  | str _ => exact base _ rfl h
  | tup _ => exact base _ rfl h
  | lst _ => exact base _ rfl h
  | dct _ => exact base _ rfl h
  | pen => cases h
  | scr => cases h
  | lam _ => cases h
theorem l_isi (o : XOk P w C base k N sc Wx X) (G : GOk P w C base k Γ) {y : Expr} {z : Str} {m : E} {c : Ic} {p p2 pos : Pos} (hg : glB sc "isinstance" = true) (hz : glB sc z = true) (hy : plainX y = true) (ha : PE X y (tEv C Γ Wx m))
    (hc : (match c with
      | .ty n => decide (z ∈ freeNames) && decide (bootBuiltins z = some (.type n))
      | .own c => decide (z = c)) = true) : PE X (.Call (.Name "isinstance" p) [y, .Name z p2] [] pos) (tEv C Γ Wx (.isi m c)) := by
  obtain ⟨g1, g2, g3⟩ := gl_of o hg
  obtain ⟨z1, z2, z3⟩ := gl_of o hz
  have hm : X.mg "isinstance" = none := by rw [o.mg]; exact G.free _ (by decide)
  have hs : starEach [y, .Name z p2] X.env = (false, eval y X.env) :: starEach [.Name z p2] X.env := plain_star hy
  have hs2 : starEach [.Name z p2] X.env = [(false, eval (.Name z p2) X.env)] := rfl
  by_cases hi : icOk Γ c = true
  case neg =>
    exact ⟨fun pins s σ H Q I ⟨W, st, ρ, sl, r, q⟩ => by
      have q' : OQ C Wx W H (RD C Q) (if icOk Γ c = true then (ev Γ m ρ st).bind fun x s => (Out.opt (isiD Γ x c) s).bind fun k s => .ok (.bl k) s else .bad) := q
      rw [if_neg hi] at q'
      exact False.elim q'⟩
  have go : ∀ (v : V), PE X (.Name z p2) (tC v) → (∀ W st H x (vx : V) b, Rel C W st H → Rep C W x vx → isiD Γ x c = some b → ∃ t u, ClsV v u ∧ TyX C.K H vx t ∧ PySem.W.kitOne C.K t u = some b) →
      PE X (.Call (.Name "isinstance" p) [y, .Name z p2] [] pos) (tEv C Γ Wx (.isi m c)) := fun v hv key => by
    refine PE.imp (pe_callB (t := tCons (tEv C Γ Wx m) (tCons (tC v) tNil)) call_isi g1 hm boot_isinstance (pa_cons ha (pa_cons hv pa_nil hs2) hs) g3 g2 hs (stars_any (by intro x hx; simp at hx; subst hx; rfl))) fun σ H Q ⟨W, st, ρ, sl, r, q⟩ => ?_
    have q' : OQ C Wx W H (RD C Q) (if icOk Γ c = true then (ev Γ m ρ st).bind fun x s => (Out.opt (isiD Γ x c) s).bind fun k s => .ok (.bl k) s else .bad) := q
    rw [if_pos hi] at q'
    refine seqA sl r q' fun x s1 W1 H1 vx e1 r1 sl1 p1 q1 => ?_
    obtain ⟨b, eb, q2⟩ := q1.bind.opt
    obtain ⟨t, u, k1, k2, k3⟩ := key W1 s1 H1 x vx b r1 p1 eb
    exact ⟨vx, v, t, u, b, rfl, k1, by rw [o.K]; exact k2, by rw [o.K]; exact k3, oq_ok r1 (q2 W1 H1 (.refl W1 H1) r1) _ rfl⟩
  cases c with
  | ty n =>
    simp only [Bool.and_eq_true, decide_eq_true_eq] at hc
    refine go (.ty n) (pe_bltn z1 (by rw [o.mg]; exact G.free z hc.1) hc.2 rfl z3 z2) fun W st H x vx b r p e => ?_
    obtain ⟨t, t1, t2⟩ := isi_spec G r e p
    exact ⟨t, .type n, .ty n, t1, t2⟩
  | own c =>
    have ez : z = c := of_decide_eq_true hc
    subst ez
    obtain ⟨cl, o1, _⟩ := G.own z hi
    refine go (.ref cl) (pe_glob z1 (by rw [o.mg]; exact o1) rfl z2) fun W st H x vx b r p e => ?_
    obtain ⟨t, t1, cl2, t2, t3⟩ := isi_spec G r e p
    rw [o1] at t2
    cases t2
    exact ⟨t, .ref cl, .own cl, t1, t3⟩

/-! ### targets -/
structure SlotsOff (C : Rc) (W : Wd) (is : List Nat) (ρ : List (Option D)) (σ : Sg) : Prop where
  len : ρ.length = σ.length
  at_ : ∀ (i : Nat) (d : D), i ∉ is → ρ[i]? = some (some d) → ∃ v, σ[i]? = some (some v) ∧ Rep C W d v
theorem Slots.off {W : Wd} {is : List Nat} {ρ : List (Option D)} {σ : Sg} (s : Slots C W ρ σ) : SlotsOff C W is ρ σ := ⟨s.len, fun i d _ e => s.at_ i d e⟩
theorem SlotsOff.wipe {W : Wd} {is : List Nat} {ρ : List (Option D)} {σ : Sg} (s : SlotsOff C W is ρ σ) : SlotsOff C W is ρ (L2.wipe σ is) :=
  ⟨by rw [wipe_length]; exact s.len, fun i d h e => by rw [wipe_out h]; exact s.at_ i d h e⟩
theorem SlotsOff.set {W : Wd} {is : List Nat} {ρ : List (Option D)} {σ : Sg} {i : Nat} (s : SlotsOff C W (i :: is) ρ σ) {d : D} {v : V} (r : Rep C W d v) : SlotsOff C W is (ρ.set i (some d)) (σ.set i (some v)) := by
  refine ⟨by simp [s.len], fun j e h q => ?_⟩
  by_cases hj : i = j
  · subst hj
    by_cases hi : i < ρ.length
    · rw [List.getElem?_set_self hi] at q
      cases q
      exact ⟨v, List.getElem?_set_self (by rw [← s.len]; exact hi), r⟩
    · rw [List.getElem?_eq_none (by simpa using hi)] at q
      cases q
  · rw [List.getElem?_set_ne hj] at q ⊢
    exact s.at_ j e (by simp only [List.mem_cons, not_or]; exact ⟨fun z => hj z.symm, h⟩) q
theorem wipe_at {σ : Sg} {is : List Nat} {j : Nat} : (L2.wipe σ is)[j]? = if j ∈ is then (σ[j]?).map (fun _ => none) else σ[j]? := by
  induction is with
  | nil => simp [L2.wipe]
  | cons i is ih =>
    unfold L2.wipe
    by_cases hj : i = j
    · subst hj
      rw [if_pos List.mem_cons_self]
      by_cases hi : i < σ.length
      · rw [List.getElem?_set_self (by rw [wipe_length]; exact hi), List.getElem?_eq_getElem hi]; rfl
      · rw [List.getElem?_eq_none (by rw [List.length_set, wipe_length]; omega), List.getElem?_eq_none (by omega)]; rfl
    · rw [List.getElem?_set_ne hj, ih]
      have e : (j ∈ i :: is) ↔ j ∈ is := by
        simp only [List.mem_cons]
        exact ⟨fun z => z.elim (fun z => absurd z.symm hj) id, .inr⟩
      by_cases h : j ∈ is
      · rw [if_pos h, if_pos (e.mpr h)]
      · rw [if_neg h, if_neg fun z => h (e.mp z)]
theorem wipe_set {σ : Sg} {is : List Nat} {i : Nat} {x : Option V} (h : i ∈ is) : L2.wipe (σ.set i x) is = L2.wipe σ is := by
  apply List.ext_getElem?
  intro j
  rw [wipe_at, wipe_at]
  by_cases hj : i = j
  · subst hj
    rw [if_pos h, if_pos h]
    by_cases hi : i < σ.length
    · rw [List.getElem?_set_self hi, List.getElem?_eq_getElem hi]; rfl
    · rw [List.getElem?_eq_none (by simpa using hi), List.getElem?_eq_none (by omega)]
  · rw [List.getElem?_set_ne hj]
theorem wipe_wipe {σ : Sg} {is : List Nat} : L2.wipe (L2.wipe σ is) is = L2.wipe σ is := by
  apply List.ext_getElem?
  intro j
  rw [wipe_at, wipe_at]
  by_cases h : j ∈ is
  · rw [if_pos h, if_pos h]
    cases σ[j]? <;> rfl
  · rw [if_neg h, if_neg h]
/-- a target's reading -/
def tTg (C : Rc) (t : Tg) : TG := fun v σ H Q => ∃ W st d ρ ρ', Rel C W st H ∧ Rep C W d v ∧ SlotsOff C W t.slots ρ σ ∧ bindT t d ρ = some ρ' ∧ ∀ σ', Slots C W ρ' σ' → L2.wipe σ' t.slots = L2.wipe σ t.slots → Q σ' H
theorem off_nil {W : Wd} {ρ : List (Option D)} {σ : Sg} (s : SlotsOff C W [] ρ σ) : Slots C W ρ σ := ⟨s.len, fun i d e => s.at_ i d (by simp) e⟩
def TgFn (X : Cx) (N : List Str) (is : List Nat) : Prop := ∀ i ∈ is, ∀ x, N[i]? = some x → X.fn x = true ∨ X.env.scope.names.lookup x = some .local
theorem pg_one (o : X.N = N) (nd : N.Nodup) {sc : Scope} (hs : ∀ x, locB sc x = true → Loc X.env.scope x) {i : Nat} {e : Expr} (h : mtTg1 N sc i e = true) (hf : TgFn X N [i]) : PG X e (gName i) := by
  cases e with
  | Name x pos =>
    have h' : (decide (N[i]? = some x) && locB sc x) = true := h
    simp only [Bool.and_eq_true, decide_eq_true_eq] at h'
    subst o
    exact pg_name nd h'.1 (hs x h'.2) (hf i List.mem_cons_self x h'.1)
  | _ => simp [mtTg1] at h
def gNames : List Nat → TGs
  | [] => gNil
  | i :: is => gCons (gName i) (gNames is)
theorem mtTg1_plain {N : List Str} {sc : Scope} {i : Nat} {e : Expr} (h : mtTg1 N sc i e = true) : plainX e = true := by
  cases e <;> first | rfl | simp [mtTg1] at h
theorem asg_cons {e : Expr} {es : List Expr} {env : Env} (h : plainX e = true) : assignEach (e :: es) env = (false, assign e env) :: assignEach es env := by
  cases e <;> first | rfl | cases h
theorem pgs_many (o : X.N = N) (nd : N.Nodup) {sc : Scope} (hs : ∀ x, locB sc x = true → Loc X.env.scope x) : ∀ (is : List Nat) (es : List Expr), mtTgs N sc is es = true → TgFn X N is →
    PGs X es (gNames is) ∧ (assignEach es X.env).length = is.length ∧ (assignEach es X.env).findIdx? (·.1) = none
  | [], [], _, _ => ⟨pgs_nil, rfl, rfl⟩
  | [], _ :: _, h, _ => by simp [mtTgs] at h
  | _ :: _, [], h, _ => by simp [mtTgs] at h
  | i :: is, e :: es, h, hf => by
    simp only [mtTgs, Bool.and_eq_true] at h
    obtain ⟨h1, h2, h3⟩ := pgs_many o nd hs is es h.2 fun j hj => hf j (List.mem_cons_of_mem _ hj)
    have hp := mtTg1_plain h.1
    have ea := asg_cons (es := es) (env := X.env) hp
    refine ⟨pgs_cons (pg_one o nd hs h.1 fun j hj => hf j (by simp at hj; subst hj; exact List.mem_cons_self)) h1 (by rw [ea]; rfl), ?_, ?_⟩
    · rw [ea, List.length_cons, h2, List.length_cons]
    · rw [ea, List.findIdx?_cons, h3]; rfl
theorem names_ok {W : Wd} {H : Hp} {Q : Sg → Hp → Prop} : ∀ (is : List Nat) (ds : List D) (vs : List V) (ρ ρ' : List (Option D)) (σ σ0 : Sg) (all : List Nat), putAll is ds ρ = some ρ' → Reps C W ds vs → SlotsOff C W is ρ σ → (∀ i ∈ is, i ∈ all) →
    L2.wipe σ all = L2.wipe σ0 all → (∀ σ', Slots C W ρ' σ' → L2.wipe σ' all = L2.wipe σ0 all → Q σ' H) → gNames is vs σ H Q ∧ is.length = vs.length
  | [], ds, vs, ρ, ρ', σ, σ0, all, h, r, s, _, e, q => by
    cases ds with
    | nil =>
      have e1 : vs = [] := r
      subst e1
      have e2 : ρ = ρ' := Option.some.inj h
      subst e2
      exact ⟨⟨rfl, q σ (off_nil s) e⟩, rfl⟩
    | cons _ _ => cases h
  | i :: is, ds, vs, ρ, ρ', σ, σ0, all, h, r, s, m, e, q => by
    cases ds with
    | nil => cases h
    | cons d ds =>
      obtain ⟨v, vr, ev, p, t⟩ := r
      subst ev
      obtain ⟨k1, k2⟩ := names_ok (H := H) (Q := Q) is ds vr (ρ.set i (some d)) ρ' (σ.set i (some v)) σ0 all h t (s.set p) (fun j hj => m j (List.mem_cons_of_mem _ hj)) (by rw [wipe_set (m i List.mem_cons_self)]; exact e) q
      exact ⟨⟨v, vr, rfl, k1⟩, by rw [List.length_cons, List.length_cons, k2]⟩
theorem PG.or {tg : Expr} {g g' : TG} (h : PG X tg g) (h' : PG X tg g') : PG X tg (fun v σ H Q => g v σ H Q ∨ g' v σ H Q) :=
  ⟨fun pins s σ H v u Q I r q => q.elim (fun q => h.run pins s σ H v u Q I r q) fun q => h'.run pins s σ H v u Q I r q⟩
theorem PG.imp {tg : Expr} {g g' : TG} (h : PG X tg g) (i : ∀ v σ H Q, g' v σ H Q → g v σ H Q) : PG X tg g' := ⟨fun pins s σ H v u Q I r q => h.run pins s σ H v u Q I r (i v σ H Q q)⟩
theorem l_tg (hc : X.calm = true) (hK : X.K = C.K) (o : X.N = N) (nd : N.Nodup) {sc : Scope} (hs : ∀ x, locB sc x = true → Loc X.env.scope x) {t : Tg} {e : Expr} (h : mtTg N sc t e = true) (hf : TgFn X N t.slots) : PG X e (tTg C t) := by
  cases t with
  | v i =>
    refine PG.imp (pg_one o nd hs h hf) fun v σ H Q ⟨W, st, d, ρ, ρ', r, p, s, b, q⟩ => ?_
    have eb : ρ.set i (some d) = ρ' := Option.some.inj b
    subst eb
    exact q _ (off_nil (s.set p)) (wipe_set List.mem_cons_self)
  | t is =>
    cases e with
    | Tuple es kk pos =>
      have h' : (mtTgs N sc is es && decide is.Nodup) = true := h
      simp only [Bool.and_eq_true] at h'
      obtain ⟨h1, h2, h3⟩ := pgs_many o nd hs is es h'.1 hf
      refine PG.imp (PG.or (pg_tup (k := kk) (pos := pos) hc h1 h2 h3) (pg_unl (k := kk) (pos := pos) hc h1 h2 h3)) fun v σ H Q ⟨W, st, d, ρ, ρ', r, p, s, b, q⟩ => ?_
      cases d with
      | tup ds =>
        obtain ⟨a, vs, ev, sa, qa⟩ := p
        obtain ⟨k1, k2⟩ := names_ok is ds vs ρ ρ' σ σ is b qa s (fun _ z => z) rfl q
        exact .inl ⟨a, vs, ev, by rw [hK]; exact sqT_le r.sub sa, k2.symm, k1⟩
      | lst ds =>
        obtain ⟨a, vs, ev, sa, qa⟩ := p
        obtain ⟨k1, k2⟩ := names_ok is ds vs ρ ρ' σ σ is b qa s (fun _ z => z) rfl q
        exact .inr ⟨a, vs, ev, .of (r.sub _ _ sa), k2.symm, k1⟩
      | _ => cases b
    | _ => simp [mtTg] at h
end
end Mp
set_option Elab.async false
set_option linter.all false
set_option maxRecDepth 100000
set_option maxHeartbeats 2000000
/-! MpSnd7: what is walked, comprehensions; every term keeps its reading. -/
namespace Mp
open PySem PySem.Spec PyProof.Rows L2
section
variable {P : Program} {w : World} {C : Rc} {base : Heap} {k : Nat} {N : List Str} {sc : Scope} {Wx : XK} {X : Cx} {Γ : Gm}
/-- a walk that yields these data -/
def DWalk (C : Rc) (W : Wd) (J : L2.It) (ds : List D) : Prop :=
  ∃ (Gp : Hp → Prop) (Y : Nat → Hp → V → Hp → Prop), Walk J ds.length Gp Y ∧ (∀ W' st H, Le W W' → Rel C W' st H → Gp H) ∧
    ∀ i W' st H x H', i < ds.length → Le W W' → Rel C W' st H → Y i H x H' → ∃ W'' d, Ext W' H W'' H' ∧ Rel C W'' st H' ∧ ds[i]? = some d ∧ Rep C W'' d x
theorem dwalk_list {W : Wd} {a : Addr} {vs : List V} {ds : List D} (h : W.G a = some (.lst vs)) (q : Reps C W ds vs) : DWalk C W (Itl C.K a) ds := by
  refine ⟨fun H => SqL C.K H a vs, YAt vs, by rw [q.length]; exact walk_list, fun W' st H l r => .of (r.sub _ _ (l.G _ _ h)), fun i W' st H x H' hi l r y => ?_⟩
  obtain ⟨e, hx⟩ := y
  subst e
  obtain ⟨d, h1, h2⟩ := (Reps.le l _ _ q).get' hx
  exact ⟨W', d, .refl _ _, r, h1, h2⟩
theorem dwalk_tup {W : Wd} {a : Addr} {vs : List V} {ds : List D} (h : SqT C.K W.G a vs) (q : Reps C W ds vs) : DWalk C W (Itt C.K a) ds := by
  refine ⟨fun H => SqT C.K H a vs, YAt vs, by rw [q.length]; exact walk_tup, fun W' st H l r => sqT_le r.sub (sqT_le l.G h), fun i W' st H x H' hi l r y => ?_⟩
  obtain ⟨e, hx⟩ := y
  subst e
  obtain ⟨d, h1, h2⟩ := (Reps.le l _ _ q).get' hx
  exact ⟨W', d, .refl _ _, r, h1, h2⟩
theorem rngD_len {lo : Int} {n : Nat} : (rngD lo n).length = n := by simp [rngD]
theorem dwalk_rng {W : Wd} {lo : Int} {n : Nat} : DWalk C W (Itr lo n) (rngD lo n) := by
  refine ⟨fun _ => True, YFn fun i => .int (lo + i), by rw [rngD_len]; exact walk_range, fun _ _ _ _ _ => trivial, fun i W' st H x H' hi l r y => ?_⟩
  obtain ⟨e, hx⟩ := y
  subst e
  rw [rngD_len] at hi
  refine ⟨W', .int (lo + i), .refl _ _, r, ?_, hx⟩
  unfold rngD
  rw [List.getElem?_map, List.getElem?_range hi]; rfl
def zipD (xs ys : List D) : List D := (xs.zip ys).map fun p => D.tup [p.1, p.2]
theorem zipD_at {xs ys : List D} {i : Nat} {x y : D} (h1 : xs[i]? = some x) (h2 : ys[i]? = some y) : (zipD xs ys)[i]? = some (.tup [x, y]) := by
  unfold zipD
  rw [List.getElem?_map, List.getElem?_zip_eq_some.mpr (show xs[i]? = some (x, y).1 ∧ ys[i]? = some (x, y).2 from ⟨h1, h2⟩)]; rfl
theorem zipD_len {xs ys : List D} : (zipD xs ys).length = min xs.length ys.length := by simp [zipD]
theorem pair_turn {W W' : Wd} {st : Ms} {H H' : Hp} {vs ws : List V} {xs ys : List D} {i : Nat} {v : V} (l : Le W W') (r : Rel C W' st H) (qx : Reps C W xs vs) (qy : Reps C W ys ws) (y : YPair (fun i => vs[i]?) (fun i => ws[i]?) i H v H') :
    ∃ W'' d, Ext W' H W'' H' ∧ Rel C W'' st H' ∧ (zipD xs ys)[i]? = some d ∧ Rep C W'' d v := by
  obtain ⟨T, x, z, ev, hT, eH, h1, h2⟩ := y
  subst ev eH
  obtain ⟨d1, g1, p1⟩ := (Reps.le l _ _ qx).get' h1
  obtain ⟨d2, g2, p2⟩ := (Reps.le l _ _ qy).get' h2
  refine ⟨W'.put T (.tup [x, z]), .tup [d1, d2], ext_put r hT, rel_put r hT, zipD_at g1 g2, T, [x, z], rfl, .inl (.inl Wd.put_at), ?_⟩
  exact reps_put r hT ⟨x, [z], rfl, p1, z, [], rfl, p2, rfl⟩
theorem dwalk_zipL {W : Wd} {a b : Addr} {vs ws : List V} {xs ys : List D} (ha : W.G a = some (.lst vs)) (hb : W.G b = some (.lst ws)) (qx : Reps C W xs vs) (qy : Reps C W ys ws) : DWalk C W (Itz C.K a b) (zipD xs ys) := by
  refine ⟨fun H => SqL C.K H a vs ∧ SqL C.K H b ws, YPair (fun i => vs[i]?) (fun i => ws[i]?), walk_zip (by rw [zipD_len, qx.length, qy.length]), fun W' st H l r => ⟨.of (r.sub _ _ (l.G _ _ ha)), .of (r.sub _ _ (l.G _ _ hb))⟩, fun i W' st H x H' hi l r y => pair_turn l r qx qy y⟩
theorem walk_zipT {K : PySem.W.Frag} {a b : Addr} {xs ys : List V} {n : Nat} (hn : n = min xs.length ys.length) : Walk (RZ.ItzT K a b) n (fun H => SqT K H a xs ∧ SqT K H b ys) (YPair (fun i => xs[i]?) (fun i => ys[i]?)) := by
  subst hn
  refine ⟨fun i _ hi q => ?_, fun _ q => ⟨xs, ys, q.1, q.2, by omega⟩, fun i H v H' _ q y => ?_⟩
  · have h1 : i < xs.length := by omega
    have h2 : i < ys.length := by omega
    exact ⟨xs, ys, xs[i], ys[i], q.1, q.2, by simp [h1], by simp [h2]⟩
  · obtain ⟨T, x, z, h1, h2, h3, h4, h5⟩ := y
    exact ⟨T, x, z, h1, h2, h3, h4 xs q.1, h5 ys q.2⟩
theorem dwalk_zipT {W : Wd} {a b : Addr} {vs ws : List V} {xs ys : List D} (ha : SqT C.K W.G a vs) (hb : SqT C.K W.G b ws) (qx : Reps C W xs vs) (qy : Reps C W ys ws) : DWalk C W (RZ.ItzT C.K a b) (zipD xs ys) := by
  refine ⟨fun H => SqT C.K H a vs ∧ SqT C.K H b ws, YPair (fun i => vs[i]?) (fun i => ws[i]?), walk_zipT (by rw [zipD_len, qx.length, qy.length]), fun W' st H l r => ⟨sqT_le r.sub (sqT_le l.G ha), sqT_le r.sub (sqT_le l.G hb)⟩, fun i W' st H x H' hi l r y => pair_turn l r qx qy y⟩

/-- what is walked: its reading -/
def tEvI (C : Rc) (Γ : Gm) (Wx : XK) (m : It) : TI := fun σ H R => ∃ W st ρ, Slots C W ρ σ ∧ Rel C W st H ∧ OQ C Wx W H (fun ds _ W' H' => ∀ J, DWalk C W' J ds → R J H') (evi Γ m ρ st)
def iSeq (K : PySem.W.Frag) (tl : TE) : TI := fun σ H R => tl σ H fun x H1 => (∃ a xs, x = .ref a ∧ SqL K H1 a xs ∧ R (Itl K a) H1) ∨ ∃ a xs, x = .ref a ∧ SqT K H1 a xs ∧ R (Itt K a) H1
theorem pi_seq {tg l : Expr} {tl : TE} (hl : PE X l tl) : PI X tg l (iSeq X.K tl) := by
  refine ⟨fun pins s σ H R I h => thn (hl.run pins s σ H _ I h) fun v s1 ⟨x, H1, I1, r1, q1⟩ => ?_⟩
  have one : ∀ b ∈ [s1.heap.objs.size], FpOk X pins H1 b := fun b hb => by
    have e : b = s1.heap.objs.size := List.mem_singleton.mp hb
    rw [e]
    exact I1.fpOk (Nat.le_refl _) (I1.hok.fresh (Nat.le_refl _))
  rcases q1 with ⟨a, xs, e, hq, q⟩ | ⟨a, xs, e, hq, q⟩
  · subst e
    cases r1
    obtain ⟨its, _, p, _⟩ := I1.list hq
    exact wpAny_pyIter_list p.isList ⟨_, _, _, _, H1, rfl, I1.kept (t' := s1.toks) fun b o e => Heap.get?_push_of_some _ e, turn_list a _, ⟨_, Heap.get?_push_size _ rfl, rfl, rfl⟩, one, q⟩
  · subst e
    cases r1
    obtain ⟨its, _, p, _⟩ := I1.tuple hq
    exact wpAny_pyIter_tuple (show s1.heap.IsTuple a its.toArray from p) ⟨_, _, _, _, H1, rfl, I1.kept (t' := s1.toks) fun b o e => Heap.get?_push_of_some _ e, turn_tuple a _, ⟨_, Heap.get?_push_size _ rfl, rfl, rfl⟩, one, q⟩
theorem i_seq (o : XOk P w C base k N sc Wx X) {tg e : Expr} {m : E} (h : PE X e (tEv C Γ Wx m)) : PI X tg e (tEvI C Γ Wx (.e m)) := by
  refine PI.imp (pi_seq h) fun σ H R ⟨W, st, ρ, sl, r, q⟩ => ?_
  refine seqA sl r q fun x s1 W1 H1 v e1 r1 sl1 p1 q1 => ?_
  obtain ⟨ds, ed, q2⟩ := q1.opt
  have q3 := q2 W1 H1 (.refl W1 H1) r1
  rw [o.K]
  cases x with
  | tup xs =>
    cases ed
    obtain ⟨a, vs, ev, sa, qa⟩ := p1
    exact .inr ⟨a, vs, ev, sqT_le r1.sub sa, q3 _ (dwalk_tup sa qa)⟩
  | lst xs =>
    cases ed
    obtain ⟨a, vs, ev, sa, qa⟩ := p1
    exact .inl ⟨a, vs, ev, .of (r1.sub _ _ sa), q3 _ (dwalk_list sa qa)⟩
  | _ => cases ed
theorem bnd_of {i : Int} (h : bnd62 i = true) : -(2 ^ 62) ≤ i ∧ i < 2 ^ 62 := of_decide_eq_true h
theorem i_rng1 (o : XOk P w C base k N sc Wx X) (G : GOk P w C base k Γ) {tg a : Expr} {m : E} {p pos : Pos} (hg : glB sc "range" = true) (hp : plainX a = true) (h : PE X a (tEv C Γ Wx m)) : PI X tg (.Call (.Name "range" p) [a] [] pos) (tEvI C Γ Wx (.rng1 m)) := by
  obtain ⟨g1, g2, g3⟩ := gl_of o hg
  have hm : X.mg "range" = none := by rw [o.mg]; exact G.free _ (by decide)
  refine PI.imp (pi_range1 (ta := tCons (tEv C Γ Wx m) tNil) g1 hm (pa_cons h pa_nil (plain_star hp)) (plain_star hp)) fun σ H R ⟨W, st, ρ, sl, r, q⟩ => ?_
  refine seqA sl r q fun x s1 W1 H1 v e1 r1 sl1 p1 q1 => ?_
  cases x with
  | int i =>
    have ev : v = .int i := p1
    subst ev
    by_cases hb : bnd62 i = true
    · have q2 : OQ C Wx W1 H1 (fun ds _ W' H' => ∀ J, DWalk C W' J ds → R J H') (if bnd62 i = true then .ok (rngD 0 i.toNat) s1 else .bad) := q1
      rw [if_pos hb] at q2
      exact ⟨i, rfl, (bnd_of hb).1, (bnd_of hb).2, oq_ok r1 q2 _ dwalk_rng⟩
    · have q2 : OQ C Wx W1 H1 (fun ds _ W' H' => ∀ J, DWalk C W' J ds → R J H') (if bnd62 i = true then .ok (rngD 0 i.toNat) s1 else .bad) := q1
      rw [if_neg hb] at q2
      exact False.elim q2
  | _ => exact False.elim q1
theorem i_rng2 (o : XOk P w C base k N sc Wx X) (G : GOk P w C base k Γ) {tg a b : Expr} {m n : E} {p pos : Pos} (hg : glB sc "range" = true) (hp : plainX a = true) (hp2 : plainX b = true) (h : PE X a (tEv C Γ Wx m)) (h2 : PE X b (tEv C Γ Wx n)) :
    PI X tg (.Call (.Name "range" p) [a, b] [] pos) (tEvI C Γ Wx (.rng2 m n)) := by
  obtain ⟨g1, g2, g3⟩ := gl_of o hg
  have hm : X.mg "range" = none := by rw [o.mg]; exact G.free _ (by decide)
  have s2 : starEach [b] X.env = [(false, eval b X.env)] := plain_star hp2
  refine PI.imp (pi_range2 (ta := tCons (tEv C Γ Wx m) (tCons (tEv C Γ Wx n) tNil)) g1 hm (pa_cons h (pa_cons h2 pa_nil s2) (plain_star hp)) (by rw [plain_star hp, s2]) s2) fun σ H R ⟨W, st, ρ, sl, r, q⟩ => ?_
  refine seqA sl r q fun x s1 W1 H1 v e1 r1 sl1 p1 q1 => ?_
  refine seqA sl1 r1 q1 fun y s2 W2 H2 u e2 r2 sl2 p2 q2 => ?_
  cases x with
  | int i =>
    cases y with
    | int j =>
      have ev : v = .int i := p1
      have eu : u = .int j := p2
      subst ev eu
      have q3 : OQ C Wx W2 H2 (fun ds _ W' H' => ∀ J, DWalk C W' J ds → R J H') (if bnd62 i = true ∧ bnd62 j = true then .ok (rngD i (j - i).toNat) s2 else .bad) := q2
      by_cases hb : bnd62 i = true ∧ bnd62 j = true
      · rw [if_pos hb] at q3
        exact ⟨i, j, rfl, ⟨(bnd_of hb.1).1, (bnd_of hb.1).2, (bnd_of hb.2).1, (bnd_of hb.2).2⟩, oq_ok r2 q3 _ dwalk_rng⟩
      · rw [if_neg hb] at q3
        exact False.elim q3
    | _ => exact False.elim q2
  | _ => exact False.elim q2
theorem i_zip (o : XOk P w C base k N sc Wx X) (G : GOk P w C base k Γ) {elts : List Expr} {kk : Nat} {tpos : Pos} {a b : Expr} {m n : E} {p pos : Pos} (hg : glB sc "zip" = true) (hp : plainX a = true) (hp2 : plainX b = true) (h : PE X a (tEv C Γ Wx m)) (h2 : PE X b (tEv C Γ Wx n)) :
    PI X (.Tuple elts kk tpos) (.Call (.Name "zip" p) [a, b] [] pos) (tEvI C Γ Wx (.zip m n)) := by
  obtain ⟨g1, g2, g3⟩ := gl_of o hg
  have hm : X.mg "zip" = none := by rw [o.mg]; exact G.free _ (by decide)
  have s2 : starEach [b] X.env = [(false, eval b X.env)] := plain_star hp2
  refine PI.imp (RZ.pi_zipA (ta := tCons (tEv C Γ Wx m) (tCons (tEv C Γ Wx n) tNil)) g1 hm (pa_cons h (pa_cons h2 pa_nil s2) (plain_star hp)) (plain_star hp) (by rw [s2]; rfl)) fun σ H R ⟨W, st, ρ, sl, r, q⟩ => ?_
  refine seqA sl r q fun x s1 W1 H1 v e1 r1 sl1 p1 q1 => ?_
  refine seqA sl1 r1 q1 fun y s2 W2 H2 u e2 r2 sl2 p2 q2 => ?_
  have p1' := Rep.le e2.le x v p1
  rw [o.K]
  cases x with
  | tup xs =>
    cases y with
    | tup ys =>
      obtain ⟨a1, vs, ev, sa, qa⟩ := p1'
      obtain ⟨b1, ws, eu, sb, qb⟩ := p2
      subst ev eu
      exact ⟨a1, b1, vs, ws, rfl, .inr ⟨sqT_le r2.sub sa, sqT_le r2.sub sb, oq_ok r2 q2 _ (dwalk_zipT sa sb qa qb)⟩⟩
    | _ => exact False.elim q2
  | lst xs =>
    cases y with
    | lst ys =>
      obtain ⟨a1, vs, ev, sa, qa⟩ := p1'
      obtain ⟨b1, ws, eu, sb, qb⟩ := p2
      subst ev eu
      exact ⟨a1, b1, vs, ws, rfl, .inl ⟨.of (r2.sub _ _ sa), .of (r2.sub _ _ sb), oq_ok r2 q2 _ (dwalk_zipL sa sb qa qb)⟩⟩
    | _ => exact False.elim q2
  | _ => exact False.elim q2

/-- an own list that is not known yet changes -/
theorem rel_chg {W : Wd} {st : Ms} {H : Hp} (r : Rel C W st H) {p : Addr} {o : HO} {vs : List V} (h : W.G p = none) (hp : H p = some (.lst vs)) : Rel C W st (upd H p o) where
  sub := fun a u e => by
    have n : a ≠ p := fun z => by rw [z, h] at e; cases e
    rw [upd_ne n]; exact r.sub a u e
  pen := fun x hx => by
    obtain ⟨q, h1, h2, h3, h4⟩ := r.pen x hx
    have n : x.1 ≠ p := fun z => by rw [z, hp] at h2; cases h2
    exact ⟨q, h1, by rw [upd_ne n]; exact h2, h3, h4⟩
  penE := r.penE
  nid := r.nid
  idlt := r.idlt
  idinj := r.idinj
  envE := r.envE
  env := r.env
theorem ext_chg {W W' : Wd} {H H' : Hp} (e : Ext W H W' H') {p : Addr} {o : HO} (h : H p = none) : Ext W H W' (upd H' p o) where
  le := e.le
  keep := fun a u z n => by
    have ne : a ≠ p := fun q => by rw [q, h] at z; cases z
    rw [upd_ne ne]; exact e.keep a u z n
  dom := fun a z => by
    by_cases q : a = p
    · rw [q]; exact h
    · rw [upd_ne q] at z; exact e.dom a z
  newG := e.newG
  scr := e.scr
theorem lst_stays {W W' : Wd} {st : Ms} {H H' : Hp} (r : Rel C W st H) (e : Ext W H W' H') {p : Addr} {vs : List V} (h : W.G p = none) (hp : H p = some (.lst vs)) : H' p = some (.lst vs) ∧ W'.G p = none := by
  refine ⟨e.keep p _ hp fun x hx z => ?_, ?_⟩
  · obtain ⟨q, _, h2, _⟩ := r.pen x hx
    rw [← z, hp] at h2
    cases h2
  · cases q : W'.G p with
    | none => rfl
    | some o =>
      rcases e.newG p o q with z | z
      · rw [h] at z; cases z
      · rw [hp] at z; cases z
/-- the heap but for one place -/
def del (H : Hp) (a : Addr) : Hp := fun b => if b = a then none else H b
theorem del_at {H : Hp} {a : Addr} : del H a a = none := if_pos rfl
theorem del_ne {H : Hp} {a b : Addr} (h : b ≠ a) : del H a b = H b := if_neg h
theorem del_some {H : Hp} {a b : Addr} {o : HO} (h : del H a b = some o) : b ≠ a ∧ H b = some o := by
  by_cases q : b = a
  · rw [q, del_at] at h; cases h
  · rw [del_ne q] at h; exact ⟨q, h⟩
theorem del_none {H : Hp} {a b : Addr} (h : H b = none) : del H a b = none := by
  by_cases q : b = a
  · rw [q, del_at]
  · rw [del_ne q]; exact h
theorem del_upd {H : Hp} {a : Addr} {o : HO} : del (upd H a o) a = del H a := by
  funext b
  by_cases q : b = a
  · rw [q, del_at, del_at]
  · rw [del_ne q, del_ne q, upd_ne q]
theorem del_free {H : Hp} {a : Addr} (h : H a = none) : del H a = H := by
  funext b
  by_cases q : b = a
  · rw [q, del_at, h]
  · rw [del_ne q]
/-- a place that we own: known to nobody, no drawing dict -/
structure Mine (W : Wd) (a : Addr) : Prop where
  g : W.G a = none
  p : ∀ x, W.pen = some x → x.1 ≠ a
theorem mine_of {W : Wd} {st : Ms} {H : Hp} (r : Rel C W st H) {a : Addr} {vs : List V} (h : W.G a = none) (ha : H a = some (.lst vs)) : Mine W a :=
  ⟨h, fun x hx z => by
    obtain ⟨q, _, h2, _⟩ := r.pen x hx
    rw [z, ha] at h2; cases h2⟩
theorem rel_del {W : Wd} {st : Ms} {H : Hp} (r : Rel C W st H) {a : Addr} (m : Mine W a) : Rel C W st (del H a) where
  sub := fun b u e => by
    have n : b ≠ a := fun z => by rw [z, m.g] at e; cases e
    rw [del_ne n]; exact r.sub b u e
  pen := fun x hx => by
    obtain ⟨q, h1, h2, h3, h4⟩ := r.pen x hx
    exact ⟨q, h1, by rw [del_ne (m.p x hx)]; exact h2, h3, h4⟩
  penE := r.penE
  nid := r.nid
  idlt := r.idlt
  idinj := r.idinj
  envE := r.envE
  env := r.env
theorem ext_del {W W' : Wd} {H H' : Hp} (e : Ext W H W' H') (a : Addr) : Ext W (del H a) W' (del H' a) where
  le := e.le
  keep := fun b u z n => by
    obtain ⟨q, z⟩ := del_some z
    rw [del_ne q]; exact e.keep b u z n
  dom := fun b z => by
    by_cases q : b = a
    · rw [q, del_at]
    · rw [del_ne q] at z ⊢; exact e.dom b z
  newG := fun b u z => (e.newG b u z).imp id del_none
  scr := e.scr
theorem mine_stays {W W' : Wd} {H H' : Hp} (e : Ext W H W' H') {a : Addr} {o : HO} (m : Mine W a) (h : H a = some o) : Mine W' a ∧ H' a = some o := by
  refine ⟨⟨?_, fun x hx z => m.p x (e.le.pen ▸ hx) z⟩, e.keep a o h fun x hx z => m.p x hx z.symm⟩
  · cases q : W'.G a with
    | none => rfl
    | some o' =>
      rcases e.newG a o' q with z | z
      · rw [m.g] at z; cases z
      · rw [h] at z; cases z
theorem ext_shrink {W W' : Wd} {H H' : Hp} (e : Ext W H W' H') (a : Addr) : Ext W (del H a) W' H' where
  le := e.le
  keep := fun b u z n => e.keep b u (del_some z).2 n
  dom := fun b z => del_none (e.dom b z)
  newG := fun b u z => (e.newG b u z).imp id del_none
  scr := e.scr
/-- what is wished without our place is wished with it -/
theorem OQ.mine {α : Type} {Wx : XK} {R : α → Ms → Wd → Hp → Prop} {W : Wd} {H : Hp} {a : Addr} {o : HO} (m : Mine W a) (h : H a = some o) : ∀ {x : Out α}, OQ C Wx W (del H a) R x → OQ C Wx W H (fun y s W' H' => R y s W' (del H' a)) x
  | .ok _ _, q => fun W' H' e r => q W' (del H' a) (ext_del e a) (rel_del r (mine_stays e m h).1)
  | .ex _ _, q => fun cls dx W' H' e r x => q cls dx W' H' (ext_shrink e a) r x
  | .bad, q => q
theorem OQ.shrink {α : Type} {Wx : XK} {R : α → Ms → Wd → Hp → Prop} {W : Wd} {H : Hp} {a : Addr} : ∀ {x : Out α}, OQ C Wx W (del H a) R x → OQ C Wx W H R x
  | .ok _ _, q => fun W' H' e r => q W' H' (ext_shrink e a) r
  | .ex _ _, q => fun cls dx W' H' e r x => q cls dx W' H' (ext_shrink e a) r x
  | .bad, q => q
/-- our place becomes known, never to change -/
theorem rel_frz {W : Wd} {st : Ms} {H : Hp} (r : Rel C W st H) {a : Addr} {o : HO} (m : Mine W a) (h : H a = some o) : Rel C (W.put a o) st H where
  sub := fun b u e => by
    have e' : upd W.G a o b = some u := e
    by_cases q : b = a
    · rw [q, upd_same] at e'; rw [q, h]; exact e'
    · rw [upd_ne q] at e'; exact r.sub b u e'
  pen := fun x hx => by
    obtain ⟨q, h1, h2, h3, h4⟩ := r.pen x hx
    refine ⟨q, h1, h2, ?_, (le_put m.g).G _ _ h4⟩
    show upd W.G a o x.1 = none
    rw [upd_ne (m.p x hx)]; exact h3
  penE := r.penE
  nid := r.nid
  idlt := fun i b e => by
    obtain ⟨h1, cl, dx, fs, h2⟩ := r.idlt i b e
    exact ⟨h1, cl, dx, fs, (le_put m.g).G _ _ h2⟩
  idinj := r.idinj
  envE := r.envE
  env := fun ρ e => (r.env ρ e).le (le_put m.g)
theorem ext_frz {W : Wd} {H : Hp} {a : Addr} {o : HO} (m : Mine W a) (h : H a = some o) : Ext W (del H a) (W.put a o) H where
  le := le_put m.g
  keep := fun b u z _ => (del_some z).2
  dom := fun b z => del_none z
  newG := fun b u z => by
    have z' : upd W.G a o b = some u := z
    by_cases q : b = a
    · rw [q]; exact .inr del_at
    · rw [upd_ne q] at z'; exact .inl z'
  scr := rfl
/-! ### comprehensions -/
/-- of a new list that nobody knows yet -/
def RF (C : Rc) (Q : VK) : D → Ms → Wd → Hp → Prop := fun d _ W H => ∃ ds, d = .lst ds ∧ ∀ a vs, H a = none → Mine W a → Reps C W ds vs → Q (.ref a) (upd H a (.lst vs))
def tEvF (C : Rc) (Γ : Gm) (Wx : XK) (m : E) : TE := fun σ H Q => ∃ W st ρ, Slots C W ρ σ ∧ Rel C W st H ∧ OQ C Wx W H (RF C Q) (ev Γ m ρ st)
theorem upd_del {H : Hp} {a : Addr} {o : HO} (h : H a = some o) : upd (del H a) a o = H := by
  funext b
  by_cases q : b = a
  · rw [q, upd_same, h]
  · rw [upd_ne q, del_ne q]

abbrev noX : XK := fun _ _ _ => False
theorem XOk.blk (o : XOk P w C base k N sc Wx X) (s : Shared) (H : Hp) (scope : Scope) (cl : List (Str × Addr)) (a : Addr) (fp : List Addr) : XOk P w C base k N (relS scope sc) noX (X.blk s H scope (compEnvC scope cl a X.env) fp) :=
  ⟨o.prog, o.wd, o.K, o.mg, o.base, o.calm, o.nm, o.nd, by rw [← o.sc]; rfl, o.rm, fun u s' ⟨_, _, _, _, _, _, _, _, _, _, _, _, _, _, _, _, z⟩ => False.elim z⟩
theorem loopL_nox {f : D → Ms → Out (Option D)} (hf : ∀ d s x s', f d s ≠ .ex x s') : ∀ ds s x s', loopL f ds s ≠ .ex x s'
  | [], s, x, s' => fun h => nomatch h
  | d :: ds, s, x, s' => fun h => by
    have h' : ((f d s).bind fun o s1 => (loopL f ds s1).bind fun r s2 => .ok (match o with
      | some x => x :: r
      | none => r) s2) = .ex x s' := h
    cases e : f d s with
    | ex _ _ => exact hf _ _ _ _ e
    | bad => rw [e] at h'; cases h'
    | ok o s1 =>
      rw [e] at h'
      have h2 : ((loopL f ds s1).bind fun r s2 => .ok (match o with
        | some x => x :: r
        | none => r) s2) = .ex x s' := h'
      cases e2 : loopL f ds s1 with
      | ex _ _ => exact loopL_nox hf _ _ _ _ e2
      | bad => rw [e2] at h2; cases h2
      | ok r s2 => rw [e2] at h2; cases h2
theorem nox_not_ex {α : Type} {o : Out α} {x : Exc} {s : Ms} : o.nox ≠ .ex x s := by
  cases o <;> exact fun h => nomatch h
/-- the rest of a comprehension's turns, what is made so far ahead of it -/
def lcRest (f : D → Ms → Out (Option D)) (acc : List D) (ds : List D) (s : Ms) : Out D := (loopL f ds s).bind fun r s => if (acc ++ r).length ≤ sizeLine then .ok (.lst (acc ++ r)) s else .bad
theorem lcRest_cons (f : D → Ms → Out (Option D)) (acc : List D) (d : D) (ds : List D) (s : Ms) : lcRest f acc (d :: ds) s = (f d s).bind fun o s1 => lcRest f (acc ++ o.toList) ds s1 := by
  unfold lcRest
  show (((f d s).bind fun o s1 => (loopL f ds s1).bind fun r s2 => .ok (match o with
      | some x => x :: r
      | none => r) s2).bind _) = _
  rw [bind_assoc]
  congr 1
  funext o s1
  rw [bind_assoc]
  congr 1
  funext r s2
  cases o with
  | none => simp
  | some x => simp
theorem lcRest_room {f : D → Ms → Out (Option D)} (hf : ∀ d s x s', f d s ≠ .ex x s') {acc ds : List D} {s : Ms} {R : D → Ms → Wd → Hp → Prop} {W : Wd} {H : Hp} (q : OQ C Wx W H R (lcRest f acc ds s)) : acc.length ≤ sizeLine := by
  unfold lcRest at q
  cases e : loopL f ds s with
  | ex x s' => exact absurd e (loopL_nox hf _ _ _ _)
  | bad => rw [e] at q; exact False.elim q
  | ok r s' =>
    rw [e] at q
    have q' : OQ C Wx W H R (if (acc ++ r).length ≤ sizeLine then .ok (.lst (acc ++ r)) s' else .bad) := q
    by_cases hz : (acc ++ r).length ≤ sizeLine
    · rw [List.length_append] at hz; omega
    · rw [if_neg hz] at q'; exact False.elim q'
def tEvC (C : Rc) (Γ : Gm) (Wx : XK) (m : Oe) : TT := fun σ H Q => ∃ W st ρ, Slots C W ρ σ ∧ Rel C W st H ∧ OQ C Wx W H (fun k _ _ H' => Q k H') (evc Γ m ρ st)
theorem own_slots {N : List Str} {t : Tg} : (t.own N).map (·.2) = t.slots := by
  unfold Tg.own
  rw [List.map_map]
  exact List.map_id _
theorem loc_relS {scope : Scope} {x : Str} (h : locB scope x = true) : Loc (relS scope sc) x := by
  unfold locB at h
  simp only [Bool.or_eq_true, decide_eq_true_eq] at h
  rcases h with h | h
  · exact .inl (lookup_relS_keep (sc := sc) (by decide) h)
  · exact .inr (lookup_relS_keep (sc := sc) (by decide) h)
theorem tg_names {N : List Str} {scope : Scope} : ∀ {t : Tg} {e : Expr}, mtTg N scope t e = true → ∀ i ∈ t.slots, ∀ x, N[i]? = some x → locB scope x = true := by
  have one : ∀ {i : Nat} {e : Expr}, mtTg1 N scope i e = true → ∀ x, N[i]? = some x → locB scope x = true := fun {i e} h x hx => by
    cases e with
    | Name y pos =>
      have h' : (decide (N[i]? = some y) && locB scope y) = true := h
      simp only [Bool.and_eq_true, decide_eq_true_eq] at h'
      rw [hx] at h'
      have e := Option.some.inj h'.1
      rw [e]; exact h'.2
    | _ => simp [mtTg1] at h
  have many : ∀ {is : List Nat} {es : List Expr}, mtTgs N scope is es = true → ∀ i ∈ is, ∀ x, N[i]? = some x → locB scope x = true := by
    intro is
    induction is with
    | nil => intro es _ i hi; cases hi
    | cons j is ih =>
      intro es h i hi
      cases es with
      | nil => simp [mtTgs] at h
      | cons e es =>
        simp only [mtTgs, Bool.and_eq_true] at h
        rcases List.mem_cons.mp hi with z | z
        · rw [z]; exact one h.1
        · exact ih h.2 i z
  intro t e h i hi x hx
  cases t with
  | v j =>
    have z : i = j := List.mem_singleton.mp hi
    rw [z] at hx
    exact one h x hx
  | t is =>
    cases e with
    | Tuple es kk pos =>
      have h' : (mtTgs N scope is es && decide is.Nodup) = true := h
      simp only [Bool.and_eq_true] at h'
      exact many h'.1 i hi x hx
    | _ => simp [mtTg] at h
theorem lc_fresh (o : XOk P w C base k N sc Wx X) {tg iter elt : Expr} {ifs : List Expr} {scope : Scope} {t : Tg} {it : It} {c : Oe} {e : E} (hi : PI X tg iter (tEvI C Γ Wx it)) (hp : plainX iter = true)
    (ht : mtTg N scope t tg = true) (hb : blkC N sc scope (t.own N) = true) (hin : ∀ X', XOk P w C base k N (relS scope sc) noX X' → PTs X' ifs (tEvC C Γ noX c) ∧ PE X' elt (tEv C Γ noX e)) :
    ∃ (wi : TI) (g : TG) (tt : TT) (te : TE), PI X tg iter wi ∧ BlkOk X.N X.env.scope scope (t.own N) ∧
      (∀ (s : Shared) (H : Hp) (C : Addr) (cl : List (Str × Addr)) (fp : List Addr), PG (X.blk s H scope (compEnvC scope cl C X.env) fp) tg g) ∧ (∀ (s : Shared) (H : Hp) (C : Addr) (cl : List (Str × Addr)) (fp : List Addr), PTs (X.blk s H scope (compEnvC scope cl C X.env) fp) ifs tt) ∧
      (∀ (s : Shared) (H : Hp) (C : Addr) (cl : List (Str × Addr)) (fp : List Addr), PE (X.blk s H scope (compEnvC scope cl C X.env) fp) elt te) ∧ ∀ σ H Q, tEvF C Γ Wx (.lc t it c e) σ H Q → tLc wi g tt te ((t.own N).map (·.2)) σ H Q := by
  have bo : BlkOk X.N X.env.scope scope (t.own N) := by rw [o.nm, o.sc]; exact blkOk_by hb
  have fnOk : ∀ (s : Shared) (H : Hp) (a : Addr) (cl : List (Str × Addr)) (fp : List Addr), TgFn (X.blk s H scope (compEnvC scope cl a X.env) fp) N t.slots := fun s H a cl fp i hi x hx => by
    have q := tg_names ht i hi x hx
    unfold locB at q
    simp only [Bool.or_eq_true, decide_eq_true_eq] at q
    rcases q with q | q
    · right
      show (relS scope X.env.scope).names.lookup x = _
      exact lookup_relS_keep (sc := X.env.scope) (by decide) q
    · left
      show (scope.names.lookup x == some .cell) = true
      rw [q]; rfl
  have pg : ∀ (s : Shared) (H : Hp) (a : Addr) (cl : List (Str × Addr)) (fp : List Addr), PG (X.blk s H scope (compEnvC scope cl a X.env) fp) tg (tTg C t) := fun s H a cl fp =>
    l_tg (X := X.blk s H scope (compEnvC scope cl a X.env) fp) o.calm o.K o.nm o.nd (fun x hx => (loc_relS (sc := X.env.scope) hx : Loc (relS scope X.env.scope) x)) ht (fnOk s H a cl fp)
  refine ⟨_, _, _, _, hi, bo, pg, fun s H a cl fp => (hin _ (o.blk s H scope cl a fp)).1, fun s H a cl fp => (hin _ (o.blk s H scope cl a fp)).2, fun σ H Q ⟨W, st, ρ, sl, r, q⟩ => ?_⟩
  rw [own_slots]
  let f : D → Ms → Out (Option D) := fun d s => (match bindT t d ρ with
    | none => Out.bad
    | some ρ' => (evc Γ c ρ' s).bind fun k s => if k = true then (ev Γ e ρ' s).bind fun x s => .ok (some x) s else .ok none s).nox
  have hf : ∀ d s x s', f d s ≠ .ex x s' := fun d s x s' => nox_not_ex
  refine ⟨W, st, ρ, sl, r, OQ.imp (OQ.bind (f := fun xs s => lcRest f [] xs s) q) fun xs s1 W1 H1 e1 r1 q1 J ⟨Gp, Y, wk, hG, hY⟩ a ha => ?_⟩
  refine lc_it wk (fun i H' => i ≤ xs.length ∧ ∃ W' s' acc vs, Le W1 W' ∧ Rel C W' s' H' ∧ H' a = some (.lst vs) ∧ Mine W' a ∧ Reps C W' acc vs ∧ OQ C Wx W' (del H' a) (RF C Q) (lcRest f acc (xs.drop i) s')) ?_ ?_ ?_ ?_
  · refine ⟨Nat.zero_le _, W1, s1, [], [], .refl _, rel_own r1 ha, upd_same, mine_of (H := upd H1 a (.lst [])) (vs := []) (rel_own r1 ha) (G_free r1 ha) upd_same, rfl, ?_⟩
    rw [del_upd, del_free ha]; exact q1
  · rintro i H' hi ⟨_, W', s', acc, vs, x1, x2, x3, x4, x5, x6⟩
    exact hG W' s' H' x1 x2
  · rintro i x H' H'' hi ⟨_, W', s', acc, vs, x1, x2, x3, x4, x5, x6⟩ hy
    obtain ⟨W2, d, y1, y2, y3, y4⟩ := hY i W' s' H' x H'' hi x1 x2 hy
    have hd : xs.drop i = d :: xs.drop (i + 1) := by
      have z := List.getElem?_eq_some_iff.mp y3
      rw [List.drop_eq_getElem_cons hi, z.2]
    rw [hd, lcRest_cons] at x6
    have x7 := x6.mono (ext_del y1 a)
    obtain ⟨z1, z2⟩ := mine_stays y1 x4 x3
    have x8 : OQ C noX W2 (del H'' a) (fun o s3 W3 H3 => OQ C Wx W3 H3 (RF C Q) (lcRest f (acc ++ o.toList) (xs.drop (i + 1)) s3)) (match bindT t d ρ with
      | none => Out.bad
      | some ρ' => (evc Γ c ρ' s').bind fun k s => if k = true then (ev Γ e ρ' s).bind fun x s => .ok (some x) s else .ok none s) := x7.bind.nox noX
    have x9 := OQ.mine z1 z2 x8
    cases eb : bindT t d ρ with
    | none => rw [eb] at x9; exact False.elim x9
    | some ρ' =>
      rw [eb] at x9
      refine ⟨W2, s', d, ρ, ρ', y2, y4, ((sl.le (e1.le.trans (x1.trans y1.le))).off.wipe), eb, fun σ' hs hw => ⟨by rw [hw, wipe_wipe], ?_⟩⟩
      refine ⟨W2, s', ρ', hs, y2, x9.bind.imp fun b s3 W3 H3 e3 r3 q3 => ?_⟩
      obtain ⟨z3, z4⟩ := mine_stays e3 z1 z2
      cases b with
      | true =>
        refine ⟨W3, s3, ρ', hs.le e3.le, r3, OQ.imp (OQ.bind (f := fun x s => Out.ok (some x) s) q3) fun y s4 W4 H4 e4 r4 q4 v p4 => ?_⟩
        obtain ⟨z5, z6⟩ := mine_stays e4 z3 z4
        have q5 : OQ C Wx W4 (del H4 a) (RF C Q) (lcRest f (acc ++ [y]) (xs.drop (i + 1)) s4) := oq_ok r4 q4
        have room : acc.length + 1 ≤ sizeLine := by
          have z := lcRest_room hf q5
          rw [List.length_append] at z
          exact z
        have lv := x5.length
        refine ⟨vs, z6, by omega, by omega, W4, s4, acc ++ [y], vs ++ [v], x1.trans (y1.le.trans (e3.le.trans e4.le)), rel_chg r4 z5.g z6, upd_same, z5, ?_, ?_⟩
        · exact (Reps.le (y1.le.trans (e3.le.trans e4.le)) _ _ x5).append ⟨v, [], rfl, p4, rfl⟩
        · rw [del_upd]; exact q5
      | false =>
        have q4 := oq_ok r3 q3
        refine ⟨by omega, W3, s3, acc, vs, x1.trans (y1.le.trans e3.le), r3, z4, z3, Reps.le (y1.le.trans e3.le) _ _ x5, ?_⟩
        have q5 : OQ C Wx W3 (del H3 a) (RF C Q) (lcRest f (acc ++ []) (xs.drop (i + 1)) s3) := q4
        rw [List.append_nil] at q5
        exact q5
  · rintro H' ⟨_, W', s', acc, vs, x1, x2, x3, x4, x5, x6⟩
    rw [List.drop_length] at x6
    have x7 : OQ C Wx W' (del H' a) (RF C Q) (if (acc ++ []).length ≤ sizeLine then .ok (.lst (acc ++ [])) s' else .bad) := x6
    rw [List.append_nil] at x7
    by_cases hz : acc.length ≤ sizeLine
    · rw [if_pos hz] at x7
      obtain ⟨ds, ed, x8⟩ := oq_ok (rel_del x2 x4) x7
      have ed := D.lst.inj ed
      subst ed
      have x9 := x8 a vs del_at x4 x5
      rw [upd_del x3] at x9
      exact x9
    · rw [if_neg hz] at x7
      exact False.elim x7
/-- what is new is known at once -/
theorem fresh_shared {m : E} {ee : Expr} (h : PE X ee (tEvF C Γ Wx m)) (hl : ∀ ρ s d s', ev Γ m ρ s = .ok d s' → ∃ ds, d = .lst ds) : PE X ee (tEv C Γ Wx m) := by
  refine PE.imp h fun σ H Q ⟨W, st, ρ, sl, r, q⟩ => ⟨W, st, ρ, sl, r, ?_⟩
  cases e : ev Γ m ρ st with
  | ok d s' =>
    rw [e] at q
    obtain ⟨ds, ed⟩ := hl _ _ _ _ e
    exact fun W' H' x r' => ⟨ds, ed, fun a vs ha mi rp => q _ _ (x.trans (ext_put r' ha)) (rel_put r' ha) _ (by rw [ed]; exact ⟨a, vs, rfl, Wd.put_at, reps_put r' ha rp⟩)⟩
  | ex x s' => rw [e] at q; exact q
  | bad => rw [e] at q; exact q
theorem lc_lst {t : Tg} {it : It} {c : Oe} {m : E} {ρ : List (Option D)} {s : Ms} {d : D} {s' : Ms} (h : ev Γ (.lc t it c m) ρ s = .ok d s') : ∃ ds, d = .lst ds := by
  have h' : ((evi Γ it ρ s).bind fun xs s => (loopL _ xs s).bind fun ds s => if ds.length ≤ sizeLine then Out.ok (D.lst ds) s else .bad) = .ok d s' := h
  cases e1 : evi Γ it ρ s with
  | ok xs s1 =>
    rw [e1] at h'
    have h2 : ((loopL _ xs s1).bind fun ds s => if ds.length ≤ sizeLine then Out.ok (D.lst ds) s else .bad) = .ok d s' := h'
    have key : ∀ o : Out (List D), (o.bind fun ds s => if ds.length ≤ sizeLine then Out.ok (D.lst ds) s else .bad) = .ok d s' → ∃ ds, d = .lst ds := fun o h => by
      cases o with
      | ok ds s2 =>
        have h3 : (if ds.length ≤ sizeLine then Out.ok (D.lst ds) s2 else .bad) = .ok d s' := h
        split at h3
        · cases h3; exact ⟨ds, rfl⟩
        · cases h3
      | ex _ _ => cases h
      | bad => cases h
    exact key _ h2
  | ex _ _ => rw [e1] at h'; cases h'
  | bad => rw [e1] at h'; cases h'
theorem l_lc (o : XOk P w C base k N sc Wx X) {tg iter elt : Expr} {ifs : List Expr} {scope : Scope} {pos : Pos} {t : Tg} {it : It} {c : Oe} {e : E} (hi : PI X tg iter (tEvI C Γ Wx it)) (hp : plainX iter = true)
    (ht : mtTg N scope t tg = true) (hb : blkC N sc scope (t.own N) = true) (hin : ∀ X', XOk P w C base k N (relS scope sc) noX X' → PTs X' ifs (tEvC C Γ noX c) ∧ PE X' elt (tEv C Γ noX e)) :
    PE X (.ListComp elt [⟨tg, iter, ifs, 0⟩] scope pos) (tEvF C Γ Wx (.lc t it c e)) := by
  obtain ⟨wi, g, tt, te, h1, h2, h3, h4, h5, h6⟩ := lc_fresh (Γ := Γ) o hi hp ht hb hin
  exact PE.imp (pe_lc o.calm (by rw [o.nm]; exact o.nd) h1 h2 h3 h4 h5 (plain_set hp)) h6
theorem rel_chgM {W : Wd} {st : Ms} {H : Hp} (r : Rel C W st H) {p : Addr} {o : HO} (m : Mine W p) : Rel C W st (upd H p o) where
  sub := fun a u e => by
    have n : a ≠ p := fun z => by rw [z, m.g] at e; cases e
    rw [upd_ne n]; exact r.sub a u e
  pen := fun x hx => by
    obtain ⟨q, h1, h2, h3, h4⟩ := r.pen x hx
    exact ⟨q, h1, by rw [upd_ne (m.p x hx)]; exact h2, h3, h4⟩
  penE := r.penE
  nid := r.nid
  idlt := r.idlt
  idinj := r.idinj
  envE := r.envE
  env := r.env
/-! ### a dict of one pair -/
theorem l_dic {x : Str} {v : Expr} {m : E} {j : Nat} {p1 pos : Pos} (hv : PE X v (tEv C Γ Wx m)) : PE X (.Dict [some (.Constant (.str x) j p1)] [v] pos) (tEv C Γ Wx (.dic x m)) := by
  refine PE.imp (pe_disp (pps_cons pe_str hv pps_nil) rfl rfl (by simp) (by simp)) fun σ H Q ⟨W, st, ρ, sl, r, q⟩ => ?_
  intro p hp
  have q1 : OQ C Wx W H (RD C Q) ((ev Γ m ρ st).bind fun d s => .ok (.dct [(.inr x, d)]) s) := q
  refine ⟨W, st, ρ, sl, rel_own r hp, ((OQ.bind0 q1).mono (ext_own hp)).imp fun d s W2 H2 e2 r2 q2 u pu => ?_⟩
  have np : ∀ y, W.pen = some y → p ≠ y.1 := fun y hy z => by
    obtain ⟨_, _, h2, _⟩ := r.pen y hy
    rw [← z, hp] at h2
    cases h2
  have h2 : H2 p = some (.dK []) := e2.keep p _ upd_same np
  have g2 : W2.G p = none := by
    cases z : W2.G p with
    | none => rfl
    | some o =>
      rcases e2.newG p o z with y | y
      · rw [G_free r hp] at y; cases y
      · rw [upd_same] at y; cases y
  have mi : Mine W2 p := ⟨g2, fun y hy z => np y (e2.le.pen.symm.trans hy) z.symm⟩
  refine ⟨h2, [(.inr x, u)], rfl, by simp, ?_⟩
  have r3 := rel_frz (rel_chgM (o := .dK [(.inr x, u)]) r2 mi) mi upd_same
  have e3 : Ext W H (W2.put p (.dK [(.inr x, u)])) (upd H2 p (.dK [(.inr x, u)])) := {
    le := e2.le.trans (le_put g2)
    keep := fun a o h n => by
      have na : a ≠ p := fun z => by rw [z, hp] at h; cases h
      rw [upd_ne na]
      exact e2.keep a o (by rw [upd_ne na]; exact h) n
    dom := fun a h => by
      by_cases z : a = p
      · rw [z]; exact hp
      · rw [upd_ne z] at h
        have := e2.dom a h
        rw [upd_ne z] at this
        exact this
    newG := fun a o h => by
      have h' : upd W2.G p (.dK [(.inr x, u)]) a = some o := h
      by_cases z : a = p
      · rw [z]; exact .inr hp
      · rw [upd_ne z] at h'
        rcases e2.newG a o h' with y | y
        · exact .inl y
        · rw [upd_ne z] at y; exact .inr y
    scr := e2.scr }
  exact q2 _ _ e3 r3 _ ⟨p, [(.inr x, u)], rfl, Wd.put_at, u, [], rfl, Rep.le (le_put g2) _ _ pu, rfl⟩
/-! ### the drawing dict -/
theorem pen_val {W : Wd} {st : Ms} {H : Hp} (r : Rel C W st H) {a c : Addr} (hp : W.pen = some (a, c)) {p : Pen} (hs : st.pen = some p) {k : Str} {d : D} (h : penGet k p = some d) : ∃ v, valV (penKvs p c) (.inr k) = some v ∧ Rep C W d v := by
  obtain ⟨q, h1, h2, h3, h4⟩ := r.pen _ hp
  rw [hs] at h1
  cases h1
  have key : ∀ (k' : Str) (d' : D) (v : V), k = k' → valV (penKvs p c) (.inr k') = some v → Rep C W d' v → d' = d → ∃ v, valV (penKvs p c) (.inr k) = some v ∧ Rep C W d v := fun k' d' v e1 e2 e3 e4 => by
    subst e1 e4
    exact ⟨v, e2, e3⟩
  unfold penGet at h
  split at h
  · rename_i e; exact key "cells" (.lst (p.cells.map .int)) (.ref c) e (by rfl) ⟨c, _, rfl, h4, Reps.ofInts _⟩ (Option.some.inj h)
  split at h
  · rename_i e; exact key "at" (.int p.at_) (.int p.at_) e (by rfl) rfl (Option.some.inj h)
  split at h
  · rename_i e; exact key "digits" (.int p.digits) (.int p.digits) e (by rfl) rfl (Option.some.inj h)
  split at h
  · rename_i e; exact key "count" (.int p.count) (.int p.count) e (by rfl) rfl (Option.some.inj h)
  split at h
  · rename_i e; exact key "fold" (.int p.fold) (.int p.fold) e (by rfl) rfl (Option.some.inj h)
  · cases h
theorem l_pnf (o : XOk P w C base k N sc Wx X) {i : Nat} {x f : Str} {j : Nat} {p1 p2 pos : Pos} (h : rdB N sc i x = true) : PE X (.Subscript (.Name x p1) (.Constant (.str f) j p2) pos) (tEv C Γ Wx (.pnf i f)) := by
  obtain ⟨h1, h2, h3, h4⟩ := rd_of h
  have u := o.units
  have vis : Vis X.env.scope x := by
    rw [o.sc]
    unfold visB at h2
    simp only [Bool.or_eq_true, decide_eq_true_eq] at h2
    rcases h2 with (z | z) | z
    · exact .inl z
    · exact .inr (.inl z)
    · exact .inr (.inr z)
  refine PE.imp (pe_dget (by omega) (pe_var (i := i) (by rw [o.nm]; exact h1) vis h3 h4) pe_str (fun _ _ => rfl)) fun σ H Q ⟨W, st, ρ, sl, r, q⟩ => ?_
  have q1 : OQ C Wx W H (RD C Q) (match (ρ[i]?).join with
    | some .pen => Out.opt (st.pen.bind (penGet f)) st
    | _ => .bad) := q
  cases ej : (ρ[i]?).join with
  | none => rw [ej] at q1; exact False.elim q1
  | some d =>
    rw [ej] at q1
    cases d with
    | pen =>
      obtain ⟨d, ed, q2⟩ := OQ.opt (show OQ C Wx W H (RD C Q) (Out.opt (st.pen.bind (penGet f)) st) from q1)
      obtain ⟨p, ep, e2⟩ := Option.bind_eq_some_iff.mp ed
      have e3 : ρ[i]? = some (some .pen) := by
        cases z : ρ[i]? with
        | none => rw [z] at ej; cases ej
        | some y => rw [z] at ej; have ej' : y = some .pen := ej; rw [ej']
      obtain ⟨v, hv, a, c, ev, hp⟩ := sl.at_ i _ e3
      subst ev
      obtain ⟨t, ht, rt⟩ := pen_val r hp ep e2
      obtain ⟨q', g1, g2, _⟩ := r.pen _ hp
      rw [ep] at g1
      cases g1
      refine ⟨_, hv, a, t, rfl, ?_, q2 W H (.refl W H) r t rt⟩
      rw [← ht]
      exact DGet.k (k := .inr f) g2
    | _ => exact False.elim q1
end
end Mp
set_option Elab.async false
set_option linter.all false
set_option maxRecDepth 100000
set_option maxHeartbeats 4000000
/-! MpSnd8: every term keeps its reading. -/
namespace Mp
open PySem PySem.Spec PyProof.Rows L2
variable {P : Program} {w : World} {C : Rc} {base : Heap} {k : Nat} {Γ : Gm}
theorem mti_plain {N : List Str} {sc : Scope} {m : It} {tg e : Expr} (h : mti N sc m tg e = true) : plainX e = true := by
  cases m with
  | e a => exact mt_plain (by simpa [mti] using h)
  | rng1 a => cases e <;> first | rfl | simp [mti] at h
  | rng2 a b => cases e <;> first | rfl | simp [mti] at h
  | zip a b => cases e <;> first | rfl | (cases tg <;> simp [mti] at h)
theorem mti_rng1 {N : List Str} {sc : Scope} {a : E} {tg e : Expr} (h : mti N sc (.rng1 a) tg e = true) : ∃ p y pos, e = .Call (.Name "range" p) [y] [] pos ∧ glB sc "range" = true ∧ mt N sc a y = true := by
  cases e <;> first | (simp [mti] at h; done) | skip
  rename_i fn args kws pos
  cases fn <;> first | (simp [mti] at h; done) | skip
  rename_i x p
  rcases args with _ | ⟨y, _ | ⟨_, _⟩⟩ <;> rcases kws with _ | ⟨_, _⟩ <;> first | (simp [mti] at h; done) | skip
  simp only [mti, Bool.and_eq_true, decide_eq_true_eq] at h
  obtain ⟨⟨h1, h2⟩, h3⟩ := h
  subst h1
  exact ⟨p, y, pos, rfl, h2, h3⟩
theorem mti_rng2 {N : List Str} {sc : Scope} {a b : E} {tg e : Expr} (h : mti N sc (.rng2 a b) tg e = true) : ∃ p y z pos, e = .Call (.Name "range" p) [y, z] [] pos ∧ glB sc "range" = true ∧ mt N sc a y = true ∧ mt N sc b z = true := by
  cases e <;> first | (simp [mti] at h; done) | skip
  rename_i fn args kws pos
  cases fn <;> first | (simp [mti] at h; done) | skip
  rename_i x p
  rcases args with _ | ⟨y, _ | ⟨z, _ | ⟨_, _⟩⟩⟩ <;> rcases kws with _ | ⟨_, _⟩ <;> first | (simp [mti] at h; done) | skip
  simp only [mti, Bool.and_eq_true, decide_eq_true_eq] at h
  obtain ⟨⟨⟨h1, h2⟩, h3⟩, h4⟩ := h
  subst h1
  exact ⟨p, y, z, pos, rfl, h2, h3, h4⟩
theorem mti_zip {N : List Str} {sc : Scope} {a b : E} {tg e : Expr} (h : mti N sc (.zip a b) tg e = true) : ∃ es kk tp p y z pos, tg = .Tuple es kk tp ∧ e = .Call (.Name "zip" p) [y, z] [] pos ∧ glB sc "zip" = true ∧ mt N sc a y = true ∧ mt N sc b z = true := by
  cases tg <;> first | (cases e <;> simp [mti] at h; done) | skip
  rename_i es kk tp
  cases e <;> first | (simp [mti] at h; done) | skip
  rename_i fn args kws pos
  cases fn <;> first | (simp [mti] at h; done) | skip
  rename_i x p
  rcases args with _ | ⟨y, _ | ⟨z, _ | ⟨_, _⟩⟩⟩ <;> rcases kws with _ | ⟨_, _⟩ <;> first | (simp [mti] at h; done) | skip
  simp only [mti, Bool.and_eq_true, decide_eq_true_eq] at h
  obtain ⟨⟨⟨h1, h2⟩, h3⟩, h4⟩ := h
  subst h1
  exact ⟨es, kk, tp, p, y, z, pos, rfl, rfl, h2, h3, h4⟩
theorem mt_lc {N : List Str} {sc : Scope} {t : Tg} {it : It} {c : Oe} {m : E} {e : Expr} (h : mt N sc (.lc t it c m) e = true) : ∃ elt tg i ifs scope pos, e = .ListComp elt [⟨tg, i, ifs, 0⟩] scope pos ∧
    mti N sc it tg i = true ∧ mtTg N scope t tg = true ∧ blkC N sc scope (t.own N) = true ∧ mtc N (relS scope sc) c ifs = true ∧ mt N (relS scope sc) m elt = true := by
  cases e <;> first | (simp [mt] at h; done) | skip
  rename_i elt gs scope pos
  rcases gs with _ | ⟨⟨tg, i, ifs, as⟩, _ | ⟨_, _⟩⟩ <;> first | (simp [mt] at h; done) | skip
  simp only [mt, Bool.and_eq_true, decide_eq_true_eq] at h
  obtain ⟨⟨⟨⟨⟨h0, h1⟩, h2⟩, h3⟩, h4⟩, h5⟩ := h
  subst h0
  exact ⟨elt, tg, i, ifs, scope, pos, rfl, h1, h2, h3, h4, h5⟩
theorem mt_chn {N : List Str} {sc : Scope} {o1 o2 : CmpOp} {a b c : E} {e : Expr} (h : mt N sc (.chn o1 o2 a b c) e = true) : ∃ x y z pos, e = .Compare x [o1, o2] [y, z] pos ∧ mt N sc a x = true ∧ mt N sc b y = true ∧ mt N sc c z = true := by
  cases e <;> first | (simp [mt] at h; done) | skip
  rename_i x ops ys pos
  rcases ops with _ | ⟨op1, _ | ⟨op2, _ | ⟨_, _⟩⟩⟩ <;> rcases ys with _ | ⟨y, _ | ⟨z, _ | ⟨_, _⟩⟩⟩ <;> first | (simp [mt] at h; done) | skip
  simp only [mt, Bool.and_eq_true, decide_eq_true_eq] at h
  obtain ⟨⟨⟨⟨h1, h2⟩, h3⟩, h4⟩, h5⟩ := h
  subst h1 h2
  exact ⟨x, y, z, pos, rfl, h3, h4, h5⟩
theorem l_chn {N : List Str} {sc : Scope} {Wx : XK} {X : Cx} (o : XOk P w C base k N sc Wx X) {o1 o2 : CmpOp} {a b c : Expr} {m n p : E} {pos : Pos} (ha : PE X a (tEv C Γ Wx m)) (hb : PE X b (tEv C Γ Wx n)) (hc : PE X c (tEv C Γ Wx p)) (hp : plainX c = true) :
    PE X (.Compare a [o1, o2] [b, c] pos) (tEv C Γ Wx (.chn o1 o2 m n p)) ∧ PT X (.Compare a [o1, o2] [b, c] pos) (tEvT C Γ Wx (.chn o1 o2 m n p)) := by
  have u := o.units
  have r1 := opr_cmp (op := o1) o.K (by omega)
  have r2 := opr_cmp (op := o2) o.K (by omega)
  have hm : lastMarks [o1, o2] [b, c] = false := plain_behind hp o2
  refine ⟨PE.imp (pe_chain r1 r2 ha hb hc hm) fun σ H Q ⟨W, st, ρ, sl, r, q⟩ => ?_, PT.imp (pt_chain r1 r2 ha hb hc hm) fun σ H Q ⟨W, st, ρ, sl, r, q⟩ => ?_⟩
  · refine seqA sl r q fun x s1 W1 H1 v e1 r1 sl1 p1 q1 => ?_
    refine seqA sl1 r1 q1 fun y s2 W2 H2 u e2 r2 sl2 p2 q2 => ?_
    obtain ⟨kb, eb, q3⟩ := q2.bind.opt
    have q4 := q3 W2 H2 (.refl W2 H2) r2
    refine ⟨W2, s2, x, y, kb, r2, Rep.le e2.le x v p1, p2, eb, kb, rfl, ?_⟩
    cases kb with
    | true =>
      refine seqA sl2 r2 q4 fun z s3 W3 H3 t e3 r3 sl3 p3 q5 => ?_
      obtain ⟨kc, ec, q6⟩ := q5.bind.opt
      exact ⟨W3, s3, y, z, kc, r3, Rep.le e3.le y u p2, p3, ec, oq_ok r3 (q6 W3 H3 (.refl W3 H3) r3) _ rfl⟩
    | false => exact oq_ok r2 q4 _ rfl
  · have q' : OQ C Wx W H (fun k _ _ H' => Q k H') ((ev Γ m ρ st).bind fun x s => (ev Γ n ρ s).bind fun y s => (Out.opt (cmpD o1 x y) s).bind fun k s => if k = true then (ev Γ p ρ s).bind fun z s => Out.opt (cmpD o2 y z) s else .ok false s) := by
      have e : ((ev Γ (.chn o1 o2 m n p) ρ st).bind fun x s => Out.opt (tru x) s) = ((ev Γ m ρ st).bind fun x s => (ev Γ n ρ s).bind fun y s => (Out.opt (cmpD o1 x y) s).bind fun k s => if k = true then (ev Γ p ρ s).bind fun z s => Out.opt (cmpD o2 y z) s else .ok false s) := by
        show (((ev Γ m ρ st).bind fun x s => (ev Γ n ρ s).bind fun y s => (Out.opt (cmpD o1 x y) s).bind fun k s => if k = true then (ev Γ p ρ s).bind fun z s => (Out.opt (cmpD o2 y z) s).bind fun k s => .ok (.bl k) s else .ok (.bl false) s).bind fun x s => Out.opt (tru x) s) = _
        rw [bind_assoc]
        congr 1
        funext x s1
        rw [bind_assoc]
        congr 1
        funext y s2
        rw [bind_assoc]
        congr 1
        funext kb s3
        cases kb with
        | true =>
          show (((ev Γ p ρ s3).bind fun z s => (Out.opt (cmpD o2 y z) s).bind fun k s => .ok (.bl k) s).bind fun x s => Out.opt (tru x) s) = (ev Γ p ρ s3).bind fun z s => Out.opt (cmpD o2 y z) s
          rw [bind_assoc]
          congr 1
          funext z s4
          rw [bind_assoc]
          cases cmpD o2 y z <;> rfl
        | false => rfl
      rw [← e]; exact q
    refine seqA sl r q' fun x s1 W1 H1 v e1 r1 sl1 p1 q1 => ?_
    refine seqA sl1 r1 q1 fun y s2 W2 H2 u e2 r2 sl2 p2 q2 => ?_
    obtain ⟨kb, eb, q3⟩ := q2.bind.opt
    have q4 := q3 W2 H2 (.refl W2 H2) r2
    refine ⟨W2, s2, x, y, kb, r2, Rep.le e2.le x v p1, p2, eb, kb, rfl, ?_⟩
    cases kb with
    | true =>
      refine seqA sl2 r2 q4 fun z s3 W3 H3 t e3 r3 sl3 p3 q5 => ?_
      obtain ⟨kc, ec, q6⟩ := q5.opt
      exact ⟨W3, s3, y, z, kc, r3, Rep.le e3.le y u p2, p3, ec, kc, rfl, q6 W3 H3 (.refl W3 H3) r3⟩
    | false => exact ⟨false, rfl, oq_ok r2 q4⟩
abbrev AndOk (C : Rc) (Γ : Gm) (Wx : XK) (X : Cx) (m : Es) (xs : List Expr) : Prop :=
  ∀ pos, (PE X (.BoolOp .And xs pos) (tAndE C Γ Wx m) ∧ PW X (.BoolOp .And xs pos) (tAndX C Γ Wx m)) ∧ PE X (.BoolOp .Or xs pos) (tOrE C Γ Wx m) ∧ PW X (.BoolOp .Or xs pos) (tOrX C Γ Wx m)
theorem both {N : List Str} {sc : Scope} {Wx : XK} {X : Cx} {e : Expr} {m : E} (o : XOk P w C base k N sc Wx X) (h : PE X e (tEv C Γ Wx m)) (he : ∀ whole, isTrue e X.env whole = (do let v ← whole; standAt e.pos; holding [v] (truthy v))) : PE X e (tEv C Γ Wx m) ∧ PT X e (tEvT C Γ Wx m) := ⟨h, l_truth o h he⟩
theorem mt_mkk {N : List Str} {sc : Scope} {c : Str} {ks : List Str} {es : Es} {e : Expr} (h : mt N sc (.mkk c ks es) e = true) : ∃ p kws pos, e = .Call (.Name c p) [] kws pos ∧ glB sc c = true ∧ mtk N sc ks es kws = true := by
  cases e <;> first | (simp [mt] at h; done) | skip
  rename_i fn args kws pos
  cases fn <;> first | (simp [mt] at h; done) | skip
  rename_i x p
  rcases args with _ | ⟨_, _⟩ <;> first | (simp [mt] at h; done) | skip
  simp only [mt, Bool.and_eq_true, decide_eq_true_eq] at h
  obtain ⟨⟨⟨h1, h2⟩, _⟩, h3⟩ := h
  subst h1
  exact ⟨p, kws, pos, rfl, h2, h3⟩
theorem mt_dic {N : List Str} {sc : Scope} {k : Str} {m : E} {e : Expr} (h : mt N sc (.dic k m) e = true) : ∃ j p1 v pos, e = .Dict [some (.Constant (.str k) j p1)] [v] pos ∧ mt N sc m v = true := by
  cases e <;> first | (simp [mt] at h; done) | skip
  rename_i keys vals pos
  rcases keys with _ | ⟨k1, _ | ⟨_, _⟩⟩ <;> rcases vals with _ | ⟨v, _ | ⟨_, _⟩⟩ <;> first | (simp [mt] at h; done) | (cases k1 <;> simp [mt] at h; done) | skip
  cases k1 <;> first | (simp [mt] at h; done) | skip
  rename_i ke
  cases ke <;> first | (simp [mt] at h; done) | skip
  rename_i cc j p1
  cases cc <;> first | (simp [mt] at h; done) | skip
  simp only [mt, Bool.and_eq_true, decide_eq_true_eq] at h
  obtain ⟨h1, h2⟩ := h
  subst h1
  exact ⟨j, p1, v, pos, rfl, h2⟩
theorem mt_pnf {N : List Str} {sc : Scope} {i : Nat} {k : Str} {e : Expr} (h : mt N sc (.pnf i k) e = true) : ∃ x p1 j p2 pos, e = .Subscript (.Name x p1) (.Constant (.str k) j p2) pos ∧ rdB N sc i x = true := by
  cases e <;> first | (simp [mt] at h; done) | skip
  rename_i o i' pos
  cases o <;> first | (simp [mt] at h; done) | skip
  cases i' <;> first | (simp [mt] at h; done) | skip
  rename_i x p1 cc j p2
  cases cc <;> first | (simp [mt] at h; done) | skip
  simp only [mt, Bool.and_eq_true, decide_eq_true_eq] at h
  obtain ⟨h1, h2⟩ := h
  subst h1
  exact ⟨x, p1, j, p2, pos, rfl, h2⟩
theorem mt_prim {N : List Str} {sc : Scope} {n : Str} {es : Es} {e : Expr} (h : mt N sc (.prim n es) e = true) : ∃ args, primM sc n e = some args ∧ mts N sc es args = true ∧ plainX e = true := by
  have h' : (match primM sc n e with
    | some args => mts N sc es args && plainX e
    | none => false) = true := h
  split at h'
  · rename_i args hs
    rw [Bool.and_eq_true] at h'
    exact ⟨args, hs, h'.1, h'.2⟩
  · cases h'
theorem prim_true {sc : Scope} {n : Str} {e : Expr} {args : List Expr} (h : primM sc n e = some args) {env : Env} : ∀ whole, isTrue e env whole = (do let v ← whole; standAt e.pos; holding [v] (truthy v)) := by
  unfold primM at h
  split at h <;> first | (cases h; done) | exact fun _ => rfl
theorem mt_act {N : List Str} {sc : Scope} {i : Nat} {e : Expr} (h : mt N sc (.act i) e = true) : ∃ x p pos, e = .Call (.Name x p) [] [] pos ∧ rdB N sc i x = true := by
  cases e <;> first | (simp [mt] at h; done) | skip
  rename_i fn args kws pos
  cases fn <;> first | (simp [mt] at h; done) | skip
  rename_i x p
  rcases args with _ | ⟨y, ys⟩ <;> rcases kws with _ | ⟨_, _⟩ <;> first | (simp [mt] at h; done) | skip
  simp only [mt] at h
  exact ⟨x, p, pos, rfl, h⟩
theorem mtk_nil {N : List Str} {sc : Scope} {ks : List Str} {kws : List Keyword} (h : mtk N sc ks .nil kws = true) : ks = [] ∧ kws = [] := by
  rcases ks with _ | ⟨_, _⟩ <;> rcases kws with _ | ⟨⟨_, _, _⟩, _⟩ <;> first | exact ⟨rfl, rfl⟩ | (simp [mtk] at h; done)
theorem mtk_cons {N : List Str} {sc : Scope} {ks : List Str} {m : E} {r : Es} {kws : List Keyword} (h : mtk N sc ks (.cons m r) kws = true) : ∃ k ks' x kp kws', ks = k :: ks' ∧ kws = ⟨some k, x, kp⟩ :: kws' ∧ mt N sc m x = true ∧ mtk N sc ks' r kws' = true := by
  rcases ks with _ | ⟨k, ks'⟩ <;> rcases kws with _ | ⟨⟨k', x, kp⟩, kws'⟩ <;> first | (simp [mtk] at h; done) | skip
  cases k' <;> first | (simp [mtk] at h; done) | skip
  simp only [mtk, Bool.and_eq_true, decide_eq_true_eq] at h
  obtain ⟨⟨h1, h2⟩, h3⟩ := h
  subst h1
  exact ⟨_, ks', x, kp, kws', rfl, rfl, h2, h3⟩
theorem mtk_args {N : List Str} {sc : Scope} : ∀ {m : Es} {ks : List Str} {kws : List Keyword}, mtk N sc ks m kws = true → kws.map (·.arg) = ks.map some
  | .nil, ks, kws, h => by obtain ⟨e1, e2⟩ := mtk_nil h; subst e1 e2; rfl
  | .cons m r, ks, kws, h => by
    obtain ⟨k0, ks', x, kp, kws', e1, e2, _, h2⟩ := mtk_cons h
    subst e1 e2
    simp [mtk_args h2]
theorem cons_args {m : E} {ms : Es} {Wx : XK} {σ : Sg} {H : Hp} {Q : List V → Hp → Prop} (h : tEvs C Γ Wx (.cons m ms) σ H Q) : tCons (tEv C Γ Wx m) (tEvs C Γ Wx ms) σ H Q := by
  obtain ⟨W, st, ρ, sl, r, q⟩ := h
  refine seqA sl r q fun x s1 W1 H1 v e1 r1 sl1 p1 q1 => ?_
  exact ⟨W1, s1, ρ, sl1, r1, q1.bind.imp fun xs s2 W2 H2 e2 r2 q2 vs ps => q2 W2 H2 (.refl W2 H2) r2 _ ⟨v, vs, rfl, Rep.le e2.le x v p1, ps⟩⟩
theorem evs_cons_ok {m : E} {ms : Es} {ρ : List (Option D)} {s s' : Ms} {ds : List D} (h : evs Γ (.cons m ms) ρ s = .ok ds s') : ∃ x xs s1, ev Γ m ρ s = .ok x s1 ∧ evs Γ ms ρ s1 = .ok xs s' ∧ ds = x :: xs := by
  have h' : ((ev Γ m ρ s).bind fun x s => (evs Γ ms ρ s).bind fun xs s => .ok (x :: xs) s) = .ok ds s' := h
  cases e1 : ev Γ m ρ s with
  | ok x s1 =>
    rw [e1] at h'
    have h2 : ((evs Γ ms ρ s1).bind fun xs s => Out.ok (x :: xs) s) = .ok ds s' := h'
    cases e2 : evs Γ ms ρ s1 with
    | ok xs s2 =>
      rw [e2] at h2
      cases h2
      exact ⟨x, xs, s1, rfl, e2, rfl⟩
    | ex _ _ => rw [e2] at h2; cases h2
    | bad => rw [e2] at h2; cases h2
  | ex _ _ => rw [e1] at h'; cases h'
  | bad => rw [e1] at h'; cases h'
mutual
theorem ev_ok (G : GOk P w C base k Γ) : ∀ (m : E) (N : List Str) (sc : Scope) (Wx : XK) (X : Cx) (e : Expr), XOk P w C base k N sc Wx X → mt N sc m e = true → PE X e (tEv C Γ Wx m) ∧ PT X e (tEvT C Γ Wx m)
  | .lit c, N, sc, Wx, X, e, o, h => by
    cases e <;> simp [mt] at h
    subst h
    exact both o (l_lit) fun _ => rfl
  | .var i, N, sc, Wx, X, e, o, h => by
    cases e <;> simp [mt] at h
    obtain ⟨⟨⟨h1, h2⟩, h3⟩, h4⟩ := h
    exact both o (l_var o h1 h2 (by simpa using h3) (by simpa using h4)) fun _ => rfl
  | .con x, N, sc, Wx, X, e, o, h => by
    cases e <;> simp [mt] at h
    obtain ⟨h1, h2⟩ := h
    subst h1
    exact both o (l_con o G h2) fun _ => rfl
  | .tup es, N, sc, Wx, X, e, o, h => by
    cases e <;> simp [mt] at h
    exact both o (l_tup (evs_ok G es N sc Wx X _ o h).1) fun _ => rfl
  | .lst es, N, sc, Wx, X, e, o, h => by
    cases e <;> simp [mt] at h
    exact both o (l_lst (evs_ok G es N sc Wx X _ o h).1) fun _ => rfl
  | .bin op a b, N, sc, Wx, X, e, o, h => by
    cases e <;> simp [mt] at h
    obtain ⟨⟨h1, h2⟩, h3⟩ := h
    subst h1
    exact both o (l_bin o (ev_ok G a N sc Wx X _ o h2).1 (ev_ok G b N sc Wx X _ o h3).1) fun _ => rfl
  | .neg a, N, sc, Wx, X, e, o, h => by
    cases e <;> first | (simp [mt] at h; done) | skip
    rename_i op x pos
    cases op <;> first | (simp [mt] at h; done) | skip
    simp only [mt] at h
    exact both o (l_neg (ev_ok G a N sc Wx X _ o h).1) fun _ => rfl
  | .inv a, N, sc, Wx, X, e, o, h => by
    cases e <;> first | (simp [mt] at h; done) | skip
    rename_i op x pos
    cases op <;> first | (simp [mt] at h; done) | skip
    simp only [mt] at h
    exact both o (l_inv (ev_ok G a N sc Wx X _ o h).1) fun _ => rfl
  | .not a, N, sc, Wx, X, e, o, h => by
    cases e <;> first | (simp [mt] at h; done) | skip
    rename_i op x pos
    cases op <;> first | (simp [mt] at h; done) | skip
    simp only [mt] at h
    obtain ⟨p1, p2⟩ := ev_ok G a N sc Wx X _ o h
    exact ⟨l_not o p1, l_notT p2⟩
  | .cmp op a b, N, sc, Wx, X, e, o, h => by
    cases e <;> first | (simp [mt] at h; done) | skip
    rename_i x ops ys pos
    rcases ops with _ | ⟨op', _ | ⟨_, _⟩⟩ <;> rcases ys with _ | ⟨y, _ | ⟨_, _⟩⟩ <;> first | (simp [mt] at h; done) | skip
    simp [mt] at h
    obtain ⟨⟨h1, h2⟩, h3⟩ := h
    subst h1
    exact l_cmp o G (ev_ok G a N sc Wx X _ o h2).1 (ev_ok G b N sc Wx X _ o h3).1 (mt_plain h3)
  | .chn o1 o2 a b c, N, sc, Wx, X, e, o, h => by
    obtain ⟨x, y, z, pos, he, h1, h2, h3⟩ := mt_chn h
    rw [he]
    exact l_chn o (ev_ok G a N sc Wx X _ o h1).1 (ev_ok G b N sc Wx X _ o h2).1 (ev_ok G c N sc Wx X _ o h3).1 (mt_plain h3)
  | .and es, N, sc, Wx, X, e, o, h => by
    cases e <;> first | (simp [mt] at h; done) | skip
    rename_i op xs pos
    cases op <;> first | (simp [mt] at h; done) | skip
    simp only [mt] at h
    by_cases hx : xs = []
    · subst hx
      cases es with
      | nil => exact ⟨⟨fun _ _ _ _ _ _ ⟨W, st, ρ, sl, r, q⟩ => False.elim q⟩, ⟨fun _ _ _ _ _ _ ⟨W, st, ρ, sl, r, q⟩ => False.elim q⟩⟩
      | cons _ _ => simp [mts] at h
    · obtain ⟨p1, p2⟩ := ((evs_ok G es N sc Wx X _ o h).2 hx pos).1
      exact ⟨p1, p2.pt⟩
  | .or es, N, sc, Wx, X, e, o, h => by
    cases e <;> first | (simp [mt] at h; done) | skip
    rename_i op xs pos
    cases op <;> first | (simp [mt] at h; done) | skip
    simp only [mt] at h
    by_cases hx : xs = []
    · subst hx
      cases es with
      | nil => exact ⟨⟨fun _ _ _ _ _ _ ⟨W, st, ρ, sl, r, q⟩ => False.elim q⟩, ⟨fun _ _ _ _ _ _ ⟨W, st, ρ, sl, r, q⟩ => False.elim q⟩⟩
      | cons _ _ => simp [mts] at h
    · obtain ⟨p1, p2⟩ := ((evs_ok G es N sc Wx X _ o h).2 hx pos).2
      exact ⟨p1, p2.pt⟩
  | .ifx t a b, N, sc, Wx, X, e, o, h => by
    cases e <;> simp [mt] at h
    obtain ⟨⟨h1, h2⟩, h3⟩ := h
    have a1 := ev_ok G a N sc Wx X _ o h2
    have b1 := ev_ok G b N sc Wx X _ o h3
    have t1 := ev_ok G t N sc Wx X _ o h1
    exact ⟨l_ifx t1.2 a1.1 b1.1, l_ifxT t1.2 a1.2 b1.2⟩
  | .ix a i, N, sc, Wx, X, e, o, h => by
    cases e <;> first | (simp [mt] at h; done) | skip
    simp [mt] at h
    exact both o (l_ix o (ev_ok G a N sc Wx X _ o h.1).1 (ev_ok G i N sc Wx X _ o h.2).1 (mt_plain h.2)) fun _ => rfl
  | .slc a lo hi, N, sc, Wx, X, e, o, h => by
    cases e <;> first | (simp [mt] at h; done) | skip
    rename_i x y pos
    cases y <;> first | (simp [mt] at h; done) | skip
    rename_i l hh st p2
    cases st <;> first | (simp [mt] at h; done) | skip
    simp [mt] at h
    obtain ⟨⟨h1, h2⟩, h3⟩ := h
    exact both o (l_slc o (ev_ok G a N sc Wx X _ o h1).1 (evo_ok G lo N sc Wx X _ o h2).1 (evo_ok G hi N sc Wx X _ o h3).1) fun _ => rfl
  | .lc tg it c el, N, sc, Wx, X, e, o, h => by
    obtain ⟨elt, t, i, ifs, scope, pos, he, h1, h2, h3, h4, h5⟩ := mt_lc h
    rw [he]
    exact both o (fresh_shared (l_lc o (evi_ok G it N sc Wx X t i o h1) (mti_plain h1) h2 h3 fun X' o' => ⟨evc_ok G c N _ noX X' ifs o' h4, (ev_ok G el N _ noX X' elt o' h5).1⟩) fun _ _ _ _ => lc_lst) fun _ => rfl
  | .bi f es, N, sc, Wx, X, e, o, h => by
    cases e <;> first | (simp [mt] at h; done) | skip
    rename_i fn args kws pos
    cases fn <;> first | (simp [mt] at h; done) | skip
    rename_i x p
    rcases args with _ | ⟨y, ys⟩ <;> rcases kws with _ | ⟨_, _⟩ <;> first | (simp [mt] at h; done) | skip
    simp only [mt, Bool.and_eq_true, decide_eq_true_eq] at h
    obtain ⟨⟨h1, h2⟩, h3⟩ := h
    subst h1
    exact both o (l_bi o G h2 (mts_plain h3) (evs_ok G es N sc Wx X _ o h3).1) fun _ => rfl
  | .call f es, N, sc, Wx, X, e, o, h => by
    cases e <;> first | (simp [mt] at h; done) | skip
    rename_i fn args kws pos
    cases fn <;> first | (simp [mt] at h; done) | skip
    rename_i x p
    rcases kws with _ | ⟨_, _⟩ <;> first | (simp [mt] at h; done) | skip
    simp only [mt, Bool.and_eq_true, decide_eq_true_eq] at h
    obtain ⟨⟨h1, h2⟩, h3⟩ := h
    subst h1
    exact both o (l_call o G h2 h3 (evs_ok G es N sc Wx X _ o h3).1) fun _ => rfl
  | .mk c es, N, sc, Wx, X, e, o, h => by
    cases e <;> first | (simp [mt] at h; done) | skip
    rename_i fn args kws pos
    cases fn <;> first | (simp [mt] at h; done) | skip
    rename_i x p
    rcases kws with _ | ⟨_, _⟩ <;> first | (simp [mt] at h; done) | skip
    simp only [mt, Bool.and_eq_true, decide_eq_true_eq] at h
    obtain ⟨⟨h1, h2⟩, h3⟩ := h
    subst h1
    exact both o (l_mk o G h2 h3 (evs_ok G es N sc Wx X _ o h3).1) fun _ => rfl
  | .mkk c ks es, N, sc, Wx, X, e, o, h => by
    obtain ⟨p, kws, pos, he, h2, h3⟩ := mt_mkk h
    rw [he]
    obtain ⟨k1, k2⟩ := evk_ok G es N sc Wx X ks kws o h3
    exact both o (l_mkk o G h2 (mtk_args h3) k1 k2) fun _ => rfl
  | .dic k el, N, sc, Wx, X, e, o, h => by
    obtain ⟨j, p1, v, pos, he, h2⟩ := mt_dic h
    rw [he]
    exact both o (l_dic (ev_ok G el N sc Wx X v o h2).1) fun _ => rfl
  | .pnf i k, N, sc, Wx, X, e, o, h => by
    obtain ⟨x, p1, j, p2, pos, he, h1⟩ := mt_pnf h
    rw [he]
    exact both o (l_pnf o h1) fun _ => rfl
  | .fld a f, N, sc, Wx, X, e, o, h => by
    cases e <;> simp [mt] at h
    obtain ⟨⟨h1, h2⟩, h3⟩ := h
    subst h1
    exact both o (l_fld o G (ev_ok G a N sc Wx X _ o h2).1 h3) fun _ => rfl
  | .isi a c, N, sc, Wx, X, e, o, h => by
    cases e <;> first | (simp [mt] at h; done) | skip
    rename_i fn args kws pos
    cases fn <;> first | (simp [mt] at h; done) | skip
    rename_i x p
    rcases args with _ | ⟨y, _ | ⟨z, _ | ⟨_, _⟩⟩⟩ <;> rcases kws with _ | ⟨_, _⟩ <;> first | (simp [mt] at h; done) | skip
    cases z <;> first | (simp [mt] at h; done) | skip
    simp only [mt, Bool.and_eq_true] at h
    obtain ⟨⟨⟨⟨h1, h2⟩, h3⟩, h4⟩, h5⟩ := h
    have h1 := of_decide_eq_true h1
    subst h1
    exact both o (l_isi o G h2 h4 (mt_plain h3) (ev_ok G a N sc Wx X _ o h3).1 h5) fun _ => rfl
  | .prim n es, N, sc, Wx, X, e, o, h => by
    obtain ⟨args, h1, h2, h3⟩ := mt_prim h
    have hp := mts_plain h2
    cases hf : Γ.prim n with
    | none =>
      have bad : ∀ ρ s, ev Γ (.prim n es) ρ s = .bad := fun ρ s => by
        show (match Γ.prim n with
          | some f => (evs Γ es ρ s).bind fun ds s => Out.opt (f ds) s
          | none => .bad) = _
        rw [hf]
      exact ⟨⟨fun _ _ _ _ _ _ ⟨W, st, ρ, sl, r, q⟩ => False.elim (by rw [bad] at q; exact q)⟩, ⟨fun _ _ _ _ _ _ ⟨W, st, ρ, sl, r, q⟩ => False.elim (by rw [bad] at q; exact q)⟩⟩
    | some f => exact both o (G.prim n f hf N sc Wx X o h1 hp (evp_ok G es N sc Wx X args o h2)) (prim_true h1)
  | .act i, N, sc, Wx, X, e, o, h => by
    obtain ⟨x, p, pos, he, h1⟩ := mt_act h
    rw [he]
    exact both o (G.act N sc Wx X o h1) fun _ => rfl
theorem evs_ok (G : GOk P w C base k Γ) : ∀ (m : Es) (N : List Str) (sc : Scope) (Wx : XK) (X : Cx) (es : List Expr), XOk P w C base k N sc Wx X → mts N sc m es = true → PA X es (tEvs C Γ Wx m) ∧ (es ≠ [] → AndOk C Γ Wx X m es)
  | .nil, N, sc, Wx, X, es, o, h => by
    cases es with
    | nil => exact ⟨l_nil, fun z => absurd rfl z⟩
    | cons _ _ => simp [mts] at h
  | .cons m r, N, sc, Wx, X, es, o, h => by
    cases es with
    | nil => simp [mts] at h
    | cons e es =>
      simp only [mts, Bool.and_eq_true] at h
      obtain ⟨e1, e2⟩ := ev_ok G m N sc Wx X e o h.1
      obtain ⟨r1, r2⟩ := evs_ok G r N sc Wx X es o h.2
      refine ⟨l_cons e1 r1 (mt_plain h.1), fun _ pos => ?_⟩
      cases es with
      | nil =>
        cases r with
        | nil => exact l_and1 e1 e2
        | cons _ _ => simp [mts] at h
      | cons e' es =>
        cases r with
        | nil => simp [mts] at h
        | cons m' r' =>
          obtain ⟨⟨a1, a2⟩, b1, b2⟩ := r2 (by simp) pos
          exact ⟨l_andC o e1 e2 a1 a2, l_orC o e1 e2 b1 b2⟩
theorem evp_ok (G : GOk P w C base k Γ) : ∀ (m : Es) (N : List Str) (sc : Scope) (Wx : XK) (X : Cx) (es : List Expr), XOk P w C base k N sc Wx X → mts N sc m es = true → PEs C Γ Wx X m es
  | .nil, N, sc, Wx, X, es, o, h => by
    cases es with
    | nil => trivial
    | cons _ _ => simp [mts] at h
  | .cons m r, N, sc, Wx, X, es, o, h => by
    cases es with
    | nil => simp [mts] at h
    | cons e es =>
      simp only [mts, Bool.and_eq_true] at h
      exact ⟨(ev_ok G m N sc Wx X e o h.1).1, evp_ok G r N sc Wx X es o h.2⟩
theorem evk_ok (G : GOk P w C base k Γ) : ∀ (m : Es) (N : List Str) (sc : Scope) (Wx : XK) (X : Cx) (ks : List Str) (kws : List Keyword), XOk P w C base k N sc Wx X → mtk N sc ks m kws = true → PK X kws (tEvs C Γ Wx m) ∧ ∀ ρ s ds s', evs Γ m ρ s = .ok ds s' → ds.length = ks.length
  | .nil, N, sc, Wx, X, ks, kws, o, h => by
    obtain ⟨e1, e2⟩ := mtk_nil h
    subst e1 e2
    exact ⟨⟨fun pos pins s σ H Q I ⟨W, st, ρ, sl, r, q⟩ => pk_nil.run pos pins s σ H Q I (q W H (.refl W H) r [] rfl)⟩, fun ρ s ds s' z => by cases z; rfl⟩
  | .cons m r, N, sc, Wx, X, ks, kws, o, h => by
    obtain ⟨k0, ks', x, kp, kws', e1, e2, h1, h2⟩ := mtk_cons h
    subst e1 e2
    obtain ⟨r1, r2⟩ := evk_ok G r N sc Wx X ks' kws' o h2
    refine ⟨⟨fun pos pins s σ H Q I q => (pk_cons (ev_ok G m N sc Wx X x o h1).1 r1).run pos pins s σ H Q I (cons_args q)⟩, fun ρ s ds s' z => ?_⟩
    obtain ⟨x', xs, s1, e1, e2, e3⟩ := evs_cons_ok z
    rw [e3, List.length_cons, List.length_cons, r2 _ _ _ _ e2]
theorem evi_ok (G : GOk P w C base k Γ) : ∀ (m : It) (N : List Str) (sc : Scope) (Wx : XK) (X : Cx) (tg e : Expr), XOk P w C base k N sc Wx X → mti N sc m tg e = true → PI X tg e (tEvI C Γ Wx m)
  | .e a, N, sc, Wx, X, tg, e, o, h => i_seq o (ev_ok G a N sc Wx X e o (by simpa [mti] using h)).1
  | .rng1 a, N, sc, Wx, X, tg, e, o, h => by
    obtain ⟨p, y, pos, he, h2, h3⟩ := mti_rng1 h
    rw [he]
    exact i_rng1 o G h2 (mt_plain h3) (ev_ok G a N sc Wx X _ o h3).1
  | .rng2 a b, N, sc, Wx, X, tg, e, o, h => by
    obtain ⟨p, y, z, pos, he, h2, h3, h4⟩ := mti_rng2 h
    rw [he]
    exact i_rng2 o G h2 (mt_plain h3) (mt_plain h4) (ev_ok G a N sc Wx X _ o h3).1 (ev_ok G b N sc Wx X _ o h4).1
  | .zip a b, N, sc, Wx, X, tg, e, o, h => by
    obtain ⟨es, kk, tp, p, y, z, pos, ht, he, h2, h3, h4⟩ := mti_zip h
    rw [ht, he]
    exact i_zip o G h2 (mt_plain h3) (mt_plain h4) (ev_ok G a N sc Wx X _ o h3).1 (ev_ok G b N sc Wx X _ o h4).1
theorem evc_ok (G : GOk P w C base k Γ) : ∀ (m : Oe) (N : List Str) (sc : Scope) (Wx : XK) (X : Cx) (es : List Expr), XOk P w C base k N sc Wx X → mtc N sc m es = true → PTs X es (tEvC C Γ Wx m)
  | .no, N, sc, Wx, X, es, o, h => by
    cases es with
    | nil => exact ⟨fun pins s σ H Q I ⟨W, st, ρ, sl, r, q⟩ => pts_nil.run pins s σ H Q I (q W H (.refl W H) r)⟩
    | cons _ _ => simp [mtc] at h
  | .yes m, N, sc, Wx, X, es, o, h => by
    rcases es with _ | ⟨e, _ | ⟨_, _⟩⟩
    · simp [mtc] at h
    · have p := pts_one (ev_ok G m N sc Wx X e o (by simpa [mtc] using h)).2
      exact p
    · simp [mtc] at h
theorem evo_ok (G : GOk P w C base k Γ) : ∀ (m : Oe) (N : List Str) (sc : Scope) (Wx : XK) (X : Cx) (e : Option Expr), XOk P w C base k N sc Wx X → mto N sc m e = true → PO X e (tEvO C Γ Wx m) ∧ True
  | .no, N, sc, Wx, X, e, o, h => by
    cases e with
    | none => exact ⟨l_no, trivial⟩
    | some _ => simp [mto] at h
  | .yes m, N, sc, Wx, X, e, o, h => by
    cases e with
    | none => simp [mto] at h
    | some e => exact ⟨l_yes (ev_ok G m N sc Wx X e o (by simpa [mto] using h)).1, trivial⟩
end
end Mp
set_option Elab.async false
set_option linter.all false
set_option maxRecDepth 100000
set_option maxHeartbeats 2000000
/-! MpStm: statements, and what they do to the names. -/
namespace Mp
open PySem PySem.Spec PyProof.Rows L2
/-- what a name holds: nothing; data; a list that it alone holds and that may change; an object that is being made -/
inductive Sl where
  | no
  | sh (d : D)
  | ow (ds : List D)
  | ob (c : Str) (fs : List (Str × D))
  deriving Inhabited
mutual
def vsE : E → List Nat
  | .lit _ => []
  | .var i => [i]
  | .con _ => []
  | .tup es => vsEs es
  | .lst es => vsEs es
  | .bin _ a b => vsE a ++ vsE b
  | .neg a => vsE a
  | .inv a => vsE a
  | .not a => vsE a
  | .cmp _ a b => vsE a ++ vsE b
  | .chn _ _ a b c => vsE a ++ vsE b ++ vsE c
  | .and es => vsEs es
  | .or es => vsEs es
  | .ifx t a b => vsE t ++ vsE a ++ vsE b
  | .ix a i => vsE a ++ vsE i
  | .slc a lo hi => vsE a ++ vsO lo ++ vsO hi
  | .lc _ it c e => vsI it ++ vsO c ++ vsE e
  | .bi _ es => vsEs es
  | .call _ es => vsEs es
  | .mk _ es => vsEs es
  | .mkk _ _ es => vsEs es
  | .dic _ e => vsE e
  | .pnf i _ => [i]
  | .fld a _ => vsE a
  | .isi a _ => vsE a
  | .prim _ es => vsEs es
  | .act i => [i]
def vsEs : Es → List Nat
  | .nil => []
  | .cons e r => vsE e ++ vsEs r
def vsI : It → List Nat
  | .e a => vsE a
  | .rng1 a => vsE a
  | .rng2 a b => vsE a ++ vsE b
  | .zip a b => vsE a ++ vsE b
def vsO : Oe → List Nat
  | .no => []
  | .yes e => vsE e
end
def look1 (vs : List Nat) (i : Nat) : Sl → Option D
  | .sh d => some d
  | .ow ds => if i ∈ vs then some (.lst ds) else none
  | _ => none
/-- the names as a term sees them -/
def look (vs : List Nat) (ρ : List Sl) : List (Option D) := ρ.mapIdx (look1 vs)
def fz1 (vs : List Nat) (i : Nat) : Sl → Sl
  | .ow ds => if i ∈ vs then .sh (.lst ds) else .ow ds
  | x => x
/-- the lists that a term has seen may be known elsewhere from now on -/
def fz (vs : List Nat) (ρ : List Sl) : List Sl := ρ.mapIdx (fz1 vs)
mutual
/-- no list within -/
def D.nol : D → Bool
  | .lst _ => false
  | .tup xs => nols xs
  | .dct kvs => nolk kvs
  | .ins _ _ fs => nolf fs
  | _ => true
def nols : List D → Bool
  | [] => true
  | d :: r => d.nol && nols r
def nolf : List (Str × D) → Bool
  | [] => true
  | (_, d) :: r => d.nol && nolf r
def nolk : List (Key × D) → Bool
  | [] => true
  | (_, d) :: r => d.nol && nolk r
end
/-- kp: the lists that are seen stay the names' own, as nothing of them is kept elsewhere -/
def evX (Γ : Gm) (kp : Bool) (e : E) (ρ : List Sl) (s : Ms) : Out (D × List Sl) := (ev Γ e (look (vsE e) ρ) s).bind fun d s =>
  if kp = true then (if d.nol = true then .ok (d, ρ) s else .bad) else .ok (d, fz (vsE e) ρ) s
/-- a new list of the name's own -/
def evN (Γ : Gm) (kp : Bool) (e : E) (ρ : List Sl) (s : Ms) : Out (List D × List Sl) := (ev Γ e (look (vsE e) ρ) s).bind fun d s => match d with
  | .lst ds => if kp = true then (if nols ds = true then .ok (ds, ρ) s else .bad) else .ok (ds, fz (vsE e) ρ) s
  | _ => .bad
/-- how a value is taken: kp, or as a new list of the name's own -/
structure Md where
  kp : Bool := false
  ow : Bool := false
def evV (Γ : Gm) (m : Md) (e : E) (ρ : List Sl) (s : Ms) : Out (Sl × List Sl) := if m.ow = true then (evN Γ m.kp e ρ s).bind fun p s => .ok (.ow p.1, p.2) s
  else (evX Γ m.kp e ρ s).bind fun p s => .ok (.sh p.1, p.2) s
def evXT (Γ : Gm) (e : E) (ρ : List Sl) (s : Ms) : Out Bool := (ev Γ e (look (vsE e) ρ) s).bind fun x s => Out.opt (tru x) s
def evXI (Γ : Gm) (m : It) (ρ : List Sl) (s : Ms) : Out (List D × List Sl) := (evi Γ m (look (vsI m) ρ) s).bind fun ds s => .ok (ds, fz (vsI m) ρ) s
inductive Ctl where
  | nx (ρ : List Sl)
  | rt (d : D)
  | bk (ρ : List Sl)
  | ct (ρ : List Sl)
/-- an except clause: its class, its name's slot, what it returns: texts, fields of the error -/
structure Hx where
  cls : Str
  v : Nat
  parts : List (Str ⊕ Str)
mutual
inductive S where
  | asg (i : Nat) (m : Md) (e : E)
  | unp (is : List Nat) (m : Md) (e : E)
  | par (i j : Nat) (m n : Md) (a b : E)
  | app (i : Nat) (m : Md) (e : E)
  | sti (i : Nat) (m n : Md) (a e : E)
  | aug (i : Nat) (op : Operator) (m : Md) (e : E)
  | sto (f : Str) (m : Md) (e : E)
  | pns (i : Nat) (k : Str) (m : Md) (e : E)
  | ret (e : E)
  | rtn
  | ife (c : E) (a b : Ss)
  | for_ (tg : Tg) (it : It) (b : Ss)
  | whl (n : Nat) (c : E) (b : Ss)
  | brk
  | cnt
  | pas
  | doc
  | rse (c : Str) (es : Es)
  | exp (e : E)
  | apop (i j : Nat) (m : Md) (e : E)
  | spop (i j : Nat) (m : Md) (e : E)
  | tryx (b : Ss) (hs : List Hx)
inductive Ss where
  | nil
  | cons (s : S) (r : Ss)
end
def putSl : List Nat → List D → List Sl → Option (List Sl)
  | [], [], ρ => some ρ
  | i :: is, d :: ds, ρ => putSl is ds (ρ.set i (.sh d))
  | _, _, _ => none
def bindS (t : Tg) (d : D) (ρ : List Sl) : Option (List Sl) := match t with
  | .v i => some (ρ.set i (.sh d))
  | .t is => match d with
    | .tup xs => putSl is xs ρ
    | .lst xs => putSl is xs ρ
    | _ => none
def evFor (tg : Tg) (body : List Sl → Ms → Out Ctl) : List D → List Sl → Ms → Out Ctl
  | [], ρ, s => .ok (.nx ρ) s
  | d :: ds, ρ, s => match bindS tg d ρ with
    | none => .bad
    | some ρ' => (body ρ' s).bind fun c s => match c with
      | .nx ρ2 => evFor tg body ds ρ2 s
      | .ct ρ2 => evFor tg body ds ρ2 s
      | .bk ρ2 => .ok (.nx ρ2) s
      | .rt d => .ok (.rt d) s
def evWhl (test : List Sl → Ms → Out Bool) (body : List Sl → Ms → Out Ctl) : Nat → List Sl → Ms → Out Ctl
  | 0, _, _ => .bad
  | n + 1, ρ, s => (test ρ s).bind fun k s => if k = true then (body ρ s).bind fun c s => match c with
      | .nx ρ2 => evWhl test body n ρ2 s
      | .ct ρ2 => evWhl test body n ρ2 s
      | .bk ρ2 => .ok (.nx ρ2) s
      | .rt d => .ok (.rt d) s
    else .ok (.nx ρ) s
def putFd (f : Str) (d : D) : List (Str × D) → List (Str × D)
  | [] => [(f, d)]
  | (g, e) :: r => if g = f then (g, d) :: r else (g, e) :: putFd f d r
def augD (op : Operator) (x y : D) : Option D := match x, y with
  | .int i, .int j => match op with
    | .Add => some (.int (i + j))
    | .Sub => some (.int (i - j))
    | _ => none
  | _, _ => none
/-- the errors of the module: how one is made of its arguments -/
structure Gx where
  g : Gm
  exc : Str → List D → Option Exc
  excs : Str → Bool
  exm : Str → Str → Option Bool := fun _ _ => none
  xfd : Str → Str → Bool := fun _ _ => false
/-- a clause's class and its fields are known -/
def hxOk (Γ : Gx) (h : Hx) : Bool := Γ.excs h.cls && h.parts.all fun p => match p with
  | .inl _ => true
  | .inr f => Γ.xfd h.cls f
/-- what an except clause returns -/
def partD (Γ : Gx) (x : Exc) : Str ⊕ Str → Option D
  | .inl t => some (.str t)
  | .inr f => if Γ.xfd x.cls f = true then x.fs.lookup f else none
def partsD (Γ : Gx) (x : Exc) : List (Str ⊕ Str) → Option (List D)
  | [] => some []
  | p :: r => match partD Γ x p, partsD Γ x r with
    | some d, some ds => some (d :: ds)
    | _, _ => none
def handD (Γ : Gx) (x : Exc) : List Hx → Option D
  | [] => none
  | h :: r => match Γ.exm x.cls h.cls with
    | some true => if x.cls = h.cls then (partsD Γ x h.parts).bind (fun ds => if ds.length ≤ sizeLine then some (.tup ds) else none) else none
    | some false => handD Γ x r
    | none => none
/-- one thing is taken out of a list of the name's own -/
def popS (j : Nat) (k : D) (ρ : List Sl) : Option (D × List Sl) := match k, ρ[j]? with
  | .int k, some (.ow ds) => match ixN ds.length k with
    | some n => match ds[n]? with
      | some d => if bnd62 k = true then some (d, ρ.set j (.ow (ds.eraseIdx n))) else none
      | none => none
    | none => none
  | _, _ => none
/-- one thing is put on a list of the name's own -/
def appS (i : Nat) (d : D) (ρ : List Sl) : Option (List Sl) := match ρ[i]? with
  | some (.ow ds) => if ds.length < sizeLine then some (ρ.set i (.ow (ds ++ [d]))) else none
  | _ => none
def stiS (i : Nat) (k d : D) (ρ : List Sl) : Option (List Sl) := match k, ρ[i]? with
  | .int k, some (.ow ds) => match ixN ds.length k with
    | some j => some (ρ.set i (.ow (ds.set j d)))
    | none => none
  | _, _ => none
def stoS (Γ : Gm) (f : Str) (d : D) (ρ : List Sl) : Option (List Sl) := match ρ[(0 : Nat)]? with
  | some (.ob c fs) => if Γ.fld c f = true ∧ fs.length < 1000 then some (ρ.set 0 (.ob c (putFd f d fs))) else none
  | _ => none
def owS (i : Nat) (ρ : List Sl) : Option Unit := match ρ[i]? with
  | some (.ow _) => some ()
  | _ => none
def intS (i : Nat) (ρ : List Sl) : Option Int := match ρ[i]? with
  | some (.sh (.int x)) => some x
  | _ => none
def isPen (i : Nat) (ρ : List Sl) : Option Unit := match ρ[i]? with
  | some (.sh .pen) => some ()
  | _ => none
mutual
def evS (Γ : Gx) : S → List Sl → Ms → Out Ctl
  | .asg i m e, ρ, s => (evV Γ.g m e ρ s).bind fun p s => .ok (.nx (p.2.set i p.1)) s
  | .unp is m e, ρ, s => (evX Γ.g m.kp e ρ s).bind fun p s => (Out.opt (bindS (.t is) p.1 p.2) s).bind fun ρ' s => .ok (.nx ρ') s
  | .par i j m n a b, ρ, s => (evV Γ.g m a ρ s).bind fun p s => (evV Γ.g n b p.2 s).bind fun q s => .ok (.nx ((q.2.set i p.1).set j q.1)) s
  | .app i m e, ρ, s => (Out.opt (owS i ρ) s).bind fun _ s => (evX Γ.g m.kp e ρ s).bind fun p s => (Out.opt (appS i p.1 p.2) s).bind fun ρ' s => .ok (.nx ρ') s
  | .sti i m n a e, ρ, s => (Out.opt (owS i ρ) s).bind fun _ s => (evX Γ.g m.kp e ρ s).bind fun p s => (evX Γ.g n.kp a p.2 s).bind fun q s => (Out.opt (stiS i q.1 p.1 q.2) s).bind fun ρ' s => .ok (.nx ρ') s
  | .aug i op m e, ρ, s => (Out.opt (intS i ρ) s).bind fun x s => (evX Γ.g m.kp e ρ s).bind fun p s => (Out.opt (augD op (.int x) p.1) s).bind fun y s => .ok (.nx (p.2.set i (.sh y))) s
  | .sto f m e, ρ, s => (evX Γ.g m.kp e ρ s).bind fun p s => (Out.opt (stoS Γ.g f p.1 p.2) s).bind fun ρ' s => .ok (.nx ρ') s
  | .pns i k m e, ρ, s => (Out.opt (isPen i ρ) s).bind fun _ s => (evX Γ.g m.kp e ρ s).bind fun p s => (Out.opt (s.pen.bind (penSet k p.1)) s).bind fun n s => .ok (.nx p.2) { s with pen := some n }
  | .ret e, ρ, s => (ev Γ.g e (look (vsE e) ρ) s).bind fun d s => .ok (.rt d) s
  | .rtn, _, s => .ok (.rt .non) s
  | .ife c a b, ρ, s => (evXT Γ.g c ρ s).bind fun k s => if k = true then evSs Γ a ρ s else evSs Γ b ρ s
  | .for_ tg it b, ρ, s => (evXI Γ.g it ρ s).bind fun p s => evFor tg (fun ρ s => evSs Γ b ρ s) p.1 p.2 s
  | .whl n c b, ρ, s => evWhl (fun ρ s => evXT Γ.g c ρ s) (fun ρ s => evSs Γ b ρ s) n ρ s
  | .brk, ρ, s => .ok (.bk ρ) s
  | .cnt, ρ, s => .ok (.ct ρ) s
  | .pas, ρ, s => .ok (.nx ρ) s
  | .doc, ρ, s => .ok (.nx ρ) s
  | .rse c es, ρ, s => if Γ.excs c = true then (evs Γ.g es (look (vsEs es) ρ) s).bind fun ds s => match Γ.exc c ds with
    | some x => .ex x s
    | none => .bad
    else .bad
  | .exp e, ρ, s => (ev Γ.g e (look (vsE e) ρ) s).bind fun _ s => .ok (.nx ρ) s
  | .apop i j m e, ρ, s => (Out.opt (owS i ρ) s).bind fun _ s => (Out.opt (owS j ρ) s).bind fun _ s => (evX Γ.g m.kp e ρ s).bind fun p s => (Out.opt (popS j p.1 p.2) s).bind fun q s => (Out.opt (appS i q.1 q.2) s).bind fun ρ' s => .ok (.nx ρ') s
  | .spop i j m e, ρ, s => (Out.opt (owS j ρ) s).bind fun _ s => (evX Γ.g m.kp e ρ s).bind fun p s => (Out.opt (popS j p.1 p.2) s).bind fun q s => .ok (.nx (q.2.set i (.sh q.1))) s
  | .tryx b hs, ρ, s => if hs.all (hxOk Γ) = true then (match evSs Γ b ρ s with
    | .ok c s => .ok c s
    | .ex x s => (Out.opt (handD Γ x hs) s).bind fun d s => .ok (.rt d) s
    | .bad => .bad) else .bad
def evSs (Γ : Gx) : Ss → List Sl → Ms → Out Ctl
  | .nil, ρ, s => .ok (.nx ρ) s
  | .cons t r, ρ, s => (evS Γ t ρ s).bind fun c s => match c with
    | .nx ρ' => evSs Γ r ρ' s
    | c => .ok c s
end
/-- a def's worth, by its body: n names in all -/
def denOf (Γ : Gx) (np n : Nat) (b : Ss) : Den := fun ds s => if ds.length = np then (evSs Γ b (ds.map Sl.sh ++ List.replicate (n - np) .no) s).bind fun c s => match c with
    | .nx _ => .ok .non s
    | .rt d => .ok d s
    | _ => .bad
  else .bad
end Mp
set_option Elab.async false
set_option linter.all false
set_option maxRecDepth 100000
set_option maxHeartbeats 2000000
/-! MpStm2: names that own lists: how the world follows. -/
namespace Mp
open PySem PySem.Spec PyProof.Rows L2
open Classical in
/-- these lists never change again -/
noncomputable def Wd.frz (W : Wd) (H : Hp) (L : Addr → Prop) : Wd := { W with G := fun a => if L a then H a else W.G a }
open Classical in
/-- these may again -/
noncomputable def Wd.cut (W : Wd) (L : Addr → Prop) : Wd := { W with G := fun a => if L a then none else W.G a }
section
open Classical
variable {C : Rc} {W W' W0 : Wd} {H H' H0 : Hp} {st st' : Ms} {L : Addr → Prop}
theorem frz_in {a : Addr} (h : L a) : (W.frz H L).G a = H a := by
  show (if L a then H a else W.G a) = _
  rw [if_pos h]
theorem frz_out {a : Addr} (h : ¬ L a) : (W.frz H L).G a = W.G a := by
  show (if L a then H a else W.G a) = _
  rw [if_neg h]
theorem cut_in {a : Addr} (h : L a) : (W.cut L).G a = none := by
  show (if L a then none else W.G a) = _
  rw [if_pos h]
theorem cut_out {a : Addr} (h : ¬ L a) : (W.cut L).G a = W.G a := by
  show (if L a then none else W.G a) = _
  rw [if_neg h]
/-- own lists: not known, there -/
abbrev OwnL (W : Wd) (H : Hp) (L : Addr → Prop) : Prop := ∀ a, L a → W.G a = none ∧ ∃ vs, H a = some (.lst vs)
theorem le_frz (o : OwnL W H L) : Le W (W.frz H L) := ⟨fun a u e => by
  have n : ¬ L a := fun h => by rw [(o a h).1] at e; cases e
  rw [frz_out n]; exact e, rfl, fun _ _ e => e, Nat.le_refl _, rfl⟩
theorem rel_frzL (r : Rel C W st H) (o : OwnL W H L) : Rel C (W.frz H L) st H where
  sub := fun a u e => by
    by_cases h : L a
    · rw [frz_in h] at e; exact e
    · rw [frz_out h] at e; exact r.sub a u e
  pen := fun x hx => by
    obtain ⟨q, h1, h2, h3, h4⟩ := r.pen x hx
    have n1 : ¬ L x.1 := fun h => by
      obtain ⟨vs, e⟩ := (o _ h).2
      rw [h2] at e; cases e
    exact ⟨q, h1, h2, by rw [frz_out n1]; exact h3, (le_frz o).G _ _ h4⟩
  penE := r.penE
  nid := r.nid
  idlt := fun i a e => by
    obtain ⟨h1, cl, dx, fs, h2⟩ := r.idlt i a e
    exact ⟨h1, cl, dx, fs, (le_frz o).G _ _ h2⟩
  idinj := r.idinj
  envE := r.envE
  env := fun ρ e => (r.env ρ e).le (le_frz o)
theorem ext_frzL (e : Ext W0 H0 W H) (o : OwnL W H L) (n : ∀ a, L a → H0 a = none) : Ext W0 H0 (W.frz H L) H where
  le := e.le.trans (le_frz o)
  keep := e.keep
  dom := e.dom
  newG := fun a u z => by
    by_cases h : L a
    · exact .inr (n a h)
    · rw [frz_out h] at z; exact e.newG a u z
  scr := e.scr
/-- what the later world knows of them -/
theorem own_later (r : Rel C W st H) (o : OwnL W H L) (e : Ext (W.frz H L) H W' H') : ∀ a, L a → H' a = H a ∧ W'.G a = H a := fun a h => by
  obtain ⟨n, vs, hv⟩ := o a h
  have ne : ∀ x, W.pen = some x → a ≠ x.1 := fun x hx z => by
    obtain ⟨q, _, h2, _⟩ := r.pen x hx
    rw [← z, hv] at h2; cases h2
  refine ⟨by rw [hv]; exact e.keep a _ hv ne, ?_⟩
  have g := e.le.G a (.lst vs) (by rw [frz_in h]; exact hv)
  rw [g, hv]
theorem le_cut (o : ∀ a, L a → W.G a = none) (e : Le W W') : Le W (W'.cut L) := ⟨fun a u z => by
  have n : ¬ L a := fun h => by rw [o a h] at z; cases z
  rw [cut_out n]; exact e.G a u z, e.pen, e.ids, e.nid, e.env⟩
theorem rel_cutL (r : Rel C W st H) (o : OwnL W H L) (e : Ext (W.frz H L) H W' H') (r' : Rel C W' st' H') : Rel C (W'.cut L) st' H' where
  sub := fun a u z => by
    by_cases h : L a
    · rw [cut_in h] at z; cases z
    · rw [cut_out h] at z; exact r'.sub a u z
  pen := fun x hx => by
    obtain ⟨q, h1, h2, h3, h4⟩ := r'.pen x hx
    have hx' : W.pen = some x := e.le.pen.symm.trans hx
    obtain ⟨p, g1, g2, g3, g4⟩ := r.pen x hx'
    have n1 : ¬ L x.1 := fun h => by
      obtain ⟨vs, z⟩ := (o _ h).2
      rw [g2] at z; cases z
    have n2 : ¬ L x.2 := fun h => by
      rw [(o _ h).1] at g4; cases g4
    exact ⟨q, h1, h2, by rw [cut_out n1]; exact h3, by rw [cut_out n2]; exact h4⟩
  penE := r'.penE
  nid := r'.nid
  idlt := fun i a z => by
    obtain ⟨h1, cl, dx, fs, h2⟩ := r'.idlt i a z
    have n : ¬ L a := fun h => by
      obtain ⟨_, vs, hv⟩ := o a h
      have g := (own_later r o e a h).2
      rw [h2, hv] at g; cases g
    exact ⟨h1, cl, dx, fs, by rw [cut_out n]; exact h2⟩
  idinj := r'.idinj
  envE := r'.envE
  env := fun ρ z => (r.env ρ (e.le.env.symm.trans z)).le (le_cut (fun a h => (o a h).1) ((le_frz o).trans e.le))

theorem cut_sq {K : PySem.W.Frag} (o : ∀ a, L a → ∃ vs, W.G a = some (.lst vs)) {a : Addr} {vs : List V} (s : SqT K W.G a vs) : SqT K (W.cut L).G a vs := by
  rcases s with (g | ⟨u, g⟩) | g
  · have n : ¬ L a := fun h => by obtain ⟨ws, z⟩ := o a h; rw [g] at z; cases z
    exact .inl (.inl (by rw [cut_out n]; exact g))
  · have n : ¬ L a := fun h => by obtain ⟨ws, z⟩ := o a h; rw [g] at z; cases z
    exact .inl (.inr ⟨u, by rw [cut_out n]; exact g⟩)
  · exact .inr g
mutual
theorem Rep.cutL (o : ∀ a, L a → ∃ vs, W.G a = some (.lst vs)) : ∀ (d : D) (v : V), d.nol = true → Rep C W d v → Rep C (W.cut L) d v
  | .non, v, _, r => r
  | .bl b, v, _, r => r
  | .int i, v, _, r => r
  | .str x, v, _, r => r
  | .tup ds, v, n, ⟨a, vs, e, s, r⟩ => ⟨a, vs, e, cut_sq o s, Reps.cutL o ds vs n r⟩
  | .lst ds, v, n, r => by cases n
  | .dct ds, v, n, ⟨a, vs, e, s, r⟩ => ⟨a, vs, e, by
      have q : ¬ L a := fun h => by obtain ⟨ws, z⟩ := o a h; rw [s] at z; cases z
      rw [cut_out q]; exact s, RepK.cutL o ds vs n r⟩
  | .ins c i fs, v, n, ⟨a, cl, dx, vs, e, m, s, r, q⟩ => ⟨a, cl, dx, vs, e, m, by
      have q : ¬ L a := fun h => by obtain ⟨ws, z⟩ := o a h; rw [s] at z; cases z
      rw [cut_out q]; exact s, RepF.cutL o fs vs n r, q⟩
  | .pen, v, _, r => r
  | .scr, v, _, r => r
  | .lam k, v, _, ⟨f, c', t, pm, ctv, e, e2, s, r⟩ => ⟨f, c', t, pm, ctv, e, e2, by
      have q : ¬ L c' := fun h => by obtain ⟨ws, z⟩ := o c' h; rw [s] at z; cases z
      rw [cut_out q]; exact s, by
      have q : ¬ L f := fun h => by obtain ⟨ws, z⟩ := o f h; rw [r] at z; cases z
      rw [cut_out q]; exact r⟩
theorem Reps.cutL (o : ∀ a, L a → ∃ vs, W.G a = some (.lst vs)) : ∀ (ds : List D) (vs : List V), nols ds = true → Reps C W ds vs → Reps C (W.cut L) ds vs
  | [], vs, _, r => r
  | d :: ds, vs, n, ⟨v, r, e, p, q⟩ => by
    have n' : (d.nol && nols ds) = true := n
    rw [Bool.and_eq_true] at n'
    exact ⟨v, r, e, Rep.cutL o d v n'.1 p, Reps.cutL o ds r n'.2 q⟩
theorem RepF.cutL (o : ∀ a, L a → ∃ vs, W.G a = some (.lst vs)) : ∀ (ds : List (Str × D)) (vs : List (Str × V)), nolf ds = true → RepF C W ds vs → RepF C (W.cut L) ds vs
  | [], vs, _, r => r
  | (x, d) :: ds, vs, n, ⟨v, r, e, p, q⟩ => by
    have n' : (d.nol && nolf ds) = true := n
    rw [Bool.and_eq_true] at n'
    exact ⟨v, r, e, Rep.cutL o d v n'.1 p, RepF.cutL o ds r n'.2 q⟩
theorem RepK.cutL (o : ∀ a, L a → ∃ vs, W.G a = some (.lst vs)) : ∀ (ds : List (Key × D)) (vs : List (Key × V)), nolk ds = true → RepK C W ds vs → RepK C (W.cut L) ds vs
  | [], vs, _, r => r
  | (x, d) :: ds, vs, n, ⟨v, r, e, p, q⟩ => by
    have n' : (d.nol && nolk ds) = true := n
    rw [Bool.and_eq_true] at n'
    exact ⟨v, r, e, Rep.cutL o d v n'.1 p, RepK.cutL o ds r n'.2 q⟩
end

/-! ### what a name holds -/
def SlRep (C : Rc) (W : Wd) (H0 H : Hp) : Sl → V → Prop
  | .no, _ => True
  | .sh d, v => Rep C W d v
  | .ow ds, v => ∃ a vs, v = .ref a ∧ H a = some (.lst vs) ∧ W.G a = none ∧ H0 a = none ∧ Reps C W ds vs
  | .ob c fs, v => ∃ a cl dx vs, v = .ref a ∧ (C.mg c = some (.ref cl) ∧ W.scr = some a) ∧ H a = some (.ins cl dx vs) ∧ W.G a = none ∧ H0 a = none ∧ RepF C W fs vs
def Sl.own : Sl → Bool
  | .ow _ => true
  | .ob _ _ => true
  | _ => false
def Sl.any : Sl → Bool
  | .no => false
  | _ => true
structure SSl (C : Rc) (W : Wd) (H0 H : Hp) (ρ : List Sl) (σ : Sg) : Prop where
  len : ρ.length = σ.length
  at_ : ∀ (i : Nat) (x : Sl), ρ[i]? = some x → x.any = true → ∃ v, σ[i]? = some (some v) ∧ SlRep C W H0 H x v
  inj : ∀ (i j : Nat) (x y : Sl) (v : V), ρ[i]? = some x → ρ[j]? = some y → x.own = true → y.own = true → σ[i]? = some (some v) → σ[j]? = some (some v) → i = j
/-- where a body stands: at the entry W0, H0 -/
structure SI (C : Rc) (W0 : Wd) (H0 : Hp) (W : Wd) (H : Hp) (ρ : List Sl) (σ : Sg) (st : Ms) : Prop where
  rel : Rel C W st H
  ext : Ext W0 H0 W H
  sl : SSl C W H0 H ρ σ
/-- the own lists that a term sees -/
def Lof (vs : List Nat) (ρ : List Sl) (σ : Sg) (a : Addr) : Prop := ∃ i ds, i ∈ vs ∧ ρ[i]? = some (.ow ds) ∧ σ[i]? = some (some (.ref a))
theorem SSl.ownL {ρ : List Sl} {σ : Sg} (s : SSl C W H0 H ρ σ) (vs : List Nat) : OwnL W H (Lof vs ρ σ) := fun a ⟨i, ds, _, h1, h2⟩ => by
  obtain ⟨v, e, b, ws, ev, g1, g2, g3, g4⟩ := s.at_ i _ h1 rfl
  rw [h2] at e
  cases e
  cases ev
  exact ⟨g2, ws, g1⟩
theorem SSl.newL {ρ : List Sl} {σ : Sg} (s : SSl C W H0 H ρ σ) (vs : List Nat) : ∀ a, Lof vs ρ σ a → H0 a = none := fun a ⟨i, ds, _, h1, h2⟩ => by
  obtain ⟨v, e, b, ws, ev, g1, g2, g3, g4⟩ := s.at_ i _ h1 rfl
  rw [h2] at e
  cases e
  cases ev
  exact g3
theorem look_at {vs : List Nat} {ρ : List Sl} {i : Nat} {d : D} (h : (look vs ρ)[i]? = some (some d)) : ρ[i]? = some (.sh d) ∨ ∃ ds, ρ[i]? = some (.ow ds) ∧ i ∈ vs ∧ d = .lst ds := by
  unfold look at h
  rw [List.getElem?_mapIdx] at h
  cases e : ρ[i]? with
  | none => rw [e] at h; cases h
  | some x =>
    rw [e] at h
    have h' : look1 vs i x = some d := by simpa using h
    cases x with
    | no => cases h'
    | sh d' => exact .inl (by cases h'; rfl)
    | ow ds =>
      have h2 : (if i ∈ vs then some (D.lst ds) else none) = some d := h'
      split at h2
      · rename_i hi
        cases h2
        exact .inr ⟨ds, rfl, hi, rfl⟩
      · cases h2
    | ob c fs => cases h'
theorem fz_at {vs : List Nat} {ρ : List Sl} {i : Nat} {x : Sl} (h : (fz vs ρ)[i]? = some x) : (∃ ds, ρ[i]? = some (.ow ds) ∧ i ∈ vs ∧ x = .sh (.lst ds)) ∨ (ρ[i]? = some x ∧ (x.own = true → (∀ c fs, x ≠ .ob c fs) → i ∉ vs)) := by
  unfold fz at h
  rw [List.getElem?_mapIdx] at h
  cases e : ρ[i]? with
  | none => rw [e] at h; cases h
  | some y =>
    rw [e] at h
    have h' : fz1 vs i y = x := by simpa using h
    cases y with
    | ow ds =>
      have h2 : (if i ∈ vs then Sl.sh (D.lst ds) else .ow ds) = x := h'
      split at h2
      · rename_i hi
        exact .inl ⟨ds, rfl, hi, h2.symm⟩
      · rename_i hi
        exact .inr ⟨by rw [h2], fun _ _ => hi⟩
    | no => subst h'; exact .inr ⟨rfl, fun z _ => by cases z⟩
    | sh d => subst h'; exact .inr ⟨rfl, fun z _ => by cases z⟩
    | ob c fs => subst h'; exact .inr ⟨rfl, fun _ z => absurd rfl (z c fs)⟩
theorem fz_len {vs : List Nat} {ρ : List Sl} : (fz vs ρ).length = ρ.length := by unfold fz; simp
theorem look_len {vs : List Nat} {ρ : List Sl} : (look vs ρ).length = ρ.length := by unfold look; simp
theorem SSl.slots {ρ : List Sl} {σ : Sg} (s : SSl C W H0 H ρ σ) (vs : List Nat) : Slots C (W.frz H (Lof vs ρ σ)) (look vs ρ) σ := by
  refine ⟨by rw [look_len]; exact s.len, fun i d h => ?_⟩
  rcases look_at h with q | ⟨ds, q, hi, e⟩
  · obtain ⟨v, e, r⟩ := s.at_ i _ q rfl
    exact ⟨v, e, Rep.le (le_frz (s.ownL vs)) d v r⟩
  · subst e
    obtain ⟨v, e, a, ws, ev, g1, g2, g3, g4⟩ := s.at_ i _ q rfl
    subst ev
    refine ⟨_, e, a, ws, rfl, ?_, Reps.le (le_frz (s.ownL vs)) _ _ g4⟩
    rw [frz_in ⟨i, ds, hi, q, e⟩]; exact g1
/-- a thing of one's own stays while others run -/
theorem own_stays {x : Sl} {v : V} (r : Rel C W st H) (e : Ext W H W' H') (hx : x.own = true) (s : SlRep C W H0 H x v) : SlRep C W' H0 H' x v := by
  have np : ∀ {a : Addr} {o : HO}, H a = some o → (∀ p c, o ≠ .dK (penKvs p c)) → ∀ y, W.pen = some y → a ≠ y.1 := fun {a o} h n y hy z => by
    obtain ⟨q, _, h2, _⟩ := r.pen y hy
    rw [← z, h] at h2
    exact n _ _ (Option.some.inj h2)
  have ng : ∀ {a : Addr} {o : HO}, H a = some o → W.G a = none → W'.G a = none := fun {a o} h n => by
    cases q : W'.G a with
    | none => rfl
    | some u =>
      rcases e.newG a u q with z | z
      · rw [n] at z; cases z
      · rw [h] at z; cases z
  cases x with
  | no => cases hx
  | sh d => cases hx
  | ow ds =>
    obtain ⟨a, vs, ev, g1, g2, g3, g4⟩ := s
    exact ⟨a, vs, ev, e.keep a _ g1 (np g1 fun _ _ z => by cases z), ng g1 g2, g3, Reps.le e.le _ _ g4⟩
  | ob c fs =>
    obtain ⟨a, cl, dx, vs, ev, m, g1, g2, g3, g4⟩ := s
    exact ⟨a, cl, dx, vs, ev, ⟨m.1, e.scr.trans m.2⟩, e.keep a _ g1 (np g1 fun _ _ z => by cases z), ng g1 g2, g3, RepF.le e.le _ _ g4⟩
theorem sl_stays {x : Sl} {v : V} (r : Rel C W st H) (e : Ext W H W' H') (s : SlRep C W H0 H x v) : SlRep C W' H0 H' x v := by
  cases x with
  | no => trivial
  | sh d => exact Rep.le e.le d v s
  | ow ds => exact own_stays r e rfl s
  | ob c fs => exact own_stays r e rfl s
/-- a thing of one's own that is not among L, in the world where L is frozen -/
theorem own_frz {x : Sl} {v : V} (o : OwnL W H L) (hx : x.own = true) (n : ∀ a, v = .ref a → ¬ L a) (s : SlRep C W H0 H x v) : SlRep C (W.frz H L) H0 H x v := by
  cases x with
  | no => cases hx
  | sh d => cases hx
  | ow ds =>
    obtain ⟨a, vs, ev, g1, g2, g3, g4⟩ := s
    exact ⟨a, vs, ev, g1, by rw [frz_out (n a ev)]; exact g2, g3, Reps.le (le_frz o) _ _ g4⟩
  | ob c fs =>
    obtain ⟨a, cl, dx, vs, ev, m, g1, g2, g3, g4⟩ := s
    exact ⟨a, cl, dx, vs, ev, m, g1, by rw [frz_out (n a ev)]; exact g2, g3, RepF.le (le_frz o) _ _ g4⟩
/-- frozen from now on -/
theorem SSl.frozen {ρ : List Sl} {σ : Sg} (r : Rel C W st H) (s : SSl C W H0 H ρ σ) (vs : List Nat) (e : Ext (W.frz H (Lof vs ρ σ)) H W' H') : SSl C W' H0 H' (fz vs ρ) σ := by
  have o := s.ownL vs
  have r' := rel_frzL r o
  refine ⟨by rw [fz_len]; exact s.len, fun i x h hx => ?_, fun i j x y v hi hj ox oy vi vj => ?_⟩
  · rcases fz_at h with ⟨ds, q, hi, ee⟩ | ⟨q, hn⟩
    · subst ee
      obtain ⟨v, e1, a, ws, ev, g1, g2, g3, g4⟩ := s.at_ i _ q rfl
      subst ev
      refine ⟨_, e1, a, ws, rfl, ?_, Reps.le ((le_frz o).trans e.le) _ _ g4⟩
      rw [(own_later r o e a ⟨i, ds, hi, q, e1⟩).2]; exact g1
    · obtain ⟨v, e1, sr⟩ := s.at_ i _ q hx
      refine ⟨v, e1, sl_stays r' e ?_⟩
      cases hox : x.own with
      | true =>
        refine own_frz o hox (fun a ev ⟨j, ds, hj, q2, e2⟩ => ?_) sr
        subst ev
        have ij := s.inj i j _ _ _ q q2 hox rfl e1 e2
        subst ij
        rw [q] at q2
        cases q2
        exact hn rfl (fun _ _ z => by cases z) hj
      | false =>
        cases x with
        | no => trivial
        | sh d => exact Rep.le (le_frz o) d v sr
        | ow ds => cases hox
        | ob c fs => cases hox
  · have get : ∀ {i : Nat} {x : Sl}, (fz vs ρ)[i]? = some x → x.own = true → ρ[i]? = some x := fun {i x} h ox => by
      rcases fz_at h with ⟨ds, q, hi, ee⟩ | ⟨q, hn⟩
      · subst ee; cases ox
      · exact q
    exact s.inj i j x y v (get hi ox) (get hj oy) ox oy vi vj
/-- nothing of them was kept -/
theorem SSl.kept {ρ : List Sl} {σ : Sg} (r : Rel C W st H) (s : SSl C W H0 H ρ σ) (vs : List Nat) (e : Ext (W.frz H (Lof vs ρ σ)) H W' H') : SSl C (W'.cut (Lof vs ρ σ)) H0 H' ρ σ := by
  have o := s.ownL vs
  have r' := rel_frzL r o
  have lc : Le W (W'.cut (Lof vs ρ σ)) := le_cut (fun a h => (o a h).1) ((le_frz o).trans e.le)
  refine ⟨s.len, fun i x q hx => ?_, s.inj⟩
  obtain ⟨v, e1, sr⟩ := s.at_ i _ q hx
  refine ⟨v, e1, ?_⟩
  have np : ∀ {a : Addr} {u : HO}, H a = some u → (∀ p c, u ≠ .dK (penKvs p c)) → H' a = some u := fun {a u} h n => e.keep a u h fun y hy z => by
    obtain ⟨p, _, h2, _⟩ := r.pen y hy
    rw [← z, h] at h2
    exact n _ _ (Option.some.inj h2)
  have ng : ∀ {a : Addr} {u : HO}, H a = some u → W.G a = none → (W'.cut (Lof vs ρ σ)).G a = none := fun {a u} h n => by
    by_cases hl : Lof vs ρ σ a
    · exact cut_in hl
    · rw [cut_out hl]
      cases z : W'.G a with
      | none => rfl
      | some w =>
        rcases e.newG a w z with y | y
        · rw [frz_out hl, n] at y; cases y
        · rw [h] at y; cases y
  cases x with
  | no => trivial
  | sh d => exact Rep.le lc d v sr
  | ow ds =>
    obtain ⟨a, ws, ev, g1, g2, g3, g4⟩ := sr
    exact ⟨a, ws, ev, np g1 (fun _ _ z => by cases z), ng g1 g2, g3, Reps.le lc _ _ g4⟩
  | ob c fs =>
    obtain ⟨a, cl, dx, ws, ev, m, g1, g2, g3, g4⟩ := sr
    exact ⟨a, cl, dx, ws, ev, ⟨m.1, e.scr.trans m.2⟩, np g1 (fun _ _ z => by cases z), ng g1 g2, g3, RepF.le lc _ _ g4⟩
theorem ext_cutL (e0 : Ext W0 H0 W H) (r : Rel C W st H) (o : OwnL W H L) (n : ∀ a, L a → H0 a = none) (e : Ext (W.frz H L) H W' H') : Ext W0 H0 (W'.cut L) H' where
  le := e0.le.trans (le_cut (fun a h => (o a h).1) ((le_frz o).trans e.le))
  keep := ((ext_frzL e0 o n).trans e).keep
  dom := ((ext_frzL e0 o n).trans e).dom
  newG := fun a u z => by
    by_cases h : L a
    · rw [cut_in h] at z; cases z
    · rw [cut_out h] at z; exact ((ext_frzL e0 o n).trans e).newG a u z
  scr := e.scr.trans e0.scr
/-- after a term: frozen -/
theorem SI.frozen {ρ : List Sl} {σ : Sg} (I : SI C W0 H0 W H ρ σ st) (vs : List Nat) (e : Ext (W.frz H (Lof vs ρ σ)) H W' H') (r' : Rel C W' st' H') : SI C W0 H0 W' H' (fz vs ρ) σ st' :=
  ⟨r', (ext_frzL I.ext (I.sl.ownL vs) (I.sl.newL vs)).trans e, I.sl.frozen I.rel vs e⟩
theorem SI.kept {ρ : List Sl} {σ : Sg} (I : SI C W0 H0 W H ρ σ st) (vs : List Nat) (e : Ext (W.frz H (Lof vs ρ σ)) H W' H') (r' : Rel C W' st' H') : SI C W0 H0 (W'.cut (Lof vs ρ σ)) H' ρ σ st' :=
  ⟨rel_cutL I.rel (I.sl.ownL vs) e r', ext_cutL I.ext I.rel (I.sl.ownL vs) (I.sl.newL vs) e, I.sl.kept I.rel vs e⟩
theorem SI.lst {ρ : List Sl} {σ : Sg} (I : SI C W0 H0 W H ρ σ st) (vs : List Nat) (e : Ext (W.frz H (Lof vs ρ σ)) H W' H') : ∀ a, Lof vs ρ σ a → ∃ ws, W'.G a = some (.lst ws) := fun a h => by
  obtain ⟨_, ws, hw⟩ := I.sl.ownL vs a h
  exact ⟨ws, by rw [(own_later I.rel (I.sl.ownL vs) e a h).2]; exact hw⟩
end
end Mp
set_option Elab.async false
set_option linter.all false
set_option maxRecDepth 100000
set_option maxHeartbeats 2000000
/-! MpStm3: terms in statements. -/
namespace Mp
open PySem PySem.Spec PyProof.Rows L2
section
variable {P : Program} {w : World} {C : Rc} {base : Heap} {k : Nat} {N : List Str} {sc : Scope} {Wx : XK} {X : Cx} {Γ : Gm}
/-! ### new lists -/
theorem l_lstF {es : List Expr} {m : Es} {pos : Pos} (h : PA X es (tEvs C Γ Wx m)) : PE X (.List es pos) (tEvF C Γ Wx (.lst m)) := by
  refine PE.imp (pe_lst h) fun σ H Q ⟨W, st, ρ, sl, r, q⟩ => ?_
  refine ⟨W, st, ρ, sl, r, q.bind.imp fun ds s W1 H1 e1 r1 q1 vs p => ?_⟩
  by_cases hz : ds.length ≤ sizeLine
  · rw [if_pos hz] at q1
    obtain ⟨ds', ed, q2⟩ := oq_ok r1 q1
    cases ed
    exact ⟨by rw [← p.length]; exact hz, fun a ha => q2 a vs ha ⟨G_free r1 ha, fun x hx z => by
      obtain ⟨_, _, h2, _⟩ := r1.pen x hx
      rw [z, ha] at h2; cases h2⟩ p⟩
  · rw [if_neg hz] at q1
    exact False.elim q1
theorem list_inv {d : D} {ds : List D} (e : biD .list ds = some d) : ∃ xs, d = .lst xs ∧ (ds = [.tup xs] ∨ ds = [.lst xs]) := by
  rcases ds with _ | ⟨x, _ | ⟨_, _⟩⟩
  · cases e
  · cases x <;> first | (cases e; done) | (cases e; exact ⟨_, rfl, .inl rfl⟩) | (cases e; exact ⟨_, rfl, .inr rfl⟩)
  · cases x <;> cases e
theorem l_listF (o : XOk P w C base k N sc Wx X) (G : GOk P w C base k Γ) {y : Expr} {ys : List Expr} {m : Es} {p pos : Pos} (hg : glB sc "list" = true) (hp : ∀ x ∈ y :: ys, plainX x = true) (ha : PA X (y :: ys) (tEvs C Γ Wx m)) :
    PE X (.Call (.Name "list" p) (y :: ys) [] pos) (tEvF C Γ Wx (.bi .list m)) := by
  obtain ⟨g1, g2, g3⟩ := gl_of o hg
  have hm : X.mg "list" = none := by rw [o.mg]; exact G.free _ (by decide)
  have bt := Bi.list.boot
  have hs := plain_star (es := ys) (env := X.env) (hp y List.mem_cons_self)
  have ha2 := stars_any (env := X.env) (pos := pos) fun x hx => hp x (List.mem_cons_of_mem y hx)
  refine PE.imp (pe_callTy call_list_of g1 hm bt ha g3 g2 hs ha2) fun σ H Q ⟨W, st, ρ, sl, r, q⟩ => ?_
  refine ⟨W, st, ρ, sl, r, q.bind.imp fun ds s W1 H1 e1 r1 q1 vs ps => ?_⟩
  obtain ⟨d, ed, q2⟩ := q1.opt
  obtain ⟨xs, exs, q3⟩ := q2 W1 H1 (.refl W1 H1) r1
  obtain ⟨xs', exs', hds⟩ := list_inv ed
  rw [exs] at exs'
  cases exs'
  have fin : ∀ ws, Reps C W1 xs ws → ∀ l, H1 l = none → Q (.ref l) (upd H1 l (.lst ws)) := fun ws rp l hl => q3 l ws hl ⟨G_free r1 hl, fun x hx z => by
      obtain ⟨_, _, h2, _⟩ := r1.pen x hx
      rw [z, hl] at h2; cases h2⟩ rp
  rcases hds with z | z <;> subst z
  · obtain ⟨v, ev, a, ws, ea, sa, qa⟩ := Reps.one ps
    subst ev ea
    exact ⟨a, ws, rfl, .inr (by rw [o.K]; exact sqT_le r1.sub sa), fin ws qa⟩
  · obtain ⟨v, ev, a, ws, ea, sa, qa⟩ := Reps.one ps
    subst ev ea
    exact ⟨a, ws, rfl, .inl (.of (r1.sub _ _ sa)), fin ws qa⟩
/-- the terms that make new lists -/
def newB : E → Bool
  | .lst _ => true
  | .lc _ _ _ _ => true
  | .bi .list _ => true
  | _ => false
theorem new_ok (G : GOk P w C base k Γ) (o : XOk P w C base k N sc Wx X) {m : E} {e : Expr} (hn : newB m = true) (h : mt N sc m e = true) : PE X e (tEvF C Γ Wx m) := by
  cases m with
  | lst es =>
    cases e <;> simp [mt] at h
    exact l_lstF (evs_ok G es N sc Wx X _ o h).1
  | lc tg it c el =>
    obtain ⟨elt, t, i, ifs, scope, pos, he, h1, h2, h3, h4, h5⟩ := mt_lc h
    rw [he]
    exact l_lc o (evi_ok G it N sc Wx X t i o h1) (mti_plain h1) h2 h3 fun X' o' => ⟨evc_ok G c N _ noX X' ifs o' h4, (ev_ok G el N _ noX X' elt o' h5).1⟩
  | bi f es =>
    cases f <;> first | (cases hn; done) | skip
    cases e <;> first | (simp [mt] at h; done) | skip
    rename_i fn args kws pos
    cases fn <;> first | (simp [mt] at h; done) | skip
    rename_i x p
    rcases args with _ | ⟨y, ys⟩ <;> rcases kws with _ | ⟨_, _⟩ <;> first | (simp [mt] at h; done) | skip
    simp only [mt, Bool.and_eq_true, decide_eq_true_eq] at h
    obtain ⟨⟨h1, h2⟩, h3⟩ := h
    subst h1
    exact l_listF o G h2 (mts_plain h3) (evs_ok G es N sc Wx X _ o h3).1
  | _ => cases hn

/-! ### a term where names own lists -/
variable {W0 W W' : Wd} {H0 H H' : Hp} {ρ : List Sl} {σ : Sg} {st st' : Ms}
/-- what stays while a term is walked -/
abbrev Keeps (C : Rc) (H0 : Hp) (W : Wd) (H : Hp) (L : Addr → Prop) (W1 : Wd) (H1 : Hp) : Prop := ∀ x v, SlRep C W H0 H x v → (x.own = true → ∀ a, v = .ref a → ¬ L a) → SlRep C W1 H0 H1 x v
theorem keeps_frozen (I : SI C W0 H0 W H ρ σ st) (vs : List Nat) (e : Ext (W.frz H (Lof vs ρ σ)) H W' H') : Keeps C H0 W H (Lof vs ρ σ) W' H' := fun x v s n => by
  have o := I.sl.ownL vs
  have r' := rel_frzL I.rel o
  refine sl_stays r' e ?_
  cases hox : x.own with
  | true => exact own_frz o hox (n hox) s
  | false =>
    cases x with
    | no => trivial
    | sh d => exact Rep.le (le_frz o) d v s
    | ow ds => cases hox
    | ob c fs => cases hox
theorem keeps_cut (I : SI C W0 H0 W H ρ σ st) (vs : List Nat) (e : Ext (W.frz H (Lof vs ρ σ)) H W' H') : Keeps C H0 W H (Lof vs ρ σ) (W'.cut (Lof vs ρ σ)) H' := fun x v s n => by
  have o := I.sl.ownL vs
  have lc : Le W (W'.cut (Lof vs ρ σ)) := le_cut (fun a h => (o a h).1) ((le_frz o).trans e.le)
  have q := keeps_frozen I vs e x v s n
  cases x with
  | no => trivial
  | sh d => exact Rep.le lc d v s
  | ow ds =>
    obtain ⟨a, ws, ev, g1, g2, g3, g4⟩ := q
    obtain ⟨a', ws', ev', g1', g2', g3', g4'⟩ := s
    rw [ev] at ev'
    cases ev'
    have nl := n rfl a ev
    have e1 : ws = ws' := by
      have z := e.keep a _ g1' fun y hy z => by
        obtain ⟨p, _, h2, _⟩ := I.rel.pen y hy
        rw [← z, g1'] at h2
        cases h2
      rw [g1] at z
      cases z; rfl
    subst e1
    exact ⟨a, ws, ev, g1, by rw [cut_out nl]; exact g2, g3, Reps.le lc _ _ g4'⟩
  | ob c fs =>
    obtain ⟨a, cl, dx, ws, ev, m, g1, g2, g3, g4⟩ := q
    obtain ⟨a', cl', dx', ws', ev', m', g1', g2', g3', g4'⟩ := s
    rw [ev] at ev'
    cases ev'
    have nl := n rfl a ev
    have e1 : ws = ws' := by
      have z := e.keep a _ g1' fun y hy z => by
        obtain ⟨p, _, h2, _⟩ := I.rel.pen y hy
        rw [← z, g1'] at h2
        cases h2
      rw [g1] at z
      cases z; rfl
    subst e1
    exact ⟨a, cl, dx, ws, ev, m, g1, by rw [cut_out nl]; exact g2, g3, RepF.le lc _ _ g4'⟩
/-- by the world where the seen lists are frozen -/
theorem start_tm (I : SI C W0 H0 W H ρ σ st) (vs : List Nat) {α : Type} {R : α → Ms → Wd → Hp → Prop} {o : Out α} (q : OQ C Wx W0 H0 R o) : OQ C Wx (W.frz H (Lof vs ρ σ)) H R o :=
  q.mono (ext_frzL I.ext (I.sl.ownL vs) (I.sl.newL vs))
/-- what is a name's own was so before -/
abbrev OwnSub (ρ ρ' : List Sl) : Prop := ∀ (j : Nat) (y : Sl), ρ'[j]? = some y → y.own = true → ρ[j]? = some y
theorem fz_sub {vs : List Nat} {ρ : List Sl} : OwnSub ρ (fz vs ρ) := fun j y h oy => by
  rcases fz_at h with ⟨ds, q, hi, ee⟩ | ⟨q, hn⟩
  · subst ee; cases oy
  · exact q
theorem x_val {β : Type} {R : β → Ms → Wd → Hp → Prop} {kp : Bool} {e : E} {f : D × List Sl → Ms → Out β} {Q : VK} (I : SI C W0 H0 W H ρ σ st) (q : OQ C Wx W0 H0 R ((evX Γ kp e ρ st).bind f))
    (h : ∀ d ρ' s W1 H1 v, SI C W0 H0 W1 H1 ρ' σ s → Rep C W1 d v → Keeps C H0 W H (Lof (vsE e) ρ σ) W1 H1 → OwnSub ρ ρ' → OQ C Wx W0 H0 R (f (d, ρ') s) → Q v H1) : tEv C Γ Wx e σ H Q := by
  have q1 : OQ C Wx W0 H0 R ((ev Γ e (look (vsE e) ρ) st).bind fun d s => (if kp = true then (if d.nol = true then Out.ok (d, ρ) s else .bad) else .ok (d, fz (vsE e) ρ) s).bind f) := by
    rw [← bind_assoc]; exact q
  refine ⟨W.frz H (Lof (vsE e) ρ σ), st, look (vsE e) ρ, I.sl.slots (vsE e), rel_frzL I.rel (I.sl.ownL (vsE e)), ?_⟩
  have e0 := ext_frzL I.ext (I.sl.ownL (vsE e)) (I.sl.newL (vsE e))
  cases eo : ev Γ e (look (vsE e) ρ) st with
  | bad => rw [eo] at q1; exact False.elim q1
  | ex x s => rw [eo] at q1; exact q1.mono e0
  | ok d s =>
    rw [eo] at q1
    intro W1 H1 e1 r1 v p
    have q2 : OQ C Wx W0 H0 R ((if kp = true then (if d.nol = true then Out.ok (d, ρ) s else .bad) else .ok (d, fz (vsE e) ρ) s).bind f) := q1
    cases kp with
    | true =>
      rw [if_pos rfl] at q2
      by_cases hn : d.nol = true
      · rw [if_pos hn] at q2
        exact h d ρ s _ H1 v (I.kept (vsE e) e1 r1) (Rep.cutL (I.lst (vsE e) e1) d v hn p) (keeps_cut I (vsE e) e1) (fun _ _ z _ => z) q2
      · rw [if_neg hn] at q2
        exact False.elim q2
    | false =>
      rw [if_neg Bool.false_ne_true] at q2
      exact h d _ s W1 H1 v (I.frozen (vsE e) e1 r1) p (keeps_frozen I (vsE e) e1) fz_sub q2
/-- a new thing of one's own is laid -/
theorem SI.laid (I : SI C W0 H0 W H ρ σ st) {p : Addr} {o : HO} (hp : H p = none) : SI C W0 H0 W (upd H p o) ρ σ st := by
  refine ⟨rel_own I.rel hp, I.ext.trans (ext_own hp), I.sl.len, fun i x q hx => ?_, I.sl.inj⟩
  obtain ⟨v, e1, sr⟩ := I.sl.at_ i x q hx
  exact ⟨v, e1, sl_stays I.rel (ext_own hp) sr⟩
theorem x_new {β : Type} {R : β → Ms → Wd → Hp → Prop} {kp : Bool} {e : E} {f : List D × List Sl → Ms → Out β} {Q : VK} (I : SI C W0 H0 W H ρ σ st) (q : OQ C Wx W0 H0 R ((evN Γ kp e ρ st).bind f))
    (h : ∀ ds ρ' s W1 H1 p vs, H1 p = none → H p = none → SI C W0 H0 W1 H1 ρ' σ s → Reps C W1 ds vs → Keeps C H0 W H (Lof (vsE e) ρ σ) W1 H1 → OwnSub ρ ρ' → OQ C Wx W0 H0 R (f (ds, ρ') s) → Q (.ref p) (upd H1 p (.lst vs))) : tEvF C Γ Wx e σ H Q := by
  have q1 : OQ C Wx W0 H0 R ((ev Γ e (look (vsE e) ρ) st).bind fun d s => (match d with
    | .lst ds => if kp = true then (if nols ds = true then Out.ok (ds, ρ) s else .bad) else .ok (ds, fz (vsE e) ρ) s
    | _ => .bad).bind f) := by
    rw [← bind_assoc]; exact q
  refine ⟨W.frz H (Lof (vsE e) ρ σ), st, look (vsE e) ρ, I.sl.slots (vsE e), rel_frzL I.rel (I.sl.ownL (vsE e)), ?_⟩
  have e0 := ext_frzL I.ext (I.sl.ownL (vsE e)) (I.sl.newL (vsE e))
  cases eo : ev Γ e (look (vsE e) ρ) st with
  | bad => rw [eo] at q1; exact False.elim q1
  | ex x s => rw [eo] at q1; exact q1.mono e0
  | ok d s =>
    rw [eo] at q1
    intro W1 H1 e1 r1
    cases d with
    | lst ds =>
      refine ⟨ds, rfl, fun p vs hp mi rp => ?_⟩
      have q2 : OQ C Wx W0 H0 R ((if kp = true then (if nols ds = true then Out.ok (ds, ρ) s else .bad) else .ok (ds, fz (vsE e) ρ) s).bind f) := q1
      cases kp with
      | true =>
        rw [if_pos rfl] at q2
        by_cases hn : nols ds = true
        · rw [if_pos hn] at q2
          exact h ds ρ s _ H1 p vs hp (e1.dom p hp) (I.kept (vsE e) e1 r1) (Reps.cutL (I.lst (vsE e) e1) ds vs hn rp) (keeps_cut I (vsE e) e1) (fun _ _ z _ => z) q2
        · rw [if_neg hn] at q2
          exact False.elim q2
      | false =>
        rw [if_neg Bool.false_ne_true] at q2
        exact h ds _ s W1 H1 p vs hp (e1.dom p hp) (I.frozen (vsE e) e1 r1) rp (keeps_frozen I (vsE e) e1) fz_sub q2
    | _ => exact False.elim q1
/-- a value as it is taken -/
def tV (C : Rc) (Γ : Gm) (Wx : XK) (m : Md) (e : E) : TE := if m.ow = true then tEvF C Γ Wx e else tEv C Γ Wx e
theorem tv_ok (G : GOk P w C base k Γ) (o : XOk P w C base k N sc Wx X) {m : Md} {a : E} {e : Expr} (hn : m.ow = true → newB a = true) (h : mt N sc a e = true) : PE X e (tV C Γ Wx m a) := by
  unfold tV
  by_cases hm : m.ow = true
  · rw [if_pos hm]; exact new_ok G o (hn hm) h
  · rw [if_neg hm]; exact (ev_ok G a N sc Wx X e o h).1
/-- one's own, and no other's -/
abbrev Apart (ρ : List Sl) (σ : Sg) (x : Sl) (v : V) : Prop := x.own = true → ∀ (i : Nat) (y : Sl), ρ[i]? = some y → y.own = true → σ[i]? ≠ some (some v)
theorem v_val {β : Type} {R : β → Ms → Wd → Hp → Prop} {m : Md} {e : E} {f : Sl × List Sl → Ms → Out β} {Q : VK} (I : SI C W0 H0 W H ρ σ st) (q : OQ C Wx W0 H0 R ((evV Γ m e ρ st).bind f))
    (h : ∀ x ρ' s W1 H1 v, SI C W0 H0 W1 H1 ρ' σ s → SlRep C W1 H0 H1 x v → x.any = true → Apart ρ' σ x v → (x.own = true → ∀ a, v = .ref a → H a = none) → Keeps C H0 W H (Lof (vsE e) ρ σ) W1 H1 → OwnSub ρ ρ' → OQ C Wx W0 H0 R (f (x, ρ') s) → Q v H1) : tV C Γ Wx m e σ H Q := by
  unfold tV
  unfold evV at q
  by_cases hm : m.ow = true
  · rw [if_pos hm] at q ⊢
    rw [bind_assoc] at q
    refine x_new I q fun ds ρ' s W1 H1 p vs hp hp0 I1 rp kp sb q1 => h (.ow ds) ρ' s W1 _ (.ref p) (I1.laid hp) ⟨p, vs, rfl, upd_same, G_free I1.rel hp, I1.ext.dom p hp, rp⟩ rfl (fun _ i y hi hy z => ?_) (fun _ a ea => ?_) (fun x v s n => ?_) sb q1
    · obtain ⟨v, e1, sr⟩ := I1.sl.at_ i y hi (by cases y <;> first | rfl | cases hy)
      rw [z] at e1
      cases e1
      cases y with
      | no => cases hy
      | sh d => cases hy
      | ow ds' => obtain ⟨b, _, eb, g, _⟩ := sr; cases eb; rw [hp] at g; cases g
      | ob c fs => obtain ⟨b, _, _, _, eb, _, g, _⟩ := sr; cases eb; rw [hp] at g; cases g
    · cases ea; exact hp0
    · exact sl_stays I1.rel (ext_own hp) (kp x v s n)
  · rw [if_neg hm] at q ⊢
    rw [bind_assoc] at q
    exact x_val I q fun d ρ' s W1 H1 v I1 p kp sb q1 => h (.sh d) ρ' s W1 H1 v I1 p rfl (fun z => by cases z) (fun z => by cases z) kp sb q1
end
end Mp
set_option Elab.async false
set_option linter.all false
set_option maxRecDepth 100000
set_option maxHeartbeats 2000000
/-! MpStm4: names are set. -/
namespace Mp
open PySem PySem.Spec PyProof.Rows L2
section
variable {P : Program} {w : World} {C : Rc} {base : Heap} {k : Nat} {N : List Str} {sc : Scope} {Wx : XK} {X : Cx} {Γ : Gm}
variable {W0 W W' : Wd} {H0 H H' : Hp} {ρ ρ' : List Sl} {σ σ' : Sg} {st st' : Ms}
theorem SSl.set (s : SSl C W H0 H ρ σ) {x : Sl} {v : V} (i : Nat) (r : SlRep C W H0 H x v) (n : Apart ρ σ x v) : SSl C W H0 H (ρ.set i x) (σ.set i (some v)) := by
  have at1 : ∀ {j : Nat} {y : Sl}, (ρ.set i x)[j]? = some y → (j = i ∧ y = x ∧ (σ.set i (some v))[j]? = some (some v)) ∨ (j ≠ i ∧ ρ[j]? = some y ∧ (σ.set i (some v))[j]? = σ[j]?) := fun {j y} h => by
    by_cases q : i = j
    · subst q
      by_cases hi : i < ρ.length
      · rw [List.getElem?_set_self hi] at h
        cases h
        exact .inl ⟨rfl, rfl, List.getElem?_set_self (by rw [← s.len]; exact hi)⟩
      · rw [List.getElem?_eq_none (by simpa using hi)] at h
        cases h
    · rw [List.getElem?_set_ne q] at h
      exact .inr ⟨Ne.symm q, h, List.getElem?_set_ne q⟩
  refine ⟨by simp [s.len], fun j y h hy => ?_, fun j1 j2 y1 y2 u h1 h2 o1 o2 e1 e2 => ?_⟩
  · rcases at1 h with ⟨_, ey, es⟩ | ⟨_, h', es⟩
    · subst ey; exact ⟨v, es, r⟩
    · rw [es]; exact s.at_ j y h' hy
  · rcases at1 h1 with ⟨i1, ey1, es1⟩ | ⟨n1, h1', es1⟩ <;> rcases at1 h2 with ⟨i2, ey2, es2⟩ | ⟨n2, h2', es2⟩
    · rw [i1, i2]
    · rw [es1] at e1
      cases e1
      rw [es2] at e2
      subst ey1
      exact absurd e2 (n o1 j2 y2 h2' o2)
    · rw [es2] at e2
      cases e2
      rw [es1] at e1
      subst ey2
      exact absurd e1 (n o2 j1 y1 h1' o1)
    · rw [es1] at e1
      rw [es2] at e2
      exact s.inj j1 j2 y1 y2 u h1' h2' o1 o2 e1 e2
theorem SI.set (I : SI C W0 H0 W H ρ σ st) {x : Sl} {v : V} (i : Nat) (r : SlRep C W H0 H x v) (n : Apart ρ σ x v) : SI C W0 H0 W H (ρ.set i x) (σ.set i (some v)) st := ⟨I.rel, I.ext, I.sl.set i r n⟩
theorem apart_sh {d : D} {v : V} : Apart ρ σ (.sh d) v := fun z => by cases z
theorem Apart.set {x y : Sl} {v u : V} (n : Apart ρ σ x v) (l : ρ.length = σ.length) (i : Nat) (h : x.own = true → y.own = true → u ≠ v) : Apart (ρ.set i y) (σ.set i (some u)) x v := fun ox j z hz oz e => by
  by_cases q : i = j
  · subst q
    by_cases hi : i < ρ.length
    · rw [List.getElem?_set_self hi] at hz
      cases hz
      rw [List.getElem?_set_self (by rw [← l]; exact hi)] at e
      cases e
      exact h ox oz rfl
    · rw [List.getElem?_eq_none (by simpa using hi)] at hz
      cases hz
  · rw [List.getElem?_set_ne q] at hz e
    exact n ox j z hz oz e
theorem Apart.sub {x : Sl} {v : V} (n : Apart ρ σ x v) (s : OwnSub ρ ρ') : Apart ρ' σ x v := fun ox j z hz oz e => n ox j z (s j z hz oz) oz e
/-- a thing of one's own changes -/
theorem SI.chg (I : SI C W0 H0 W H ρ σ st) {i : Nat} {x x' : Sl} {a : Addr} {o : HO} (h : ρ[i]? = some x) (hx : x.own = true) (hs : σ[i]? = some (some (.ref a))) (hx' : x'.own = true) (m : Mine W a) (h0 : H0 a = none)
    (r : SlRep C W H0 (upd H a o) x' (.ref a)) : SI C W0 H0 W (upd H a o) (ρ.set i x') σ st := by
  have hi : i < ρ.length := by
    by_cases z : i < ρ.length
    · exact z
    · rw [List.getElem?_eq_none (by simpa using z)] at h; cases h
  have at1 : ∀ {j : Nat} {y : Sl}, (ρ.set i x')[j]? = some y → (j = i ∧ y = x') ∨ (j ≠ i ∧ ρ[j]? = some y) := fun {j y} e => by
    by_cases q : i = j
    · subst q
      rw [List.getElem?_set_self hi] at e
      cases e
      exact .inl ⟨rfl, rfl⟩
    · rw [List.getElem?_set_ne q] at e
      exact .inr ⟨Ne.symm q, e⟩
  have own0 : ∀ {j : Nat} {y : Sl}, (ρ.set i x')[j]? = some y → y.own = true → ∃ y0, ρ[j]? = some y0 ∧ y0.own = true := fun {j y} e oy => by
    rcases at1 e with ⟨ej, _⟩ | ⟨_, e'⟩
    · subst ej; exact ⟨x, h, hx⟩
    · exact ⟨y, e', oy⟩
  refine ⟨rel_chgM I.rel m, ext_chg I.ext h0, by simp [I.sl.len], fun j y e hy => ?_, fun j1 j2 y1 y2 v e1 e2 o1 o2 s1 s2 => ?_⟩
  · rcases at1 e with ⟨ej, ey⟩ | ⟨nj, e'⟩
    · subst ej ey; exact ⟨_, hs, r⟩
    · obtain ⟨v, es, sr⟩ := I.sl.at_ j y e' hy
      refine ⟨v, es, ?_⟩
      have far : y.own = true → ∀ b, v = .ref b → b ≠ a := fun oy b eb z => by
        subst eb z
        exact nj (I.sl.inj j i y x _ e' h oy hx es hs)
      cases y with
      | no => cases hy
      | sh d => exact sr
      | ow ds =>
        obtain ⟨b, vs, eb, g1, g⟩ := sr
        exact ⟨b, vs, eb, by rw [upd_ne (far rfl b eb)]; exact g1, g⟩
      | ob c fs =>
        obtain ⟨b, cl, dx, vs, eb, mm, g1, g⟩ := sr
        exact ⟨b, cl, dx, vs, eb, mm, by rw [upd_ne (far rfl b eb)]; exact g1, g⟩
  · obtain ⟨z1, k1, k2⟩ := own0 e1 o1
    obtain ⟨z2, k3, k4⟩ := own0 e2 o2
    exact I.sl.inj j1 j2 z1 z2 v k1 k3 k2 k4 s1 s2
theorem SI.mineL (I : SI C W0 H0 W H ρ σ st) {a : Addr} {o : HO} (g : W.G a = none) (h : H a = some o) (n : ∀ p c, o ≠ .dK (penKvs p c)) : Mine W a := ⟨g, fun x hx z => by
  obtain ⟨q, _, h2, _⟩ := I.rel.pen x hx
  rw [z, h] at h2
  exact n _ _ (Option.some.inj h2)⟩
/-! ### targets -/
theorem look_set {i : Nat} {d : D} : look [] (ρ.set i (.sh d)) = (look [] ρ).set i (some d) := by
  refine List.ext_getElem? fun j => ?_
  by_cases q : i = j
  · subst q
    by_cases hi : i < ρ.length
    · rw [List.getElem?_set_self (by rw [look_len]; exact hi)]
      unfold look
      rw [List.getElem?_mapIdx, List.getElem?_set_self hi]
      rfl
    · rw [List.getElem?_eq_none (by rw [look_len]; simpa using hi), List.getElem?_eq_none (by simpa [look_len] using hi)]
  · rw [List.getElem?_set_ne q]
    unfold look
    rw [List.getElem?_mapIdx, List.getElem?_mapIdx, List.getElem?_set_ne q]
theorem putSl_put : ∀ {is : List Nat} {ds : List D} {ρ ρ' : List Sl}, putSl is ds ρ = some ρ' → putAll is ds (look [] ρ) = some (look [] ρ')
  | [], [], ρ, ρ', h => by cases h; rfl
  | [], _ :: _, _, _, h => by cases h
  | _ :: _, [], _, _, h => by cases h
  | i :: is, d :: ds, ρ, ρ', h => by
    have q := putSl_put (is := is) (ds := ds) (ρ := ρ.set i (.sh d)) h
    rw [look_set] at q
    exact q
theorem putSl_own : ∀ {is : List Nat} {ds : List D} {ρ ρ' : List Sl}, putSl is ds ρ = some ρ' → ∀ j x, ρ'[j]? = some x → x.own = true → ρ[j]? = some x ∧ j ∉ is
  | [], [], ρ, ρ', h => fun j x hj _ => by cases h; exact ⟨hj, fun z => by cases z⟩
  | [], _ :: _, _, _, h => by cases h
  | _ :: _, [], _, _, h => by cases h
  | i :: is, d :: ds, ρ, ρ', h => fun j x hj hx => by
    obtain ⟨q1, q2⟩ := putSl_own (is := is) (ds := ds) (ρ := ρ.set i (.sh d)) h j x hj hx
    by_cases e : i = j
    · subst e
      by_cases hi : i < ρ.length
      · rw [List.getElem?_set_self hi] at q1
        cases q1
        cases hx
      · rw [List.getElem?_eq_none (by simpa using hi)] at q1
        cases q1
    · rw [List.getElem?_set_ne e] at q1
      exact ⟨q1, fun z => (List.mem_cons.mp z).elim (fun z => e z.symm) q2⟩
theorem bindS_ok {t : Tg} {d : D} (h : bindS t d ρ = some ρ') : bindT t d (look [] ρ) = some (look [] ρ') ∧ ∀ j x, ρ'[j]? = some x → x.own = true → ρ[j]? = some x ∧ j ∉ t.slots := by
  cases t with
  | v i =>
    have e : ρ.set i (.sh d) = ρ' := Option.some.inj h
    subst e
    refine ⟨by rw [look_set]; rfl, fun j x hj hx => ?_⟩
    by_cases e : i = j
    · subst e
      by_cases hi : i < ρ.length
      · rw [List.getElem?_set_self hi] at hj
        cases hj
        cases hx
      · rw [List.getElem?_eq_none (by simpa using hi)] at hj
        cases hj
    · rw [List.getElem?_set_ne e] at hj
      exact ⟨hj, fun z => e (List.mem_singleton.mp z).symm⟩
  | t is =>
    cases d with
    | tup xs => exact ⟨putSl_put h, putSl_own h⟩
    | lst xs => exact ⟨putSl_put h, putSl_own h⟩
    | _ => cases h
theorem SSl.sh (s : SSl C W H0 H ρ σ) : Slots C W (look [] ρ) σ := ⟨by rw [look_len]; exact s.len, fun i d h => by
  rcases look_at h with q | ⟨_, _, q, _⟩
  · exact s.at_ i _ q rfl
  · cases q⟩
theorem SSl.bound (s : SSl C W H0 H ρ σ) {t : Tg} {d : D} (h : bindS t d ρ = some ρ') (sl : Slots C W (look [] ρ') σ') (e : L2.wipe σ' t.slots = L2.wipe σ t.slots) : SSl C W H0 H ρ' σ' := by
  obtain ⟨h1, h2⟩ := bindS_ok h
  have out : ∀ j, j ∉ t.slots → σ'[j]? = σ[j]? := fun j hj => by
    have z := congrArg (fun l => l[j]?) e
    simp only [wipe_at, if_neg hj] at z
    exact z
  refine ⟨by rw [← sl.len, look_len], fun i x hi hx => ?_, fun i j x y v hi hj ox oy e1 e2 => ?_⟩
  · cases hox : x.own with
    | true =>
      obtain ⟨q1, q2⟩ := h2 i x hi hox
      rw [out i q2]
      exact s.at_ i x q1 hx
    | false =>
      cases x with
      | no => cases hx
      | sh d' =>
        have z : (look [] ρ')[i]? = some (some d') := by
          unfold look
          rw [List.getElem?_mapIdx, hi]
          rfl
        obtain ⟨v, k1, k2⟩ := sl.at_ i d' z
        exact ⟨v, k1, k2⟩
      | ow _ => cases hox
      | ob _ _ => cases hox
  · obtain ⟨q1, q2⟩ := h2 i x hi ox
    obtain ⟨q3, q4⟩ := h2 j y hj oy
    rw [out i q2] at e1
    rw [out j q4] at e2
    exact s.inj i j x y v q1 q3 ox oy e1 e2
/-- a target is bound -/
theorem tg_bind (I : SI C W0 H0 W H ρ σ st) {t : Tg} {d : D} {v : V} {Q : Sg → Hp → Prop} (p : Rep C W d v) (h : bindS t d ρ = some ρ') (q : ∀ σ', SI C W0 H0 W H ρ' σ' st → Q σ' H) : tTg C t v σ H Q := by
  have s := I.sl.sh
  exact ⟨W, st, d, look [] ρ, look [] ρ', I.rel, p, ⟨s.len, fun i d _ e => s.at_ i d e⟩, (bindS_ok h).1, fun σ' sl e => q σ' ⟨I.rel, I.ext, I.sl.bound h sl e⟩⟩

/-! ### tests, walks -/
theorem x_tst {β : Type} {R : β → Ms → Wd → Hp → Prop} {e : E} {f : Bool → Ms → Out β} {Q : Bool → Hp → Prop} (I : SI C W0 H0 W H ρ σ st) (q : OQ C Wx W0 H0 R ((evXT Γ e ρ st).bind f))
    (h : ∀ b s W1 H1, SI C W0 H0 W1 H1 ρ σ s → OQ C Wx W0 H0 R (f b s) → Q b H1) : tEvT C Γ Wx e σ H Q := by
  refine ⟨W.frz H (Lof (vsE e) ρ σ), st, look (vsE e) ρ, I.sl.slots (vsE e), rel_frzL I.rel (I.sl.ownL (vsE e)), ?_⟩
  have e0 := ext_frzL I.ext (I.sl.ownL (vsE e)) (I.sl.newL (vsE e))
  have q1 : OQ C Wx W0 H0 R (((ev Γ e (look (vsE e) ρ) st).bind fun x s => Out.opt (tru x) s).bind f) := q
  refine (q1.bind0.mono e0).imp ?_
  intro b s W1 H1 e1 r1 q2
  exact h b s _ H1 (I.kept (vsE e) e1 r1) q2
theorem x_itr {β : Type} {R : β → Ms → Wd → Hp → Prop} {m : It} {f : List D × List Sl → Ms → Out β} {Q : L2.It → Hp → Prop} (I : SI C W0 H0 W H ρ σ st) (q : OQ C Wx W0 H0 R ((evXI Γ m ρ st).bind f))
    (h : ∀ ds ρ' s W1 H1 J, SI C W0 H0 W1 H1 ρ' σ s → DWalk C W1 J ds → OQ C Wx W0 H0 R (f (ds, ρ') s) → Q J H1) : tEvI C Γ Wx m σ H Q := by
  refine ⟨W.frz H (Lof (vsI m) ρ σ), st, look (vsI m) ρ, I.sl.slots (vsI m), rel_frzL I.rel (I.sl.ownL (vsI m)), ?_⟩
  have e0 := ext_frzL I.ext (I.sl.ownL (vsI m)) (I.sl.newL (vsI m))
  have q1 : OQ C Wx W0 H0 R ((evi Γ m (look (vsI m) ρ) st).bind fun ds s => f (ds, fz (vsI m) ρ) s) := by
    have z : OQ C Wx W0 H0 R (((evi Γ m (look (vsI m) ρ) st).bind fun ds s => Out.ok (ds, fz (vsI m) ρ) s).bind f) := q
    rw [bind_assoc] at z
    exact z
  refine (q1.bind0.mono e0).imp ?_
  intro ds s W1 H1 e1 r1 q2 J dw
  exact h ds _ s W1 H1 J (I.frozen (vsI m) e1 r1) dw q2
theorem x_arg {β : Type} {R : β → Ms → Wd → Hp → Prop} {m : Es} {f : List D → Ms → Out β} {Q : List V → Hp → Prop} (I : SI C W0 H0 W H ρ σ st) (q : OQ C Wx W0 H0 R ((evs Γ m (look (vsEs m) ρ) st).bind f))
    (h : ∀ ds s W1 H1 vs, SI C W0 H0 W1 H1 (fz (vsEs m) ρ) σ s → Reps C W1 ds vs → OQ C Wx W0 H0 R (f ds s) → Q vs H1) : tEvs C Γ Wx m σ H Q := by
  refine ⟨W.frz H (Lof (vsEs m) ρ σ), st, look (vsEs m) ρ, I.sl.slots (vsEs m), rel_frzL I.rel (I.sl.ownL (vsEs m)), ?_⟩
  have e0 := ext_frzL I.ext (I.sl.ownL (vsEs m)) (I.sl.newL (vsEs m))
  refine (q.bind0.mono e0).imp ?_
  intro ds s W1 H1 e1 r1 q2 vs rp
  exact h ds s W1 H1 vs (I.frozen (vsEs m) e1 r1) rp q2
end
end Mp
set_option Elab.async false
set_option linter.all false
set_option maxRecDepth 100000
set_option maxHeartbeats 2000000
/-! MpTry: several except clauses, each with a name. -/
namespace Mp
open PySem PySem.Spec PyProof.Rows L2
abbrev HdT := Value × Nat × (Addr → Value → Option Addr → TS)
/-- the ends of a suite whose name goes at its end -/
def goneE (D : Ends) (i : Nat) : Ends := { nx := fun q G => D.nx (q.set i none) G, rt := D.rt, bk := fun q G => D.bk (q.set i none) G, ct := fun q G => D.ct (q.set i none) G }
def wHands (K : PySem.W.Frag) (Wout : WX) (D : Ends) : List HdT → WX
  | [] => Wout
  | hd :: r => fun cls d q G => ∃ b, PySem.W.exmOne K cls hd.1 = some b ∧ (b = true → ∀ a, G a = none → hd.2.2 a cls d (goneE D hd.2.1) (q.set hd.2.1 (some (.ref a))) G) ∧ (b = false → wHands K Wout D r cls d q G)
inductive HdsA (X : Cx) : List ExceptHandler → List HdT → Prop
  | nil : HdsA X [] []
  | cons {x n : Str} {c : Value} {i : Nat} {ts : Addr → Value → Option Addr → TS} {b0 : Stmt} {bs : List Stmt} {np hp : Pos} {hds : List ExceptHandler} {l : List HdT} (hi : X.N[i]? = some n) (hl : X.env.kindOf n = some .local) (hc : Names X x c)
      (hsu : ∀ (a : Addr) (oe : Obj) (cls : Value) (d : Option Addr) (pn : List (Addr × Obj)), Zc cls d oe → (∃ vs, oe.data = .fields vs) → PSs (X.suite a ((a, oe) :: pn)) (b0 :: bs) (ts a cls d)) (r : HdsA X hds l) :
      HdsA X (.ExceptHandler (some (.Name x np)) (some n) (b0 :: bs) hp :: hds) ((c, i, ts) :: l)
section
variable {X : Cx} {body : List Stmt} {h0 : ExceptHandler} {hds : List ExceptHandler} {l : List HdT} {pos : Pos} {tb : WX → TS} {Wout : WX}
/-- what the clauses do with an exception that is held -/
def catchW (X : Cx) (hs : List ExceptHandler) (pins : List (Addr × Obj)) (D : Ends) : Value → Shared → Prop := fun e s1 => wpAny (model X.prog X.w) X.A (noteFrame e X.env) (fun _ s2 => wpAny (model X.prog X.w) X.A (setFlight e none) (fun _ s3 =>
  wpAny (model X.prog X.w) X.A (handleBy e X.env hs) (SP X pins D) X.xe s3) X.xe s2) X.xe s1
theorem ps_hands (hst : X.stack = X.env :: X.outer) (hfm : X.env.frame = some X.env.locals) (nd : X.N.Nodup) (tk : Takes X Wout)
    (hb : ∀ (W : WX) (pn : List (Addr × Obj)) (xe : Value → Shared → Prop), Takes (X.tr pn xe) W → PassesOwn (model X.prog X.w) X.A X.env xe → PSs (X.tr pn xe) body (tb W))
    (hh : HdsA X (h0 :: hds) l) : PS X (.Try body (h0 :: hds) [] [] pos) (fun D q G => tb (wHands X.K Wout D l) D q G) := by
  refine ⟨fun pins s q0 G0 D I hq => ?_⟩
  have ok := I.ok
  have hfr : X.A.frames = some (X.env :: X.outer) := by rw [ok.frames, hst]
  refine wpAny_Try_except ?_
  have bodyR := (hb (wHands X.K Wout D l) (X.pn ++ pins) (catchW X (h0 :: hds) pins D) (fun u s' xx => ?_) PassesOwn.looking).run [] s q0 G0 D (I.toTry _) hq
  · refine wpAny_mono bodyR (fun fl s1 hsp => ?_) (fun e s1 he => he)
    cases fl with
    | next => exact let ⟨q1, G1, J1, z⟩ := hsp; wpAny_execs_nil ⟨q1, G1, J1.ofTry ok, z⟩
    | brk => exact let ⟨q1, G1, J1, z⟩ := hsp; ⟨q1, G1, J1.ofTry ok, z⟩
    | cont => exact let ⟨q1, G1, J1, z⟩ := hsp; ⟨q1, G1, J1.ofTry ok, z⟩
    | ret u => exact let ⟨v, q1, G1, J1, rv, z⟩ := hsp; ⟨v, q1, G1, J1.ofTry ok, rv, z⟩
  · obtain ⟨a, B, sI, ps', q1, G1, cls, d, rfl, J0, nb, up, sky, na, os, ag, w⟩ := xx
    have J : Inv X pins q1 G1 sI := J0.ofTry ok
    have sky' : Sky B (X.env :: X.outer) a (Zc cls d) X.env.locals s'.heap := hst ▸ sky
    show wpAny (model X.prog X.w) X.A (noteFrame (.ref a) X.env) _ _ _
    refine Sky.land Zc.steady hfr hfm sky' fun h3 fl3 up3 => ?_
    have J3 : Inv X pins q1 G1 { s' with heap := h3 } := J.landed nb fl3.1 (up.trans up3) os ag
    obtain ⟨oe3, vs3, he3, hz3, hd3⟩ := fl3.there
    have nfr : a ∉ frs (X.env :: X.outer) := fun hm => by
      obtain ⟨_, o', e', hnf⟩ := fl3.2.2.1.mem hm
      rw [he3] at e'
      cases e'
      exact hnf _ hd3
    have nL : a ≠ X.env.locals := fun z => nfr (List.mem_filterMap.mpr ⟨X.env, List.mem_cons_self, by rw [hfm, z]⟩)
    have nF : a ∉ X.fs := fun hm => let ⟨e, he, y⟩ := List.mem_filterMap.mp hm; nfr (List.mem_filterMap.mpr ⟨e, List.mem_cons_of_mem _ he, y⟩)
    have S3 := J3.suite he3 hd3 na nL nF
    have go : ∀ {hs : List ExceptHandler} {l' : List HdT}, HdsA X hs l' → wHands X.K Wout D l' cls d q1 G1 → wpAny (model X.prog X.w) X.A (handleBy (.ref a) X.env hs) (SP X pins D) X.xe { s' with heap := h3 } := by
      intro hs l' hk
      induction hk with
      | nil =>
        intro w
        refine wpAny_handleBy_nil ?_
        obtain ⟨_, _, _, oe, vs, T, oT, ts', he, _, hd, h1, _⟩ := id fl3
        unfold PySem.passOn
        refine wpAny_bind (wpAny_field he hd h1 ?_)
        rw [if_neg (show ¬ ((Value.ref T == Value.none) = true) from by simp)]
        have fin : wpAny (model X.prog X.w) X.A (setFlight (.ref a) X.env.frame) (fun _ s4 => wpAny (model X.prog X.w) X.A (throw (.ref a) : Sem Flow) (SP X pins D) X.xe s4) X.xe { s' with heap := h3 } := by
          rw [hfm]
          exact HandSPX.setFlight_upZ fl3 fun h4 hh4 up4 => wpAny_throw (tk _ _ ⟨a, B, sI, pins, q1, G1, cls, d, rfl, J, nb, (up.trans up3).trans up4, .inr (.inr (by rw [hst]; exact hh4)), na, os, ag, w⟩)
        first
          | exact wpAny_bind (wpAny_pure (wpAny_bind fin))
          | exact wpAny_bind fin
      | @cons x n c i ts b0 bs np hp hds2 l2 hi hl hc hsu r ih =>
        intro w
        obtain ⟨b, hb1, hyes, hno⟩ := w
        refine wpAny_handleBy_cons (codeAny_handlers_test ?_) (by intro z; cases z)
        have LT : PySem.W.Looks (model X.prog X.w) h3 (typeOf (.ref a)) cls := fun A Q E s k z => wpAny_typeOf_ref (k _ _ he3) (by rw [hz3.1]; exact z)
        have LM := PySem.W.exm_one (M := model X.prog X.w) (J3.kIn) LT hb1
        have test : ∀ {Q : Value → Shared → Prop} {E : Value → Shared → Prop}, Q c { s' with heap := h3 } → wpAny (model X.prog X.w) (X.A.mark (some (.ref a))) (eval (.Name x np) X.env) Q E { s' with heap := h3 } := fun {Q E} z => by
          rcases hc with ⟨hg, hdb, hm | ⟨hm, hv, hnn⟩⟩
          · exact ld_glob (X := X.suite a ((a, oe3) :: (X.pn ++ pins))) S3 hg hm z hdb
          · exact ld_blt (X := X.suite a ((a, oe3) :: (X.pn ++ pins))) S3 hg hm hv z hnn hdb
        refine test (LM.here ?_)
        cases b with
        | false => exact ih (hno rfl)
        | true =>
          refine codeAny_handlers_suite_as ?_
          refine HandSPX.lands_againZ fl3 fun h4 fl4 up4 => ?_
          have J4 : Inv X pins q1 G1 { s' with heap := h4 } := J.landed nb fl4.1 ((up.trans up3).trans up4) os ag
          obtain ⟨oe4, vs4, he4, hz4, hd4⟩ := fl4.there
          have S4 := J4.suite he4 hd4 na nL nF
          refine store_ok (X := X.suite a ((a, oe4) :: (X.pn ++ pins))) (v := .ref a) S4 nd hi (.inl hl) rfl (fun s5 S5 => ?_) (.inr hl)
          refine wpAny_mono ((hsu a oe4 cls d (X.pn ++ pins) hz4 ⟨_, hd4⟩).run [] s5 _ G1 _ S5 (hyes rfl a na)) (fun fl s6 hsp => ?_) (fun _ _ z => False.elim z)
          have fin : ∀ {q6 : Sg} {G6 : Hp} {Q : Shared → Prop}, Inv (X.suite a ((a, oe4) :: (X.pn ++ pins))) [] q6 G6 s6 → (∀ s7, Inv X pins (q6.set i none) G6 s7 → Q s7) →
              wpAny (model X.prog X.w) X.A (do bindName X.env n .none; unbindBehindTheSuite X.env n hp) (fun _ s7 => Q s7) X.xe s6 := fun {q6 G6 Q} S6 hz => gone_ok (S6.unsuite ok) nd hi hl hz
          cases fl with
          | next => exact let ⟨q6, G6, S6, z⟩ := hsp; fin S6 fun s7 J7 => ⟨_, _, J7, z⟩
          | brk => exact let ⟨q6, G6, S6, z⟩ := hsp; fin S6 fun s7 J7 => ⟨_, _, J7, z⟩
          | cont => exact let ⟨q6, G6, S6, z⟩ := hsp; fin S6 fun s7 J7 => ⟨_, _, J7, z⟩
          | ret u => exact let ⟨v6, q6, G6, S6, r6, z⟩ := hsp; fin S6 fun s7 J7 => ⟨_, _, _, J7, r6, z⟩
    exact go hh w
end
end Mp
set_option Elab.async false
set_option linter.all false
set_option maxRecDepth 100000
set_option maxHeartbeats 2000000
/-! MpStm5: which statement a term stands for; each by itself. -/
namespace Mp
open PySem PySem.Spec PyProof.Rows L2
/-- a comprehension's new list is put at the name at once -/
def lcSw (sc : Scope) (x : Str) (px : Pos) : Expr → Bool
  | .ListComp _ _ s p => decide (sc.names.lookup x = some .local) && (px.line == p.line) && !(s.names.any fun (n, k) => n == x && (k == .local || k == .cell))
  | _ => false
def isLc : Expr → Bool
  | .ListComp _ _ _ _ => true
  | .SetComp _ _ _ _ => true
  | .DictComp _ _ _ _ _ => true
  | _ => false
def isTup : Expr → Bool
  | .Tuple _ _ _ => true
  | _ => false
def isStr : Expr → Bool
  | .Constant (.str _) _ _ => true
  | _ => false
def parOk (sc : Scope) (x y : Str) (px py : Pos) (a b : Expr) : Bool :=
  decide (sc.names.lookup x = some .local) && decide (sc.names.lookup y = some .local) && (py.line == px.line) && !(x == y) && !([a, b].all (foldedForSure 8)) && !([a, b].all (constantsAlone 8))
def asgP : Stmt → Option (Str × Pos × Expr × Pos)
  | .Assign [.Name x px] v p => some (x, px, v, p)
  | _ => none
def asg1P : Stmt → Option (Expr × Expr × Pos)
  | .Assign [tg] v p => some (tg, v, p)
  | _ => none
def exprP : Stmt → Option (Expr × Pos)
  | .Expr e p => some (e, p)
  | _ => none
def tup2P : Expr → Option (Expr × Expr × Nat × Pos)
  | .Tuple [a, b] k p => some (a, b, k, p)
  | _ => none
def nameP : Expr → Option (Str × Pos)
  | .Name x p => some (x, p)
  | _ => none
def attrP : Expr → Option (Expr × Str × Pos)
  | .Attribute o f p => some (o, f, p)
  | _ => none
def subP : Expr → Option (Expr × Expr × Pos)
  | .Subscript o i p => some (o, i, p)
  | _ => none
def callP : Expr → Option (Expr × List Expr × Pos)
  | .Call f ys [] p => some (f, ys, p)
  | _ => none
def oneP : List Expr → Option Expr
  | [x] => some x
  | _ => none
def augP : Stmt → Option (Expr × Operator × Expr × Pos)
  | .AugAssign t op v p => some (t, op, v, p)
  | _ => none
def retP : Stmt → Option (Option Expr × Pos)
  | .Return v p => some (v, p)
  | _ => none
def ifP : Stmt → Option (Expr × List Stmt × List Stmt × Pos)
  | .If t x y p => some (t, x, y, p)
  | _ => none
def forP : Stmt → Option (Expr × Expr × List Stmt × Pos)
  | .For t i x [] p => some (t, i, x, p)
  | _ => none
def whlP : Stmt → Option (Expr × List Stmt × Pos)
  | .While t x [] p => some (t, x, p)
  | _ => none
def rseP : Stmt → Option (Expr × Pos)
  | .Raise (some e) none p => some (e, p)
  | _ => none
theorem asgP_inv {s : Stmt} {x : Str} {px p : Pos} {v : Expr} (h : asgP s = some (x, px, v, p)) : s = .Assign [.Name x px] v p := by
  unfold asgP at h; split at h <;> cases h; rfl
theorem asg1P_inv {s : Stmt} {tg v : Expr} {p : Pos} (h : asg1P s = some (tg, v, p)) : s = .Assign [tg] v p := by
  unfold asg1P at h; split at h <;> cases h; rfl
theorem exprP_inv {s : Stmt} {e : Expr} {p : Pos} (h : exprP s = some (e, p)) : s = .Expr e p := by
  unfold exprP at h; split at h <;> cases h; rfl
theorem tup2P_inv {s a b : Expr} {k : Nat} {p : Pos} (h : tup2P s = some (a, b, k, p)) : s = .Tuple [a, b] k p := by
  unfold tup2P at h; split at h <;> cases h; rfl
theorem nameP_inv {s : Expr} {x : Str} {p : Pos} (h : nameP s = some (x, p)) : s = .Name x p := by
  unfold nameP at h; split at h <;> cases h; rfl
theorem attrP_inv {s o : Expr} {f : Str} {p : Pos} (h : attrP s = some (o, f, p)) : s = .Attribute o f p := by
  unfold attrP at h; split at h <;> cases h; rfl
theorem subP_inv {s o i : Expr} {p : Pos} (h : subP s = some (o, i, p)) : s = .Subscript o i p := by
  unfold subP at h; split at h <;> cases h; rfl
theorem callP_inv {s f : Expr} {ys : List Expr} {p : Pos} (h : callP s = some (f, ys, p)) : s = .Call f ys [] p := by
  unfold callP at h; split at h <;> cases h; rfl
theorem oneP_inv {s : List Expr} {x : Expr} (h : oneP s = some x) : s = [x] := by
  unfold oneP at h; split at h <;> cases h; rfl
theorem augP_inv {s : Stmt} {t v : Expr} {op : Operator} {p : Pos} (h : augP s = some (t, op, v, p)) : s = .AugAssign t op v p := by
  unfold augP at h; split at h <;> cases h; rfl
theorem retP_inv {s : Stmt} {v : Option Expr} {p : Pos} (h : retP s = some (v, p)) : s = .Return v p := by
  unfold retP at h; split at h <;> cases h; rfl
theorem ifP_inv {s : Stmt} {t : Expr} {x y : List Stmt} {p : Pos} (h : ifP s = some (t, x, y, p)) : s = .If t x y p := by
  unfold ifP at h; split at h <;> cases h; rfl
theorem forP_inv {s : Stmt} {t i : Expr} {x : List Stmt} {p : Pos} (h : forP s = some (t, i, x, p)) : s = .For t i x [] p := by
  unfold forP at h; split at h <;> cases h; rfl
theorem whlP_inv {s : Stmt} {t : Expr} {x : List Stmt} {p : Pos} (h : whlP s = some (t, x, p)) : s = .While t x [] p := by
  unfold whlP at h; split at h <;> cases h; rfl
theorem rseP_inv {s : Stmt} {e : Expr} {p : Pos} (h : rseP s = some (e, p)) : s = .Raise (some e) none p := by
  unfold rseP at h; split at h <;> cases h; rfl
def mAsg (N : List Str) (sc : Scope) (i : Nat) (m : Md) (e : E) (s : Stmt) : Bool := match asgP s with
  | some (x, _, v, _) => decide (N[i]? = some x) && locB sc x && mt N sc e v && (!m.ow || newB e)
  | none => false
/-- parallel stores that are not turned: four and more, a name that is a cell, constants alone -/
def noSwapB (sc : Scope) : Expr → Expr → Bool
  | .Tuple ts _ _, .Tuple vs _ _ => !(ts.length == 2 || ts.length == 3) || vs.length != ts.length || (ts.any fun t => match t with
    | .Name id _ => !(sc.names.lookup id == some .local)
    | _ => true) || vs.all (foldedForSure 8)
  | _, _ => false
def mUnp (N : List Str) (sc : Scope) (is : List Nat) (e : E) (s : Stmt) : Bool := match asg1P s with
  | some (tg, v, _) => mtTg N sc (.t is) tg && mt N sc e v && (!isTup v || noSwapB sc tg v)
  | none => false
def mPar (N : List Str) (sc : Scope) (i j : Nat) (m n : Md) (a b : E) (s : Stmt) : Bool := match asg1P s with
  | some (tg, tv, _) => match tup2P tg, tup2P tv with
    | some (e1, e2, _, _), some (u, v, _, _) => match nameP e1, nameP e2 with
      | some (x, px), some (y, py) => decide (N[i]? = some x) && decide (N[j]? = some y) && decide (i ≠ j) && mt N sc a u && mt N sc b v && (!m.ow || newB a) && (!n.ow || newB b) && parOk sc x y px py u v
      | _, _ => false
    | _, _ => false
  | none => false
def mApp (N : List Str) (sc : Scope) (i : Nat) (e : E) (s : Stmt) : Bool := match exprP s with
  | some (c, _) => match callP c with
    | some (f, ys, cpos) => match attrP f, oneP ys with
      | some (o, f, apos), some v => match nameP o with
        | some (x, _) => decide (f = ("append" : Str)) && rdB N sc i x && mt N sc e v && (apos.endLine == cpos.line)
        | none => false
      | _, _ => false
    | none => false
  | none => false
def mSti (N : List Str) (sc : Scope) (i : Nat) (a e : E) (s : Stmt) : Bool := match asg1P s with
  | some (tg, v, _) => match subP tg with
    | some (o, u, _) => match nameP o with
      | some (x, _) => rdB N sc i x && mt N sc a u && mt N sc e v
      | none => false
    | none => false
  | none => false
def mAug (N : List Str) (sc : Scope) (i : Nat) (op : Operator) (e : E) (s : Stmt) : Bool := match augP s with
  | some (t, op', v, _) => match nameP t with
    | some (x, _) => decide (N[i]? = some x) && locB sc x && mt N sc e v && decide (op = op')
    | none => false
  | none => false
def mSto (N : List Str) (sc : Scope) (f : Str) (e : E) (s : Stmt) : Bool := match asg1P s with
  | some (tg, v, _) => match attrP tg with
    | some (o, f', _) => match nameP o with
      | some (x, _) => rdB N sc 0 x && mt N sc e v && decide (f = f')
      | none => false
    | none => false
  | none => false
def strP : Expr → Option Str
  | .Constant (.str k) _ _ => some k
  | _ => none
def mPns (N : List Str) (sc : Scope) (i : Nat) (k : Str) (e : E) (s : Stmt) : Bool := match asg1P s with
  | some (tg, v, _) => match subP tg with
    | some (o, u, _) => match nameP o, strP u with
      | some (x, _), some k' => decide (k = k') && rdB N sc i x && mt N sc e v
      | _, _ => false
    | none => false
  | none => false
def mRet (N : List Str) (sc : Scope) (e : E) (s : Stmt) : Bool := match retP s with
  | some (some v, _) => mt N sc e v
  | _ => false
def mRtn (s : Stmt) : Bool := match retP s with
  | some (none, _) => true
  | _ => false
def mRse (N : List Str) (sc : Scope) (c : Str) (es : Es) (s : Stmt) : Bool := match rseP s with
  | some (e, _) => match callP e with
    | some (f, ys, _) => match nameP f with
      | some (x, _) => decide (x = c) && glB sc x && mts N sc es ys
      | none => false
    | none => false
  | none => false
def mExp (N : List Str) (sc : Scope) (e : E) (s : Stmt) : Bool := match exprP s with
  | some (v, _) => mt N sc e v && !isLc v
  | none => false
def mDoc (s : Stmt) : Bool := match exprP s with
  | some (v, _) => isStr v
  | none => false
def isBrk : Stmt → Bool
  | .Break _ => true
  | _ => false
def isCnt : Stmt → Bool
  | .Continue _ => true
  | _ => false
def isPas : Stmt → Bool
  | .Pass _ => true
  | _ => false
/-- the call of a method by name: receiver, name, argument -/
def methP : Expr → Option (Expr × Str × Pos × Expr × Pos)
  | .Call (.Attribute o f apos) [v] [] cpos => some (o, f, apos, v, cpos)
  | _ => none
theorem methP_inv {e o v : Expr} {f : Str} {apos cpos : Pos} (h : methP e = some (o, f, apos, v, cpos)) : e = .Call (.Attribute o f apos) [v] [] cpos := by
  unfold methP at h; split at h <;> cases h; rfl
def mPop (N : List Str) (sc : Scope) (j : Nat) (e : E) (c : Expr) : Bool := match methP c with
  | some (o, f, apos, v, cpos) => match nameP o with
    | some (y, _) => decide (f = ("pop" : Str)) && rdB N sc j y && mt N sc e v && (apos.endLine == cpos.line)
    | none => false
  | none => false
def mApop (N : List Str) (sc : Scope) (i j : Nat) (e : E) (s : Stmt) : Bool := match exprP s with
  | some (c, _) => match methP c with
    | some (o, f, apos, v, cpos) => match nameP o with
      | some (x, _) => decide (f = ("append" : Str)) && rdB N sc i x && mPop N sc j e v && (apos.endLine == cpos.line)
      | none => false
    | none => false
  | none => false
def mSpop (N : List Str) (sc : Scope) (i j : Nat) (e : E) (s : Stmt) : Bool := match asgP s with
  | some (x, _, v, _) => decide (N[i]? = some x) && locB sc x && mPop N sc j e v
  | none => false
def hxP : ExceptHandler → Option (Str × Str × List Expr)
  | .ExceptHandler (some (.Name c _)) (some n) [.Return (some (.Tuple es _ _)) _] _ => some (c, n, es)
  | _ => none
def mtPart (n : Str) : Str ⊕ Str → Expr → Bool
  | .inl t, .Constant (.str t') _ _ => decide (t = t')
  | .inr f, .Attribute (.Name n' _) f' _ => decide (n' = n) && decide (f = f')
  | _, _ => false
def mtParts (n : Str) : List (Str ⊕ Str) → List Expr → Bool
  | [], [] => true
  | p :: ps, e :: es => mtPart n p e && mtParts n ps es
  | _, _ => false
def mtHx (N : List Str) (sc : Scope) (h : Hx) (e : ExceptHandler) : Bool := match hxP e with
  | some (c, n, es) => decide (c = h.cls) && glB sc c && rdB N sc h.v n && decide (sc.names.lookup n = some .local) && mtParts n h.parts es
  | none => false
def mtHxs (N : List Str) (sc : Scope) : List Hx → List ExceptHandler → Bool
  | [], [] => true
  | h :: hs, e :: es => mtHx N sc h e && mtHxs N sc hs es
  | _, _ => false
def tryP : Stmt → Option (List Stmt × ExceptHandler × List ExceptHandler × Pos)
  | .Try b (h :: hs) [] [] p => some (b, h, hs, p)
  | _ => none
theorem tryP_inv {s : Stmt} {b : List Stmt} {h : ExceptHandler} {hs : List ExceptHandler} {p : Pos} (e : tryP s = some (b, h, hs, p)) : s = .Try b (h :: hs) [] [] p := by
  unfold tryP at e; split at e <;> cases e; rfl
mutual
def mtS (N : List Str) (sc : Scope) : S → Stmt → Bool
  | .asg i m e, s => mAsg N sc i m e s
  | .unp is _ e, s => mUnp N sc is e s
  | .par i j m n a b, s => mPar N sc i j m n a b s
  | .app i _ e, s => mApp N sc i e s
  | .sti i _ _ a e, s => mSti N sc i a e s
  | .aug i op _ e, s => mAug N sc i op e s
  | .sto f _ e, s => mSto N sc f e s
  | .pns i k _ e, s => mPns N sc i k e s
  | .ret e, s => mRet N sc e s
  | .rtn, s => mRtn s
  | .ife c a b, s => match ifP s with
    | some (t, x, y, _) => mt N sc c t && mtSs N sc a x && mtSs N sc b y
    | none => false
  | .for_ tg it b, s => match forP s with
    | some (t, i, x, _) => mtTg N sc tg t && mti N sc it t i && mtSs N sc b x
    | none => false
  | .whl _ c b, s => match whlP s with
    | some (t, x, _) => mt N sc c t && mtSs N sc b x
    | none => false
  | .brk, s => isBrk s
  | .cnt, s => isCnt s
  | .pas, s => isPas s
  | .doc, s => mDoc s
  | .rse c es, s => mRse N sc c es s
  | .exp e, s => mExp N sc e s
  | .apop i j _ e, s => mApop N sc i j e s
  | .spop i j _ e, s => mSpop N sc i j e s
  | .tryx b hs, s => match tryP s with
    | some (x, h, r, _) => mtSs N sc b x && mtHxs N sc hs (h :: r)
    | none => false
def mtSs (N : List Str) (sc : Scope) : Ss → List Stmt → Bool
  | .nil, ss => ss.isEmpty
  | .cons m r, ss => match ss with
    | s :: ss => mtS N sc m s && mtSs N sc r ss
    | [] => false
end
section
variable {P : Program} {w : World} {C : Rc} {base : Heap} {k : Nat} {N : List Str} {sc : Scope} {Wx : XK} {X : Cx}
variable {W0 W W' : Wd} {H0 H H' : Hp} {ρ ρ' : List Sl} {σ σ' : Sg} {st st' : Ms}
theorem swap_none {v : Expr} {t : Option Expr} {l : Nat} {env : Env} (h : isLc v = false) : swapsWith v t l env = pure false := by
  cases v <;> first | rfl | cases h
theorem swap_attr {v o : Expr} {f : Str} {p : Pos} {l : Nat} {env : Env} : swapsWith v (some (.Attribute o f p)) l env = pure false := by
  cases v <;> rfl
theorem swap_tup {v tg : Expr} {l : Nat} {env : Env} {N : List Str} {sc : Scope} {is : List Nat} (h : mtTg N sc (.t is) tg = true) : swapsWith v (some tg) l env = pure false := by
  cases tg <;> first | (simp [mtTg] at h; done) | skip
  cases v <;> rfl
theorem swap_sub {v o i : Expr} {p : Pos} {l : Nat} {env : Env} : swapsWith v (some (.Subscript o i p)) l env = pure false := by
  cases v <;> rfl
theorem swap_name {v : Expr} {x : Str} {px : Pos} {l : Nat} {env : Env} {m : E} {N : List Str} (hm : mt N env.scope m v = true) (h : lcSw env.scope x px v = false) : swapsWith v (some (.Name x px)) l env = pure false := by
  cases v with
  | ListComp elt gs s p =>
    unfold swapsWith
    have h' : (decide (env.scope.names.lookup x = some .local) && (px.line == p.line) && !(s.names.any fun (n, k) => n == x && (k == .local || k == .cell))) = false := h
    have e : (env.kindOf x == some NameKind.local) = decide (env.scope.names.lookup x = some .local) := by
      unfold Env.kindOf
      cases z : env.scope.names.lookup x with
      | none => rfl
      | some k => cases k <;> rfl
    show (pure (env.blockKind == .function && env.kindOf x == some .local && px.line == p.line && !(s.names.any fun (n, k) => n == x && (k == .local || k == .cell))) : Sem Bool) = pure false
    rw [e, Bool.and_assoc, Bool.and_assoc, ← Bool.and_assoc (decide _), h', Bool.and_false]
  | SetComp _ _ _ _ => cases m <;> simp [mt, primM] at hm
  | DictComp _ _ _ _ _ => cases m <;> simp [mt, primM] at hm
  | _ => rfl
theorem swapped_cell {tg v : Expr} {env : Env} (h : noSwapB env.scope tg v = true) : swappedStores [tg] v env = pure none := by
  unfold noSwapB at h
  split at h
  · rename_i ts k p vs k' p'
    simp only [Bool.or_eq_true] at h
    unfold swappedStores
    simp only
    split
    · rfl
    · rename_i h1
      split
      · rfl
      · split
        · rfl
        · rename_i h2 h3
          split
          · rfl
          · rename_i h4
            exfalso
            rcases h with ((h | h) | h) | h
            · apply h1; simp at h ⊢; omega
            · apply h1; simp at h ⊢; omega
            · obtain ⟨t, ht, hn⟩ := List.any_eq_true.mp h
              apply h3
              rw [Bool.or_eq_true]
              refine .inl ?_
              have key : ∀ (f : Expr → Option Str) (l : List Expr), t ∈ l → f t = none → (l.filterMap f).length < l.length := fun f l => by
                induction l with
                | nil => intro z; cases z
                | cons a l ih =>
                  intro z e
                  rw [List.filterMap_cons]
                  rcases List.mem_cons.mp z with q | q
                  · rw [← q, e]
                    exact Nat.lt_succ_of_le (List.length_filterMap_le f l)
                  · have := ih q e
                    cases hf : f a with
                    | none => exact Nat.lt_succ_of_lt this
                    | some b => exact Nat.succ_lt_succ this
              refine bne_iff_ne.mpr (Nat.ne_of_lt (key _ ts ht ?_))
              cases t <;> first | rfl | skip
              rename_i id pos
              have hn' : (!(env.scope.names.lookup id == some .local)) = true := hn
              have e0 : (env.scope.names.lookup id == some .local) = false := by simpa using hn'
              have e : (env.kindOf id == some .local) = false := e0
              simp only [e, Bool.false_and]
              rfl
            · exact h4 h
  · cases h
theorem swapped_none {tg v : Expr} {env : Env} (h : isTup v = false) : swappedStores [tg] v env = pure none := by
  cases v <;> first | (cases tg <;> rfl) | cases h
/-- what is wished behind a statement -/
def RC (C : Rc) (W0 : Wd) (H0 : Hp) (D : Ends) : Ctl → Ms → Wd → Hp → Prop
  | .nx ρ, s, W, H => ∀ σ, SI C W0 H0 W H ρ σ s → D.nx σ H
  | .rt d, _, W, H => ∀ v, Rep C W d v → D.rt v H
  | .bk ρ, s, W, H => ∀ σ, SI C W0 H0 W H ρ σ s → D.bk σ H
  | .ct ρ, s, W, H => ∀ σ, SI C W0 H0 W H ρ σ s → D.ct σ H
def tSt (C : Rc) (Γ : Gx) (Wx : XK) (m : S) : TS := fun D σ H => ∃ W0 H0 W st ρ, SI C W0 H0 W H ρ σ st ∧ OQ C Wx W0 H0 (RC C W0 H0 D) (evS Γ m ρ st)
def tSs (C : Rc) (Γ : Gx) (Wx : XK) (m : Ss) : TS := fun D σ H => ∃ W0 H0 W st ρ, SI C W0 H0 W H ρ σ st ∧ OQ C Wx W0 H0 (RC C W0 H0 D) (evSs Γ m ρ st)
theorem PS.imp {X : Cx} {s : Stmt} {t t' : TS} (h : PS X s t) (i : ∀ D σ H, t' D σ H → t D σ H) : PS X s t' := ⟨fun pins s σ H D I q => h.run pins s σ H D I (i D σ H q)⟩
theorem PSs.imp {X : Cx} {s : List Stmt} {t t' : TS} (h : PSs X s t) (i : ∀ D σ H, t' D σ H → t D σ H) : PSs X s t' := ⟨fun pins s σ H D I q => h.run pins s σ H D I (i D σ H q)⟩
theorem oq_nx {D : Ends} (I : SI C W0 H0 W H ρ σ st) (q : OQ C Wx W0 H0 (RC C W0 H0 D) (.ok (.nx ρ) st)) : D.nx σ H := q W H I.ext I.rel σ I
/-- the body of a def: the context -/
structure SOk (P : Program) (w : World) (C : Rc) (base : Heap) (k : Nat) (N : List Str) (sc : Scope) (Wx : XK) (X : Cx) : Prop where
  x : XOk P w C base k N sc Wx X
  kd : sc.kind = .function
  po : PassesOwn (model X.prog X.w) X.A X.env X.xe
  fn : ∀ x, X.fn x = true
  stk : X.stack = X.env :: X.outer
  frm : X.env.frame = some X.env.locals
/-- the surroundings, the errors among them -/
structure GxOk (P : Program) (w : World) (C : Rc) (base : Heap) (k : Nat) (Γ : Gx) : Prop where
  g : GOk P w C base k Γ.g
  rse : ∀ (c : Str), Γ.excs c = true → ∀ (N : List Str) (sc : Scope) (Wx : XK) (X : Cx), XOk P w C base k N sc Wx X → ∀ {es : List Expr} {m : Es} {p pos pos2 : Pos}, glB sc c = true → mts N sc m es = true → PA X es (tEvs C Γ.g Wx m) →
    PS X (.Raise (some (.Call (.Name c p) es [] pos)) none pos2) (fun _ σ H => tEvs C Γ.g Wx m σ H fun vs H1 => ∃ W st ds x, Reps C W ds vs ∧ Rel C W st H1 ∧ Γ.exc c ds = some x ∧ ∀ cls dx W' H', Ext W H1 W' H' → Rel C W' st H' → RepX C W' x cls dx H' → Wx cls dx H')
  exm : ∀ c c' b, Γ.exm c c' = some b → ∃ cl cl', C.mg c = some (.ref cl) ∧ C.mg c' = some (.ref cl') ∧ PySem.W.exmOne C.K (.ref cl) (.ref cl') = some b
  exc0 : ∀ c, Γ.excs c = true → ∃ cl, C.mg c = some (.ref cl) ∧ XfC C.K cl
  xfd : ∀ c f, Γ.xfd c f = true → ∃ cl, C.mg c = some (.ref cl) ∧ PySem.W.findIn C.K (.ref cl) f = some none
variable {Γ : Gx}
theorem SI.val (I : SI C W0 H0 W H ρ σ st) {i : Nat} {x : Sl} (h : ρ[i]? = some x) (hx : x.any = true) : ∃ v, σ[i]? = some (some v) ∧ SlRep C W H0 H x v := I.sl.at_ i x h hx
theorem vis_of {X : Cx} (o : XOk P w C base k N sc Wx X) {x : Str} (hv : visB sc x = true) : Vis X.env.scope x := by
  rw [o.sc]
  unfold visB at hv
  simp only [Bool.or_eq_true, decide_eq_true_eq] at hv
  rcases hv with (z | z) | z
  · exact .inl z
  · exact .inr (.inl z)
  · exact .inr (.inr z)
theorem loc_of {X : Cx} (o : XOk P w C base k N sc Wx X) {x : Str} (h : locB sc x = true) : Loc X.env.scope x := by
  rw [o.sc]
  unfold locB at h
  simp only [Bool.or_eq_true, decide_eq_true_eq] at h
  exact h
theorem s_asg (o : SOk P w C base k N sc Wx X) (G : GxOk P w C base k Γ) {i : Nat} {m : Md} {e : E} {x : Str} {px pos : Pos} {v : Expr} (hN : N[i]? = some x) (hl : locB sc x = true) (hm : mt N sc e v = true) (hn : m.ow = true → newB e = true) :
    PS X (.Assign [.Name x px] v pos) (tSt C Γ Wx (.asg i m e)) := by
  have fin : ∀ D σ H, tSt C Γ Wx (.asg i m e) D σ H → tAsg (tV C Γ.g Wx m e) (gName i) D σ H := fun D σ H ⟨W0, H0, W, st, ρ, I, q⟩ =>
    v_val I q fun x ρ' s W1 H1 v I1 sr _ ap _ _ _ q1 => oq_nx (I1.set i sr ap) q1
  cases hsw : lcSw sc x px v with
  | false => exact PS.imp (ps_set (by rw [o.x.nm]; exact o.x.nd) (by rw [o.x.nm]; exact hN) (loc_of o.x hl) (tv_ok G.g o.x hn hm) (swap_name (env := X.env) (m := e) (N := N) (by rw [o.x.sc]; exact hm) (by rw [o.x.sc]; exact hsw)) (.inl (o.fn x))) fin
  | true =>
    cases v with
    | ListComp elt gs s p =>
      have h' : (decide (sc.names.lookup x = some .local) && (px.line == p.line) && !(s.names.any fun (n, k) => n == x && (k == .local || k == .cell))) = true := hsw
      simp only [Bool.and_eq_true, decide_eq_true_eq, Bool.not_eq_true'] at h'
      obtain ⟨⟨g1, g2⟩, g3⟩ := h'
      cases e with
      | lc tg it c el =>
        obtain ⟨elt', t, iter, ifs, scope, pos', he, h1, h2, h3, h4, h5⟩ := mt_lc hm
        cases he
        obtain ⟨wi, g, tt, te, k1, k2, k3, k4, k5, k6⟩ := lc_fresh (Γ := Γ.g) o.x (evi_ok G.g it N sc Wx X t iter o.x h1) (mti_plain h1) h2 h3 fun X' o' => ⟨evc_ok G.g c N _ noX X' ifs o' h4, (ev_ok G.g el N _ noX X' elt o' h5).1⟩
        refine PS.imp (ps_setLc o.x.calm (by rw [o.x.nm]; exact o.x.nd) (by rw [o.x.nm]; exact hN) (by rw [o.x.sc]; exact g1) (sw_true (by rw [o.x.sc]; exact o.kd) (by rw [o.x.sc]; exact g1) g2 g3) k1 k2 k3 k4 k5 (plain_set (mti_plain h1))) fun D σ H q => ?_
        have q1 := fin D σ H q
        refine k6 σ H _ ?_
        have q2 : tV C Γ.g Wx m (.lc tg it c el) σ H (fun x H1 => gName i x σ H1 D.nx) := q1
        unfold tV at q2
        by_cases hw : m.ow = true
        · rw [if_pos hw] at q2; exact q2
        · rw [if_neg hw] at q2
          obtain ⟨W, st, ρ, sl, r, z⟩ := q2
          refine ⟨W, st, ρ, sl, r, ?_⟩
          cases eo : ev Γ.g (.lc tg it c el) ρ st with
          | ok d s' =>
            rw [eo] at z
            obtain ⟨ds, ed⟩ := lc_lst eo
            exact fun W' H' x r' => ⟨ds, ed, fun a vs ha mi rp => z _ _ (x.trans (ext_put r' ha)) (rel_put r' ha) _ (by rw [ed]; exact ⟨a, vs, rfl, Wd.put_at, reps_put r' ha rp⟩)⟩
          | ex x s' => rw [eo] at z; exact z
          | bad => rw [eo] at z; exact z
      | _ => simp [mt, primM] at hm
    | _ => cases hsw
theorem s_unp (o : SOk P w C base k N sc Wx X) (G : GxOk P w C base k Γ) {is : List Nat} {m : Md} {e : E} {tg v : Expr} {pos : Pos} (ht : mtTg N sc (.t is) tg = true) (hm : mt N sc e v = true) (h1 : (!isTup v || noSwapB sc tg v) = true) :
    PS X (.Assign [tg] v pos) (tSt C Γ Wx (.unp is m e)) := by
  have hsw : swappedStores [tg] v X.env = pure none := by
    rcases Bool.or_eq_true_iff.mp h1 with z | z
    · exact swapped_none (by simpa using z)
    · exact swapped_cell (by rw [o.x.sc]; exact z)
  have hp : plainX tg = true := by
    cases tg <;> first | rfl | simp [mtTg] at ht
  have hg := l_tg (C := C) (X := X) o.x.calm o.x.K o.x.nm o.x.nd (fun x hx => loc_of o.x hx) ht (fun i _ x _ => .inl (o.fn x))
  refine PS.imp (ps_asg (ev_ok G.g e N sc Wx X v o.x hm).1 hg (show swapsWith v (some tg) pos.line X.env = pure false from swap_tup ht) hsw (by rw [asg_cons hp]; rfl)) fun D σ H ⟨W0, H0, W, st, ρ, I, q⟩ => ?_
  refine x_val I q fun d ρ' s W1 H1 u I1 p _ _ q1 => ?_
  obtain ⟨ρ2, e2, q2⟩ := OQ.opt (OQ.bind0 q1)
  exact tg_bind I1 p e2 fun σ' I2 => oq_nx I2 (q2 W1 H1 I1.ext I1.rel)
theorem par_swapped {x y : Str} {px py pt pt2 : Pos} {kt k2 : Nat} {a b : Expr} {env : Env} (hk : env.scope.kind = .function) (h : parOk env.scope x y px py a b = true) (pa : plainX a = true) (pb : plainX b = true) :
    swappedStores [.Tuple [.Name x px, .Name y py] kt pt] (.Tuple [a, b] k2 pt2) env = pure (some [x, y]) := by
  unfold parOk at h
  simp only [Bool.and_eq_true, decide_eq_true_eq, Bool.not_eq_true'] at h
  obtain ⟨⟨⟨⟨⟨h1, h2⟩, h3⟩, h4⟩, h5⟩, h6⟩ := h
  have hb : env.blockKind = .function := by unfold Env.blockKind; rw [hk]; rfl
  have k1 : env.kindOf x = some .local := h1
  have k2 : env.kindOf y = some .local := h2
  have sa : (match a with | .Starred .. => true | _ => false) = false := by cases a <;> first | rfl | cases pa
  have sb : (match b with | .Starred .. => true | _ => false) = false := by cases b <;> first | rfl | cases pb
  unfold swappedStores
  have ed : ([x, y].eraseDups).length = 2 := by
    have ne : ¬ y = x := fun e => by rw [e] at h4; simp at h4
    simp [List.eraseDups_cons, List.filter_cons, ne]
  simp only [hb, k1, k2, h3, h5, h6, List.any_cons, List.any_nil, sa, sb, Expr.pos, List.head?_cons, Option.map_some, Option.getD_some, List.filterMap_cons, List.filterMap_nil]
  simp [ed, k1, k2, h3, Expr.pos]
  intro z
  exfalso
  rcases z with z | z
  · clear sa sb h5 h6
    cases a <;> first | (cases pa; done) | cases z
  · clear sa sb h5 h6
    cases b <;> first | (cases pb; done) | cases z
theorem s_par (o : SOk P w C base k N sc Wx X) (G : GxOk P w C base k Γ) {i j : Nat} {m n : Md} {a b : E} {x y : Str} {px py pt pt2 pos : Pos} {kt k2 : Nat} {u v : Expr} (hi : N[i]? = some x) (hj : N[j]? = some y) (hij : i ≠ j) (ha : mt N sc a u = true) (hb : mt N sc b v = true)
    (na : m.ow = true → newB a = true) (nb : n.ow = true → newB b = true) (hp : parOk sc x y px py u v = true) :
    PS X (.Assign [.Tuple [.Name x px, .Name y py] kt pt] (.Tuple [u, v] k2 pt2) pos) (tSt C Γ Wx (.par i j m n a b)) := by
  have pu := mt_plain ha
  have pv := mt_plain hb
  have hp' := hp
  unfold parOk at hp'
  simp only [Bool.and_eq_true, decide_eq_true_eq, Bool.not_eq_true'] at hp'
  obtain ⟨⟨⟨⟨⟨h1, h2⟩, h3⟩, h4⟩, h5⟩, h6⟩ := hp'
  refine PS.imp (ps_par o.x.calm (by rw [o.x.nm]; exact o.x.nd) (by rw [o.x.nm]; exact hi) (by rw [o.x.nm]; exact hj) hij (by rw [o.x.sc]; exact h1) (by rw [o.x.sc]; exact h2)
    (pa_cons (tv_ok (m := m) G.g o.x na ha) (pa_cons (tv_ok (m := n) G.g o.x nb hb) pa_nil (plain_star pv)) (plain_star pu))
    (par_swapped (by rw [o.x.sc]; exact o.kd) (by rw [o.x.sc]; exact hp) pu pv)) fun D σ H ⟨W0, H0, W, st, ρ, I, q⟩ => ?_
  refine v_val I q fun x1 ρ1 s1 W1 H1 v1 I1 sr1 any1 ap1 nw1 _ _ q1 => ?_
  refine v_val I1 q1 fun x2 ρ2 s2 W2 H2 v2 I2 sr2 any2 ap2 nw2 kp sb q2 => ?_
  refine ⟨v1, v2, rfl, ?_⟩
  have hl : x1.own = true → ∀ a, v1 = .ref a → ¬ Lof (vsE b) ρ1 σ a := fun ox a ea ⟨i', ds, _, z1, z2⟩ => by
    subst ea
    exact ap1 ox i' _ z1 rfl z2
  have sr1' := kp x1 v1 sr1 hl
  have ap1' : Apart ρ2 σ x1 v1 := ap1.sub sb
  refine oq_nx ((I2.set i sr1' ap1').set j sr2 ?_) q2
  refine Apart.set ap2 I2.sl.len i fun ox oy e => ?_
  subst e
  have n2 : ∀ a, v1 = .ref a → H1 a = none := nw2 ox
  cases x1 with
  | no => cases oy
  | sh d => cases oy
  | ow ds => obtain ⟨a, _, ea, ha, _⟩ := sr1; rw [n2 a ea] at ha; cases ha
  | ob c fs => obtain ⟨a, _, _, _, ea, _, ha, _⟩ := sr1; rw [n2 a ea] at ha; cases ha
theorem s_var {X : Cx} (o : XOk P w C base k N sc Wx X) {i : Nat} {x : Str} {pos : Pos} (hN : N[i]? = some x) (hv : visB sc x = true) (h1 : (x == ("__debug__" : Str)) = false) (h2 : (x == ("__classdict__" : Str)) = false) : PE X (.Name x pos) (tVar i) :=
  pe_var (i := i) (by rw [o.nm]; exact hN) (vis_of o hv) h1 h2
theorem ow_at {i : Nat} {u : Unit} (h : owS i ρ = some u) : ∃ ds, ρ[i]? = some (.ow ds) := by
  unfold owS at h
  split at h
  · rename_i ds e; exact ⟨ds, e⟩
  · cases h
theorem s_app (o : SOk P w C base k N sc Wx X) (G : GxOk P w C base k Γ) {i : Nat} {m : Md} {e : E} {x : Str} {px apos cpos pos : Pos} {v : Expr} (hN : N[i]? = some x) (hv : visB sc x = true) (h1 : (x == ("__debug__" : Str)) = false) (h2 : (x == ("__classdict__" : Str)) = false)
    (hm : mt N sc e v = true) (hl : (apos.endLine == cpos.line) = true) : PS X (.Expr (.Call (.Attribute (.Name x px) "append" apos) [v] [] cpos) pos) (tSt C Γ Wx (.app i m e)) := by
  have pv := mt_plain hm
  have sv : starEach [v] X.env = [(false, eval v X.env)] := plain_star pv
  refine PS.imp (ps_expr (pe_bm PySem.F.plainAttrs_list PySem.F.slot_list_append PySem.F.type_list_append mt_append (s_var o.x hN hv h1 h2) (pa_cons (ev_ok G.g e N sc Wx X v o.x hm).1 pa_nil (plain_star pv)) rfl (by rw [sv]; rfl) hl sv rfl)) fun D σ H ⟨W0, H0, W, st, ρ, I, q⟩ => ?_
  obtain ⟨u, eu, q1⟩ := OQ.opt (OQ.bind0 q)
  have q2 := q1 W H I.ext I.rel
  obtain ⟨ds0, hρ⟩ := ow_at eu
  obtain ⟨v0, hs, a, vs, ev, g1, g2, g3, g4⟩ := I.val hρ rfl
  subst ev
  refine ⟨_, hs, .inl ⟨rfl, _, .of g1⟩, ?_⟩
  refine x_val I q2 fun d ρ' s W1 H1 y I1 p _ _ q3 => ?_
  obtain ⟨ρ2, e2, q4⟩ := OQ.opt (OQ.bind0 q3)
  have q5 := q4 W1 H1 I1.ext I1.rel
  unfold appS at e2
  split at e2
  · rename_i ds hρ'
    split at e2
    · rename_i hz
      cases e2
      obtain ⟨v1, hs1, a1, vs1, ev1, k1, k2, k3, k4⟩ := I1.val hρ' rfl
      rw [hs] at hs1
      cases hs1
      cases ev1
      refine ⟨a, vs1, y, rfl, rfl, k1, by rw [← k4.length]; exact hz, ?_⟩
      exact oq_nx (I1.chg (x' := .ow (ds ++ [d])) hρ' rfl hs rfl (I1.mineL k2 k1 fun _ _ z => by cases z) k3 ⟨a, _, rfl, upd_same, k2, k3, k4.append ⟨y, [], rfl, p, rfl⟩⟩) q5
    · cases e2
  · cases e2
theorem Reps.set {ds : List D} {vs : List V} (r : Reps C W ds vs) {d : D} {v : V} (p : Rep C W d v) : ∀ (j : Nat), Reps C W (ds.set j d) (vs.set j v) := by
  induction ds generalizing vs with
  | nil => intro j; have e : vs = [] := r; subst e; cases j <;> exact rfl
  | cons x xs ih =>
    obtain ⟨u, us, ev, p1, r1⟩ := r
    subst ev
    intro j
    cases j with
    | zero => exact ⟨v, us, rfl, p, r1⟩
    | succ j => exact ⟨u, _, rfl, p1, ih r1 j⟩
theorem s_sti (o : SOk P w C base k N sc Wx X) (G : GxOk P w C base k Γ) {i : Nat} {m n : Md} {a e : E} {x : Str} {px p2 pos : Pos} {u v : Expr} (hN : N[i]? = some x) (hv : visB sc x = true) (h1 : (x == ("__debug__" : Str)) = false) (h2 : (x == ("__classdict__" : Str)) = false)
    (ha : mt N sc a u = true) (hm : mt N sc e v = true) : PS X (.Assign [.Subscript (.Name x px) u p2] v pos) (tSt C Γ Wx (.sti i m n a e)) := by
  have pu := mt_plain ha
  have nt : swappedStores [.Subscript (.Name x px) u p2] v X.env = pure none := by cases v <;> rfl
  have asg : ∀ v, assign (.Subscript (.Name x px) u p2) X.env v = (do
      let ov ← holding [v] (eval (.Name x px) X.env)
      let iv ← holding [v, ov] (eval u X.env)
      standAt p2
      holding [v, ov, iv] (setItem ov iv v)
      release [v, ov, iv] []) := fun v => by
    cases u <;> first | rfl | cases pu
  refine PS.imp (ps_asg (ev_ok G.g e N sc Wx X v o.x hm).1 (pg_sub (s_var o.x hN hv h1 h2) (ev_ok G.g a N sc Wx X u o.x ha).1 set_list asg) (show swapsWith v (some (.Subscript (.Name x px) u p2)) pos.line X.env = pure false from swap_sub) nt rfl) fun D σ H ⟨W0, H0, W, st, ρ, I, q⟩ => ?_
  obtain ⟨un, eu, q0⟩ := OQ.opt (OQ.bind0 q)
  obtain ⟨ds0, hρ0⟩ := ow_at eu
  obtain ⟨v0, hs, b, vs0, ev, _⟩ := I.val hρ0 rfl
  subst ev
  refine x_val I (q0 W H I.ext I.rel) fun d ρ1 s1 W1 H1 y I1 p kp1 sb1 q1 => ?_
  refine ⟨_, hs, ?_⟩
  refine x_val I1 q1 fun d2 ρ2 s2 W2 H2 z I2 p2 kp2 _ q2 => ?_
  obtain ⟨ρ3, e3, q3⟩ := OQ.opt (OQ.bind0 q2)
  have q4 := q3 W2 H2 I2.ext I2.rel
  unfold stiS at e3
  split at e3
  · rename_i kk ds ek hρ'
    have ez : z = .int kk := by
      have : d2 = .int kk := ek
      subst this
      exact p2
    subst ez
    split at e3
    · rename_i j hj
      cases e3
      obtain ⟨v1, hs1, a1, vs1, ev1, k1, k2, k3, k4⟩ := I2.val hρ' rfl
      rw [hs] at hs1
      cases hs1
      cases ev1
      have p' : Rep C W2 d y := kp2 (.sh d) y p (fun z => by cases z)
      refine ⟨b, vs1, kk, j, rfl, rfl, k1, by rw [← k4.length]; exact hj, ?_⟩
      exact oq_nx (I2.chg (x' := .ow (ds.set j d)) hρ' rfl hs rfl (I2.mineL k2 k1 fun _ _ z => by cases z) k3 ⟨b, _, rfl, upd_same, k2, k3, Reps.set k4 p' j⟩) q4
    · cases e3
  · cases e3
theorem Reps.erase {ds : List D} {vs : List V} (r : Reps C W ds vs) : ∀ (j : Nat), Reps C W (ds.eraseIdx j) (vs.eraseIdx j) := by
  induction ds generalizing vs with
  | nil => intro j; have e : vs = [] := r; subst e; exact rfl
  | cons x xs ih =>
    obtain ⟨u, us, ev, p1, r1⟩ := r
    subst ev
    intro j
    cases j with
    | zero => exact r1
    | succ j => exact ⟨u, _, rfl, p1, ih r1 j⟩
theorem popS_inv {j : Nat} {d d' : D} {ρ' : List Sl} (e : popS j d ρ = some (d', ρ')) : ∃ k ds n, d = .int k ∧ ρ[j]? = some (.ow ds) ∧ ixN ds.length k = some n ∧ ds[n]? = some d' ∧ bnd62 k = true ∧ ρ' = ρ.set j (.ow (ds.eraseIdx n)) := by
  cases d <;> first | (simp [popS] at e; done) | skip
  rename_i k
  cases h : ρ[j]? with
  | none => simp [popS, h] at e
  | some x =>
    cases x <;> first | (simp [popS, h] at e; done) | skip
    rename_i ds
    cases hn : ixN ds.length k with
    | none => simp [popS, h, hn] at e
    | some n =>
      cases hd : ds[n]? with
      | none => simp [popS, h, hn, hd] at e
      | some y =>
        cases hb : bnd62 k with
        | false => simp [popS, h, hn, hd, hb] at e
        | true =>
          simp [popS, h, hn, hd, hb] at e
          exact ⟨k, ds, n, rfl, rfl, hn, by rw [hd, e.1], hb, e.2.symm⟩
/-- what is taken out of an own list -/
theorem pop_ok (I : SI C W0 H0 W H ρ σ st) {j : Nat} {d d' : D} {ρ' : List Sl} {y : V} {b : Addr} (hs : σ[j]? = some (some (.ref b))) (p : Rep C W d y) (e : popS j d ρ = some (d', ρ')) :
    ∃ (xs : List V) (i : Int) (n : Nat) (u : V), y = .int i ∧ H b = some (.lst xs) ∧ -(2 ^ 63) ≤ i ∧ i < 2 ^ 63 ∧ seqIndex? i xs.length = some n ∧ xs[n]? = some u ∧ Rep C W d' u ∧ SI C W0 H0 W (upd H b (.lst (xs.eraseIdx n))) ρ' σ st := by
  obtain ⟨k, ds, n, ed, hρ, hn, hx, hb, er⟩ := popS_inv e
  subst ed er
  have ey : y = .int k := p
  obtain ⟨v1, hs1, a1, vs1, ev1, k1, k2, k3, k4⟩ := I.val hρ rfl
  rw [hs] at hs1
  cases hs1
  cases ev1
  obtain ⟨u, hu, pu⟩ := k4.get hx
  have bb := of_decide_eq_true hb
  obtain ⟨q1, _, _, _⟩ := ixN_seq hn
  refine ⟨vs1, k, n, u, ey, k1, by omega, by omega, by rw [← k4.length]; exact q1, hu, pu, ?_⟩
  exact I.chg (x' := .ow (ds.eraseIdx n)) hρ rfl hs rfl (I.mineL k2 k1 fun _ _ z => by cases z) k3 ⟨b, _, rfl, upd_same, k2, k3, Reps.erase k4 n⟩
theorem pe_pop (o : XOk P w C base k N sc Wx X) (G : GOk P w C base k Γ.g) {j : Nat} {e : E} {y : Str} {py apos cpos : Pos} {v : Expr} (hr : rdB N sc j y = true) (hm : mt N sc e v = true) (hl : (apos.endLine == cpos.line) = true) :
    PE X (.Call (.Attribute (.Name y py) "pop" apos) [v] [] cpos) (tBM X.K "list" rPopAt (tVar j) (tCons (tEv C Γ.g Wx e) tNil)) := by
  have pv := mt_plain hm
  have sv : starEach [v] X.env = [(false, eval v X.env)] := plain_star pv
  obtain ⟨r1, r2, r3, r4⟩ := rd_of hr
  exact pe_bm PySem.F.plainAttrs_list PySem.F.slot_list_pop PySem.F.type_list_pop mt_popAt (s_var o r1 r2 r3 r4) (pa_cons (ev_ok G e N sc Wx X v o hm).1 pa_nil (plain_star pv)) rfl (by rw [sv]; rfl) hl sv rfl
theorem int_at {i : Nat} {x : Int} (h : intS i ρ = some x) : ρ[i]? = some (.sh (.int x)) := by
  unfold intS at h
  split at h
  · rename_i y e; cases h; exact e
  · cases h
theorem s_aug (o : SOk P w C base k N sc Wx X) (G : GxOk P w C base k Γ) {i : Nat} {op : Operator} {m : Md} {e : E} {x : Str} {px pos : Pos} {v : Expr} (hN : N[i]? = some x) (hl : locB sc x = true) (hm : mt N sc e v = true) :
    PS X (.AugAssign (.Name x px) op v pos) (tSt C Γ Wx (.aug i op m e)) := by
  have none_of : (∀ x y, augD op (.int x) y = none) → PS X (.AugAssign (.Name x px) op v pos) (tSt C Γ Wx (.aug i op m e)) := fun hn =>
    PS.imp (ps_aug (ti := fun _ _ _ _ => False) (by rw [o.x.nm]; exact o.x.nd) (by rw [o.x.nm]; exact hN) (loc_of o.x hl) (ev_ok G.g e N sc Wx X v o.x hm).1 (fun _ _ _ _ _ _ _ _ _ _ _ _ z => z.elim) (.inl (o.fn x))) fun D σ H ⟨W0, H0, W, st, ρ, I, q⟩ => by
      obtain ⟨xi, ex, q1⟩ := OQ.opt (OQ.bind0 q)
      have q2 := q1 W H I.ext I.rel
      obtain ⟨v0, hs, sr⟩ := I.val (int_at ex) rfl
      refine ⟨v0, hs, ?_⟩
      refine x_val I q2 fun d ρ1 s1 W1 H1 y I1 p _ _ q3 => ?_
      obtain ⟨z, ez, _⟩ := OQ.opt (OQ.bind0 q3)
      have ez' : augD op (.int xi) d = some z := ez
      rw [hn] at ez'; cases ez'
  have some_of : ∀ f : Int → Int → Int, (∀ (x : Int) (y z : D), augD op (.int x) y = some z → ∃ j, y = .int j ∧ z = .int (f x j)) → PIp X op (ipI f) → PS X (.AugAssign (.Name x px) op v pos) (tSt C Γ Wx (.aug i op m e)) := fun f hf hp =>
    PS.imp (ps_aug (by rw [o.x.nm]; exact o.x.nd) (by rw [o.x.nm]; exact hN) (loc_of o.x hl) (ev_ok G.g e N sc Wx X v o.x hm).1 hp (.inl (o.fn x))) fun D σ H ⟨W0, H0, W, st, ρ, I, q⟩ => by
      obtain ⟨xi, ex, q1⟩ := OQ.opt (OQ.bind0 q)
      have q2 := q1 W H I.ext I.rel
      obtain ⟨v0, hs, sr⟩ := I.val (int_at ex) rfl
      have ev : v0 = .int xi := sr
      subst ev
      refine ⟨_, hs, ?_⟩
      refine x_val I q2 fun d ρ1 s1 W1 H1 y I1 p _ _ q3 => ?_
      obtain ⟨z, ez, q4⟩ := OQ.opt (OQ.bind0 q3)
      obtain ⟨j, ed, e2⟩ := hf xi d z ez
      subst ed e2
      exact ⟨xi, j, rfl, p, oq_nx (I1.set (x := .sh (.int (f xi j))) i rfl apart_sh) (q4 W1 H1 I1.ext I1.rel)⟩
  cases op with
  | Add => exact some_of (fun i j => i + j) (fun x y z h => by cases y <;> first | (cases h; done) | (cases h; exact ⟨_, rfl, rfl⟩)) ip_add
  | Sub => exact some_of (fun i j => i - j) (fun x y z h => by cases y <;> first | (cases h; done) | (cases h; exact ⟨_, rfl, rfl⟩)) ip_sub
  | _ => exact none_of fun x y => by cases y <;> rfl
theorem putF_rep {f : Str} {d : D} {v : V} (p : Rep C W d v) : ∀ {fs : List (Str × D)} {vs : List (Str × V)}, RepF C W fs vs → RepF C W (putFd f d fs) (putF f v vs)
  | [], vs, r => by
    have e : vs = [] := r
    subst e
    exact ⟨v, [], rfl, p, rfl⟩
  | (g, x) :: fs, vs, ⟨u, r, ev, p1, r1⟩ => by
    subst ev
    unfold putFd putF
    by_cases h : g = f
    · rw [if_pos h]
      subst h
      first
        | (rw [if_pos rfl]; exact ⟨v, r, rfl, p, r1⟩)
        | (simp only [beq_self_eq_true, if_true]; exact ⟨v, r, rfl, p, r1⟩)
    · rw [if_neg h]
      first
        | (rw [if_neg h]; exact ⟨u, _, rfl, p1, putF_rep p r1⟩)
        | (rw [if_neg (by simpa using h)]; exact ⟨u, _, rfl, p1, putF_rep p r1⟩)
        | (rw [if_neg (fun z => h z.symm)]; exact ⟨u, _, rfl, p1, putF_rep p r1⟩)
theorem RepF.length : ∀ {fs : List (Str × D)} {vs : List (Str × V)}, RepF C W fs vs → fs.length = vs.length
  | [], vs, r => by have e : vs = [] := r; subst e; rfl
  | (g, x) :: fs, vs, ⟨u, r, ev, _, r1⟩ => by subst ev; simp [RepF.length r1]
theorem s_sto (o : SOk P w C base k N sc Wx X) (G : GxOk P w C base k Γ) {f : Str} {m : Md} {e : E} {x : Str} {px p2 pos : Pos} {v : Expr} (hN : N[(0 : Nat)]? = some x) (hv : visB sc x = true) (h1 : (x == ("__debug__" : Str)) = false) (h2 : (x == ("__classdict__" : Str)) = false)
    (hm : mt N sc e v = true) : PS X (.Assign [.Attribute (.Name x px) f p2] v pos) (tSt C Γ Wx (.sto f m e)) := by
  refine PS.imp (ps_fld (s_var o.x hN hv h1 h2) (ev_ok G.g e N sc Wx X v o.x hm).1 swap_attr) fun D σ H ⟨W0, H0, W, st, ρ, I, q⟩ => ?_
  refine x_val I q fun d ρ1 s1 W1 H1 y I1 p _ _ q1 => ?_
  obtain ⟨ρ2, e2, q2⟩ := OQ.opt (OQ.bind0 q1)
  have q3 := q2 W1 H1 I1.ext I1.rel
  unfold stoS at e2
  split at e2
  · rename_i c fs hρ
    split at e2
    · rename_i hc
      cases e2
      obtain ⟨v0, hs, a, cl, dx, vs, ev, mg, g1, g2, g3, g4⟩ := I1.val hρ rfl
      subst ev
      obtain ⟨cl', z1, z2, z3⟩ := G.g.fld c f hc.1
      have z1' : C.mg c = some (.ref cl') := z1
      rw [mg.1] at z1'
      cases z1'
      refine ⟨_, hs, a, cl, dx, vs, rfl, g1, by rw [o.x.K]; exact z2, by rw [o.x.K]; exact z3, by rw [← g4.length]; exact hc.2, ?_⟩
      exact oq_nx (I1.chg (x' := .ob c (putFd f d fs)) hρ rfl hs rfl (I1.mineL g2 g1 fun _ _ z => by cases z) g3 ⟨a, cl, dx, _, rfl, mg, upd_same, g2, g3, putF_rep p g4⟩) q3
    · cases e2
  · cases e2
theorem s_ret (o : SOk P w C base k N sc Wx X) (G : GxOk P w C base k Γ) {e : E} {pos : Pos} {v : Expr} (hm : mt N sc e v = true) : PS X (.Return (some v) pos) (tSt C Γ Wx (.ret e)) := by
  refine PS.imp (ps_ret (ev_ok G.g e N sc Wx X v o.x hm).1) fun D σ H ⟨W0, H0, W, st, ρ, I, q⟩ => ?_
  have e0 := ext_frzL I.ext (I.sl.ownL (vsE e)) (I.sl.newL (vsE e))
  refine ⟨W.frz H (Lof (vsE e) ρ σ), st, look (vsE e) ρ, I.sl.slots (vsE e), rel_frzL I.rel (I.sl.ownL (vsE e)), ?_⟩
  have q1 : OQ C Wx W0 H0 (RC C W0 H0 D) ((ev Γ.g e (look (vsE e) ρ) st).bind fun d s => .ok (.rt d) s) := q
  refine (q1.bind0.mono e0).imp fun d s W1 H1 e1 r1 q2 v p => ?_
  exact q2 W1 H1 (e0.trans e1) r1 v p
theorem s_exp (o : SOk P w C base k N sc Wx X) (G : GxOk P w C base k Γ) {e : E} {pos : Pos} {v : Expr} (hm : mt N sc e v = true) (hl : isLc v = false) : PS X (.Expr v pos) (tSt C Γ Wx (.exp e)) := by
  refine PS.imp (ps_expr (ev_ok G.g e N sc Wx X v o.x hm).1 (swap_none hl)) fun D σ H ⟨W0, H0, W, st, ρ, I, q⟩ => ?_
  have e0 := ext_frzL I.ext (I.sl.ownL (vsE e)) (I.sl.newL (vsE e))
  refine ⟨W.frz H (Lof (vsE e) ρ σ), st, look (vsE e) ρ, I.sl.slots (vsE e), rel_frzL I.rel (I.sl.ownL (vsE e)), ?_⟩
  have q1 : OQ C Wx W0 H0 (RC C W0 H0 D) ((ev Γ.g e (look (vsE e) ρ) st).bind fun d s => .ok (.nx ρ) s) := q
  refine (q1.bind0.mono e0).imp fun d s W1 H1 e1 r1 q2 v p => ?_
  exact oq_nx (I.kept (vsE e) e1 r1) q2
theorem s_rse (o : SOk P w C base k N sc Wx X) (G : GxOk P w C base k Γ) {c : Str} {es : Es} {p pos pos2 : Pos} {ys : List Expr} (hg : glB sc c = true) (hm : mts N sc es ys = true) : PS X (.Raise (some (.Call (.Name c p) ys [] pos)) none pos2) (tSt C Γ Wx (.rse c es)) := by
  by_cases hx : Γ.excs c = true
  · refine PS.imp (G.rse c hx N sc Wx X o.x hg hm (evs_ok G.g es N sc Wx X ys o.x hm).1) fun D σ H ⟨W0, H0, W, st, ρ, I, q⟩ => ?_
    have q1 : OQ C Wx W0 H0 (RC C W0 H0 D) (if Γ.excs c = true then (evs Γ.g es (look (vsEs es) ρ) st).bind fun ds s => match Γ.exc c ds with
      | some x => .ex x s
      | none => .bad
      else .bad) := q
    rw [if_pos hx] at q1
    refine x_arg I q1 fun ds s W1 H1 vs I1 rp q2 => ?_
    cases e : Γ.exc c ds with
    | none => rw [e] at q2; exact False.elim q2
    | some x =>
      rw [e] at q2
      exact ⟨W1, s, ds, x, rp, I1.rel, e, fun cls dx W' H' e1 r1 rx => q2 cls dx W' H' (I1.ext.trans e1) r1 rx⟩
  · exact ⟨fun pins s σ H D I ⟨W0, H0, W, st, ρ, _, q⟩ => by
      have q1 : OQ C Wx W0 H0 (RC C W0 H0 D) (if Γ.excs c = true then (evs Γ.g es (look (vsEs es) ρ) st).bind fun ds s => match Γ.exc c ds with
        | some x => .ex x s
        | none => .bad
        else .bad) := q
      rw [if_neg hx] at q1
      exact False.elim q1⟩
/-! ### bodies -/
/-- what is one's own here -/
def OwnA (ρ : List Sl) (σ : Sg) (a : Addr) : Prop := ∃ (i : Nat) (x : Sl), ρ[i]? = some x ∧ x.own = true ∧ σ[i]? = some (some (.ref a))
open Classical in
noncomputable def less (H : Hp) (L : Addr → Prop) : Hp := fun a => if L a then none else H a
open Classical in
theorem less_in {L : Addr → Prop} {a : Addr} (h : L a) : less H L a = none := by
  show (if L a then none else H a) = _
  rw [if_pos h]
open Classical in
theorem less_out {L : Addr → Prop} {a : Addr} (h : ¬ L a) : less H L a = H a := by
  show (if L a then none else H a) = _
  rw [if_neg h]
theorem SI.own0 (I : SI C W0 H0 W H ρ σ st) {a : Addr} (h : OwnA ρ σ a) : W.G a = none ∧ H0 a = none := by
  obtain ⟨i, x, h1, h2, h3⟩ := h
  obtain ⟨v, e, sr⟩ := I.val h1 (by cases x <;> first | rfl | cases h2)
  rw [h3] at e
  cases e
  cases x with
  | no => cases h2
  | sh d => cases h2
  | ow ds => obtain ⟨b, vs, eb, _, g2, g3, _⟩ := sr; cases eb; exact ⟨g2, g3⟩
  | ob c fs => obtain ⟨b, _, _, vs, eb, _, _, g2, g3, _⟩ := sr; cases eb; exact ⟨g2, g3⟩
/-- the entry moved to here -/
theorem SI.ext0 (I : SI C W0 H0 W H ρ σ st) : Ext W0 H0 W (less H (OwnA ρ σ)) where
  le := I.ext.le
  keep := fun a o h n => by
    have q : ¬ OwnA ρ σ a := fun z => by rw [(I.own0 z).2] at h; cases h
    rw [less_out q]; exact I.ext.keep a o h n
  scr := I.ext.scr
  dom := fun a h => by
    by_cases q : OwnA ρ σ a
    · exact (I.own0 q).2
    · rw [less_out q] at h; exact I.ext.dom a h
  newG := I.ext.newG
theorem SI.here (I : SI C W0 H0 W H ρ σ st) : SI C W (less H (OwnA ρ σ)) W H ρ σ st := by
  refine ⟨I.rel, ⟨.refl W, fun a o h _ => ?_, fun a h => ?_, fun a o h => .inl h, rfl⟩, I.sl.len, fun i x h hx => ?_, I.sl.inj⟩
  · by_cases q : OwnA ρ σ a
    · rw [less_in q] at h; cases h
    · rw [less_out q] at h; exact h
  · by_cases q : OwnA ρ σ a
    · exact less_in q
    · rw [less_out q]; exact h
  · obtain ⟨v, e, sr⟩ := I.val h hx
    refine ⟨v, e, ?_⟩
    cases x with
    | no => cases hx
    | sh d => exact sr
    | ow ds =>
      obtain ⟨a, vs, eb, g1, g2, g3, g4⟩ := sr
      subst eb
      exact ⟨a, vs, rfl, g1, g2, less_in ⟨i, _, h, rfl, e⟩, g4⟩
    | ob c fs =>
      obtain ⟨a, cl, dx, vs, eb, m, g1, g2, g3, g4⟩ := sr
      subst eb
      exact ⟨a, cl, dx, vs, rfl, m, g1, g2, less_in ⟨i, _, h, rfl, e⟩, g4⟩
theorem SI.back {Hm : Hp} (e : Ext W0 H0 W Hm) {W1 : Wd} {H1 : Hp} (J : SI C W Hm W1 H1 ρ' σ' st') : SI C W0 H0 W1 H1 ρ' σ' st' := by
  refine ⟨J.rel, e.trans J.ext, J.sl.len, fun i x h hx => ?_, J.sl.inj⟩
  obtain ⟨v, ee, sr⟩ := J.val h hx
  refine ⟨v, ee, ?_⟩
  cases x with
  | no => cases hx
  | sh d => exact sr
  | ow ds =>
    obtain ⟨a, vs, eb, g1, g2, g3, g4⟩ := sr
    exact ⟨a, vs, eb, g1, g2, e.dom a g3, g4⟩
  | ob c fs =>
    obtain ⟨a, cl, dx, vs, eb, m, g1, g2, g3, g4⟩ := sr
    exact ⟨a, cl, dx, vs, eb, m, g1, g2, e.dom a g3, g4⟩
/-- a later heap, the names as they were -/
theorem SI.later (I : SI C W0 H0 W H ρ σ st) (e : Ext W H W' H') (r : Rel C W' st' H') : SI C W0 H0 W' H' ρ σ st' := by
  refine ⟨r, I.ext.trans e, I.sl.len, fun i x h hx => ?_, I.sl.inj⟩
  obtain ⟨v, ee, sr⟩ := I.val h hx
  exact ⟨v, ee, sl_stays I.rel e sr⟩
/-- the names' own wishes, by the entry moved -/
theorem rc_here {D : Ends} {Hm : Hp} (e : Ext W0 H0 W Hm) {c : Ctl} {s : Ms} {W1 : Wd} {H1 : Hp} (q : RC C W0 H0 D c s W1 H1) : RC C W Hm D c s W1 H1 := by
  cases c with
  | nx ρ => exact fun σ J => q σ (J.back e)
  | rt d => exact q
  | bk ρ => exact fun σ J => q σ (J.back e)
  | ct ρ => exact fun σ J => q σ (J.back e)
theorem s_if (o : SOk P w C base k N sc Wx X) (G : GxOk P w C base k Γ) {c : E} {a b : Ss} {t : Expr} {x y : List Stmt} {pos : Pos} (hc : mt N sc c t = true) (ha : PSs X x (tSs C Γ Wx a)) (hb : PSs X y (tSs C Γ Wx b)) : PS X (.If t x y pos) (tSt C Γ Wx (.ife c a b)) := by
  refine PS.imp (ps_if (ev_ok G.g c N sc Wx X t o.x hc).2 ha hb) fun D σ H ⟨W0, H0, W, st, ρ, I, q⟩ => ?_
  refine x_tst I q fun k s W1 H1 I1 q1 => ?_
  cases k with
  | true => exact ⟨W0, H0, W1, s, ρ, I1, q1⟩
  | false => exact ⟨W0, H0, W1, s, ρ, I1, q1⟩
theorem s_while (o : SOk P w C base k N sc Wx X) (G : GxOk P w C base k Γ) {n : Nat} {c : E} {b : Ss} {t : Expr} {x : List Stmt} {pos : Pos} (hc : mt N sc c t = true) (hb : PSs X x (tSs C Γ Wx b)) : PS X (.While t x [] pos) (tSt C Γ Wx (.whl n c b)) := by
  refine PS.imp (ps_while o.po (ev_ok G.g c N sc Wx X t o.x hc).2 hb) fun D σ H ⟨W0, H0, W, st, ρ, I, q⟩ => ?_
  refine ⟨fun m σ H => ∃ W st ρ, SI C W0 H0 W H ρ σ st ∧ OQ C Wx W0 H0 (RC C W0 H0 D) (evWhl (fun ρ s => evXT Γ.g c ρ s) (fun ρ s => evSs Γ b ρ s) m ρ st), ⟨n, W, st, ρ, I, q⟩, ?_⟩
  rintro m σ H ⟨W, st, ρ, I, q⟩
  cases m with
  | zero => exact False.elim q
  | succ m =>
    refine x_tst I q fun k s W1 H1 I1 q1 => ?_
    cases k with
    | false => exact oq_nx I1 q1
    | true =>
      rw [if_pos rfl] at q1 ⊢
      refine ⟨fun σ H => ∃ W st ρ, SI C W0 H0 W H ρ σ st ∧ OQ C Wx W0 H0 (RC C W0 H0 D) (evWhl (fun ρ s => evXT Γ.g c ρ s) (fun ρ s => evSs Γ b ρ s) m ρ st), fun σ' H' h => ⟨m, Nat.lt_succ_self m, h⟩, W0, H0, W1, s, ρ, I1, ?_⟩
      refine (OQ.bind0 q1).imp fun ct s2 W2 H2 e2 r2 q2 => ?_
      cases ct with
      | nx ρ2 => exact fun σ2 I2 => ⟨W2, s2, ρ2, I2, q2⟩
      | ct ρ2 => exact fun σ2 I2 => ⟨W2, s2, ρ2, I2, q2⟩
      | bk ρ2 => exact fun σ2 I2 => oq_nx I2 q2
      | rt d => exact q2 W2 H2 e2 r2
theorem s_for (o : SOk P w C base k N sc Wx X) (G : GxOk P w C base k Γ) {tg : Tg} {it : It} {b : Ss} {t i : Expr} {x : List Stmt} {pos : Pos} (ht : mtTg N sc tg t = true) (hi : mti N sc it t i = true) (hb : PSs X x (tSs C Γ Wx b)) : PS X (.For t i x [] pos) (tSt C Γ Wx (.for_ tg it b)) := by
  have hg := l_tg (C := C) (X := X) o.x.calm o.x.K o.x.nm o.x.nd (fun x hx => loc_of o.x hx) ht (fun i _ x _ => .inl (o.fn x))
  refine PS.imp (ps_for o.po o.x.calm (evi_ok G.g it N sc Wx X t i o.x hi) hg hb (plain_set (mti_plain hi))) fun D σ H ⟨W0, H0, W, st, ρ, I, q⟩ => ?_
  refine x_itr I q fun ds ρ1 s1 W1 H1 J I1 dw q1 => ?_
  obtain ⟨Gp, Y, wk, hG, hY⟩ := dw
  refine for_it wk (fun i σ H => ∃ W st ρ, Le W1 W ∧ SI C W0 H0 W H ρ σ st ∧ OQ C Wx W0 H0 (RC C W0 H0 D) (evFor tg (fun ρ s => evSs Γ b ρ s) (ds.drop i) ρ st)) ⟨W1, s1, ρ1, .refl _, I1, q1⟩ ?_ ?_ ?_
  · rintro i σ H hi ⟨W, st, ρ, l, I, q⟩
    exact hG W st H l I.rel
  · rintro i y σ H H' hi ⟨W, st, ρ, l, I, q⟩ hy
    obtain ⟨W2, d, y1, y2, y3, y4⟩ := hY i W st H y H' hi l I.rel hy
    have hd : ds.drop i = d :: ds.drop (i + 1) := by
      rw [List.drop_eq_getElem_cons hi]
      rw [List.getElem?_eq_getElem hi] at y3
      rw [Option.some.inj y3]
    rw [hd] at q
    have I2 : SI C W0 H0 W2 H' ρ σ st := I.later y1 y2
    have q' : OQ C Wx W0 H0 (RC C W0 H0 D) (match bindS tg d ρ with
      | none => .bad
      | some ρ' => (evSs Γ b ρ' st).bind fun c s => match c with
        | .nx ρ2 => evFor tg (fun ρ s => evSs Γ b ρ s) (ds.drop (i + 1)) ρ2 s
        | .ct ρ2 => evFor tg (fun ρ s => evSs Γ b ρ s) (ds.drop (i + 1)) ρ2 s
        | .bk ρ2 => .ok (.nx ρ2) s
        | .rt d => .ok (.rt d) s) := q
    cases eb : bindS tg d ρ with
    | none => rw [eb] at q'; exact False.elim q'
    | some ρ2 =>
      rw [eb] at q'
      refine tg_bind I2 y4 eb fun σ2 I3 => ?_
      have J3 := I3.here
      refine ⟨_, _, W2, st, ρ2, J3, ?_⟩
      refine ((OQ.bind0 q').mono I3.ext0).imp fun ct s2 W4 H4 e4 r4 q4 => ?_
      have l4 : Le W1 W4 := l.trans (y1.le.trans e4.le)
      cases ct with
      | nx ρ4 => exact fun σ4 I4 => ⟨W4, s2, ρ4, l4, I4.back I3.ext0, q4⟩
      | ct ρ4 => exact fun σ4 I4 => ⟨W4, s2, ρ4, l4, I4.back I3.ext0, q4⟩
      | bk ρ4 => exact fun σ4 I4 => oq_nx (I4.back I3.ext0) q4
      | rt d4 => exact q4 W4 H4 (I3.ext0.trans e4) r4
  · rintro σ H ⟨W, st, ρ, l, I, q⟩
    rw [List.drop_length] at q
    exact oq_nx I q
theorem pen_at {i : Nat} {u : Unit} (h : isPen i ρ = some u) : ρ[i]? = some (.sh .pen) := by
  unfold isPen at h
  split at h
  · rename_i e; exact e
  · cases h
theorem pen_put {k : Str} {d : D} {p n : Pen} (h : penSet k d p = some n) (c : Addr) : ∃ z : Int, d = .int z ∧ penKvs n c = putK (penKvs p c) (.inr k) (.int z) ∧ n.cells = p.cells := by
  unfold penSet at h
  split at h
  · rename_i z
    have key : ∀ (k' : Str) (n' : Pen), k = k' → n' = n → penKvs n' c = putK (penKvs p c) (.inr k') (.int z) → n'.cells = p.cells → ∃ y : Int, D.int z = .int y ∧ penKvs n c = putK (penKvs p c) (.inr k) (.int y) ∧ n.cells = p.cells := fun k' n' e1 e2 e3 e4 => by
      subst e1 e2
      exact ⟨z, rfl, e3, e4⟩
    split at h
    · rename_i e; exact key "at" _ e (Option.some.inj h) (by rfl) rfl
    split at h
    · rename_i e; exact key "digits" _ e (Option.some.inj h) (by rfl) rfl
    split at h
    · rename_i e; exact key "count" _ e (Option.some.inj h) (by rfl) rfl
    split at h
    · rename_i e; exact key "fold" _ e (Option.some.inj h) (by rfl) rfl
    · cases h
  · cases h
/-- the drawing dict changes -/
theorem SI.pens (I : SI C W0 H0 W H ρ σ st) {a c : Addr} (hp : W.pen = some (a, c)) {p n : Pen} (hs : st.pen = some p) (hc : n.cells = p.cells) : SI C W0 H0 W (upd H a (.dK (penKvs n c))) ρ σ { st with pen := some n } := by
  obtain ⟨q, h1, h2, h3, h4⟩ := I.rel.pen _ hp
  rw [hs] at h1
  cases h1
  have far : ∀ {b : Addr} {o : HO}, W.G b = some o → b ≠ a := fun {b o} e z => by
    rw [z, h3] at e
    cases e
  have own : ∀ {b : Addr} {o : HO}, H b = some o → (∀ p c, o ≠ .dK (penKvs p c)) → b ≠ a := fun {b o} e m z => by
    rw [z, h2] at e
    exact m _ _ (Option.some.inj e).symm
  refine ⟨⟨fun b o e => ?_, fun x hx => ?_, fun z => ?_, I.rel.nid, I.rel.idlt, I.rel.idinj, I.rel.envE, I.rel.env⟩, ⟨I.ext.le, fun b o e m => ?_, fun b e => ?_, I.ext.newG, I.ext.scr⟩, I.sl.len, fun i x hx ha => ?_, I.sl.inj⟩
  · rw [upd_ne (far e)]; exact I.rel.sub b o e
  · rw [hp] at hx
    cases hx
    exact ⟨n, rfl, upd_same, h3, by rw [hc]; exact h4⟩
  · rw [hp] at z; cases z
  · have na : b ≠ a := m (a, c) (I.ext.le.pen.symm.trans hp)
    rw [upd_ne na]; exact I.ext.keep b o e m
  · by_cases z : b = a
    · rw [z, upd_same] at e; cases e
    · rw [upd_ne z] at e; exact I.ext.dom b e
  · obtain ⟨v, ev, sr⟩ := I.sl.at_ i x hx ha
    refine ⟨v, ev, ?_⟩
    cases x with
    | no => cases ha
    | sh d => exact sr
    | ow ds =>
      obtain ⟨b, vs, eb, g1, g⟩ := sr
      exact ⟨b, vs, eb, by rw [upd_ne (own g1 fun _ _ z => by cases z)]; exact g1, g⟩
    | ob c fs =>
      obtain ⟨b, cl, dx, vs, eb, m, g1, g⟩ := sr
      exact ⟨b, cl, dx, vs, eb, m, by rw [upd_ne (own g1 fun _ _ z => by cases z)]; exact g1, g⟩
theorem s_pns (o : SOk P w C base k N sc Wx X) (G : GxOk P w C base k Γ) {i j : Nat} {f : Str} {m : Md} {e : E} {x : Str} {px p1 p2 pos : Pos} {v : Expr} (hr : rdB N sc i x = true) (hm : mt N sc e v = true) :
    PS X (.Assign [.Subscript (.Name x px) (.Constant (.str f) j p1) p2] v pos) (tSt C Γ Wx (.pns i f m e)) := by
  obtain ⟨h1, h2, h3, h4⟩ := rd_of hr
  have u := o.x.units
  refine PS.imp (ps_dput (by omega) (s_var o.x h1 h2 h3 h4) pe_str (ev_ok G.g e N sc Wx X v o.x hm).1 swap_sub) fun D σ H ⟨W0, H0, W, st, ρ, I, q⟩ => ?_
  obtain ⟨un, eu, q0⟩ := OQ.opt (OQ.bind0 q)
  have hρ := pen_at eu
  obtain ⟨v0, hs, a, c, ev, hp⟩ := I.val hρ rfl
  subst ev
  refine x_val I (q0 W H I.ext I.rel) fun d ρ1 s1 W1 H1 y I1 p _ _ q1 => ?_
  obtain ⟨n, en, q2⟩ := OQ.opt (OQ.bind0 q1)
  obtain ⟨pp, e1, e2⟩ := Option.bind_eq_some_iff.mp en
  refine ⟨_, hs, ?_⟩
  have hp1 : W1.pen = some (a, c) := by
    have z := (I1.ext.le.pen).trans (I.ext.le.pen.symm.trans hp)
    exact z
  obtain ⟨zi, ed, ek, ec⟩ := pen_put e2 c
  have ed : d = .int zi := ed
  subst ed
  have ey : y = .int zi := p
  subst ey
  obtain ⟨q', g1, g2, _⟩ := I1.rel.pen _ hp1
  rw [e1] at g1
  cases g1
  refine ⟨a, upd H1 a (.dK (penKvs n c)), rfl, ?_, ?_⟩
  · rw [ek]
    exact DPut.k (k := .inr f) g2 (by show 5 < sizeLine; decide)
  · have J := I1.pens hp1 e1 ec
    have q3 := q2 W1 H1 I1.ext I1.rel
    exact q3 W1 _ J.ext J.rel σ J
end
end Mp
set_option Elab.async false
set_option linter.all false
set_option maxRecDepth 100000
set_option maxHeartbeats 2000000
/-! MpStm5b: things taken out of own lists; try with several clauses. -/
namespace Mp
open PySem PySem.Spec PyProof.Rows L2
section
variable {P : Program} {w : World} {C : Rc} {base : Heap} {k : Nat} {N : List Str} {sc : Scope} {Wx : XK} {X : Cx}
variable {W0 W W' : Wd} {H0 H H' : Hp} {ρ ρ' : List Sl} {σ σ' : Sg} {st st' : Ms} {Γ : Gx}
theorem app_ok (I : SI C W0 H0 W H ρ σ st) {i : Nat} {d : D} {ρ' : List Sl} {y : V} {a : Addr} (hs : σ[i]? = some (some (.ref a))) (p : Rep C W d y) (e : appS i d ρ = some ρ') :
    ∃ xs : List V, H a = some (.lst xs) ∧ xs.length < sizeLine ∧ SI C W0 H0 W (upd H a (.lst (xs ++ [y]))) ρ' σ st := by
  unfold appS at e
  split at e
  · rename_i ds hρ
    split at e
    · rename_i hz
      cases e
      obtain ⟨v1, hs1, a1, vs1, ev1, k1, k2, k3, k4⟩ := I.val hρ rfl
      rw [hs] at hs1
      cases hs1
      cases ev1
      exact ⟨vs1, k1, by rw [← k4.length]; exact hz, I.chg (x' := .ow (ds ++ [d])) hρ rfl hs rfl (I.mineL k2 k1 fun _ _ z => by cases z) k3 ⟨a, _, rfl, upd_same, k2, k3, k4.append ⟨y, [], rfl, p, rfl⟩⟩⟩
    · cases e
  · cases e
theorem s_apop (o : SOk P w C base k N sc Wx X) (G : GxOk P w C base k Γ) {i j : Nat} {m : Md} {e : E} {x y : Str} {px py ap2 cp2 apos cpos pos : Pos} {v : Expr} (hi : rdB N sc i x = true) (hj : rdB N sc j y = true) (hm : mt N sc e v = true)
    (h1 : (ap2.endLine == cp2.line) = true) (h2 : (apos.endLine == cpos.line) = true) :
    PS X (.Expr (.Call (.Attribute (.Name x px) "append" apos) [.Call (.Attribute (.Name y py) "pop" ap2) [v] [] cp2] [] cpos) pos) (tSt C Γ Wx (.apop i j m e)) := by
  obtain ⟨r1, r2, r3, r4⟩ := rd_of hi
  refine PS.imp (ps_expr (pe_bm PySem.F.plainAttrs_list PySem.F.slot_list_append PySem.F.type_list_append mt_append (s_var o.x r1 r2 r3 r4) (pa_cons (pe_pop o.x G.g hj hm h1) pa_nil rfl) rfl rfl h2 rfl rfl)) fun D σ H ⟨W0, H0, W, st, ρ, I, q⟩ => ?_
  obtain ⟨u, eu, q1⟩ := OQ.opt (OQ.bind0 q)
  obtain ⟨u2, eu2, q2⟩ := OQ.opt (OQ.bind0 (q1 W H I.ext I.rel))
  have q3 := q2 W H I.ext I.rel
  obtain ⟨ds0, hρ⟩ := ow_at eu
  obtain ⟨es0, hρj⟩ := ow_at eu2
  obtain ⟨v0, hs, a, vs, ev, g1, g2, g3, g4⟩ := I.val hρ rfl
  subst ev
  obtain ⟨w0, hsj, b, ws, ew, l1, l2, l3, l4⟩ := I.val hρj rfl
  subst ew
  refine ⟨_, hs, .inl ⟨rfl, _, .of g1⟩, _, hsj, .inl ⟨rfl, _, .of l1⟩, ?_⟩
  refine x_val I q3 fun d ρ1 s W1 H1 y1 I1 p _ _ q4 => ?_
  obtain ⟨⟨d2, ρ2⟩, e2, q5⟩ := OQ.opt (OQ.bind0 q4)
  have q6 := q5 W1 H1 I1.ext I1.rel
  obtain ⟨xs, ki, n, u3, ey, k1, k2, k3, k4, k5, k6, I2⟩ := pop_ok I1 hsj p e2
  subst ey
  obtain ⟨ρ3, e3, q7⟩ := OQ.opt (OQ.bind0 q6)
  have q8 := q7 _ _ I2.ext I2.rel
  obtain ⟨ys, m1, m2, I3⟩ := app_ok I2 hs k6 e3
  exact ⟨b, xs, ki, n, u3, rfl, rfl, k1, k2, k3, k4, k5, a, ys, u3, rfl, rfl, m1, m2, oq_nx I3 q8⟩
theorem s_spop (o : SOk P w C base k N sc Wx X) (G : GxOk P w C base k Γ) {i j : Nat} {m : Md} {e : E} {x y : Str} {px py ap2 cp2 pos : Pos} {v : Expr} (hN : N[i]? = some x) (hl : locB sc x = true) (hj : rdB N sc j y = true) (hm : mt N sc e v = true)
    (h1 : (ap2.endLine == cp2.line) = true) : PS X (.Assign [.Name x px] (.Call (.Attribute (.Name y py) "pop" ap2) [v] [] cp2) pos) (tSt C Γ Wx (.spop i j m e)) := by
  refine PS.imp (ps_set (by rw [o.x.nm]; exact o.x.nd) (by rw [o.x.nm]; exact hN) (loc_of o.x hl) (pe_pop o.x G.g hj hm h1) (swap_none rfl) (.inl (o.fn x))) fun D σ H ⟨W0, H0, W, st, ρ, I, q⟩ => ?_
  obtain ⟨u2, eu2, q1⟩ := OQ.opt (OQ.bind0 q)
  have q3 := q1 W H I.ext I.rel
  obtain ⟨es0, hρj⟩ := ow_at eu2
  obtain ⟨w0, hsj, b, ws, ew, l1, l2, l3, l4⟩ := I.val hρj rfl
  subst ew
  refine ⟨_, hsj, .inl ⟨rfl, _, .of l1⟩, ?_⟩
  refine x_val I q3 fun d ρ1 s W1 H1 y1 I1 p _ _ q4 => ?_
  obtain ⟨⟨d2, ρ2⟩, e2, q5⟩ := OQ.opt (OQ.bind0 q4)
  have q6 := q5 W1 H1 I1.ext I1.rel
  obtain ⟨xs, ki, n, u3, ey, k1, k2, k3, k4, k5, k6, I2⟩ := pop_ok I1 hsj p e2
  subst ey
  exact ⟨b, xs, ki, n, u3, rfl, rfl, k1, k2, k3, k4, k5, oq_nx (I2.set (x := .sh d2) i k6 apart_sh) q6⟩
/-! ### try -/
theorem Takes.mono {X : Cx} {A B : WX} (t : Takes X A) (h : ∀ c d (q : Sg) G, q.length = X.N.length → B c d q G → A c d q G) : Takes X B := fun u s x => by
  obtain ⟨a, Bh, sI, ps, q1, G1, cls, d, e, J, nb, up, sky, na, os, ag, z⟩ := x
  exact t u s ⟨a, Bh, sI, ps, q1, G1, cls, d, e, J, nb, up, sky, na, os, ag, h _ _ _ _ J.len z⟩
/-- an error's field, as it lies -/
theorem repF_get : ∀ {fs : List (Str × D)} {vs : List (Str × V)} {f : Str} {d : D}, RepF C W fs vs → fs.lookup f = some d → ∃ v, vs.lookup f = some v ∧ Rep C W d v
  | [], vs, f, d, r, h => by cases h
  | (n, x) :: fs, vs, f, d, ⟨u, r, ev, p, t⟩, h => by
    subst ev
    rw [List.lookup_cons] at h ⊢
    cases q : f == n with
    | true => rw [q] at h; cases h; exact ⟨u, rfl, p⟩
    | false => rw [q] at h; exact repF_get t h
/-- a clause's answer is put together -/
def tPart (a : Addr) (cls : Value) (d : Option Addr) (cl : Addr) (i : Nat) : Str ⊕ Str → TE
  | .inl t => tC (.str t)
  | .inr f => tXf a cls d cl f (tVar i)
def tParts (a : Addr) (cls : Value) (d : Option Addr) (cl : Addr) (i : Nat) : List (Str ⊕ Str) → TA
  | [] => tNil
  | p :: ps => tCons (tPart a cls d cl i p) (tParts a cls d cl i ps)
def tHand (cl : Addr) (i : Nat) (ps : List (Str ⊕ Str)) (a : Addr) (cls : Value) (d : Option Addr) : TS := tRet (tTup (tParts a cls d cl i ps))
theorem parts_ok {n : Str} {i : Nat} {cl : Addr} (hN : X.N[i]? = some n) (hv : Vis X.env.scope n) (h1 : (n == ("__debug__" : Str)) = false) (h2 : (n == ("__classdict__" : Str)) = false) (T : XfC X.K cl) {a : Addr} {oe : Obj} {cls : Value} {d : Option Addr} {pn : List (Addr × Obj)} (hz : Zc cls d oe) (hf : ∃ vs, oe.data = .fields vs) :
    ∀ {ps : List (Str ⊕ Str)} {es : List Expr}, mtParts n ps es = true → (∀ f, .inr f ∈ ps → PySem.W.findIn X.K (.ref cl) f = some none) → PA (X.suite a ((a, oe) :: pn)) es (tParts a cls d cl i ps)
  | [], [], _, _ => pa_nil
  | [], _ :: _, h, _ => by cases h
  | _ :: _, [], h, _ => by cases h
  | p :: ps, e :: es, h, hq => by
    have h' : (mtPart n p e && mtParts n ps es) = true := h
    rw [Bool.and_eq_true] at h'
    have r := parts_ok hN hv h1 h2 T (a := a) (pn := pn) hz hf h'.2 fun f hm => hq f (List.mem_cons_of_mem _ hm)
    cases p with
    | inl t =>
      cases e <;> first | (cases h'.1; done) | skip
      rename_i c j pp
      cases c <;> first | (cases h'.1; done) | skip
      rename_i t'
      have et : t = t' := of_decide_eq_true h'.1
      subst et
      exact pa_cons pe_str r
    | inr f =>
      cases e <;> first | (cases h'.1; done) | skip
      rename_i b f' pp
      cases b <;> first | (cases h'.1; done) | skip
      rename_i n' p2
      have e2 : (decide (n' = n) && decide (f = f')) = true := h'.1
      simp only [Bool.and_eq_true, decide_eq_true_eq] at e2
      obtain ⟨e3, e4⟩ := e2
      subst e3 e4
      exact pa_cons (pe_xf T (hq f List.mem_cons_self) hz hf (pe_var (X := X.suite a ((a, oe) :: pn)) (i := i) hN hv h1 h2)) r
theorem parts_run {cl : Addr} {i : Nat} {a : Addr} {dd : Addr} {x : Exc} {vs : List (Str × V)} (hd : H dd = some (.xd vs)) (rf : RepF C W x.fs vs) (hs : σ[i]? = some (some (.ref a))) :
    ∀ {ps : List (Str ⊕ Str)} {ds : List D}, partsD Γ x ps = some ds → ∀ {Q : List V → Hp → Prop}, (∀ us, Reps C W ds us → Q us H) → tParts a (.ref cl) (some dd) cl i ps σ H Q
  | [], ds, h, Q, q => by
    cases h
    exact q [] rfl
  | p :: ps, ds, h, Q, q => by
    cases e1 : partD Γ x p with
    | none => simp [partsD, e1] at h
    | some d =>
      cases e2 : partsD Γ x ps with
      | none => simp [partsD, e1, e2] at h
      | some es =>
        simp [partsD, e1, e2] at h
        subst h
        have rest : ∀ v, Rep C W d v → tParts a (.ref cl) (some dd) cl i ps σ H fun us H2 => Q (v :: us) H2 := fun v pv => parts_run hd rf hs e2 fun us ru => q _ ⟨v, us, rfl, pv, ru⟩
        cases p with
        | inl t =>
          have ed : D.str t = d := Option.some.inj e1
          subst ed
          exact rest (.str t) rfl
        | inr f =>
          have e3 : (if Γ.xfd x.cls f = true then x.fs.lookup f else none) = some d := e1
          split at e3
          · obtain ⟨v, hv, pv⟩ := repF_get rf e3
            exact ⟨_, hs, rfl, rfl, dd, vs, v, rfl, hd, hv, rest v pv⟩
          · cases e3
theorem parts_xfd {x : Exc} : ∀ {ps : List (Str ⊕ Str)} {ds : List D}, partsD Γ x ps = some ds → ∀ f, .inr f ∈ ps → Γ.xfd x.cls f = true
  | [], _, _, f, hm => by cases hm
  | p :: ps, ds, h, f, hm => by
    cases e1 : partD Γ x p with
    | none => simp [partsD, e1] at h
    | some d =>
      cases e2 : partsD Γ x ps with
      | none => simp [partsD, e1, e2] at h
      | some es =>
        rcases List.mem_cons.mp hm with z | z
        · subst z
          have e3 : (if Γ.xfd x.cls f = true then x.fs.lookup f else none) = some d := e1
          split at e3
          · assumption
          · cases e3
        · exact parts_xfd e2 f z
/-- the clauses, as they stand for the text -/
theorem hands_ok (o : SOk P w C base k N sc Wx X) (G : GxOk P w C base k Γ) : ∀ {hs : List Hx} {es : List ExceptHandler}, mtHxs N sc hs es = true → hs.all (hxOk Γ) = true →
    ∃ l : List HdT, HdsA X es l ∧ ∀ (x : Exc) (d : D) (s : Ms) (D : Ends), handD Γ x hs = some d → ∀ (cls : Value) (dx : Option Addr) (W1 : Wd) (H1 : Hp) (q : Sg), Rel C W1 s H1 → RepX C W1 x cls dx H1 → q.length = N.length →
      (∀ W2 H2, Ext W1 H1 W2 H2 → Rel C W2 s H2 → ∀ v, Rep C W2 d v → D.rt v H2) → wHands X.K (fun _ _ _ _ => False) D l cls dx q H1
  | [], [], _, _ => ⟨[], .nil, fun x d s D h => by cases h⟩
  | [], _ :: _, h, _ => by cases h
  | _ :: _, [], h, _ => by cases h
  | hx :: hs, e :: es, h, hall => by
    have h' : (mtHx N sc hx e && mtHxs N sc hs es) = true := h
    rw [Bool.and_eq_true] at h'
    rw [List.all_cons, Bool.and_eq_true] at hall
    obtain ⟨l, hl, hr⟩ := hands_ok o G h'.2 hall.2
    obtain ⟨h1, _⟩ := h'
    unfold mtHx at h1
    split at h1
    · rename_i c n xs hp
      simp only [Bool.and_eq_true, decide_eq_true_eq] at h1
      obtain ⟨⟨⟨⟨e1, e2⟩, e3⟩, e4⟩, e5⟩ := h1
      subst e1
      have hall1 := hall.1
      unfold hxOk at hall1
      rw [Bool.and_eq_true] at hall1
      obtain ⟨cl, m1, T⟩ := G.exc0 _ hall1.1
      obtain ⟨r1, r2, r3, r4⟩ := rd_of e3
      have hN : X.N[hx.v]? = some n := by rw [o.x.nm]; exact r1
      have T' : XfC X.K cl := by rw [o.x.K]; exact T
      have hfl : ∀ f, .inr f ∈ hx.parts → PySem.W.findIn X.K (.ref cl) f = some none := fun f hm => by
        have z := List.all_eq_true.mp hall1.2 _ hm
        obtain ⟨cl2, m2, m3⟩ := G.xfd _ f z
        rw [m1] at m2
        cases m2
        rw [o.x.K]; exact m3
      unfold glB at e2
      simp only [Bool.and_eq_true, decide_eq_true_eq, Bool.not_eq_true'] at e2
      have hnm : Names X hx.cls (.ref cl) := ⟨by show X.env.scope.names.lookup _ = _; rw [o.x.sc]; exact e2.1.1, e2.1.2, .inl (by rw [o.x.mg]; exact m1)⟩
      have hk : X.env.kindOf n = some .local := by show X.env.scope.names.lookup n = _; rw [o.x.sc]; exact e4
      have inv : ∃ np p1 p2 p3 kk, e = .ExceptHandler (some (.Name hx.cls np)) (some n) [.Return (some (.Tuple xs kk p1)) p2] p3 := by
        unfold hxP at hp
        split at hp <;> cases hp
        exact ⟨_, _, _, _, _, rfl⟩
      obtain ⟨np, p1, p2, p3, kk, ee⟩ := inv
      subst ee
      refine ⟨(.ref cl, hx.v, tHand cl hx.v hx.parts) :: l, .cons hN hk hnm (fun a oe cls d pn hz hf => pss_one (ps_ret (pe_tup (parts_ok hN (vis_of o.x r2) r3 r4 T' hz hf e5 hfl)))) hl, ?_⟩
      intro x d s D hd cls dx W1 H1 q rel rx hq qq
      unfold handD at hd
      split at hd
      · rename_i hm
        obtain ⟨c1, c2, n1, n2, n3⟩ := G.exm _ _ _ hm
        split at hd
        · rename_i hc
          obtain ⟨ds, hds, hd2⟩ := Option.bind_eq_some_iff.mp hd
          split at hd2
          · rename_i hz
            cases hd2
            obtain ⟨cl3, dd, vs, k1, k2, k3, k4, k5⟩ := rx
            rw [hc, m1] at k2
            cases k2
            rw [m1] at n2
            cases n2
            rw [hc, m1] at n1
            cases n1
            subst k1 k3
            refine ⟨true, by rw [o.x.K]; exact n3, fun _ a ha => ?_, fun z => by cases z⟩
            have hs : (q.set hx.v (some (V.ref a)))[hx.v]? = some (some (V.ref a)) := List.getElem?_set_self (by
              rw [hq]
              by_cases z : hx.v < N.length
              · exact z
              · rw [List.getElem?_eq_none (by omega)] at r1; cases r1)
            refine parts_run (Γ := Γ) k4 k5 hs hds fun us ru => ⟨by rw [← ru.length]; exact hz, fun p hp => ?_⟩
            exact qq _ _ (ext_put rel hp) (rel_put rel hp) _ ⟨p, us, rfl, .inl (.inl Wd.put_at), Reps.le (le_put (G_free rel hp)) _ _ ru⟩
          · cases hd2
        · cases hd
      · rename_i hm
        obtain ⟨c1, c2, n1, n2, n3⟩ := G.exm _ _ _ hm
        obtain ⟨cl3, dd, vs, k1, k2, k3, k4, k5⟩ := id rx
        rw [n1] at k2
        cases k2
        rw [m1] at n2
        cases n2
        subst k1
        exact ⟨false, by rw [o.x.K]; exact n3, (fun z => by cases z), fun _ => hr x d s D hd _ dx W1 H1 q rel rx hq qq⟩
      · cases hd
    · cases h1
theorem SOk.tr (o : SOk P w C base k N sc Wx X) {pn : List (Addr × Obj)} {xe : Value → Shared → Prop} {Wy : XK} (tk : Takes (X.tr pn xe) fun cls d _ H => Wy cls d H) (po : PassesOwn (model X.prog X.w) X.A X.env xe) : SOk P w C base k N sc Wy (X.tr pn xe) :=
  ⟨⟨o.x.prog, o.x.wd, o.x.K, o.x.mg, o.x.base, o.x.calm, o.x.nm, o.x.nd, o.x.sc, o.x.rm, tk⟩, o.kd, po, o.fn, o.stk, o.frm⟩
theorem s_tryx (o : SOk P w C base k N sc Wx X) (G : GxOk P w C base k Γ) {b : Ss} {hs : List Hx} {body : List Stmt} {h0 : ExceptHandler} {hds : List ExceptHandler} {pos : Pos}
    (hb : ∀ (Wy : XK) (Y : Cx), SOk P w C base k N sc Wy Y → PSs Y body (tSs C Γ Wy b)) (hm : mtHxs N sc hs (h0 :: hds) = true) : PS X (.Try body (h0 :: hds) [] [] pos) (tSt C Γ Wx (.tryx b hs)) := by
  have ev0 : ∀ ρ s, evS Γ (.tryx b hs) ρ s = if hs.all (hxOk Γ) = true then (match evSs Γ b ρ s with
    | .ok c s => .ok c s
    | .ex x s => (Out.opt (handD Γ x hs) s).bind fun d s => .ok (.rt d) s
    | .bad => .bad) else .bad := fun _ _ => rfl
  by_cases hall : hs.all (hxOk Γ) = true
  · obtain ⟨l, hl, hr⟩ := hands_ok o G hm hall
    refine PS.imp (ps_hands (tb := fun W => tSs C Γ (fun cls d H => ∀ q : Sg, q.length = N.length → W cls d q H) b) o.stk o.frm (by rw [o.x.nm]; exact o.x.nd) (takes_none5 (X := X)) (fun W pn xe tk po => ?_) hl) fun D σ H ⟨W0, H0, W, st, ρ, I, q⟩ => ?_
    · exact hb _ _ (SOk.tr o (Takes.mono tk fun c d q G hq z => z q (hq.trans (congrArg List.length o.x.nm))) po)
    · rw [ev0, if_pos hall] at q
      refine ⟨W0, H0, W, st, ρ, I, ?_⟩
      cases e : evSs Γ b ρ st with
      | ok c s => rw [e] at q; exact q
      | bad => rw [e] at q; exact q
      | ex x s =>
        rw [e] at q
        obtain ⟨d, hd, q1⟩ := OQ.opt (OQ.bind0 q)
        intro cls dx W1 H1 x1 r1 rx qs hqs
        exact hr x d s D hd cls dx W1 H1 qs r1 rx hqs fun W2 H2 x2 r2 v pv => q1 W2 H2 (x1.trans x2) r2 W2 H2 (x1.trans x2) r2 v pv
  · exact ⟨fun pins s σ H D I ⟨W0, H0, W, st, ρ, J, q⟩ => by rw [ev0, if_neg hall] at q; exact False.elim q⟩
end
end Mp
set_option Elab.async false
set_option linter.all false
set_option maxRecDepth 100000
set_option maxHeartbeats 4000000
/-! MpStm6: every statement keeps its reading; defs. -/
namespace Mp
open PySem PySem.Spec PyProof.Rows L2
section
variable {P : Program} {w : World} {C : Rc} {base : Heap} {k : Nat} {Γ : Gx}
theorem ss_nil {N : List Str} {sc : Scope} {Wx : XK} {X : Cx} : PSs X [] (tSs C Γ Wx .nil) :=
  ⟨fun pins s σ H D I ⟨W0, H0, W, st, ρ, J, q⟩ => pss_nil.run pins s σ H D I (oq_nx J q)⟩
theorem ss_cons {N : List Str} {sc : Scope} {Wx : XK} {X : Cx} {t : Stmt} {ts : List Stmt} {m : S} {r : Ss} (h1 : PS X t (tSt C Γ Wx m)) (h2 : PSs X ts (tSs C Γ Wx r)) : PSs X (t :: ts) (tSs C Γ Wx (.cons m r)) := by
  refine PSs.imp (pss_cons h1 h2) fun D σ H ⟨W0, H0, W, st, ρ, J, q⟩ => ?_
  refine ⟨W0, H0, W, st, ρ, J, (OQ.bind0 q).imp fun c s W1 H1 e1 r1 q1 => ?_⟩
  cases c with
  | nx ρ' => exact fun σ' J' => ⟨W0, H0, W1, s, ρ', J', q1⟩
  | rt d => exact q1 W1 H1 e1 r1
  | bk ρ' => exact q1 W1 H1 e1 r1
  | ct ρ' => exact q1 W1 H1 e1 r1
theorem ow_or {m : Md} {e : E} (h : (!m.ow || newB e) = true) (z : m.ow = true) : newB e = true := by
  rw [z] at h
  simpa using h
variable {N : List Str} {sc : Scope} {Wx : XK} {X : Cx} {s : Stmt}
theorem k_asg (G : GxOk P w C base k Γ) (o : SOk P w C base k N sc Wx X) {i : Nat} {m : Md} {e : E} (h : mAsg N sc i m e s = true) : PS X s (tSt C Γ Wx (.asg i m e)) := by
  unfold mAsg at h
  split at h
  · rename_i x px v pos hs
    simp only [Bool.and_eq_true, decide_eq_true_eq] at h
    obtain ⟨⟨⟨h1, h2⟩, h3⟩, h4⟩ := h
    rw [asgP_inv hs]
    exact s_asg o G h1 h2 h3 (ow_or h4)
  · cases h
theorem k_unp (G : GxOk P w C base k Γ) (o : SOk P w C base k N sc Wx X) {is : List Nat} {m : Md} {e : E} (h : mUnp N sc is e s = true) : PS X s (tSt C Γ Wx (.unp is m e)) := by
  unfold mUnp at h
  split at h
  · rename_i tg v pos hs
    rw [Bool.and_eq_true, Bool.and_eq_true] at h
    obtain ⟨⟨h1, h2⟩, h3⟩ := h
    rw [asg1P_inv hs]
    exact s_unp o G h1 h2 h3
  · cases h
theorem k_par (G : GxOk P w C base k Γ) (o : SOk P w C base k N sc Wx X) {i j : Nat} {m n : Md} {a b : E} (h : mPar N sc i j m n a b s = true) : PS X s (tSt C Γ Wx (.par i j m n a b)) := by
  unfold mPar at h
  split at h
  · rename_i tg tv pos hs
    split at h
    · rename_i e1 e2 kt pt u v k2 pt2 ht hv
      split at h
      · rename_i x px y py hx hy
        simp only [Bool.and_eq_true, decide_eq_true_eq] at h
        obtain ⟨⟨⟨⟨⟨⟨⟨h1, h2⟩, h3⟩, h4⟩, h5⟩, h6⟩, h7⟩, h8⟩ := h
        rw [asg1P_inv hs, tup2P_inv ht, tup2P_inv hv, nameP_inv hx, nameP_inv hy]
        exact s_par o G h1 h2 h3 h4 h5 (ow_or h6) (ow_or h7) h8
      · cases h
    · cases h
  · cases h
theorem k_app (G : GxOk P w C base k Γ) (o : SOk P w C base k N sc Wx X) {i : Nat} {m : Md} {e : E} (h : mApp N sc i e s = true) : PS X s (tSt C Γ Wx (.app i m e)) := by
  unfold mApp at h
  split at h
  · rename_i c pos hs
    split at h
    · rename_i f ys cpos hc
      split at h
      · rename_i o' f' apos v hf hy
        split at h
        · rename_i x px hx
          simp only [Bool.and_eq_true, decide_eq_true_eq] at h
          obtain ⟨⟨⟨h1, h2⟩, h3⟩, h4⟩ := h
          obtain ⟨r1, r2, r3, r4⟩ := rd_of h2
          rw [exprP_inv hs, callP_inv hc, attrP_inv hf, oneP_inv hy, nameP_inv hx, h1]
          exact s_app o G r1 r2 r3 r4 h3 h4
        · cases h
      · cases h
    · cases h
  · cases h
theorem k_sti (G : GxOk P w C base k Γ) (o : SOk P w C base k N sc Wx X) {i : Nat} {m n : Md} {a e : E} (h : mSti N sc i a e s = true) : PS X s (tSt C Γ Wx (.sti i m n a e)) := by
  unfold mSti at h
  split at h
  · rename_i tg v pos hs
    split at h
    · rename_i o' u p2 ht
      split at h
      · rename_i x px hx
        simp only [Bool.and_eq_true] at h
        obtain ⟨⟨h1, h2⟩, h3⟩ := h
        obtain ⟨r1, r2, r3, r4⟩ := rd_of h1
        rw [asg1P_inv hs, subP_inv ht, nameP_inv hx]
        exact s_sti o G r1 r2 r3 r4 h2 h3
      · cases h
    · cases h
  · cases h
theorem k_aug (G : GxOk P w C base k Γ) (o : SOk P w C base k N sc Wx X) {i : Nat} {op : Operator} {m : Md} {e : E} (h : mAug N sc i op e s = true) : PS X s (tSt C Γ Wx (.aug i op m e)) := by
  unfold mAug at h
  split at h
  · rename_i t op' v pos hs
    split at h
    · rename_i x px hx
      simp only [Bool.and_eq_true, decide_eq_true_eq] at h
      obtain ⟨⟨⟨h1, h2⟩, h3⟩, h4⟩ := h
      rw [augP_inv hs, nameP_inv hx, ← h4]
      exact s_aug o G h1 h2 h3
    · cases h
  · cases h
theorem k_sto (G : GxOk P w C base k Γ) (o : SOk P w C base k N sc Wx X) {f : Str} {m : Md} {e : E} (h : mSto N sc f e s = true) : PS X s (tSt C Γ Wx (.sto f m e)) := by
  unfold mSto at h
  split at h
  · rename_i tg v pos hs
    split at h
    · rename_i o' f' p2 ht
      split at h
      · rename_i x px hx
        simp only [Bool.and_eq_true, decide_eq_true_eq] at h
        obtain ⟨⟨h1, h2⟩, h3⟩ := h
        obtain ⟨r1, r2, r3, r4⟩ := rd_of h1
        rw [asg1P_inv hs, attrP_inv ht, nameP_inv hx, ← h3]
        exact s_sto o G r1 r2 r3 r4 h2
      · cases h
    · cases h
  · cases h
theorem strP_inv {e : Expr} {k : Str} (h : strP e = some k) : ∃ j p, e = .Constant (.str k) j p := by
  cases e <;> first | (cases h; done) | skip
  rename_i c j p
  cases c <;> first | (cases h; done) | skip
  cases h
  exact ⟨j, p, rfl⟩
theorem k_pns (G : GxOk P w C base k Γ) (o : SOk P w C base k N sc Wx X) {i : Nat} {f : Str} {m : Md} {e : E} (h : mPns N sc i f e s = true) : PS X s (tSt C Γ Wx (.pns i f m e)) := by
  unfold mPns at h
  split at h
  · rename_i tg v pos hs
    split at h
    · rename_i o' u p2 ht
      split at h
      · rename_i x px k' hx hk
        simp only [Bool.and_eq_true, decide_eq_true_eq] at h
        obtain ⟨⟨h1, h2⟩, h3⟩ := h
        subst h1
        obtain ⟨j, p1, hu⟩ := strP_inv hk
        rw [asg1P_inv hs, subP_inv ht, nameP_inv hx, hu]
        exact s_pns o G h2 h3
      · cases h
    · cases h
  · cases h
theorem k_rse (G : GxOk P w C base k Γ) (o : SOk P w C base k N sc Wx X) {c : Str} {es : Es} (h : mRse N sc c es s = true) : PS X s (tSt C Γ Wx (.rse c es)) := by
  unfold mRse at h
  split at h
  · rename_i e pos hs
    split at h
    · rename_i f ys cpos hc
      split at h
      · rename_i x px hx
        simp only [Bool.and_eq_true, decide_eq_true_eq] at h
        obtain ⟨⟨h1, h2⟩, h3⟩ := h
        subst h1
        rw [rseP_inv hs, callP_inv hc, nameP_inv hx]
        exact s_rse o G h2 h3
      · cases h
    · cases h
  · cases h
theorem k_ret (G : GxOk P w C base k Γ) (o : SOk P w C base k N sc Wx X) {e : E} (h : mRet N sc e s = true) : PS X s (tSt C Γ Wx (.ret e)) := by
  unfold mRet at h
  split at h
  · rename_i v pos hs
    rw [retP_inv hs]
    exact s_ret o G h
  · cases h
theorem k_rtn (h : mRtn s = true) : PS X s (tSt C Γ Wx .rtn) := by
  unfold mRtn at h
  split at h
  · rename_i pos hs
    rw [retP_inv hs]
    exact PS.imp ps_retN fun D σ H ⟨W0, H0, W, st, ρ, I, q⟩ => q W H I.ext I.rel _ rfl
  · cases h
theorem k_exp (G : GxOk P w C base k Γ) (o : SOk P w C base k N sc Wx X) {e : E} (h : mExp N sc e s = true) : PS X s (tSt C Γ Wx (.exp e)) := by
  unfold mExp at h
  split at h
  · rename_i v pos hs
    simp only [Bool.and_eq_true, Bool.not_eq_true'] at h
    rw [exprP_inv hs]
    exact s_exp o G h.1 h.2
  · cases h
theorem k_doc (h : mDoc s = true) : PS X s (tSt C Γ Wx .doc) := by
  unfold mDoc at h
  split at h
  · rename_i v pos hs
    rw [exprP_inv hs]
    cases v <;> first | (cases h; done) | skip
    rename_i c j p
    cases c <;> first | (cases h; done) | skip
    exact PS.imp ps_doc fun D σ H ⟨W0, H0, W, st, ρ, I, q⟩ => oq_nx I q
  · cases h
theorem k_brk (h : isBrk s = true) : PS X s (tSt C Γ Wx .brk) := by
  cases s <;> first | (cases h; done) | skip
  exact PS.imp ps_break fun D σ H ⟨W0, H0, W, st, ρ, I, q⟩ => q W H I.ext I.rel σ I
theorem k_cnt (h : isCnt s = true) : PS X s (tSt C Γ Wx .cnt) := by
  cases s <;> first | (cases h; done) | skip
  exact PS.imp ps_continue fun D σ H ⟨W0, H0, W, st, ρ, I, q⟩ => q W H I.ext I.rel σ I
theorem k_pas (h : isPas s = true) : PS X s (tSt C Γ Wx .pas) := by
  cases s <;> first | (cases h; done) | skip
  exact PS.imp ps_pass fun D σ H ⟨W0, H0, W, st, ρ, I, q⟩ => oq_nx I q
theorem mPop_inv {j : Nat} {e : E} {c : Expr} (h : mPop N sc j e c = true) : ∃ y py ap v cp, c = .Call (.Attribute (.Name y py) "pop" ap) [v] [] cp ∧ rdB N sc j y = true ∧ mt N sc e v = true ∧ (ap.endLine == cp.line) = true := by
  unfold mPop at h
  split at h
  · rename_i o' f ap v cp hc
    split at h
    · rename_i y py hy
      simp only [Bool.and_eq_true, decide_eq_true_eq] at h
      obtain ⟨⟨⟨h1, h2⟩, h3⟩, h4⟩ := h
      subst h1
      exact ⟨y, py, ap, v, cp, by rw [methP_inv hc, nameP_inv hy], h2, h3, h4⟩
    · cases h
  · cases h
theorem k_apop (G : GxOk P w C base k Γ) (o : SOk P w C base k N sc Wx X) {i j : Nat} {m : Md} {e : E} (h : mApop N sc i j e s = true) : PS X s (tSt C Γ Wx (.apop i j m e)) := by
  unfold mApop at h
  split at h
  · rename_i c pos hs
    split at h
    · rename_i o' f ap v cp hc
      split at h
      · rename_i x px hx
        simp only [Bool.and_eq_true, decide_eq_true_eq] at h
        obtain ⟨⟨⟨h1, h2⟩, h3⟩, h4⟩ := h
        subst h1
        obtain ⟨y, py, ap2, v2, cp2, ev, p1, p2, p3⟩ := mPop_inv h3
        rw [exprP_inv hs, methP_inv hc, nameP_inv hx, ev]
        exact s_apop o G h2 p1 p2 p3 h4
      · cases h
    · cases h
  · cases h
theorem k_spop (G : GxOk P w C base k Γ) (o : SOk P w C base k N sc Wx X) {i j : Nat} {m : Md} {e : E} (h : mSpop N sc i j e s = true) : PS X s (tSt C Γ Wx (.spop i j m e)) := by
  unfold mSpop at h
  split at h
  · rename_i x px v pos hs
    simp only [Bool.and_eq_true, decide_eq_true_eq] at h
    obtain ⟨⟨h1, h2⟩, h3⟩ := h
    obtain ⟨y, py, ap2, v2, cp2, ev, p1, p2, p3⟩ := mPop_inv h3
    rw [asgP_inv hs, ev]
    exact s_spop o G h1 h2 p1 p2 p3
  · cases h
theorem try_inv {b : Ss} {hs : List Hx} (h : mtS N sc (.tryx b hs) s = true) : ∃ x e es pos, s = .Try x (e :: es) [] [] pos ∧ mtSs N sc b x = true ∧ mtHxs N sc hs (e :: es) = true := by
  have h' : (match tryP s with
    | some (x, e, r, _) => mtSs N sc b x && mtHxs N sc hs (e :: r)
    | none => false) = true := h
  split at h'
  · rename_i x e r pos hs
    simp only [Bool.and_eq_true] at h'
    exact ⟨x, e, r, pos, tryP_inv hs, h'.1, h'.2⟩
  · cases h'
theorem if_inv {c : E} {a b : Ss} (h : mtS N sc (.ife c a b) s = true) : ∃ t x y pos, s = .If t x y pos ∧ mt N sc c t = true ∧ mtSs N sc a x = true ∧ mtSs N sc b y = true := by
  have h' : (match ifP s with
    | some (t, x, y, _) => mt N sc c t && mtSs N sc a x && mtSs N sc b y
    | none => false) = true := h
  split at h'
  · rename_i t x y pos hs
    simp only [Bool.and_eq_true] at h'
    exact ⟨t, x, y, pos, ifP_inv hs, h'.1.1, h'.1.2, h'.2⟩
  · cases h'
theorem for_inv {tg : Tg} {it : It} {b : Ss} (h : mtS N sc (.for_ tg it b) s = true) : ∃ t i x pos, s = .For t i x [] pos ∧ mtTg N sc tg t = true ∧ mti N sc it t i = true ∧ mtSs N sc b x = true := by
  have h' : (match forP s with
    | some (t, i, x, _) => mtTg N sc tg t && mti N sc it t i && mtSs N sc b x
    | none => false) = true := h
  split at h'
  · rename_i t i x pos hs
    simp only [Bool.and_eq_true] at h'
    exact ⟨t, i, x, pos, forP_inv hs, h'.1.1, h'.1.2, h'.2⟩
  · cases h'
theorem whl_inv {n : Nat} {c : E} {b : Ss} (h : mtS N sc (.whl n c b) s = true) : ∃ t x pos, s = .While t x [] pos ∧ mt N sc c t = true ∧ mtSs N sc b x = true := by
  have h' : (match whlP s with
    | some (t, x, _) => mt N sc c t && mtSs N sc b x
    | none => false) = true := h
  split at h'
  · rename_i t x pos hs
    simp only [Bool.and_eq_true] at h'
    exact ⟨t, x, pos, whlP_inv hs, h'.1, h'.2⟩
  · cases h'
theorem cons_inv {m : S} {r : Ss} {ss : List Stmt} (h : mtSs N sc (.cons m r) ss = true) : ∃ s t, ss = s :: t ∧ mtS N sc m s = true ∧ mtSs N sc r t = true := by
  cases ss with
  | nil => cases h
  | cons s t =>
    have h' : (mtS N sc m s && mtSs N sc r t) = true := h
    rw [Bool.and_eq_true] at h'
    exact ⟨s, t, rfl, h'.1, h'.2⟩
theorem nil_inv {ss : List Stmt} (h : mtSs N sc .nil ss = true) : ss = [] := by
  have h' : ss.isEmpty = true := h
  simpa using h'
mutual
theorem st_ok (G : GxOk P w C base k Γ) : ∀ (m : S) (N : List Str) (sc : Scope) (Wx : XK) (X : Cx) (s : Stmt), SOk P w C base k N sc Wx X → mtS N sc m s = true → PS X s (tSt C Γ Wx m)
  | .asg i m e, N, sc, Wx, X, s, o, h => k_asg G o h
  | .unp is m e, N, sc, Wx, X, s, o, h => k_unp G o h
  | .par i j m n a b, N, sc, Wx, X, s, o, h => k_par G o h
  | .app i m e, N, sc, Wx, X, s, o, h => k_app G o h
  | .sti i m n a e, N, sc, Wx, X, s, o, h => k_sti G o h
  | .aug i op m e, N, sc, Wx, X, s, o, h => k_aug G o h
  | .sto f m e, N, sc, Wx, X, s, o, h => k_sto G o h
  | .pns i k m e, N, sc, Wx, X, s, o, h => k_pns G o h
  | .ret e, N, sc, Wx, X, s, o, h => k_ret G o h
  | .rtn, N, sc, Wx, X, s, o, h => k_rtn h
  | .ife c a b, N, sc, Wx, X, s, o, h => by
    obtain ⟨t, x, y, pos, hs, h1, h2, h3⟩ := if_inv h
    rw [hs]
    exact s_if o G h1 (sts_ok G a N sc Wx X x o h2) (sts_ok G b N sc Wx X y o h3)
  | .for_ tg it b, N, sc, Wx, X, s, o, h => by
    obtain ⟨t, i, x, pos, hs, h1, h2, h3⟩ := for_inv h
    rw [hs]
    exact s_for o G h1 h2 (sts_ok G b N sc Wx X x o h3)
  | .whl n c b, N, sc, Wx, X, s, o, h => by
    obtain ⟨t, x, pos, hs, h1, h2⟩ := whl_inv h
    rw [hs]
    exact s_while o G h1 (sts_ok G b N sc Wx X x o h2)
  | .brk, N, sc, Wx, X, s, o, h => k_brk h
  | .cnt, N, sc, Wx, X, s, o, h => k_cnt h
  | .pas, N, sc, Wx, X, s, o, h => k_pas h
  | .doc, N, sc, Wx, X, s, o, h => k_doc h
  | .rse c es, N, sc, Wx, X, s, o, h => k_rse G o h
  | .exp e, N, sc, Wx, X, s, o, h => k_exp G o h
  | .apop i j m e, N, sc, Wx, X, s, o, h => k_apop G o h
  | .spop i j m e, N, sc, Wx, X, s, o, h => k_spop G o h
  | .tryx b hs, N, sc, Wx, X, s, o, h => by
    obtain ⟨x, e, es, pos, hs, h1, h2⟩ := try_inv h
    rw [hs]
    exact s_tryx o G (fun Wy Y oy => sts_ok G b N sc Wy Y x oy h1) h2
theorem sts_ok (G : GxOk P w C base k Γ) : ∀ (m : Ss) (N : List Str) (sc : Scope) (Wx : XK) (X : Cx) (s : List Stmt), SOk P w C base k N sc Wx X → mtSs N sc m s = true → PSs X s (tSs C Γ Wx m)
  | .nil, N, sc, Wx, X, s, o, h => by
    rw [nil_inv h]; exact ss_nil (N := N) (sc := sc)
  | .cons m r, N, sc, Wx, X, s, o, h => by
    obtain ⟨s1, t, hs, h1, h2⟩ := cons_inv h
    rw [hs]
    exact ss_cons (N := N) (sc := sc) (st_ok G m N sc Wx X s1 o h1) (sts_ok G r N sc Wx X t o h2)
end
end
end Mp
set_option Elab.async false
set_option linter.all false
set_option maxRecDepth 100000
set_option maxHeartbeats 2000000
/-! MpDef: defs by their bodies, classes by their __init__. -/
namespace Mp
open PySem PySem.Spec PyProof.Rows L2
section
variable {P : Program} {w : World} {C : Rc} {base : Heap} {k : Nat} {Γ : Gx} {x qual : Str} {params : Arguments} {body : List Stmt} {scope : Scope} {dvs : List V} {kws : List (Str × V)} {f : Addr} {fd : FuncData} {N ps : List Str}
theorem fnG_genC {sp : Sp} (F : FunD C.K x qual params body scope dvs kws f fd) (S : FnScope N ps scope) (len : ∀ vs H Q E, sp vs H Q E → vs.length = ps.length)
    (hbody : ∀ (cdv : Value) (A : Around) (outer : List Env) (s : Shared) (H : Hp) (vs : List V) (Q : VK) (E : XK), fd.code = cdv → RoomG k (A.deeper (envOfC qual scope s.heap.objs.size f cdv)) → sp vs H Q E →
      ∃ t, PSs (cxOf (CX P w) P w C.K C.mg base N qual scope f cdv A outer s H E) body t ∧ t { nx := fun _ H' => Q .non H', rt := Q } (L2.start N vs) H) : FnG P w C base (k + 1) f fd ps sp := by
  obtain ⟨oc, od, dV, kV, doc, pm, an, cdv, ct, osl, rfl, lk, hcd, _, _⟩ := F.ex
  refine ⟨len, fun A outer s H args us vs Q E hr e0 hb r hsp => ?_⟩
  have hl := len _ _ _ _ hsp
  have KX : C.K.In s.heap := e0.mod.kin.keeps fun b o e => (e0.bs b o e).1
  have lim : s.heap.NoLimit := e0.mod.nolimit.keeps fun b o e => (e0.bs b o e).1
  have hkind : ∀ y ∈ ps.zip us, scope.names.lookup y.1 = some .local ∨ (scope.names.lookup y.1 = some .cell ∧ ((cellsFrom (s.heap.objs.size + 1) scope.names []).lookup y.1).isSome = true) := fun ⟨n, v⟩ hy => by
    rcases S.par n (List.of_mem_zip hy).1 with q | q
    · exact .inl q
    · exact .inr ⟨q, PySem.W.cellsFrom_some _ _ _ (.inl q)⟩
  refine codeAny_call_function hr.room.depth (KX _ _ lk) rfl S.co S.gen rfl (PySem.W.codeRec_of KX hcd) (hb _ _ _ _ ?_)
  refine wpAny_newFunctionEnv_cells S.kind hkind fun env he s1 x => ?_
  subst he
  refine ⟨lim.keeps x.toInCall.keep, codeAny_func ?_⟩
  obtain ⟨t, ht, hq⟩ := hbody cdv A outer s H vs Q E rfl (hr.deeper _) hsp
  have I : Inv (cxOf (CX P w) P w C.K C.mg base N qual scope f cdv A outer s H E) [] (L2.start N vs) H s1 := inv_start S hr.room.hd e0 hl r x
  refine wpAny_mono (ht.run [] s1 (L2.start N vs) H _ I hq) (fun fl s' hs => ?_) fun e s' hs => hs
  have fin : ∀ {σ' : Sg} {H' : Hp} {v : V} {u : Value}, Inv (cxOf (CX P w) P w C.K C.mg base N qual scope f cdv A outer s H E) [] σ' H' s' → RelV v u → Q v H' → CE outer P w H s Q u s' :=
    fun {σ' H' v u} J rv q => ⟨v, H', J.os, J.bare, J.base, J.hok, rv, q⟩
  cases fl with
  | ret u =>
    obtain ⟨v, σ', H', J, rv, q⟩ := hs
    exact fin J rv q
  | next =>
    obtain ⟨σ', H', J, q⟩ := hs
    exact fin (v := V.non) (u := Value.none) J rfl q
  | brk =>
    obtain ⟨_, _, _, q⟩ := hs
    exact False.elim q
  | cont =>
    obtain ⟨_, _, _, q⟩ := hs
    exact False.elim q
theorem fnG_gen {sp : Sp} (F : FunD C.K x qual params body scope dvs kws f fd) (S : FnScope N ps scope) (len : ∀ vs H Q E, sp vs H Q E → vs.length = ps.length)
    (hbody : ∀ (cdv : Value) (A : Around) (outer : List Env) (s : Shared) (H : Hp) (vs : List V) (Q : VK) (E : XK), RoomG k (A.deeper (envOfC qual scope s.heap.objs.size f cdv)) → sp vs H Q E →
      ∃ t, PSs (cxOf (CX P w) P w C.K C.mg base N qual scope f cdv A outer s H E) body t ∧ t { nx := fun _ H' => Q .non H', rt := Q } (L2.start N vs) H) : FnG P w C base (k + 1) f fd ps sp :=
  fnG_genC F S len fun cdv A outer s H vs Q E _ hr h => hbody cdv A outer s H vs Q E hr h
/-- the context of a body -/
theorem sok_body (S : FnScope N ps scope) {cdv : Value} {A : Around} {outer : List Env} {s : Shared} {H : Hp} {E : XK} (hr : RoomG (k + 1) (A.deeper (envOfC qual scope s.heap.objs.size f cdv))) :
    SOk P w C base k N scope E (cxOf (CX P w) P w C.K C.mg base N qual scope f cdv A outer s H E) :=
  ⟨⟨rfl, rfl, rfl, rfl, rfl, rfl, rfl, S.nd, rfl, hr, takes_of rfl rfl rfl rfl⟩, S.kind, passes_of rfl, fun _ => rfl, rfl, rfl⟩
/-! ### defs -/
def rho0 (ds : List D) (n : Nat) : List Sl := ds.map Sl.sh ++ List.replicate (n - ds.length) .no
theorem start_sl {W : Wd} {H0 H : Hp} {ds : List D} {vs : List V} (r : Reps C W ds vs) (hn : vs.length ≤ N.length) : SSl C W H0 H (rho0 ds N.length) (L2.start N vs) := by
  have hl := r.length
  have own : ∀ {i : Nat} {y : Sl}, (rho0 ds N.length)[i]? = some y → y.any = true → ∃ d, y = .sh d ∧ ds[i]? = some d := fun {i y} h hy => by
    unfold rho0 at h
    by_cases hi : i < ds.length
    · rw [List.getElem?_append_left (by simpa using hi), List.getElem?_map] at h
      cases e : ds[i]? with
      | none => rw [e] at h; cases h
      | some d => rw [e] at h; cases h; exact ⟨d, rfl, rfl⟩
    · rw [List.getElem?_append_right (by simpa using hi), List.getElem?_replicate] at h
      split at h
      · cases h; cases hy
      · cases h
  refine ⟨by unfold rho0 L2.start; simp [hl], fun i y h hy => ?_, fun i j y z v h1 h2 o1 _ _ _ => ?_⟩
  · obtain ⟨d, ey, hd⟩ := own h hy
    subst ey
    obtain ⟨v, hv, rep⟩ := r.get hd
    refine ⟨v, ?_, rep⟩
    unfold L2.start
    have hi : i < vs.length := by
      by_cases q : i < vs.length
      · exact q
      · rw [List.getElem?_eq_none (by simpa using q)] at hv; cases hv
    rw [List.getElem?_append_left (by simpa using hi), List.getElem?_map, hv]
    rfl
  · obtain ⟨d, ey, _⟩ := own h1 (by cases y <;> first | rfl | cases o1)
    subst ey
    cases o1
theorem fnG_den (F : FunD C.K x qual params body scope dvs kws f fd) (S : FnScope N ps scope) (hp : ps.length ≤ N.length) (G : GxOk P w C base k Γ) {m : Ss} (hm : mtSs N scope m body = true) :
    FnG P w C base (k + 2) f fd ps (spDen C (denOf Γ ps.length N.length m)) := by
  have len : ∀ vs H Q E, spDen C (denOf Γ ps.length N.length m) vs H Q E → vs.length = ps.length := fun vs H Q E ⟨W, st, ds, r, _, q⟩ => by
    by_cases h : ds.length = ps.length
    · rw [← r.length, h]
    · unfold denOf at q
      rw [if_neg h] at q
      exact False.elim q
  refine fnG_gen F S len fun cdv A outer s H vs Q E hr hsp => ⟨tSs C Γ E m, sts_ok G m N scope E _ body (sok_body S hr) hm, ?_⟩
  have hl := len _ _ _ _ hsp
  obtain ⟨W, st, ds, r, rel, q⟩ := hsp
  have hd : ds.length = ps.length := r.length.trans hl
  unfold denOf at q
  rw [if_pos hd] at q
  refine ⟨W, H, W, st, rho0 ds N.length, ⟨rel, .refl W H, start_sl r (by rw [hl]; exact hp)⟩, ?_⟩
  have e : rho0 ds N.length = ds.map Sl.sh ++ List.replicate (N.length - ps.length) .no := by unfold rho0; rw [hd]
  rw [e]
  refine (OQ.bind0 q).imp fun c s1 W1 H1 e1 r1 q1 => ?_
  cases c with
  | nx ρ => exact fun σ J => q1 W1 H1 e1 r1 .non rfl
  | rt d => exact fun v p => q1 W1 H1 e1 r1 v p
  | bk ρ => exact False.elim q1
  | ct ρ => exact False.elim q1
/-- a def of the module, by its body -/
theorem def_ok (F : FunD C.K x qual params body scope [] [] f fd) (S : FnScope N ps scope) (hp : ps.length ≤ N.length) (hg : C.mg x = some (.ref f)) (hb : Binds C.K fd ps []) (G : GxOk P w C base k Γ) {m : Ss} (hm : mtSs N scope m body = true) :
    DefOk P w C base (k + 2) x (denOf Γ ps.length N.length m) := ⟨f, fd, ps, hg, F.kp, hb, fnG_den F S hp G hm⟩

/-! ### __init__ -/
abbrev Ini := List D → Ms → Out (List (Str × D))
def iniOf (Γ : Gx) (c : Str) (np n : Nat) (b : Ss) : Ini := fun ds s => if ds.length + 1 = np then (evSs Γ b (.ob c [] :: (ds.map Sl.sh ++ List.replicate (n - np) .no)) s).bind fun q s => match q with
    | .nx ρ => (match ρ[(0 : Nat)]? with
      | some (.ob c' fs) => if c' = c then .ok fs s else .bad
      | _ => .bad)
    | _ => .bad
  else .bad
def spIni (C : Rc) (c : Str) (ini : Ini) : Sp := fun vs H Q E => ∃ W st ds a us cl dx, vs = .ref a :: us ∧ Reps C W ds us ∧ Rel C W st H ∧ C.mg c = some (.ref cl) ∧ H a = some (.ins cl dx []) ∧ W.G a = none ∧
  OQ C E W (del H a) (fun fs s W' H' => ∀ dx' vs', H' a = some (.ins cl dx' vs') → W'.G a = none → RepF C W' fs vs' → Q .non H') (ini ds st)
theorem fnG_ini (F : FunD C.K x qual params body scope dvs kws f fd) (S : FnScope N ps scope) (hp : ps.length ≤ N.length) (G : GxOk P w C base k Γ) {c : Str} {m : Ss} (hm : mtSs N scope m body = true) :
    FnG P w C base (k + 2) f fd ps (spIni C c (iniOf Γ c ps.length N.length m)) := by
  have len : ∀ vs H Q E, spIni C c (iniOf Γ c ps.length N.length m) vs H Q E → vs.length = ps.length := fun vs H Q E ⟨W, st, ds, a, us, cl, dx, ev, r, _, _, _, _, q⟩ => by
    by_cases h : ds.length + 1 = ps.length
    · rw [ev, List.length_cons, ← r.length, h]
    · unfold iniOf at q
      rw [if_neg h] at q
      exact False.elim q
  refine fnG_gen F S len fun cdv A outer s H vs Q E hr hsp => ⟨tSs C Γ E m, sts_ok G m N scope E _ body (sok_body S hr) hm, ?_⟩
  have hl := len _ _ _ _ hsp
  obtain ⟨W, st, ds, a, us, cl, dx, ev, r, rel, mg, ha, ga, q⟩ := hsp
  subst ev
  have hd : ds.length + 1 = ps.length := by rw [r.length]; exact hl
  unfold iniOf at q
  rw [if_pos hd] at q
  have mi : Mine W a := ⟨ga, fun y hy z => by
    obtain ⟨_, _, h2, _⟩ := rel.pen y hy
    rw [z, ha] at h2
    cases h2⟩
  -- the world where the new object is told
  have lw : Le W { W with scr := some a } := ⟨fun _ _ z => z, rfl, fun _ _ z => z, Nat.le_refl _, rfl⟩
  have r' : Reps C { W with scr := some a } ds us := Reps.le lw ds us r
  have rel' : Rel C { W with scr := some a } st H := ⟨rel.sub, rel.pen, rel.penE, rel.nid, rel.idlt, rel.idinj, rel.envE, fun ρ z => (rel.env ρ z).le lw⟩
  -- the names at the entry, by a start where the first is a datum
  have s0 : SSl C { W with scr := some a } (del H a) H (rho0 (D.non :: ds) N.length) (L2.start N (.non :: us)) := start_sl (N := N) (ds := D.non :: ds) (vs := V.non :: us) ⟨.non, us, rfl, rfl, r'⟩ (by simp at hl ⊢; omega)
  have e0 : Ext { W with scr := some a } (del H a) { W with scr := some a } H := ⟨.refl _, fun b o z _ => (del_some z).2, fun b z => del_none z, fun b o z => .inl z, rfl⟩
  have s1 : SSl C { W with scr := some a } (del H a) H ((rho0 (D.non :: ds) N.length).set 0 (.ob c [])) ((L2.start N (.non :: us)).set 0 (some (.ref a))) := by
    refine s0.set (x := .ob c []) (v := .ref a) 0 ⟨a, cl, dx, [], rfl, ⟨mg, rfl⟩, ha, ga, del_at, rfl⟩ fun _ j y hj oy => ?_
    intro z
    have : ∀ (l : List Sl), (∀ t ∈ l, t.own = false) → l[j]? = some y → False := fun l hl hy => by
      have := hl y (List.mem_of_getElem? hy)
      rw [oy] at this
      cases this
    refine this _ (fun t ht => ?_) hj
    unfold rho0 at ht
    rcases List.mem_append.mp ht with q | q
    · obtain ⟨d, _, e⟩ := List.mem_map.mp q
      rw [← e]; rfl
    · rw [(List.mem_replicate.mp q).2]; rfl
  have eσ : (L2.start N (.non :: us)).set 0 (some (.ref a)) = L2.start N (.ref a :: us) := by
    unfold L2.start
    simp
  have eρ : (rho0 (D.non :: ds) N.length).set 0 (.ob c []) = .ob c [] :: (ds.map Sl.sh ++ List.replicate (N.length - ps.length) .no) := by
    unfold rho0
    simp [hd]
  rw [eσ, eρ] at s1
  refine ⟨{ W with scr := some a }, del H a, { W with scr := some a }, st, _, ⟨rel', e0, s1⟩, ?_⟩
  -- back to the world of the entry
  have back : ∀ {W1 : Wd} {H1 : Hp}, Ext { W with scr := some a } (del H a) W1 H1 → Ext W (del H a) { W1 with scr := W.scr } H1 := fun {W1 H1} e => ⟨⟨e.le.G, e.le.pen, e.le.ids, e.le.nid, e.le.env⟩, e.keep, e.dom, e.newG, rfl⟩
  have leb : ∀ {W1 : Wd}, Le W1 { W1 with scr := W.scr } := fun {W1} => ⟨fun _ _ z => z, rfl, fun _ _ z => z, Nat.le_refl _, rfl⟩
  have relb : ∀ {W1 : Wd} {H1 : Hp} {s : Ms}, Rel C W1 s H1 → Rel C { W1 with scr := W.scr } s H1 := fun {W1 H1 s} r => ⟨r.sub, r.pen, r.penE, r.nid, r.idlt, r.idinj, r.envE, fun ρ z => (r.env ρ z).le leb⟩
  cases eo : evSs Γ m (.ob c [] :: (ds.map Sl.sh ++ List.replicate (N.length - ps.length) .no)) st with
  | bad => rw [eo] at q; exact False.elim q
  | ex x s2 =>
    rw [eo] at q
    intro cls d W1 H1 e1 r1 ⟨cl1, d1, vs1, x1, x2, x3, x4, x5⟩
    exact q cls d _ H1 (back e1) (relb r1) ⟨cl1, d1, vs1, x1, x2, x3, x4, RepF.le leb _ _ x5⟩
  | ok ct s2 =>
    rw [eo] at q
    cases ct with
    | nx ρ =>
      intro W1 H1 e1 r1 σ J
      cases eh : ρ[(0 : Nat)]? with
      | none =>
        have q2 := q
        simp only [Out.bind_ok, eh] at q2
        exact False.elim q2
      | some y =>
        have q2 := q
        simp only [Out.bind_ok, eh] at q2
        cases y with
        | ob c' fs =>
          have q3 : OQ C E W (del H a) (fun fs s W' H' => ∀ (dx' : Addr) (vs' : List (Str × V)), H' a = some (.ins cl dx' vs') → W'.G a = none → RepF C W' fs vs' → Q V.non H') (if c' = c then Out.ok fs s2 else .bad) := q2
          by_cases ec : c' = c
          · rw [if_pos ec] at q3
            subst ec
            obtain ⟨v, hv, b, cl', dx', vs', eb, ⟨mg', sc'⟩, k1, k2, k3, k4⟩ := J.val eh rfl
            have es : W1.scr = some a := e1.scr
            rw [es] at sc'
            have eab := Option.some.inj sc'
            subst eab
            rw [mg] at mg'
            cases mg'
            exact q3 _ H1 (back e1) (relb r1) dx' vs' k1 k2 (RepF.le leb _ _ k4)
          · rw [if_neg ec] at q3
            exact False.elim q3
        | _ => exact False.elim q2
    | rt d => exact False.elim q
    | bk ρ => exact False.elim q
    | ct ρ => exact False.elim q
/-! ### making -/
def mkDen (c : Str) (idn : Bool) (ini : Ini) : Den := fun ds s => (ini ds s).bind fun fs s => if idn = true then .ok (.ins c (s.oid + 1) fs) { s with oid := s.oid + 1 } else .ok (.ins c 0 fs) s
/-- a made object becomes known -/
theorem made_known {W W1 : Wd} {H H1 : Hp} {s : Ms} {c : Str} {cl a : Addr} {dx : Addr} {vs : List (Str × V)} {fs : List (Str × D)} {idn : Bool} {Q : VK} {Wx : XK} (mg : C.mg c = some (.ref cl)) (hn : H a = none) (e : Ext W H W1 H1) (r : Rel C W1 s H1) (ha : H1 a = some (.ins cl dx vs)) (ga : W1.G a = none) (rf : RepF C W1 fs vs)
    (q : OQ C Wx W H (RD C Q) (if idn = true then .ok (.ins c (s.oid + 1) fs) { s with oid := s.oid + 1 } else .ok (.ins c 0 fs) s)) : Q (.ref a) H1 := by
  have mi : Mine W1 a := ⟨ga, fun y hy z => by
    obtain ⟨_, _, h2, _⟩ := r.pen y hy
    rw [z, ha] at h2
    cases h2⟩
  have r2 := rel_frz r mi ha
  have e2 : Ext W H (W1.put a (.ins cl dx vs)) H1 := {
    le := e.le.trans (le_put ga)
    keep := e.keep
    dom := e.dom
    newG := fun b u z => by
      have z' : upd W1.G a (.ins cl dx vs) b = some u := z
      by_cases h : b = a
      · rw [h]; exact .inr hn
      · rw [upd_ne h] at z'; exact e.newG b u z'
    scr := e.scr }
  have rf2 := RepF.le (le_put (o := .ins cl dx vs) ga) fs vs rf
  cases idn with
  | false =>
    rw [if_neg Bool.false_ne_true] at q
    exact q _ H1 e2 r2 (.ref a) ⟨a, cl, dx, vs, rfl, mg, Wd.put_at, rf2, fun z => absurd rfl z⟩
  | true =>
    rw [if_pos rfl] at q
    have en := r.nid
    have old : ∀ i b, W1.ids i = some b → i ≤ s.oid := fun i b z => by rw [← en]; exact (r.idlt i b z).1
    have lids : ∀ (i : Nat) (b : Addr), W1.ids i = some b → (if i = s.oid + 1 then some a else W1.ids i) = some b := fun i b z => by
      have := old i b z
      rw [if_neg (by omega)]; exact z
    have l3 : Le (W1.put a (.ins cl dx vs)) { W1.put a (.ins cl dx vs) with nid := s.oid + 1, ids := fun i => if i = s.oid + 1 then some a else W1.ids i } :=
      ⟨fun _ _ z => z, rfl, lids, by show W1.nid ≤ _; rw [en]; exact Nat.le_succ _, rfl⟩
    refine q { W1.put a (.ins cl dx vs) with nid := s.oid + 1, ids := fun i => if i = s.oid + 1 then some a else W1.ids i } H1 ⟨e2.le.trans l3, e2.keep, e2.dom, e2.newG, e2.scr⟩ ⟨r2.sub, r2.pen, r2.penE, rfl, fun i b z => ?_, fun i j b z1 z2 => ?_, r2.envE, fun ρ z => (r2.env ρ z).le l3⟩ (.ref a) ⟨a, cl, dx, vs, rfl, mg, Wd.put_at, RepF.le l3 _ _ rf2, fun _ => ?_⟩
    · have z' : (if i = s.oid + 1 then some a else W1.ids i) = some b := z
      split at z'
      · rename_i hi
        cases z'
        exact ⟨Nat.le_of_eq hi, cl, dx, vs, Wd.put_at⟩
      · obtain ⟨h1, cl', dx', fs', h2⟩ := r2.idlt i b z'
        exact ⟨Nat.le_trans (old i b z') (Nat.le_succ _), cl', dx', fs', h2⟩
    · have z1' : (if i = s.oid + 1 then some a else W1.ids i) = some b := z1
      have z2' : (if j = s.oid + 1 then some a else W1.ids j) = some b := z2
      have na : ∀ i, W1.ids i = some a → False := fun i z => by
        obtain ⟨_, _, _, _, h2⟩ := r.idlt i a z
        rw [ga] at h2
        cases h2
      split at z1' <;> split at z2'
      · rename_i h1 h2; rw [h1, h2]
      · cases z1'; exact (na j z2').elim
      · cases z2'; exact (na i z1').elim
      · exact r.idinj i j b z1' z2'
    · show (if s.oid + 1 = s.oid + 1 then some a else W1.ids (s.oid + 1)) = some a
      rw [if_pos rfl]
variable {X : Cx} {Wx : XK} {sc : Scope} {N' : List Str}
theorem run_makeG (o : XOk P w C base k N' sc Wx X) {cl fI : Addr} (M : Mk C.K cl fI) {c : Str} {idn : Bool} {ini : Ini} (mg : C.mg c = some (.ref cl)) (F : FnG P w C base k fI fd ps (spIni C c ini)) (hb : Binds C.K fd ps [])
    {pins : List (Addr × Obj)} {σ : Sg} {H : Hp} {s : Shared} {Q : VK} {us : List Value} {vs : List V} (I : Inv X pins σ H s) (r : Vals vs us) (h : spDen C (mkDen c idn ini) vs H Q Wx) :
    wpAny (model X.prog X.w) X.A (call (.ref cl) us) (EP X pins σ Q) X.xe s := by
  obtain ⟨W, st, ds, rp, rel, q⟩ := h
  have n1 : H (s.heap.objs.size + 1) = none := I.hok.fresh (Nat.le_succ _)
  have n2 : H s.heap.objs.size = none := I.hok.fresh (Nat.le_refl _)
  have ne : s.heap.objs.size ≠ s.heap.objs.size + 1 := Nat.ne_of_lt (Nat.lt_succ_self _)
  have n3 : upd H s.heap.objs.size (.own (s.heap.objs.size + 1)) (s.heap.objs.size + 1) = none := by rw [upd_ne (Ne.symm ne)]; exact n1
  have hq : spIni C c ini (.ref (s.heap.objs.size + 1) :: vs) (upd (upd H s.heap.objs.size (.own (s.heap.objs.size + 1))) (s.heap.objs.size + 1) (.ins cl s.heap.objs.size [])) (fun v H2 => v = .non ∧ Q (.ref (s.heap.objs.size + 1)) H2) Wx := by
    have rel2 := rel_own rel (o := .own (s.heap.objs.size + 1)) n2
    refine ⟨W, st, ds, s.heap.objs.size + 1, vs, cl, s.heap.objs.size, rfl, rp, rel_own rel2 n3, mg, upd_same, G_free rel n1, ?_⟩
    rw [del_upd, del_free n3]
    refine ((OQ.bind0 q).mono (ext_own n2)).imp fun fs s' W1 H1 e1 r1 q1 dx' vs' ha ga rf => ⟨rfl, ?_⟩
    exact made_known (Wx := Wx) (idn := idn) mg n1 ((ext_own n2).trans e1) r1 ha ga rf q1
  have I2 := Inv.made (C := cl) I
  have r2 : Vals (V.ref (s.heap.objs.size + 1) :: vs) (Value.ref (s.heap.objs.size + 1) :: us) := .cons rfl r
  have hl : (Value.ref (s.heap.objs.size + 1) :: us ++ []).length = ps.length := by
    rw [List.append_nil]
    exact r2.length.symm.trans (F.len _ _ _ _ hq)
  have e0 := I2.env0.make cl us []
  have hB := hb _ (Value.ref (s.heap.objs.size + 1) :: us) (by have z := I2.kIn; rw [o.K] at z; exact z) hl
  rw [List.append_nil] at hB
  have hE := I2.env0.make cl us []
  rw [o.prog, o.wd, o.K, o.mg, o.base] at hE
  have M' : Mk X.K cl fI := by rw [o.K]; exact M
  have run := F.run _ X.stack _ _ ⟨Value.ref (s.heap.objs.size + 1) :: us, []⟩ (Value.ref (s.heap.objs.size + 1) :: us) _ _ Wx (o.rm.make cl us []) hE hB r2 hq
  rw [← o.prog, ← o.wd] at run
  refine wpAny_call (make_map (f := fI) I.kIn M'.makes M'.init (beq_iff_eq.mp M'.fn) (codeAny_mono run fun r s' hq' => ?_))
  cases r with
  | error e => exact o.tk e s' (XE.of_call I2 (W := fun cls d _ H => Wx cls d H) (fun cls d H' z => z) hq')
  | ok fl =>
    cases fl with
    | ret u =>
      obtain ⟨v, H', I3, rv, ev, q3⟩ := I2.after hq'
      subst ev
      exact ⟨rv, ⟨V.ref (s.heap.objs.size + 1), H', I3, rfl, q3⟩⟩
    | next => exact False.elim hq'
    | brk => exact False.elim hq'
    | cont => exact False.elim hq'
/-- a class of the module, by its __init__: C(..) -/
theorem mke_ok {cl fI : Addr} (M : Mk C.K cl fI) {c : Str} {idn : Bool} {ini : Ini} (mg : C.mg c = some (.ref cl)) (F : FnG P w C base k fI fd ps (spIni C c ini)) (hb : Binds C.K fd ps []) (o : XOk P w C base k N' sc Wx X)
    {es : List Expr} {t : TA} {p pos : Pos} (hg : glB sc c = true) (hp : ∀ y ∈ es, plainX y = true) (ha : PA X es t) (hn : es = [] → ∀ σ H Q, t σ H Q → Q [] H) :
    PE X (.Call (.Name c p) es [] pos) (fun σ H Q => t σ H fun vs H1 => spDen C (mkDen c idn ini) vs H1 Q Wx) := by
  obtain ⟨g1, g2, g3⟩ := gl_of o hg
  have M' : Mk X.K cl fI := by rw [o.K]; exact M
  have mg' : X.mg c = some (.ref cl) := by rw [o.mg]; exact mg
  refine ⟨fun pins s σ H Q I h => ?_⟩
  refine wpAny_Call_Name_kw (ld_glob I g1 mg' ?_ g2)
  cases es with
  | nil => exact PySem.W.callWith_K0 I.kIn M'.kp (run_makeG o M (idn := idn) mg F hb (us := []) I .nil (hn rfl σ H _ h))
  | cons e es =>
    have hs := plain_star (es := es) (env := X.env) (hp e List.mem_cons_self)
    have ha2 := stars_any (env := X.env) (pos := pos) fun x hx => hp x (List.mem_cons_of_mem e hx)
    exact PySem.W.callWith_K (h₀ := X.base) I.ok.mod.kin M'.kp (thn (ha.run pos pins s σ H _ I h) fun us s1 ⟨vs, H1, I1, r, q⟩ => ⟨I1.kIn, run_makeG o M (idn := idn) mg F hb I1 r q⟩) hs ha2
end
end Mp
set_option Elab.async false
set_option linter.all false
set_option maxRecDepth 100000
set_option maxHeartbeats 2000000
/-! MpEq: instances that are equal to themselves alone. -/
namespace Mp
open PySem PySem.Spec PyProof.Rows L2
structure IdC (K : PySem.W.Frag) (c : Addr) : Prop where
  eq : PySem.W.findIn K (.ref c) "__eq__" = some (some (.builtin "object.__eq__"))
  ne : PySem.W.findIn K (.ref c) "__ne__" = some (some (.builtin "object.__ne__"))
  mro : ∀ b, PySem.W.mroIn K c b = some ([Value.ref c, .type "object"].contains b)
theorem idC_of {K : PySem.W.Frag} {c : Addr} (h : idnB K c = true) : IdC K c := by
  unfold idnB at h
  simp only [Bool.and_eq_true, decide_eq_true_eq] at h
  obtain ⟨⟨h1, h2⟩, h3⟩ := h
  refine ⟨h1, h2, fun b => ?_⟩
  unfold PySem.W.mroIn
  cases e : PySem.W.clsIn K c with
  | none => rw [e] at h3; cases h3
  | some cd =>
    rw [e] at h3
    have h3 := of_decide_eq_true h3
    rw [Option.bind_some, h3]
    rfl
theorem IdC.obj {K : PySem.W.Frag} {c : Addr} (h : IdC K c) : PySem.W.mroIn K c (.type "object") = some true := by
  rw [h.mro]
  simp
theorem IdC.sub {K : PySem.W.Frag} {c d : Addr} (h : IdC K c) (n : c ≠ d) : PySem.W.subIn K (.ref c) (.ref d) = some false := by
  show PySem.W.mroIn K c (.ref d) = some false
  rw [h.mro]
  simp [Ne.symm n]
section
variable {prog : Program} {w : World} {A : Around} {E : Value → Shared → Prop} {s : Shared} {K : PySem.W.Frag} {x y C D : Addr} {ox oy : Obj} {od od' : Option Obj}
theorem noTup (I : PySem.W.InstAt s.heap x ox C od) : ox.cls ≠ .type "tuple" := by rw [I.cls]; exact fun z => nomatch z
theorem eqC_same {Q : Value → Shared → Prop} (X : K.In s.heap) (I : PySem.W.InstAt s.heap x ox C od) (c : IdC K C) (hq : Q (.bool true) s) : wpAny (model prog w) A (call (.builtin "object.__eq__") [.ref x, .ref x]) Q E s :=
  wpAny_call (codeAny_call_builtin F.cmp_object.eq.plain F.cmpEntry_eq (PySem.W.check_slot F.cmpKind_eq F.cmpSplit_eq (I.type.andThen (PySem.W.looks_mroIn X c.obj)) (F.cmpArgs_eq _ _) (objEq_entry_same hq)))
theorem eqC_other {Q : Value → Shared → Prop} (X : K.In s.heap) (I : PySem.W.InstAt s.heap x ox C od) (c : IdC K C) (hy : s.heap.get? y = some oy) (hxy : x ≠ y) (hq : Q .notImplemented s) : wpAny (model prog w) A (call (.builtin "object.__eq__") [.ref x, .ref y]) Q E s :=
  wpAny_call (codeAny_call_builtin F.cmp_object.eq.plain F.cmpEntry_eq (PySem.W.check_slot F.cmpKind_eq F.cmpSplit_eq (I.type.andThen (PySem.W.looks_mroIn X c.obj)) (F.cmpArgs_eq _ _) (objEq_entry_other hxy I.at_ hy (noTup I) hq)))
theorem eqS_same {Q : Option Value → Shared → Prop} (X : K.In s.heap) (I : PySem.W.InstAt s.heap x ox C od) (c : IdC K C) (hq : Q (some (.bool true)) s) : wpAny (model prog w) A (callSpecialIfBound? (.ref x) "__eq__" [.ref x]) Q E s :=
  HN.ifBound_objEq X I c.eq (eqC_same X I c hq)
theorem eqS_other {Q : Option Value → Shared → Prop} (X : K.In s.heap) (I : PySem.W.InstAt s.heap x ox C od) (c : IdC K C) (hy : s.heap.get? y = some oy) (hxy : x ≠ y) (hq : Q (some .notImplemented) s) : wpAny (model prog w) A (callSpecialIfBound? (.ref x) "__eq__" [.ref y]) Q E s :=
  HN.ifBound_objEq X I c.eq (eqC_other X I c hy hxy hq)
theorem eqT_same {Q : Option Value → Shared → Prop} (X : K.In s.heap) (I : PySem.W.InstAt s.heap x ox C od) (c : IdC K C) (hq : Q (some (.bool true)) s) : wpAny (model prog w) A (tryCompare (.ref x) "__eq__" (.ref x)) Q E s := by
  simp only [tryCompare]
  exact wpAny_bind (eqS_same X I c (wpAny_pure hq))
theorem eqT_other {Q : Option Value → Shared → Prop} (X : K.In s.heap) (I : PySem.W.InstAt s.heap x ox C od) (c : IdC K C) (hy : s.heap.get? y = some oy) (hxy : x ≠ y) (hq : Q none s) : wpAny (model prog w) A (tryCompare (.ref x) "__eq__" (.ref y)) Q E s := by
  simp only [tryCompare]
  exact wpAny_bind (eqS_other X I c hy hxy (wpAny_pure hq))
theorem neE_same {Q : Fin → Shared → Prop} (X : K.In s.heap) (I : PySem.W.InstAt s.heap x ox C od) (c : IdC K C) (hu : A.units < cLine) (hq : Q (.done (.ret (.bool false))) s) : wpAny (model prog w) A (Builtin.«object.__ne__» ⟨[.ref x, .ref x], []⟩) Q E s := by
  unfold Builtin.«object.__ne__»
  repeat (first | with_reducible refine wpAny_cRoomFor hu ?_ | with_reducible refine eqS_same X I c ?_ | wp_step)
  exact hq
theorem neE_other {Q : Fin → Shared → Prop} (X : K.In s.heap) (I : PySem.W.InstAt s.heap x ox C od) (c : IdC K C) (hy : s.heap.get? y = some oy) (hxy : x ≠ y) (hu : A.units < cLine) (hq : Q (.done (.ret .notImplemented)) s) : wpAny (model prog w) A (Builtin.«object.__ne__» ⟨[.ref x, .ref y], []⟩) Q E s := by
  unfold Builtin.«object.__ne__»
  repeat (first | with_reducible refine wpAny_cRoomFor hu ?_ | with_reducible refine eqS_other X I c hy hxy ?_ | wp_step)
  exact hq
theorem ifBound_objNe {args : List Value} {Q : Option Value → Shared → Prop} (X : K.In s.heap) (I : PySem.W.InstAt s.heap x ox C od) (hs : PySem.W.findIn K (.ref C) "__ne__" = some (some (.builtin "object.__ne__")))
    (h : wpAny (model prog w) A (call (.builtin "object.__ne__") (.ref x :: args)) (fun v => Q (some v)) E s) : wpAny (model prog w) A (callSpecialIfBound? (.ref x) "__ne__" args) Q E s := by
  simp only [callSpecialIfBound?, bindSpecialIfBound?]
  refine wpAny_holding (wpAny_bind (wpAny_bind (wpAny_bind (I.type.here ((PySem.W.looks_findIn X hs).here ?_)))))
  refine wpAny_bind (wpAny_askSetting (wpAny_ite ?_))
  have fin : wpAny (model prog w) A (call (.builtin "object.__ne__") ([.ref x] ++ args) >>= fun v => pure (some v)) Q E s := wpAny_bind (wpAny_mono h (fun v s' h' => wpAny_pure h') fun _ _ h' => h')
  split
  · exact wpAny_bind (wpAny_of_eq (F.cmp_object.ne.bind _) (wpAny_pure (by exact fin)))
  · exact wpAny_tryCatch (wpAny_bind (wpAny_of_eq (F.cmp_object.ne.bind _) (wpAny_pure (by exact fin))))
theorem neT_same {Q : Option Value → Shared → Prop} (X : K.In s.heap) (I : PySem.W.InstAt s.heap x ox C od) (c : IdC K C) (hu : A.units + 1 < cLine) (hq : Q (some (.bool false)) s) : wpAny (model prog w) A (tryCompare (.ref x) "__ne__" (.ref x)) Q E s := by
  simp only [tryCompare]
  refine wpAny_bind (ifBound_objNe X I c.ne (wpAny_call (codeAny_call_builtin F.cmp_object.ne.plain F.cmpEntry_ne (PySem.W.check_slot F.cmpKind_ne F.cmpSplit_ne (I.type.andThen (PySem.W.looks_mroIn X c.obj)) (F.cmpArgs_ne _ _) (neE_same (A := A.in1) X I c hu ?_)))))
  exact wpAny_pure hq
theorem neT_other {Q : Option Value → Shared → Prop} (X : K.In s.heap) (I : PySem.W.InstAt s.heap x ox C od) (c : IdC K C) (hy : s.heap.get? y = some oy) (hxy : x ≠ y) (hu : A.units + 1 < cLine) (hq : Q none s) : wpAny (model prog w) A (tryCompare (.ref x) "__ne__" (.ref y)) Q E s := by
  simp only [tryCompare]
  refine wpAny_bind (ifBound_objNe X I c.ne (wpAny_call (codeAny_call_builtin F.cmp_object.ne.plain F.cmpEntry_ne (PySem.W.check_slot F.cmpKind_ne F.cmpSplit_ne (I.type.andThen (PySem.W.looks_mroIn X c.obj)) (F.cmpArgs_ne _ _) (neE_other (A := A.in1) X I c hy hxy hu ?_)))))
  exact wpAny_pure hq
theorem right_no {M : Model} {α : Type} {k : Bool → Sem α} {Q : α → Shared → Prop} (X : K.In s.heap) (d : IdC K D) (hq : wpAny M A (k false) Q E s) :
    wpAny M A (if Value.ref C != Value.ref D then isSubtype (.ref D) (.ref C) >>= k else pure false >>= k) Q E s := by
  by_cases hCD : D = C
  · subst hCD
    rw [if_neg (by simp)]
    exact wpAny_bind (wpAny_pure hq)
  · rw [if_pos (by simp [Ne.symm hCD])]
    exact wpAny_bind ((PySem.W.looks_subIn X (d.sub hCD)).here hq)
theorem rcEq_same {Q : Value → Shared → Prop} (X : K.In s.heap) (I : PySem.W.InstAt s.heap x ox C od) (c : IdC K C) (hu : A.units < cLine) (hq : Q (.bool true) s) : wpAny (model prog w) A (richCompare .Eq (.ref x) (.ref x)) Q E s := by
  simp only [richCompare, cmpInfo_Eq, oneThing_ref]
  refine wpAny_holding (wpAny_bind (wpAny_cRoomFor hu ?_))
  refine wpAny_bind (I.type.here (wpAny_bind (I.type.here ?_)))
  refine right_no X c ?_
  simp only [Bool.false_eq_true, if_false]
  exact wpAny_bind (eqT_same X I c (wpAny_pure hq))
theorem rcNe_same {Q : Value → Shared → Prop} (X : K.In s.heap) (I : PySem.W.InstAt s.heap x ox C od) (c : IdC K C) (hu : A.units + 1 < cLine) (hq : Q (.bool false) s) : wpAny (model prog w) A (richCompare .NotEq (.ref x) (.ref x)) Q E s := by
  simp only [richCompare, cmpInfo_NotEq, oneThing_ref]
  refine wpAny_holding (wpAny_bind (wpAny_cRoomFor (Nat.lt_of_succ_lt hu) ?_))
  refine wpAny_bind (I.type.here (wpAny_bind (I.type.here ?_)))
  refine right_no X c ?_
  simp only [Bool.false_eq_true, if_false]
  exact wpAny_bind (neT_same X I c hu (wpAny_pure hq))
theorem rcEq_other {Q : Value → Shared → Prop} (X : K.In s.heap) (I : PySem.W.InstAt s.heap x ox C od) (J : PySem.W.InstAt s.heap y oy D od') (c : IdC K C) (d : IdC K D) (hxy : x ≠ y) (hu : A.units < cLine) (hq : Q (.bool false) s) : wpAny (model prog w) A (richCompare .Eq (.ref x) (.ref y)) Q E s := by
  simp only [richCompare, cmpInfo_Eq, oneThing_ref]
  refine wpAny_holding (wpAny_bind (wpAny_cRoomFor hu ?_))
  refine wpAny_bind (I.type.here (wpAny_bind (J.type.here ?_)))
  refine right_no X d ?_
  simp only [Bool.false_eq_true, if_false, Bool.not_false, if_true]
  refine wpAny_bind (eqT_other X I c J.at_ hxy ?_)
  refine wpAny_bind (eqT_other X J d I.at_ (Ne.symm hxy) ?_)
  exact wpAny_bind (wpAny_rule (wpAny_bind (wpAny_isSame_ref_other hxy I.at_ J.at_ (noTup I) (wpAny_pure hq))))
theorem rcNe_other {Q : Value → Shared → Prop} (X : K.In s.heap) (I : PySem.W.InstAt s.heap x ox C od) (J : PySem.W.InstAt s.heap y oy D od') (c : IdC K C) (d : IdC K D) (hxy : x ≠ y) (hu : A.units + 1 < cLine) (hq : Q (.bool true) s) : wpAny (model prog w) A (richCompare .NotEq (.ref x) (.ref y)) Q E s := by
  simp only [richCompare, cmpInfo_NotEq, oneThing_ref]
  refine wpAny_holding (wpAny_bind (wpAny_cRoomFor (Nat.lt_of_succ_lt hu) ?_))
  refine wpAny_bind (I.type.here (wpAny_bind (J.type.here ?_)))
  refine right_no X d ?_
  simp only [Bool.false_eq_true, if_false, Bool.not_false, if_true]
  refine wpAny_bind (neT_other X I c J.at_ hxy hu ?_)
  refine wpAny_bind (neT_other X J d I.at_ (Ne.symm hxy) hu ?_)
  exact wpAny_bind (wpAny_rule (wpAny_bind (wpAny_isSame_ref_other hxy I.at_ J.at_ (noTup I) (wpAny_pure hq))))
end
section
variable {P : Program} {w : World} {C : Rc} {base : Heap} {k : Nat} {N : List Str} {sc : Scope} {Wx : XK} {X : Cx} {Γ : Gm}
theorem eqo_idn (hi : ∀ c, Γ.idn c = true → ∃ cl, C.mg c = some (.ref cl) ∧ IdC C.K cl) (o : XOk P w C base k N sc Wx X) : OpR X (compareOp .Eq) (fun vx vy H Q => ∃ W st x y, Rel C W st H ∧ Rep C W x vx ∧ Rep C W y vy ∧ (∃ c i fs c' j gs, x = .ins c i fs ∧ y = .ins c' j gs ∧ Γ.idn c = true ∧ Γ.idn c' = true ∧ i ≠ 0 ∧ j ≠ 0 ∧ Q (.bl (decide (i = j))) H)) := by
  intro pins s σ H x y v u Q I rx ry ⟨W, st, dx, dy, r, px, py, c, i, fs, c', j, gs, ex, ey, hc, hc', hi0, hj0, q⟩
  have uu := o.units
  subst ex ey
  obtain ⟨a, cl, d1, vs, e1, m1, g1, _, n1⟩ := px
  obtain ⟨b, cl', d2, ws, e2, m2, g2, _, n2⟩ := py
  subst e1 e2
  cases rx
  cases ry
  obtain ⟨z, mz, ic⟩ := hi c hc
  rw [m1] at mz
  cases mz
  obtain ⟨z, mz, id⟩ := hi c' hc'
  rw [m2] at mz
  cases mz
  obtain ⟨mA, O, _⟩ := ins_get I.hok (r.sub _ _ g1)
  obtain ⟨od, J, _⟩ := O.look
  obtain ⟨mB, O2, _⟩ := ins_get I.hok (r.sub _ _ g2)
  obtain ⟨od2, J2, _⟩ := O2.look
  have kin : C.K.In s.heap := by have z := I.kIn; rw [o.K] at z; exact z
  have t1 := n1 hi0
  have t2 := n2 hj0
  show wpAny _ _ (richCompare .Eq (.ref a) (.ref b)) _ _ s
  by_cases hij : i = j
  · subst hij
    rw [t1] at t2
    cases t2
    refine rcEq_same kin J ic (by omega) ⟨.bl true, H, I, rfl, ?_⟩
    rw [decide_eq_true rfl] at q
    exact q
  · have nab : a ≠ b := fun z => hij (r.idinj i j a t1 (by rw [z]; exact t2))
    refine rcEq_other kin J J2 ic id nab (by omega) ⟨.bl false, H, I, rfl, ?_⟩
    rw [decide_eq_false hij] at q
    exact q
theorem neo_idn (hi : ∀ c, Γ.idn c = true → ∃ cl, C.mg c = some (.ref cl) ∧ IdC C.K cl) (o : XOk P w C base k N sc Wx X) : OpR X (compareOp .NotEq) (fun vx vy H Q => ∃ W st x y, Rel C W st H ∧ Rep C W x vx ∧ Rep C W y vy ∧ (∃ c i fs c' j gs, x = .ins c i fs ∧ y = .ins c' j gs ∧ Γ.idn c = true ∧ Γ.idn c' = true ∧ i ≠ 0 ∧ j ≠ 0 ∧ Q (.bl (!decide (i = j))) H)) := by
  intro pins s σ H x y v u Q I rx ry ⟨W, st, dx, dy, r, px, py, c, i, fs, c', j, gs, ex, ey, hc, hc', hi0, hj0, q⟩
  have uu := o.units
  subst ex ey
  obtain ⟨a, cl, d1, vs, e1, m1, g1, _, n1⟩ := px
  obtain ⟨b, cl', d2, ws, e2, m2, g2, _, n2⟩ := py
  subst e1 e2
  cases rx
  cases ry
  obtain ⟨z, mz, ic⟩ := hi c hc
  rw [m1] at mz
  cases mz
  obtain ⟨z, mz, id⟩ := hi c' hc'
  rw [m2] at mz
  cases mz
  obtain ⟨mA, O, _⟩ := ins_get I.hok (r.sub _ _ g1)
  obtain ⟨od, J, _⟩ := O.look
  obtain ⟨mB, O2, _⟩ := ins_get I.hok (r.sub _ _ g2)
  obtain ⟨od2, J2, _⟩ := O2.look
  have kin : C.K.In s.heap := by have z := I.kIn; rw [o.K] at z; exact z
  have t1 := n1 hi0
  have t2 := n2 hj0
  show wpAny _ _ (richCompare .NotEq (.ref a) (.ref b)) _ _ s
  by_cases hij : i = j
  · subst hij
    rw [t1] at t2
    cases t2
    refine rcNe_same kin J ic (by omega) ⟨.bl false, H, I, rfl, ?_⟩
    rw [decide_eq_true rfl] at q
    exact q
  · have nab : a ≠ b := fun z => hij (r.idinj i j a t1 (by rw [z]; exact t2))
    refine rcNe_other kin J J2 ic id nab (by omega) ⟨.bl true, H, I, rfl, ?_⟩
    rw [decide_eq_false hij] at q
    exact q
end
end Mp
set_option Elab.async false
set_option linter.all false
set_option maxRecDepth 100000
set_option maxHeartbeats 2000000
/-! MpOwn: == and != by an own __eq__, __ne__. -/
namespace Mp
open PySem PySem.Spec PyProof.Rows L2
/-- no built-in type is below the class -/
def subB (K : PySem.W.Frag) (c : Addr) : Bool := tyNames.all fun m => decide (PySem.W.subIn K (.type m) (.ref c) = some false)
section
variable {P : Program} {w : World} {C : Rc} {base : Heap} {k : Nat} {N : List Str} {sc : Scope} {Wx : XK} {X : Cx} {Γ : Gm}
/-- the type of what stands for a datum, told by looking -/
theorem looks_ty {pins : List (Addr × Obj)} {σ : Sg} {H : Hp} {s : Shared} {W : Wd} {st : Ms} {d : D} {v : V} {u : Value} {n : String} (o : XOk P w C base k N sc Wx X) (I : Inv X pins σ H s) (r : Rel C W st H) (p : Rep C W d v) (rv : RelV v u) (h : tyD d = some n) {M : Model} : PySem.W.Looks M s.heap (typeOf u) (.type n) := by
  have of_ref : ∀ {a : Addr} {ob : Obj} {t : Value}, s.heap.get? a = some ob → ob.cls = t → PySem.W.Looks M s.heap (typeOf (.ref a)) t := fun {a ob t} e c A Q E s k q => wpAny_typeOf_ref (k _ _ e) (by rw [c]; exact q)
  cases d with
  | non => cases h; have e : v = .non := p; subst e; cases (show u = Value.none from rv); exact PySem.W.Looks.of_pure rfl
  | bl b => cases h; have e : v = .bl b := p; subst e; cases (show u = Value.bool b from rv); exact PySem.W.Looks.of_pure rfl
  | int i => cases h; have e : v = .int i := p; subst e; obtain ⟨t, q⟩ := (show ∃ t, u = Value.int i t from rv); cases q; exact PySem.W.Looks.of_pure rfl
  | str i => cases h; have e : v = .str i := p; subst e; obtain ⟨t, q⟩ := (show ∃ t, u = Value.str i t from rv); cases q; exact PySem.W.Looks.of_pure rfl
  | tup ds =>
    cases h
    obtain ⟨a, vs, e, sq, _⟩ := p
    subst e
    cases (show u = Value.ref a from rv)
    rcases sqT_le r.sub sq with z | ⟨ob, its, m, h1, h2, _⟩
    · have go : ∀ {x : HO}, H a = some x → (x = .tup vs ∨ ∃ ob, x = .frz ob (.tup vs)) → PySem.W.Looks M s.heap (typeOf (.ref a)) (.type "tuple") := fun {x} hx hc => by
        have ok := I.hok a x hx
        rcases hc with e | ⟨ob, e⟩
        · subst e
          obtain ⟨_, _, _, oo, g1, g2, _⟩ := ok
          exact of_ref g1 g2
        · subst e
          obtain ⟨_, _, _, _, oo, g1, g2, _⟩ := ok
          exact of_ref g1 g2
      rcases z with z | ⟨ob, z⟩
      · exact go z (.inl rfl)
      · exact go z (.inr ⟨ob, rfl⟩)
    · have kx := I.kIn
      rw [o.K] at kx
      exact of_ref (kx _ _ h1) h2
  | lst ds =>
    cases h
    obtain ⟨a, vs, e, g, _⟩ := p
    subst e
    cases (show u = Value.ref a from rv)
    obtain ⟨_, its, n, _, h1⟩ := (show ObjOk X.prog X.w H s.heap a (.lst vs) from I.hok a _ (r.sub _ _ g))
    exact of_ref h1 rfl
  | dct ds =>
    cases h
    obtain ⟨a, vs, e, g, _⟩ := p
    subst e
    cases (show u = Value.ref a from rv)
    obtain ⟨_, _, vs', _, oo, es, ep, h1, h2, _⟩ := (show ObjOk X.prog X.w H s.heap a (.dK vs) from I.hok a _ (r.sub _ _ g))
    exact of_ref h1 h2.1
  | ins _ _ _ => cases h
  | pen => cases h
  | scr => cases h
  | lam _ => cases h
/-- a class's own method -/
def MethOk (P : Program) (w : World) (C : Rc) (base : Heap) (k : Nat) (c m : Str) (den : Den) : Prop :=
  ∃ cl f fd ps, C.mg c = some (.ref cl) ∧ Cls C.K cl ∧ Meth C.K cl m f ∧ FnG P w C base k f fd ps (spDen C den) ∧ Binds C.K fd ps [] ∧ ∀ n ∈ tyNames, PySem.W.subIn C.K (.type n) (.ref cl) = some false
theorem own_cmp {op : CmpOp} {m : Str} {den : Den} (hop : (cmpInfo op).2.1 = m) (o : XOk P w C base k N sc Wx X) {c : Str} (hM : MethOk P w C base k c m den) :
    OpR X (richCompare op) (fun vx vy H Q => ∃ W st x y i fs, Rel C W st H ∧ Rep C W x vx ∧ Rep C W y vy ∧ x = .ins c i fs ∧ cmpB c y = true ∧ OQ C Wx W H (fun k _ _ H' => Q (.bl k) H') ((den [x, y] st).bind fun d s1 => match d with
      | .bl k => .ok k s1
      | _ => .bad)) := by
  intro pins s σ H x y v u Q I rx ry ⟨W, st, dx, dy, i, fs, r, px, py, ex, hc, q⟩
  subst ex
  obtain ⟨cl, f, fd, ps, mg, cc, M, F, hb, ns⟩ := hM
  obtain ⟨a, cl', ax, vs, ev, m1, m2, _, _⟩ := id px
  rw [mg] at m1
  cases m1
  subst ev
  cases (show v = Value.ref a from rx)
  obtain ⟨mA, J, _⟩ := ins_get I.hok (r.sub _ _ m2)
  obtain ⟨od, J, _⟩ := J.look
  obtain ⟨mm, hF⟩ := I.fr
  have ty : ∃ tb, PySem.W.Looks (model X.prog X.w) s.heap (typeOf u) tb ∧ PySem.W.notFirst X.K cl tb = true := by
    cases ht : tyD dy with
    | some n =>
      refine ⟨_, looks_ty o I r py ry ht, ?_⟩
      have z := ns n (tyD_mem ht)
      unfold PySem.W.notFirst
      rw [o.K, z]
      simp
    | none =>
      cases dy with
      | ins c' j gs =>
        have hc' : c' = c := of_decide_eq_true hc
        subst hc'
        obtain ⟨b, cl2, bx, ws, eb, n1, n2, _, _⟩ := id py
        rw [mg] at n1
        cases n1
        subst eb
        cases (show u = Value.ref b from ry)
        obtain ⟨mB, J', _⟩ := ins_get I.hok (r.sub _ _ n2)
        obtain ⟨od', J', _⟩ := J'.look
        exact ⟨_, J'.type, by simp [PySem.W.notFirst]⟩
      | _ => exact absurd hc (by simp [cmpB, ht])
  obtain ⟨tb, L, nf⟩ := ty
  have hs : PySem.W.findIn X.K (.ref cl) (cmpInfo op).2.1 = some (some (.ref f)) := by rw [hop, o.K]; exact M.1
  have hfn : PySem.W.isFn X.K (.ref f) = true := by rw [o.K]; exact M.2
  refine PySem.W.cmp_K (op := op) (tb := tb) o.rm.room.units0 hF I.ok.mod.kin J L nf hs hfn ?_
  have run := run_den (X := X) (vs := [V.ref a, y]) (us := [Value.ref a, u]) (Q := fun z H' => ∃ k, z = .bl k ∧ Q (.bl k) H') o F hb I (.cons rfl (.cons ry .nil)) ⟨W, st, [_, dy], ⟨_, _, rfl, px, _, _, rfl, py, rfl⟩, r, q.bind.imp fun d s1 W1 H1 e1 r1 q1 z pz => by
    cases d <;> first | (exact False.elim q1) | skip
    have ez : z = .bl _ := pz
    subst ez
    exact ⟨_, rfl, q1 W1 H1 (.refl W1 H1) r1⟩⟩
  refine wpAny_mono run (fun z s' hz => ?_) fun _ _ x => x
  obtain ⟨zv, H', I', rz, k, ek, qk⟩ := hz
  subst ek
  cases (show z = Value.bool k from rz)
  exact ⟨.bl k, H', I', rfl, qk⟩
end
end Mp
set_option Elab.async false
set_option linter.all false
set_option maxRecDepth 100000
set_option maxHeartbeats 2000000
/-! MpLaw: a law's end where no repr is under way; the head's facts. -/
namespace Mp
open PySem PySem.Spec PyProof.Rows L2
/-- what a law's run is to leave -/
abbrev LawEnd (h : Heap) (os : OsState) (r : Result) (s' : Shared) : Prop := r = .ok (.ret (.bool true)) ∧ OldK h s'.heap ∧ s'.os = os ∧ AllBare s'.gens
/-- what is known of a table of code objects, beside the written part -/
structure TabAt (base : Heap) (mg : Str → Option Value) (t : Addr) : Prop where
  bm : base.BuiltinsAt mg t
  gl : mainGlobals ≠ t
section
variable {P : Program} {w : World} {C : Rc} {mb : Str → Option Value} {k : Nat} {fa a : Addr} {fd : FuncData} {x : Str} {sp : Sp} {s₁ : Shared} {vs : List Value} {ns : List Int} {ts : List Addr}
/-- the run from an abstract heap H that tracks the tables and the script (frozen), or the tables alone -/
theorem law_core (KX : C.K.In s₁.heap) (gl : s₁.heap.Ns mainGlobals C.mg) (bl : s₁.heap.Ns builtinsNs mb) (bb : ∀ y : Str, y ≠ "__name__" → mb y = bootBuiltins y) (nl : s₁.heap.NoLimit) (ng : s₁.gens = #[])
    (bm : ∃ (b : Addr) (o : Obj), C.mg "__builtins__" = some (.ref b) ∧ b ≠ builtinsNs ∧ s₁.heap.get? b = some o ∧ o.cls = .type "module" ∧ o.dict = some builtinsNs ∧ o.data = .plain)
    (tE : ∀ t ∈ ts, s₁.heap.get? t = some tabO) (tK : ∀ t ∈ ts, C.K.lookup t = none) (tC : ∀ t ∈ ts, ∃ c, PySem.W.codeHdIn C.K c t = true)
    (ha : s₁.heap.get? a = some { cls := .type "list", data := .seq vs.toArray }) (hr : RoomG k callerA)
    (hF : ∀ base : Heap, C.K.In base → base.Ns mainGlobals C.mg → (∀ t ∈ ts, TabAt base C.mg t) → FnG P w C base k fa fd [x] sp) (hb : ∀ (s : Shared) (u : Value), BindsTo s fd ⟨[u], []⟩ [(x, u)]) {H : Hp}
    (only : ∀ b u, H b = some u → (b = a ∧ ∃ o ys, u = .frz o (.lst ys)) ∨ (b ∈ ts ∧ u = .tbl #[])) (hK : H a ≠ none → C.K.lookup a = none) (ok : HOk P w H s₁.heap) (hsp : sp [.ref a] H (fun v _ => v = .bl true) fun _ _ _ => False) :
    codeAny (model P w) callerA (.call (.ref fa) ⟨[.ref a], []⟩) (LawEnd s₁.heap s₁.os) s₁ := by
  have aT : a ∉ ts := fun z => by
    have q := tE a z
    rw [ha] at q
    have d := congrArg Obj.data (Option.some.inj q)
    cases d
  -- what is neither a list nor an empty table is not tracked
  have far : ∀ {b : Addr} {o : Obj}, s₁.heap.get? b = some o → (∀ ys n, o.data ≠ .seq ys n) → o.data ≠ .fields #[] → H b = none := fun {b o} e n1 n2 => by
    cases q : H b with
    | none => rfl
    | some u =>
      rcases only b u q with ⟨z, _⟩ | ⟨z, _⟩
      · rw [z, ha] at e; cases e; exact (n1 _ _ rfl).elim
      · rw [tE b z] at e; cases e; exact (n2 rfl).elim
  have nsB : ∀ {b : Addr} {m : Str → Option Value}, s₁.heap.Ns b m → (hidT s₁.heap H).Ns b m := fun {b m} q => by
    obtain ⟨o, es, n, e, d, r⟩ := q
    exact ⟨o, es, n, hidT_get e (far e (fun ys n z => by rw [d] at z; cases z) fun z => by rw [d] at z; cases z), d, r⟩
  have KB : C.K.In (hidT s₁.heap H) := fun b o e => hidT_get (KX b o e) (by
    cases q : H b with
    | none => rfl
    | some u =>
      rcases only b u q with ⟨z, _⟩ | ⟨z, _⟩
      · have l := hK (by rw [← z, q]; simp)
        rw [z, l] at e; cases e
      · rw [tK b z] at e; cases e)
  have md : Mod C.K C.mg (hidT s₁.heap H) := by
    obtain ⟨mc, l1, l2⟩ := nl
    exact ⟨KB, nsB gl, ⟨mb, nsB bl, bb⟩, mc, nsB l1, l2⟩
  have TA : ∀ t ∈ ts, TabAt (hidT s₁.heap H) C.mg t := fun t ht => by
    have et := tE t ht
    obtain ⟨b, o, b1, b2, b3, b4, b5, b6⟩ := bm
    obtain ⟨og, es, n, eg, dg, _⟩ := gl
    refine ⟨⟨b, o, b1, b2, fun z => ?_, fun z => ?_, hidT_get b3 (far b3 (fun ys n z => by rw [b6] at z; cases z) fun z => by rw [b6] at z; cases z), b4, b5, b6⟩, fun z => ?_⟩
    · rw [z, eg] at b3; cases b3; rw [dg] at b6; cases b6
    · rw [z, et] at b3; cases b3; cases b6
    · rw [z, et] at eg; cases eg; cases dg
  have nof : ∀ b : Addr, b ∉ frs ([] : List Env) := fun b z => by cases z
  have e0 : Env0 P w C.K C.mg (hidT s₁.heap H) callerA [] s₁ H :=
    { frames := rfl, mod := md, bs := fun _ _ e => of_hidT e, bsz := Nat.le_of_eq (hidT_size _ _), funs := trivial, frf := fun b z => absurd z (nof b), hok := ok, bare := .of_eq ng }
  have run := (hF _ KB (nsB gl) TA).run callerA [] s₁ H ⟨[.ref a], []⟩ [.ref a] [.ref a] _ _ hr e0 (hb s₁ (.ref a)) (.cons rfl .nil) hsp
  refine codeAny_mono run fun r s' q => ?_
  match r, q with
  | .error e, q =>
    obtain ⟨_, _, _, _, _, _, _, _, _, _, _, _, no⟩ := q
    exact no.elim
  | .ok .next, q => exact False.elim q
  | .ok .brk, q => exact False.elim q
  | .ok .cont, q => exact False.elim q
  | .ok (.ret u), q =>
    obtain ⟨v, H', os, bare, un, ok', rv, ev⟩ := q
    have ev : v = .bl true := ev
    subst ev
    obtain rfl : u = Value.bool true := rv
    have stay : ∀ b o, (∀ ps, H b ≠ some (.tbl ps)) → s₁.heap.get? b = some o → s'.heap.get? b = some o := fun b o nt e => by
      cases z : H b with
      | none => exact un.keep b o e z (nof b) (by simp)
      | some t =>
        rcases only b t z with ⟨_, ob, ys, et⟩ | ⟨_, et⟩
        · subst et
          have k1 := (ok b _ z).1
          have k2 := (ok' b _ (un.frzs b ob _ z)).1
          rw [e] at k1
          cases k1
          exact k2
        · exact absurd (by rw [z, et]) (nt #[])
    have grow : ∀ b, H b = some (.tbl #[]) → ∃ more : Array Value, s'.heap.get? b = some { cls := .none, data := .fields more } := fun b z => by
      obtain ⟨more, y⟩ := un.tbls b #[] z
      exact ⟨_, ok' b _ y⟩
    refine ⟨rfl, ⟨fun b o e => ?_, fun b o e => ?_⟩, os, bare⟩
    · by_cases z : ∃ ps, H b = some (.tbl ps)
      · obtain ⟨ps, z⟩ := z
        rcases only b _ z with ⟨_, ob, ys, et⟩ | ⟨hm, et⟩
        · cases et
        · cases et
          obtain ⟨c, hc⟩ := tC b hm
          obtain ⟨more, y⟩ := grow b z
          have et := tE b hm
          rw [et] at e
          cases e
          exact .inr (.inl ⟨((PySem.W.codeHd_of_K KX hc).tab et).isCodeTable, rfl, #[], more, rfl, by rw [Array.empty_append]; exact y⟩)
      · exact .inl (stay b o (fun ps y => z ⟨ps, y⟩) e)
    · by_cases z : ∃ ps, H b = some (.tbl ps)
      · obtain ⟨ps, z⟩ := z
        rcases only b _ z with ⟨_, ob, ys, et⟩ | ⟨hm, et⟩
        · cases et
        · cases et
          obtain ⟨more, y⟩ := grow b z
          exact ⟨_, y⟩
      · exact ⟨o, stay b o (fun ps y => z ⟨ps, y⟩) e⟩
/-- the law's call -/
theorem law_run (KX : C.K.In s₁.heap) (gl : s₁.heap.Ns mainGlobals C.mg) (bl : s₁.heap.Ns builtinsNs mb) (bb : ∀ y : Str, y ≠ "__name__" → mb y = bootBuiltins y) (nl : s₁.heap.NoLimit) (ng : s₁.gens = #[])
    (bm : ∃ (b : Addr) (o : Obj), C.mg "__builtins__" = some (.ref b) ∧ b ≠ builtinsNs ∧ s₁.heap.get? b = some o ∧ o.cls = .type "module" ∧ o.dict = some builtinsNs ∧ o.data = .plain)
    (tE : ∀ t ∈ ts, s₁.heap.get? t = some tabO) (tK : ∀ t ∈ ts, C.K.lookup t = none) (tC : ∀ t ∈ ts, ∃ c, PySem.W.codeHdIn C.K c t = true)
    (ha : s₁.heap.get? a = some { cls := .type "list", data := .seq vs.toArray }) (hi : IntsAre vs ns) (hl : ns.length ≤ sizeLine) (hr : RoomG k callerA)
    (hF : ∀ base : Heap, C.K.In base → base.Ns mainGlobals C.mg → (∀ t ∈ ts, TabAt base C.mg t) → FnG P w C base k fa fd [x] sp) (hb : ∀ (s : Shared) (u : Value), BindsTo s fd ⟨[u], []⟩ [(x, u)])
    (hsp : ∀ H : Hp, (∀ t ∈ ts, H t = some (.tbl #[])) → SqL C.K H a (ns.map V.int) → sp [.ref a] H (fun v _ => v = .bl true) fun _ _ _ => False) :
    codeAny (model P w) callerA (.call (.ref fa) ⟨[.ref a], []⟩) (LawEnd s₁.heap s₁.os) s₁ := by
  have rv := vals_ints hi
  have lv := hi.length
  have aT : a ∉ ts := fun z => by
    have q := tE a z
    rw [ha] at q
    have d := congrArg Obj.data (Option.some.inj q)
    cases d
  let T : Hp := fun b => if b ∈ ts then some (.tbl #[]) else none
  have Tin : ∀ b ∈ ts, T b = some (.tbl #[]) := fun b h => if_pos h
  have Tof : ∀ {b : Addr} {u : HO}, T b = some u → b ∈ ts ∧ u = .tbl #[] := fun {b u} z => by
    have z' : (if b ∈ ts then some (HO.tbl #[]) else none) = some u := z
    by_cases h : b ∈ ts
    · rw [if_pos h] at z'; exact ⟨h, (Option.some.inj z').symm⟩
    · rw [if_neg h] at z'; cases z'
  have Tok : ∀ (G : Hp) (b : Addr), b ∈ ts → ObjOk P w G s₁.heap b (.tbl #[]) := fun G b h => tE b h
  cases hk : C.K.lookup a with
  | some o =>
    have e := KX a o hk
    rw [ha] at e
    cases e
    have sq : SqL C.K T a (ns.map V.int) := .inr ⟨_, vs.toArray, _, hk, rfl, rfl, rfl, by rw [List.size_toArray, lv]; exact hl, by simpa using rv⟩
    refine law_core (H := T) KX gl bl bb nl ng bm tE tK tC ha hr hF hb (fun b u z => .inr (Tof z)) (fun z => ?_) (fun b u z => ?_) (hsp _ Tin sq)
    · exact absurd (show T a = none from if_neg aT) z
    · obtain ⟨h1, h2⟩ := Tof z
      subst h2
      exact Tok _ b h1
  | none =>
    let H : Hp := upd T a (.frz { cls := .type "list", data := .seq vs.toArray } (.lst (ns.map V.int)))
    have at1 : H a = some (.frz { cls := .type "list", data := .seq vs.toArray } (.lst (ns.map V.int))) := upd_same
    have one : ∀ b u, H b = some u → (b = a ∧ u = .frz { cls := .type "list", data := .seq vs.toArray } (.lst (ns.map V.int))) ∨ (b ∈ ts ∧ u = .tbl #[]) := fun b u z => by
      by_cases q : b = a
      · subst q
        rw [at1] at z
        exact .inl ⟨rfl, (Option.some.inj z).symm⟩
      · have z' : (upd T a (.frz { cls := .type "list", data := .seq vs.toArray } (.lst (ns.map V.int)))) b = some u := z
        rw [upd_ne q] at z'
        exact .inr (Tof z')
    have in1 : ∀ t ∈ ts, H t = some (.tbl #[]) := fun t ht => by
      have n : t ≠ a := fun z => aT (z ▸ ht)
      show (upd T a (.frz { cls := .type "list", data := .seq vs.toArray } (.lst (ns.map V.int)))) t = _
      rw [upd_ne n]; exact Tin t ht
    refine law_core (H := H) KX gl bl bb nl ng bm tE tK tC ha hr hF hb (fun b u z => ?_) (fun _ => hk) (fun b u z => ?_) (hsp _ in1 (.inl (.inr ⟨_, at1⟩)))
    · rcases one b u z with ⟨e1, e2⟩ | e
      · exact .inl ⟨e1, _, _, e2⟩
      · exact .inr e
    · rcases one b u z with ⟨e1, e2⟩ | ⟨e1, e2⟩
      · subst e1 e2
        exact ⟨ha, by rw [List.length_map]; exact hl, vs, _, rv, ha⟩
      · subst e2
        exact Tok _ b e1
end
/-- a law over a head by facts: F gives the written part, the tables of code objects, the function object, the promise over every base -/
theorem walk_G {l : PySem.W.OpenLaw} {n k : Nat} {q : Program} {loose : List Str} {XP : (Str → Option Value) → Heap → Prop} {YP : World → Heap → Prop} {d : DefRec} {x : Str} (hn : l.most = some n) (hz : n ≤ sizeLine) (hd : d.params.defaults = []) (hr : RoomG k callerA)
    (F : ∀ (w : World) (mg : Str → Option Value) (fa : Addr) (h : Heap), YP w h → h.Ns mainGlobals mg → mg d.name = some (.ref fa) →
      ∃ (K : PySem.W.Frag) (ts : List Addr) (fd : FuncData) (sp : Sp), K.In h ∧ (∀ t ∈ ts, h.get? t = some tabO ∧ K.lookup t = none ∧ ∃ c, PySem.W.codeHdIn K c t = true) ∧ (∀ (s : Shared) (u : Value), BindsTo s fd ⟨[u], []⟩ [(x, u)]) ∧
        (∀ (H : Hp) (a : Addr) (ns : List Int), ns.length ≤ n → (∀ t ∈ ts, H t = some (.tbl #[])) → SqL K H a (ns.map V.int) → sp [.ref a] H (fun v _ => v = .bl true) fun _ _ _ => False) ∧
        ∀ base : Heap, K.In base → base.Ns mainGlobals mg → (∀ t ∈ ts, TabAt base mg t) → FnG l.prog w { K := K, mg := mg } base k fa fd [x] sp) :
    PySem.W.WalkO q loose XP YP l.row.toRowW d [] (fun f vs => PySem.call f vs) := by
  refine Att.attach_call hn hd fun w s0 s1 mg mb fa o pm cd doc a vs ns G Y ho hd hcd hm hobj hi hlen hg => ?_
  obtain ⟨K, ts, fd, sp, KX, hT, hb, hsp, hF⟩ := F w mg fa _ Y G.T.g hm
  exact law_run (C := { K := K, mg := mg }) (ts := ts) KX G.T.g G.T.b G.T.builtins G.T.nolimit hg G.T.bmain (fun t ht => (hT t ht).1) (fun t ht => (hT t ht).2.1) (fun t ht => (hT t ht).2.2) hobj hi (Nat.le_trans hlen hz) hr hF hb fun H h1 hS => hsp H a ns hlen h1 hS

theorem ty_of {K : PySem.W.Frag} {cl : Addr} (h : ownB K cl = true) (m : String) (hm : m ∈ tyNames) : PySem.W.kitOne K (.type m) (.ref cl) = some false := by
  unfold ownB at h
  rw [Bool.and_eq_true] at h
  exact of_decide_eq_true (List.all_eq_true.mp h.2 m hm)
theorem own_of {C : Rc} {c : Str} {cl : Addr} (mg : C.mg c = some (.ref cl)) (k : Cls C.K cl) (h : ownB C.K cl = true) : OwnC C c cl := by
  unfold ownB at h
  simp only [Bool.and_eq_true, decide_eq_true_eq] at h
  exact ⟨mg, k, h.1.1.1.1, h.1.1.1.2, h.1.1.2, h.1.2⟩
end Mp
set_option Elab.async false
set_option linter.all false
set_option maxRecDepth 100000
set_option maxHeartbeats 2000000
/-! MpPen: the drawing dict is made. -/
namespace Mp
open PySem PySem.Spec PyProof.Rows L2
/-- the world of nothing -/
def W00 : Wd := { G := fun _ => none, pen := none, ids := fun _ => none, nid := 0, scr := none }
theorem rel00 {C : Rc} {H : Hp} : Rel C W00 {} H := ⟨fun _ _ z => (by cases z), fun _ z => (by cases z), fun _ => rfl, rfl, fun _ _ z => (by cases z), fun _ _ _ z => (by cases z), rfl, fun _ z => (by cases z)⟩
/-- a later heap -/
structure Kp (H H' : Hp) : Prop where
  keep : ∀ b o, H b = some o → H' b = some o
  dom : ∀ b, H' b = none → H b = none
theorem Kp.refl (H : Hp) : Kp H H := ⟨fun _ _ z => z, fun _ z => z⟩
theorem kp_ext {W W' : Wd} {H H1 H2 : Hp} (k : Kp H H1) (e : Ext W H1 W' H2) (n : W.pen = none) : Kp H H2 := ⟨fun b o z => e.keep b o (k.keep b o z) fun x hx => (by rw [n] at hx; cases hx), fun b z => k.dom b (e.dom b z)⟩
/-- the fold's bound -/
abbrev foB : Int := 1099511627776
def penHp (H : Hp) (p c : Addr) (ns : List Int) (fo : Int) : Hp := upd (upd (upd H p (.dK [])) c (.lst (ns.map V.int))) p (.dK (penKvs ⟨ns, 0, 0, 0, fo⟩ c))
def spPen (C : Rc) : Sp := fun vs H Q _ => ∃ a ns, vs = [.ref a] ∧ SqL C.K H a (ns.map V.int) ∧ ∀ H1 fo p c, Kp H H1 → 0 ≤ fo → fo < foB → H1 p = none → H1 c = none → c ≠ p → Q (.ref p) (penHp H1 p c ns fo)
/-- the text: fold = 0; for cell in script: fold = e; return {..} -/
structure PenT (N : List Str) (sc : Scope) (e : E) (body : List Stmt) : Prop where
  nm : N = (["script", "fold", "cell"] : List Str)
  loc : (sc.names.lookup ("script" : Str) = some .local ∧ sc.names.lookup ("fold" : Str) = some .local) ∧ sc.names.lookup ("cell" : Str) = some .local
  gl : glB sc "list" = true
  text : ∃ p1 p2 j1 q1 p3 p4 p5 v q2 q3 k1 k2 k3 k4 k5 l1 l2 l3 l4 l5 u1 u2 u3 n2 n3 n4 v2 v3 v4 v5 q4 q5,
    body = [.Assign [.Name "fold" p1] (.Constant (.int 0) j1 p2) q1, .For (.Name "cell" p3) (.Name "script" p4) [.Assign [.Name "fold" p5] v q2] [] q3,
      .Return (some (.Dict [some (.Constant (.str "cells") k1 l1), some (.Constant (.str "at") k2 l2), some (.Constant (.str "digits") k3 l3), some (.Constant (.str "count") k4 l4), some (.Constant (.str "fold") k5 l5)]
        [.Call (.Name "list" u1) [.Name "script" u2] [] u3, .Constant (.int 0) n2 v2, .Constant (.int 0) n3 v3, .Constant (.int 0) n4 v4, .Name "fold" v5] q4)) q5] ∧ mt N sc e v = true ∧ isLc v = false
section
variable {P : Program} {w : World} {C : Rc} {base : Heap} {k : Nat} {Γ : Gm} {x qual : Str} {params : Arguments} {body : List Stmt} {scope : Scope} {dvs : List V} {kws : List (Str × V)} {f : Addr} {fd : FuncData} {N : List Str}
theorem fnG_pen (F : FunD C.K x qual params body scope dvs kws f fd) (S : FnScope N ["script"] scope) (G : GOk P w C base k Γ) {e : E} (T : PenT N scope e body)
    (he : ∀ fo ce : Int, 0 ≤ fo → fo < foB → ∃ fo', ev Γ e [none, some (.int fo), some (.int ce)] {} = .ok (.int fo') {} ∧ 0 ≤ fo' ∧ fo' < foB) : FnG P w C base (k + 2) f fd ["script"] (spPen C) := by
  obtain ⟨nm, ⟨⟨l1, l2⟩, l3⟩, gl, p1, p2, j1, q1, p3, p4, p5, v, q2, q3, k1, k2, k3, k4, k5, m1, m2, m3, m4, m5, u1, u2, u3, n2, n3, n4, v2, v3, v4, v5, q4, q5, hb, hm, hl⟩ := T
  subst nm hb
  refine fnG_gen F S (fun vs H Q E ⟨a, ns, ev, _⟩ => by rw [ev]; rfl) fun cdv A outer s H vs Q E hr ⟨a, ns, ev, sq, q⟩ => ?_
  subst ev
  have o := (sok_body (C := C) (base := base) (w := w) (P := P) (E := E) (H := H) (outer := outer) (cdv := cdv) (f := f) S hr)
  generalize hX : cxOf (CX P w) P w C.K C.mg base ["script", "fold", "cell"] qual scope f cdv A outer s H E = X at o
  have hN : X.N = (["script", "fold", "cell"] : List Str) := o.x.nm
  have nd : X.N.Nodup := by rw [o.x.nm]; exact o.x.nd
  have lc : ∀ y, scope.names.lookup y = some .local → X.env.scope.names.lookup y = some .local := fun y z => by rw [o.x.sc]; exact z
  have pv0 : ∀ pos, PE X (.Name "script" pos) (tVar 0) := fun pos => pe_var (i := 0) (by rw [hN]; rfl) (.inl (lc _ l1)) (by decide) (by decide)
  have pv1 : ∀ pos, PE X (.Name "fold" pos) (tVar 1) := fun pos => pe_var (i := 1) (by rw [hN]; rfl) (.inl (lc _ l2)) (by decide) (by decide)
  have s0 : PS X (.Assign [.Name "fold" p1] (.Constant (.int 0) j1 p2) q1) (tAsg (tC (.int 0)) (gName 1)) := ps_set nd (by rw [hN]; rfl) (.inl (lc _ l2)) pe_int (swap_none rfl) (.inl (o.fn _))
  have b0 : PS X (.Assign [.Name "fold" p5] v q2) (tAsg (tEv C Γ E e) (gName 1)) := ps_set nd (by rw [hN]; rfl) (.inl (lc _ l2)) (ev_ok G e _ scope E X v o.x hm).1 (swap_none hl) (.inl (o.fn _))
  have s1 := ps_for (pos := q3) o.po o.x.calm (pi_list (tg := .Name "cell" p3) (pv0 p4)) (pg_name (i := 2) (pos := p3) nd (by rw [hN]; rfl) (.inl (lc _ l3)) (.inl (o.fn _))) (pss_one b0) (fun _ => rfl)
  obtain ⟨g1, g2, g3⟩ := gl_of o.x gl
  have hml : X.mg "list" = none := by rw [o.x.mg]; exact G.free _ (by decide)
  have lst := pe_callTy (pos := u3) (p := u1) call_list_of g1 hml Bi.list.boot (pa_cons (pv0 u2) pa_nil) g3 g2
  have s2 := ps_ret (pos := q5) (pe_disp (pos := q4) (pps_cons (pe_str (x := "cells") (j := k1) (pos := m1)) lst (pps_cons (pe_str (x := "at") (j := k2) (pos := m2)) (pe_int (i := 0) (j := n2) (pos := v2)) (pps_cons (pe_str (x := "digits") (j := k3) (pos := m3)) (pe_int (i := 0) (j := n3) (pos := v3))
    (pps_cons (pe_str (x := "count") (j := k4) (pos := m4)) (pe_int (i := 0) (j := n4) (pos := v4)) (pps_cons (pe_str (x := "fold") (j := k5) (pos := m5)) (pv1 v5) pps_nil))))) rfl rfl (by simp) (by simp))
  refine ⟨_, pss_cons s0 (pss_cons s1 (pss_one s2)), ?_⟩
  -- the walk through the script
  have st0 : L2.start ["script", "fold", "cell"] [V.ref a] = [some (.ref a), none, none] := rfl
  rw [st0]
  refine ⟨_, rfl, a, rfl, ⟨_, by rw [o.x.K]; exact sq⟩, ?_⟩
  have wk := walk_list (K := X.K) (a := a) (xs := ns.map V.int)
  refine for_it wk (fun i σ H' => ∃ fo c, 0 ≤ fo ∧ fo < foB ∧ σ = [some (.ref a), some (.int fo), c] ∧ Kp H H') ⟨0, none, by decide, by decide, rfl, .refl H⟩ ?_ ?_ ?_
  · rintro i σ H' hi ⟨fo, c, _, _, _, kp⟩
    rw [o.x.K]
    exact sqL_le kp.keep sq
  · rintro i y σ H' H'' hi ⟨fo, c, h1, h2, h3, kp⟩ ⟨eH, hy⟩
    subst eH h3
    have hy' : ∃ ce : Int, y = .int ce := by
      rw [List.getElem?_map] at hy
      cases z : ns[i]? with
      | none => rw [z] at hy; cases hy
      | some ce => rw [z] at hy; cases hy; exact ⟨ce, rfl⟩
    obtain ⟨ce, ey⟩ := hy'
    subst ey
    obtain ⟨fo', e1, e2, e3⟩ := he fo ce h1 h2
    show tEv C Γ E e [some (.ref a), some (.int fo), some (.int ce)] H'' _
    refine ⟨W00, {}, [none, some (.int fo), some (.int ce)], ⟨rfl, fun j d z => ?_⟩, rel00, ?_⟩
    · match j, z with
      | 1, z => cases z; exact ⟨_, rfl, rfl⟩
      | 2, z => cases z; exact ⟨_, rfl, rfl⟩
    · rw [e1]
      intro W' H3 e4 r4 u pu
      have eu : u = .int fo' := pu
      subst eu
      exact ⟨fo', _, e2, e3, rfl, kp_ext kp e4 rfl⟩
  · rintro σ H' ⟨fo, c, h1, h2, h3, kp⟩
    subst h3
    intro p hp
    refine ⟨_, rfl, a, _, rfl, .inl (by rw [o.x.K]; exact sqL_le (G := H) (G' := upd H' p (.dK [])) (fun b o z => by
      have nb : b ≠ p := fun e => by rw [e] at z; rw [kp.keep p o z] at hp; cases hp
      rw [upd_ne nb]; exact kp.keep b o z) sq), fun c' hc => ?_⟩
    have ncp : c' ≠ p := fun e => by rw [e, upd_same] at hc; cases hc
    have hc' : H' c' = none := by rw [upd_ne ncp] at hc; exact hc
    refine ⟨_, rfl, ?_⟩
    refine ⟨by rw [upd_ne (Ne.symm ncp), upd_same], [(.inr "cells", .ref c'), (.inr "at", .int 0), (.inr "digits", .int 0), (.inr "count", .int 0), (.inr "fold", .int fo)], rfl, by simp, ?_⟩
    exact q H' fo p c' kp h1 h2 hp hc' ncp
end
end Mp
set_option Elab.async false
set_option linter.all false
set_option maxRecDepth 100000
set_option maxHeartbeats 2000000
/-! MpSort: sorted lists of tuples: of ints, of tuples of ints. -/
namespace Mp
open PySem PySem.Spec PyProof.Rows L2
/-! ### orders -/
section
variable {α β : Type}
def lexL [DecidableEq α] (lt : α → α → Bool) : List α → List α → Bool
  | [], [] => false
  | [], _ :: _ => true
  | _ :: _, [] => false
  | x :: xs, y :: ys => if x = y then lexL lt xs ys else lt x y
/-- a strict order in which any two different ones compare -/
structure Sto (lt : α → α → Bool) : Prop where
  irr : ∀ x, lt x x = false
  tr : ∀ x y z, lt x y = true → lt y z = true → lt x z = true
  tot : ∀ x y, lt x y = false → lt y x = false → x = y
theorem Sto.asym {lt : α → α → Bool} (h : Sto lt) {x y : α} (e : lt x y = true) : lt y x = false := by
  cases z : lt y x with
  | false => rfl
  | true => have := h.tr x y x e z; rw [h.irr] at this; cases this
theorem Sto.swo {lt : α → α → Bool} (h : Sto lt) (k : β → α) : SrtO.Swo fun v u => lt (k v) (k u) := by
  refine ⟨fun x y e => h.asym e, fun x y z e1 e2 => ?_⟩
  cases q : lt (k z) (k x) with
  | false => rfl
  | true =>
    cases p : lt (k x) (k y) with
    | true => have := h.tr _ _ _ q p; rw [e2] at this; cases this
    | false =>
      have e := h.tot _ _ p e1
      rw [e] at q
      rw [e2] at q; cases q
abbrev ltI : Int → Int → Bool := fun i j => decide (i < j)
theorem sto_int : Sto ltI := ⟨fun x => by simp, fun x y z h1 h2 => by simp at *; omega, fun x y h1 h2 => by simp at *; omega⟩
theorem sto_lex [DecidableEq α] {lt : α → α → Bool} (h : Sto lt) : Sto (lexL lt) := by
  refine ⟨fun x => ?_, fun x => ?_, fun x => ?_⟩
  · induction x with
    | nil => rfl
    | cons a x ih => unfold lexL; rw [if_pos rfl]; exact ih
  · induction x with
    | nil =>
      intro y z h1 h2
      cases y with
      | nil => cases h1
      | cons b y =>
        cases z with
        | nil => cases h2
        | cons c z => rfl
    | cons a x ih =>
      intro y z h1 h2
      cases y with
      | nil => cases h1
      | cons b y =>
        cases z with
        | nil => cases h2
        | cons c z =>
          unfold lexL at h1 h2 ⊢
          by_cases e1 : a = b
          · rw [if_pos e1] at h1
            by_cases e2 : b = c
            · rw [if_pos e2] at h2
              rw [if_pos (e1.trans e2)]
              exact ih y z h1 h2
            · rw [if_neg e2] at h2
              rw [if_neg (e1 ▸ e2), e1]; exact h2
          · rw [if_neg e1] at h1
            by_cases e2 : b = c
            · rw [← e2, if_neg e1]; exact h1
            · rw [if_neg e2] at h2
              have q := h.tr _ _ _ h1 h2
              by_cases e3 : a = c
              · rw [e3, h.irr] at q; cases q
              · rw [if_neg e3]; exact q
  · induction x with
    | nil =>
      intro y h1 h2
      cases y with
      | nil => rfl
      | cons b y => cases h1
    | cons a x ih =>
      intro y h1 h2
      cases y with
      | nil => cases h2
      | cons b y =>
        unfold lexL at h1 h2
        by_cases e : a = b
        · rw [if_pos e] at h1
          rw [if_pos e.symm] at h2
          rw [e, ih y h1 h2]
        · rw [if_neg e] at h1
          rw [if_neg (Ne.symm e)] at h2
          exact absurd (h.tot _ _ h1 h2) e
def insT (lt : α → α → Bool) (x : α) : List α → List α
  | [] => [x]
  | y :: ys => if lt y x = true then y :: insT lt x ys else x :: y :: ys
def sortT (lt : α → α → Bool) : List α → List α
  | [] => []
  | x :: xs => insT lt x (sortT lt xs)
theorem insT_perm (lt : α → α → Bool) (x : α) : ∀ l, (insT lt x l).Perm (x :: l)
  | [] => .refl _
  | y :: ys => by
    unfold insT
    split
    · exact ((insT_perm lt x ys).cons y).trans (.swap x y ys)
    · exact .refl _
theorem sortT_perm (lt : α → α → Bool) : ∀ l, (sortT lt l).Perm l
  | [] => .refl _
  | x :: xs => (insT_perm lt x _).trans ((sortT_perm lt xs).cons x)
abbrev SrtT (lt : α → α → Bool) (l : List α) : Prop := l.Pairwise fun x y => lt y x = false
theorem insT_srt {lt : α → α → Bool} (h : Sto lt) (x : α) : ∀ {l : List α}, SrtT lt l → SrtT lt (insT lt x l)
  | [], _ => List.pairwise_singleton _ _
  | y :: ys, hl => by
    have hl' := List.pairwise_cons.mp hl
    unfold insT
    split
    · rename_i e
      refine List.pairwise_cons.mpr ⟨fun z hz => ?_, insT_srt h x hl'.2⟩
      rcases List.mem_cons.mp ((insT_perm lt x ys).mem_iff.mp hz) with q | q
      · rw [q]; exact h.asym e
      · exact hl'.1 z q
    · rename_i e
      have e' : lt y x = false := by simpa using e
      refine List.pairwise_cons.mpr ⟨fun z hz => ?_, hl⟩
      rcases List.mem_cons.mp hz with q | q
      · rw [q]; exact e'
      · exact (h.swo (fun a : α => a)).tr x y z e' (hl'.1 z q)
theorem sortT_srt {lt : α → α → Bool} (h : Sto lt) : ∀ l, SrtT lt (sortT lt l)
  | [] => List.Pairwise.nil
  | x :: xs => insT_srt h x (sortT_srt h xs)
theorem srtT_uniq {lt : α → α → Bool} (h : Sto lt) : ∀ {l m : List α}, SrtT lt l → SrtT lt m → l.Perm m → l = m
  | [], m, _, _, p => (List.Perm.eq_nil p.symm).symm
  | x :: l, [], _, _, p => absurd p.length_eq (by simp)
  | x :: l, y :: m, hl, hm, p => by
    have hl' := List.pairwise_cons.mp hl
    have hm' := List.pairwise_cons.mp hm
    have h1 : lt y x = false := by
      rcases List.mem_cons.mp (p.mem_iff.mpr (List.mem_cons_self (a := y) (l := m))) with e | e
      · rw [e]; exact h.irr _
      · exact hl'.1 y e
    have h2 : lt x y = false := by
      rcases List.mem_cons.mp (p.mem_iff.mp (List.mem_cons_self (a := x) (l := l))) with e | e
      · rw [e]; exact h.irr _
      · exact hm'.1 x e
    have e : x = y := h.tot _ _ h2 h1
    subst e
    rw [srtT_uniq h hl'.2 hm'.2 p.cons_inv]
/-- with the shorter one's place told apart -/
def lexF [DecidableEq α] (lt : α → α → Bool) (fin : Bool) : List α → List α → Bool
  | x :: xs, y :: ys => if x = y then lexF lt fin xs ys else lt x y
  | _, _ => fin
theorem lexF_eq [DecidableEq α] (lt : α → α → Bool) : ∀ (xs ys : List α) (fin : Bool), fin = decide (xs.length < ys.length) → lexF lt fin xs ys = lexL lt xs ys
  | [], [], fin, h => by subst h; rfl
  | [], _ :: _, fin, h => by subst h; simp [lexF, lexL]
  | _ :: _, [], fin, h => by subst h; simp [lexF, lexL]
  | x :: xs, y :: ys, fin, h => by
    unfold lexF lexL
    rw [lexF_eq lt xs ys fin (by rw [h]; simp)]
inductive P2 {α β : Type} (F : α → β → Prop) : List α → List β → Prop
  | nil : P2 F [] []
  | cons {a b as bs} : F a b → P2 F as bs → P2 F (a :: as) (b :: bs)
theorem P2.len {F : α → β → Prop} {as : List α} {bs : List β} (h : P2 F as bs) : as.length = bs.length := by
  induction h with
  | nil => rfl
  | cons _ _ ih => simp [ih]
theorem P2.perm {F : α → β → Prop} {bs bs' : List β} (p : bs.Perm bs') : ∀ {as : List α}, P2 F as bs → ∃ as', P2 F as' bs' ∧ as'.Perm as := by
  induction p with
  | nil => intro as h; exact ⟨as, h, .refl _⟩
  | cons b _ ih =>
    intro as h
    cases h with
    | cons h1 h2 => obtain ⟨as', q1, q2⟩ := ih h2; exact ⟨_ :: as', .cons h1 q1, q2.cons _⟩
  | swap b c l =>
    intro as h
    cases h with
    | cons h1 h2 => cases h2 with
      | cons h3 h4 => exact ⟨_, .cons h3 (.cons h1 h4), .swap _ _ _⟩
  | trans _ _ ih1 ih2 =>
    intro as h
    obtain ⟨as1, q1, q2⟩ := ih1 h
    obtain ⟨as2, q3, q4⟩ := ih2 q1
    exact ⟨as2, q3, q4.trans q2⟩
theorem P2.imp {F G : α → β → Prop} (f : ∀ a b, F a b → G a b) {as : List α} {bs : List β} (h : P2 F as bs) : P2 G as bs := by
  induction h with
  | nil => exact .nil
  | cons h1 _ ih => exact .cons (f _ _ h1) ih
theorem P2.mem {F : α → β → Prop} {as : List α} {bs : List β} (h : P2 F as bs) : ∀ b ∈ bs, ∃ a, F a b := by
  induction h with
  | nil => intro b hb; cases hb
  | cons h1 _ ih =>
    intro b hb
    rcases List.mem_cons.mp hb with z | z
    · exact ⟨_, z ▸ h1⟩
    · exact ih b z
end
abbrev lt1 : List Int → List Int → Bool := lexL ltI
abbrev ltK : List (List Int) → List (List Int) → Bool := lexL lt1
theorem sto_k : Sto ltK := sto_lex (sto_lex sto_int)
/-! ### what values stand for -/
theorem ints_at : ∀ {us : List Value} {ns : List Int}, IntsAre us ns → ∀ {j : Nat} {v : Value}, us[j]? = some v → ∃ t, v = .int (ns.getD j 0) t
  | _, _, .nil, j, v, h => by simp at h
  | _, _, .cons n t r, 0, v, h => by simp at h; subst h; exact ⟨t, rfl⟩
  | _, _, .cons n t r, j + 1, v, h => by
    obtain ⟨t', e⟩ := ints_at r (j := j) (v := v) (by simpa using h)
    exact ⟨t', by simpa using e⟩
theorem ints_len : ∀ {us : List Value} {ns : List Int}, IntsAre us ns → us.length = ns.length
  | _, _, .nil => rfl
  | _, _, .cons n t r => by simp [ints_len r]
theorem ints_one : ∀ {us : List Value} {ns ms : List Int}, IntsAre us ns → IntsAre us ms → ns = ms
  | _, _, _, .nil, .nil => rfl
  | _, _, _, .cons n t r, .cons _ _ r' => by rw [ints_one r r']
/-- an item: an int, or a tuple of ints -/
def CmV (h : Heap) : Bool → Value → List Int → Prop
  | true, v, l => ∃ i t, v = .int i t ∧ l = [i]
  | false, v, l => ∃ a items, v = .ref a ∧ h.IsTuple a items ∧ IntsAre items.toList l
/-- a tuple of such -/
def TpV (h : Heap) (m : Bool) (v : Value) (k : List (List Int)) : Prop := ∃ a items, v = .ref a ∧ h.IsTuple a items ∧ P2 (CmV h m) items.toList k
section
variable {h h' : Heap} {m : Bool} {v u : Value}
theorem isTuple_one {a : Addr} {i1 i2 : Array Value} (x : h.IsTuple a i1) (y : h.IsTuple a i2) : i1 = i2 := by
  obtain ⟨o, e1, _, n, d1⟩ := x
  obtain ⟨o', e2, _, n', d2⟩ := y
  rw [e1] at e2
  cases e2
  rw [d1] at d2
  injection d2
theorem isTuple_keep {a : Addr} {is : Array Value} (k : ∀ b o, h.get? b = some o → o.cls = .type "tuple" → h'.get? b = some o) (x : h.IsTuple a is) : h'.IsTuple a is := by
  obtain ⟨o, e1, c, r⟩ := x
  exact ⟨o, k a o e1 c, c, r⟩
theorem cm_one : ∀ {m : Bool} {v : Value} {l l' : List Int}, CmV h m v l → CmV h m v l' → l = l'
  | true, _, _, _, ⟨i, t, e, e1⟩, ⟨j, t', e', e2⟩ => by subst e; cases e'; rw [e1, e2]
  | false, _, _, _, ⟨a, is, e, x, y⟩, ⟨a', is', e', x', y'⟩ => by
    subst e; cases e'
    have z := isTuple_one x x'
    subst z
    exact ints_one y y'
theorem cms_one {us : List Value} {ks ls : List (List Int)} (a : P2 (CmV h m) us ks) : P2 (CmV h m) us ls → ks = ls := by
  induction a generalizing ls with
  | nil => intro b; cases b; rfl
  | cons h1 _ ih =>
    intro b
    cases b with
    | cons h2 t2 => rw [cm_one h1 h2, ih t2]
theorem tp_one {k l : List (List Int)} (a : TpV h m v k) (b : TpV h m v l) : k = l := by
  obtain ⟨x, is, e, t, r⟩ := a
  obtain ⟨x', is', e', t', r'⟩ := b
  subst e; cases e'
  have z := isTuple_one t t'
  subst z
  exact cms_one r r'
theorem cm_keep (k : ∀ b o, h.get? b = some o → o.cls = .type "tuple" → h'.get? b = some o) : ∀ {m : Bool} {v : Value} {l : List Int}, CmV h m v l → CmV h' m v l
  | true, _, _, x => x
  | false, _, _, ⟨a, is, e, x, y⟩ => ⟨a, is, e, isTuple_keep k x, y⟩
theorem tp_keep (k : ∀ b o, h.get? b = some o → o.cls = .type "tuple" → h'.get? b = some o) {l : List (List Int)} : TpV h m v l → TpV h' m v l := fun ⟨a, is, e, x, y⟩ => ⟨a, is, e, isTuple_keep k x, y.imp fun _ _ z => cm_keep k z⟩
end
open Classical in
/-- what v stands for, read at h -/
noncomputable def keyV (h : Heap) (m : Bool) (v : Value) : List (List Int) := if x : ∃ k, TpV h m v k then choose x else []
theorem keyV_eq {h : Heap} {m : Bool} {v : Value} {k : List (List Int)} (x : TpV h m v k) : keyV h m v = k := by
  unfold keyV
  rw [dif_pos ⟨k, x⟩]
  exact tp_one (Classical.choose_spec ⟨k, x⟩) x
/-! ### items compare -/
section
variable {A : Around} {s : Shared} {m : Bool} {v u : Value}
theorem lists_eq {l l' : List Int} {n n' : Nat} (h : n = l.length) (h' : n' = l'.length) : ((List.range (min n n')).all (fun j => decide (l.getD j 0 = l'.getD j 0)) && n == n') = decide (l = l') := by
  subst h h'
  by_cases e : l = l'
  · subst e; simp
  · rw [decide_eq_false e]
    by_cases e2 : l.length = l'.length
    · have : ∃ j, j < l.length ∧ l.getD j 0 ≠ l'.getD j 0 := by
        refine Classical.byContradiction fun z => e (List.ext_getElem e2 fun j h1 h2 => ?_)
        refine Classical.byContradiction fun y => z ⟨j, h1, ?_⟩
        simpa [List.getD, h1, h2] using y
      obtain ⟨j, h1, h2⟩ := this
      rw [Bool.and_eq_false_iff]
      refine .inl (List.all_eq_false.mpr ⟨j, by rw [List.mem_range]; omega, by simpa using h2⟩)
    · rw [Bool.and_eq_false_iff]
      exact .inr (by simpa using e2)
theorem arr_at {is : Array Value} {l : List Int} (r : IntsAre is.toList l) {j : Nat} (h : j < is.size) : ∃ t, is[j] = .int (l.getD j 0) t := ints_at r (by rw [Array.getElem?_toList]; exact getElem?_pos is j h)
theorem arr_len {is : Array Value} {l : List Int} (r : IntsAre is.toList l) : is.size = l.length := by rw [← ints_len r, Array.length_toList]
theorem cm_eq (hu : A.units < cLine) : ∀ {m : Bool} {v u : Value} {l l' : List Int}, CmV s.heap m v l → CmV s.heap m u l' → SeqAt.EqAt A s v u (decide (l = l'))
  | true, _, _, _, _, ⟨i, t, e, e1⟩, ⟨j, t', e', e2⟩ => by
    subst e e' e1 e2
    have z := SeqAt.EqAt.int_int (A := A) (s := s) i t j t'
    have : (i == j) = decide ([i] = [j]) := by by_cases q : i = j <;> simp [q]
    rw [this] at z
    exact z
  | false, _, _, l, l', ⟨a, is, e, x, r⟩, ⟨b, is', e', x', r'⟩ => by
    subst e e'
    by_cases q : a = b
    · subst q
      have z := isTuple_one x x'
      subst z
      rw [ints_one r r', decide_eq_true rfl]
      exact SeqAt.EqAt.same _
    · have z := SeqAt.RcAt.tuples (e := fun j => decide (l.getD j 0 = l'.getD j 0)) x x' hu fun j h1 h2 => by
        obtain ⟨t, e1⟩ := arr_at r h1
        obtain ⟨t', e2⟩ := arr_at r' h2
        rw [e1, e2]
        have y := SeqAt.EqAt.int_int (A := A.in1) (s := s) (l.getD j 0) t (l'.getD j 0) t'
        rw [show ∀ (i k : Int), (i == k) = decide (i = k) from fun i k => by by_cases q : i = k <;> simp [q]] at y
        exact y
      rw [lists_eq (arr_len r) (arr_len r')] at z
      exact SeqAt.EqAt.of_refs q z
theorem lexAt_eq {l l' : List Int} : ∀ (k i : Nat), i + k = min l.length l'.length → Ob.lexAt (fun j => decide (l.getD j 0 = l'.getD j 0)) (fun j => decide (l.getD j 0 < l'.getD j 0)) (decide (l.length < l'.length)) i k = lexF ltI (decide (l.length < l'.length)) (l.drop i) (l'.drop i)
  | 0, i, h => by
    rw [Ob.lexAt_zero]
    rcases Nat.lt_or_ge i l.length with z | z
    rotate_left
    · rw [List.drop_of_length_le z]; unfold lexF; rfl
    · have z2 : l'.length ≤ i := by omega
      rw [List.drop_of_length_le z2]
      cases l.drop i <;> rfl
  | k + 1, i, h => by
    have h1 : i < l.length := by omega
    have h2 : i < l'.length := by omega
    rw [Ob.lexAt_succ, List.drop_eq_getElem_cons h1, List.drop_eq_getElem_cons h2]
    unfold lexF
    have e1 : l.getD i 0 = l[i] := by simp [List.getD, h1]
    have e2 : l'.getD i 0 = l'[i] := by simp [List.getD, h2]
    rw [e1, e2, lexAt_eq k (i + 1) (by omega)]
    by_cases e : l[i] = l'[i]
    · rw [if_pos (by simpa using e), if_pos e]
    · rw [if_neg (by simpa using e), if_neg e]
theorem cm_lt (hu : A.units < cLine) {l l' : List Int} (x : CmV s.heap false v l) (y : CmV s.heap false u l') : Ob.RcOp .Lt A s v u (lt1 l l') := by
  obtain ⟨a, is, e, x, r⟩ := x
  obtain ⟨b, is', e', x', r'⟩ := y
  subst e e'
  have z := Ob.RcOp.tuples_lt (e := fun j => decide (l.getD j 0 = l'.getD j 0)) (r := fun j => decide (l.getD j 0 < l'.getD j 0)) x x' hu (fun j h1 h2 => by
    obtain ⟨t, e1⟩ := arr_at r h1
    obtain ⟨t', e2⟩ := arr_at r' h2
    rw [e1, e2]
    have y := SeqAt.EqAt.int_int (A := A.in1) (s := s) (l.getD j 0) t (l'.getD j 0) t'
    rw [show ∀ (i k : Int), (i == k) = decide (i = k) from fun i k => by by_cases q : i = k <;> simp [q]] at y
    exact y) fun j h1 h2 _ => by
    obtain ⟨t, e1⟩ := arr_at r h1
    obtain ⟨t', e2⟩ := arr_at r' h2
    rw [e1, e2]
    exact Ob.RcOp.lt_int _ _ t t'
  rw [arr_len r, arr_len r', lexAt_eq _ 0 (by omega), lexF_eq ltI _ _ _ (by simp)] at z
  simpa using z
end
end Mp
set_option Elab.async false
set_option linter.all false
set_option maxRecDepth 100000
set_option maxHeartbeats 2000000
/-! MpSort2: sorted lists of tuples, the rule. -/
namespace Mp
open PySem PySem.Spec PyProof.Rows L2
section
variable {prog : Program} {w : World} {A : Around} {E : Value → Shared → Prop} {s : Shared} {m : Bool} {v u : Value}
theorem one_lt1 {i j : Int} (h : ([i] : List Int) ≠ [j]) : lt1 [i] [j] = decide (i < j) := by
  have h' : i ≠ j := fun e => h (by rw [e])
  show (if i = j then _ else ltI i j) = _
  rw [if_neg h']
theorem cm_less (hu : A.units < cLine) {i : Nat} {Q : Bool → Shared → Prop} : ∀ {m : Bool} {v u : Value} {l l' : List Int}, CmV s.heap m v l → CmV s.heap m u l' → l ≠ l' → Q (lt1 l l') s → wpAny (model prog w) A (oneLt' (m && i == 0) v u) Q (fun _ _ => False) s
  | true, _, _, _, _, ⟨x, t, e, e1⟩, ⟨y, t', e', e2⟩, hn, q => by
    subst e e' e1 e2
    rw [one_lt1 hn] at q
    cases z : (i == 0) with
    | true => exact oneLt_int q
    | false => exact PySem.W.kat_one _ _ (PyProof.Rows.lt_int q)
  | false, _, _, _, _, x, y, _, q => by
    have z := cm_lt hu x y
    exact PySem.W.kat_one _ _ (z prog w _ _ q)
theorem kat_all (hu : A.units < cLine) {fin : Bool} {Q : Bool → Shared → Prop} {vs : List Value} {ks : List (List Int)} (x : P2 (CmV s.heap m) vs ks) : ∀ {us : List Value} {ls : List (List Int)} {i : Nat}, P2 (CmV s.heap m) us ls → Q (lexF lt1 fin ks ls) s →
    PySem.W.KatLex prog w A m fin Q (vs.zip us) i s := by
  induction x with
  | nil =>
    intro us ls i y q
    cases y with
    | nil => exact PySem.W.kat_nil q
    | cons _ _ => exact PySem.W.kat_nil q
  | cons h1 t1 ih =>
    intro us ls i y q
    cases y with
    | nil => exact PySem.W.kat_nil q
    | cons h2 t2 =>
      refine PySem.W.kat_cons (cm_eq hu h1 h2 prog w _ _ ?_)
      unfold lexF at q
      refine PySem.W.kat_go (fun e => ?_) (fun e => ?_)
      · rw [if_pos (of_decide_eq_true e)] at q
        exact PySem.W.kat_yes (ih t2 q)
      · rw [if_neg (of_decide_eq_false e)] at q
        exact PySem.W.kat_no (cm_less hu h1 h2 (of_decide_eq_false e) q)
theorem tp_lt (hu : A.units < cLine) {k l : List (List Int)} (x : TpV s.heap m v k) (y : TpV s.heap m u l) : wpAny (model prog w) A (keyLt' (tuples' m) v u) (fun r s' => s' = s ∧ r = ltK k l) (fun _ _ => False) s := by
  obtain ⟨a, is, e, ⟨o, ho, hc, n, hd⟩, r⟩ := x
  obtain ⟨b, is', e', ⟨o', ho', hc', n', hd'⟩, r'⟩ := y
  subst e e'
  refine PySem.W.kat_lt ho hd ho' hd' (kat_all hu r r' ⟨rfl, ?_⟩)
  refine lexF_eq lt1 k l _ ?_
  rw [← r.len, ← r'.len]
  simp
/-- the first items of non-empty tuples -/
theorem tp_firsts {h : Heap} : ∀ vs : List Value, (∀ v ∈ vs, ∃ k, k ≠ [] ∧ TpV h m v k) → ∃ fs : List Value, PySem.W.KatTups h vs fs ∧ fs.length = vs.length ∧ ∀ f ∈ fs, ∃ l, CmV h m f l
  | [], _ => ⟨[], PySem.W.KatTups.nil, rfl, fun f hf => by cases hf⟩
  | v :: vs, x => by
    obtain ⟨fs, t, hl, hi⟩ := tp_firsts vs fun u hu => x u (List.mem_cons_of_mem _ hu)
    obtain ⟨k, hk, a, is, e, ⟨o, ho, hc, n, hd⟩, r⟩ := x v List.mem_cons_self
    subst e
    cases z : is.toList with
    | nil => rw [z] at r; cases r; exact absurd rfl hk
    | cons f rest =>
      rw [z] at r
      cases r with
      | cons h1 t1 =>
        refine ⟨f :: fs, PySem.W.KatTups.cons ho hc hd (by rw [← Array.getElem?_toList, z]; rfl) t, by simp [hl], fun g hg => ?_⟩
        rcases List.mem_cons.mp hg with q | q
        · rw [q]; exact ⟨_, h1⟩
        · exact hi g q
theorem tp_kind {vs : List Value} (hne : 0 < vs.length) (x : ∀ v ∈ vs, ∃ k, k ≠ [] ∧ TpV s.heap m v k) {Q : SortKind → Shared → Prop} (q : Q (tuples' m) s) : wpAny (model prog w) A (keyKind' vs.toArray) Q E s := by
  obtain ⟨fs, t, hl, hi⟩ := tp_firsts vs x
  cases m with
  | true =>
    refine PySem.W.kat_kind (T := .type "int") t (by omega) (fun f hf => ?_) rfl (by
      have e : (Value.type "int" != Value.type "tuple") = true := by decide +kernel
      rw [e]; exact q)
    obtain ⟨l, i, tk, e, _⟩ := hi f hf
    subst e
    exact PySem.W.Looks.now
  | false =>
    refine PySem.W.kat_kind (T := .type "tuple") t (by omega) (fun f hf => ?_) rfl (by
      have e : (Value.type "tuple" != Value.type "tuple") = false := by decide +kernel
      rw [e]; exact q)
    obtain ⟨l, a, is, e, ⟨o, ho, hc, _⟩, _⟩ := hi f hf
    subst e
    have z : PySem.W.Looks (model prog w) s.heap (typeOf (.ref a)) o.cls := (PySem.W.Looks.ld ho).andThen .now
    rw [hc] at z
    exact z
theorem tp_sortable (hu : A.units < cLine) {a : Addr} {vs : List Value} (hne : 0 < vs.length) (x : ∀ v ∈ vs, ∃ k, k ≠ [] ∧ TpV s.heap m v k) (ha : ∀ o, s.heap.get? a = some o → o.cls ≠ .type "tuple") :
    SrtO.SortableO prog w A s a vs fun v u => ltK (keyV s.heap m v) (keyV s.heap m u) := by
  intro h' keep
  have kp : ∀ b o, s.heap.get? b = some o → o.cls = .type "tuple" → h'.get? b = some o := fun b o e c => keep b o (fun z => by subst z; exact ha o e c) e
  have x' : ∀ v ∈ vs, ∃ k, k ≠ [] ∧ TpV h' m v k := fun v hv => let ⟨k, h1, h2⟩ := x v hv; ⟨k, h1, tp_keep kp h2⟩
  refine ⟨tuples' m, fun Q E hq => tp_kind (s := { s with heap := h' }) hne x' hq, fun p q hp hq => ?_⟩
  obtain ⟨k, _, h1⟩ := x _ hp
  obtain ⟨l, _, h2⟩ := x _ hq
  have z := tp_lt (prog := prog) (w := w) (s := { s with heap := h' }) hu (tp_keep kp h1) (tp_keep kp h2)
  show wpAny (model prog w) A (keyLt' (tuples' m) p.1 q.1) (fun r s' => s' = _ ∧ r = ltK (keyV s.heap m p.1) (keyV s.heap m q.1)) (fun _ _ => False) _
  rw [keyV_eq h1, keyV_eq h2]
  exact z
end
/-! ### at a call -/
/-- an item, by what is tracked -/
def CmH (K : PySem.W.Frag) (H : Hp) : Bool → V → List Int → Prop
  | true, x, l => ∃ i, x = .int i ∧ l = [i]
  | false, x, l => ∃ a, x = .ref a ∧ SqT K H a (l.map V.int)
def TpH (K : PySem.W.Frag) (H : Hp) (m : Bool) (x : V) (k : List (List Int)) : Prop := ∃ a ys, x = .ref a ∧ SqT K H a ys ∧ P2 (CmH K H m) ys k
section
variable {X : Cx} {pins : List (Addr × Obj)} {σ : Sg} {H : Hp} {s : Shared} {m : Bool}
theorem ints_of_vals' : ∀ {ns : List Int} {us : List Value}, Vals (ns.map V.int) us → IntsAre us ns
  | [], _, .nil => .nil
  | n :: ns, _, .cons r t => let ⟨q, e⟩ := (r : RelV (.int n) _); by subst e; exact .cons n q (ints_of_vals' t)
theorem cm_of (I : Inv X pins σ H s) : ∀ {m : Bool} {x : V} {v : Value} {l : List Int}, CmH X.K H m x l → RelV x v → CmV s.heap m v l
  | true, _, _, _, ⟨i, e, e1⟩, r => by
    subst e
    obtain ⟨t, e2⟩ := (r : RelV (.int i) _)
    exact ⟨i, t, e2, e1⟩
  | false, _, _, _, ⟨a, e, h⟩, r => by
    subst e
    cases r
    obtain ⟨its, rv, tp, _⟩ := I.tuple h
    exact ⟨a, its.toArray, rfl, tp, by simpa using ints_of_vals' rv⟩
theorem cms_of (I : Inv X pins σ H s) {ys : List V} {k : List (List Int)} (h : P2 (CmH X.K H m) ys k) : ∀ {us : List Value}, Vals ys us → P2 (CmV s.heap m) us k := by
  induction h with
  | nil => intro us r; cases r; exact .nil
  | cons h1 _ ih =>
    intro us r
    cases r with
    | cons r1 r2 => exact .cons (cm_of I h1 r1) (ih r2)
theorem tp_of (I : Inv X pins σ H s) {x : V} {v : Value} {k : List (List Int)} (h : TpH X.K H m x k) (r : RelV x v) : TpV s.heap m v k := by
  obtain ⟨a, ys, e, hq, p⟩ := h
  subst e
  cases r
  obtain ⟨its, rv, tp, _⟩ := I.tuple hq
  exact ⟨a, its.toArray, rfl, tp, by simpa using cms_of I p rv⟩
/-- sorted(xs), xs a list of non-empty tuples; R: what is known of each one -/
def rSortT (K : PySem.W.Frag) : List V → Hp → VK → Prop := fun vs H Q => ∃ (a : Addr) (m : Bool) (R : V → List (List Int) → Prop) (ws : List V) (ks : List (List (List Int))), vs = [V.ref a] ∧ SqL K H a ws ∧ P2 R ws ks ∧ (∀ x k, R x k → k ≠ [] ∧ TpH K H m x k) ∧
  ∀ ws' p, P2 R ws' (sortT ltK ks) → ws'.length ≤ sizeLine → H p = none → Q (.ref p) (upd H p (.lst ws'))
theorem cr_sortedT (hu : X.A.units + 4 < cLine) : CallR X (.builtin "sorted") (rSortT X.K) := by
  intro pins s σ H vs us Q I r h
  obtain ⟨a, m, R, ws, ks, rfl, hs, p2, hR, q⟩ := h
  obtain ⟨its, rv, hl, hz⟩ := I.list hs
  rw [Vals.ref1 r]
  have lenW : ws.length = its.length := rv.length
  -- each value, with what is known of it
  have key : ∀ {ws : List V} {ks : List (List (List Int))} {us : List Value}, P2 R ws ks → Vals ws us → P2 (fun (z : V × List (List Int)) v => RelV z.1 v ∧ R z.1 z.2) (ws.zip ks) us := fun {ws ks us} h => by
    induction h generalizing us with
    | nil => intro r; cases r; exact .nil
    | cons h1 _ ih =>
      intro r
      cases r with
      | cons r1 r2 => exact .cons ⟨r1, h1⟩ (ih r2)
  have tri := key p2 rv
  have all : ∀ v ∈ its, ∃ k, k ≠ [] ∧ TpV s.heap m v k := fun v hv => by
    obtain ⟨z, r1, r2⟩ := tri.mem v hv
    obtain ⟨h1, h2⟩ := hR _ _ r2
    exact ⟨z.2, h1, tp_of I h2 r1⟩
  refine SrtO.sorted_ord (sto_k.swo (keyV s.heap m)) hl.isList (by rw [← lenW]; exact hz) (fun h2 h₁ a' ha' kk => ?_) fun out h1 h2 => ?_
  · have kp : ∀ b o, s.heap.get? b = some o → o.cls = .type "tuple" → h₁.get? b = some o := fun b o e _ => (kk b o e).2
    have eqk : ∀ v ∈ its, keyV h₁ m v = keyV s.heap m v := fun v hv => by
      obtain ⟨k, _, x⟩ := all v hv
      rw [keyV_eq x, keyV_eq (tp_keep kp x)]
    have z := tp_sortable (prog := X.prog) (w := X.w) (A := X.A.in1.in1) (s := { s with heap := h₁ }) (m := m) (a := a') (vs := its) (by simp [Around.in1]; omega) (by omega) (fun v hv => let ⟨k, x1, x2⟩ := all v hv; ⟨k, x1, tp_keep kp x2⟩) fun o e => by
      have e' : some o = some (seqObj "list" its.toArray 0) := e.symm.trans ha'
      cases e'
      intro c
      exact absurd (Value.type.inj c) (by decide)
    intro h' keep
    obtain ⟨κ, y1, y2⟩ := z h' keep
    refine ⟨κ, y1, fun p q hp hq => ?_⟩
    have y3 := y2 p q hp hq
    have e1 : (SrtO.lt2 fun v u => ltK (keyV h₁ m v) (keyV h₁ m u)) p q = (SrtO.lt2 fun v u => ltK (keyV s.heap m v) (keyV s.heap m u)) p q := by
      show ltK (keyV h₁ m p.1) (keyV h₁ m q.1) = ltK (keyV s.heap m p.1) (keyV s.heap m q.1)
      rw [eqk _ hp, eqk _ hq]
    rw [← e1]
    exact y3
  · obtain ⟨zs, t1, t2⟩ := tri.perm h2.perm.symm
    have unz : ∀ {zs : List (V × List (List Int))} {us : List Value}, P2 (fun (z : V × List (List Int)) v => RelV z.1 v ∧ R z.1 z.2) zs us → P2 R (zs.map (·.1)) (zs.map (·.2)) ∧ Vals (zs.map (·.1)) us ∧ us.map (keyV s.heap m) = zs.map (·.2) := fun {zs us} h => by
      induction h with
      | nil => exact ⟨.nil, .nil, rfl⟩
      | cons h1 _ ih => exact ⟨.cons h1.2 ih.1, .cons h1.1 ih.2.1, by rw [List.map_cons, List.map_cons, ih.2.2, keyV_eq (tp_of I (hR _ _ h1.2).2 h1.1)]⟩
    obtain ⟨u1, u2, u3⟩ := unz t1
    have zk : (ws.zip ks).map (·.2) = ks := by
      have e := p2.len
      exact List.map_snd_zip (Nat.le_of_eq e.symm)
    have pk : (zs.map (·.2)).Perm ks := by
      have z := t2.map (·.2)
      rw [zk] at z
      exact z
    have sk : SrtT ltK (zs.map (·.2)) := by
      rw [← u3]
      exact List.pairwise_map.mpr h1
    have ek : zs.map (·.2) = sortT ltK ks := srtT_uniq sto_k sk (sortT_srt sto_k ks) (pk.trans (sortT_perm ltK ks).symm)
    rw [ek] at u1
    have lenO : (zs.map (·.1)).length ≤ sizeLine := by
      rw [List.length_map, t2.length_eq, List.length_zip, ← p2.len, Nat.min_self]; exact hz
    obtain ⟨ep, he'⟩ := PyProof.Rows.sortedAll_at s.heap its out.toArray
    exact ⟨.ref _, upd H (s.heap.objs.size + 1) (.lst (zs.map (·.1))), I.laid (t' := s.toks) (fun _ _ => PyProof.Rows.sortedAll_old) (Nat.le_succ _) ⟨lenO, out, ep, u2, he'⟩, rfl, q _ _ u1 lenO (I.hok.fresh (Nat.le_succ _))⟩
end
end Mp
set_option Elab.async false
set_option linter.all false
set_option maxRecDepth 100000
set_option maxHeartbeats 2000000
/-! MpPrim: forms by name: isinstance of (tuple, list), len(set(..)), sorted, {}. -/
namespace Mp
open PySem PySem.Spec PyProof.Rows L2
/-- ints in order -/
theorem insI_perm (x : Int) : ∀ l, (insI x l).Perm (x :: l)
  | [] => .refl _
  | y :: ys => by
    unfold insI
    split
    · exact .refl _
    · exact ((insI_perm x ys).cons y).trans (.swap x y ys)
theorem sortI_perm : ∀ l, (sortI l).Perm l
  | [] => .refl _
  | x :: xs => (insI_perm x (sortI xs)).trans ((sortI_perm xs).cons x)
theorem insI_srt (x : Int) : ∀ l, l.Pairwise (· ≤ ·) → (insI x l).Pairwise (· ≤ ·)
  | [], _ => List.pairwise_singleton _ _
  | y :: ys, h => by
    have h' := List.pairwise_cons.mp h
    unfold insI
    split
    · rename_i hxy
      refine List.pairwise_cons.mpr ⟨fun z hz => ?_, h⟩
      rcases List.mem_cons.mp hz with e | e
      · rw [e]; exact hxy
      · exact Int.le_trans hxy (h'.1 z e)
    · rename_i hxy
      refine List.pairwise_cons.mpr ⟨fun z hz => ?_, insI_srt x ys h'.2⟩
      rcases List.mem_cons.mp ((insI_perm x ys).mem_iff.mp hz) with e | e
      · rw [e]; omega
      · exact h'.1 z e
theorem sortI_srt : ∀ l, (sortI l).Pairwise (· ≤ ·)
  | [] => .nil
  | x :: xs => insI_srt x _ (sortI_srt xs)
theorem srt_uniq : ∀ {l m : List Int}, l.Pairwise (· ≤ ·) → m.Pairwise (· ≤ ·) → l.Perm m → l = m
  | [], m, _, _, p => (List.Perm.eq_nil p.symm).symm
  | x :: l, [], _, _, p => absurd p.length_eq (by simp)
  | x :: l, y :: m, hl, hm, p => by
    have hl' := List.pairwise_cons.mp hl
    have hm' := List.pairwise_cons.mp hm
    have h1 : x ≤ y := by
      rcases List.mem_cons.mp (p.mem_iff.mpr (List.mem_cons_self (a := y) (l := m))) with e | e
      · omega
      · exact hl'.1 y e
    have h2 : y ≤ x := by
      rcases List.mem_cons.mp (p.mem_iff.mp (List.mem_cons_self (a := x) (l := l))) with e | e
      · omega
      · exact hm'.1 x e
    have e : x = y := by omega
    subst e
    rw [srt_uniq hl'.2 hm'.2 p.cons_inv]
/-- how many different ones -/
def difI (ns : List Int) : Nat := (ns.foldl step_dedup []).length
theorem firstMet_all (ns : List Int) : firstMet (fun i => ns.getD i 0) ns.length = ns.foldl step_dedup [] := by
  unfold firstMet
  congr 1
  refine List.ext_getElem? fun i => ?_
  rw [List.getElem?_map]
  by_cases h : i < ns.length
  · rw [List.getElem?_range h, List.getElem?_eq_getElem h]
    simp [List.getD, h]
  · rw [List.getElem?_eq_none (by simpa using h), List.getElem?_eq_none (by simpa using h)]
    rfl
/-! tuples of ints, tuples of tuples of ints: what they are sorted by -/
def cmD : Bool → D → Option (List Int)
  | true, .int i => some [i]
  | false, .tup xs => intsD xs
  | _, _ => none
def cmDs (m : Bool) : List D → Option (List (List Int))
  | [] => some []
  | d :: r => match cmD m d, cmDs m r with
    | some a, some b => some (a :: b)
    | _, _ => none
def tpD (m : Bool) : D → Option (List (List Int))
  | .tup (x :: xs) => cmDs m (x :: xs)
  | _ => none
def tpDs (m : Bool) : List D → Option (List (List (List Int)))
  | [] => some []
  | d :: r => match tpD m d, tpDs m r with
    | some a, some b => some (a :: b)
    | _, _ => none
def cmB : Bool → List Int → D
  | true, l => .int (l.headD 0)
  | false, l => .tup (l.map .int)
def tpB (m : Bool) (k : List (List Int)) : D := .tup (k.map (cmB m))
def sortedD (xs : List D) : Option D := match intsD xs with
  | some ns => some (.lst ((sortI ns).map D.int))
  | none => match tpDs true xs with
    | some ks => some (.lst ((sortT ltK ks).map (tpB true)))
    | none => match tpDs false xs with
      | some ks => some (.lst ((sortT ltK ks).map (tpB false)))
      | none => none
theorem sortedD_spec {xs : List D} {d : D} (h : sortedD xs = some d) : (∃ ns, intsD xs = some ns ∧ d = .lst ((sortI ns).map D.int)) ∨ ∃ m ks, tpDs m xs = some ks ∧ d = .lst ((sortT ltK ks).map (tpB m)) := by
  unfold sortedD at h
  cases h1 : intsD xs with
  | some ns => rw [h1] at h; exact .inl ⟨ns, rfl, (Option.some.inj h).symm⟩
  | none =>
    rw [h1] at h
    cases h2 : tpDs true xs with
    | some ks => rw [h2] at h; exact .inr ⟨true, ks, h2, (Option.some.inj h).symm⟩
    | none =>
      rw [h2] at h
      cases h3 : tpDs false xs with
      | some ks => rw [h3] at h; exact .inr ⟨false, ks, h3, (Option.some.inj h).symm⟩
      | none => rw [h3] at h; cases h
theorem cmD_back : ∀ {m : Bool} {d : D} {l : List Int}, cmD m d = some l → d = cmB m l ∧ (m = true → ∃ i, l = [i])
  | true, d, l, h => by
    cases d <;> first | (cases h; exact ⟨rfl, fun _ => ⟨_, rfl⟩⟩) | cases h
  | false, d, l, h => by
    cases d <;> first | (cases h; done) | skip
    rename_i xs
    exact ⟨by rw [intsD_eq (show intsD xs = some l from h)]; rfl, fun z => by cases z⟩
theorem cmDs_back {m : Bool} : ∀ {ds : List D} {k : List (List Int)}, cmDs m ds = some k → ds = k.map (cmB m) ∧ k.length = ds.length ∧ (m = true → ∀ l ∈ k, ∃ i, l = [i])
  | [], k, h => by cases h; exact ⟨rfl, rfl, fun _ l hl => by cases hl⟩
  | d :: ds, k, h => by
    unfold cmDs at h
    split at h
    · rename_i a b h1 h2
      cases h
      obtain ⟨e1, e2⟩ := cmD_back h1
      obtain ⟨e3, e4, e5⟩ := cmDs_back h2
      refine ⟨by rw [List.map_cons, ← e1, ← e3], by simp [e4], fun hm l hl => ?_⟩
      rcases List.mem_cons.mp hl with z | z
      · rw [z]; exact e2 hm
      · exact e5 hm l z
    · cases h
theorem tpD_back {m : Bool} {d : D} {k : List (List Int)} (h : tpD m d = some k) : d = tpB m k ∧ k ≠ [] ∧ (m = true → ∀ l ∈ k, ∃ i, l = [i]) := by
  unfold tpD at h
  split at h
  · rename_i x xs
    obtain ⟨e1, e2, e3⟩ := cmDs_back h
    exact ⟨by unfold tpB; rw [← e1], (fun z => by rw [z] at e2; cases e2), e3⟩
  · cases h
def primF (n : Str) : Option (List D → Option D) :=
  if n = "isiTL" then some (fun ds => match ds with
    | [d] => (match tyD d with
      | some m => some (.bl (m = "tuple" || m = "list"))
      | none => none)
    | _ => none)
  else if n = "lenset" then some (fun ds => match ds with
    | [.lst xs] => (match intsD xs with
      | some ns => if ns.length ≤ 4000 then some (.int (difI ns)) else none
      | none => none)
    | _ => none)
  else if n = "sorted" then some (fun ds => match ds with
    | [.lst xs] => sortedD xs
    | _ => none)
  else if n = "dict0" then some (fun ds => match ds with
    | [] => some (.dct [])
    | _ => none)
  else none
section
variable {P : Program} {w : World} {C : Rc} {base : Heap} {k : Nat} {N : List Str} {sc : Scope} {Wx : XK} {X : Cx} {Γ : Gm}
theorem prim_ev {n : Str} {f : List D → Option D} (hf : Γ.prim n = some f) {m : Es} {ρ : List (Option D)} {s : Ms} : ev Γ (.prim n m) ρ s = (evs Γ m ρ s).bind fun ds s => Out.opt (f ds) s := by
  show (match Γ.prim n with
    | some f => (evs Γ m ρ s).bind fun ds s => Out.opt (f ds) s
    | none => .bad) = _
  rw [hf]
/-- a form of one part -/
theorem prim1 {n : Str} {f : List D → Option D} (hf : Γ.prim n = some f) {m : E} {σ : Sg} {H : Hp} {Q Q' : VK} {W : Wd} {st : Ms} {ρ : List (Option D)} (sl : Slots C W ρ σ) (r : Rel C W st H) (q : OQ C Wx W H (RD C Q) (ev Γ (.prim n (.cons m .nil)) ρ st))
    (h : ∀ x d s W1 H1 v, Ext W H W1 H1 → Rel C W1 s H1 → Rep C W1 x v → f [x] = some d → (∀ W2 H2, Ext W1 H1 W2 H2 → Rel C W2 s H2 → RD C Q d s W2 H2) → Q' v H1) : tEv C Γ Wx m σ H Q' := by
  rw [prim_ev hf] at q
  have e1 : ((evs Γ (.cons m .nil) ρ st).bind fun ds s => Out.opt (f ds) s) = (ev Γ m ρ st).bind fun x s => Out.opt (f [x]) s := by
    show (((ev Γ m ρ st).bind fun x s => (evs Γ .nil ρ s).bind fun xs s => .ok (x :: xs) s).bind fun ds s => Out.opt (f ds) s) = _
    cases ev Γ m ρ st <;> rfl
  rw [e1] at q
  refine seqA sl r q fun x s W1 H1 v e1 r1 sl1 p1 q1 => ?_
  obtain ⟨d, hd, q2⟩ := q1.opt
  exact h x d s W1 H1 v e1 r1 p1 hd q2
/-- the names of which the module has none -/
abbrev FreeOk (C : Rc) : Prop := ∀ x ∈ freeNames, C.mg x = none
theorem kit_seven : ∀ m ∈ tyNames, ∀ n ∈ (["tuple", "list"] : List String), kitB m n = some (decide (m = n)) := by decide +kernel
theorem p_isiTL (o : XOk P w C base k N sc Wx X) (F : FreeOk C) {n : Str} {f : List D → Option D} (hf : Γ.prim n = some f) (hd : ∀ x d, f [x] = some d → ∃ m, tyD x = some m ∧ d = .bl (m = "tuple" || m = "list"))
    {a : Expr} {m : E} {p pt pl pos : Pos} {kk : Nat} {tp : Pos} (h1 : glB sc "isinstance" = true) (h2 : glB sc "tuple" = true) (h3 : glB sc "list" = true) (ha : plainX a = true) (pa : PE X a (tEv C Γ Wx m)) :
    PE X (.Call (.Name "isinstance" p) [a, .Tuple [.Name "tuple" pt, .Name "list" pl] kk tp] [] pos) (tEv C Γ Wx (.prim n (.cons m .nil))) := by
  obtain ⟨g1, g2, g3⟩ := gl_of o h1
  obtain ⟨t1, t2, t3⟩ := gl_of o h2
  obtain ⟨l1, l2, l3⟩ := gl_of o h3
  have fr : ∀ x ∈ freeNames, X.mg x = none := fun x hx => by rw [o.mg]; exact F x hx
  have et : PE X (.Name "tuple" pt) (tC (.ty "tuple")) := pe_bltn t1 (fr _ (by decide)) (by decide +kernel) rfl t3 t2
  have el : PE X (.Name "list" pl) (tC (.ty "list")) := pe_bltn l1 (fr _ (by decide)) (by decide +kernel) rfl l3 l2
  have es : PE X (.Tuple [.Name "tuple" pt, .Name "list" pl] kk tp) (tTup (tCons (tC (.ty "tuple")) (tCons (tC (.ty "list")) tNil))) := pe_tup (pa_cons et (pa_cons el pa_nil rfl) rfl)
  have hs : starEach [a, .Tuple [.Name "tuple" pt, .Name "list" pl] kk tp] X.env = (false, eval a X.env) :: starEach [.Tuple [.Name "tuple" pt, .Name "list" pl] kk tp] X.env := plain_star ha
  refine PE.imp (pe_callB (t := tCons (tEv C Γ Wx m) (tCons (tTup (tCons (tC (.ty "tuple")) (tCons (tC (.ty "list")) tNil))) tNil)) call_isiT g1 (fr _ (by decide)) boot_isinstance (pa_cons pa (pa_cons es pa_nil rfl) hs) g3 g2 hs (stars_any (by intro x hx; simp at hx; subst hx; rfl))) fun σ H Q ⟨W, st, ρ, sl, r, q⟩ => ?_
  refine prim1 hf sl r q fun x d s W1 H1 v e1 r1 p1 hx q1 => ?_
  obtain ⟨mm, hm, ed⟩ := hd x d hx
  subst ed
  refine ⟨by show 2 ≤ sizeLine; decide, fun tp' htp => ?_⟩
  have r2 := rel_own (o := .tup [V.ty "tuple", V.ty "list"]) r1 htp
  have mem := tyD_mem hm
  have k1 := kit_seven mm mem "tuple" (by decide)
  have k2 := kit_seven mm mem "list" (by decide)
  refine ⟨v, tp', [.ty "tuple", .ty "list"], .type mm, [.type "tuple", .type "list"], (mm = "tuple" || mm = "list"), rfl, upd_same, .cons (.ty _) (.cons (.ty _) .nil), by rw [o.K]; exact tyX_of r2 hm p1, ?_, q1 _ _ (ext_own htp) r2 _ rfl⟩
  refine kitAny_cons (kit_ty k1) (fun z => kitAny_cons (kit_ty k2) (fun z2 => ?_) fun z2 => ?_) fun z => ?_
  · have e1 := of_decide_eq_false z
    have e2 := of_decide_eq_false z2
    rw [kitAny_nil]
    simp [e1, e2]
  · simp [of_decide_eq_true z2]
  · simp [of_decide_eq_true z]
theorem p_dict0 (o : XOk P w C base k N sc Wx X) {n : Str} {f : List D → Option D} (hf : Γ.prim n = some f) (hd : ∀ d, f [] = some d → d = .dct []) {pos : Pos} : PE X (.Dict [] [] pos) (tEv C Γ Wx (.prim n .nil)) := by
  refine PE.imp pe_dnewK fun σ H Q ⟨W, st, ρ, sl, r, q⟩ => ?_
  rw [prim_ev hf] at q
  obtain ⟨d, e, q2⟩ := OQ.opt (show OQ C Wx W H (RD C Q) (Out.opt (f []) st) from q)
  have ed := hd d e
  subst ed
  exact fun p hp => q2 _ _ (ext_put r hp) (rel_put r hp) _ ⟨p, [], rfl, Wd.put_at, rfl⟩
/-- what is known of a tuple that is sorted -/
def KnT (C : Rc) (W : Wd) (m : Bool) (x : V) (k : List (List Int)) : Prop := k ≠ [] ∧ (m = true → ∀ l ∈ k, ∃ i, l = [i]) ∧ Rep C W (tpB m k) x
theorem knt_cms {K : PySem.W.Frag} {W : Wd} {H : Hp} (hK : C.K = K) (sub : ∀ a o, W.G a = some o → H a = some o) : ∀ {m : Bool} {k : List (List Int)} {vs : List V}, (m = true → ∀ l ∈ k, ∃ i, l = [i]) → Reps C W (k.map (cmB m)) vs → P2 (CmH K H m) vs k
  | m, [], vs, _, r => by
    have e : vs = [] := r
    subst e; exact .nil
  | m, l :: k, vs, hm, ⟨v, r, e, p, q⟩ => by
    subst e
    refine .cons ?_ (knt_cms hK sub (fun z l' hl => hm z l' (List.mem_cons_of_mem _ hl)) q)
    cases m with
    | true =>
      obtain ⟨i, el⟩ := hm rfl l List.mem_cons_self
      subst el
      exact ⟨i, p, rfl⟩
    | false =>
      obtain ⟨a, us, ev, sq, rs⟩ := p
      have e := Reps.ints rs
      subst e hK
      exact ⟨a, ev, sqT_le sub sq⟩
theorem knt_tp {K : PySem.W.Frag} {W : Wd} {H : Hp} (hK : C.K = K) (sub : ∀ a o, W.G a = some o → H a = some o) {m : Bool} {k : List (List Int)} {x : V} (h : KnT C W m x k) : k ≠ [] ∧ TpH K H m x k := by
  obtain ⟨h1, h2, a, ys, e, sq, rs⟩ := h
  refine ⟨h1, a, ys, e, ?_, knt_cms hK sub h2 rs⟩
  subst hK
  exact sqT_le sub sq
theorem knt_of {W : Wd} {m : Bool} : ∀ {xs : List D} {ks : List (List (List Int))} {ws : List V}, tpDs m xs = some ks → Reps C W xs ws → P2 (KnT C W m) ws ks
  | [], ks, ws, h, r => by
    cases h
    have e : ws = [] := r
    subst e; exact .nil
  | d :: xs, ks, ws, h, ⟨v, r, e, p, q⟩ => by
    subst e
    unfold tpDs at h
    split at h
    · rename_i a b h1 h2
      cases h
      obtain ⟨e1, e2, e3⟩ := tpD_back h1
      exact .cons ⟨e2, e3, by rw [← e1]; exact p⟩ (knt_of h2 q)
    · cases h
theorem knt_back {W : Wd} {m : Bool} {ws : List V} {ks : List (List (List Int))} (h : P2 (KnT C W m) ws ks) : Reps C W (ks.map (tpB m)) ws := by
  induction h with
  | nil => rfl
  | cons h1 _ ih => exact ⟨_, _, rfl, h1.2.2, ih⟩
theorem cr_sortedA (hu : X.A.units + 4 < cLine) : CallR X (.builtin "sorted") (fun vs H Q => rSortedI X.K vs H Q ∨ rSortT X.K vs H Q) := by
  intro pins s σ H vs us Q I r h
  rcases h with h | h
  · exact cr_sortedI pins s σ H vs us Q I r h
  · exact cr_sortedT hu pins s σ H vs us Q I r h
theorem p_sorted (o : XOk P w C base k N sc Wx X) (F : FreeOk C) {n : Str} {f : List D → Option D} (hf : Γ.prim n = some f) (hd : ∀ x d, f [x] = some d → ∃ xs, x = .lst xs ∧ sortedD xs = some d)
    {a : Expr} {m : E} {p pos : Pos} (h1 : glB sc "sorted" = true) (ha : plainX a = true) (pa : PE X a (tEv C Γ Wx m)) : PE X (.Call (.Name "sorted" p) [a] [] pos) (tEv C Γ Wx (.prim n (.cons m .nil))) := by
  obtain ⟨g1, g2, g3⟩ := gl_of o h1
  have hs : starEach [a] X.env = (false, eval a X.env) :: starEach [] X.env := plain_star ha
  have hu := o.units
  refine PE.imp (pe_callB (t := tCons (tEv C Γ Wx m) tNil) (cr_sortedA (by omega)) g1 (by rw [o.mg]; exact F _ (by decide)) (by decide +kernel) (pa_cons pa pa_nil hs) g3 g2 hs rfl) fun σ H Q ⟨W, st, ρ, sl, r, q⟩ => ?_
  refine prim1 hf sl r q fun x d s W1 H1 v e1 r1 p1 hx q1 => ?_
  obtain ⟨xs, ex, hso⟩ := hd x d hx
  subst ex
  obtain ⟨b, vs, ev, g, rp⟩ := p1
  subst ev
  rcases sortedD_spec hso with ⟨ns, hi, ed⟩ | ⟨mm, ks, hi, ed⟩
  · subst ed
    have exs := intsD_eq hi
    subst exs
    have evs := Reps.ints rp
    subst evs
    refine .inl ⟨b, ns, rfl, .inl (.inl (r1.sub _ _ g)), fun ns' p' h1 h2 hp => ?_⟩
    have e : ns' = sortI ns := srt_uniq h2 (sortI_srt ns) (h1.trans (sortI_perm ns).symm)
    subst e
    exact q1 _ _ (ext_put r1 hp) (rel_put r1 hp) _ ⟨p', _, rfl, Wd.put_at, Reps.ofInts _⟩
  · subst ed
    refine .inr ⟨b, mm, KnT C W1 mm, vs, ks, rfl, .inl (.inl (r1.sub _ _ g)), knt_of hi rp, fun x k hk => knt_tp (by rw [o.K]) r1.sub hk, fun ws' p' hP hl hp => ?_⟩
    have e2 := ext_put (o := .lst ws') r1 hp
    exact q1 _ _ e2 (rel_put r1 hp) _ ⟨p', _, rfl, Wd.put_at, Reps.le e2.le _ _ (knt_back hP)⟩
theorem ints_of_vals : ∀ {ns : List Int} {us : List Value}, Vals (ns.map V.int) us → IntsAre us ns
  | [], _, .nil => .nil
  | n :: ns, _, .cons r t => let ⟨q, e⟩ := (r : RelV (.int n) _); by subst e; exact .cons n q (ints_of_vals t)
theorem pe_difI {a : Expr} {ta : TE} {p p2 q pos : Pos} (hc : X.calm = true) (hg : Gl X "len") (hm : X.mg "len" = none) (hg2 : Gl X "set") (hm2 : X.mg "set" = none) (ha : PE X a ta) (na : starEach [a] X.env = (false, eval a X.env) :: starEach [] X.env) :
    PE X (.Call (.Name "len" p) [.Call (.Name "set" p2) [a] [] q] [] pos) (fun σ H Q => ta σ H fun x H1 => ∃ (l : Addr) (ns : List Int), x = .ref l ∧ SqL X.K H1 l (ns.map V.int) ∧ ns.length ≤ 4000 ∧ Q (.int (difI ns : Nat)) H1) := by
  refine ⟨fun pins s σ H Q I h => Call_ (ld_blt I hg hm boot_len (callWith_builtin1 (args_cons (Call_ (ld_blt I hg2 hm2 boot_set (callWith_type1 (args_cons ?_ na) na rfl))) rfl) rfl rfl))⟩
  refine thn (ha.run pins s σ H _ I h) fun v s1 ⟨x, H1, I1, r1, l, ns, ex, hq, hl, q1⟩ => args_nil ?_
  subst ex
  cases r1
  obtain ⟨its, rr, pl, hz⟩ := I1.list hq
  have hlen : its.toArray.size = ns.length := by rw [List.size_toArray, ← rr.length, List.length_map]
  have hb : its.toArray.size + 1 < scanBound := by rw [hlen]; unfold scanBound; omega
  refine call_set_list (I1.ok.hd hc) pl.isList (by simpa using ints_of_vals rr) hb fun h' tk hS hk => args_nil ?_
  rw [hlen, firstMet_all] at hS
  obtain ⟨o, es, ep, t, ho, hex, hd, _, _, _, hf, hn⟩ := hS
  have hle : difI ns ≤ ns.length := by
    have z := firstMet_length_le (fun i => ns.getD i 0) ns.length
    rw [firstMet_all] at z
    exact z
  have I2 : Inv X pins σ H1 { s1 with heap := h', toks := tk } := I1.kept fun b ob e => hk b ob (Heap.lt_size e) e
  have hn' : es.size = difI ns := hn
  exact call_len_set ho hex hd hf (by rw [hn'] <;> omega) ⟨.int (difI ns : Nat), H1, I2.tok _, ⟨_, by rw [hn']⟩, q1⟩
theorem p_lenset (o : XOk P w C base k N sc Wx X) (F : FreeOk C) {n : Str} {f : List D → Option D} (hf : Γ.prim n = some f) (hd : ∀ x d, f [x] = some d → ∃ xs ns, x = .lst xs ∧ intsD xs = some ns ∧ ns.length ≤ 4000 ∧ d = .int (difI ns : Nat))
    {a : Expr} {m : E} {p p2 q pos : Pos} (h1 : glB sc "len" = true) (h2 : glB sc "set" = true) (ha : plainX a = true) (pa : PE X a (tEv C Γ Wx m)) : PE X (.Call (.Name "len" p) [.Call (.Name "set" p2) [a] [] q] [] pos) (tEv C Γ Wx (.prim n (.cons m .nil))) := by
  obtain ⟨g1, g2, g3⟩ := gl_of o h1
  obtain ⟨s1, s2, s3⟩ := gl_of o h2
  refine PE.imp (pe_difI o.calm g1 (by rw [o.mg]; exact F _ (by decide)) s1 (by rw [o.mg]; exact F _ (by decide)) pa (plain_star ha)) fun σ H Q ⟨W, st, ρ, sl, r, q⟩ => ?_
  refine prim1 hf sl r q fun x d s W1 H1 v e1 r1 p1 hx q1 => ?_
  obtain ⟨xs, ns, ex, hi, hl, ed⟩ := hd x d hx
  subst ex ed
  have exs := intsD_eq hi
  subst exs
  obtain ⟨b, vs, ev, g, rp⟩ := p1
  subst ev
  have evs := Reps.ints rp
  subst evs
  exact ⟨b, ns, rfl, .inl (.inl (r1.sub _ _ g)), hl, q1 _ _ (.refl _ _) r1 _ rfl⟩
/-- every form by name -/
theorem prim_ok (o : XOk P w C base k N sc Wx X) (F : FreeOk C) (hΓ : Γ.prim = primF) {n : Str} {f : List D → Option D} (hf : Γ.prim n = some f) {e : Expr} {args : List Expr} {m : Es} (h : primM sc n e = some args) (hp : ∀ y ∈ args, plainX y = true) (ps : PEs C Γ Wx X m args) : PE X e (tEv C Γ Wx (.prim n m)) := by
  have hf' : primF n = some f := by rw [← hΓ]; exact hf
  have one : ∀ {a : Expr}, args = [a] → ∃ m1, m = .cons m1 .nil ∧ PE X a (tEv C Γ Wx m1) := fun {a} ea => by
    subst ea
    cases m with
    | nil => exact False.elim ps
    | cons m1 r =>
      cases r with
      | nil => exact ⟨m1, rfl, ps.1⟩
      | cons _ _ => exact False.elim ps.2
  unfold primM at h
  split at h
  · split at h
    · rename_i hc
      obtain ⟨c1, c2, c3, c4, c5, c6, c7⟩ := hc
      subst c1 c2 c3 c4
      have ea := (Option.some.inj h).symm
      obtain ⟨m1, em, pa⟩ := one ea
      subst em
      refine p_isiTL o F hf (fun x d z => ?_) c5 c6 c7 (hp _ (by rw [ea]; exact List.mem_cons_self)) pa
      have e1 : (fun ds => match ds with
        | [d] => (match tyD d with
          | some m => some (D.bl (m = "tuple" || m = "list"))
          | none => none)
        | _ => none) = f := Option.some.inj hf'
      rw [← e1] at z
      cases ht : tyD x with
      | none => simp [ht] at z
      | some mm => simp [ht] at z; exact ⟨mm, rfl, by rw [← z]⟩
    · cases h
  · split at h
    · rename_i hc
      obtain ⟨c1, c2, c3, c4, c5⟩ := hc
      subst c1 c2 c3
      have ea := (Option.some.inj h).symm
      obtain ⟨m1, em, pa⟩ := one ea
      subst em
      refine p_lenset o F hf (fun x d z => ?_) c4 c5 (hp _ (by rw [ea]; exact List.mem_cons_self)) pa
      have e1 : (fun ds => match ds with
        | [.lst xs] => (match intsD xs with
          | some ns => if ns.length ≤ 4000 then some (D.int (difI ns)) else none
          | none => none)
        | _ => none) = f := Option.some.inj hf'
      rw [← e1] at z
      cases x <;> first | (simp at z; done) | skip
      rename_i xs
      cases hi : intsD xs with
      | none => simp [hi] at z
      | some ns =>
        simp [hi] at z
        exact ⟨xs, ns, rfl, hi, z.1, z.2.symm⟩
    · cases h
  · split at h
    · rename_i hc
      obtain ⟨c1, c2, c3⟩ := hc
      subst c1 c2
      have ea := (Option.some.inj h).symm
      obtain ⟨m1, em, pa⟩ := one ea
      subst em
      refine p_sorted o F hf (fun x d z => ?_) c3 (hp _ (by rw [ea]; exact List.mem_cons_self)) pa
      have e1 : (fun ds => match ds with
        | [.lst xs] => sortedD xs
        | _ => none) = f := Option.some.inj hf'
      rw [← e1] at z
      cases x <;> first | (simp at z; done) | skip
      rename_i xs
      have z' : sortedD xs = some d := z
      exact ⟨xs, rfl, z'⟩
    · cases h
  · split at h
    · rename_i hc
      subst hc
      have ea := (Option.some.inj h).symm
      subst ea
      cases m with
      | cons _ _ => exact False.elim ps
      | nil =>
        refine p_dict0 o hf fun d z => ?_
        have e1 : (fun ds => match ds with
          | [] => some (D.dct [])
          | _ => none) = f := Option.some.inj hf'
        rw [← e1] at z
        exact (Option.some.inj z).symm
    · cases h
  · cases h
end
end Mp
set_option Elab.async false
set_option linter.all false
set_option maxRecDepth 100000
set_option maxHeartbeats 2000000
/-! MpExc: own errors: their __init__, their raising. -/
namespace Mp
open PySem PySem.Spec PyProof.Rows L2
/-- the base of the errors: its __init__ is ValueError's -/
structure ErrC (K : PySem.W.Frag) (cN : Addr) : Prop where
  rd : PySem.W.readsIn K cN (.type "type") = true
  ga : PySem.W.specialIn K (.ref cN) "__getattribute__" = some (some (.builtin "type.__getattribute__"))
  ini : PySem.W.findCls K (.ref cN) (.type "type") "__init__" = some (.val (.builtin "ValueError.__init__"))
def errB (K : PySem.W.Frag) (cN : Addr) : Bool := PySem.W.readsIn K cN (.type "type") && decide (PySem.W.specialIn K (.ref cN) "__getattribute__" = some (some (.builtin "type.__getattribute__"))) &&
  (match PySem.W.findCls K (.ref cN) (.type "type") "__init__" with
    | some (.val (.builtin n)) => decide (n = "ValueError.__init__")
    | _ => false)
theorem errB_ok {K : PySem.W.Frag} {cN : Addr} (h : errB K cN = true) : ErrC K cN := by
  unfold errB at h
  simp only [Bool.and_eq_true, decide_eq_true_eq] at h
  refine ⟨h.1.1, h.1.2, ?_⟩
  have z := h.2
  split at z
  · rename_i n e
    rw [e, of_decide_eq_true z]
  · cases z
theorem handed_ve : PySem.W.handedIn (.builtin "ValueError.__init__") = true := by decide +kernel
section
variable {X : Cx} {e : Expr} {es : List Expr} {ta : TA} {p1 p2 pos : Pos}
/-- the call of a method, the bracket on the name's line -/
theorem eval_meth {o : Expr} {name : Str} {apos pos : Pos} {args : List Expr} {env : Env} (hb : attributeBase o name env (eval o env) = eval o env) (hf : methodCallForm (args.length + ([] : List Keyword).length) (backTo pos (starEach args env)) (backToKw pos (keywordEach [] env)) = true) (hl : (apos.endLine == pos.line) = true) :
    eval (.Call (.Attribute o name apos) args [] pos) env = (do
      let ov ← eval o env
      standAt apos.atName
      let (f, first) ← holding [ov] (getMethod ov name (do return (← importBound o env).getD true))
      callWith pos f first (backTo pos (starEach args env)) (backToKw pos (keywordEach [] env))) := by
  show (do
    let ov ← attributeBase o name env (eval o env)
    standAt apos.atName
    methodCall o name apos pos env ov (args.length + ([] : List Keyword).length) (backTo pos (starEach args env)) (backToKw pos (keywordEach [] env))) = _
  rw [hb]
  have hp : methodCallPos true o env apos pos = pure pos := by unfold methodCallPos; simp [hl]
  unfold methodCall
  rw [hf, hp]
  rfl
/-- Base.__init__(self, ..) -/
theorem pe_errini {pl : Sem Bool} {b : Str} {cN : Addr} (hg : Gl X b) (hm : X.mg b = some (.ref cN)) (hd : (b == ("__debug__" : Str)) = false) (T : ErrC X.K cN) (ha : PA X (e :: es) ta)
    (he : starEach (e :: es) X.env = (false, eval e X.env) :: starEach es X.env) (hpl : (backTo pos (starEach es X.env)).any (·.1) = false) (hc : eval (.Call (.Attribute (.Name b p1) "__init__" p2) (e :: es) [] pos) X.env = (do
      let ov ← eval (.Name b p1) X.env
      standAt p2.atName
      let (f, first) ← holding [ov] (getMethod ov "__init__" pl)
      callWith pos f first (backTo pos (starEach (e :: es) X.env)) (backToKw pos (keywordEach [] X.env))) := by rfl) : PE X (.Call (.Attribute (.Name b p1) "__init__" p2) (e :: es) [] pos) (tVeI X.K ta) := by
  refine ⟨fun pins s σ H Q I h => ?_⟩
  refine PySem.W.methodCall_KW (ld_glob I hg hm ?_ hd) hc
  refine PySem.W.method_cls I.kIn T.ga (PySem.W.cls_value I.kIn T.rd T.ini handed_ve ?_)
  show wpAny _ _ (callWith pos (Value.builtin "ValueError.__init__") [] (backTo pos (starEach (e :: es) X.env)) []) _ _ _
  refine callWith_method1 (thn (ha.run pos pins _ σ H _ (I.tok _) h) fun us s1 ⟨vs, H1, I1, r1, a, C, ws, ev, hl, TC, ea, q⟩ => ?_) he hpl
  subst ev
  cases r1 with
  | cons ra rw' =>
    cases ra
    have hlen := Paired.length rw'
    exact oinit_ok TC I1 ea (by rw [← hlen, sizeLine_eq]; omega) fun s' J => ⟨.non, H1, J, rfl, q⟩
end
/-! ### the text of such an __init__ -/
def mtFs (N : List Str) (sc : Scope) : Nat → List Str → List Stmt → Bool
  | _, [], [] => true
  | i, f :: fs, .Assign [.Attribute (.Name s _) f' _] (.Name q _) _ :: r => decide (s = ("self" : Str)) && decide (f' = f) && rdB N sc i q && mtFs N sc (i + 1) fs r
  | _, _, _ => false
structure ErrT where
  x : Str
  m : Str
  s : Str
  t : Str
  j : Nat
  p1 : Pos
  p2 : Pos
  p3 : Pos
  p4 : Pos
  ps : Pos
  pc : Pos
  r : List Stmt
def errP : List Stmt → Option ErrT
  | .Expr (.Call (.Attribute (.Name x p1) m p2) [.Name s ps, .Constant (.str t) j pc] [] p3) p4 :: r => some ⟨x, m, s, t, j, p1, p2, p3, p4, ps, pc, r⟩
  | _ => none
theorem errP_inv {l : List Stmt} {T : ErrT} (h : errP l = some T) : l = .Expr (.Call (.Attribute (.Name T.x T.p1) T.m T.p2) [.Name T.s T.ps, .Constant (.str T.t) T.j T.pc] [] T.p3) T.p4 :: T.r := by
  unfold errP at h; split at h <;> cases h; rfl
def mtErr (N : List Str) (sc : Scope) (b : Str) (fs : List Str) (l : List Stmt) : Bool := match errP l with
  | some T => decide (T.x = b) && glB sc T.x && decide (T.m = ("__init__" : Str)) && decide (T.s = ("self" : Str)) && (T.p2.endLine == T.p3.line) && rdB N sc 0 "self" && mtFs N sc 1 fs T.r
  | none => false
def tAsgs (K : PySem.W.Frag) : Nat → List Str → TS
  | _, [] => tNext
  | i, f :: fs => fun D σ H => tOst K f (tVar 0) (tVar i) { D with nx := fun σ' H' => tAsgs K (i + 1) fs D σ' H' } σ H
theorem asgs_ps {X : Cx} {N : List Str} {sc : Scope} (hN : X.N = N) (hs : X.env.scope = sc) : ∀ {fs : List Str} {i : Nat} {ss : List Stmt}, rdB N sc 0 "self" = true → mtFs N sc i fs ss = true → PSs X ss (tAsgs X.K i fs)
  | [], i, [], _, _ => pss_nil
  | [], i, _ :: _, _, h => by cases h
  | f :: fs, i, [], _, h => by cases h
  | f :: fs, i, s :: ss, h0, h => by
    cases s <;> first | (simp [mtFs] at h; done) | skip
    rename_i tgs v pos
    rcases tgs with _ | ⟨tg, _ | ⟨_, _⟩⟩ <;> first | (simp [mtFs] at h; done) | skip
    cases tg <;> first | (simp [mtFs] at h; done) | skip
    rename_i b f' p2
    cases b <;> first | (simp [mtFs] at h; done) | skip
    rename_i s0 p1
    cases v <;> first | (simp [mtFs] at h; done) | skip
    rename_i q p3
    simp only [mtFs, Bool.and_eq_true, decide_eq_true_eq] at h
    obtain ⟨⟨⟨e1, e2⟩, e3⟩, e4⟩ := h
    subst e1 e2
    obtain ⟨a1, a2, a3, a4⟩ := rd_of h0
    obtain ⟨b1, b2, b3, b4⟩ := rd_of e3
    have vis : ∀ {x : Str}, visB sc x = true → Vis X.env.scope x := fun {x} hv => by
      rw [hs]
      unfold visB at hv
      simp only [Bool.or_eq_true, decide_eq_true_eq] at hv
      rcases hv with (z | z) | z
      · exact .inl z
      · exact .inr (.inl z)
      · exact .inr (.inr z)
    exact pss_cons (ps_ost (pe_var (i := 0) (by rw [hN]; exact a1) (vis a2) a3 a4) (pe_var (i := i) (by rw [hN]; exact b1) (vis b2) b3 b4) swap_attr) (asgs_ps hN hs h0 e4)
/-- what the storing of the fields leaves, once the dict is there -/
theorem asgs_run {K : PySem.W.Frag} {cl a dx : Addr} (T : OexC K cl) : ∀ {fs : List Str} {us : List V} {i : Nat} {pre : List (Str × V)} {σ : Sg} {H : Hp} {D : Ends}, (∀ f ∈ fs, PySem.W.findIn K (.ref cl) f = some none) → us.length = fs.length → pre.length + fs.length ≤ 900 →
    H a = some (exo a cl (some dx)) → H dx = some (exd dx pre) → σ[(0 : Nat)]? = some (some (.ref a)) → (∀ j u, us[j]? = some u → σ[i + j]? = some (some u)) → dx ≠ a →
    (∀ H', H' a = some (exo a cl (some dx)) → H' dx = some (exd dx ((fs.zip us).reverse ++ pre)) → (∀ b, b ≠ a → b ≠ dx → H' b = H b) → D.nx σ H') → tAsgs K i fs D σ H
  | [], us, i, pre, σ, H, D, _, _, _, ha, hd, _, _, _, q => q H ha hd fun _ _ _ => rfl
  | f :: fs, [], _, _, _, _, _, _, h, _, _, _, _, _, _, _ => by cases h
  | f :: fs, u :: us, i, pre, σ, H, D, hf, hl, hz, ha, hd, h0, hs, ne, q => by
    have e0 : σ[i]? = some (some u) := hs 0 u rfl
    refine ⟨u, e0, _, h0, a, cl, rfl, T, hf f List.mem_cons_self, .inr ⟨dx, pre, ha, hd, by simp at hz; omega, ?_⟩⟩
    refine asgs_run T (fun g hg => hf g (List.mem_cons_of_mem _ hg)) (Nat.succ.inj hl) (pre := (f, u) :: pre) (by simp at hz ⊢; omega) (by rw [upd_ne (Ne.symm ne)]; exact ha) upd_same h0 (fun j v hj => ?_) ne fun H' h1 h2 h3 => ?_
    · have := hs (j + 1) v hj
      rw [show i + (j + 1) = i + 1 + j by omega] at this
      exact this
    · refine q H' h1 ?_ fun b n1 n2 => by rw [h3 b n1 n2, upd_ne n2]
      rw [h2, List.zip_cons_cons, List.reverse_cons, List.append_assoc]
      rfl
/-- what such an __init__ promises -/
def spErr (K : PySem.W.Frag) (cl : Addr) (fs : List Str) : Sp := fun vs H Q _ => ∃ (a : Addr) (us : List V), vs = .ref a :: us ∧ us.length = fs.length ∧ H a = some (exo a cl none) ∧
  ∀ dx H', H dx = none → dx ≠ a → H' a = some (exo a cl (some dx)) → H' dx = some (exd dx (fs.zip us).reverse) → (∀ b, b ≠ a → b ≠ dx → H' b = H b) → Q .non H'
section
variable {P : Program} {w : World} {C : Rc} {base : Heap}
theorem fn_err {x qual : Str} {params : Arguments} {body : List Stmt} {scope : Scope} {fI cl cN : Addr} {fd : FuncData} {N : List Str} {b : Str} {fs : List Str} (F : FunD C.K x qual params body scope [] [] fI fd) (S : FnScope N (("self" : Str) :: fs) scope) (hm : mtErr N scope b fs body = true)
    (mg : C.mg b = some (.ref cN)) (TN : ErrC C.K cN) (T : OexC C.K cl) (hf : ∀ f ∈ fs, PySem.W.findIn C.K (.ref cl) f = some none) (h1 : 1 ≤ fs.length ∧ fs.length ≤ 800) (hN : fs.length + 1 ≤ N.length) : FnOk P w C.K C.mg base (CX P w) 1 fI fd (("self" : Str) :: fs) (spErr C.K cl fs) := by
  obtain ⟨oc, od, dV, kV, doc, pm, an, cdv, ct, osl, rfl, lk, hcd, _, _⟩ := F.ex
  refine fn_of (k := 0) lk hcd S (fun vs H Q E ⟨a, us, ev, hl, _⟩ => by rw [ev, List.length_cons, List.length_cons, hl]) fun A outer s H vs Q E hr ⟨a, us, ev, hl, ha, q⟩ => ?_
  subst ev
  generalize hX : cxOf (CX P w) P w C.K C.mg base N qual scope fI cdv A outer s H E = X
  have xN : X.N = N := by rw [← hX]; rfl
  have xS : X.env.scope = scope := by rw [← hX]; rfl
  have xK : X.K = C.K := by rw [← hX]; rfl
  have xm : X.mg = C.mg := by rw [← hX]; rfl
  unfold mtErr at hm
  split at hm
  · rename_i T0 hT
    have eb := errP_inv hT
    obtain ⟨x0, m, s1, t, j, p1, p2, p3, p0, ps, pc, r⟩ := T0
    simp only at eb hm
    subst eb
    · simp only [Bool.and_eq_true, decide_eq_true_eq] at hm
      obtain ⟨⟨⟨⟨⟨⟨e1, e2⟩, e3⟩, e4⟩, e7⟩, e5⟩, e6⟩ := hm
      subst e1 e3 e4
      obtain ⟨a1, a2, a3, a4⟩ := rd_of e5
      unfold glB at e2
      simp only [Bool.and_eq_true, decide_eq_true_eq, Bool.not_eq_true'] at e2
      have vis : Vis X.env.scope "self" := by
        rw [xS]
        unfold visB at a2
        simp only [Bool.or_eq_true, decide_eq_true_eq] at a2
        rcases a2 with (z | z) | z
        · exact .inl z
        · exact .inr (.inl z)
        · exact .inr (.inr z)
      have first := ps_expr (pos := p0) (pe_errini (X := X) (p1 := p1) (p2 := p2) (pos := p3) (b := x0) (cN := cN) (by show X.env.scope.names.lookup x0 = _; rw [xS]; exact e2.1.1) (by rw [xm]; exact mg) e2.1.2 (by rw [xK]; exact TN)
        (pa_cons (pe_var (pos := ps) (i := 0) (by rw [xN]; exact a1) vis a3 a4) (pa_cons (pe_str (x := t) (j := j) (pos := pc)) pa_nil rfl) rfl) rfl rfl (eval_meth rfl rfl (by simpa using e7)))
      refine ⟨_, pss_cons first (asgs_ps xN xS e5 e6), ?_⟩
      have s0 : (L2.start N (V.ref a :: us))[(0 : Nat)]? = some (some (V.ref a)) := rfl
      have sj : ∀ j u, us[j]? = some u → (L2.start N (V.ref a :: us))[1 + j]? = some (some u) := fun j u hj => by
        unfold L2.start
        have hlt : j < us.length := by
          by_cases z : j < us.length
          · exact z
          · rw [List.getElem?_eq_none (by omega)] at hj; cases hj
        rw [List.getElem?_append_left (by simp; omega), List.map_cons, show 1 + j = j + 1 by omega, List.getElem?_cons_succ, List.getElem?_map, hj]; rfl
      refine ⟨_, s0, a, cl, [.str t], rfl, by show 1 ≤ 1000; decide, by rw [xK]; exact T, ha, ?_⟩
      rw [xK]
      match fs, us, hl, h1, hf, sj, q with
      | f :: fs, u :: us, hl, h1, hf, sj, q =>
        refine ⟨u, sj 0 u rfl, _, s0, a, cl, rfl, T, hf f List.mem_cons_self, .inl ⟨ha, fun dx hdx ne => ?_⟩⟩
        refine asgs_run T (fun g hg => hf g (List.mem_cons_of_mem _ hg)) (Nat.succ.inj hl) (pre := [(f, u)]) (by simp at h1 ⊢; omega) upd_same (by rw [upd_ne ne]; exact upd_same) s0 (fun j v hj => ?_) ne fun H' k1 k2 k3 => ?_
        · have := sj (j + 1) v hj
          rw [show 1 + (j + 1) = 2 + j by omega] at this
          exact this
        · refine q dx H' hdx ne k1 ?_ fun b n1 n2 => by rw [k3 b n1 n2, upd_ne n1, upd_ne n2]
          rw [k2, List.zip_cons_cons, List.reverse_cons]
  · cases hm
end
end Mp
set_option Elab.async false
set_option linter.all false
set_option maxRecDepth 100000
set_option maxHeartbeats 2000000
/-! MpExc2: own errors are raised. -/
namespace Mp
open PySem PySem.Spec PyProof.Rows L2
section
variable {P : Program} {w : World} {C : Rc} {base : Heap} {k : Nat} {N : List Str} {sc : Scope} {Wx : XK} {X : Cx} {Γ : Gm}
theorem passes_no {E : Value → Shared → Prop} : Passes (CX P w) X (fun _ _ _ => False) := fun _ _ _ _ _ _ _ ⟨_, _, _, _, _, _, _, _, _, _, _, _, z⟩ => z.elim
theorem tEvs.imp {m : Es} {σ : Sg} {H : Hp} {Q Q' : List V → Hp → Prop} (h : tEvs C Γ Wx m σ H Q) (i : ∀ vs H', Q vs H' → Q' vs H') : tEvs C Γ Wx m σ H Q' :=
  let ⟨W, st, ρ, sl, r, q⟩ := h; ⟨W, st, ρ, sl, r, q.imp fun _ _ _ _ _ _ q1 vs p => i _ _ (q1 vs p)⟩
theorem repF_zip {W : Wd} : ∀ {fs : List Str} {ds : List D} {us : List V}, Reps C W ds us → RepF C W (fs.zip ds) (fs.zip us)
  | [], _, _, _ => rfl
  | f :: fs, [], us, r => by
    have e : us = [] := r
    subst e
    exact rfl
  | f :: fs, d :: ds, us, ⟨v, r, e, p, q⟩ => by
    subst e
    exact ⟨v, _, rfl, p, repF_zip q⟩
theorem RepF.append {W : Wd} : ∀ {a : List (Str × D)} {b : List (Str × D)} {x y : List (Str × V)}, RepF C W a x → RepF C W b y → RepF C W (a ++ b) (x ++ y)
  | [], _, x, _, r, q => by
    have e : x = [] := r
    subst e
    exact q
  | (n, d) :: a, _, x, _, ⟨v, r, e, p, t⟩, q => by
    subst e
    exact ⟨v, _, rfl, p, RepF.append t q⟩
theorem RepF.rev {W : Wd} : ∀ {a : List (Str × D)} {x : List (Str × V)}, RepF C W a x → RepF C W a.reverse x.reverse
  | [], x, r => by
    have e : x = [] := r
    subst e
    exact rfl
  | (n, d) :: a, x, ⟨v, r, e, p, t⟩ => by
    subst e
    rw [List.reverse_cons, List.reverse_cons]
    exact RepF.append (RepF.rev t) ⟨v, [], rfl, p, rfl⟩
/-- an error's class, with what it takes -/
structure ErrOk (P : Program) (w : World) (C : Rc) (base : Heap) (c : Str) (fs : List Str) (cl : Addr) : Prop where
  mg : C.mg c = some (.ref cl)
  T : OexC C.K cl
  ne : fs ≠ []
  fn : ∃ fI fd, PySem.W.findIn C.K (.ref cl) "__init__" = some (some (.ref fI)) ∧ PySem.W.typeIn C.K (.ref fI) = some (.type "function") ∧ FnOk P w C.K C.mg base (CX P w) 1 fI fd (("self" : Str) :: fs) (spErr C.K cl fs) ∧ Binds C.K fd (("self" : Str) :: fs) []
/-- an error made of these -/
def excD (c : Str) (fs : List Str) (ds : List D) : Option Exc := if ds.length = fs.length ∧ ds.length ≤ 1000 then some ⟨c, (fs.zip ds).reverse⟩ else none
theorem rse_ok {c : Str} {fs : List Str} {cl : Addr} (E : ErrOk P w C base c fs cl) (hk : 1 ≤ k) (o : XOk P w C base k N sc Wx X) {es : List Expr} {m : Es} {p pos pos2 : Pos} (hg : glB sc c = true) (hm : mts N sc m es = true) (ha : PA X es (tEvs C Γ Wx m)) :
    PS X (.Raise (some (.Call (.Name c p) es [] pos)) none pos2) (fun _ σ H => tEvs C Γ Wx m σ H fun vs H1 => ∃ W st ds x, Reps C W ds vs ∧ Rel C W st H1 ∧ excD c fs ds = some x ∧ ∀ cls dx W' H', Ext W H1 W' H' → Rel C W' st H' → RepX C W' x cls dx H' → Wx cls dx H') := by
  obtain ⟨fI, fd, f1, f2, f3, f4⟩ := E.fn
  obtain ⟨g1, g2, g3⟩ := gl_of o hg
  obtain ⟨o1, o2, o3, o4, o5, o6, o7, o8, o9, o10, o11⟩ := id o
  cases es with
  | nil =>
    cases m with
    | cons _ _ => simp [mts] at hm
    | nil =>
      cases fs with
      | nil => exact absurd E.ne (by simp)
      | cons f fs => exact ⟨fun pins s σ H D I ⟨W, st, ρ, sl, r, q⟩ => by
          obtain ⟨W1, s1, ds, x, rp, r1, hx, _⟩ := q W H (.refl W H) r [] rfl
          have e := rp.length
          unfold excD at hx
          rw [if_neg (fun z => by
            have z1 := z.1
            rw [e] at z1
            cases z1)] at hx
          cases hx⟩
  | cons e es =>
    have he : starEach (e :: es) X.env = (false, eval e X.env) :: starEach es X.env := plain_star (mts_plain hm e List.mem_cons_self)
    have hpl : (backTo pos (starEach es X.env)).any (·.1) = false := stars_any fun y hy => mts_plain hm y (List.mem_cons_of_mem _ hy)
    have F' : FnOk X.prog X.w X.K X.mg X.base (CX P w) 1 fI fd (("self" : Str) :: fs) (spErr C.K cl fs) := by rw [o1, o2, o3, o4, o5]; exact f3
    have mk := pmk_oex (X := X) (p := p) (pos := pos) (x := c) (C := cl) (fI := fI) (k := 1) (ds := []) (dvs := []) (by rw [o3]; exact E.T) (by rw [o3]; exact f1) (by rw [o3]; exact f2) F' (o.rm.room.mono (by omega)) (by rw [o3]; exact f4) .nil (passes_no (E := fun _ _ => False)) g1 (by rw [o4]; exact E.mg) ha g2 he hpl
    refine PS.imp (ps_raise (W := fun cls d _ H => Wx cls d H) o6 o11 mk) fun D σ H h => ?_
    refine h.imp fun vs H1 ⟨W, st, ds, x, rp, rel, hx, q⟩ => ?_
    unfold excD at hx
    split at hx
    · rename_i hl
      cases hx
      refine ⟨by rw [← rp.length]; exact hl.2, fun a ha => ⟨a, vs, by rw [List.append_nil], by rw [← rp.length]; exact hl.1, upd_same, fun dx H2 hd ne k1 k2 k3 => ?_⟩⟩
      have hd1 : H1 dx = none := by rw [upd_ne ne] at hd; exact hd
      refine ⟨rfl, dx, _, k1, k2, hd1, ?_⟩
      have eH : upd (L2.del H2 a) dx (.xd (fs.zip vs).reverse) = upd H1 dx (.xd (fs.zip vs).reverse) := by
        funext b
        by_cases hb : b = dx
        · rw [hb, upd_same, upd_same]
        · rw [upd_ne hb, upd_ne hb]
          by_cases hba : b = a
          · rw [hba, L2.del_same, ha]
          · rw [L2.del_ne hba, k3 b hba hb, upd_ne hba]
      rw [eH]
      exact q _ _ W _ (ext_own hd1) (rel_own rel hd1) ⟨cl, dx, _, rfl, E.mg, rfl, upd_same, RepF.rev (repF_zip rp)⟩
    · cases hx
end
end Mp
set_option Elab.async false
set_option linter.all false
set_option maxRecDepth 100000
set_option maxHeartbeats 2000000
/-! MpMod: a module's surroundings by tables; errors, own equality. -/
namespace Mp
open PySem PySem.Spec PyProof.Rows L2
structure Tb where
  fn : List (Str × Den) := []
  con : List (Str × D) := []
  ini : List (Str × Ini) := []
  kw : List ((Str × List Str) × Den) := []
  cls : List Str := []
  sub : List ((Str × Str) × Bool) := []
  isT : List ((Str × String) × Bool) := []
  fld : List (Str × Str) := []
  idn : List Str := []
  meth : List ((Str × Str) × Den) := []
  errs : List (Str × List Str) := []
  exm : List ((Str × Str) × Bool) := []
  lam : List (List (Option D) → Ms → Out D) := []
def Tb.gm (t : Tb) : Gm where
  fn := fun x => t.fn.lookup x
  con := fun x => t.con.lookup x
  mke := fun c => (t.ini.lookup c).map (mkDen c (t.idn.contains c))
  mkk := fun c ks => t.kw.lookup (c, ks)
  meth := fun c m => t.meth.lookup (c, m)
  own := fun c => t.cls.contains c
  sub := fun a b => t.sub.lookup (a, b)
  isT := fun a b => t.isT.lookup (a, b)
  idn := fun c => t.idn.contains c
  fld := fun c f => t.fld.contains (c, f)
  prim := primF
  lam := fun k => t.lam[k]?
def Tb.gx (t : Tb) : Gx where
  g := t.gm
  exc := fun c ds => match t.errs.lookup c with
    | some fs => excD c fs ds
    | none => none
  excs := fun c => (t.errs.lookup c).isSome
  exm := fun a b => t.exm.lookup (a, b)
  xfd := fun c f => match t.errs.lookup c with
    | some fs => fs.contains f
    | none => false
theorem in_of_lookup {α β : Type} [BEq α] [LawfulBEq α] {a : α} {b : β} : ∀ {l : List (α × β)}, l.lookup a = some b → (a, b) ∈ l
  | [], h => by cases h
  | (x, y) :: l, h => by
    rw [List.lookup_cons] at h
    split at h
    · rename_i e
      cases h
      rw [eq_of_beq e]
      exact List.mem_cons_self
    · exact List.mem_cons_of_mem _ (in_of_lookup h)
section
variable {P : Program} {w : World} {C : Rc} {base : Heap} {k : Nat}
/-- making by keywords alone, as it is promised -/
def MkkOk (P : Program) (w : World) (C : Rc) (base : Heap) (k : Nat) (c : Str) (ks : List Str) (den : Den) : Prop :=
  ∀ (N : List Str) (sc : Scope) (Wx : XK) (X : Cx), XOk P w C base k N sc Wx X → ∀ {kws : List Keyword} {t : TA} {p pos : Pos}, glB sc c = true → kws.map (·.arg) = ks.map some → PK X kws t → (∀ σ H Q, t σ H Q → t σ H fun vs H1 => vs.length = ks.length ∧ Q vs H1) →
    PE X (.Call (.Name c p) [] kws pos) (fun σ H Q => t σ H fun vs H1 => spDen C den vs H1 Q Wx)
/-- the call of a lambda that a name holds -/
def ActOk (P : Program) (w : World) (C : Rc) (base : Heap) (k : Nat) (Γ : Gm) : Prop :=
  ∀ (N : List Str) (sc : Scope) (Wx : XK) (X : Cx), XOk P w C base k N sc Wx X → ∀ {i : Nat} {x : Str} {p pos : Pos}, rdB N sc i x = true → PE X (.Call (.Name x p) [] [] pos) (tEv C Γ Wx (.act i))
theorem act_no {Γ : Gm} (h : ∀ n, Γ.lam n = none) : ActOk P w C base k Γ := fun N sc Wx X o i x p pos hr => by
  have bad : ∀ ρ s, ev Γ (.act i) ρ s = .bad := fun ρ s => by
    show (match (ρ[i]?).join with
      | some (.lam k) => (match s.env, Γ.lam k with
        | some e, some f => Out.envd (some e) (f e { s with env := none })
        | _, _ => .bad)
      | _ => .bad) = .bad
    split
    · rw [h]
      split
      · rename_i z; cases z
      · rfl
    · rfl
  exact ⟨fun _ _ _ _ _ _ ⟨W, st, ρ, sl, r, q⟩ => by rw [bad] at q; exact False.elim q⟩
theorem XOk.less {j k : Nat} {N : List Str} {sc : Scope} {Wx : XK} {X : Cx} (o : XOk P w C base k N sc Wx X) (h : j ≤ k) : XOk P w C base j N sc Wx X :=
  ⟨o.prog, o.wd, o.K, o.mg, o.base, o.calm, o.nm, o.nd, o.sc, o.rm.mono (Nat.succ_le_succ h), o.tk⟩
structure TbOk (P : Program) (w : World) (C : Rc) (base : Heap) (k : Nat) (t : Tb) : Prop where
  fn : ∀ p ∈ t.fn, DefOk P w C base k p.1 p.2
  con : ∀ p ∈ t.con, ∃ u v, C.mg p.1 = some u ∧ RelV v u ∧ ∀ W, Rep C W p.2 v
  ini : ∀ p ∈ t.ini, ∃ cl fI fd ps, C.mg p.1 = some (.ref cl) ∧ Mk C.K cl fI ∧ FnG P w C base k fI fd ps (spIni C p.1 p.2) ∧ Binds C.K fd ps []
  kw : ∀ p ∈ t.kw, MkkOk P w C base k p.1.1 p.1.2 p.2
  cls : ∀ c ∈ t.cls, ∃ cl, OwnC C c cl ∧ (∀ m ∈ tyNames, PySem.W.kitOne C.K (.type m) (.ref cl) = some false)
  idn : ∀ c ∈ t.idn, ∃ cl, C.mg c = some (.ref cl) ∧ IdC C.K cl
  sub : ∀ p ∈ t.sub, ∃ cl cl', C.mg p.1.1 = some (.ref cl) ∧ C.mg p.1.2 = some (.ref cl') ∧ PySem.W.kitOne C.K (.ref cl) (.ref cl') = some p.2
  isT : ∀ p ∈ t.isT, ∃ cl, C.mg p.1.1 = some (.ref cl) ∧ PySem.W.kitOne C.K (.ref cl) (.type p.1.2) = some p.2
  fld : ∀ p ∈ t.fld, ∃ cl, C.mg p.1 = some (.ref cl) ∧ Cls C.K cl ∧ NoAttr C.K cl p.2
  meth : ∀ p ∈ t.meth, MethOk P w C base k p.1.1 p.1.2 p.2
  errs : ∀ p ∈ t.errs, ∃ cl, ErrOk P w C base p.1 p.2 cl ∧ XfC C.K cl ∧ ∀ f ∈ p.2, PySem.W.findIn C.K (.ref cl) f = some none
  exm : ∀ p ∈ t.exm, ∃ cl cl', C.mg p.1.1 = some (.ref cl) ∧ C.mg p.1.2 = some (.ref cl') ∧ PySem.W.exmOne C.K (.ref cl) (.ref cl') = some p.2
  act : ActOk P w C base k t.gm
  lv : 1 ≤ k
  free : ∀ x ∈ freeNames, C.mg x = none
  sys : ∃ o, base.get? sysModules = some o
theorem mem_has {α : Type} [BEq α] [LawfulBEq α] {l : List α} {a : α} (h : l.contains a = true) : a ∈ l := by simpa using h
theorem gok {t : Tb} (T : TbOk P w C base k t) : GOk P w C base k t.gm := by
  have hid : ∀ c, t.gm.idn c = true → ∃ cl, C.mg c = some (.ref cl) ∧ IdC C.K cl := fun c h => T.idn c (mem_has h)
  refine
    { fn := fun x den h => T.fn (x, den) (in_of_lookup h)
      con := fun x d h => T.con (x, d) (in_of_lookup h)
      mke := fun c den h N sc Wx X o es t' p pos hg hp ha hn => ?_
      mkk := fun c ks den h => T.kw ((c, ks), den) (in_of_lookup h)
      own := fun c h => let ⟨cl, o, _⟩ := T.cls c (mem_has h); ⟨cl, o⟩
      sub := fun a b r h => T.sub ((a, b), r) (in_of_lookup h)
      isT := fun a b r h => T.isT ((a, b), r) (in_of_lookup h)
      tyO := fun m c hm h => let ⟨cl, o, z⟩ := T.cls c (mem_has h); ⟨cl, o.1, z m hm⟩
      fld := fun c f h => T.fld (c, f) (mem_has h)
      free := T.free
      sys := T.sys
      eqo := fun N sc Wx X o => ?_
      neo := fun N sc Wx X o => ?_
      prim := fun n f hf N sc Wx X o e args m h hp ps => prim_ok o T.free rfl hf h hp ps
      act := T.act }
  · have h' : (t.ini.lookup c).map (mkDen c (t.idn.contains c)) = some den := h
    obtain ⟨ini, e1, e2⟩ := Option.map_eq_some_iff.mp h'
    subst e2
    obtain ⟨cl, fI, fd, ps, mg, M, F, hb⟩ := T.ini (c, ini) (in_of_lookup e1)
    exact mke_ok M mg F hb o hg hp ha hn
  · intro pins s σ H x y v u Q I rx ry ⟨W, st, dx, dy, r, px, py, ⟨c, i, fs, ex⟩, q⟩
    subst ex
    have q1 : OQ C Wx W H (fun k _ _ H' => Q (.bl k) H') (if t.gm.idn c = true then (match (generalizing := false) dy with
      | .ins c' j _ => if t.gm.idn c' = true ∧ i ≠ 0 ∧ j ≠ 0 then .ok (decide (i = j)) st else .bad
      | _ => .bad) else match t.gm.meth c "__eq__" with
      | some m => if cmpB c dy = true then (m [.ins c i fs, dy] st).bind fun d s1 => match d with
        | .bl k => .ok k s1
        | _ => .bad else .bad
      | none => .bad) := q
    by_cases hc : t.gm.idn c = true
    · rw [if_pos hc] at q1
      cases dy with
      | ins c' j gs =>
        have q2 : OQ C Wx W H (fun k _ _ H' => Q (.bl k) H') (if t.gm.idn c' = true ∧ i ≠ 0 ∧ j ≠ 0 then .ok (decide (i = j)) st else .bad) := q1
        by_cases hz : t.gm.idn c' = true ∧ i ≠ 0 ∧ j ≠ 0
        · rw [if_pos hz] at q2
          exact eqo_idn hid o pins s σ H x y v u Q I rx ry ⟨W, st, _, _, r, px, py, c, i, fs, c', j, gs, rfl, rfl, hc, hz.1, hz.2.1, hz.2.2, q2 W H (.refl W H) r⟩
        · rw [if_neg hz] at q2; exact False.elim q2
      | _ => exact False.elim q1
    · rw [if_neg hc] at q1
      cases hm : t.gm.meth c "__eq__" with
      | none => rw [hm] at q1; exact False.elim q1
      | some m =>
        rw [hm] at q1
        by_cases hb : cmpB c dy = true
        · have q2 : OQ C Wx W H (fun k _ _ H' => Q (.bl k) H') (if cmpB c dy = true then (m [.ins c i fs, dy] st).bind fun d s1 => match d with
            | .bl k => .ok k s1
            | _ => .bad else .bad) := q1
          rw [if_pos hb] at q2
          exact own_cmp (op := .Eq) (m := "__eq__") (den := m) (c := c) rfl o (T.meth ((c, "__eq__"), m) (in_of_lookup hm)) pins s σ H x y v u Q I rx ry ⟨W, st, _, dy, i, fs, r, px, py, rfl, hb, q2⟩
        · have q2 : OQ C Wx W H (fun k _ _ H' => Q (.bl k) H') (if cmpB c dy = true then (m [.ins c i fs, dy] st).bind fun d s1 => match d with
            | .bl k => .ok k s1
            | _ => .bad else .bad) := q1
          rw [if_neg hb] at q2; exact False.elim q2
  · intro pins s σ H x y v u Q I rx ry ⟨W, st, dx, dy, r, px, py, ⟨c, i, fs, ex⟩, q⟩
    subst ex
    have q1 : OQ C Wx W H (fun k _ _ H' => Q (.bl k) H') (if t.gm.idn c = true then (match (generalizing := false) dy with
      | .ins c' j _ => if t.gm.idn c' = true ∧ i ≠ 0 ∧ j ≠ 0 then .ok (!decide (i = j)) st else .bad
      | _ => .bad) else match t.gm.meth c "__ne__" with
      | some m => if cmpB c dy = true then (m [.ins c i fs, dy] st).bind fun d s1 => match d with
        | .bl k => .ok k s1
        | _ => .bad else .bad
      | none => .bad) := q
    by_cases hc : t.gm.idn c = true
    · rw [if_pos hc] at q1
      cases dy with
      | ins c' j gs =>
        have q2 : OQ C Wx W H (fun k _ _ H' => Q (.bl k) H') (if t.gm.idn c' = true ∧ i ≠ 0 ∧ j ≠ 0 then .ok (!decide (i = j)) st else .bad) := q1
        by_cases hz : t.gm.idn c' = true ∧ i ≠ 0 ∧ j ≠ 0
        · rw [if_pos hz] at q2
          exact neo_idn hid o pins s σ H x y v u Q I rx ry ⟨W, st, _, _, r, px, py, c, i, fs, c', j, gs, rfl, rfl, hc, hz.1, hz.2.1, hz.2.2, q2 W H (.refl W H) r⟩
        · rw [if_neg hz] at q2; exact False.elim q2
      | _ => exact False.elim q1
    · rw [if_neg hc] at q1
      cases hm : t.gm.meth c "__ne__" with
      | none => rw [hm] at q1; exact False.elim q1
      | some m =>
        rw [hm] at q1
        have q2 : OQ C Wx W H (fun k _ _ H' => Q (.bl k) H') (if cmpB c dy = true then (m [.ins c i fs, dy] st).bind fun d s1 => match d with
            | .bl k => .ok k s1
            | _ => .bad else .bad) := q1
        by_cases hb : cmpB c dy = true
        · rw [if_pos hb] at q2
          exact own_cmp (op := .NotEq) (m := "__ne__") (den := m) (c := c) rfl o (T.meth ((c, "__ne__"), m) (in_of_lookup hm)) pins s σ H x y v u Q I rx ry ⟨W, st, _, dy, i, fs, r, px, py, rfl, hb, q2⟩
        · rw [if_neg hb] at q2; exact False.elim q2
theorem gxok {t : Tb} (T : TbOk P w C base k t) : GxOk P w C base k t.gx where
  g := gok T
  rse := fun c h N sc Wx X o es m p pos pos2 hg hm ha => by
    obtain ⟨fs, hl⟩ := Option.isSome_iff_exists.mp h
    obtain ⟨cl, E, _, _⟩ := T.errs (c, fs) (in_of_lookup hl)
    have e : ∀ ds, t.gx.exc c ds = excD c fs ds := fun ds => by
      show (match t.errs.lookup c with
        | some fs => excD c fs ds
        | none => none) = _
      rw [hl]
    refine PS.imp (rse_ok (Γ := t.gx.g) E T.lv o hg hm ha) fun D σ H q => q.imp fun vs H1 ⟨W, st, ds, x, a1, a2, a3, a4⟩ => ⟨W, st, ds, x, a1, a2, by rw [← e]; exact a3, a4⟩
  exm := fun c c' b h => T.exm ((c, c'), b) (in_of_lookup h)
  exc0 := fun c h => by
    obtain ⟨fs, hl⟩ := Option.isSome_iff_exists.mp h
    obtain ⟨cl, E, x, _⟩ := T.errs (c, fs) (in_of_lookup hl)
    exact ⟨cl, E.mg, x⟩
  xfd := fun c f h => by
    have h' : (match t.errs.lookup c with
      | some fs => fs.contains f
      | none => false) = true := h
    split at h'
    · rename_i fs hl
      obtain ⟨cl, E, x, z⟩ := T.errs (c, fs) (in_of_lookup hl)
      exact ⟨cl, E.mg, z f (mem_has h')⟩
    · cases h'
theorem allm_nil {α : Type} {Pr : α → Prop} : ∀ p ∈ ([] : List α), Pr p := fun _ h => by cases h
theorem allm_cons {α : Type} {Pr : α → Prop} {a : α} {l : List α} (h : Pr a) (t : ∀ p ∈ l, Pr p) : ∀ p ∈ a :: l, Pr p := fun p hp => by
  rcases List.mem_cons.mp hp with z | z
  · subst z; exact h
  · exact t p z
theorem allm_app {α : Type} {Pr : α → Prop} {l r : List α} (h : ∀ p ∈ l, Pr p) (t : ∀ p ∈ r, Pr p) : ∀ p ∈ l ++ r, Pr p := fun p hp => (List.mem_append.mp hp).elim (h p) (t p)
theorem ini_mono {j k : Nat} (h : j ≤ k) {c : Str} {ini : Ini} (i : ∃ cl fI fd ps, C.mg c = some (.ref cl) ∧ Mk C.K cl fI ∧ FnG P w C base j fI fd ps (spIni C c ini) ∧ Binds C.K fd ps []) :
    ∃ cl fI fd ps, C.mg c = some (.ref cl) ∧ Mk C.K cl fI ∧ FnG P w C base k fI fd ps (spIni C c ini) ∧ Binds C.K fd ps [] := by
  obtain ⟨cl, fI, fd, ps, h1, h2, h3, h4⟩ := i
  exact ⟨cl, fI, fd, ps, h1, h2, h3.mono h, h4⟩
theorem kw_mono {j k : Nat} (h : j ≤ k) {c : Str} {ks : List Str} {den : Den} (i : MkkOk P w C base j c ks den) : MkkOk P w C base k c ks den :=
  fun N sc Wx X o => i N sc Wx X (o.less h)
theorem meth_mono {j k : Nat} (h : j ≤ k) {c m : Str} {den : Den} (i : MethOk P w C base j c m den) : MethOk P w C base k c m den :=
  let ⟨cl, f, fd, ps, h1, h2, h3, h4, h5, h6⟩ := i; ⟨cl, f, fd, ps, h1, h2, h3, h4.mono h, h5, h6⟩
theorem act_mono {j k : Nat} (h : j ≤ k) {Γ : Gm} (a : ActOk P w C base j Γ) : ActOk P w C base k Γ := fun N sc Wx X o => a N sc Wx X (o.less h)
end
end Mp
set_option Elab.async false
set_option linter.all false
set_option maxRecDepth 100000
set_option maxHeartbeats 2000000
/-! MpLam: things that stay as they are are shown and hidden. -/
namespace Mp
open PySem PySem.Spec PyProof.Rows L2
open Classical in
/-- without these -/
noncomputable def hidL (H : Hp) (L : Addr → Prop) : Hp := fun a => if L a then none else H a
open Classical in
/-- H' with these as they are in H -/
noncomputable def backL (H H' : Hp) (L : Addr → Prop) : Hp := fun a => if L a then H a else H' a
section
variable {P : Program} {w : World} {H H' : Hp} {L : Addr → Prop} {h h' : Heap} {a : Addr} {o : HO} {fs : List Addr}
theorem hidL_in (x : L a) : hidL H L a = none := by unfold hidL; rw [if_pos x]
theorem hidL_out (x : ¬ L a) : hidL H L a = H a := by unfold hidL; rw [if_neg x]
theorem backL_in (x : L a) : backL H H' L a = H a := by unfold backL; rw [if_pos x]
theorem backL_out (x : ¬ L a) : backL H H' L a = H' a := by unfold backL; rw [if_neg x]
theorem hidL_some (e : hidL H L a = some o) : ¬ L a ∧ H a = some o := by
  by_cases x : L a
  · rw [hidL_in x] at e; cases e
  · rw [hidL_out x] at e; exact ⟨x, e⟩
abbrev FzL (H : Hp) (L : Addr → Prop) : Prop := ∀ a, L a → ∃ o, H a = some (FrzO o)
theorem fz_ne {F : FzL H L} (e : H a = some o) (n : ∀ ob, o ≠ FrzO ob) : ¬ L a := fun x => by
  obtain ⟨ob, z⟩ := F a x
  rw [e] at z
  exact n ob (Option.some.inj z)
theorem hok_hid (ok : HOk P w H h) (F : FzL H L) : HOk P w (hidL H L) h := fun b u e => by
  obtain ⟨x, e'⟩ := hidL_some e
  refine (ok b u e').stay (fun _ _ _ q => q) (fun c q => ?_) fun c xs q => ?_
  · rw [hidL_out (fz_ne (F := F) q fun ob z => by cases z)]; exact q
  · rw [hidL_out (fz_ne (F := F) q fun ob z => by cases z)]; exact q
theorem hok_back (ok' : HOk P w H' h') (n : ∀ b, L b → H' b = none) (F : ∀ b, L b → ∃ ob, H b = some (FrzO ob) ∧ h'.get? b = some ob) : HOk P w (backL H H' L) h' := fun b u e => by
  by_cases x : L b
  · rw [backL_in x] at e
    obtain ⟨ob, z1, z2⟩ := F b x
    rw [z1] at e
    cases e
    exact ⟨z2, trivial, ⟨_, z2⟩, fun _ _ _ _ => trivial⟩
  · rw [backL_out x] at e
    have keep : ∀ {c : Addr} {v : HO}, H' c = some v → backL H H' L c = some v := fun {c v} q => by
      rw [backL_out fun y => by rw [n c y] at q; cases q]; exact q
    exact (ok' b u e).stay (fun _ _ _ q => q) (fun c q => keep q) fun c xs q => keep q
/-- what ran without these, ran with them -/
theorem un_back (F : FzL H L) (nf : ∀ b, L b → b ∉ fs) (u : Un fs [] (hidL H L) H' h h') : Un fs [] H (backL H H' L) h h' where
  keep := fun b ob e n hb hx => u.keep b ob e (by unfold hidL; split <;> first | rfl | exact n) hb hx
  slot := fun b ob e n hb hx => u.slot b ob e (by unfold hidL; split <;> first | rfl | exact n) hb hx
  free := fun b ob e n hx => by
    have x : ¬ L b := fun y => by obtain ⟨_, z⟩ := F b y; rw [n] at z; cases z
    rw [backL_out x]; exact u.free b ob e (by rw [hidL_out x]; exact n) hx
  there := u.there
  tups := fun b xs e => by
    have x : ¬ L b := fz_ne (F := F) e fun ob z => by cases z
    rw [backL_out x]; exact u.tups b xs (by rw [hidL_out x]; exact e)
  frzs := fun b ob v e => by
    by_cases x : L b
    · rw [backL_in x]; exact e
    · rw [backL_out x]; exact u.frzs b ob v (by rw [hidL_out x]; exact e)
  tbls := fun b ps e => by
    have x : ¬ L b := fz_ne (F := F) e fun ob z => by cases z
    rw [backL_out x]; exact u.tbls b ps (by rw [hidL_out x]; exact e)
theorem ub_back {B : Heap} (F : FzL H L) (u : UB fs (hidL H L) H' h B h') : UB fs H (backL H H' L) h B h' where
  keep := fun b ob e n hb => u.keep b ob e (by unfold hidL; split <;> first | rfl | exact n) hb
  slot := u.slot
  free := fun b ob e n => by
    have x : ¬ L b := fun y => by obtain ⟨_, z⟩ := F b y; rw [n] at z; cases z
    rw [backL_out x]; exact u.free b ob e (by rw [hidL_out x]; exact n)
  there := u.there
  tups := fun b xs e => by
    have x : ¬ L b := fz_ne (F := F) e fun ob z => by cases z
    rw [backL_out x]; exact u.tups b xs (by rw [hidL_out x]; exact e)
  frzs := fun b ob v e => by
    by_cases x : L b
    · rw [backL_in x]; exact e
    · rw [backL_out x]; exact u.frzs b ob v (by rw [hidL_out x]; exact e)
  tbls := fun b ps e => by
    have x : ¬ L b := fz_ne (F := F) e fun ob z => by cases z
    rw [backL_out x]; exact u.tbls b ps (by rw [hidL_out x]; exact e)
/-- what ran with these, ran without them -/
theorem un_hid {H2 : Hp} (F : FzL H2 L) (out : ∀ b, ¬ L b → H2 b = H b) (inn : ∀ b, L b → H b = none) (ok : HOk P w H2 h) (ok' : HOk P w H' h') (u : Un fs [] H2 H' h h') : Un fs [] H (hidL H' L) h h' where
  keep := fun b ob e n hb hx => by
    by_cases x : L b
    · obtain ⟨o1, z⟩ := F b x
      have e1 := (ok b _ z).1
      have e2 := (ok' b _ (u.frzs b _ _ z)).1
      rw [e] at e1
      cases e1
      exact e2
    · exact u.keep b ob e (by rw [out b x]; exact n) hb hx
  slot := fun b ob e n hb hx => by
    by_cases x : L b
    · obtain ⟨o1, z⟩ := F b x
      have e1 := (ok b _ z).1
      have e2 := (ok' b _ (u.frzs b _ _ z)).1
      rw [e] at e1
      cases e1
      exact ⟨ob.slots, e2⟩
    · exact u.slot b ob e (by rw [out b x]; exact n) hb hx
  free := fun b ob e n hx => by
    by_cases x : L b
    · exact hidL_in x
    · rw [hidL_out x]; exact u.free b ob e (by rw [out b x]; exact n) hx
  there := u.there
  tups := fun b xs e => by
    have x : ¬ L b := fun y => by rw [inn b y] at e; cases e
    rw [hidL_out x]; exact u.tups b xs (by rw [out b x]; exact e)
  frzs := fun b ob v e => by
    have x : ¬ L b := fun y => by rw [inn b y] at e; cases e
    rw [hidL_out x]; exact u.frzs b ob v (by rw [out b x]; exact e)
  tbls := fun b ps e => by
    have x : ¬ L b := fun y => by rw [inn b y] at e; cases e
    rw [hidL_out x]; exact u.tbls b ps (by rw [out b x]; exact e)
theorem fz_after {H2 : Hp} (F : FzL H2 L) (u : Un fs [] H2 H' h h') : FzL H' L := fun b x => let ⟨o, z⟩ := F b x; ⟨o, u.frzs b _ _ z⟩
end
end Mp
set_option Elab.async false
set_option linter.all false
set_option maxRecDepth 100000
set_option maxHeartbeats 2000000
/-! MpLam2: the worlds with the law's cells hidden, and shown again. -/
namespace Mp
open PySem PySem.Spec PyProof.Rows L2
open Classical in
/-- the world without these -/
noncomputable def Wd.hid (W : Wd) (L : Addr → Prop) : Wd := { W with G := hidL W.G L, env := none }
/-- with these again -/
noncomputable def Wd.bk (W W' : Wd) (L : Addr → Prop) : Wd := { W' with G := backL W.G W'.G L, env := W.env }
/-- cells, each as it stands -/
abbrev CelL (G : Hp) (L : Addr → Prop) : Prop := ∀ a, L a → ∃ o v, G a = some (FrzO o) ∧ o.data = .cell v
theorem CelL.fz {G : Hp} {L : Addr → Prop} (c : CelL G L) : FzL G L := fun a x => let ⟨o, _, h, _⟩ := c a x; ⟨o, h⟩
section
variable {C : Rc} {W W' : Wd} {H H' : Hp} {st s : Ms} {L : Addr → Prop}
theorem sq_hid {K : PySem.W.Frag} (F : CelL W.G L) {a : Addr} {vs : List V} (q : SqT K W.G a vs) : SqT K (hidL W.G L) a vs := by
  rcases q with (g | ⟨u, g⟩) | g
  · exact .inl (.inl (by rw [hidL_out (fz_ne (F := F.fz) g fun ob z => by cases z)]; exact g))
  · refine .inl (.inr ⟨u, ?_⟩)
    rw [hidL_out (fz_ne (F := F.fz) g fun ob z => by cases z)]; exact g
  · exact .inr g
theorem out_fz (F : CelL W.G L) {a : Addr} {o : Obj} (g : W.G a = some (FrzO o)) (n : ∀ v, o.data ≠ .cell v) : ¬ L a := fun x => by
  obtain ⟨o', v, e, d⟩ := F a x
  rw [g] at e
  cases e
  exact n v d
mutual
theorem Rep.hid (F : CelL W.G L) : ∀ (d : D) (v : V), Rep C W d v → Rep C (W.hid L) d v
  | .non, v, r => r
  | .bl b, v, r => r
  | .int i, v, r => r
  | .str x, v, r => r
  | .tup ds, v, ⟨a, vs, e, q, r⟩ => ⟨a, vs, e, sq_hid F q, Reps.hid F ds vs r⟩
  | .lst ds, v, ⟨a, vs, e, q, r⟩ => ⟨a, vs, e, by
      show hidL W.G L a = _
      rw [hidL_out (fz_ne (F := F.fz) q fun ob z => by cases z)]; exact q, Reps.hid F ds vs r⟩
  | .dct ds, v, ⟨a, vs, e, q, r⟩ => ⟨a, vs, e, by
      show hidL W.G L a = _
      rw [hidL_out (fz_ne (F := F.fz) q fun ob z => by cases z)]; exact q, RepK.hid F ds vs r⟩
  | .ins c i fs, v, ⟨a, cl, dx, vs, e, m, q, r, z⟩ => ⟨a, cl, dx, vs, e, m, by
      show hidL W.G L a = _
      rw [hidL_out (fz_ne (F := F.fz) q fun ob z => by cases z)]; exact q, RepF.hid F fs vs r, z⟩
  | .pen, v, r => r
  | .scr, v, r => r
  | .lam k, v, ⟨f, c', t, pm, ctv, e, e2, q, r⟩ => ⟨f, c', t, pm, ctv, e, e2, by
      show hidL W.G L c' = _
      rw [hidL_out (fz_ne (F := F.fz) q fun ob z => by cases z)]; exact q, by
      show hidL W.G L f = _
      rw [hidL_out (out_fz F r fun v z => by cases z)]; exact r⟩
theorem Reps.hid (F : CelL W.G L) : ∀ (ds : List D) (vs : List V), Reps C W ds vs → Reps C (W.hid L) ds vs
  | [], vs, r => r
  | d :: ds, vs, ⟨v, r, e, p, q⟩ => ⟨v, r, e, Rep.hid F d v p, Reps.hid F ds r q⟩
theorem RepF.hid (F : CelL W.G L) : ∀ (ds : List (Str × D)) (vs : List (Str × V)), RepF C W ds vs → RepF C (W.hid L) ds vs
  | [], vs, r => r
  | (x, d) :: ds, vs, ⟨v, r, e, p, q⟩ => ⟨v, r, e, Rep.hid F d v p, RepF.hid F ds r q⟩
theorem RepK.hid (F : CelL W.G L) : ∀ (ds : List (Key × D)) (vs : List (Key × V)), RepK C W ds vs → RepK C (W.hid L) ds vs
  | [], vs, r => r
  | (x, d) :: ds, vs, ⟨v, r, e, p, q⟩ => ⟨v, r, e, Rep.hid F d v p, RepK.hid F ds r q⟩
end
theorem rel_hid (r : Rel C W st H) (F : CelL W.G L) : Rel C (W.hid L) { st with env := none } (hidL H L) where
  sub := fun a o e => by
    obtain ⟨x, e'⟩ := hidL_some e
    rw [hidL_out x]; exact r.sub a o e'
  pen := fun x hx => by
    obtain ⟨q, h1, h2, h3, h4⟩ := r.pen x hx
    have n1 : ¬ L x.1 := fun y => by obtain ⟨o, _, e, _⟩ := F _ y; rw [h3] at e; cases e
    have n2 : ¬ L x.2 := fz_ne (F := F.fz) h4 fun ob z => by cases z
    exact ⟨q, h1, by rw [hidL_out n1]; exact h2, by show hidL W.G L x.1 = _; rw [hidL_out n1]; exact h3, by show hidL W.G L x.2 = _; rw [hidL_out n2]; exact h4⟩
  penE := r.penE
  nid := r.nid
  idlt := fun i a e => by
    obtain ⟨h1, cl, dx, fs, h2⟩ := r.idlt i a e
    exact ⟨h1, cl, dx, fs, by show hidL W.G L a = _; rw [hidL_out (fz_ne (F := F.fz) h2 fun ob z => by cases z)]; exact h2⟩
  idinj := r.idinj
  envE := rfl
  env := fun ρ e => by cases e
/-- from the hidden world back -/
theorem le_bk (n : ∀ a, L a → W'.G a = none) : ∀ a o, W'.G a = some o → (W.bk W' L).G a = some o := fun a o e => by
  show backL W.G W'.G L a = _
  rw [backL_out fun x => by rw [n a x] at e; cases e]; exact e
mutual
theorem Rep.bk (n : ∀ a, L a → W'.G a = none) : ∀ (d : D) (v : V), Rep C W' d v → Rep C (W.bk W' L) d v
  | .non, v, r => r
  | .bl b, v, r => r
  | .int i, v, r => r
  | .str x, v, r => r
  | .tup ds, v, ⟨a, vs, e, q, r⟩ => ⟨a, vs, e, sqT_le (le_bk n) q, Reps.bk n ds vs r⟩
  | .lst ds, v, ⟨a, vs, e, q, r⟩ => ⟨a, vs, e, le_bk n _ _ q, Reps.bk n ds vs r⟩
  | .dct ds, v, ⟨a, vs, e, q, r⟩ => ⟨a, vs, e, le_bk n _ _ q, RepK.bk n ds vs r⟩
  | .ins c i fs, v, ⟨a, cl, dx, vs, e, m, q, r, z⟩ => ⟨a, cl, dx, vs, e, m, le_bk n _ _ q, RepF.bk n fs vs r, z⟩
  | .pen, v, r => r
  | .scr, v, r => r
  | .lam k, v, ⟨f, c', t, pm, ctv, e, e2, q, r⟩ => ⟨f, c', t, pm, ctv, e, e2, le_bk n _ _ q, le_bk n _ _ r⟩
theorem Reps.bk (n : ∀ a, L a → W'.G a = none) : ∀ (ds : List D) (vs : List V), Reps C W' ds vs → Reps C (W.bk W' L) ds vs
  | [], vs, r => r
  | d :: ds, vs, ⟨v, r, e, p, q⟩ => ⟨v, r, e, Rep.bk n d v p, Reps.bk n ds r q⟩
theorem RepF.bk (n : ∀ a, L a → W'.G a = none) : ∀ (ds : List (Str × D)) (vs : List (Str × V)), RepF C W' ds vs → RepF C (W.bk W' L) ds vs
  | [], vs, r => r
  | (x, d) :: ds, vs, ⟨v, r, e, p, q⟩ => ⟨v, r, e, Rep.bk n d v p, RepF.bk n ds r q⟩
theorem RepK.bk (n : ∀ a, L a → W'.G a = none) : ∀ (ds : List (Key × D)) (vs : List (Key × V)), RepK C W' ds vs → RepK C (W.bk W' L) ds vs
  | [], vs, r => r
  | (x, d) :: ds, vs, ⟨v, r, e, p, q⟩ => ⟨v, r, e, Rep.bk n d v p, RepK.bk n ds r q⟩
end
theorem ext_bk (r : Rel C W st H) (F : CelL W.G L) (e : Ext (W.hid L) (hidL H L) W' H') (r' : Rel C W' s H') (n : ∀ a, L a → H' a = none) : Ext W H (W.bk W' L) (backL H H' L) := by
  have n' : ∀ a, L a → W'.G a = none := fun a x => by
    cases z : W'.G a with
    | none => rfl
    | some o => have := r'.sub a o z; rw [n a x] at this; cases this
  have FH : FzL H L := fun a x => let ⟨o, _, h, _⟩ := F a x; ⟨o, r.sub _ _ h⟩
  refine ⟨⟨fun a o h => ?_, e.le.pen, e.le.ids, e.le.nid, rfl⟩, fun a o h np => ?_, fun a h => ?_, fun a o h => ?_, e.scr⟩
  · by_cases x : L a
    · show backL W.G W'.G L a = _
      rw [backL_in x]; exact h
    · show backL W.G W'.G L a = _
      rw [backL_out x]
      exact e.le.G a o (by show hidL W.G L a = _; rw [hidL_out x]; exact h)
  · by_cases x : L a
    · rw [backL_in x]; exact h
    · rw [backL_out x]
      exact e.keep a o (by rw [hidL_out x]; exact h) np
  · by_cases x : L a
    · rw [backL_in x] at h; exact h
    · rw [backL_out x] at h
      have := e.dom a h
      rw [hidL_out x] at this; exact this
  · by_cases x : L a
    · have h' : backL W.G W'.G L a = some o := h
      rw [backL_in x] at h'
      exact .inl h'
    · have h' : backL W.G W'.G L a = some o := h
      rw [backL_out x] at h'
      rcases e.newG a o h' with z | z
      · have z' : hidL W.G L a = some o := z
        rw [hidL_out x] at z'
        exact .inl z'
      · rw [hidL_out x] at z
        exact .inr z
theorem rel_bk (r : Rel C W st H) (F : CelL W.G L) (e : Ext (W.hid L) (hidL H L) W' H') (r' : Rel C W' s H') (n : ∀ a, L a → H' a = none) : Rel C (W.bk W' L) { s with env := W.env } (backL H H' L) := by
  have x := ext_bk r F e r' n
  have n' : ∀ a, L a → W'.G a = none := fun a x => by
    cases z : W'.G a with
    | none => rfl
    | some o => have := r'.sub a o z; rw [n a x] at this; cases this
  have nl : ∀ {a : Addr} {o : HO}, W'.G a = some o → ¬ L a := fun {a o} z y => by rw [n' a y] at z; cases z
  refine ⟨fun a o h => ?_, fun y hy => ?_, r'.penE, r'.nid, fun i a h => ?_, r'.idinj, rfl, fun ρ z => (r.env ρ z).le x.le⟩
  · have h' : backL W.G W'.G L a = some o := h
    by_cases y : L a
    · rw [backL_in y] at h' ⊢; exact r.sub a o h'
    · rw [backL_out y] at h' ⊢; exact r'.sub a o h'
  · obtain ⟨q, h1, h2, h3, h4⟩ := r'.pen y hy
    have n1 : ¬ L y.1 := fun z => by rw [n _ z] at h2; cases h2
    exact ⟨q, h1, by rw [backL_out n1]; exact h2, by show backL W.G W'.G L y.1 = _; rw [backL_out n1]; exact h3, le_bk n' _ _ h4⟩
  · obtain ⟨h1, cl, dx, fs, h2⟩ := r'.idlt i a h
    exact ⟨h1, cl, dx, fs, le_bk n' _ _ h2⟩
/-- what is to hold of an outcome in the hidden world -/
theorem oq_hid {Wx : XK} {Q : VK} (r : Rel C W st H) (F : CelL W.G L) : ∀ {o : Out D}, OQ C Wx W H (RD C Q) (Out.envd W.env o) →
    OQ C (fun cls d H' => (∀ a, L a → H' a = none) → Wx cls d (backL H H' L)) (W.hid L) (hidL H L) (RD C fun v H' => (∀ a, L a → H' a = none) → Q v (backL H H' L)) o
  | .bad, h => h
  | .ok d s, h => fun W' H' e r' v p n => by
    have n' : ∀ a, L a → W'.G a = none := fun a x => by
      cases z : W'.G a with
      | none => rfl
      | some o => have := r'.sub a o z; rw [n a x] at this; cases this
    exact h _ _ (ext_bk r F e r' n) (rel_bk r F e r' n) v (Rep.bk n' d v p)
  | .ex x s, h => fun cls dx W' H' e r' rx n => by
    have n' : ∀ a, L a → W'.G a = none := fun a x => by
      cases z : W'.G a with
      | none => rfl
      | some o => have := r'.sub a o z; rw [n a x] at this; cases this
    refine h cls dx _ _ (ext_bk r F e r' n) (rel_bk r F e r' n) ?_
    obtain ⟨cl, d, vs, k1, k2, k3, k4, k5⟩ := rx
    have nd : ¬ L d := fun z => by rw [n _ z] at k4; cases k4
    exact ⟨cl, d, vs, k1, k2, k3, by rw [backL_out nd]; exact k4, RepF.bk n' _ _ k5⟩
end
end Mp
set_option Elab.async false
set_option linter.all false
set_option maxRecDepth 100000
set_option maxHeartbeats 2000000
/-! MpAct: a lambda that a name holds is called. -/
namespace Mp
open PySem PySem.Spec PyProof.Rows L2
/-- what a lambda's text must be: no names of its own, its free names are cells of the law -/
structure LamSt (C : Rc) (t : LamT) : Prop where
  kind : t.scope.kind = .function
  co : t.scope.isCoroutine = false
  gen : t.scope.isGenerator = false
  own : ∀ y ∈ t.scope.names, y.2 ≠ .local ∧ y.2 ≠ .cell
  free : ∀ y ∈ t.scope.names, y.2 = .free → ∃ c, C.cells.lookup y.1 = some c
  bind : ∀ (q : Str) (cl : List (Str × Addr)) (pm cv ctv : Value), bindArgs (PySem.W.kla_fn "<lambda>" q t.params t.body t.scope cl pm cv ctv) ⟨[], []⟩ = pure []
/-- different names have different cells -/
abbrev CelInj (C : Rc) : Prop := ∀ x y c, C.cells.lookup x = some c → C.cells.lookup y = some c → x = y
abbrev clo (C : Rc) (t : LamT) : List (Str × Addr) := cloFrom C.cells t.scope.names []
theorem clo_in {C : Rc} {t : LamT} (L : LamSt C t) {y : Str} {c : Addr} (e : (clo C t).lookup y = some c) : C.cells.lookup y = some c := by
  rcases cloFrom_mem (PySem.mem_of_lookup e) with hm | ⟨h1, h2⟩
  · cases hm
  · obtain ⟨c1, hc⟩ := L.free _ h1 rfl
    have hc' : C.cells.lookup y = some c1 := hc
    have e2 : c = c1 := by rw [h2, hc'] <;> rfl
    rw [e2]; exact hc'
theorem clo_has {C : Rc} {t : LamT} {y : Str} (h : t.scope.names.lookup y = some .free) : ∃ c, (clo C t).lookup y = some c :=
  mem_lookup (cloFrom_has (cells := C.cells) (acc := []) (PySem.mem_of_lookup h))

/-- the worth of a lambda's body, as a reading -/
def tEvL (C : Rc) (f : List (Option D) → Ms → Out D) (Wx : XK) : TE := fun σ H Q => ∃ W st ρ, Slots C W ρ σ ∧ Rel C W st H ∧ OQ C Wx W H (RD C Q) (f ρ st)
/-- the law's names as the lambda's slots -/
theorem env_slots {C : Rc} {W : Wd} {e : List (Option D)} (h : EnvOk C W e) : ∃ σ : Sg, σ.length = C.lamN.length ∧ (∀ (i : Nat) (v : V), σ[i]? = some (some v) → ∃ (x : Str) (c : Addr) (u : Value) (o : Obj), C.lamN[i]? = some x ∧ C.cells.lookup x = some c ∧ RelV v u ∧ o.data = .cell (some u) ∧ W.G c = some (FrzO o)) ∧
    ∀ (i : Nat) (d : D), e[i]? = some (some d) → ∃ v, σ[i]? = some (some v) ∧ Rep C W d v := by
  have pick : ∀ i : Nat, ∃ sv : Option V, (∀ v, sv = some v → ∃ (x : Str) (c : Addr) (u : Value) (o : Obj), C.lamN[i]? = some x ∧ C.cells.lookup x = some c ∧ RelV v u ∧ o.data = .cell (some u) ∧ W.G c = some (FrzO o)) ∧ ∀ d, e[i]? = some (some d) → ∃ v, sv = some v ∧ Rep C W d v := fun i => by
    by_cases z : ∃ d, e[i]? = some (some d)
    · obtain ⟨d, hd⟩ := z
      obtain ⟨x, c, v, u, o, h1, h2, h3, h4, h5, h6⟩ := h.at_ i d hd
      exact ⟨some v, fun v' ev => by cases ev; exact ⟨x, c, u, o, h1, h2, h4, h5, h6⟩, fun d' hd' => by rw [hd] at hd'; cases hd'; exact ⟨v, rfl, h3⟩⟩
    · exact ⟨none, fun v ev => (by cases ev), fun d hd => absurd ⟨d, hd⟩ z⟩
  refine ⟨(List.range C.lamN.length).map fun i => Classical.choose (pick i), by simp, fun i v hv => ?_, fun i d hd => ?_⟩
  · rw [List.getElem?_map] at hv
    by_cases hi : i < C.lamN.length
    · rw [List.getElem?_range hi] at hv
      exact (Classical.choose_spec (pick i)).1 v (Option.some.inj hv)
    · rw [List.getElem?_eq_none (by simpa using hi)] at hv
      cases hv
  · have hi : i < C.lamN.length := by
      rw [← h.len]
      by_cases z : i < e.length
      · exact z
      · rw [List.getElem?_eq_none (by omega)] at hd; cases hd
    obtain ⟨v, ev, rv⟩ := (Classical.choose_spec (pick i)).2 d hd
    refine ⟨v, ?_, rv⟩
    rw [List.getElem?_map, List.getElem?_range hi]
    exact congrArg some ev
section
variable {P : Program} {w : World} {C : Rc} {base : Heap} {k : Nat} {N : List Str} {sc : Scope} {Wx : XK} {X : Cx}
theorem vis_of' (o : XOk P w C base k N sc Wx X) {x : Str} (hv : visB sc x = true) : Vis X.env.scope x := by
  rw [o.sc]
  unfold visB at hv
  simp only [Bool.or_eq_true, decide_eq_true_eq] at hv
  rcases hv with (z | z) | z
  · exact .inl z
  · exact .inr (.inl z)
  · exact .inr (.inr z)
/-- the cells of the law -/
abbrev CelS (C : Rc) : Addr → Prop := fun a => ∃ x, C.cells.lookup x = some a
/-- the surroundings of a lambda's body -/
noncomputable def lamY (C : Rc) (X : Cx) (s : Shared) (H : Hp) (t : LamT) (f c' : Addr) (Wx : XK) : Cx where
  prog := X.prog
  w := X.w
  K := X.K
  mg := X.mg
  base := X.base
  A := X.A.deeper (PySem.W.envX (C.lamQ ++ "<lambda>") t.scope s.heap.objs.size f (.ref c') (clo C t))
  N := C.lamN
  s_0 := s
  H_0 := hidL H (CelS C)
  env := PySem.W.envX (C.lamQ ++ "<lambda>") t.scope s.heap.objs.size f (.ref c') (clo C t)
  outer := X.stack
  stack := PySem.W.envX (C.lamQ ++ "<lambda>") t.scope s.heap.objs.size f (.ref c') (clo C t) :: X.stack
  ex := []
  fn := fun _ => false
  calm := true
  pn := []
  xe := fun e s' => wpAny (model X.prog X.w) (X.A.deeper (PySem.W.envX (C.lamQ ++ "<lambda>") t.scope s.heap.objs.size f (.ref c') (clo C t))) (leaving (PySem.W.envX (C.lamQ ++ "<lambda>") t.scope s.heap.objs.size f (.ref c') (clo C t)) e)
    (fun _ s'' => CX X.prog X.w X.stack H s Wx e s'') (fun e' s'' => CX X.prog X.w X.stack H s Wx e' s'') s'
/-- what the hidden world wishes of an error -/
noncomputable abbrev wxH (C : Rc) (H : Hp) (Wx : XK) : XK := fun cls d H' => (∀ a, CelS C a → H' a = none) → Wx cls d (backL H H' (CelS C))
theorem lam_takes {s : Shared} {H : Hp} {t : LamT} {f c' : Addr} (hok : HOk X.prog X.w H s.heap) (F : CelL H (CelS C)) (nf : ∀ b, CelS C b → b ∉ frs X.stack) : Takes (lamY C X s H t f c' Wx) fun cls d _ G => wxH C H Wx cls d G := by
  intro u s' x
  refine wpAny_mono (XE.leave (X := lamY C X s H t f c' Wx) (W := fun cls d _ G => wxH C H Wx cls d G) (E := wxH C H Wx) rfl rfl rfl (fun _ _ _ _ h => h) x) (fun _ s'' z => ?_) fun _ _ z => z
  obtain ⟨a, B, H', cls, d, ea, fl, hokB, ub, na, os, ag, e⟩ := z
  have none' : ∀ b, CelS C b → H' b = none := fun b y => by
    obtain ⟨o, v, h1, _⟩ := F b y
    exact ub.free b o (hok b _ h1).1 (hidL_in y)
  have inB : ∀ b, CelS C b → ∃ o, H b = some (FrzO o) ∧ B.get? b = some o := fun b y => by
    obtain ⟨o, v, h1, _⟩ := F b y
    exact ⟨o, h1, ub.keep b o (hok b _ h1).1 (hidL_in y) (nf b y)⟩
  refine ⟨a, B, backL H H' (CelS C), cls, d, ea, fl, hok_back hokB none' inB, ub_back F.fz ub, ?_, os, ag, e none'⟩
  by_cases y : CelS C a
  · exfalso
    obtain ⟨o, v, h1, h2⟩ := F a y
    obtain ⟨o2, g1, g2⟩ := inB a y
    rw [h1] at g1
    cases g1
    have st : s''.heap.get? a = some o := fl.1 a o g2
    obtain ⟨oe, vs, k1, _, k3⟩ := fl.there
    rw [st] at k1
    cases k1
    rw [h2] at k3
    cases k3
  · rw [backL_out y]; exact na
/-- the body is entered -/
theorem lam_enter {pins : List (Addr × Obj)} {σ σL : Sg} {s : Shared} {H : Hp} {t : LamT} {f c' : Addr} {h₁ : Heap} {tk : Nat} (I : Inv X pins σ H s) (L : LamSt C t) (inj : CelInj C) (F : CelL H (CelS C)) (hh : X.A.handled = none)
    (hl : σL.length = C.lamN.length) (hσ : ∀ (i : Nat) (v : V), σL[i]? = some (some v) → ∃ (x : Str) (c : Addr) (u : Value) (o : Obj), C.lamN[i]? = some x ∧ C.cells.lookup x = some c ∧ RelV v u ∧ o.data = .cell (some u) ∧ H c = some (FrzO o))
    (hns : h₁.Ns s.heap.objs.size fun y => ([] : List (Str × Value)).reverse.lookup y) (kp : ∀ b o, s.heap.get? b = some o → h₁.get? b = some o) :
    Inv (lamY C X s H t f c' Wx) [] σL (hidL H (CelS C)) { s with heap := h₁, toks := tk } := by
  have e0 := I.env0
  have isC : ∀ {c : Addr}, CelS C c → ∃ v, h₁.IsCell c v := fun {c} y => by
    obtain ⟨o, v, h1, h2⟩ := F c y
    exact ⟨v, o, kp _ _ (I.hok c _ h1).1, h2⟩
  have noA : ∀ b : Addr, b ∉ (lamY C X s H t f c' Wx).ex := fun b z => nomatch (show b ∈ ([] : List Addr) from z)
  have none0 : ∀ {b : Addr}, H b = none → hidL H (CelS C) b = none := fun {b} n => by unfold hidL; split <;> first | rfl | exact n
  have okY : (lamY C X s H t f c' Wx).Ok :=
    { mod := e0.mod
      kind := L.kind
      glob := rfl
      blt := rfl
      above := Nat.le_refl _
      inj := fun x y c e1 e2 => inj x y c (clo_in L e1) (clo_in L e2)
      has := fun x hx => by
        have hx' : t.scope.names.lookup x = some .cell ∨ t.scope.names.lookup x = some .free := hx
        rcases hx' with z | z
        · exact absurd rfl (L.own _ (PySem.mem_of_lookup z)).2
        · exact clo_has z
      cab := fun x c z _ => by
        have z : false = true := z
        cases z
      hd := fun _ => hh
      frames := Around.frames_deeper e0.frames
      stk := .inr ⟨rfl, rfl⟩
      exf := fun b z => absurd z (noA b)
      bs := fun b o e => ⟨(e0.bs b o e).1, none0 (e0.bs b o e).2⟩
      bsz := e0.bsz
      noex := fun b _ _ => noA b
      exfs := fun b z => absurd z (noA b)
      funs := e0.funs
      frf := fun b z => none0 (e0.frf b z) }
  refine ⟨okY, rfl, e0.bare, Un.kept kp, ⟨_, hns, fun i x v e1 e2 e3 => ?_⟩, fun x c e => isC ⟨_, clo_in L e⟩, none0 (I.hok.fresh (Nat.le_refl _)), fun x c e => hidL_in ⟨_, clo_in L e⟩, fun q hq => absurd (show q ∈ ([] : List (Addr × Obj)) ++ [] from hq) (by simp), (hok_hid I.hok F.fz).kept kp, hl⟩
  obtain ⟨x', c, u, o, k1, k2, k3, k4, k5⟩ := hσ i v e2
  have e1' : C.lamN[i]? = some x := e1
  rw [k1] at e1'
  cases e1'
  have e3' : t.scope.names.lookup x = some .local ∨ t.scope.names.lookup x = some .cell ∨ t.scope.names.lookup x = some .free := e3
  rcases e3' with z | z | z
  · exact absurd rfl (L.own _ (PySem.mem_of_lookup z)).1
  · exact absurd rfl (L.own _ (PySem.mem_of_lookup z)).2
  · obtain ⟨c2, hc2⟩ := clo_has (C := C) z
    have ec := clo_in L hc2
    rw [k2] at ec
    cases ec
    exact ⟨u, k3, .inr ⟨.inr z, c, hc2, o, kp _ _ (I.hok c _ k5).1, k4⟩⟩
/-- what must be known of the lambdas -/
structure LamOk (P : Program) (w : World) (C : Rc) (base : Heap) (k : Nat) (Γ : Gm) : Prop where
  inj : CelInj C
  nd : C.lamN.Nodup
  at_ : ∀ n f, Γ.lam n = some f → ∃ t j, C.lamT n = some t ∧ LamSt C t ∧ j + 1 ≤ k ∧ ∀ (Wx : XK) (Y : Cx), XOk P w C base j C.lamN t.scope Wx Y → PE Y t.body (tEvL C f Wx)
theorem act_ok {Γ : Gm} (LO : LamOk P w C base k Γ) : ActOk P w C base k Γ := by
  intro N sc Wx X o i x p pos hr
  obtain ⟨r1, r2, r3, r4⟩ := rd_of hr
  refine ⟨fun pins s σ H Q I ⟨W, st, ρ, sl, rel, q⟩ => ?_⟩
  have q1 : OQ C Wx W H (RD C Q) (match (ρ[i]?).join with
    | some (.lam k) => (match st.env, Γ.lam k with
      | some e, some f => Out.envd (some e) (f e { st with env := none })
      | _, _ => .bad)
    | _ => .bad) := q
  cases hi : ρ[i]? with
  | none => rw [hi] at q1; exact False.elim q1
  | some od =>
    cases od with
    | none => rw [hi] at q1; exact False.elim q1
    | some d =>
      rw [hi] at q1
      cases d <;> first | (exact False.elim q1) | skip
      rename_i n
      have q2 : OQ C Wx W H (RD C Q) (match st.env, Γ.lam n with
        | some e, some f => Out.envd (some e) (f e { st with env := none })
        | _, _ => .bad) := q1
      cases he : st.env with
      | none => rw [he] at q2; exact False.elim q2
      | some e =>
        cases hf : Γ.lam n with
        | none => rw [he, hf] at q2; exact False.elim q2
        | some f =>
          rw [he, hf] at q2
          have wenv : W.env = some e := rel.envE.symm.trans he
          have q3 : OQ C Wx W H (RD C Q) (Out.envd W.env (f e { st with env := none })) := by rw [wenv]; exact q2
          have EO := rel.env e wenv
          obtain ⟨t, j, ht, LS, hj, body⟩ := LO.at_ n f hf
          obtain ⟨v, hv, f0, c', t', pm, ctv, ev, et, gc, gf⟩ := sl.at_ i _ hi
          subst ev
          rw [ht] at et
          cases et
          have Fc : CelL W.G (CelS C) := fun a ⟨y, hy⟩ => let ⟨ob, u, h1, h2⟩ := EO.cel y a hy; ⟨ob, u, h2, h1⟩
          have FH : CelL H (CelS C) := fun a y => let ⟨ob, u, h1, h2⟩ := Fc a y; ⟨ob, u, rel.sub _ _ h1, h2⟩
          refine wpAny_Call_Name_kw (thn ((pe_var (X := X) (pos := p) (i := i) (by rw [o.nm]; exact r1) (vis_of' o r2) r3 r4).run pins s σ H (fun v H1 => v = .ref f0 ∧ H1 = H) I ⟨.ref f0, hv, rfl, rfl⟩) fun u s1 ⟨v, H1, I1, rv, ea, eb⟩ => ?_)
          subst ea eb
          cases (show u = Value.ref f0 from rv)
          have of1 := (I1.hok f0 _ (rel.sub _ _ gf)).1
          obtain ⟨⟨oc, vs, tq, hoc, hdc, hvc⟩, _, _⟩ := I1.hok c' _ (rel.sub _ _ gc)
          have nf : ∀ b, CelS C b → b ∉ frs X.stack := fun b y hm => by
            obtain ⟨ob, u, h1, _⟩ := FH b y
            rw [I1.stkFree b hm] at h1; cases h1
          obtain ⟨σL, l1, l2, l3⟩ := env_slots EO
          have oY : XOk P w C base j C.lamN t.scope (wxH C H1 Wx) (lamY C X s1 H1 t f0 c' Wx) :=
            ⟨o.prog, o.wd, o.K, o.mg, o.base, rfl, rfl, LO.nd, rfl, (o.rm.deeper _).mono hj, lam_takes I1.hok FH nf⟩
          refine PySem.W.callWith_F0 ⟨_, _, _, _, of1⟩ ?_
          have none' : ∀ {s' : Shared} {H' : Hp}, Un (frs X.stack) [] (hidL H1 (CelS C)) H' s1.heap s'.heap → ∀ b, CelS C b → H' b = none := fun {s' H'} un b y => by
            obtain ⟨ob, u, h1, _⟩ := FH b y
            exact un.free b ob (I1.hok b _ h1).1 (hidL_in y) (by simp)
          have rc : codeAny (model X.prog X.w) X.A (.call (.ref f0) ⟨[], []⟩) (CR (CX X.prog X.w) X.stack X.prog X.w H1 s1 Q Wx) s1 := by
            refine PySem.W.kla_callFunE o.rm.room.depth of1 rfl LS.co LS.gen rfl ⟨c', oc, vs, tq, rfl, hoc, hdc, hvc⟩ ?_
            rw [LS.bind]
            refine wpAny_pure (wpAny_newFunctionEnv (fun y hy => (LS.own y hy).2) (fun y hy => absurd hy (by simp)) (fun h₁ hns hsb => ⟨I1.nolimit.fresh _ hsb, ?_⟩) LS.kind)
            show codeAny _ _ (.expr t.body (PySem.W.envX (C.lamQ ++ "<lambda>") t.scope s1.heap.objs.size f0 (.ref c') (clo C t))) _ _
            have kp : ∀ b ob, s1.heap.get? b = some ob → h₁.get? b = some ob := fun b ob e => hsb.extBut b ob (Nat.ne_of_lt (Heap.lt_size e)) (Heap.get?_push_of_some _ e)
            have J := lam_enter (C := C) (Wx := Wx) (t := t) (f := f0) (c' := c') (tk := s1.toks + ([] : List (Str × Value)).length) I1 LS LO.inj FH o.rm.room.hd l1 (fun i v hv => let ⟨x, c, u, ob, k1, k2, k3, k4, k5⟩ := l2 i v hv; ⟨x, c, u, ob, k1, k2, k3, k4, rel.sub _ _ k5⟩) hns kp
            have rd : tEvL C f (wxH C H1 Wx) σL (hidL H1 (CelS C)) (fun v H' => (∀ a, CelS C a → H' a = none) → Q v (backL H1 H' (CelS C))) :=
              ⟨W.hid (CelS C), { st with env := none }, e, ⟨EO.len.trans l1.symm, fun i d hd => let ⟨v, h1, h2⟩ := l3 i d hd; ⟨v, h1, Rep.hid Fc d v h2⟩⟩, rel_hid rel Fc, oq_hid rel Fc q3⟩
            refine PySem.W.kla_codeExpr (wpAny_mono (((body (wxH C H1 Wx) _ oY)).run [] _ _ _ _ J rd) (fun v s' hq => ?_) fun _ _ z => z)
            obtain ⟨z, H', J', rz, qz⟩ := hq
            have un : Un (frs X.stack) [] (hidL H1 (CelS C)) H' s1.heap s'.heap := J'.base
            have nn := none' un
            exact ⟨z, backL H1 H' (CelS C), J'.os, J'.bare, un_back FH.fz nf un, hok_back J'.hok nn (fun b y => let ⟨ob, u, h1, _⟩ := FH b y; ⟨ob, h1, un.keep b ob (I1.hok b _ h1).1 (hidL_in y) (nf b y) (by simp)⟩), rz, qz nn⟩
          refine wpAny_call (codeAny_mono rc fun r s' hq => ?_)
          match r, hq with
          | .error er, hq => exact o.tk er s' (XE.of_call I1 (W := fun cls d _ H => Wx cls d H) (fun cls d H' z => z) hq)
          | .ok (.ret u), hq => exact I1.after hq
          | .ok .next, hq => exact False.elim hq
          | .ok .brk, hq => exact False.elim hq
          | .ok .cont, hq => exact False.elim hq
end
end Mp
set_option Elab.async false
set_option linter.all false
set_option maxRecDepth 100000
set_option maxHeartbeats 2000000
/-! MpMake: the law's lambdas are made. -/
namespace Mp
open PySem PySem.Spec PyProof.Rows L2 LamX
section
variable {X : Cx} {pins : List (Addr × Obj)} {σ : Sg} {H : Hp} {s : Shared}
/-- a thing that is there and stays as it is -/
theorem frzO_ok {P : Program} {w : World} {G : Hp} {h : Heap} {a : Addr} {o : Obj} (e : h.get? a = some o) : ObjOk P w G h a (FrzO o) := ⟨e, trivial, ⟨o, e⟩, fun _ _ _ _ => trivial⟩
/-- the lambda is made: it and its code object are known from now on -/
theorem lam_new {c Pt : Addr} {params : Arguments} {body : Expr} {scope : Scope} {pos : Pos} {E : Value → Shared → Prop} {Q : Value → Shared → Prop} {qn : Str} (I : Inv X pins σ H s) (TB : TabB X.base X.mg c Pt) (hcode : X.env.code = .ref c) (hq : X.env.qual ++ "<lambda>" = qn)
    (hT : TabS H Pt qn) (hdef : defaultsOf params X.env = ([], [])) (hfree : ∀ y ∈ scope.names, y.2 = .free → ∃ a, X.env.cells.lookup y.1 = some a)
    (h : ∀ (f c1 : Addr) (pm ctv : Value) (ps : Array Value) (s' : Shared), H f = none → (H c1 = none ∨ H c1 = some (CodeO c1 qn)) → f ≠ c1 → f ≠ Pt → c1 ≠ Pt →
      Inv X pins σ (upd (upd (upd H Pt (.tbl ps)) c1 (CodeO c1 qn)) f (FrzO (PySem.W.kla_obj "<lambda>" qn params body scope (cloFrom X.env.cells scope.names []) pm c1 ctv))) s' →
      TabS (upd (upd (upd H Pt (.tbl ps)) c1 (CodeO c1 qn)) f (FrzO (PySem.W.kla_obj "<lambda>" qn params body scope (cloFrom X.env.cells scope.names []) pm c1 ctv))) Pt qn → Q (.ref f) s') :
    wpAny (model X.prog X.w) X.A (eval (.Lambda params body scope pos) X.env) Q E s := by
  obtain ⟨ps, hP, tri, among⟩ := hT
  subst hq
  have bP : s.heap.BuiltinsAt X.mg Pt := TB.bm.keeps I.bk
  have atP : s.heap.get? Pt = some { cls := .none, data := .fields ps } := I.hok Pt _ hP
  refine PySem.W.kla_eval hdef ?_
  cases hc : codeAmong pos ps.toList with
  | some cv =>
    obtain ⟨c1, ec, hco⟩ := among pos cv hc
    subst ec
    refine PySem.W.kla_makeFunctionHit (mg := X.mg) (c := c) (P := Pt) (ps := ps) (closure_ok hfree) I.ok.glob (I.mod.glob.keeps I.bk) hcode (TB.code.keeps I.bk) atP tri hc bP fun ctv h1 tk keep hsz => ?_
    have nf : H h1.objs.size = none := I.hok.fresh hsz
    have J0 : Inv X pins σ H { s with heap := h1, toks := tk } := I.kept fun b o e => keep b o e
    have J := J0.laid (t' := tk) (a := h1.objs.size) (o := FrzO (PySem.W.kla_obj "<lambda>" (X.env.qual ++ "<lambda>") params body scope (cloFrom X.env.cells scope.names []) ((X.mg "__name__").getD .none) c1 ctv))
      (h' := h1.push (PySem.W.kla_obj "<lambda>" (X.env.qual ++ "<lambda>") params body scope (cloFrom X.env.cells scope.names []) ((X.mg "__name__").getD .none) c1 ctv)) (fun b u e => Heap.get?_push_of_some _ e) (Nat.le_refl _) (frzO_ok (Heap.get?_push_size _ rfl))
    have same : upd (upd H Pt (.tbl ps)) c1 (CodeO c1 (X.env.qual ++ "<lambda>")) = H := by
      funext b
      by_cases e1 : b = c1
      · rw [e1, upd_same, hco]
      · rw [upd_ne e1]
        by_cases e2 : b = Pt
        · rw [e2, upd_same, hP]
        · rw [upd_ne e2]
    have n1 : h1.objs.size ≠ c1 := fun z => by rw [z, hco] at nf; cases nf
    have n2 : h1.objs.size ≠ Pt := fun z => by rw [z, hP] at nf; cases nf
    have n3 : c1 ≠ Pt := fun z => by rw [z, hP] at hco; exact codeO_ne ps (Option.some.inj hco).symm
    refine h _ c1 _ ctv ps _ nf (.inr hco) n1 n2 n3 (by rw [same]; exact J) ?_
    rw [same]
    exact ⟨ps, by rw [upd_ne (Ne.symm n2)]; exact hP, tri, fun p' cv hcv => let ⟨c0, a1, a2⟩ := among p' cv hcv; ⟨c0, a1, by rw [upd_ne fun z => by rw [z, nf] at a2; cases a2]; exact a2⟩⟩
  | none =>
    refine PySem.W.kla_makeFunction (mg := X.mg) (c := c) (P := Pt) (ps := ps) (closure_ok hfree) I.ok.glob (I.mod.glob.keeps I.bk) hcode (TB.code.keeps I.bk) atP tri hc TB.gP bP fun c1 ctv h1 tk keep hge hlt hrec htb => ?_
    obtain ⟨c2, oc, vs, tq, e2, hoc, hd, hv⟩ := hrec
    cases e2
    have nC : H c1 = none := I.hok.fresh hge
    have hsz : s.heap.objs.size ≤ h1.objs.size := Nat.le_trans hge (Nat.le_of_lt hlt)
    have nf : H h1.objs.size = none := I.hok.fresh hsz
    have n1 : h1.objs.size ≠ c1 := Nat.ne_of_gt hlt
    have n2 : h1.objs.size ≠ Pt := fun z => by rw [z, hP] at nf; cases nf
    have n3 : c1 ≠ Pt := fun z => by rw [z, hP] at nC; cases nC
    have J0 := inv_table (t' := tk) (more := #[rawInt pos.line, rawInt pos.col, .ref c1]) (h' := h1) (q := X.env.qual ++ "<lambda>") I hP (fun b o hb e => keep b o hb e) htb hge ⟨oc, vs, tq, hoc, hd, hv⟩
    have J := J0.laid (t' := tk) (a := h1.objs.size) (o := FrzO (PySem.W.kla_obj "<lambda>" (X.env.qual ++ "<lambda>") params body scope (cloFrom X.env.cells scope.names []) ((X.mg "__name__").getD .none) c1 ctv))
      (h' := h1.push (PySem.W.kla_obj "<lambda>" (X.env.qual ++ "<lambda>") params body scope (cloFrom X.env.cells scope.names []) ((X.mg "__name__").getD .none) c1 ctv)) (fun b u e => Heap.get?_push_of_some _ e) (Nat.le_refl _) (frzO_ok (Heap.get?_push_size _ rfl))
    refine h _ c1 _ ctv _ _ nf (.inl nC) n1 n2 n3 J ?_
    have eL : (ps ++ #[rawInt pos.line, rawInt pos.col, .ref c1]).toList = ps.toList ++ [rawInt pos.line, rawInt pos.col, .ref c1] := by simp
    refine ⟨_, by rw [upd_ne (Ne.symm n2), upd_ne (Ne.symm n3), upd_same], by rw [eL]; exact PySem.TriplesOk_snoc _ _ _ _ tri, fun p' cv hcv => ?_⟩
    rw [eL] at hcv
    rcases among_app _ tri hcv with z | z
    · obtain ⟨c0, a1, a2⟩ := among p' cv z
      refine ⟨c0, a1, ?_⟩
      have m1 : c0 ≠ h1.objs.size := fun z => by rw [z, nf] at a2; cases a2
      have m2 : c0 ≠ c1 := fun z => by rw [z, nC] at a2; cases a2
      have m3 : c0 ≠ Pt := fun z => by rw [z, hP] at a2; exact codeO_ne ps (Option.some.inj a2).symm
      rw [upd_ne m1, upd_ne m2, upd_ne m3]
      exact a2
    · exact ⟨c1, z, by rw [upd_ne (Ne.symm n1), upd_same]⟩
end
end Mp
set_option Elab.async false
set_option linter.all false
set_option maxRecDepth 100000
set_option maxHeartbeats 2000000
/-! MpCalls: a law's list of calls, each a lambda and what is due. -/
namespace Mp
open PySem PySem.Spec PyProof.Rows L2 LamX
/-- the name of the lambdas' code -/
abbrev lamQn (C : Rc) : Str := C.lamQ ++ "<lambda>"
/-- where the law stands while it makes its lambdas: ρ what its names hold, Pt its code's table -/
structure T0 (C : Rc) (ρ : List (Option D)) (st : Ms) (Pt : Addr) (W : Wd) (H : Hp) (σ : Sg) : Prop where
  rel : Rel C W st H
  sl : Slots C W ρ σ
  tab : TabS H Pt (lamQn C)
  gP : W.G Pt = none
/-- from one such place to a later one -/
structure Grow (W : Wd) (H : Hp) (W' : Wd) (H' : Hp) (Pt : Addr) : Prop where
  le : Le W W'
  keep : ∀ a o, H a = some o → a ≠ Pt → (∀ x, W.pen = some x → a ≠ x.1) → H' a = some o
  newG : ∀ a o, W'.G a = some o → W.G a = some o ∨ H a = none ∨ ∃ c q, H a = some (CodeO c q)
theorem Grow.refl (W : Wd) (H : Hp) (Pt : Addr) : Grow W H W H Pt := ⟨.refl W, fun _ _ h _ _ => h, fun _ _ h => .inl h⟩
theorem Grow.of_ext {W W' : Wd} {H H' : Hp} {Pt : Addr} (e : Ext W H W' H') : Grow W H W' H' Pt := ⟨e.le, fun a o h _ n => e.keep a o h n, fun a o h => (e.newG a o h).elim .inl fun z => .inr (.inl z)⟩
/-- a thing of which nobody knows stays so -/
structure Own1 (W : Wd) (H : Hp) (p : Addr) (vs : List V) : Prop where
  h : H p = some (.lst vs)
  g : W.G p = none
section
variable {C : Rc} {W W' : Wd} {H H' : Hp} {ρ : List (Option D)} {st : Ms} {Pt : Addr} {σ : Sg}
theorem T0.penNe (t : T0 C ρ st Pt W H σ) {a : Addr} {o : HO} (h : H a = some o) (n : ∀ p c, o ≠ .dK (penKvs p c)) : ∀ x, W.pen = some x → a ≠ x.1 := fun x hx z => by
  obtain ⟨q, _, h2, _⟩ := t.rel.pen x hx
  rw [← z, h] at h2
  exact n _ _ (Option.some.inj h2)
theorem T0.pPt (t : T0 C ρ st Pt W H σ) : ∃ ps, H Pt = some (.tbl ps) := let ⟨ps, h, _⟩ := t.tab; ⟨ps, h⟩
theorem T0.ext (t : T0 C ρ st Pt W H σ) (e : Ext W H W' H') (r : Rel C W' st H') : T0 C ρ st Pt W' H' σ where
  rel := r
  sl := t.sl.le e.le
  tab := by
    obtain ⟨ps, h1, h2, h3⟩ := t.tab
    refine ⟨ps, e.keep _ _ h1 (t.penNe h1 fun _ _ z => by cases z), h2, fun pos cv hc => ?_⟩
    obtain ⟨c, e1, e2⟩ := h3 pos cv hc
    exact ⟨c, e1, e.keep _ _ e2 (t.penNe e2 fun _ _ z => by cases z)⟩
  gP := by
    obtain ⟨ps, h⟩ := t.pPt
    cases z : W'.G Pt with
    | none => rfl
    | some o =>
      rcases e.newG Pt o z with y | y
      · rw [t.gP] at y; cases y
      · rw [h] at y; cases y
theorem Own1.grow {p : Addr} {vs : List V} (o : Own1 W H p vs) (t : T0 C ρ st Pt W H σ) (g : Grow W H W' H' Pt) : Own1 W' H' p vs where
  h := g.keep p _ o.h (fun z => by obtain ⟨ps, e⟩ := t.pPt; have y := o.h; rw [z, e] at y; cases y) (t.penNe o.h fun _ _ z => by cases z)
  g := by
    cases z : W'.G p with
    | none => rfl
    | some u =>
      rcases g.newG p u z with y | y | ⟨c, q, y⟩
      · rw [o.g] at y; cases y
      · rw [o.h] at y; cases y
      · rw [o.h] at y; cases y
/-- a thing that stands is known from now on -/
theorem rel_know (r : Rel C W st H) {a : Addr} {o : HO} (h : H a = some o) (n : ∀ x, W.pen = some x → a ≠ x.1) : Rel C (W.put a o) st H ∧ Le W (W.put a o) := by
  cases z : W.G a with
  | none => exact ⟨rel_frz r ⟨z, fun x hx e => n x hx e.symm⟩ h, le_put z⟩
  | some u =>
    have e : u = o := by
      have := r.sub a u z
      rw [h] at this
      exact (Option.some.inj this).symm
    subst e
    have same : W.put a u = W := by
      obtain ⟨G, pen, ids, nid, scr, env⟩ := W
      have : upd G a u = G := by
        funext b
        by_cases hb : b = a
        · rw [hb, upd_same]; exact z.symm
        · rw [upd_ne hb]
      show ({ G := upd G a u, pen := pen, ids := ids, nid := nid, scr := scr, env := env } : Wd) = _
      rw [this]
    rw [same]
    exact ⟨r, .refl W⟩
theorem rel_tab (t : T0 C ρ st Pt W H σ) {ps : Array Value} : Rel C W st (upd H Pt (.tbl ps)) := by
  obtain ⟨ps0, h⟩ := t.pPt
  exact rel_chgM t.rel ⟨t.gP, fun x hx e => t.penNe h (fun _ _ z => by cases z) x hx e.symm⟩
/-- the lambda is made -/
theorem T0.lam (t : T0 C ρ st Pt W H σ) {f c1 : Addr} {ps : Array Value} {o : Obj} (nf : H f = none) (hc : H c1 = none ∨ H c1 = some (CodeO c1 (lamQn C))) (n1 : f ≠ c1) (n2 : f ≠ Pt) (n3 : c1 ≠ Pt)
    (tab : TabS (upd (upd (upd H Pt (.tbl ps)) c1 (CodeO c1 (lamQn C))) f (FrzO o)) Pt (lamQn C)) :
    T0 C ρ st Pt ((W.put c1 (CodeO c1 (lamQn C))).put f (FrzO o)) (upd (upd (upd H Pt (.tbl ps)) c1 (CodeO c1 (lamQn C))) f (FrzO o)) σ ∧ Grow W H ((W.put c1 (CodeO c1 (lamQn C))).put f (FrzO o)) (upd (upd (upd H Pt (.tbl ps)) c1 (CodeO c1 (lamQn C))) f (FrzO o)) Pt := by
  have r1 := rel_tab (ps := ps) t
  have r2 : Rel C (W.put c1 (CodeO c1 (lamQn C))) st (upd (upd H Pt (.tbl ps)) c1 (CodeO c1 (lamQn C))) ∧ Le W (W.put c1 (CodeO c1 (lamQn C))) := by
    rcases hc with hc | hc
    · have hc' : upd H Pt (.tbl ps) c1 = none := by rw [upd_ne n3]; exact hc
      exact ⟨rel_put r1 hc', le_put (G_free r1 hc')⟩
    · have same : upd (upd H Pt (.tbl ps)) c1 (CodeO c1 (lamQn C)) = upd H Pt (.tbl ps) := by
        funext b
        by_cases hb : b = c1
        · rw [hb, upd_same, upd_ne n3, hc]
        · rw [upd_ne hb]
      rw [same]
      exact rel_know r1 (by rw [upd_ne n3]; exact hc) (t.penNe hc fun _ _ z => by cases z)
  have hf : upd (upd H Pt (.tbl ps)) c1 (CodeO c1 (lamQn C)) f = none := by rw [upd_ne n1, upd_ne n2]; exact nf
  have l3 : Le W ((W.put c1 (CodeO c1 (lamQn C))).put f (FrzO o)) := r2.2.trans (le_put (G_free r2.1 hf))
  refine ⟨⟨rel_put r2.1 hf, t.sl.le l3, tab, ?_⟩, l3, fun a u h np _ => ?_, fun a u h => ?_⟩
  · show upd (upd W.G c1 _) f _ Pt = none
    rw [upd_ne (Ne.symm n2), upd_ne (Ne.symm n3)]; exact t.gP
  · have a1 : a ≠ f := fun z => by rw [z, nf] at h; cases h
    rw [upd_ne a1]
    by_cases a2 : a = c1
    · subst a2
      rw [upd_same]
      rcases hc with hc | hc
      · rw [hc] at h; cases h
      · rw [hc] at h; exact h
    · rw [upd_ne a2, upd_ne np]; exact h
  · have h' : upd (upd W.G c1 (CodeO c1 (lamQn C))) f (FrzO o) a = some u := h
    by_cases a1 : a = f
    · rw [a1]; exact .inr (.inl nf)
    · rw [upd_ne a1] at h'
      by_cases a2 : a = c1
      · rw [a2]
        rcases hc with hc | hc
        · exact .inr (.inl hc)
        · exact .inr (.inr ⟨_, _, hc⟩)
      · rw [upd_ne a2] at h'; exact .inl h'
end
/-! ### the text -/
def lamP : Expr → Option (Arguments × Expr × Scope × Pos × Expr × Nat × Pos)
  | .Tuple [.Lambda ps b sc lp, d] k tp => some (ps, b, sc, lp, d, k, tp)
  | _ => none
theorem lamP_inv {e : Expr} {ps : Arguments} {b : Expr} {sc : Scope} {lp : Pos} {d : Expr} {k : Nat} {tp : Pos} (h : lamP e = some (ps, b, sc, lp, d, k, tp)) : e = .Tuple [.Lambda ps b sc lp, d] k tp := by
  unfold lamP at h; split at h <;> cases h; rfl
/-- no defaults -/
def noDef (ps : Arguments) : Bool := ps.defaults.isEmpty && ps.kw_defaults.all (·.isNone)
/-- the law's context, where its lambdas are made -/
structure LCx (C : Rc) (X : Cx) (Pt : Addr) : Prop where
  tb : ∃ c, TabB X.base X.mg c Pt ∧ X.env.code = .ref c
  q : X.env.qual = C.lamQ
  cells : X.env.cells = C.cells
section
variable {P : Program} {w : World} {C : Rc} {base : Heap} {k : Nat} {N : List Str} {sc : Scope} {Wx : XK} {X : Cx} {Γ : Gx} {Pt : Addr} {ρ : List (Option D)} {st : Ms}
/-- the lambda alone -/
theorem pe_lam (L : LCx C X Pt) {n : Nat} {t : LamT} (ht : C.lamT n = some t) (LS : LamSt C t) (hd : defaultsOf t.params X.env = ([], [])) {pos : Pos} {Pr : Wd → Hp → Prop} (hp : ∀ W H W' H' σ, Pr W H → T0 C ρ st Pt W H σ → Grow W H W' H' Pt → Pr W' H') :
    PE X (.Lambda t.params t.body t.scope pos) (fun σ H Q => ∃ W, T0 C ρ st Pt W H σ ∧ Pr W H ∧ ∀ W' H' v, T0 C ρ st Pt W' H' σ → Pr W' H' → Rep C W' (.lam n) v → Q v H') := by
  refine ⟨fun pins s σ H Q I ⟨W, t0, pr, q⟩ => ?_⟩
  obtain ⟨c, tb, hcode⟩ := L.tb
  have hfree : ∀ y ∈ t.scope.names, y.2 = .free → ∃ a, X.env.cells.lookup y.1 = some a := fun y hy e => by rw [L.cells]; exact LS.free y hy e
  refine lam_new I tb hcode (by rw [L.q]) t0.tab hd hfree fun f c1 pm ctv ps s' nf hc n1 n2 n3 J tab => ?_
  rw [L.cells] at J tab
  obtain ⟨t1, g⟩ := t0.lam nf hc n1 n2 n3 tab
  refine ⟨.ref f, _, J, rfl, q _ _ _ t1 (hp _ _ _ _ _ pr t0 g) ⟨f, c1, t, pm, ctv, rfl, ht, ?_, ?_⟩⟩
  · show upd (upd W.G c1 _) f _ c1 = _
    rw [upd_ne (Ne.symm n1), upd_same]
  · show upd (upd W.G c1 _) f _ f = _
    rw [upd_same]
/-- (lambda, what is due) -/
theorem pe_item (o : XOk P w C base k N sc Wx X) (G : GOk P w C base k Γ.g) (L : LCx C X Pt) {n : Nat} {t : LamT} (ht : C.lamT n = some t) (LS : LamSt C t) (hd : defaultsOf t.params X.env = ([], [])) {e : E} {d : Expr} {due : D} {kk : Nat} {lp tp : Pos} (hm : mt N sc e d = true)
    (hv : ev Γ.g e ρ st = .ok due st) {Pr : Wd → Hp → Prop} (hp : ∀ W H W' H' σ, Pr W H → T0 C ρ st Pt W H σ → Grow W H W' H' Pt → Pr W' H') :
    PE X (.Tuple [.Lambda t.params t.body t.scope lp, d] kk tp) (fun σ H Q => ∃ W, T0 C ρ st Pt W H σ ∧ Pr W H ∧ ∀ W' H' v, T0 C ρ st Pt W' H' σ → Pr W' H' → Rep C W' (.tup [.lam n, due]) v → Q v H') := by
  have pd := plain_star (env := X.env) (es := []) (mt_plain hm)
  refine PE.imp (pe_tup (pa_cons (pe_lam (ρ := ρ) (st := st) L ht LS hd hp) (pa_cons (ev_ok G e N sc Wx X d o hm).1 pa_nil pd) (plain_star rfl))) fun σ H Q ⟨W, t0, pr, q⟩ => ?_
  refine ⟨W, t0, pr, fun W1 H1 v t1 pr1 rl => ?_⟩
  refine ⟨W1, st, ρ, t1.sl, t1.rel, ?_⟩
  rw [hv]
  intro W2 H2 e2 r2 u ru
  have t2 := t1.ext e2 r2
  have pr2 := hp _ _ _ _ _ pr1 t1 (.of_ext e2)
  refine ⟨by show 2 ≤ sizeLine; decide, fun a ha => ?_⟩
  have e3 := ext_put (o := .tup [v, u]) r2 ha
  have r3 := rel_put (o := .tup [v, u]) r2 ha
  exact q _ _ _ (t2.ext e3 r3) (hp _ _ _ _ _ pr2 t2 (.of_ext e3)) ⟨a, [v, u], rfl, .inl (.inl Wd.put_at), v, [u], rfl, Rep.le (e2.le.trans e3.le) _ _ rl, u, [], rfl, Rep.le e3.le _ _ ru, rfl⟩
end
end Mp
set_option Elab.async false
set_option linter.all false
set_option maxRecDepth 100000
set_option maxHeartbeats 2000000
/-! MpCalls2: the law's calls are put together, and looked at. -/
namespace Mp
open PySem PySem.Spec PyProof.Rows L2 LamX
/-! ### the text -/
def noArg (ps : Arguments) : Bool := ps.posonlyargs.isEmpty && (ps.args.isEmpty && (ps.vararg.isNone && (ps.kwonlyargs.isEmpty && (ps.kw_defaults.isEmpty && (ps.kwarg.isNone && ps.defaults.isEmpty)))))
theorem noArg_eq {ps : Arguments} (h : noArg ps = true) : ps = ⟨[], [], none, [], [], none, []⟩ := by
  obtain ⟨a, b, c, d, e, f, g⟩ := ps
  simp only [noArg, Bool.and_eq_true, List.isEmpty_iff, Option.isNone_iff_eq_none] at h
  obtain ⟨rfl, rfl, rfl, rfl, rfl, rfl, rfl⟩ := h
  rfl
/-- a lambda of the law: it takes nothing, all its names are the law's cells or the module's -/
def lamB (sc : Scope) (t : LamT) : Bool := noArg t.params && (decide (t.scope.kind = .function) && (!t.scope.isCoroutine && (!t.scope.isGenerator && t.scope.names.all fun y => decide (y.2 ≠ .local) && (decide (y.2 ≠ .cell) && (decide (y.2 ≠ .free) || decide (sc.names.lookup y.1 = some .cell))))))
theorem lamB_ok {sc : Scope} {t : LamT} {C : Rc} (h : lamB sc t = true) (hc : ∀ x, sc.names.lookup x = some .cell → ∃ c, C.cells.lookup x = some c) : LamSt C t := by
  simp only [lamB, Bool.and_eq_true, decide_eq_true_eq, Bool.not_eq_true', List.all_eq_true, Bool.or_eq_true] at h
  obtain ⟨h1, h2, h3, h4, h5⟩ := h
  refine ⟨h2, h3, h4, fun y hy => ⟨(h5 y hy).1, (h5 y hy).2.1⟩, fun y hy e => ?_, fun q cl pm cv ctv => ?_⟩
  · rcases (h5 y hy).2.2 with z | z
    · exact absurd e z
    · exact hc _ z
  · rw [noArg_eq h1]; rfl
/-- (lambda, what is due) -/
def itOf (N : List Str) (sc : Scope) (m : E) : Expr → Option LamT
  | .Tuple [.Lambda ps b s _, d] _ _ => if lamB sc ⟨ps, b, s⟩ = true ∧ mt N sc m d = true then some ⟨ps, b, s⟩ else none
  | _ => none
theorem itOf_inv {N : List Str} {sc : Scope} {m : E} {e : Expr} {t : LamT} (h : itOf N sc m e = some t) : ∃ lp d k tp, e = .Tuple [.Lambda t.params t.body t.scope lp, d] k tp ∧ lamB sc t = true ∧ mt N sc m d = true := by
  unfold itOf at h
  split at h
  · split at h
    · rename_i h1; cases h; exact ⟨_, _, _, _, rfl, h1⟩
    · cases h
  · cases h
/-- calls.append(..) -/
def apOf (N : List Str) (sc : Scope) (x : Str) (m : E) : Stmt → Option LamT
  | .Expr (.Call (.Attribute (.Name y _) f ap) [it] [] cp) _ => if y = x ∧ f = ("append" : Str) ∧ (ap.endLine == cp.line) = true then itOf N sc m it else none
  | _ => none
theorem apOf_inv {N : List Str} {sc : Scope} {x : Str} {m : E} {s : Stmt} {t : LamT} (h : apOf N sc x m s = some t) : ∃ px ap it cp pos, s = .Expr (.Call (.Attribute (.Name x px) "append" ap) [it] [] cp) pos ∧ (ap.endLine == cp.line) = true ∧ itOf N sc m it = some t := by
  unfold apOf at h
  split at h
  · split at h
    · rename_i h1
      obtain ⟨rfl, rfl, h3⟩ := h1
      exact ⟨_, _, _, _, _, rfl, h3, h⟩
    · cases h
  · cases h
/-- calls = [..] -/
def stOf (N : List Str) (sc : Scope) (x : Str) (m : E) : Stmt → Option LamT
  | .Assign [.Name y _] (.List [it] _) _ => if y = x then itOf N sc m it else none
  | _ => none
theorem stOf_inv {N : List Str} {sc : Scope} {x : Str} {m : E} {s : Stmt} {t : LamT} (h : stOf N sc x m s = some t) : ∃ px it lp pos, s = .Assign [.Name x px] (.List [it] lp) pos ∧ itOf N sc m it = some t := by
  unfold stOf at h
  split at h
  · split at h
    · rename_i h1; subst h1; exact ⟨_, _, _, _, rfl, h⟩
    · cases h
  · cases h
/-- the others, then return f(calls) -/
def restOf (N : List Str) (sc : Scope) (x g : Str) : List E → List Stmt → Option (List LamT)
  | [], [.Return (some (.Call (.Name f _) [.Name y _] [] _)) _] => if f = g ∧ y = x then some [] else none
  | m :: ms, s :: r => match apOf N sc x m s with
    | some t => (restOf N sc x g ms r).map (t :: ·)
    | none => none
  | _, _ => none
theorem rest_nil {N : List Str} {sc : Scope} {x g : Str} {ss : List Stmt} {ts : List LamT} (h : restOf N sc x g [] ss = some ts) : ∃ p1 p2 p3 p4, ss = [.Return (some (.Call (.Name g p1) [.Name x p2] [] p3)) p4] ∧ ts = [] := by
  unfold restOf at h
  split at h
  · split at h
    · rename_i h1; obtain ⟨rfl, rfl⟩ := h1; cases h; exact ⟨_, _, _, _, rfl, rfl⟩
    · cases h
  all_goals first | contradiction | cases h
theorem rest_cons {N : List Str} {sc : Scope} {x g : Str} {m : E} {ms : List E} {ss : List Stmt} {ts : List LamT} (h : restOf N sc x g (m :: ms) ss = some ts) : ∃ s r t tr, ss = s :: r ∧ ts = t :: tr ∧ apOf N sc x m s = some t ∧ restOf N sc x g ms r = some tr := by
  cases ss with
  | nil => simp [restOf] at h
  | cons s r =>
    unfold restOf at h
    cases ha : apOf N sc x m s with
    | none => rw [ha] at h; cases h
    | some t =>
      rw [ha] at h
      obtain ⟨tr, h1, h2⟩ := Option.map_eq_some_iff.mp h
      exact ⟨s, r, t, tr, rfl, h2.symm, ha, h1⟩
/-- all the law's calls -/
def callsOf (N : List Str) (sc : Scope) (x g : Str) : List E → List Stmt → Option (List LamT)
  | m :: ms, s :: r => match stOf N sc x m s with
    | some t => (restOf N sc x g ms r).map (t :: ·)
    | none => none
  | _, _ => none
theorem calls_inv {N : List Str} {sc : Scope} {x g : Str} {ms : List E} {ss : List Stmt} {ts : List LamT} (h : callsOf N sc x g ms ss = some ts) : ∃ m mr s r t tr, ms = m :: mr ∧ ss = s :: r ∧ ts = t :: tr ∧ stOf N sc x m s = some t ∧ restOf N sc x g mr r = some tr := by
  unfold callsOf at h
  split at h
  · rename_i m mr s r
    cases ha : stOf N sc x m s with
    | none => rw [ha] at h; cases h
    | some t =>
      rw [ha] at h
      obtain ⟨tr, h1, h2⟩ := Option.map_eq_some_iff.mp h
      exact ⟨m, mr, s, r, t, tr, rfl, rfl, h2.symm, ha, h1⟩
  · cases h
/-! ### what the lambdas see -/
/-- the law's names that are cells -/
def capt (sc : Scope) : List Str → List (Option D) → List (Option D)
  | x :: N, d :: ρ => (if sc.names.lookup x = some .cell then d else none) :: capt sc N ρ
  | _, _ => []
theorem capt_len {sc : Scope} : ∀ {N : List Str} {ρ : List (Option D)}, ρ.length = N.length → (capt sc N ρ).length = N.length
  | [], _, _ => rfl
  | x :: N, [], h => by cases h
  | x :: N, d :: ρ, h => by simp [capt, capt_len (N := N) (ρ := ρ) (by simpa using h)]
theorem capt_at {sc : Scope} : ∀ {N : List Str} {ρ : List (Option D)} {i : Nat} {d : D}, (capt sc N ρ)[i]? = some (some d) → ∃ x, N[i]? = some x ∧ ρ[i]? = some (some d) ∧ sc.names.lookup x = some .cell
  | [], _, i, d, h => by simp [capt] at h
  | x :: N, [], i, d, h => by simp [capt] at h
  | x :: N, e :: ρ, 0, d, h => by
    have h' : (if sc.names.lookup x = some .cell then e else none) = some d := by simpa [capt] using h
    split at h'
    · rename_i hc; exact ⟨x, rfl, by rw [h']; rfl, hc⟩
    · cases h'
  | x :: N, e :: ρ, i + 1, d, h => by
    obtain ⟨y, h1, h2, h3⟩ := capt_at (N := N) (ρ := ρ) (i := i) (d := d) (by simpa [capt] using h)
    exact ⟨y, by simpa using h1, by simpa using h2, h3⟩
def dueL : Nat → List D → List D
  | _, [] => []
  | k, d :: r => .tup [.lam k, d] :: dueL (k + 1) r
/-- what is due, all of it told without a change -/
def dues (Γ : Gm) (ρ : List (Option D)) (st : Ms) : List E → List D → Prop
  | [], ds => ds = []
  | e :: es, ds => ∃ d r, ds = d :: r ∧ ev Γ e ρ st = .ok d st ∧ dues Γ ρ st es r
theorem cells_apart : ∀ (names : List (Str × NameKind)) (n : Nat) (acc : List (Str × Addr)), (∀ y ∈ acc, y.2 < n) → (acc.Pairwise fun x y => x.2 ≠ y.2) → (cellsFrom n names acc).Pairwise fun x y => x.2 ≠ y.2
  | [], _, _, _, h => h
  | (x, kd) :: r, n, acc, h1, h2 => by
    unfold cellsFrom
    split
    · refine cells_apart r (n + 1) _ (fun y hy => ?_) (List.pairwise_cons.mpr ⟨fun y hy => Ne.symm (Nat.ne_of_lt (h1 y hy)), h2⟩)
      rcases List.mem_cons.mp hy with z | z
      · rw [z]; exact Nat.lt_succ_self n
      · exact Nat.lt_succ_of_lt (h1 y z)
    · exact cells_apart r n acc h1 h2
theorem cel_inj {C : Rc} {n : Nat} {names : List (Str × NameKind)} (h : C.cells = cellsFrom n names []) : CelInj C := fun x y c h1 h2 => by
  rw [h] at h1 h2
  exact name_of_addr (cells_apart names n [] (fun _ z => by cases z) List.Pairwise.nil) (PySem.mem_of_lookup h1) (PySem.mem_of_lookup h2)
end Mp
set_option Elab.async false
set_option linter.all false
set_option maxRecDepth 100000
set_option maxHeartbeats 2000000
/-! MpCalls3: the law's calls are looked at. -/
namespace Mp
open PySem PySem.Spec PyProof.Rows L2 LamX
/-! ### what is known does not ask what the lambdas see -/
abbrev Wd.see (W : Wd) (e : Option (List (Option D))) : Wd := { W with env := e }
mutual
theorem Rep.see {C : Rc} {W : Wd} {e : Option (List (Option D))} : ∀ (d : D) (v : V), Rep C W d v → Rep C (W.see e) d v
  | .non, v, r => r
  | .bl b, v, r => r
  | .int i, v, r => r
  | .str x, v, r => r
  | .tup ds, v, ⟨a, vs, e1, s, r⟩ => ⟨a, vs, e1, s, Reps.see ds vs r⟩
  | .lst ds, v, ⟨a, vs, e1, s, r⟩ => ⟨a, vs, e1, s, Reps.see ds vs r⟩
  | .dct ds, v, ⟨a, vs, e1, s, r⟩ => ⟨a, vs, e1, s, RepK.see ds vs r⟩
  | .ins c i fs, v, ⟨a, cl, dx, vs, e1, m, s, r, q⟩ => ⟨a, cl, dx, vs, e1, m, s, RepF.see fs vs r, q⟩
  | .pen, v, r => r
  | .scr, v, r => r
  | .lam k, v, r => r
theorem Reps.see {C : Rc} {W : Wd} {e : Option (List (Option D))} : ∀ (ds : List D) (vs : List V), Reps C W ds vs → Reps C (W.see e) ds vs
  | [], vs, r => r
  | d :: ds, vs, ⟨v, r, e1, p, q⟩ => ⟨v, r, e1, Rep.see d v p, Reps.see ds r q⟩
theorem RepF.see {C : Rc} {W : Wd} {e : Option (List (Option D))} : ∀ (ds : List (Str × D)) (vs : List (Str × V)), RepF C W ds vs → RepF C (W.see e) ds vs
  | [], vs, r => r
  | (n, d) :: ds, vs, ⟨v, r, e1, p, q⟩ => ⟨v, r, e1, Rep.see d v p, RepF.see ds r q⟩
theorem RepK.see {C : Rc} {W : Wd} {e : Option (List (Option D))} : ∀ (ds : List (Key × D)) (vs : List (Key × V)), RepK C W ds vs → RepK C (W.see e) ds vs
  | [], vs, r => r
  | (n, d) :: ds, vs, ⟨v, r, e1, p, q⟩ => ⟨v, r, e1, Rep.see d v p, RepK.see ds r q⟩
end
open Classical in
/-- these are known as they stand -/
noncomputable def showL (H : Hp) (h : Heap) (L : Addr → Prop) : Hp := fun a => if L a then (h.get? a).map FrzO else H a
section
variable {P : Program} {w : World} {C : Rc} {W : Wd} {H : Hp} {h : Heap} {L : Addr → Prop} {st : Ms}
theorem showL_in {a : Addr} {o : Obj} (x : L a) (e : h.get? a = some o) : showL H h L a = some (FrzO o) := by unfold showL; rw [if_pos x, e]; rfl
theorem showL_out {a : Addr} (x : ¬ L a) : showL H h L a = H a := by unfold showL; rw [if_neg x]
theorem showL_keep (n : ∀ a, L a → H a = none) {a : Addr} {o : HO} (e : H a = some o) : showL H h L a = some o := by
  rw [showL_out fun x => by rw [n a x] at e; cases e]; exact e
theorem hok_show (ok : HOk P w H h) (n : ∀ a, L a → H a = none) (th : ∀ a, L a → ∃ o, h.get? a = some o) : HOk P w (showL H h L) h := fun b u e => by
  by_cases x : L b
  · obtain ⟨o, ho⟩ := th b x
    rw [showL_in x ho] at e
    cases e
    exact frzO_ok ho
  · rw [showL_out x] at e
    exact (ok b u e).stay (fun _ _ _ q => q) (fun c q => showL_keep n q) fun c xs q => showL_keep n q
noncomputable abbrev Wd.shw (W : Wd) (h : Heap) (L : Addr → Prop) : Wd := { W with G := showL W.G h L }
theorem le_shw (n : ∀ a, L a → W.G a = none) : Le W (W.shw h L) := ⟨fun a o e => showL_keep n e, rfl, fun _ _ e => e, Nat.le_refl _, rfl⟩
theorem rel_shw (r : Rel C W st H) (n : ∀ a, L a → H a = none) (th : ∀ a, L a → ∃ o, h.get? a = some o) (he : W.env = none) {e : List (Option D)} (E : EnvOk C ((W.shw h L).see (some e)) e) :
    Rel C ((W.shw h L).see (some e)) { st with env := some e } (showL H h L) := by
  have nG : ∀ a, L a → W.G a = none := fun a x => G_free r (n a x)
  refine ⟨fun a u z => ?_, fun x hx => ?_, r.penE, r.nid, fun i a z => ?_, r.idinj, rfl, fun ρ z => ?_⟩
  · by_cases x : L a
    · obtain ⟨o, ho⟩ := th a x
      have z' : showL W.G h L a = some u := z
      rw [showL_in x ho] at z' ⊢
      exact z'
    · have z' : showL W.G h L a = some u := z
      rw [showL_out x] at z' ⊢
      exact r.sub a u z'
  · obtain ⟨q, h1, h2, h3, h4⟩ := r.pen x hx
    have nx : ¬ L x.1 := fun y => by rw [n _ y] at h2; cases h2
    refine ⟨q, h1, showL_keep n h2, ?_, showL_keep nG h4⟩
    show showL W.G h L x.1 = none
    rw [showL_out nx]; exact h3
  · obtain ⟨h1, cl, dx, fs, h2⟩ := r.idlt i a z
    exact ⟨h1, cl, dx, fs, showL_keep nG h2⟩
  · have z' : some e = some ρ := z
    cases z'
    exact E
end
section
variable {P : Program} {w : World} {C : Rc} {base : Heap} {k : Nat} {N : List Str} {sc : Scope} {Wx : XK} {X : Cx} {Pt : Addr} {ρ : List (Option D)} {st : Ms} {W : Wd} {H : Hp} {σ : Sg} {pins : List (Addr × Obj)} {s : Shared}
theorem cells_apartF (fn : ∀ x, X.fn x = true) (I : Inv X pins σ H s) {b : Addr} {x : Str} (hc : X.env.cells.lookup x = some b) : X.base.get? b = none ∧ b ∉ frs X.stack ∧ H b = none ∧ ∃ o v, s.heap.get? b = some o ∧ o.data = .cell v := by
  have lo := I.ok.cab x b (fn x) hc
  obtain ⟨v, o, e1, e2⟩ := I.cell x b hc
  refine ⟨?_, fun hm => ?_, I.freeC x b hc, o, v, e1, e2⟩
  · cases z : X.base.get? b with
    | none => rfl
    | some u => exact absurd (Nat.lt_of_lt_of_le (Heap.lt_size z) (Nat.le_trans I.ok.bsz lo)) (Nat.lt_irrefl _)
  · have out : b ∉ X.fs := fun hb => by
      obtain ⟨_, u, hu, _⟩ := I.ok.funs.mem hb
      exact absurd (Nat.lt_of_lt_of_le (Heap.lt_size hu) lo) (Nat.lt_irrefl _)
    rcases I.ok.stk with z | ⟨z, hf⟩
    · rw [z] at hm; exact out hm
    · rw [z] at hm
      unfold frs at hm
      rw [List.filterMap_cons, hf] at hm
      rcases List.mem_cons.mp hm with y | y
      · obtain ⟨m, ⟨u, es, n, g1, g2, _⟩, _⟩ := I.loc
        rw [y, g1] at e1
        cases e1
        rw [g2] at e2
        cases e2
      · exact out y
/-- the def that looks at the calls runs -/
theorem run_due {f : Addr} {fd : FuncData} {ps : List Str} {den : Den} {Q : VK} {p : Addr} {vs : List V} {ds : List D} {s' : Ms} (o : XOk P w C base k N sc Wx X) (fn : ∀ x, X.fn x = true) (hcel : X.env.cells = C.cells) (hN : C.lamN = N)
    (F : FnG P w C base k f fd ps (spDen C den)) (hb : Binds C.K fd ps []) (I : Inv X pins σ H s) (t : T0 C ρ st Pt W H σ) (he : st.env = none) (own : Own1 W H p vs) (rs : Reps C W ds vs)
    (hd : den [.lst ds] { st with env := some (capt sc N ρ) } = .ok (.bl true) s') (q : ∀ H', Q (.bl true) H') :
    wpAny (model X.prog X.w) X.A (call (.ref f) [.ref p]) (EP X pins σ Q) X.xe s := by
  have cel : ∀ {x : Str} {c : Addr}, C.cells.lookup x = some c → X.env.cells.lookup x = some c := fun {x c} z => by rw [hcel]; exact z
  have lenN : ρ.length = N.length := t.sl.len.trans (I.len.trans (by rw [o.nm]))
  have nC : ∀ a, CelS C a → H a = none := fun a ⟨x, hx⟩ => (cells_apartF fn I (cel hx)).2.2.1
  have thC : ∀ a, CelS C a → ∃ u, s.heap.get? a = some u := fun a ⟨x, hx⟩ => let ⟨u, _, h1, _⟩ := (cells_apartF fn I (cel hx)).2.2.2; ⟨u, h1⟩
  have wenv : W.env = none := t.rel.envE.symm.trans he
  obtain ⟨r1, le1⟩ := rel_know t.rel own.h (t.penNe own.h fun _ _ z => by cases z)
  have nG : ∀ a, CelS C a → (W.put p (.lst vs)).G a = none := fun a x => G_free r1 (nC a x)
  have le2 : Le (W.put p (.lst vs)) ((W.put p (.lst vs)).shw s.heap (CelS C)) := le_shw nG
  obtain ⟨m, hm, loc⟩ := I.loc
  have E : EnvOk C (((W.put p (.lst vs)).shw s.heap (CelS C)).see (some (capt sc N ρ))) (capt sc N ρ) := by
    refine ⟨by rw [hN]; exact capt_len lenN, fun x c hc => ?_, fun i d hi => ?_⟩
    · obtain ⟨u, v, h1, h2⟩ := (cells_apartF fn I (cel hc)).2.2.2
      exact ⟨u, v, h2, showL_in ⟨x, hc⟩ h1⟩
    · obtain ⟨x, h1, h2, h3⟩ := capt_at hi
      obtain ⟨v, h4, h5⟩ := t.sl.at_ i d h2
      have h6 : X.env.scope.names.lookup x = some .cell := by rw [o.sc]; exact h3
      obtain ⟨u, h7, h8⟩ := loc i x v (by rw [o.nm]; exact h1) h4 (.inr (.inl h6))
      rcases h8 with ⟨z, _⟩ | ⟨_, c, hc, ob, e1, e2⟩
      · have z' : X.env.scope.names.lookup x = some .local := z
        rw [h6] at z'; cases z'
      · have hc' : C.cells.lookup x = some c := by rw [← hcel]; exact hc
        exact ⟨x, c, v, u, ob, by rw [hN]; exact h1, hc', Rep.see _ _ (Rep.le (le1.trans le2) _ _ h5), h7, e2, showL_in ⟨x, hc'⟩ e1⟩
  have r2 := rel_shw (h := s.heap) r1 nC thC (by exact wenv) E
  have rp : Reps C (((W.put p (.lst vs)).shw s.heap (CelS C)).see (some (capt sc N ρ))) [.lst ds] [.ref p] :=
    ⟨.ref p, [], rfl, ⟨p, vs, rfl, showL_keep nG Wd.put_at, Reps.see _ _ (Reps.le (le1.trans le2) _ _ rs)⟩, rfl⟩
  have e0 := I.env0
  have hok2 := hok_show I.hok nC thC
  have e2 : Env0 X.prog X.w X.K X.mg X.base X.A X.stack s (showL H s.heap (CelS C)) :=
    ⟨e0.frames, e0.mod, fun b u z => ⟨(e0.bs b u z).1, by
      rw [showL_out fun ⟨x, hx⟩ => by rw [(cells_apartF fn I (cel hx)).1] at z; cases z]
      exact (e0.bs b u z).2⟩, e0.bsz, e0.funs, fun b hb => by
      rw [showL_out fun ⟨x, hx⟩ => (cells_apartF fn I (cel hx)).2.1 hb]
      exact e0.frf b hb, hok2, e0.bare⟩
  have FZ : FzL (showL H s.heap (CelS C)) (CelS C) := fun a x => let ⟨u, hu⟩ := thC a x; ⟨u, showL_in x hu⟩
  obtain ⟨o1, o2, o3, o4, o5, o6, o7, o8, o9, o10, o11⟩ := o
  have sp : spDen C den [.ref p] (showL H s.heap (CelS C)) (fun v _ => v = .bl true) (fun _ _ _ => False) := by
    refine ⟨_, _, _, rp, r2, ?_⟩
    rw [hd]
    intro W' H' _ _ v rv
    exact rv
  have hl : ([Value.ref p] : List Value).length = ps.length := F.len _ _ _ _ sp
  have hB := hb s [.ref p] (by have q := I.kIn; rw [o3] at q; exact q) (by rw [List.append_nil]; exact hl)
  rw [List.append_nil] at hB
  rw [o1, o2, o3, o4, o5] at e2
  have run := F.run X.A X.stack s _ ⟨[.ref p], []⟩ [.ref p] [.ref p] (fun v _ => v = .bl true) (fun _ _ _ => False) (o10.mono (Nat.le_succ k)) e2 hB (.cons rfl .nil) sp
  rw [← o1, ← o2] at run
  refine wpAny_call (codeAny_mono run fun res s' hq => ?_)
  match res, hq with
  | .error e, hq =>
    obtain ⟨_, _, _, _, _, _, _, _, _, _, _, _, no⟩ := hq
    exact no.elim
  | .ok (.ret u), hq =>
    obtain ⟨v, H', os, bare, un, hok', rv, ev⟩ := hq
    have ev : v = .bl true := ev
    subst ev
    have FZ' := fz_after FZ un
    exact I.after ⟨.bl true, hidL H' (CelS C), os, bare, un_hid FZ (fun b x => showL_out x) nC hok2 hok' un, hok_hid hok' FZ', rv, q _⟩
  | .ok .next, hq => exact False.elim hq
  | .ok .brk, hq => exact False.elim hq
  | .ok .cont, hq => exact False.elim hq
end
end Mp
set_option Elab.async false
set_option linter.all false
set_option maxRecDepth 100000
set_option maxHeartbeats 2000000
/-! MpCalls4: the statements at the law's end. -/
namespace Mp
open PySem PySem.Spec PyProof.Rows L2 LamX
section
variable {P : Program} {w : World} {C : Rc} {base : Heap} {k : Nat} {N : List Str} {sc : Scope} {Wx : XK} {X : Cx} {Pt : Addr} {ρ : List (Option D)} {st : Ms} {W : Wd} {H : Hp} {σ : Sg} {pins : List (Addr × Obj)} {s : Shared} {Γ : Gx}
theorem slots_off (sl : Slots C W ρ σ) {i : Nat} {v : V} (n : ∀ d, ρ[i]? ≠ some (some d)) : Slots C W ρ (σ.set i (some v)) := by
  refine ⟨by rw [List.length_set]; exact sl.len, fun j d e => ?_⟩
  have nj : i ≠ j := fun z => by rw [← z] at e; exact n d e
  rw [List.getElem?_set_ne nj]
  exact sl.at_ j d e
/-- a list of its own is laid -/
theorem T0.laid (t : T0 C ρ st Pt W H σ) {p : Addr} (hp : H p = none) {vs : List V} {i : Nat} (n : ∀ d, ρ[i]? ≠ some (some d)) : T0 C ρ st Pt W (upd H p (.lst vs)) (σ.set i (some (.ref p))) ∧ Own1 W (upd H p (.lst vs)) p vs := by
  have t1 := t.ext (ext_own (o := .lst vs) hp) (rel_own t.rel hp)
  exact ⟨⟨t1.rel, slots_off t1.sl n, t1.tab, t1.gP⟩, upd_same, G_free t.rel hp⟩
/-- it is written -/
theorem T0.write (t : T0 C ρ st Pt W H σ) {p : Addr} {vs us : List V} (o : Own1 W H p vs) : T0 C ρ st Pt W (upd H p (.lst us)) σ ∧ Own1 W (upd H p (.lst us)) p us := by
  have pP : p ≠ Pt := fun z => by obtain ⟨ps, h⟩ := t.pPt; have y := o.h; rw [z, h] at y; cases y
  refine ⟨⟨rel_chgM t.rel ⟨o.g, fun x hx e => t.penNe o.h (fun _ _ z => by cases z) x hx e.symm⟩, t.sl, ?_, t.gP⟩, upd_same, o.g⟩
  obtain ⟨ps, h1, h2, h3⟩ := t.tab
  refine ⟨ps, by rw [upd_ne (Ne.symm pP)]; exact h1, h2, fun pos cv hc => ?_⟩
  obtain ⟨c, e1, e2⟩ := h3 pos cv hc
  refine ⟨c, e1, ?_⟩
  rw [upd_ne fun z => by rw [z, o.h] at e2; cases e2]
  exact e2
/-- the statements that are left: n lambdas are made, ds0 stand in the list -/
def tCalls (C : Rc) (Γ : Gm) (den : Den) (sc : Scope) (N : List Str) (Pt : Addr) (ic n : Nat) (es : List E) : TS := fun D σ H => ∃ W st ρ p vs ds0 ds, T0 C ρ st Pt W H σ ∧ st.env = none ∧ σ[ic]? = some (some (.ref p)) ∧ (∀ d, ρ[ic]? ≠ some (some d)) ∧ Own1 W H p vs ∧ Reps C W ds0 vs ∧ dues Γ ρ st es ds ∧
  vs.length + es.length ≤ sizeLine ∧ (∃ s', den [.lst (ds0 ++ dueL n ds)] { st with env := some (capt sc N ρ) } = .ok (.bl true) s') ∧ ∀ H', D.rt (.bl true) H'
structure LawX (P : Program) (w : World) (C : Rc) (base : Heap) (k : Nat) (N : List Str) (sc : Scope) (Wx : XK) (X : Cx) (Pt : Addr) : Prop where
  s : SOk P w C base k N sc Wx X
  l : LCx C X Pt
  hN : C.lamN = N
  hc : ∀ x, sc.names.lookup x = some .cell → ∃ c, C.cells.lookup x = some c
theorem noDfl {ps : Arguments} (h : noArg ps = true) {env : Env} : defaultsOf ps env = ([], []) := by
  rw [noArg_eq h]
  first | rfl | simp [defaultsOf, evalEach, evalEachOpt]
theorem item_star {e : Expr} {t : LamT} {m : E} (h : itOf N sc m e = some t) {env : Env} : starEach [e] env = [(false, eval e env)] := by
  obtain ⟨lp, d, kk, tp, ee, _, _⟩ := itOf_inv h
  subst ee
  first | rfl | simp [starEach]
theorem ss_calls (L : LawX P w C base k N sc Wx X Pt) (G : GOk P w C base k Γ.g) {x g : Str} {den : Den} (hD : DefOk P w C base k g den) {ic : Nat} (hx : rdB N sc ic x = true) (hg : glB sc g = true) :
    ∀ (es : List E) (n : Nat) (ts : List LamT) (ss : List Stmt), restOf N sc x g es ss = some ts → (∀ j t, ts[j]? = some t → C.lamT (n + j) = some t) → PSs X ss (tCalls C Γ.g den sc N Pt ic n es)
  | [], n, ts, ss, h, _ => by
    obtain ⟨p1, p2, p3, p4, e1, e2⟩ := rest_nil h
    subst e1 e2
    obtain ⟨r1, r2, r3, r4⟩ := rd_of hx
    obtain ⟨f, fd, ps, hm, hk, hb, F⟩ := hD
    obtain ⟨g1, g2, _⟩ := gl_of L.s.x hg
    have pe : PE X (.Call (.Name g p1) [.Name x p2] [] p3) (fun σ H Q => ∃ W st ρ p vs ds0, T0 C ρ st Pt W H σ ∧ st.env = none ∧ σ[ic]? = some (some (.ref p)) ∧ Own1 W H p vs ∧ Reps C W ds0 vs ∧ (∃ s', den [.lst ds0] { st with env := some (capt sc N ρ) } = .ok (.bl true) s') ∧ ∀ H', Q (.bl true) H') := by
      refine ⟨fun pins s σ H Q I ⟨W, st, ρ, p, vs, ds0, t, he, hs, own, rs, ⟨s', hd⟩, q⟩ => ?_⟩
      have hm' : X.mg g = some (.ref f) := by rw [L.s.x.mg]; exact hm
      have hk' : PySem.W.keepIn X.K (.ref f) = true := by rw [L.s.x.K]; exact hk
      refine wpAny_Call_Name_kw (ld_glob I g1 hm' ?_ g2)
      refine PySem.W.callWith_K (h₀ := X.base) I.ok.mod.kin hk' (thn ((pa_cons (s_var (pos := p2) L.s.x r1 r2 r3 r4) pa_nil).run p3 pins s σ H (fun vs1 H1 => vs1 = [.ref p] ∧ H1 = H) I ⟨.ref p, hs, rfl, rfl⟩) fun us s1 ⟨vs1, H1, I1, r, ea, eb⟩ => ⟨I1.kIn, ?_⟩) rfl rfl
      subst ea eb
      obtain ⟨u, eu, ru⟩ := r.one
      subst eu
      cases ru
      exact run_due L.s.x L.s.fn L.l.cells L.hN F hb I1 t he own rs hd q
    refine PSs.imp (pss_one (ps_ret pe)) fun D σ H ⟨W, st, ρ, p, vs, ds0, ds, t, he, hs, _, own, rs, du, _, ⟨s', hd⟩, q⟩ => ?_
    have du : ds = [] := du
    subst du
    have e0 : ds0 ++ dueL n [] = ds0 := List.append_nil ds0
    rw [e0] at hd
    exact ⟨W, st, ρ, p, vs, ds0, t, he, hs, own, rs, ⟨s', hd⟩, q⟩
  | m :: ms, n, ts, ss, h, hT => by
    obtain ⟨s0, r, t0, tr, e1, e2, ha, hr⟩ := rest_cons h
    subst e1 e2
    obtain ⟨px, ap, it, cp, pos, es, hl, hi⟩ := apOf_inv ha
    subst es
    have ih := ss_calls L G hD hx hg ms (n + 1) tr r hr fun j t e => by
      have := hT (j + 1) t (by simpa using e)
      rw [show n + 1 + j = n + (j + 1) by omega]; exact this
    obtain ⟨r1, r2, r3, r4⟩ := rd_of hx
    have st1 := item_star hi (env := X.env)
    obtain ⟨lp, d, kk, tp, ee, lb, hm⟩ := itOf_inv hi
    subst ee
    have ht : C.lamT n = some t0 := hT 0 t0 rfl
    have LS := lamB_ok lb L.hc
    have na : noArg t0.params = true := by
      have q := lb
      unfold lamB at q
      rw [Bool.and_eq_true] at q
      exact q.1
    have hd0 := noDfl na (env := X.env)
    -- the statement, for every place of the list
    refine PSs.imp (pss_cons (u := tCalls C Γ.g den sc N Pt ic (n + 1) ms) (t := fun D σ H => ∃ W st ρ p vs ds0 due, T0 C ρ st Pt W H σ ∧ σ[ic]? = some (some (.ref p)) ∧ Own1 W H p vs ∧ Reps C W ds0 vs ∧ vs.length < sizeLine ∧ ev Γ.g m ρ st = .ok due st ∧
        ∀ W' H' v, T0 C ρ st Pt W' H' σ → Own1 W' H' p (vs ++ [v]) → Reps C W' (ds0 ++ [.tup [.lam n, due]]) (vs ++ [v]) → D.nx σ H') ?_ ih) ?_
    · refine ⟨fun pins s σ H D I ⟨W, st, ρ, p, vs, ds0, due, t, hs, own, rs, hz, hv, q⟩ => ?_⟩
      have pit := pe_item L.s.x G L.l ht LS hd0 (lp := lp) (kk := kk) (tp := tp) hm hv (Pr := fun W H => Own1 W H p vs ∧ Reps C W ds0 vs) fun W1 H1 W2 H2 σ1 ⟨a, b⟩ t1 g1 => ⟨a.grow t1 g1, Reps.le g1.le _ _ b⟩
      refine (ps_expr (pe_bm PySem.F.plainAttrs_list PySem.F.slot_list_append PySem.F.type_list_append mt_append (s_var L.s.x r1 r2 r3 r4) (pa_cons pit pa_nil st1) rfl (by rw [st1]; rfl) hl st1 rfl)).run pins s σ H D I ?_
      refine ⟨_, hs, .inl ⟨rfl, _, .of own.h⟩, W, t, ⟨own, rs⟩, fun W' H' v t' ⟨own', rs'⟩ rv => ⟨p, vs, v, rfl, rfl, own'.h, hz, ?_⟩⟩
      obtain ⟨t2, own2⟩ := t'.write (us := vs ++ [v]) own'
      exact q _ _ v t2 own2 (rs'.append ⟨v, [], rfl, rv, rfl⟩)
    · intro D σ H ⟨W, st, ρ, p, vs, ds0, ds, t, he, hs, hic, own, rs, du, hz, ⟨s', hd⟩, q⟩
      obtain ⟨d1, dr, e1, e2, e3⟩ := du
      subst e1
      have hz' : vs.length + (ms.length + 1) ≤ sizeLine := hz
      refine ⟨W, st, ρ, p, vs, ds0, d1, t, hs, own, rs, by omega, e2, fun W' H' v t' own' rs' => ?_⟩
      refine ⟨W', st, ρ, p, vs ++ [v], ds0 ++ [.tup [.lam n, d1]], dr, t', he, hs, hic, own', rs', e3, by rw [List.length_append, List.length_singleton]; omega, ⟨s', ?_⟩, q⟩
      rw [List.append_assoc]
      exact hd
/-- where the law's last statements begin -/
def tCalls0 (C : Rc) (Γ : Gm) (den : Den) (sc : Scope) (N : List Str) (Pt : Addr) (ic : Nat) (es : List E) : TS := fun D σ H => ∃ W st ρ ds, T0 C ρ st Pt W H σ ∧ st.env = none ∧ ic < σ.length ∧ (∀ d, ρ[ic]? ≠ some (some d)) ∧ dues Γ ρ st es ds ∧
  es.length ≤ sizeLine ∧ (∃ s', den [.lst (dueL 0 ds)] { st with env := some (capt sc N ρ) } = .ok (.bl true) s') ∧ ∀ H', D.rt (.bl true) H'
theorem ss_calls0 (L : LawX P w C base k N sc Wx X Pt) (G : GOk P w C base k Γ.g) {x g : Str} {den : Den} (hD : DefOk P w C base k g den) {ic : Nat} (hx : rdB N sc ic x = true) (hlx : sc.names.lookup x = some .local) (hg : glB sc g = true)
    {es : List E} {ts : List LamT} {ss : List Stmt} (h : callsOf N sc x g es ss = some ts) (hT : ∀ j t, ts[j]? = some t → C.lamT j = some t) : PSs X ss (tCalls0 C Γ.g den sc N Pt ic es) := by
  obtain ⟨m, ms, s0, r, t0, tr, em, e1, e2, ha, hr⟩ := calls_inv h
  subst em e1 e2
  obtain ⟨px, it, lpos, pos, es, hi⟩ := stOf_inv ha
  subst es
  have ih := ss_calls L G hD hx hg ms 1 tr r hr fun j t e => by
    have := hT (j + 1) t (by simpa using e)
    rw [show 1 + j = j + 1 by omega]; exact this
  obtain ⟨r1, r2, r3, r4⟩ := rd_of hx
  have st1 := item_star hi (env := X.env)
  obtain ⟨lp, d, kk, tp, ee, lb, hm⟩ := itOf_inv hi
  subst ee
  have ht : C.lamT 0 = some t0 := hT 0 t0 rfl
  have LS := lamB_ok lb L.hc
  have na : noArg t0.params = true := by
    have q := lb
    unfold lamB at q
    rw [Bool.and_eq_true] at q
    exact q.1
  have hd0 := noDfl na (env := X.env)
  have hN1 : X.N[ic]? = some x := by rw [L.s.x.nm]; exact r1
  have hloc : X.env.scope.names.lookup x = some .local := by rw [L.s.x.sc]; exact hlx
  refine PSs.imp (pss_cons (u := tCalls C Γ.g den sc N Pt ic 1 ms) (t := fun D σ H => ∃ W st ρ due, T0 C ρ st Pt W H σ ∧ ev Γ.g m ρ st = .ok due st ∧
      ∀ W' H' v p, T0 C ρ st Pt W' H' σ → H' p = none → Rep C W' (.tup [.lam 0, due]) v → D.nx (σ.set ic (some (.ref p))) (upd H' p (.lst [v]))) ?_ ih) ?_
  · refine ⟨fun pins s σ H D I ⟨W, st, ρ, due, t, hv, q⟩ => ?_⟩
    have pit := pe_item L.s.x G L.l ht LS hd0 (lp := lp) (kk := kk) (tp := tp) hm hv (Pr := fun _ _ => True) fun _ _ _ _ _ _ _ _ => trivial
    refine (ps_set (by rw [L.s.x.nm]; exact L.s.x.nd) hN1 (.inl hloc) (pe_lst (pa_cons pit pa_nil st1)) (swap_none rfl) (.inl (L.s.fn _))).run pins s σ H D I ?_
    refine ⟨W, t, trivial, fun W' H' v t' _ rv => ⟨by show 1 ≤ sizeLine; decide, fun p hp => ?_⟩⟩
    exact q _ _ v p t' hp rv
  · intro D σ H ⟨W, st, ρ, ds, t, he, hlen, hic, du, hz, ⟨s', hd⟩, q⟩
    obtain ⟨d1, dr, e1, e2, e3⟩ := du
    subst e1
    refine ⟨W, st, ρ, d1, t, e2, fun W' H' v p t' hp rv => ?_⟩
    obtain ⟨t2, own2⟩ := t'.laid (vs := [v]) hp hic
    have hlen' : ic < σ.length := hlen
    refine ⟨W', st, ρ, p, [v], [.tup [.lam 0, d1]], dr, t2, he, ?_, hic, own2, ⟨v, [], rfl, rv, rfl⟩, e3, ?_, ⟨s', hd⟩, q⟩
    · rw [List.getElem?_set_self hlen']
    · have hz' : ms.length + 1 ≤ sizeLine := hz
      show 1 + ms.length ≤ sizeLine
      omega
end
end Mp
set_option Elab.async false
set_option linter.all false
set_option maxRecDepth 100000
set_option maxHeartbeats 2000000
/-! MpTail: statements by terms, then others; chains of surroundings. -/
namespace Mp
open PySem PySem.Spec PyProof.Rows L2
section
variable {P : Program} {w : World} {C : Rc} {base : Heap} {k : Nat} {Γ : Gx}
/-- these statements, then what t2 wishes -/
def tThen (C : Rc) (Γ : Gx) (Wx : XK) (m : Ss) (t2 : TS) : TS := fun D σ H => ∃ W0 H0 W st ρ, SI C W0 H0 W H ρ σ st ∧
  OQ C Wx W0 H0 (fun c s W H => match c with
    | .nx ρ => ∀ σ, SI C W0 H0 W H ρ σ s → t2 D σ H
    | .rt d => ∀ v, Rep C W d v → D.rt v H
    | .bk ρ => ∀ σ, SI C W0 H0 W H ρ σ s → D.bk σ H
    | .ct ρ => ∀ σ, SI C W0 H0 W H ρ σ s → D.ct σ H) (evSs Γ m ρ st)
theorem sts_then (G : GxOk P w C base k Γ) {N : List Str} {sc : Scope} {Wx : XK} {X : Cx} (o : SOk P w C base k N sc Wx X) {rest : List Stmt} {t2 : TS} (h2 : PSs X rest t2) : ∀ (m : Ss) (ss : List Stmt), mtSs N sc m ss = true → PSs X (ss ++ rest) (tThen C Γ Wx m t2)
  | .nil, ss, h => by
    rw [nil_inv h]
    refine PSs.imp h2 fun D σ H ⟨W0, H0, W, st, ρ, J, q⟩ => q W H J.ext J.rel σ J
  | .cons m r, ss, h => by
    obtain ⟨s1, t, hs, g1, g2⟩ := cons_inv h
    rw [hs]
    refine PSs.imp (pss_cons (st_ok G m N sc Wx X s1 o g1) (sts_then G o h2 r t g2)) fun D σ H ⟨W0, H0, W, st, ρ, J, q⟩ => ?_
    refine ⟨W0, H0, W, st, ρ, J, (OQ.bind0 q).imp fun c s W1 H1 e1 r1 q1 => ?_⟩
    cases c with
    | nx ρ' => exact fun σ' J' => ⟨W0, H0, W1, s, ρ', J', q1⟩
    | rt d => exact q1 W1 H1 e1 r1
    | bk ρ' => exact q1 W1 H1 e1 r1
    | ct ρ' => exact q1 W1 H1 e1 r1
end
section
variable {P : Program} {w : World} {C : Rc} {base : Heap} {j k : Nat}
theorem DefOk.mono {x : Str} {den : Den} (d : DefOk P w C base j x den) (h : j ≤ k) : DefOk P w C base k x den := by
  obtain ⟨f, fd, ps, h1, h2, h3, h4⟩ := d
  exact ⟨f, fd, ps, h1, h2, h3, h4.mono h⟩
end
/-! ### a law that ends in calls -/
/-- the drawing dict at the law's beginning -/
def stP (ns : List Int) (fo : Int) : Ms := { pen := some ⟨ns, 0, 0, 0, fo⟩ }
def rL (n : Nat) : List Sl := .no :: .sh .pen :: List.replicate n .no
def spLaw (K : PySem.W.Frag) (n : Nat) (Pt : Addr) : Sp := fun vs H Q _ => ∃ (a : Addr) (ns : List Int), vs = [.ref a] ∧ ns.length ≤ n ∧ SqL K H a (ns.map V.int) ∧ H Pt = some (.tbl #[]) ∧ ∀ H', Q (.bl true) H'
/-- what the law's lambdas are called after -/
def lawQ : Str := ("law" : Str) ++ ".<locals>."
/-- the law's text: pen = _law_pen(script), others by m, its calls by es -/
structure LawT (N : List Str) (sc : Scope) (m : Ss) (ic : Nat) (es : List E) (ts : List LamT) (body : List Stmt) : Prop where
  parts : ∃ p p1 p2 p3 p4 mid tl, body = .Assign [.Name "pen" p] (.Call (.Name "_law_pen" p1) [.Name "script" p2] [] p3) p4 :: (mid ++ tl) ∧ mtSs N sc m mid = true ∧ callsOf N sc "calls" "_law_due" es tl = some ts
  gp : glB sc "_law_pen" = true
  vs : visB sc "script" = true
  lp : locB sc "pen" = true
  n0 : N[0]? = some ("script" : Str)
  n1 : N[1]? = some ("pen" : Str)
  nc : rdB N sc ic "calls" = true
  lc : sc.names.lookup ("calls" : Str) = some .local
  gd : glB sc "_law_due" = true
/-- what the law's statements are worth: at every drawing state all ends well -/
def LawP (Γ : Gx) (den : Den) (N : List Str) (sc : Scope) (m : Ss) (ic : Nat) (es : List E) (n : Nat) : Prop :=
  ∀ (ns : List Int) (fo : Int), ns.length ≤ n → 0 ≤ fo → fo < foB → ∃ ρ s ds s', evSs Γ m (rL (N.length - 2)) (stP ns fo) = .ok (.nx ρ) s ∧ s.env = none ∧ ρ[ic]? = some .no ∧ dues Γ.g (look [] ρ) s es ds ∧
    den [.lst (dueL 0 ds)] { s with env := some (capt sc N (look [] ρ)) } = .ok (.bl true) s'
section
variable {P : Program} {w : World} {C0 : Rc} {base : Heap} {k n : Nat} {Γ : Gx} {den : Den} {params : Arguments} {body : List Stmt} {scope : Scope} {f fp cd Pt : Addr} {fd fdp : FuncData} {N : List Str} {m : Ss} {ic : Nat} {es : List E} {ts : List LamT} {kk : Nat}
/-- the surroundings at the law's call -/
def lawC (C0 : Rc) (N : List Str) (sc : Scope) (ts : List LamT) (s : Shared) : Rc := { K := C0.K, mg := C0.mg, lamT := fun n => ts[n]?, lamQ := lawQ, cells := cellsFrom (s.heap.objs.size + 1) sc.names [], lamN := N }
theorem law_fn (F : FunD C0.K "law" "law" params body scope [] [] f fd) (S : FnScope N ["script"] scope) (T : LawT N scope m ic es ts body) (TB : LamX.TabB base C0.mg cd Pt) (hcd : fd.code = .ref cd) (hes : es.length ≤ sizeLine)
    (Fp : FnG P w C0 base kk fp fdp ["script"] (spPen C0)) (hkk : kk ≤ k) (bp : Binds C0.K fdp ["script"] []) (mp : C0.mg "_law_pen" = some (.ref fp)) (kp : PySem.W.keepIn C0.K (.ref fp) = true)
    (ch : ∀ C : Rc, C.K = C0.K → C.mg = C0.mg → C.lamT = (fun n => ts[n]?) → C.lamQ = lawQ → C.lamN = N → CelInj C → (∀ x, scope.names.lookup x = some .cell → ∃ c, C.cells.lookup x = some c) → GxOk P w C base k Γ ∧ DefOk P w C base k "_law_due" den)
    (pl : LawP Γ den N scope m ic es n) : FnG P w C0 base (k + 2) f fd ["script"] (spLaw C0.K n Pt) := by
  refine fnG_genC (k := k + 1) F S (fun vs H Q E ⟨a, ns, ev, _⟩ => by rw [ev]; rfl) fun cdv A outer s H vs Q E hcv hr ⟨a, ns, ev, hlen, sq, hPt, q⟩ => ?_
  subst ev
  have hcell : ∀ x, scope.names.lookup x = some .cell → ∃ c, (lawC C0 N scope ts s).cells.lookup x = some c := fun x hx => Option.isSome_iff_exists.mp (PySem.W.cellsFrom_some _ _ _ (.inl hx))
  obtain ⟨G, hD⟩ := ch (lawC C0 N scope ts s) rfl rfl rfl rfl rfl (cel_inj (n := s.heap.objs.size + 1) (names := scope.names) rfl) hcell
  have o := (sok_body (k := k) (C := lawC C0 N scope ts s) (base := base) (w := w) (P := P) (E := E) (H := H) (outer := outer) (cdv := cdv) (qual := "law") (f := f) S hr)
  have LX : LawX P w (lawC C0 N scope ts s) base k N scope E (cxOf (CX P w) P w C0.K C0.mg base N "law" scope f cdv A outer s H E) Pt := ⟨o, ⟨⟨cd, TB, by
    show cdv = _
    rw [← hcv]; exact hcd⟩, rfl, rfl⟩, rfl, hcell⟩
  obtain ⟨⟨p, p1, p2, p3, p4, mid, tl, hb, hm, hc⟩, gp, vsc, lp, n0, n1, nc, lc, gd⟩ := T
  have tail := ss_calls0 LX G.g hD nc lc gd hc fun j t e => e
  generalize hX : cxOf (CX P w) P w C0.K C0.mg base N "law" scope f cdv A outer s H E = X at LX tail
  have o : SOk P w (lawC C0 N scope ts s) base k N scope E X := LX.s
  have hN : X.N = N := o.x.nm
  have nd : X.N.Nodup := by rw [o.x.nm]; exact o.x.nd
  have pv0 : PE X (.Name "script" p2) (tVar 0) := s_var o.x n0 vsc (by decide) (by decide)
  have Fp' : FnG P w (lawC C0 N scope ts s) base k fp fdp ["script"] (spPen (lawC C0 N scope ts s)) := ⟨(Fp.mono hkk).len, (Fp.mono hkk).run⟩
  have call := pe_den (p := p1) (pos := p3) o.x Fp' bp gp mp kp (fun y hy => by rw [List.mem_singleton.mp hy]; rfl) (pa_cons pv0 pa_nil) (fun z => by cases z)
  have s0 := ps_set (pos := p4) (pos' := p) (x := "pen") nd (i := 1) (by rw [hN]; exact n1) (loc_of o.x lp) call (swap_none rfl) (.inl (o.fn _))
  have all := pss_cons s0 (sts_then G o tail m _ hm)
  rw [← hb] at all
  refine ⟨_, all, ?_⟩
  have hNl : 2 ≤ N.length := by
    by_cases z : 2 ≤ N.length
    · exact z
    · rw [List.getElem?_eq_none (by omega)] at n1; cases n1
  have s0e : (L2.start N [V.ref a])[0]? = some (some (.ref a)) := by
    unfold L2.start
    simp
  have sle : (L2.start N [V.ref a]).length = N.length := by
    unfold L2.start
    rw [List.length_append, List.length_map, List.length_replicate]
    show 1 + (N.length - 1) = _
    omega
  refine ⟨_, s0e, a, ns, rfl, sq, fun H1 fo pp cc kp1 h0 h1 hp hcc hne => ?_⟩
  have hpc : penHp H1 pp cc ns fo cc = some (.lst (ns.map V.int)) := by
    unfold penHp
    rw [upd_ne hne, upd_same]
  have hpp : penHp H1 pp cc ns fo pp = some (.dK (penKvs ⟨ns, 0, 0, 0, fo⟩ cc)) := by
    unfold penHp
    rw [upd_same]
  have hPt1 : H1 Pt = some (.tbl #[]) := kp1.keep _ _ hPt
  have nPp : Pt ≠ pp := fun z => by rw [z, hp] at hPt1; cases hPt1
  have nPc : Pt ≠ cc := fun z => by rw [z, hcc] at hPt1; cases hPt1
  have hPt2 : penHp H1 pp cc ns fo Pt = some (.tbl #[]) := by
    unfold penHp
    rw [upd_ne nPp, upd_ne nPc, upd_ne nPp]; exact hPt1
  let W : Wd := { G := upd (fun _ => none) cc (.lst (ns.map V.int)), pen := some (pp, cc), ids := fun _ => none, nid := 0, scr := none }
  have wg : ∀ {x o}, W.G x = some o → x = cc ∧ o = .lst (ns.map V.int) := fun {x o} z => by
    have z' : upd (fun _ => none) cc (.lst (ns.map V.int)) x = some o := z
    by_cases e : x = cc
    · rw [e, upd_same] at z'
      exact ⟨e, (Option.some.inj z').symm⟩
    · rw [upd_ne e] at z'; cases z'
  have rel : Rel (lawC C0 N scope ts s) W (stP ns fo) (penHp H1 pp cc ns fo) := by
    refine ⟨fun x o z => ?_, fun x hx => ?_, fun z => (by cases z), rfl, fun _ _ z => (by cases z), fun _ _ _ z => (by cases z), rfl, fun _ z => (by cases z)⟩
    · obtain ⟨e1, e2⟩ := wg z
      rw [e1, e2]; exact hpc
    · have hx' : (pp, cc) = x := Option.some.inj hx
      subst hx'
      refine ⟨_, rfl, hpp, ?_, by show upd (fun _ => none) cc (.lst (ns.map V.int)) cc = _; exact upd_same⟩
      show upd (fun _ => none) cc (.lst (ns.map V.int)) pp = none
      rw [upd_ne (Ne.symm hne)]
  have sl : SSl (lawC C0 N scope ts s) W (penHp H1 pp cc ns fo) (penHp H1 pp cc ns fo) (rL (N.length - 2)) ((L2.start N [.ref a]).set 1 (some (.ref pp))) := by
    have only : ∀ (i : Nat) (x : Sl), (rL (N.length - 2))[i]? = some x → x.any = true → i = 1 ∧ x = .sh .pen := fun i x hx ha => by
      match i, hx with
      | 0, hx => cases hx; cases ha
      | 1, hx => cases hx; exact ⟨rfl, rfl⟩
      | i + 2, hx =>
        have hx' : (List.replicate (N.length - 2) Sl.no)[i]? = some x := hx
        rw [List.getElem?_replicate] at hx'
        split at hx'
        · cases hx'; cases ha
        · cases hx'
    refine ⟨?_, fun i x hx ha => ?_, fun i j x y v hi hj ox _ _ _ => ?_⟩
    · rw [List.length_set, sle]
      unfold rL
      simp only [List.length_cons, List.length_replicate]
      omega
    · obtain ⟨e1, e2⟩ := only i x hx ha
      subst e1 e2
      exact ⟨.ref pp, by rw [List.getElem?_set_self (by rw [sle]; omega)], pp, cc, rfl, rfl⟩
    · obtain ⟨e1, e2⟩ := only i x hi (by cases x <;> first | rfl | cases ox)
      subst e2
      cases ox
  obtain ⟨ρ8, s8, ds, s9, e8, he8, hic, du, hd⟩ := pl ns fo hlen h0 h1
  refine ⟨W, penHp H1 pp cc ns fo, W, stP ns fo, rL (N.length - 2), ⟨rel, .refl _ _, sl⟩, ?_⟩
  rw [e8]
  intro W8 H8 x8 r8 σ J
  have gP0 : W.G Pt = none := by
    show upd (fun _ => none) cc (.lst (ns.map V.int)) Pt = none
    rw [upd_ne nPc]
  have hP8 : H8 Pt = some (.tbl #[]) := J.ext.keep _ _ hPt2 fun x hx => by
    have hx' : (pp, cc) = x := Option.some.inj hx
    subst hx'
    exact nPp
  have gP8 : W8.G Pt = none := by
    cases z : W8.G Pt with
    | none => rfl
    | some u =>
      rcases J.ext.newG _ _ z with y | y
      · rw [gP0] at y; cases y
      · rw [hPt2] at y; cases y
  have le8 : (W8.frz H8 (Lof [] ρ8 σ)).G Pt = none := by
    by_cases z : Lof [] ρ8 σ Pt
    · obtain ⟨_, vs, e⟩ := J.sl.ownL [] Pt z
      rw [hP8] at e; cases e
    · rw [frz_out z]; exact gP8
  have hil : ic < σ.length := by
    rw [← J.sl.len]
    by_cases z : ic < ρ8.length
    · exact z
    · rw [List.getElem?_eq_none (by omega)] at hic; cases hic
  refine ⟨W8.frz H8 (Lof [] ρ8 σ), s8, look [] ρ8, ds, ⟨rel_frzL J.rel (J.sl.ownL _), J.sl.slots _, ⟨#[], hP8, ?_, fun pos cv hc => ?_⟩, le8⟩, he8, hil, fun d z => ?_, du, hes, ⟨s9, hd⟩, q⟩
  · first | trivial | exact .nil | simp [PySem.TriplesOk]
  · first | cases hc | simp [codeAmong] at hc
  · unfold look at z
    rw [List.getElem?_mapIdx, hic] at z
    cases z
end
end Mp
set_option Elab.async false
set_option linter.all false
set_option maxRecDepth 100000
set_option maxHeartbeats 2000000
/-! MpErr: what the head must tell of errors, of classes with an own ==. -/
namespace Mp
open PySem PySem.Spec PyProof.Rows L2
/-- an error's class, made as ValueError's -/
def oexB (K : PySem.W.Frag) (c : Addr) : Bool := (match K.lookup c with
  | some ⟨.type t, _, .cls cd, sl⟩ => (match cd.mro, sl.toList with
    | .ref c' :: bm, [_, _, _, _, some (.builtin n), _] => decide (t = "type") && (decide (c' = c) && (decide (n = "ValueError.__new__") && (!cd.hasDel && (cd.hasDict && PySem.HandSPX.refsVE bm))))
    | _, _ => false)
  | _ => false) && (decide (PySem.W.findIn K (.ref c) "__setattr__" = some (some (.builtin "object.__setattr__"))) && (decide (PySem.W.subIn K (.ref c) (.type "BaseException") = some true) && (decide (PySem.W.typeIn K (.ref c) = some (.type "type")) && PySem.W.keepIn K (.ref c))))
theorem oexB_ok {K : PySem.W.Frag} {c : Addr} (h : oexB K c = true) : OexC K c := by
  unfold oexB at h
  rw [Bool.and_eq_true] at h
  obtain ⟨h1, h2⟩ := h
  simp only [Bool.and_eq_true, decide_eq_true_eq] at h2
  obtain ⟨a1, a2, a3, a4⟩ := h2
  refine ⟨?_, a1, a2, a3, a4⟩
  split at h1
  · rename_i t dd cd sl ho
    split at h1
    · rename_i c' bm k0 k1 k2 k3 n k5 hm hs
      simp only [Bool.and_eq_true, decide_eq_true_eq, Bool.not_eq_true'] at h1
      obtain ⟨rfl, rfl, rfl, hdel, hdict, ht⟩ := h1
      obtain ⟨nm, bs, mro, ns, qn, hd, sn, sub, ab, col, del⟩ := cd
      dsimp only at hm hdel hdict
      subst hm hdel hdict
      have hsl : sl = #[k0, k1, k2, k3, some (.builtin "ValueError.__new__"), k5] := by
        obtain ⟨l⟩ := sl
        simp only at hs
        rw [hs]
      subst hsl
      exact ⟨nm, qn, ns, bs, bm, sn, sub, ab, col, dd, k0, k1, k2, k3, k5, ho, ht⟩
    · cases h1
  · cases h1
/-- all of an error -/
def errAllB (K : PySem.W.Frag) (p : Str × List Str) : Bool := oexB K (He.ga K p.1) && (xfB K (He.ga K p.1) && (decide (PySem.W.findIn K (.ref (He.ga K p.1)) "__init__" = some (some (.ref (He.ma K (He.ga K p.1) "__init__")))) &&
  (decide (PySem.W.typeIn K (.ref (He.ma K (He.ga K p.1) "__init__")) = some (.type "function")) && p.2.all fun f => decide (PySem.W.findIn K (.ref (He.ga K p.1)) f = some none))))
abbrev mx (a b : Str) (r : Bool) : (Str × Str) × Bool := ((a, b), r)
def exmB (K : PySem.W.Frag) (p : (Str × Str) × Bool) : Bool := decide (PySem.W.exmOne K (.ref (He.ga K p.1.1)) (.ref (He.ga K p.1.2)) = some p.2)
section
variable {P : Program} {w : World} {C : Rc} {base : Heap}
theorem err_entry {c b qual : Str} {fs N : List Str} {params : Arguments} {body : List Stmt} {scope : Scope} {cN : Addr} {fd : FuncData} (hB : errAllB C.K (c, fs) = true) (mg : C.mg c = some (.ref (He.ga C.K c)))
    (F : FunD C.K "__init__" qual params body scope [] [] (He.ma C.K (He.ga C.K c) "__init__") fd) (S : FnScope N (("self" : Str) :: fs) scope) (hm : mtErr N scope b fs body = true)
    (mgN : C.mg b = some (.ref cN)) (TN : errB C.K cN = true) (h1 : 1 ≤ fs.length ∧ fs.length ≤ 800) (hN : fs.length + 1 ≤ N.length) (hb : Binds C.K fd (("self" : Str) :: fs) []) :
    ∃ cl, ErrOk P w C base c fs cl ∧ XfC C.K cl ∧ ∀ f ∈ fs, PySem.W.findIn C.K (.ref cl) f = some none := by
  unfold errAllB at hB
  simp only [Bool.and_eq_true, decide_eq_true_eq, List.all_eq_true] at hB
  obtain ⟨o, x, i, t, f⟩ := hB
  refine ⟨_, ⟨mg, oexB_ok o, fun z => ?_, _, fd, i, t, fn_err F S hm mgN (errB_ok TN) (oexB_ok o) f h1 hN, hb⟩, xfB_ok x, f⟩
  rw [z] at h1
  exact absurd h1.1 (by decide)
theorem exm_entry {p : (Str × Str) × Bool} (h : exmB C.K p = true) (m1 : C.mg p.1.1 = some (.ref (He.ga C.K p.1.1))) (m2 : C.mg p.1.2 = some (.ref (He.ga C.K p.1.2))) :
    ∃ cl cl', C.mg p.1.1 = some (.ref cl) ∧ C.mg p.1.2 = some (.ref cl') ∧ PySem.W.exmOne C.K (.ref cl) (.ref cl') = some p.2 := ⟨_, _, m1, m2, of_decide_eq_true h⟩
theorem sub_of {K : PySem.W.Frag} {c : Addr} (h : subB K c = true) : ∀ n ∈ tyNames, PySem.W.subIn K (.type n) (.ref c) = some false := fun n hn => of_decide_eq_true (List.all_eq_true.mp h n hn)
/-- an own method, by its body -/
theorem meth_entry {k : Nat} {Γ : Gx} {c m x qual : Str} {ps N : List Str} {params : Arguments} {body : List Stmt} {scope : Scope} {fd : FuncData} {b : Ss} (mg : C.mg c = some (.ref (He.ga C.K c))) (k1 : Cls C.K (He.ga C.K c)) (M : Meth C.K (He.ga C.K c) m (He.ma C.K (He.ga C.K c) m))
    (sB : subB C.K (He.ga C.K c) = true) (F : FunD C.K x qual params body scope [] [] (He.ma C.K (He.ga C.K c) m) fd) (S : FnScope N ps scope) (hp : ps.length ≤ N.length) (hb : Binds C.K fd ps []) (G : GxOk P w C base k Γ) (hm : mtSs N scope b body = true) :
    MethOk P w C base (k + 2) c m (denOf Γ ps.length N.length b) := ⟨_, _, fd, ps, mg, k1, M, fnG_den F S hp G hm, hb, sub_of sB⟩
/-- the law's lambdas, their bodies by terms -/
def lamsB (N : List Str) (sc : Scope) : List E → List LamT → Bool
  | [], [] => true
  | e :: es, t :: ts => lamB sc t && (mt N t.scope e t.body && lamsB N sc es ts)
  | _, _ => false
theorem lamsB_at {N : List Str} {sc : Scope} : ∀ {es : List E} {ts : List LamT}, lamsB N sc es ts = true → ∀ {n : Nat} {e : E}, es[n]? = some e → ∃ t, ts[n]? = some t ∧ lamB sc t = true ∧ mt N t.scope e t.body = true
  | [], _, _, n, e, h => by simp at h
  | e0 :: es, [], h0, _, _, _ => by simp [lamsB] at h0
  | e0 :: es, t0 :: ts, h0, n, e, h => by
    simp only [lamsB, Bool.and_eq_true] at h0
    cases n with
    | zero => simp at h; subst h; exact ⟨t0, rfl, h0.1, h0.2.1⟩
    | succ n =>
      obtain ⟨t, h1, h2⟩ := lamsB_at h0.2.2 (n := n) (e := e) (by simpa using h)
      exact ⟨t, by simpa using h1, h2⟩
/-- what is known of the law's call -/
structure LawC (C : Rc) (N : List Str) (sc : Scope) (ts : List LamT) : Prop where
  lamT : C.lamT = fun n => ts[n]?
  lamN : C.lamN = N
  inj : CelInj C
  hc : ∀ x, sc.names.lookup x = some .cell → ∃ c, C.cells.lookup x = some c
theorem lam_ok {N : List Str} {sc : Scope} {es : List E} {ts : List LamT} (L : LawC C N sc ts) (h : lamsB N sc es ts = true) (nd : N.Nodup) {j k : Nat} {t t0 : Tb} (T : TbOk P w C base j t0) (hj : j + 1 ≤ k) (ht : t.lam = es.map fun e => ev t0.gm e) : LamOk P w C base k t.gm where
  inj := L.inj
  nd := by rw [L.lamN]; exact nd
  at_ := fun n f hf => by
    have hf' : t.lam[n]? = some f := hf
    rw [ht, List.getElem?_map] at hf'
    obtain ⟨e, he, ef⟩ := Option.map_eq_some_iff.mp hf'
    subst ef
    obtain ⟨lt, h1, h2, h3⟩ := lamsB_at h he
    refine ⟨lt, j, by rw [L.lamT]; exact h1, lamB_ok h2 L.hc, hj, fun Wx Y o => ?_⟩
    rw [L.lamN] at o
    exact (ev_ok (gok T) e N lt.scope Wx Y lt.body o h3).1
end
end Mp
set_option Elab.async false
set_option linter.all false
set_option maxRecDepth 100000
set_option maxHeartbeats 2000000
/-! MpRepr: two reprs of one datum are the same text, whatever it is. -/
namespace Mp
open PySem PySem.Spec PyProof.Rows L2
mutual
/-- leaves that are shown shortly, in plain letters -/
def lvP : PyData → Bool
  | .none => true
  | .bool _ => true
  | .int i => decide (i.natAbs < 100)
  | .str x => decide (x.cps.size ≤ 8) && (PyData.strOk (reprText x) && x.cps.toList.all fun c => decide (c < 16 ^ 8))
  | .list xs => lvPs xs
  | .tuple xs => lvPs xs
  | .dict _ => false
def lvPs : List PyData → Bool
  | [] => true
  | x :: xs => lvP x && lvPs xs
end
theorem int_small : ∀ i : Fin 100, PyData.strOk (PyData.shown (.int (i : Nat))) = true ∧ (PyData.shown (.int (i : Nat))).length ≤ 13 ∧ PyData.strOk (PyData.shown (.int (-(i : Nat)))) = true ∧ (PyData.shown (.int (-(i : Nat)))).length ≤ 13 := by decide +kernel
theorem int_lv {i : Int} (h : i.natAbs < 100) : PyData.strOk (PyData.shown (.int i)) = true ∧ (PyData.shown (.int i)).length ≤ 13 := by
  have z := int_small ⟨i.natAbs, h⟩
  rcases Int.natAbs_eq i with e | e
  · rw [e]; exact ⟨z.1, z.2.1⟩
  · rw [e]; exact ⟨z.2.2.1, z.2.2.2⟩
theorem sok_app (x y : Str) : PyData.strOk (x ++ y) = (PyData.strOk x && PyData.strOk y) := by
  show (x.cps ++ y.cps).all _ = (x.cps.all _ && y.cps.all _)
  rw [Array.all_append]
theorem sok_from : ∀ (ts : List Str) (k : Nat) (acc : Str), PyData.strOk acc = true → (∀ t ∈ ts, PyData.strOk t = true) → PyData.strOk (textFrom k acc ts) = true
  | [], k, acc, h, _ => h
  | t :: ts, k, acc, h, ht => by
    show PyData.strOk (textFrom (k + 1) (acc ++ (if k > 0 then ", " else "" : String) ++ t) ts) = true
    refine sok_from ts (k + 1) _ ?_ fun x hx => ht x (List.mem_cons_of_mem _ hx)
    rw [sok_app, sok_app, h, ht t List.mem_cons_self]
    split <;> decide +kernel
theorem sok_list {ts : List Str} (h : ∀ t ∈ ts, PyData.strOk t = true) : PyData.strOk (listText ts) = true := by
  unfold listText
  rw [sok_app, sok_from ts 0 "[" (by decide +kernel) h]
  decide +kernel
theorem sok_join : ∀ {ts : List Str}, (∀ t ∈ ts, PyData.strOk t = true) → PyData.strOk (Str.join ", " ts) = true
  | [], _ => by decide +kernel
  | [t], h => h t List.mem_cons_self
  | t :: u :: ts, h => by
    have ih := sok_join (ts := u :: ts) fun x hx => h x (List.mem_cons_of_mem _ hx)
    have e : Str.join ", " (t :: u :: ts) = t ++ ", " ++ Str.join ", " (u :: ts) := rfl
    rw [e, sok_app, sok_app, h t List.mem_cons_self, ih]
    decide +kernel
theorem sok_tup {ts : List Str} (h : ∀ t ∈ ts, PyData.strOk t = true) : PyData.strOk (tupleText ts) = true := by
  unfold tupleText
  rw [sok_app, sok_app, sok_join h]
  split <;> decide +kernel
mutual
theorem lv_ok : ∀ (p : PyData), lvP p = true → PyData.strOk p.shown = true ∧ p.showable = true ∧ p.leavesShort 13 = true
  | .none, _ => ⟨by decide +kernel, rfl, rfl⟩
  | .bool b, _ => ⟨by cases b <;> decide +kernel, rfl, rfl⟩
  | .int i, h => by
    have h' : i.natAbs < 100 := of_decide_eq_true h
    obtain ⟨a, b⟩ := int_lv h'
    refine ⟨a, ?_, decide_eq_true b⟩
    show decide (i.natAbs.log2 < 1920) = true
    rw [decide_eq_true_iff]
    have : i.natAbs.log2 ≤ i.natAbs := Nat.log2_le_self _
    omega
  | .str x, h => by
    have h' : (decide (x.cps.size ≤ 8) && (PyData.strOk (reprText x) && x.cps.toList.all fun c => decide (c < 16 ^ 8))) = true := h
    simp only [Bool.and_eq_true] at h'
    exact ⟨h'.2.1, rfl, h'.2.2⟩
  | .list xs, h => by
    obtain ⟨a, b, c⟩ := lvs_ok xs h
    exact ⟨by simp only [PyData.shown]; exact sok_list a, by simp only [PyData.showable]; exact b, by simp only [PyData.leavesShort]; exact c⟩
  | .tuple xs, h => by
    obtain ⟨a, b, c⟩ := lvs_ok xs h
    exact ⟨by simp only [PyData.shown]; exact sok_tup a, by simp only [PyData.showable]; exact b, by simp only [PyData.leavesShort]; exact c⟩
  | .dict _, h => by cases h
theorem lvs_ok : ∀ (ps : List PyData), lvPs ps = true → (∀ t ∈ PyData.shownAll ps, PyData.strOk t = true) ∧ PyData.showableAll ps = true ∧ PyData.leavesShortAll 13 ps = true
  | [], _ => ⟨fun t h => by simp [PyData.shownAll] at h, rfl, rfl⟩
  | p :: ps, h => by
    have h' : (lvP p && lvPs ps) = true := h
    rw [Bool.and_eq_true] at h'
    obtain ⟨a, b, c⟩ := lv_ok p h'.1
    obtain ⟨a2, b2, c2⟩ := lvs_ok ps h'.2
    refine ⟨fun t ht => ?_, by simp only [PyData.showableAll, b, b2, Bool.and_self], by simp only [PyData.leavesShortAll, c, c2, Bool.and_self]⟩
    simp only [PyData.shownAll, List.mem_cons] at ht
    rcases ht with z | z
    · rw [z]; exact a
    · exact a2 t z
end
theorem shaped_str {t : Str} (h : PyData.strOk t = true) : SeqAt.shaped (.str t) = true := by
  unfold SeqAt.shaped
  simp [PyData.canLay0, PyData.depth, h]
/-- a datum that repr shows: depth k at most, bulk b at most -/
def Rp (k b : Nat) (d : D) : Prop := ∃ p, toPyR d = some p ∧ lvP p = true ∧ p.depth ≤ k ∧ p.bulk ≤ b
def rpB (k b : Nat) (d : D) : Bool := match toPyR d with
  | some p => lvP p && (decide (p.depth ≤ k) && decide (p.bulk ≤ b))
  | none => false
theorem rp_of {k b : Nat} {d : D} (h : rpB k b d = true) : Rp k b d := by
  unfold rpB at h
  cases e : toPyR d with
  | none => rw [e] at h; cases h
  | some p =>
    rw [e] at h
    simp only [Bool.and_eq_true, decide_eq_true_eq] at h
    exact ⟨p, e, h.1, h.2.1, h.2.2⟩
theorem Rp.mono {k b k' b' : Nat} {d : D} (h : Rp k b d) (hk : k ≤ k') (hb : b ≤ b') : Rp k' b' d := let ⟨p, h1, h2, h3, h4⟩ := h; ⟨p, h1, h2, Nat.le_trans h3 hk, Nat.le_trans h4 hb⟩
theorem rp_all {k b : Nat} : ∀ {ds : List D}, (∀ d ∈ ds, Rp k b d) → ∃ ps, toPyRs ds = some ps ∧ lvPs ps = true ∧ PyData.depthAll ps ≤ k ∧ PyData.bulkAll ps ≤ (b + 1) * ds.length
  | [], _ => ⟨[], rfl, rfl, by simp [PyData.depthAll], by simp [PyData.bulkAll]⟩
  | d :: ds, h => by
    obtain ⟨p, h1, h2, h3, h4⟩ := h d List.mem_cons_self
    obtain ⟨ps, g1, g2, g3, g4⟩ := rp_all fun x hx => h x (List.mem_cons_of_mem _ hx)
    refine ⟨p :: ps, by simp only [toPyRs, h1, g1], by simp only [lvPs, h2, g2, Bool.and_self], by simp only [PyData.depthAll]; omega, ?_⟩
    simp only [PyData.bulkAll, List.length_cons, Nat.mul_add, Nat.mul_one]
    omega
theorem rp_tup {k b n : Nat} {ds : List D} (h : ∀ d ∈ ds, Rp k b d) (hn : ds.length ≤ n) : Rp (k + 1) ((b + 1) * n) (.tup ds) := by
  obtain ⟨ps, g1, g2, g3, g4⟩ := rp_all h
  exact ⟨.tuple ps, by simp only [toPyR, g1], by simp only [lvP]; exact g2, by simp only [PyData.depth]; omega, by simp only [PyData.bulk]; exact Nat.le_trans g4 (Nat.mul_le_mul_left _ hn)⟩
theorem rp_lst {k b n : Nat} {ds : List D} (h : ∀ d ∈ ds, Rp k b d) (hn : ds.length ≤ n) : Rp (k + 1) ((b + 1) * n) (.lst ds) := by
  obtain ⟨ps, g1, g2, g3, g4⟩ := rp_all h
  exact ⟨.list ps, by simp only [toPyR, g1], by simp only [lvP]; exact g2, by simp only [PyData.depth]; omega, by simp only [PyData.bulk]; exact Nat.le_trans g4 (Nat.mul_le_mul_left _ hn)⟩
theorem Rp.repr {k b : Nat} {d : D} (h : Rp k b d) (hk : k ≤ 64) (hb : b ≤ 1000000) : ∃ t, biD .repr [d] = some (.str t) ∧ SeqAt.shaped (.str t) = true := by
  obtain ⟨p, h1, h2, h3, h4⟩ := h
  obtain ⟨a, s, c⟩ := lv_ok p h2
  refine ⟨p.shown, ?_, shaped_str a⟩
  simp only [biD, h1]
  rw [if_pos ⟨s, PyData.shown_fits_bulk (by decide) (by decide) c (Nat.le_trans h4 (Nat.le_trans hb (by decide))), Nat.le_trans h3 hk⟩]
theorem str_eq {t : Str} (h : SeqAt.shaped (.str t) = true) : eqD (.str t) (.str t) = some true := by
  unfold eqD
  show (if SeqAt.shaped (.str t) = true ∧ SeqAt.shaped (.str t) = true then some (PyData.eqv (.str t) (.str t)) else none) = _
  rw [if_pos ⟨h, h⟩]
  congr 1
  simp [PyData.eqv]
section
variable {Γ : Gm} {ρ : List (Option D)} {s s1 s2 : Ms} {d : D} {a b : E} {k n : Nat}
theorem repr_ev (h : Rp k n d) (hk : k ≤ 64) (hn : n ≤ 1000000) : ∃ t, SeqAt.shaped (.str t) = true ∧ ∀ {a : E} {s s1 : Ms}, ev Γ a ρ s = .ok d s1 → ev Γ (.bi .repr (.cons a .nil)) ρ s = .ok (.str t) s1 := by
  obtain ⟨t, h1, h2⟩ := h.repr hk hn
  refine ⟨t, h2, fun {a s s1} e => ?_⟩
  show ((ev Γ a ρ s).bind fun x s => (evs Γ .nil ρ s).bind fun xs s => .ok (x :: xs) s).bind _ = _
  rw [e]
  show Out.opt (biD .repr [d]) s1 = _
  rw [h1]; rfl
/-- repr(a) == repr(b), repr(a) != repr(b), where both are one datum -/
theorem repr_same (h : Rp k n d) (hk : k ≤ 64) (hn : n ≤ 1000000) (e1 : ev Γ a ρ s = .ok d s1) (e2 : ev Γ b ρ s1 = .ok d s2) : ev Γ (.cmp .Eq (.bi .repr (.cons a .nil)) (.bi .repr (.cons b .nil))) ρ s = .ok (.bl true) s2 ∧ ev Γ (.cmp .NotEq (.bi .repr (.cons a .nil)) (.bi .repr (.cons b .nil))) ρ s = .ok (.bl false) s2 := by
  obtain ⟨t, h1, h2⟩ := repr_ev (Γ := Γ) (ρ := ρ) h hk hn
  have x1 := h2 e1
  have x2 := h2 e2
  constructor
  · show (ev Γ (.bi .repr (.cons a .nil)) ρ s).bind _ = _
    rw [x1]
    show (ev Γ (.bi .repr (.cons b .nil)) ρ s1).bind _ = _
    rw [x2]
    show (Out.opt (eqD (.str t) (.str t)) s2).bind _ = _
    rw [str_eq h1]; rfl
  · show (ev Γ (.bi .repr (.cons a .nil)) ρ s).bind _ = _
    rw [x1]
    show (ev Γ (.bi .repr (.cons b .nil)) ρ s1).bind _ = _
    rw [x2]
    show (Out.opt ((eqD (.str t) (.str t)).map (!·)) s2).bind _ = _
    rw [str_eq h1]; rfl
end
end Mp
set_option Elab.async false
set_option linter.all false
set_option maxRecDepth 100000
set_option maxHeartbeats 0

/-! Head: the facts by names, the run (printed by mk.py). -/
namespace Mk
open PySem PySem.Spec PyProof.Rows L2 Mp
def top (i : Nat) : Stmt := PySem.Challenge.pw_newsranks_k67_who_may_know.main.body.getD i (.Pass ⟨0, 0, 0, 0⟩)
abbrev s_is_whole : Stmt := top 10
abbrev s_in_tuples : Stmt := top 11
abbrev s_need_between : Stmt := top 12
abbrev s_bits_of : Stmt := top 14
abbrev s_of_bits : Stmt := top 15
abbrev s_is_share_lot : Stmt := top 19
abbrev s_holds_another : Stmt := top 20
abbrev s_need_access : Stmt := top 21
abbrev s_share_lot_from : Stmt := top 22
abbrev s_knows : Stmt := top 23
abbrev s_share_numbers : Stmt := top 24
abbrev s_may_know : Stmt := top 25
abbrev s_knowing : Stmt := top 26
abbrev s_least_of : Stmt := top 27
abbrev s_accesses : Stmt := top 28
abbrev s_turned_access : Stmt := top 29
abbrev s__law_pen : Stmt := top 31
abbrev s__law_draw : Stmt := top 32
abbrev s__law_pick : Stmt := top 33
abbrev s__law_shuffled : Stmt := top 34
abbrev s__law_lot : Stmt := top 35
abbrev s__law_bits : Stmt := top 36
abbrev s__law_fault : Stmt := top 37
abbrev s__law_due : Stmt := top 38
abbrev s__law_lists : Stmt := top 39
abbrev s__law_access : Stmt := top 40
abbrev s__law_knows : Stmt := top 41
abbrev s__law_least : Stmt := top 42
abbrev s__law_case : Stmt := top 43
abbrev s__law_all : Stmt := top 44
abbrev s_law : Stmt := top 45
abbrev s_BadNumber_init : Stmt := inClass (top 2) 0
abbrev s_BadLot_init : Stmt := inClass (top 3) 0
abbrev s_BadRow_init : Stmt := inClass (top 4) 0
abbrev s_BadTable_init : Stmt := inClass (top 5) 0
abbrev s_BadWeb_init : Stmt := inClass (top 6) 0
abbrev s_Unlike_init : Stmt := inClass (top 7) 0
abbrev s_TooMany_init : Stmt := inClass (top 8) 0
abbrev s_Access_init : Stmt := inClass (top 18) 0
abbrev s_Access_eq : Stmt := inClass (top 18) 1
abbrev s_Access_ne : Stmt := inClass (top 18) 2
def d_is_whole : He.DefD := ⟨("is_whole", none), "is_whole", "is_whole", defArgs (top 10), defBody (top 10), defScope (top 10), [], []⟩
def d_in_tuples : He.DefD := ⟨("in_tuples", none), "in_tuples", "in_tuples", defArgs (top 11), defBody (top 11), defScope (top 11), [], []⟩
def d_need_between : He.DefD := ⟨("need_between", none), "need_between", "need_between", defArgs (top 12), defBody (top 12), defScope (top 12), [], []⟩
def d_bits_of : He.DefD := ⟨("bits_of", none), "bits_of", "bits_of", defArgs (top 14), defBody (top 14), defScope (top 14), [], []⟩
def d_of_bits : He.DefD := ⟨("of_bits", none), "of_bits", "of_bits", defArgs (top 15), defBody (top 15), defScope (top 15), [], []⟩
def d_is_share_lot : He.DefD := ⟨("is_share_lot", none), "is_share_lot", "is_share_lot", defArgs (top 19), defBody (top 19), defScope (top 19), [], []⟩
def d_holds_another : He.DefD := ⟨("holds_another", none), "holds_another", "holds_another", defArgs (top 20), defBody (top 20), defScope (top 20), [], []⟩
def d_need_access : He.DefD := ⟨("need_access", none), "need_access", "need_access", defArgs (top 21), defBody (top 21), defScope (top 21), [], []⟩
def d_share_lot_from : He.DefD := ⟨("share_lot_from", none), "share_lot_from", "share_lot_from", defArgs (top 22), defBody (top 22), defScope (top 22), [], []⟩
def d_knows : He.DefD := ⟨("knows", none), "knows", "knows", defArgs (top 23), defBody (top 23), defScope (top 23), [], []⟩
def d_share_numbers : He.DefD := ⟨("share_numbers", none), "share_numbers", "share_numbers", defArgs (top 24), defBody (top 24), defScope (top 24), [], []⟩
def d_may_know : He.DefD := ⟨("may_know", none), "may_know", "may_know", defArgs (top 25), defBody (top 25), defScope (top 25), [], []⟩
def d_knowing : He.DefD := ⟨("knowing", none), "knowing", "knowing", defArgs (top 26), defBody (top 26), defScope (top 26), [], []⟩
def d_least_of : He.DefD := ⟨("least_of", none), "least_of", "least_of", defArgs (top 27), defBody (top 27), defScope (top 27), [], []⟩
def d_accesses : He.DefD := ⟨("accesses", none), "accesses", "accesses", defArgs (top 28), defBody (top 28), defScope (top 28), [], []⟩
def d_turned_access : He.DefD := ⟨("turned_access", none), "turned_access", "turned_access", defArgs (top 29), defBody (top 29), defScope (top 29), [], []⟩
def d__law_pen : He.DefD := ⟨("_law_pen", none), "_law_pen", "_law_pen", defArgs (top 31), defBody (top 31), defScope (top 31), [], []⟩
def d__law_draw : He.DefD := ⟨("_law_draw", none), "_law_draw", "_law_draw", defArgs (top 32), defBody (top 32), defScope (top 32), [], []⟩
def d__law_pick : He.DefD := ⟨("_law_pick", none), "_law_pick", "_law_pick", defArgs (top 33), defBody (top 33), defScope (top 33), [], []⟩
def d__law_shuffled : He.DefD := ⟨("_law_shuffled", none), "_law_shuffled", "_law_shuffled", defArgs (top 34), defBody (top 34), defScope (top 34), [], []⟩
def d__law_lot : He.DefD := ⟨("_law_lot", none), "_law_lot", "_law_lot", defArgs (top 35), defBody (top 35), defScope (top 35), [], []⟩
def d__law_bits : He.DefD := ⟨("_law_bits", none), "_law_bits", "_law_bits", defArgs (top 36), defBody (top 36), defScope (top 36), [], []⟩
def d__law_fault : He.DefD := ⟨("_law_fault", none), "_law_fault", "_law_fault", defArgs (top 37), defBody (top 37), defScope (top 37), [], []⟩
def d__law_due : He.DefD := ⟨("_law_due", none), "_law_due", "_law_due", defArgs (top 38), defBody (top 38), defScope (top 38), [], []⟩
def d__law_lists : He.DefD := ⟨("_law_lists", none), "_law_lists", "_law_lists", defArgs (top 39), defBody (top 39), defScope (top 39), [], []⟩
def d__law_access : He.DefD := ⟨("_law_access", none), "_law_access", "_law_access", defArgs (top 40), defBody (top 40), defScope (top 40), [], []⟩
def d__law_knows : He.DefD := ⟨("_law_knows", none), "_law_knows", "_law_knows", defArgs (top 41), defBody (top 41), defScope (top 41), [], []⟩
def d__law_least : He.DefD := ⟨("_law_least", none), "_law_least", "_law_least", defArgs (top 42), defBody (top 42), defScope (top 42), [], []⟩
def d__law_case : He.DefD := ⟨("_law_case", none), "_law_case", "_law_case", defArgs (top 43), defBody (top 43), defScope (top 43), [], []⟩
def d__law_all : He.DefD := ⟨("_law_all", none), "_law_all", "_law_all", defArgs (top 44), defBody (top 44), defScope (top 44), [], []⟩
def d_law : He.DefD := ⟨("law", none), "law", "law", defArgs (top 45), defBody (top 45), defScope (top 45), [], []⟩
def fn0 : List He.DefD := [d_is_whole, d_in_tuples, d_need_between, d_bits_of, d_of_bits, d_is_share_lot, d_holds_another, d_need_access, d_share_lot_from, d_knows, d_share_numbers, d_may_know, d_knowing, d_least_of, d_accesses, d_turned_access, d__law_pen, d__law_draw, d__law_pick, d__law_shuffled, d__law_lot, d__law_bits, d__law_fault, d__law_due, d__law_lists, d__law_access, d__law_knows, d__law_least, d__law_case, d__law_all, d_law]
def fa0 : List He.Fa := [.glo "is_whole", .glo "in_tuples", .glo "need_between", .glo "bits_of", .glo "of_bits", .glo "is_share_lot", .glo "holds_another", .glo "need_access", .glo "share_lot_from", .glo "knows", .glo "share_numbers", .glo "may_know", .glo "knowing", .glo "least_of", .glo "accesses", .glo "turned_access", .glo "_law_pen", .glo "_law_draw", .glo "_law_pick", .glo "_law_shuffled", .glo "_law_lot", .glo "_law_bits", .glo "_law_fault", .glo "_law_due", .glo "_law_lists", .glo "_law_access", .glo "_law_knows", .glo "_law_least", .glo "_law_case", .glo "_law_all", .glo "law", .free "len", .free "int", .free "abs", .free "sum", .free "any", .free "all", .free "sorted", .free "tuple", .free "list", .free "repr", .free "min", .free "max", .free "isinstance", .free "range", .free "zip", .free "bool", .free "str", .free "dict", .free "set", .int "MOST_SHARES" 4]
def pt0 : PartM := ⟨fa0, fn0, fun _ => true, [("law", none)]⟩
def d_BadNumber_init : He.DefD := ⟨("BadNumber", some "__init__"), "__init__", "BadNumber.__init__", defArgs s_BadNumber_init, defBody s_BadNumber_init, defScope s_BadNumber_init, [], []⟩
def d_BadLot_init : He.DefD := ⟨("BadLot", some "__init__"), "__init__", "BadLot.__init__", defArgs s_BadLot_init, defBody s_BadLot_init, defScope s_BadLot_init, [], []⟩
def d_BadRow_init : He.DefD := ⟨("BadRow", some "__init__"), "__init__", "BadRow.__init__", defArgs s_BadRow_init, defBody s_BadRow_init, defScope s_BadRow_init, [], []⟩
def d_BadTable_init : He.DefD := ⟨("BadTable", some "__init__"), "__init__", "BadTable.__init__", defArgs s_BadTable_init, defBody s_BadTable_init, defScope s_BadTable_init, [], []⟩
def d_BadWeb_init : He.DefD := ⟨("BadWeb", some "__init__"), "__init__", "BadWeb.__init__", defArgs s_BadWeb_init, defBody s_BadWeb_init, defScope s_BadWeb_init, [], []⟩
def d_Unlike_init : He.DefD := ⟨("Unlike", some "__init__"), "__init__", "Unlike.__init__", defArgs s_Unlike_init, defBody s_Unlike_init, defScope s_Unlike_init, [], []⟩
def d_TooMany_init : He.DefD := ⟨("TooMany", some "__init__"), "__init__", "TooMany.__init__", defArgs s_TooMany_init, defBody s_TooMany_init, defScope s_TooMany_init, [], []⟩
def d_Access_init : He.DefD := ⟨("Access", some "__init__"), "__init__", "Access.__init__", defArgs s_Access_init, defBody s_Access_init, defScope s_Access_init, [], []⟩
def d_Access_eq : He.DefD := ⟨("Access", some "__eq__"), "__eq__", "Access.__eq__", defArgs s_Access_eq, defBody s_Access_eq, defScope s_Access_eq, [], []⟩
def d_Access_ne : He.DefD := ⟨("Access", some "__ne__"), "__ne__", "Access.__ne__", defArgs s_Access_ne, defBody s_Access_ne, defScope s_Access_ne, [], []⟩
def fn1 : List He.DefD := [d_BadNumber_init, d_BadLot_init, d_BadRow_init, d_BadTable_init, d_BadWeb_init, d_Unlike_init, d_TooMany_init, d_Access_init, d_Access_eq, d_Access_ne]
def fa1 : List He.Fa := [.glo "NewsError", .glo "BadNumber", .glo "BadLot", .glo "BadRow", .glo "BadTable", .glo "BadWeb", .glo "Unlike", .glo "TooMany", .glo "Access", .cls "Access", .mkr "Access", .noat "Access" "shares", .noat "Access" "least", .meth "Access" "__eq__", .meth "Access" "__ne__"]
def cl1 : List Str := ["Access"]
def cq1 : List Str := ["Access"]
def ci1 : List Str := []
def er1 : List (Str × List Str) := [("BadNumber", ["what", "number"]), ("BadLot", ["lot"]), ("BadRow", ["row"]), ("BadTable", ["table"]), ("BadWeb", ["what", "value"]), ("Unlike", ["what"]), ("TooMany", ["what", "many", "limit"])]
def em1 : List ((Str × Str) × Bool) := [mx "BadNumber" "BadNumber" true, mx "BadNumber" "BadLot" false, mx "BadNumber" "BadRow" false, mx "BadNumber" "BadTable" false, mx "BadNumber" "BadWeb" false, mx "BadNumber" "TooMany" false, mx "BadNumber" "Unlike" false, mx "BadLot" "BadNumber" false, mx "BadLot" "BadLot" true, mx "BadLot" "BadRow" false, mx "BadLot" "BadTable" false, mx "BadLot" "BadWeb" false, mx "BadLot" "TooMany" false, mx "BadLot" "Unlike" false, mx "BadRow" "BadNumber" false, mx "BadRow" "BadLot" false, mx "BadRow" "BadRow" true, mx "BadRow" "BadTable" false, mx "BadRow" "BadWeb" false, mx "BadRow" "TooMany" false, mx "BadRow" "Unlike" false, mx "BadTable" "BadNumber" false, mx "BadTable" "BadLot" false, mx "BadTable" "BadRow" false, mx "BadTable" "BadTable" true, mx "BadTable" "BadWeb" false, mx "BadTable" "TooMany" false, mx "BadTable" "Unlike" false, mx "BadWeb" "BadNumber" false, mx "BadWeb" "BadLot" false, mx "BadWeb" "BadRow" false, mx "BadWeb" "BadTable" false, mx "BadWeb" "BadWeb" true, mx "BadWeb" "TooMany" false, mx "BadWeb" "Unlike" false, mx "Unlike" "BadNumber" false, mx "Unlike" "BadLot" false, mx "Unlike" "BadRow" false, mx "Unlike" "BadTable" false, mx "Unlike" "BadWeb" false, mx "Unlike" "TooMany" false, mx "Unlike" "Unlike" true, mx "TooMany" "BadNumber" false, mx "TooMany" "BadLot" false, mx "TooMany" "BadRow" false, mx "TooMany" "BadTable" false, mx "TooMany" "BadWeb" false, mx "TooMany" "TooMany" true, mx "TooMany" "Unlike" false]
def eb1 : List Str := ["NewsError"]
def pt1 : PartM := ⟨fa1, fn1, fun K => (cl1.all fun c => ownB K (He.ga K c)) && ((cq1.all fun c => subB K (He.ga K c)) && ((ci1.all fun c => idnB K (He.ga K c)) && (er1.all (errAllB K) && (em1.all (exmB K) && eb1.all fun c => errB K (He.ga K c))))), []⟩
def lo0 : List Str := ["NewsError", "BadNumber", "BadLot", "BadRow", "BadTable", "BadWeb", "Unlike", "TooMany", "is_whole", "in_tuples", "need_between", "bits_of", "of_bits", "MOST_SHARES", "Access", "is_share_lot", "holds_another", "need_access", "share_lot_from", "knows", "share_numbers", "may_know", "knowing", "least_of", "accesses", "turned_access", "_law_pen", "_law_draw", "_law_pick", "_law_shuffled"]
def lo1 : List Str := ["_law_lot", "_law_bits", "_law_fault", "_law_due", "_law_lists", "_law_access", "_law_knows", "_law_least", "_law_case", "_law_all"]
def loA : List Str := lo0 ++ lo1
abbrev R : PySem.W.OpenRow := PySem.W.OpenLaw.row PySem.Challenge.rw_newsranks_k67_who_may_know
abbrev qv : Program := PySem.W.view R.prog [45]
theorem run0 (w : World) : HandSHeadRun.RunEq R qv (hookM [pt0]) (obM [pt0]) 12000 loA w := by
  intro os
  kernel_rfl
theorem run1 (w : World) : HandSHeadRun.RunEq R qv (hookM [pt1]) (obM [pt1]) 12000 loA w := by
  intro os
  kernel_rfl
def ptA : List PartM := [pt0, pt1]
theorem run (w : World) : HandSHeadRun.RunEq R qv (hookM ptA) (obM ptA) 12000 loA w := run_cons (run0 w) (run1 w)
end Mk
set_option Elab.async false
set_option linter.all false
set_option maxRecDepth 100000
set_option maxHeartbeats 2000000

/-! Terms: the text by its mini terms (printed by mk.py). -/
namespace Mk
open PySem PySem.Spec PyProof.Rows L2 Mp
def n_is_whole : List Str := ["value"]
def p_is_whole : List Str := ["value"]
theorem c_is_whole : FnScope n_is_whole p_is_whole (defScope s_is_whole) := ⟨rfl, rfl, rfl, by decide +kernel, rfl, by decide +kernel, by decide +kernel⟩
def m_is_whole : Ss := (.cons (.ret (.and (.cons (.isi (.var 0) (.ty "int")) (.cons (.not (.isi (.var 0) (.ty "bool"))) .nil)))) .nil)
theorem k_is_whole : mtSs n_is_whole (defScope s_is_whole) m_is_whole (defBody s_is_whole) = true := by decide +kernel
def n_in_tuples : List Str := ["value", "item"]
def p_in_tuples : List Str := ["value"]
theorem c_in_tuples : FnScope n_in_tuples p_in_tuples (defScope s_in_tuples) := ⟨rfl, rfl, rfl, by decide +kernel, rfl, by decide +kernel, by decide +kernel⟩
def m_in_tuples : Ss := (.cons (.ife (.not (.prim "isiTL" (.cons (.var 0) .nil))) (.cons (.ret (.var 0)) .nil) .nil) (.cons (.ret (.bi .tuple (.cons (.lc (.v 1) (.e (.var 0)) .no (.call "in_tuples" (.cons (.var 1) .nil))) .nil))) .nil))
theorem k_in_tuples : mtSs n_in_tuples (defScope s_in_tuples) m_in_tuples (defBody s_in_tuples) = true := by decide +kernel
def n_need_between : List Str := ["what", "number", "low", "high"]
def p_need_between : List Str := ["what", "number", "low", "high"]
theorem c_need_between : FnScope n_need_between p_need_between (defScope s_need_between) := ⟨rfl, rfl, rfl, by decide +kernel, rfl, by decide +kernel, by decide +kernel⟩
def m_need_between : Ss := (.cons (.ife (.not (.call "is_whole" (.cons (.var 1) .nil))) (.cons (.rse "BadNumber" (.cons (.var 0) (.cons (.var 1) .nil))) .nil) .nil) (.cons (.ife (.or (.cons (.and (.cons (.cmp .IsNot (.var 2) (.lit .none)) (.cons (.cmp .Lt (.var 1) (.var 2)) .nil))) (.cons (.and (.cons (.cmp .IsNot (.var 3) (.lit .none)) (.cons (.cmp .Gt (.var 1) (.var 3)) .nil))) .nil))) (.cons (.rse "BadNumber" (.cons (.var 0) (.cons (.var 1) .nil))) .nil) .nil) .nil))
theorem k_need_between : mtSs n_need_between (defScope s_need_between) m_need_between (defBody s_need_between) = true := by decide +kernel
def n_bits_of : List Str := ["lot", "source"]
def p_bits_of : List Str := ["lot"]
theorem c_bits_of : FnScope n_bits_of p_bits_of (defScope s_bits_of) := ⟨rfl, rfl, rfl, by decide +kernel, rfl, by decide +kernel, by decide +kernel⟩
def m_bits_of : Ss := (.cons (.ret (.bi .sum (.cons (.lc (.v 1) (.e (.var 0)) .no (.bin .LShift (.lit (.int 1)) (.var 1))) .nil))) .nil)
theorem k_bits_of : mtSs n_bits_of (defScope s_bits_of) m_bits_of (defBody s_bits_of) = true := by decide +kernel
def n_of_bits : List Str := ["number", "out", "source"]
def p_of_bits : List Str := ["number"]
theorem c_of_bits : FnScope n_of_bits p_of_bits (defScope s_of_bits) := ⟨rfl, rfl, rfl, by decide +kernel, rfl, by decide +kernel, by decide +kernel⟩
def m_of_bits : Ss := (.cons (.par 1 2 { ow := true } {} (.lst .nil) (.lit (.int 0))) (.cons (.whl 10000 (.cmp .Gt (.var 0) (.lit (.int 0))) (.cons (.ife (.cmp .Eq (.bin .Mod (.var 0) (.lit (.int 2))) (.lit (.int 1))) (.cons (.app 1 {} (.var 2)) .nil) .nil) (.cons (.par 0 2 {} {} (.bin .FloorDiv (.var 0) (.lit (.int 2))) (.bin .Add (.var 2) (.lit (.int 1)))) .nil))) (.cons (.ret (.bi .tuple (.cons (.var 1) .nil))) .nil)))
theorem k_of_bits : mtSs n_of_bits (defScope s_of_bits) m_of_bits (defBody s_of_bits) = true := by decide +kernel
def n_is_share_lot : List Str := ["shares", "value", "source", "k"]
def p_is_share_lot : List Str := ["shares", "value"]
theorem c_is_share_lot : FnScope n_is_share_lot p_is_share_lot (defScope s_is_share_lot) := ⟨rfl, rfl, rfl, by decide +kernel, rfl, by decide +kernel, by decide +kernel⟩
def m_is_share_lot : Ss := (.cons (.ife (.or (.cons (.not (.isi (.var 1) (.ty "tuple"))) (.cons (.not (.bi .all (.cons (.lc (.v 2) (.e (.var 1)) .no (.and (.cons (.call "is_whole" (.cons (.var 2) .nil)) (.cons (.chn .LtE .LtE (.lit (.int 1)) (.var 2) (.var 0)) .nil)))) .nil))) .nil))) (.cons (.ret (.lit (.bool false))) .nil) .nil) (.cons (.ret (.bi .all (.cons (.lc (.v 3) (.rng1 (.bin .Sub (.bi .len (.cons (.var 1) .nil)) (.lit (.int 1)))) .no (.cmp .Lt (.ix (.var 1) (.var 3)) (.ix (.var 1) (.bin .Add (.var 3) (.lit (.int 1)))))) .nil))) .nil))
theorem k_is_share_lot : mtSs n_is_share_lot (defScope s_is_share_lot) m_is_share_lot (defBody s_is_share_lot) = true := by decide +kernel
def n_holds_another : List Str := ["numbers", "number", "one"]
def p_holds_another : List Str := ["numbers", "number"]
theorem c_holds_another : FnScope n_holds_another p_holds_another (defScope s_holds_another) := ⟨rfl, rfl, rfl, by decide +kernel, rfl, by decide +kernel, by decide +kernel⟩
def m_holds_another : Ss := (.cons (.ret (.bi .any (.cons (.lc (.v 2) (.e (.var 0)) .no (.and (.cons (.cmp .NotEq (.var 2) (.var 1)) (.cons (.cmp .Eq (.bin .BitAnd (.var 2) (.var 1)) (.var 2)) .nil)))) .nil))) .nil)
theorem k_holds_another : mtSs n_holds_another (defScope s_holds_another) m_holds_another (defBody s_holds_another) = true := by decide +kernel
def n_need_access : List Str := ["access"]
def p_need_access : List Str := ["access"]
theorem c_need_access : FnScope n_need_access p_need_access (defScope s_need_access) := ⟨rfl, rfl, rfl, by decide +kernel, rfl, by decide +kernel, by decide +kernel⟩
def m_need_access : Ss := (.cons (.ife (.not (.isi (.var 0) (.own "Access"))) (.cons (.rse "Unlike" (.cons (.lit (.str "access")) .nil)) .nil) .nil) .nil)
theorem k_need_access : mtSs n_need_access (defScope s_need_access) m_need_access (defBody s_need_access) = true := by decide +kernel
def n_share_lot_from : List Str := ["shares", "lot", "made"]
def p_share_lot_from : List Str := ["shares", "lot"]
theorem c_share_lot_from : FnScope n_share_lot_from p_share_lot_from (defScope s_share_lot_from) := ⟨rfl, rfl, rfl, by decide +kernel, rfl, by decide +kernel, by decide +kernel⟩
def m_share_lot_from : Ss := (.cons (.asg 2 {} (.call "in_tuples" (.cons (.var 1) .nil))) (.cons (.ife (.not (.call "is_share_lot" (.cons (.var 0) (.cons (.var 2) .nil)))) (.cons (.rse "BadLot" (.cons (.var 1) .nil)) .nil) .nil) (.cons (.ret (.var 2)) .nil)))
theorem k_share_lot_from : mtSs n_share_lot_from (defScope s_share_lot_from) m_share_lot_from (defBody s_share_lot_from) = true := by decide +kernel
def n_knows : List Str := ["access", "number", "lot"]
def p_knows : List Str := ["access", "number"]
theorem c_knows : FnScope n_knows p_knows (defScope s_knows) := ⟨rfl, rfl, rfl, by decide +kernel, rfl, by decide +kernel, by decide +kernel⟩
def m_knows : Ss := (.cons (.ret (.bi .any (.cons (.lc (.v 2) (.e (.fld (.var 0) "least")) .no (.cmp .Eq (.bin .BitAnd (.call "bits_of" (.cons (.var 2) .nil)) (.var 1)) (.call "bits_of" (.cons (.var 2) .nil)))) .nil))) .nil)
theorem k_knows : mtSs n_knows (defScope s_knows) m_knows (defBody s_knows) = true := by decide +kernel
def n_share_numbers : List Str := ["shares", "number"]
def p_share_numbers : List Str := ["shares"]
theorem c_share_numbers : FnScope n_share_numbers p_share_numbers (defScope s_share_numbers) := ⟨rfl, rfl, rfl, by decide +kernel, rfl, by decide +kernel, by decide +kernel⟩
def m_share_numbers : Ss := (.cons (.ret (.lc (.v 1) (.rng1 (.bin .LShift (.lit (.int 1)) (.var 0))) .no (.bin .LShift (.var 1) (.lit (.int 1))))) .nil)
theorem k_share_numbers : mtSs n_share_numbers (defScope s_share_numbers) m_share_numbers (defBody s_share_numbers) = true := by decide +kernel
def n_may_know : List Str := ["access", "lot"]
def p_may_know : List Str := ["access", "lot"]
theorem c_may_know : FnScope n_may_know p_may_know (defScope s_may_know) := ⟨rfl, rfl, rfl, by decide +kernel, rfl, by decide +kernel, by decide +kernel⟩
def m_may_know : Ss := (.cons (.exp (.call "need_access" (.cons (.var 0) .nil))) (.cons (.ret (.call "knows" (.cons (.var 0) (.cons (.call "bits_of" (.cons (.call "share_lot_from" (.cons (.fld (.var 0) "shares") (.cons (.var 1) .nil))) .nil)) .nil)))) .nil))
theorem k_may_know : mtSs n_may_know (defScope s_may_know) m_may_know (defBody s_may_know) = true := by decide +kernel
def n_knowing : List Str := ["access", "number"]
def p_knowing : List Str := ["access"]
theorem c_knowing : FnScope n_knowing p_knowing (defScope s_knowing) := ⟨rfl, rfl, rfl, by decide +kernel, rfl, by decide +kernel, by decide +kernel⟩
def m_knowing : Ss := (.cons (.exp (.call "need_access" (.cons (.var 0) .nil))) (.cons (.ret (.bi .tuple (.cons (.lc (.v 1) (.e (.call "share_numbers" (.cons (.fld (.var 0) "shares") .nil))) (.yes (.call "knows" (.cons (.var 0) (.cons (.var 1) .nil)))) (.call "of_bits" (.cons (.var 1) .nil))) .nil))) .nil))
theorem k_knowing : mtSs n_knowing (defScope s_knowing) m_knowing (defBody s_knowing) = true := by decide +kernel
def n_least_of : List Str := ["shares", "numbers", "some", "number"]
def p_least_of : List Str := ["shares", "numbers"]
theorem c_least_of : FnScope n_least_of p_least_of (defScope s_least_of) := ⟨rfl, rfl, rfl, by decide +kernel, rfl, by decide +kernel, by decide +kernel⟩
def m_least_of : Ss := (.cons (.asg 2 {} (.lc (.v 3) (.e (.var 1)) (.yes (.not (.call "holds_another" (.cons (.var 1) (.cons (.var 3) .nil))))) (.var 3))) (.cons (.ret (.mk "Access" (.cons (.var 0) (.cons (.bi .tuple (.cons (.lc (.v 3) (.e (.var 2)) .no (.call "of_bits" (.cons (.var 3) .nil))) .nil)) .nil)))) .nil))
theorem k_least_of : mtSs n_least_of (defScope s_least_of) m_least_of (defBody s_least_of) = true := by decide +kernel
def n_accesses : List Str := ["shares", "chosen", "number", "fitting", "row", "one", "out", "least"]
def p_accesses : List Str := ["shares"]
theorem c_accesses : FnScope n_accesses p_accesses (defScope s_accesses) := ⟨rfl, rfl, rfl, by decide +kernel, rfl, by decide +kernel, by decide +kernel⟩
def m_accesses : Ss := (.cons (.exp (.call "need_between" (.cons (.lit (.str "shares")) (.cons (.var 0) (.cons (.lit (.int 1)) (.cons (.con "MOST_SHARES") .nil)))))) (.cons (.asg 1 {} (.lst (.cons (.tup .nil) .nil))) (.cons (.for_ (.v 2) (.e (.slc (.call "share_numbers" (.cons (.var 0) .nil)) (.yes (.lit (.int 1))) .no)) (.cons (.asg 3 {} (.lc (.v 4) (.e (.var 1)) (.yes (.not (.bi .any (.cons (.lc (.v 5) (.e (.var 4)) .no (.cmp .In (.bin .BitAnd (.var 5) (.var 2)) (.tup (.cons (.var 5) (.cons (.var 2) .nil))))) .nil)))) (.var 4))) (.cons (.asg 1 {} (.bin .Add (.var 1) (.lc (.v 4) (.e (.var 3)) .no (.bin .Add (.var 4) (.tup (.cons (.var 2) .nil)))))) .nil))) (.cons (.asg 6 {} (.lc (.v 4) (.e (.var 1)) (.yes (.cmp .Gt (.bi .len (.cons (.var 4) .nil)) (.lit (.int 0)))) (.bi .tuple (.cons (.lc (.v 2) (.e (.var 4)) .no (.call "of_bits" (.cons (.var 2) .nil))) .nil)))) (.cons (.ret (.bi .tuple (.cons (.lc (.v 7) (.e (.prim "sorted" (.cons (.var 6) .nil))) .no (.mk "Access" (.cons (.var 0) (.cons (.var 7) .nil)))) .nil))) .nil)))))
theorem k_accesses : mtSs n_accesses (defScope s_accesses) m_accesses (defBody s_accesses) = true := by decide +kernel
def n_turned_access : List Str := ["access", "numbers", "number"]
def p_turned_access : List Str := ["access"]
theorem c_turned_access : FnScope n_turned_access p_turned_access (defScope s_turned_access) := ⟨rfl, rfl, rfl, by decide +kernel, rfl, by decide +kernel, by decide +kernel⟩
def m_turned_access : Ss := (.cons (.exp (.call "need_access" (.cons (.var 0) .nil))) (.cons (.asg 1 {} (.call "share_numbers" (.cons (.fld (.var 0) "shares") .nil))) (.cons (.ret (.call "least_of" (.cons (.fld (.var 0) "shares") (.cons (.lc (.v 2) (.e (.var 1)) (.yes (.not (.call "knows" (.cons (.var 0) (.cons (.bin .BitAnd (.ix (.var 1) (.neg (.lit (.int 1)))) (.inv (.var 2))) .nil))))) (.var 2)) .nil)))) .nil)))
theorem k_turned_access : mtSs n_turned_access (defScope s_turned_access) m_turned_access (defBody s_turned_access) = true := by decide +kernel
def n__law_draw : List Str := ["pen", "many", "cell", "digit", "blend"]
def p__law_draw : List Str := ["pen", "many"]
theorem c__law_draw : FnScope n__law_draw p__law_draw (defScope s__law_draw) := ⟨rfl, rfl, rfl, by decide +kernel, rfl, by decide +kernel, by decide +kernel⟩
def m__law_draw : Ss := (.cons (.pns 0 "count" {} (.bin .Add (.pnf 0 "count") (.lit (.int 1)))) (.cons (.ife (.and (.cons (.cmp .Eq (.pnf 0 "digits") (.lit (.int 0))) (.cons (.cmp .Lt (.pnf 0 "at") (.bi .len (.cons (.pnf 0 "cells") .nil))) .nil))) (.cons (.asg 2 {} (.ix (.pnf 0 "cells") (.pnf 0 "at"))) (.cons (.pns 0 "at" {} (.bin .Add (.pnf 0 "at") (.lit (.int 1)))) (.cons (.ife (.cmp .GtE (.var 2) (.bin .Pow (.lit (.int 10)) (.lit (.int 18)))) (.cons (.pns 0 "digits" {} (.bin .Sub (.var 2) (.bin .Pow (.lit (.int 10)) (.lit (.int 18))))) .nil) (.cons (.pns 0 "fold" {} (.bin .Mod (.bi .int (.cons (.bin .Add (.bin .Mult (.pnf 0 "fold") (.lit (.int 62089911))) (.var 2)) .nil)) (.lit (.int 2147483497)))) .nil)) .nil))) .nil) (.cons (.ife (.cmp .Gt (.pnf 0 "digits") (.lit (.int 0))) (.cons (.asg 3 {} (.bin .Mod (.bi .int (.cons (.pnf 0 "digits") .nil)) (.var 1))) (.cons (.pns 0 "digits" {} (.bin .FloorDiv (.pnf 0 "digits") (.var 1))) (.cons (.ret (.var 3)) .nil))) .nil) (.cons (.asg 4 {} (.bin .Add (.bin .Add (.pnf 0 "fold") (.bin .Mult (.pnf 0 "count") (.lit (.int 7907)))) (.lit (.int 101)))) (.cons (.ret (.bin .Mod (.bin .FloorDiv (.bi .int (.cons (.bin .Mod (.bin .Pow (.var 4) (.lit (.int 19))) (.lit (.int 2305843009213693951))) .nil)) (.lit (.int 8192))) (.var 1))) .nil)))))
theorem k__law_draw : mtSs n__law_draw (defScope s__law_draw) m__law_draw (defBody s__law_draw) = true := by decide +kernel
def n__law_pick : List Str := ["pen", "some"]
def p__law_pick : List Str := ["pen", "some"]
theorem c__law_pick : FnScope n__law_pick p__law_pick (defScope s__law_pick) := ⟨rfl, rfl, rfl, by decide +kernel, rfl, by decide +kernel, by decide +kernel⟩
def m__law_pick : Ss := (.cons (.ret (.ix (.var 1) (.call "_law_draw" (.cons (.var 0) (.cons (.bi .len (.cons (.var 1) .nil)) .nil))))) .nil)
theorem k__law_pick : mtSs n__law_pick (defScope s__law_pick) m__law_pick (defBody s__law_pick) = true := by decide +kernel
def n__law_shuffled : List Str := ["pen", "some", "left", "found", "lap"]
def p__law_shuffled : List Str := ["pen", "some"]
theorem c__law_shuffled : FnScope n__law_shuffled p__law_shuffled (defScope s__law_shuffled) := ⟨rfl, rfl, rfl, by decide +kernel, rfl, by decide +kernel, by decide +kernel⟩
def m__law_shuffled : Ss := (.cons (.par 2 3 { ow := true } { ow := true } (.bi .list (.cons (.var 1) .nil)) (.lst .nil)) (.cons (.for_ (.v 4) (.rng1 (.bi .len (.cons (.var 1) .nil))) (.cons (.apop 3 2 { kp := true } (.call "_law_draw" (.cons (.var 0) (.cons (.bi .len (.cons (.var 2) .nil)) .nil)))) .nil)) (.cons (.ret (.var 3)) .nil)))
theorem k__law_shuffled : mtSs n__law_shuffled (defScope s__law_shuffled) m__law_shuffled (defBody s__law_shuffled) = true := by decide +kernel
def n__law_lot : List Str := ["number", "k"]
def p__law_lot : List Str := ["number"]
theorem c__law_lot : FnScope n__law_lot p__law_lot (defScope s__law_lot) := ⟨rfl, rfl, rfl, by decide +kernel, rfl, by decide +kernel, by decide +kernel⟩
def m__law_lot : Ss := (.cons (.ret (.bi .tuple (.cons (.lc (.v 1) (.rng1 (.lit (.int 6))) (.yes (.bin .BitAnd (.bin .RShift (.var 0) (.var 1)) (.lit (.int 1)))) (.var 1)) .nil))) .nil)
theorem k__law_lot : mtSs n__law_lot (defScope s__law_lot) m__law_lot (defBody s__law_lot) = true := by decide +kernel
def n__law_bits : List Str := ["lot", "source"]
def p__law_bits : List Str := ["lot"]
theorem c__law_bits : FnScope n__law_bits p__law_bits (defScope s__law_bits) := ⟨rfl, rfl, rfl, by decide +kernel, rfl, by decide +kernel, by decide +kernel⟩
def m__law_bits : Ss := (.cons (.ret (.bi .sum (.cons (.lc (.v 1) (.e (.var 0)) .no (.bin .LShift (.lit (.int 1)) (.var 1))) .nil))) .nil)
theorem k__law_bits : mtSs n__law_bits (defScope s__law_bits) m__law_bits (defBody s__law_bits) = true := by decide +kernel
def n__law_fault : List Str := ["work", "fault"]
def p__law_fault : List Str := ["work"]
theorem c__law_fault : FnScope n__law_fault p__law_fault (defScope s__law_fault) := ⟨rfl, rfl, rfl, by decide +kernel, rfl, by decide +kernel, by decide +kernel⟩
def m__law_fault : Ss := (.cons (.tryx (.cons (.exp (.act 0)) .nil) [⟨"BadNumber", 1, [.inl "number", .inr "what", .inr "number"]⟩, ⟨"BadLot", 1, [.inl "lot", .inr "lot"]⟩, ⟨"BadRow", 1, [.inl "row", .inr "row"]⟩, ⟨"BadTable", 1, [.inl "table", .inr "table"]⟩, ⟨"BadWeb", 1, [.inl "web", .inr "what", .inr "value"]⟩, ⟨"TooMany", 1, [.inl "many", .inr "what", .inr "many", .inr "limit"]⟩, ⟨"Unlike", 1, [.inl "unlike", .inr "what"]⟩]) (.cons (.ret (.lit .none)) .nil))
theorem k__law_fault : mtSs n__law_fault (defScope s__law_fault) m__law_fault (defBody s__law_fault) = true := by decide +kernel
def n__law_due : List Str := ["calls", "call", "due"]
def p__law_due : List Str := ["calls"]
theorem c__law_due : FnScope n__law_due p__law_due (defScope s__law_due) := ⟨rfl, rfl, rfl, by decide +kernel, rfl, by decide +kernel, by decide +kernel⟩
def m__law_due : Ss := (.cons (.ret (.bi .all (.cons (.lc (.t [1, 2]) (.e (.var 0)) .no (.cmp .Eq (.bi .repr (.cons (.call "_law_fault" (.cons (.var 1) .nil)) .nil)) (.bi .repr (.cons (.var 2) .nil)))) .nil))) .nil)
theorem k__law_due : mtSs n__law_due (defScope s__law_due) m__law_due (defBody s__law_due) = true := by decide +kernel
def n__law_lists : List Str := ["pen", "value", "way", "item"]
def p__law_lists : List Str := ["pen", "value"]
theorem c__law_lists : FnScope n__law_lists p__law_lists (defScope s__law_lists) := ⟨rfl, rfl, rfl, by decide +kernel, rfl, by decide +kernel, by decide +kernel⟩
def m__law_lists : Ss := (.cons (.asg 2 {} (.call "_law_draw" (.cons (.var 0) (.cons (.lit (.int 3)) .nil)))) (.cons (.ife (.or (.cons (.cmp .Eq (.var 2) (.lit (.int 0))) (.cons (.not (.isi (.var 1) (.ty "tuple"))) .nil))) (.cons (.ret (.var 1)) .nil) .nil) (.cons (.ife (.cmp .Eq (.var 2) (.lit (.int 1))) (.cons (.ret (.bi .list (.cons (.var 1) .nil))) .nil) .nil) (.cons (.ret (.lc (.v 3) (.e (.var 1)) .no (.ifx (.isi (.var 3) (.ty "tuple")) (.bi .list (.cons (.var 3) .nil)) (.var 3)))) .nil))))
theorem k__law_lists : mtSs n__law_lists (defScope s__law_lists) m__law_lists (defBody s__law_lists) = true := by decide +kernel
def n__law_access : List Str := ["pen", "shares", "some", "number", "found", "one"]
def p__law_access : List Str := ["pen", "shares"]
theorem c__law_access : FnScope n__law_access p__law_access (defScope s__law_access) := ⟨rfl, rfl, rfl, by decide +kernel, rfl, by decide +kernel, by decide +kernel⟩
def m__law_access : Ss := (.cons (.asg 2 {} (.call "_law_shuffled" (.cons (.var 0) (.cons (.lc (.v 3) (.rng2 (.lit (.int 1)) (.bin .LShift (.lit (.int 1)) (.var 1))) .no (.bin .LShift (.var 3) (.lit (.int 1)))) .nil)))) (.cons (.asg 4 { ow := true } (.lst .nil)) (.cons (.for_ (.v 3) (.e (.slc (.var 2) .no (.yes (.bin .Add (.lit (.int 1)) (.call "_law_draw" (.cons (.var 0) (.cons (.lit (.int 6)) .nil))))))) (.cons (.ife (.not (.bi .any (.cons (.lc (.v 5) (.e (.var 4)) .no (.cmp .In (.bin .BitAnd (.var 3) (.var 5)) (.tup (.cons (.var 3) (.cons (.var 5) .nil))))) .nil))) (.cons (.app 4 {} (.var 3)) .nil) .nil) .nil)) (.cons (.ret (.bi .tuple (.cons (.lc (.v 3) (.e (.prim "sorted" (.cons (.var 4) .nil))) .no (.call "_law_lot" (.cons (.var 3) .nil))) .nil))) .nil))))
theorem k__law_access : mtSs n__law_access (defScope s__law_access) m__law_access (defBody s__law_access) = true := by decide +kernel
def n__law_knows : List Str := ["least", "number", "lot"]
def p__law_knows : List Str := ["least", "number"]
theorem c__law_knows : FnScope n__law_knows p__law_knows (defScope s__law_knows) := ⟨rfl, rfl, rfl, by decide +kernel, rfl, by decide +kernel, by decide +kernel⟩
def m__law_knows : Ss := (.cons (.ret (.bi .any (.cons (.lc (.v 2) (.e (.var 0)) .no (.cmp .Eq (.bin .BitAnd (.call "_law_bits" (.cons (.var 2) .nil)) (.var 1)) (.call "_law_bits" (.cons (.var 2) .nil)))) .nil))) .nil)
theorem k__law_knows : mtSs n__law_knows (defScope s__law_knows) m__law_knows (defBody s__law_knows) = true := by decide +kernel
def n__law_least : List Str := ["numbers", "some", "number", "one"]
def p__law_least : List Str := ["numbers"]
theorem c__law_least : FnScope n__law_least p__law_least (defScope s__law_least) := ⟨rfl, rfl, rfl, by decide +kernel, rfl, by decide +kernel, by decide +kernel⟩
def m__law_least : Ss := (.cons (.asg 1 {} (.lc (.v 2) (.e (.var 0)) (.yes (.not (.bi .any (.cons (.lc (.v 3) (.e (.var 0)) .no (.and (.cons (.cmp .NotEq (.var 3) (.var 2)) (.cons (.cmp .Eq (.bin .BitAnd (.var 3) (.var 2)) (.var 3)) .nil)))) .nil)))) (.var 2))) (.cons (.ret (.bi .tuple (.cons (.lc (.v 2) (.e (.prim "sorted" (.cons (.var 1) .nil))) .no (.call "_law_lot" (.cons (.var 2) .nil))) .nil))) .nil))
theorem k__law_least : mtSs n__law_least (defScope s__law_least) m__law_least (defBody s__law_least) = true := by decide +kernel
def n__law_case : List Str := ["pen", "shares", "least", "told", "some", "number", "due", "lot", "other", "turned"]
def p__law_case : List Str := ["pen"]
theorem c__law_case : FnScope n__law_case p__law_case (defScope s__law_case) := ⟨rfl, rfl, rfl, by decide +kernel, rfl, by decide +kernel, by decide +kernel⟩
def m__law_case : Ss := (.cons (.asg 1 {} (.bin .Add (.lit (.int 1)) (.call "_law_draw" (.cons (.var 0) (.cons (.lit (.int 4)) .nil))))) (.cons (.asg 2 {} (.call "_law_access" (.cons (.var 0) (.cons (.var 1) .nil)))) (.cons (.asg 3 {} (.mk "Access" (.cons (.var 1) (.cons (.call "_law_lists" (.cons (.var 0) (.cons (.bi .tuple (.cons (.call "_law_shuffled" (.cons (.var 0) (.cons (.var 2) .nil))) .nil)) .nil))) .nil)))) (.cons (.ife (.or (.cons (.cmp .NotEq (.bi .repr (.cons (.tup (.cons (.fld (.var 3) "shares") (.cons (.fld (.var 3) "least") .nil))) .nil)) (.bi .repr (.cons (.tup (.cons (.var 1) (.cons (.var 2) .nil))) .nil))) (.cons (.cmp .NotEq (.var 3) (.mk "Access" (.cons (.var 1) (.cons (.var 2) .nil)))) (.cons (.cmp .Eq (.var 3) (.tup (.cons (.var 1) (.cons (.var 2) .nil)))) .nil)))) (.cons (.ret (.lit (.bool false))) .nil) .nil) (.cons (.ife (.and (.cons (.cmp .Lt (.var 1) (.lit (.int 4))) (.cons (.cmp .Eq (.var 3) (.mk "Access" (.cons (.bin .Add (.var 1) (.lit (.int 1))) (.cons (.var 2) .nil)))) .nil))) (.cons (.ret (.lit (.bool false))) .nil) .nil) (.cons (.asg 4 {} (.lc (.v 5) (.rng1 (.bin .LShift (.lit (.int 1)) (.var 1))) .no (.bin .LShift (.var 5) (.lit (.int 1))))) (.cons (.asg 6 {} (.lc (.v 5) (.e (.var 4)) (.yes (.call "_law_knows" (.cons (.var 2) (.cons (.var 5) .nil)))) (.var 5))) (.cons (.ife (.cmp .NotEq (.bi .repr (.cons (.call "knowing" (.cons (.var 3) .nil)) .nil)) (.bi .repr (.cons (.bi .tuple (.cons (.lc (.v 5) (.e (.var 6)) .no (.call "_law_lot" (.cons (.var 5) .nil))) .nil)) .nil))) (.cons (.ret (.lit (.bool false))) .nil) .nil) (.cons (.asg 5 {} (.call "_law_pick" (.cons (.var 0) (.cons (.var 4) .nil)))) (.cons (.asg 7 {} (.call "_law_lot" (.cons (.var 5) .nil))) (.cons (.ife (.cmp .NotEq (.bi .repr (.cons (.call "may_know" (.cons (.var 3) (.cons (.call "_law_pick" (.cons (.var 0) (.cons (.lst (.cons (.var 7) (.cons (.bi .list (.cons (.var 7) .nil)) .nil))) .nil))) .nil))) .nil)) (.bi .repr (.cons (.cmp .In (.var 5) (.var 6)) .nil))) (.cons (.ret (.lit (.bool false))) .nil) .nil) (.cons (.asg 8 {} (.call "turned_access" (.cons (.var 3) .nil))) (.cons (.asg 9 {} (.call "_law_least" (.cons (.lc (.v 5) (.e (.var 4)) (.yes (.not (.call "_law_knows" (.cons (.var 2) (.cons (.bin .Sub (.ix (.var 4) (.neg (.lit (.int 1)))) (.var 5)) .nil))))) (.var 5)) .nil))) (.cons (.ret (.and (.cons (.cmp .Eq (.bi .repr (.cons (.tup (.cons (.fld (.var 8) "shares") (.cons (.fld (.var 8) "least") .nil))) .nil)) (.bi .repr (.cons (.tup (.cons (.var 1) (.cons (.var 9) .nil))) .nil))) (.cons (.cmp .Eq (.call "turned_access" (.cons (.var 8) .nil)) (.var 3)) .nil)))) .nil))))))))))))))
theorem k__law_case : mtSs n__law_case (defScope s__law_case) m__law_case (defBody s__law_case) = true := by decide +kernel
def n__law_all : List Str := ["shares", "found", "some", "number", "row", "one"]
def p__law_all : List Str := ["shares"]
theorem c__law_all : FnScope n__law_all p__law_all (defScope s__law_all) := ⟨rfl, rfl, rfl, by decide +kernel, rfl, by decide +kernel, by decide +kernel⟩
def m__law_all : Ss := (.cons (.par 1 2 {} {} (.lst (.cons (.tup .nil) .nil)) (.lc (.v 3) (.rng2 (.lit (.int 1)) (.bin .LShift (.lit (.int 1)) (.var 0))) .no (.bin .LShift (.var 3) (.lit (.int 1))))) (.cons (.for_ (.v 3) (.e (.var 2)) (.cons (.asg 1 {} (.bin .Add (.var 1) (.lc (.v 4) (.e (.var 1)) (.yes (.not (.bi .any (.cons (.lc (.v 5) (.e (.var 4)) .no (.cmp .In (.bin .BitAnd (.var 5) (.var 3)) (.tup (.cons (.var 5) (.cons (.var 3) .nil))))) .nil)))) (.bin .Add (.var 4) (.tup (.cons (.var 3) .nil)))))) .nil)) (.cons (.ret (.prim "sorted" (.cons (.lc (.v 4) (.e (.var 1)) (.yes (.cmp .NotEq (.var 4) (.tup .nil))) (.bi .tuple (.cons (.lc (.v 3) (.e (.var 4)) .no (.call "_law_lot" (.cons (.var 3) .nil))) .nil))) .nil))) .nil)))
theorem k__law_all : mtSs n__law_all (defScope s__law_all) m__law_all (defBody s__law_all) = true := by decide +kernel
def n_Access_init : List Str := ["self", "shares", "least", "made", "lot", "numbers", "number"]
def p_Access_init : List Str := ["self", "shares", "least"]
theorem c_Access_init : FnScope n_Access_init p_Access_init (defScope s_Access_init) := ⟨rfl, rfl, rfl, by decide +kernel, rfl, by decide +kernel, by decide +kernel⟩
def m_Access_init : Ss := (.cons (.exp (.call "need_between" (.cons (.lit (.str "shares")) (.cons (.var 1) (.cons (.lit (.int 1)) (.cons (.con "MOST_SHARES") .nil)))))) (.cons (.asg 3 {} (.call "in_tuples" (.cons (.var 2) .nil))) (.cons (.ife (.or (.cons (.not (.isi (.var 3) (.ty "tuple"))) (.cons (.cmp .Eq (.bi .len (.cons (.var 3) .nil)) (.lit (.int 0))) .nil))) (.cons (.rse "BadRow" (.cons (.var 2) .nil)) .nil) .nil) (.cons (.ife (.not (.bi .all (.cons (.lc (.v 4) (.e (.var 3)) .no (.and (.cons (.call "is_share_lot" (.cons (.var 1) (.cons (.var 4) .nil))) (.cons (.cmp .Gt (.bi .len (.cons (.var 4) .nil)) (.lit (.int 0))) .nil)))) .nil))) (.cons (.rse "BadRow" (.cons (.var 2) .nil)) .nil) .nil) (.cons (.asg 5 {} (.lc (.v 4) (.e (.var 3)) .no (.call "bits_of" (.cons (.var 4) .nil)))) (.cons (.ife (.or (.cons (.cmp .Lt (.prim "lenset" (.cons (.var 5) .nil)) (.bi .len (.cons (.var 5) .nil))) (.cons (.bi .any (.cons (.lc (.v 6) (.e (.var 5)) .no (.call "holds_another" (.cons (.var 5) (.cons (.var 6) .nil)))) .nil)) .nil))) (.cons (.rse "BadRow" (.cons (.var 2) .nil)) .nil) .nil) (.cons (.sto "shares" {} (.var 1)) (.cons (.sto "least" {} (.bi .tuple (.cons (.lc (.v 6) (.e (.prim "sorted" (.cons (.var 5) .nil))) .no (.call "of_bits" (.cons (.var 6) .nil))) .nil))) .nil))))))))
theorem k_Access_init : mtSs n_Access_init (defScope s_Access_init) m_Access_init (defBody s_Access_init) = true := by decide +kernel
def n_Access_eq : List Str := ["self", "other"]
def p_Access_eq : List Str := ["self", "other"]
theorem c_Access_eq : FnScope n_Access_eq p_Access_eq (defScope s_Access_eq) := ⟨rfl, rfl, rfl, by decide +kernel, rfl, by decide +kernel, by decide +kernel⟩
def m_Access_eq : Ss := (.cons (.ret (.and (.cons (.isi (.var 1) (.own "Access")) (.cons (.cmp .Eq (.fld (.var 0) "shares") (.fld (.var 1) "shares")) (.cons (.cmp .Eq (.fld (.var 0) "least") (.fld (.var 1) "least")) .nil))))) .nil)
theorem k_Access_eq : mtSs n_Access_eq (defScope s_Access_eq) m_Access_eq (defBody s_Access_eq) = true := by decide +kernel
def n_Access_ne : List Str := ["self", "other"]
def p_Access_ne : List Str := ["self", "other"]
theorem c_Access_ne : FnScope n_Access_ne p_Access_ne (defScope s_Access_ne) := ⟨rfl, rfl, rfl, by decide +kernel, rfl, by decide +kernel, by decide +kernel⟩
def m_Access_ne : Ss := (.cons (.ret (.not (.cmp .Eq (.var 0) (.var 1)))) .nil)
theorem k_Access_ne : mtSs n_Access_ne (defScope s_Access_ne) m_Access_ne (defBody s_Access_ne) = true := by decide +kernel
def n_BadNumber_init : List Str := ["self", "what", "number"]
def p_BadNumber_init : List Str := ["self", "what", "number"]
theorem c_BadNumber_init : FnScope n_BadNumber_init p_BadNumber_init (defScope s_BadNumber_init) := ⟨rfl, rfl, rfl, by decide +kernel, rfl, by decide +kernel, by decide +kernel⟩
theorem k_BadNumber_init : mtErr n_BadNumber_init (defScope s_BadNumber_init) "NewsError" ["what", "number"] (defBody s_BadNumber_init) = true := by decide +kernel
def n_BadLot_init : List Str := ["self", "lot"]
def p_BadLot_init : List Str := ["self", "lot"]
theorem c_BadLot_init : FnScope n_BadLot_init p_BadLot_init (defScope s_BadLot_init) := ⟨rfl, rfl, rfl, by decide +kernel, rfl, by decide +kernel, by decide +kernel⟩
theorem k_BadLot_init : mtErr n_BadLot_init (defScope s_BadLot_init) "NewsError" ["lot"] (defBody s_BadLot_init) = true := by decide +kernel
def n_BadRow_init : List Str := ["self", "row"]
def p_BadRow_init : List Str := ["self", "row"]
theorem c_BadRow_init : FnScope n_BadRow_init p_BadRow_init (defScope s_BadRow_init) := ⟨rfl, rfl, rfl, by decide +kernel, rfl, by decide +kernel, by decide +kernel⟩
theorem k_BadRow_init : mtErr n_BadRow_init (defScope s_BadRow_init) "NewsError" ["row"] (defBody s_BadRow_init) = true := by decide +kernel
def n_BadTable_init : List Str := ["self", "table"]
def p_BadTable_init : List Str := ["self", "table"]
theorem c_BadTable_init : FnScope n_BadTable_init p_BadTable_init (defScope s_BadTable_init) := ⟨rfl, rfl, rfl, by decide +kernel, rfl, by decide +kernel, by decide +kernel⟩
theorem k_BadTable_init : mtErr n_BadTable_init (defScope s_BadTable_init) "NewsError" ["table"] (defBody s_BadTable_init) = true := by decide +kernel
def n_BadWeb_init : List Str := ["self", "what", "value"]
def p_BadWeb_init : List Str := ["self", "what", "value"]
theorem c_BadWeb_init : FnScope n_BadWeb_init p_BadWeb_init (defScope s_BadWeb_init) := ⟨rfl, rfl, rfl, by decide +kernel, rfl, by decide +kernel, by decide +kernel⟩
theorem k_BadWeb_init : mtErr n_BadWeb_init (defScope s_BadWeb_init) "NewsError" ["what", "value"] (defBody s_BadWeb_init) = true := by decide +kernel
def n_Unlike_init : List Str := ["self", "what"]
def p_Unlike_init : List Str := ["self", "what"]
theorem c_Unlike_init : FnScope n_Unlike_init p_Unlike_init (defScope s_Unlike_init) := ⟨rfl, rfl, rfl, by decide +kernel, rfl, by decide +kernel, by decide +kernel⟩
theorem k_Unlike_init : mtErr n_Unlike_init (defScope s_Unlike_init) "NewsError" ["what"] (defBody s_Unlike_init) = true := by decide +kernel
def n_TooMany_init : List Str := ["self", "what", "many", "limit"]
def p_TooMany_init : List Str := ["self", "what", "many", "limit"]
theorem c_TooMany_init : FnScope n_TooMany_init p_TooMany_init (defScope s_TooMany_init) := ⟨rfl, rfl, rfl, by decide +kernel, rfl, by decide +kernel, by decide +kernel⟩
theorem k_TooMany_init : mtErr n_TooMany_init (defScope s_TooMany_init) "NewsError" ["what", "many", "limit"] (defBody s_TooMany_init) = true := by decide +kernel
def n_law : List Str := ["script", "pen", "lap", "shares", "told", "one", "few", "bad", "odd", "lot", "calls"]
def p_law : List Str := ["script"]
theorem c_law : FnScope n_law p_law (defScope s_law) := ⟨rfl, rfl, rfl, by decide +kernel, rfl, by decide +kernel, by decide +kernel⟩
def m_law : Ss := (.cons (.ife (.not (.bi .all (.cons (.lc (.v 2) (.rng1 (.lit (.int 5))) .no (.call "_law_case" (.cons (.var 1) .nil))) .nil))) (.cons (.ret (.lit (.bool false))) .nil) .nil) (.cons (.asg 3 {} (.bin .Add (.lit (.int 1)) (.call "_law_draw" (.cons (.var 1) (.cons (.lit (.int 4)) .nil))))) (.cons (.asg 4 {} (.call "accesses" (.cons (.var 3) .nil))) (.cons (.ife (.or (.cons (.cmp .NotEq (.bi .len (.cons (.var 4) .nil)) (.ix (.lst (.cons (.lit (.int 0)) (.cons (.lit (.int 1)) (.cons (.lit (.int 4)) (.cons (.lit (.int 18)) (.cons (.lit (.int 166)) .nil)))))) (.var 3))) (.cons (.cmp .NotEq (.lc (.v 5) (.e (.var 4)) .no (.fld (.var 5) "least")) (.call "_law_all" (.cons (.var 3) .nil))) (.cons (.bi .any (.cons (.lc (.v 5) (.e (.var 4)) .no (.cmp .NotEq (.fld (.var 5) "shares") (.var 3))) .nil)) .nil)))) (.cons (.ret (.lit (.bool false))) .nil) .nil) (.cons (.unp [5, 6] {} (.tup (.cons (.call "_law_pick" (.cons (.var 1) (.cons (.var 4) .nil))) (.cons (.call "_law_pick" (.cons (.var 1) (.cons (.lst (.cons (.lit (.int 0)) (.cons (.lit (.int 5)) (.cons (.neg (.lit (.int 1))) (.cons (.lit (.bool true)) (.cons (.lit .none) (.cons (.lit (.str "2")) .nil))))))) .nil))) .nil)))) (.cons (.asg 7 {} (.call "_law_pick" (.cons (.var 1) (.cons (.lst (.cons (.lit .none) (.cons (.lit (.int 5)) (.cons (.tup .nil) (.cons (.tup (.cons (.tup .nil) .nil)) (.cons (.tup (.cons (.tup (.cons (.lit (.int 0)) .nil)) .nil)) (.cons (.tup (.cons (.tup (.cons (.bin .Add (.var 3) (.lit (.int 1))) .nil)) .nil)) (.cons (.tup (.cons (.tup (.cons (.lit (.int 1)) (.cons (.lit (.int 1)) .nil))) .nil)) (.cons (.tup (.cons (.tup (.cons (.lit (.int 1)) .nil)) (.cons (.tup (.cons (.lit (.int 1)) .nil)) .nil))) (.cons (.tup (.cons (.tup (.cons (.lit (.int 1)) .nil)) (.cons (.lit .none) .nil))) (.cons (.tup (.cons (.lit (.int 1)) .nil)) (.cons (.lit (.str "1")) (.cons (.tup (.cons (.tup (.cons (.lit (.bool true)) .nil)) .nil)) (.cons (.tup (.cons (.tup (.cons (.lit (.int 1)) (.cons (.lit (.int 0)) .nil))) .nil)) (.cons (.prim "dict0" .nil) .nil))))))))))))))) .nil)))) (.cons (.unp [8, 9] {} (.tup (.cons (.call "_law_pick" (.cons (.var 1) (.cons (.lst (.cons (.lit .none) (.cons (.lit (.int 0)) (.cons (.fld (.var 5) "least") (.cons (.lit (.str "access")) .nil))))) .nil))) (.cons (.call "_law_pick" (.cons (.var 1) (.cons (.lst (.cons (.lit .none) (.cons (.tup (.cons (.lit (.int 0)) .nil)) (.cons (.tup (.cons (.bin .Add (.var 3) (.lit (.int 1))) .nil)) (.cons (.tup (.cons (.lit (.int 1)) (.cons (.lit (.int 1)) .nil))) (.cons (.lit (.int 5)) (.cons (.tup (.cons (.lit (.str "1")) .nil)) (.cons (.tup (.cons (.lit (.bool true)) .nil)) .nil)))))))) .nil))) .nil)))) .nil)))))))
theorem k_law : mtSs n_law (defScope s_law) m_law (((defBody s_law).drop 1).take 7) = true := by decide +kernel
def du_law : List E := [(.tup (.cons (.lit (.str "number")) (.cons (.lit (.str "shares")) (.cons (.var 6) .nil)))), (.tup (.cons (.lit (.str "row")) (.cons (.var 7) .nil))), (.tup (.cons (.lit (.str "row")) (.cons (.tup (.cons (.tup (.cons (.lit (.int 1)) (.cons (.lit (.int 2)) .nil))) (.cons (.tup (.cons (.lit (.int 1)) (.cons (.lit (.int 2)) (.cons (.lit (.int 3)) .nil)))) .nil))) .nil))), (.tup (.cons (.lit (.str "unlike")) (.cons (.lit (.str "access")) .nil))), (.tup (.cons (.lit (.str "lot")) (.cons (.var 9) .nil))), (.tup (.cons (.lit (.str "unlike")) (.cons (.lit (.str "access")) .nil))), (.tup (.cons (.lit (.str "unlike")) (.cons (.lit (.str "access")) .nil))), (.tup (.cons (.lit (.str "number")) (.cons (.lit (.str "shares")) (.cons (.var 6) .nil))))]
def la_law : List E := [(.mk "Access" (.cons (.var 6) (.cons (.var 7) .nil))), (.mk "Access" (.cons (.var 3) (.cons (.var 7) .nil))), (.mk "Access" (.cons (.lit (.int 4)) (.cons (.tup (.cons (.tup (.cons (.lit (.int 1)) (.cons (.lit (.int 2)) .nil))) (.cons (.tup (.cons (.lit (.int 1)) (.cons (.lit (.int 2)) (.cons (.lit (.int 3)) .nil)))) .nil))) .nil))), (.call "may_know" (.cons (.var 8) (.cons (.var 9) .nil))), (.call "may_know" (.cons (.var 5) (.cons (.var 9) .nil))), (.call "knowing" (.cons (.var 8) .nil)), (.call "turned_access" (.cons (.var 8) .nil)), (.call "accesses" (.cons (.var 6) .nil))]
def ts_law : List LamT := (callsOf n_law (defScope s_law) "calls" "_law_due" du_law ((defBody s_law).drop 8)).getD []
theorem getD_of {α : Type} {o : Option (List α)} (h : o.isSome = true) : o = some (o.getD []) := by cases o <;> first | rfl | cases h
theorem kc_law : callsOf n_law (defScope s_law) "calls" "_law_due" du_law ((defBody s_law).drop 8) = some ts_law := getD_of (by decide +kernel)
theorem kl_law : lamsB n_law (defScope s_law) la_law ts_law = true := by decide +kernel
theorem t_law : LawT n_law (defScope s_law) m_law 10 du_law ts_law (defBody s_law) :=
  ⟨⟨_, _, _, _, _, ((defBody s_law).drop 1).take 7, (defBody s_law).drop 8, rfl, k_law, kc_law⟩, by decide +kernel, by decide +kernel, by decide +kernel, rfl, rfl, by decide +kernel, by decide +kernel, by decide +kernel⟩
def n__law_pen : List Str := ["script", "fold", "cell"]
def p__law_pen : List Str := ["script"]
theorem c__law_pen : FnScope n__law_pen p__law_pen (defScope s__law_pen) := ⟨rfl, rfl, rfl, by decide +kernel, rfl, by decide +kernel, by decide +kernel⟩
def e_pen : E := (.bin .Mod (.bi .int (.cons (.bin .Add (.bin .Add (.bin .Mult (.var 1) (.lit (.int 103))) (.var 2)) (.lit (.int 37))) .nil)) (.lit (.int 1000000097)))
theorem t__law_pen : PenT ["script", "fold", "cell"] (defScope s__law_pen) e_pen (defBody s__law_pen) :=
  ⟨rfl, ⟨⟨by decide +kernel, by decide +kernel⟩, by decide +kernel⟩, by decide +kernel, ⟨_, _, _, _, _, _, _, _, _, _, _, _, _, _, _, _, _, _, _, _, _, _, _, _, _, _, _, _, _, _, _, _, rfl, by decide +kernel, rfl⟩⟩
end Mk
set_option Elab.async false
set_option linter.all false
set_option maxRecDepth 100000
set_option maxHeartbeats 2000000

/-! Chain: what each def is worth, level by level (printed by mk.py). -/
namespace Mk
open PySem PySem.Spec PyProof.Rows L2 Mp
theorem hp0 : pt0 ∈ ptA := List.mem_cons_self
theorem hp1 : pt1 ∈ ptA := (List.mem_cons_of_mem _ List.mem_cons_self)
section
variable {P : Program} {w : World} {C : Rc} {base : Heap}
abbrev Base (C : Rc) (base : Heap) : Prop := C.K.In base ∧ base.Ns mainGlobals C.mg ∧ ∀ p ∈ ptA, SaysM p C.K
theorem g_is_whole (b : Base C base) : C.mg "is_whole" = some (.ref (He.ga C.K "is_whole")) := He.glo_ok b.1 b.2.1 ((b.2.2 pt0 hp0).d.fact 0 rfl)
theorem g_in_tuples (b : Base C base) : C.mg "in_tuples" = some (.ref (He.ga C.K "in_tuples")) := He.glo_ok b.1 b.2.1 ((b.2.2 pt0 hp0).d.fact 1 rfl)
theorem g_need_between (b : Base C base) : C.mg "need_between" = some (.ref (He.ga C.K "need_between")) := He.glo_ok b.1 b.2.1 ((b.2.2 pt0 hp0).d.fact 2 rfl)
theorem g_bits_of (b : Base C base) : C.mg "bits_of" = some (.ref (He.ga C.K "bits_of")) := He.glo_ok b.1 b.2.1 ((b.2.2 pt0 hp0).d.fact 3 rfl)
theorem g_of_bits (b : Base C base) : C.mg "of_bits" = some (.ref (He.ga C.K "of_bits")) := He.glo_ok b.1 b.2.1 ((b.2.2 pt0 hp0).d.fact 4 rfl)
theorem g_is_share_lot (b : Base C base) : C.mg "is_share_lot" = some (.ref (He.ga C.K "is_share_lot")) := He.glo_ok b.1 b.2.1 ((b.2.2 pt0 hp0).d.fact 5 rfl)
theorem g_holds_another (b : Base C base) : C.mg "holds_another" = some (.ref (He.ga C.K "holds_another")) := He.glo_ok b.1 b.2.1 ((b.2.2 pt0 hp0).d.fact 6 rfl)
theorem g_need_access (b : Base C base) : C.mg "need_access" = some (.ref (He.ga C.K "need_access")) := He.glo_ok b.1 b.2.1 ((b.2.2 pt0 hp0).d.fact 7 rfl)
theorem g_share_lot_from (b : Base C base) : C.mg "share_lot_from" = some (.ref (He.ga C.K "share_lot_from")) := He.glo_ok b.1 b.2.1 ((b.2.2 pt0 hp0).d.fact 8 rfl)
theorem g_knows (b : Base C base) : C.mg "knows" = some (.ref (He.ga C.K "knows")) := He.glo_ok b.1 b.2.1 ((b.2.2 pt0 hp0).d.fact 9 rfl)
theorem g_share_numbers (b : Base C base) : C.mg "share_numbers" = some (.ref (He.ga C.K "share_numbers")) := He.glo_ok b.1 b.2.1 ((b.2.2 pt0 hp0).d.fact 10 rfl)
theorem g_may_know (b : Base C base) : C.mg "may_know" = some (.ref (He.ga C.K "may_know")) := He.glo_ok b.1 b.2.1 ((b.2.2 pt0 hp0).d.fact 11 rfl)
theorem g_knowing (b : Base C base) : C.mg "knowing" = some (.ref (He.ga C.K "knowing")) := He.glo_ok b.1 b.2.1 ((b.2.2 pt0 hp0).d.fact 12 rfl)
theorem g_least_of (b : Base C base) : C.mg "least_of" = some (.ref (He.ga C.K "least_of")) := He.glo_ok b.1 b.2.1 ((b.2.2 pt0 hp0).d.fact 13 rfl)
theorem g_accesses (b : Base C base) : C.mg "accesses" = some (.ref (He.ga C.K "accesses")) := He.glo_ok b.1 b.2.1 ((b.2.2 pt0 hp0).d.fact 14 rfl)
theorem g_turned_access (b : Base C base) : C.mg "turned_access" = some (.ref (He.ga C.K "turned_access")) := He.glo_ok b.1 b.2.1 ((b.2.2 pt0 hp0).d.fact 15 rfl)
theorem g__law_pen (b : Base C base) : C.mg "_law_pen" = some (.ref (He.ga C.K "_law_pen")) := He.glo_ok b.1 b.2.1 ((b.2.2 pt0 hp0).d.fact 16 rfl)
theorem g__law_draw (b : Base C base) : C.mg "_law_draw" = some (.ref (He.ga C.K "_law_draw")) := He.glo_ok b.1 b.2.1 ((b.2.2 pt0 hp0).d.fact 17 rfl)
theorem g__law_pick (b : Base C base) : C.mg "_law_pick" = some (.ref (He.ga C.K "_law_pick")) := He.glo_ok b.1 b.2.1 ((b.2.2 pt0 hp0).d.fact 18 rfl)
theorem g__law_shuffled (b : Base C base) : C.mg "_law_shuffled" = some (.ref (He.ga C.K "_law_shuffled")) := He.glo_ok b.1 b.2.1 ((b.2.2 pt0 hp0).d.fact 19 rfl)
theorem g__law_lot (b : Base C base) : C.mg "_law_lot" = some (.ref (He.ga C.K "_law_lot")) := He.glo_ok b.1 b.2.1 ((b.2.2 pt0 hp0).d.fact 20 rfl)
theorem g__law_bits (b : Base C base) : C.mg "_law_bits" = some (.ref (He.ga C.K "_law_bits")) := He.glo_ok b.1 b.2.1 ((b.2.2 pt0 hp0).d.fact 21 rfl)
theorem g__law_fault (b : Base C base) : C.mg "_law_fault" = some (.ref (He.ga C.K "_law_fault")) := He.glo_ok b.1 b.2.1 ((b.2.2 pt0 hp0).d.fact 22 rfl)
theorem g__law_due (b : Base C base) : C.mg "_law_due" = some (.ref (He.ga C.K "_law_due")) := He.glo_ok b.1 b.2.1 ((b.2.2 pt0 hp0).d.fact 23 rfl)
theorem g__law_lists (b : Base C base) : C.mg "_law_lists" = some (.ref (He.ga C.K "_law_lists")) := He.glo_ok b.1 b.2.1 ((b.2.2 pt0 hp0).d.fact 24 rfl)
theorem g__law_access (b : Base C base) : C.mg "_law_access" = some (.ref (He.ga C.K "_law_access")) := He.glo_ok b.1 b.2.1 ((b.2.2 pt0 hp0).d.fact 25 rfl)
theorem g__law_knows (b : Base C base) : C.mg "_law_knows" = some (.ref (He.ga C.K "_law_knows")) := He.glo_ok b.1 b.2.1 ((b.2.2 pt0 hp0).d.fact 26 rfl)
theorem g__law_least (b : Base C base) : C.mg "_law_least" = some (.ref (He.ga C.K "_law_least")) := He.glo_ok b.1 b.2.1 ((b.2.2 pt0 hp0).d.fact 27 rfl)
theorem g__law_case (b : Base C base) : C.mg "_law_case" = some (.ref (He.ga C.K "_law_case")) := He.glo_ok b.1 b.2.1 ((b.2.2 pt0 hp0).d.fact 28 rfl)
theorem g__law_all (b : Base C base) : C.mg "_law_all" = some (.ref (He.ga C.K "_law_all")) := He.glo_ok b.1 b.2.1 ((b.2.2 pt0 hp0).d.fact 29 rfl)
theorem g_law (b : Base C base) : C.mg "law" = some (.ref (He.ga C.K "law")) := He.glo_ok b.1 b.2.1 ((b.2.2 pt0 hp0).d.fact 30 rfl)
theorem g_NewsError (b : Base C base) : C.mg "NewsError" = some (.ref (He.ga C.K "NewsError")) := He.glo_ok b.1 b.2.1 ((b.2.2 pt1 hp1).d.fact 0 rfl)
theorem g_BadNumber (b : Base C base) : C.mg "BadNumber" = some (.ref (He.ga C.K "BadNumber")) := He.glo_ok b.1 b.2.1 ((b.2.2 pt1 hp1).d.fact 1 rfl)
theorem g_BadLot (b : Base C base) : C.mg "BadLot" = some (.ref (He.ga C.K "BadLot")) := He.glo_ok b.1 b.2.1 ((b.2.2 pt1 hp1).d.fact 2 rfl)
theorem g_BadRow (b : Base C base) : C.mg "BadRow" = some (.ref (He.ga C.K "BadRow")) := He.glo_ok b.1 b.2.1 ((b.2.2 pt1 hp1).d.fact 3 rfl)
theorem g_BadTable (b : Base C base) : C.mg "BadTable" = some (.ref (He.ga C.K "BadTable")) := He.glo_ok b.1 b.2.1 ((b.2.2 pt1 hp1).d.fact 4 rfl)
theorem g_BadWeb (b : Base C base) : C.mg "BadWeb" = some (.ref (He.ga C.K "BadWeb")) := He.glo_ok b.1 b.2.1 ((b.2.2 pt1 hp1).d.fact 5 rfl)
theorem g_Unlike (b : Base C base) : C.mg "Unlike" = some (.ref (He.ga C.K "Unlike")) := He.glo_ok b.1 b.2.1 ((b.2.2 pt1 hp1).d.fact 6 rfl)
theorem g_TooMany (b : Base C base) : C.mg "TooMany" = some (.ref (He.ga C.K "TooMany")) := He.glo_ok b.1 b.2.1 ((b.2.2 pt1 hp1).d.fact 7 rfl)
theorem g_Access (b : Base C base) : C.mg "Access" = some (.ref (He.ga C.K "Access")) := He.glo_ok b.1 b.2.1 ((b.2.2 pt1 hp1).d.fact 8 rfl)
theorem F_is_whole (b : Base C base) : ∃ fd, FunD C.K "is_whole" "is_whole" (defArgs s_is_whole) (defBody s_is_whole) (defScope s_is_whole) [] [] (He.fAd C.K d_is_whole.at_) fd := (b.2.2 pt0 hp0).d.def_ 0 rfl
theorem F_in_tuples (b : Base C base) : ∃ fd, FunD C.K "in_tuples" "in_tuples" (defArgs s_in_tuples) (defBody s_in_tuples) (defScope s_in_tuples) [] [] (He.fAd C.K d_in_tuples.at_) fd := (b.2.2 pt0 hp0).d.def_ 1 rfl
theorem F_need_between (b : Base C base) : ∃ fd, FunD C.K "need_between" "need_between" (defArgs s_need_between) (defBody s_need_between) (defScope s_need_between) [] [] (He.fAd C.K d_need_between.at_) fd := (b.2.2 pt0 hp0).d.def_ 2 rfl
theorem F_bits_of (b : Base C base) : ∃ fd, FunD C.K "bits_of" "bits_of" (defArgs s_bits_of) (defBody s_bits_of) (defScope s_bits_of) [] [] (He.fAd C.K d_bits_of.at_) fd := (b.2.2 pt0 hp0).d.def_ 3 rfl
theorem F_of_bits (b : Base C base) : ∃ fd, FunD C.K "of_bits" "of_bits" (defArgs s_of_bits) (defBody s_of_bits) (defScope s_of_bits) [] [] (He.fAd C.K d_of_bits.at_) fd := (b.2.2 pt0 hp0).d.def_ 4 rfl
theorem F_is_share_lot (b : Base C base) : ∃ fd, FunD C.K "is_share_lot" "is_share_lot" (defArgs s_is_share_lot) (defBody s_is_share_lot) (defScope s_is_share_lot) [] [] (He.fAd C.K d_is_share_lot.at_) fd := (b.2.2 pt0 hp0).d.def_ 5 rfl
theorem F_holds_another (b : Base C base) : ∃ fd, FunD C.K "holds_another" "holds_another" (defArgs s_holds_another) (defBody s_holds_another) (defScope s_holds_another) [] [] (He.fAd C.K d_holds_another.at_) fd := (b.2.2 pt0 hp0).d.def_ 6 rfl
theorem F_need_access (b : Base C base) : ∃ fd, FunD C.K "need_access" "need_access" (defArgs s_need_access) (defBody s_need_access) (defScope s_need_access) [] [] (He.fAd C.K d_need_access.at_) fd := (b.2.2 pt0 hp0).d.def_ 7 rfl
theorem F_share_lot_from (b : Base C base) : ∃ fd, FunD C.K "share_lot_from" "share_lot_from" (defArgs s_share_lot_from) (defBody s_share_lot_from) (defScope s_share_lot_from) [] [] (He.fAd C.K d_share_lot_from.at_) fd := (b.2.2 pt0 hp0).d.def_ 8 rfl
theorem F_knows (b : Base C base) : ∃ fd, FunD C.K "knows" "knows" (defArgs s_knows) (defBody s_knows) (defScope s_knows) [] [] (He.fAd C.K d_knows.at_) fd := (b.2.2 pt0 hp0).d.def_ 9 rfl
theorem F_share_numbers (b : Base C base) : ∃ fd, FunD C.K "share_numbers" "share_numbers" (defArgs s_share_numbers) (defBody s_share_numbers) (defScope s_share_numbers) [] [] (He.fAd C.K d_share_numbers.at_) fd := (b.2.2 pt0 hp0).d.def_ 10 rfl
theorem F_may_know (b : Base C base) : ∃ fd, FunD C.K "may_know" "may_know" (defArgs s_may_know) (defBody s_may_know) (defScope s_may_know) [] [] (He.fAd C.K d_may_know.at_) fd := (b.2.2 pt0 hp0).d.def_ 11 rfl
theorem F_knowing (b : Base C base) : ∃ fd, FunD C.K "knowing" "knowing" (defArgs s_knowing) (defBody s_knowing) (defScope s_knowing) [] [] (He.fAd C.K d_knowing.at_) fd := (b.2.2 pt0 hp0).d.def_ 12 rfl
theorem F_least_of (b : Base C base) : ∃ fd, FunD C.K "least_of" "least_of" (defArgs s_least_of) (defBody s_least_of) (defScope s_least_of) [] [] (He.fAd C.K d_least_of.at_) fd := (b.2.2 pt0 hp0).d.def_ 13 rfl
theorem F_accesses (b : Base C base) : ∃ fd, FunD C.K "accesses" "accesses" (defArgs s_accesses) (defBody s_accesses) (defScope s_accesses) [] [] (He.fAd C.K d_accesses.at_) fd := (b.2.2 pt0 hp0).d.def_ 14 rfl
theorem F_turned_access (b : Base C base) : ∃ fd, FunD C.K "turned_access" "turned_access" (defArgs s_turned_access) (defBody s_turned_access) (defScope s_turned_access) [] [] (He.fAd C.K d_turned_access.at_) fd := (b.2.2 pt0 hp0).d.def_ 15 rfl
theorem F__law_pen (b : Base C base) : ∃ fd, FunD C.K "_law_pen" "_law_pen" (defArgs s__law_pen) (defBody s__law_pen) (defScope s__law_pen) [] [] (He.fAd C.K d__law_pen.at_) fd := (b.2.2 pt0 hp0).d.def_ 16 rfl
theorem F__law_draw (b : Base C base) : ∃ fd, FunD C.K "_law_draw" "_law_draw" (defArgs s__law_draw) (defBody s__law_draw) (defScope s__law_draw) [] [] (He.fAd C.K d__law_draw.at_) fd := (b.2.2 pt0 hp0).d.def_ 17 rfl
theorem F__law_pick (b : Base C base) : ∃ fd, FunD C.K "_law_pick" "_law_pick" (defArgs s__law_pick) (defBody s__law_pick) (defScope s__law_pick) [] [] (He.fAd C.K d__law_pick.at_) fd := (b.2.2 pt0 hp0).d.def_ 18 rfl
theorem F__law_shuffled (b : Base C base) : ∃ fd, FunD C.K "_law_shuffled" "_law_shuffled" (defArgs s__law_shuffled) (defBody s__law_shuffled) (defScope s__law_shuffled) [] [] (He.fAd C.K d__law_shuffled.at_) fd := (b.2.2 pt0 hp0).d.def_ 19 rfl
theorem F__law_lot (b : Base C base) : ∃ fd, FunD C.K "_law_lot" "_law_lot" (defArgs s__law_lot) (defBody s__law_lot) (defScope s__law_lot) [] [] (He.fAd C.K d__law_lot.at_) fd := (b.2.2 pt0 hp0).d.def_ 20 rfl
theorem F__law_bits (b : Base C base) : ∃ fd, FunD C.K "_law_bits" "_law_bits" (defArgs s__law_bits) (defBody s__law_bits) (defScope s__law_bits) [] [] (He.fAd C.K d__law_bits.at_) fd := (b.2.2 pt0 hp0).d.def_ 21 rfl
theorem F__law_fault (b : Base C base) : ∃ fd, FunD C.K "_law_fault" "_law_fault" (defArgs s__law_fault) (defBody s__law_fault) (defScope s__law_fault) [] [] (He.fAd C.K d__law_fault.at_) fd := (b.2.2 pt0 hp0).d.def_ 22 rfl
theorem F__law_due (b : Base C base) : ∃ fd, FunD C.K "_law_due" "_law_due" (defArgs s__law_due) (defBody s__law_due) (defScope s__law_due) [] [] (He.fAd C.K d__law_due.at_) fd := (b.2.2 pt0 hp0).d.def_ 23 rfl
theorem F__law_lists (b : Base C base) : ∃ fd, FunD C.K "_law_lists" "_law_lists" (defArgs s__law_lists) (defBody s__law_lists) (defScope s__law_lists) [] [] (He.fAd C.K d__law_lists.at_) fd := (b.2.2 pt0 hp0).d.def_ 24 rfl
theorem F__law_access (b : Base C base) : ∃ fd, FunD C.K "_law_access" "_law_access" (defArgs s__law_access) (defBody s__law_access) (defScope s__law_access) [] [] (He.fAd C.K d__law_access.at_) fd := (b.2.2 pt0 hp0).d.def_ 25 rfl
theorem F__law_knows (b : Base C base) : ∃ fd, FunD C.K "_law_knows" "_law_knows" (defArgs s__law_knows) (defBody s__law_knows) (defScope s__law_knows) [] [] (He.fAd C.K d__law_knows.at_) fd := (b.2.2 pt0 hp0).d.def_ 26 rfl
theorem F__law_least (b : Base C base) : ∃ fd, FunD C.K "_law_least" "_law_least" (defArgs s__law_least) (defBody s__law_least) (defScope s__law_least) [] [] (He.fAd C.K d__law_least.at_) fd := (b.2.2 pt0 hp0).d.def_ 27 rfl
theorem F__law_case (b : Base C base) : ∃ fd, FunD C.K "_law_case" "_law_case" (defArgs s__law_case) (defBody s__law_case) (defScope s__law_case) [] [] (He.fAd C.K d__law_case.at_) fd := (b.2.2 pt0 hp0).d.def_ 28 rfl
theorem F__law_all (b : Base C base) : ∃ fd, FunD C.K "_law_all" "_law_all" (defArgs s__law_all) (defBody s__law_all) (defScope s__law_all) [] [] (He.fAd C.K d__law_all.at_) fd := (b.2.2 pt0 hp0).d.def_ 29 rfl
theorem F_law (b : Base C base) : ∃ fd, FunD C.K "law" "law" (defArgs s_law) (defBody s_law) (defScope s_law) [] [] (He.fAd C.K d_law.at_) fd := (b.2.2 pt0 hp0).d.def_ 30 rfl
theorem F_BadNumber_init (b : Base C base) : ∃ fd, FunD C.K "__init__" "BadNumber.__init__" (defArgs s_BadNumber_init) (defBody s_BadNumber_init) (defScope s_BadNumber_init) [] [] (He.fAd C.K d_BadNumber_init.at_) fd := (b.2.2 pt1 hp1).d.def_ 0 rfl
theorem F_BadLot_init (b : Base C base) : ∃ fd, FunD C.K "__init__" "BadLot.__init__" (defArgs s_BadLot_init) (defBody s_BadLot_init) (defScope s_BadLot_init) [] [] (He.fAd C.K d_BadLot_init.at_) fd := (b.2.2 pt1 hp1).d.def_ 1 rfl
theorem F_BadRow_init (b : Base C base) : ∃ fd, FunD C.K "__init__" "BadRow.__init__" (defArgs s_BadRow_init) (defBody s_BadRow_init) (defScope s_BadRow_init) [] [] (He.fAd C.K d_BadRow_init.at_) fd := (b.2.2 pt1 hp1).d.def_ 2 rfl
theorem F_BadTable_init (b : Base C base) : ∃ fd, FunD C.K "__init__" "BadTable.__init__" (defArgs s_BadTable_init) (defBody s_BadTable_init) (defScope s_BadTable_init) [] [] (He.fAd C.K d_BadTable_init.at_) fd := (b.2.2 pt1 hp1).d.def_ 3 rfl
theorem F_BadWeb_init (b : Base C base) : ∃ fd, FunD C.K "__init__" "BadWeb.__init__" (defArgs s_BadWeb_init) (defBody s_BadWeb_init) (defScope s_BadWeb_init) [] [] (He.fAd C.K d_BadWeb_init.at_) fd := (b.2.2 pt1 hp1).d.def_ 4 rfl
theorem F_Unlike_init (b : Base C base) : ∃ fd, FunD C.K "__init__" "Unlike.__init__" (defArgs s_Unlike_init) (defBody s_Unlike_init) (defScope s_Unlike_init) [] [] (He.fAd C.K d_Unlike_init.at_) fd := (b.2.2 pt1 hp1).d.def_ 5 rfl
theorem F_TooMany_init (b : Base C base) : ∃ fd, FunD C.K "__init__" "TooMany.__init__" (defArgs s_TooMany_init) (defBody s_TooMany_init) (defScope s_TooMany_init) [] [] (He.fAd C.K d_TooMany_init.at_) fd := (b.2.2 pt1 hp1).d.def_ 6 rfl
theorem F_Access_init (b : Base C base) : ∃ fd, FunD C.K "__init__" "Access.__init__" (defArgs s_Access_init) (defBody s_Access_init) (defScope s_Access_init) [] [] (He.fAd C.K d_Access_init.at_) fd := (b.2.2 pt1 hp1).d.def_ 7 rfl
theorem F_Access_eq (b : Base C base) : ∃ fd, FunD C.K "__eq__" "Access.__eq__" (defArgs s_Access_eq) (defBody s_Access_eq) (defScope s_Access_eq) [] [] (He.fAd C.K d_Access_eq.at_) fd := (b.2.2 pt1 hp1).d.def_ 8 rfl
theorem F_Access_ne (b : Base C base) : ∃ fd, FunD C.K "__ne__" "Access.__ne__" (defArgs s_Access_ne) (defBody s_Access_ne) (defScope s_Access_ne) [] [] (He.fAd C.K d_Access_ne.at_) fd := (b.2.2 pt1 hp1).d.def_ 9 rfl
theorem frees (b : Base C base) : ∀ x ∈ freeNames, C.mg x = none := by
  intro x hx
  simp only [freeNames, List.mem_cons, List.not_mem_nil, or_false] at hx
  rcases hx with h | h | h | h | h | h | h | h | h | h | h | h | h | h | h | h | h | h | h <;> subst h
  · exact He.free_ok b.1 b.2.1 ((b.2.2 pt0 hp0).d.fact 31 rfl)
  · exact He.free_ok b.1 b.2.1 ((b.2.2 pt0 hp0).d.fact 32 rfl)
  · exact He.free_ok b.1 b.2.1 ((b.2.2 pt0 hp0).d.fact 33 rfl)
  · exact He.free_ok b.1 b.2.1 ((b.2.2 pt0 hp0).d.fact 34 rfl)
  · exact He.free_ok b.1 b.2.1 ((b.2.2 pt0 hp0).d.fact 35 rfl)
  · exact He.free_ok b.1 b.2.1 ((b.2.2 pt0 hp0).d.fact 36 rfl)
  · exact He.free_ok b.1 b.2.1 ((b.2.2 pt0 hp0).d.fact 37 rfl)
  · exact He.free_ok b.1 b.2.1 ((b.2.2 pt0 hp0).d.fact 38 rfl)
  · exact He.free_ok b.1 b.2.1 ((b.2.2 pt0 hp0).d.fact 39 rfl)
  · exact He.free_ok b.1 b.2.1 ((b.2.2 pt0 hp0).d.fact 40 rfl)
  · exact He.free_ok b.1 b.2.1 ((b.2.2 pt0 hp0).d.fact 41 rfl)
  · exact He.free_ok b.1 b.2.1 ((b.2.2 pt0 hp0).d.fact 42 rfl)
  · exact He.free_ok b.1 b.2.1 ((b.2.2 pt0 hp0).d.fact 43 rfl)
  · exact He.free_ok b.1 b.2.1 ((b.2.2 pt0 hp0).d.fact 44 rfl)
  · exact He.free_ok b.1 b.2.1 ((b.2.2 pt0 hp0).d.fact 45 rfl)
  · exact He.free_ok b.1 b.2.1 ((b.2.2 pt0 hp0).d.fact 46 rfl)
  · exact He.free_ok b.1 b.2.1 ((b.2.2 pt0 hp0).d.fact 47 rfl)
  · exact He.free_ok b.1 b.2.1 ((b.2.2 pt0 hp0).d.fact 48 rfl)
  · exact He.free_ok b.1 b.2.1 ((b.2.2 pt0 hp0).d.fact 49 rfl)
theorem sysb (b : Base C base) : ∃ o, base.get? sysModules = some o := by
  obtain ⟨o, h⟩ := (b.2.2 pt0 hp0).sys
  exact ⟨o, b.1 _ _ h⟩
theorem ex1 (b : Base C base) : (∀ c ∈ cl1, ownB C.K (He.ga C.K c) = true) ∧ (∀ c ∈ cq1, subB C.K (He.ga C.K c) = true) ∧ (∀ c ∈ ci1, idnB C.K (He.ga C.K c) = true) ∧ (∀ c ∈ er1, errAllB C.K c = true) ∧ (∀ c ∈ em1, exmB C.K c = true) ∧ (∀ c ∈ eb1, errB C.K (He.ga C.K c) = true) := by
  have e : ((cl1.all fun c => ownB C.K (He.ga C.K c)) && ((cq1.all fun c => subB C.K (He.ga C.K c)) && ((ci1.all fun c => idnB C.K (He.ga C.K c)) && (er1.all (errAllB C.K) && (em1.all (exmB C.K) && eb1.all fun c => errB C.K (He.ga C.K c)))))) = true := (b.2.2 pt1 hp1).ex
  simp only [Bool.and_eq_true] at e
  exact ⟨List.all_eq_true.mp e.1, List.all_eq_true.mp e.2.1, List.all_eq_true.mp e.2.2.1, List.all_eq_true.mp e.2.2.2.1, List.all_eq_true.mp e.2.2.2.2.1, List.all_eq_true.mp e.2.2.2.2.2⟩
def cls : List Str := ["Access"]
theorem clsok (b : Base C base) : ∀ c ∈ cls, ∃ cl, OwnC C c cl ∧ (∀ m ∈ tyNames, PySem.W.kitOne C.K (.type m) (.ref cl) = some false) := allm_cons (⟨_, own_of (g_Access b) (He.cls_ok ((b.2.2 pt1 hp1).d.fact 9 rfl)) ((ex1 b).1 _ List.mem_cons_self), ty_of ((ex1 b).1 _ List.mem_cons_self)⟩) (allm_nil)
def idns : List Str := []
theorem idnok (b : Base C base) : ∀ c ∈ idns, ∃ cl, C.mg c = some (.ref cl) ∧ IdC C.K cl := allm_nil
def flds : List (Str × Str) := [("Access", "shares"), ("Access", "least")]
theorem fldok (b : Base C base) : ∀ q ∈ flds, ∃ cl, C.mg q.1 = some (.ref cl) ∧ Cls C.K cl ∧ NoAttr C.K cl q.2 := allm_cons (⟨_, g_Access b, He.cls_ok ((b.2.2 pt1 hp1).d.fact 9 rfl), He.noat_ok ((b.2.2 pt1 hp1).d.fact 11 rfl)⟩) (allm_cons (⟨_, g_Access b, He.cls_ok ((b.2.2 pt1 hp1).d.fact 9 rfl), He.noat_ok ((b.2.2 pt1 hp1).d.fact 12 rfl)⟩) (allm_nil))
def cons : List (Str × D) := [("MOST_SHARES", .int 4)]
theorem int_con {x : Str} {i : Int} (h : ∃ t, C.mg x = some (.int i t)) : ∃ u v, C.mg x = some u ∧ RelV v u ∧ ∀ W, Rep C W (.int i) v := let ⟨t, h⟩ := h; ⟨.int i t, .int i, h, ⟨t, rfl⟩, fun _ => rfl⟩
theorem conok (b : Base C base) : ∀ q ∈ cons, ∃ u v, C.mg q.1 = some u ∧ RelV v u ∧ ∀ W, Rep C W q.2 v := allm_cons (int_con (He.int_ok b.1 b.2.1 ((b.2.2 pt0 hp0).d.fact 50 rfl))) (allm_nil)
def errs : List (Str × List Str) := [("BadNumber", ["what", "number"]), ("BadLot", ["lot"]), ("BadRow", ["row"]), ("BadTable", ["table"]), ("BadWeb", ["what", "value"]), ("Unlike", ["what"]), ("TooMany", ["what", "many", "limit"])]
theorem errok (b : Base C base) : ∀ q ∈ errs, ∃ cl, ErrOk P w C base q.1 q.2 cl ∧ XfC C.K cl ∧ ∀ f ∈ q.2, PySem.W.findIn C.K (.ref cl) f = some none := allm_cons (let ⟨_, F⟩ := F_BadNumber_init b; err_entry ((ex1 b).2.2.2.1 _ List.mem_cons_self) (g_BadNumber b) F c_BadNumber_init k_BadNumber_init (g_NewsError b) ((ex1 b).2.2.2.2.2 _ List.mem_cons_self) (by decide) (by decide) (F.bindsN fun _ _ _ _ _ _ us hl => match us, hl with | [_, _, _], _ => rfl)) (allm_cons (let ⟨_, F⟩ := F_BadLot_init b; err_entry ((ex1 b).2.2.2.1 _ (List.mem_cons_of_mem _ List.mem_cons_self)) (g_BadLot b) F c_BadLot_init k_BadLot_init (g_NewsError b) ((ex1 b).2.2.2.2.2 _ List.mem_cons_self) (by decide) (by decide) (F.bindsN fun _ _ _ _ _ _ us hl => match us, hl with | [_, _], _ => rfl)) (allm_cons (let ⟨_, F⟩ := F_BadRow_init b; err_entry ((ex1 b).2.2.2.1 _ (List.mem_cons_of_mem _ (List.mem_cons_of_mem _ List.mem_cons_self))) (g_BadRow b) F c_BadRow_init k_BadRow_init (g_NewsError b) ((ex1 b).2.2.2.2.2 _ List.mem_cons_self) (by decide) (by decide) (F.bindsN fun _ _ _ _ _ _ us hl => match us, hl with | [_, _], _ => rfl)) (allm_cons (let ⟨_, F⟩ := F_BadTable_init b; err_entry ((ex1 b).2.2.2.1 _ (List.mem_cons_of_mem _ (List.mem_cons_of_mem _ (List.mem_cons_of_mem _ List.mem_cons_self)))) (g_BadTable b) F c_BadTable_init k_BadTable_init (g_NewsError b) ((ex1 b).2.2.2.2.2 _ List.mem_cons_self) (by decide) (by decide) (F.bindsN fun _ _ _ _ _ _ us hl => match us, hl with | [_, _], _ => rfl)) (allm_cons (let ⟨_, F⟩ := F_BadWeb_init b; err_entry ((ex1 b).2.2.2.1 _ (List.mem_cons_of_mem _ (List.mem_cons_of_mem _ (List.mem_cons_of_mem _ (List.mem_cons_of_mem _ List.mem_cons_self))))) (g_BadWeb b) F c_BadWeb_init k_BadWeb_init (g_NewsError b) ((ex1 b).2.2.2.2.2 _ List.mem_cons_self) (by decide) (by decide) (F.bindsN fun _ _ _ _ _ _ us hl => match us, hl with | [_, _, _], _ => rfl)) (allm_cons (let ⟨_, F⟩ := F_Unlike_init b; err_entry ((ex1 b).2.2.2.1 _ (List.mem_cons_of_mem _ (List.mem_cons_of_mem _ (List.mem_cons_of_mem _ (List.mem_cons_of_mem _ (List.mem_cons_of_mem _ List.mem_cons_self)))))) (g_Unlike b) F c_Unlike_init k_Unlike_init (g_NewsError b) ((ex1 b).2.2.2.2.2 _ List.mem_cons_self) (by decide) (by decide) (F.bindsN fun _ _ _ _ _ _ us hl => match us, hl with | [_, _], _ => rfl)) (allm_cons (let ⟨_, F⟩ := F_TooMany_init b; err_entry ((ex1 b).2.2.2.1 _ (List.mem_cons_of_mem _ (List.mem_cons_of_mem _ (List.mem_cons_of_mem _ (List.mem_cons_of_mem _ (List.mem_cons_of_mem _ (List.mem_cons_of_mem _ List.mem_cons_self))))))) (g_TooMany b) F c_TooMany_init k_TooMany_init (g_NewsError b) ((ex1 b).2.2.2.2.2 _ List.mem_cons_self) (by decide) (by decide) (F.bindsN fun _ _ _ _ _ _ us hl => match us, hl with | [_, _, _, _], _ => rfl)) (allm_nil)))))))
def exms : List ((Str × Str) × Bool) := [mx "BadNumber" "BadNumber" true, mx "BadNumber" "BadLot" false, mx "BadNumber" "BadRow" false, mx "BadNumber" "BadTable" false, mx "BadNumber" "BadWeb" false, mx "BadNumber" "TooMany" false, mx "BadNumber" "Unlike" false, mx "BadLot" "BadNumber" false, mx "BadLot" "BadLot" true, mx "BadLot" "BadRow" false, mx "BadLot" "BadTable" false, mx "BadLot" "BadWeb" false, mx "BadLot" "TooMany" false, mx "BadLot" "Unlike" false, mx "BadRow" "BadNumber" false, mx "BadRow" "BadLot" false, mx "BadRow" "BadRow" true, mx "BadRow" "BadTable" false, mx "BadRow" "BadWeb" false, mx "BadRow" "TooMany" false, mx "BadRow" "Unlike" false, mx "BadTable" "BadNumber" false, mx "BadTable" "BadLot" false, mx "BadTable" "BadRow" false, mx "BadTable" "BadTable" true, mx "BadTable" "BadWeb" false, mx "BadTable" "TooMany" false, mx "BadTable" "Unlike" false, mx "BadWeb" "BadNumber" false, mx "BadWeb" "BadLot" false, mx "BadWeb" "BadRow" false, mx "BadWeb" "BadTable" false, mx "BadWeb" "BadWeb" true, mx "BadWeb" "TooMany" false, mx "BadWeb" "Unlike" false, mx "Unlike" "BadNumber" false, mx "Unlike" "BadLot" false, mx "Unlike" "BadRow" false, mx "Unlike" "BadTable" false, mx "Unlike" "BadWeb" false, mx "Unlike" "TooMany" false, mx "Unlike" "Unlike" true, mx "TooMany" "BadNumber" false, mx "TooMany" "BadLot" false, mx "TooMany" "BadRow" false, mx "TooMany" "BadTable" false, mx "TooMany" "BadWeb" false, mx "TooMany" "TooMany" true, mx "TooMany" "Unlike" false]
theorem exmok (b : Base C base) : ∀ q ∈ exms, ∃ cl cl', C.mg q.1.1 = some (.ref cl) ∧ C.mg q.1.2 = some (.ref cl') ∧ PySem.W.exmOne C.K (.ref cl) (.ref cl') = some q.2 := allm_cons (exm_entry ((ex1 b).2.2.2.2.1 _ List.mem_cons_self) (g_BadNumber b) (g_BadNumber b)) (allm_cons (exm_entry ((ex1 b).2.2.2.2.1 _ (List.mem_cons_of_mem _ List.mem_cons_self)) (g_BadNumber b) (g_BadLot b)) (allm_cons (exm_entry ((ex1 b).2.2.2.2.1 _ (List.mem_cons_of_mem _ (List.mem_cons_of_mem _ List.mem_cons_self))) (g_BadNumber b) (g_BadRow b)) (allm_cons (exm_entry ((ex1 b).2.2.2.2.1 _ (List.mem_cons_of_mem _ (List.mem_cons_of_mem _ (List.mem_cons_of_mem _ List.mem_cons_self)))) (g_BadNumber b) (g_BadTable b)) (allm_cons (exm_entry ((ex1 b).2.2.2.2.1 _ (List.mem_cons_of_mem _ (List.mem_cons_of_mem _ (List.mem_cons_of_mem _ (List.mem_cons_of_mem _ List.mem_cons_self))))) (g_BadNumber b) (g_BadWeb b)) (allm_cons (exm_entry ((ex1 b).2.2.2.2.1 _ (List.mem_cons_of_mem _ (List.mem_cons_of_mem _ (List.mem_cons_of_mem _ (List.mem_cons_of_mem _ (List.mem_cons_of_mem _ List.mem_cons_self)))))) (g_BadNumber b) (g_TooMany b)) (allm_cons (exm_entry ((ex1 b).2.2.2.2.1 _ (List.mem_cons_of_mem _ (List.mem_cons_of_mem _ (List.mem_cons_of_mem _ (List.mem_cons_of_mem _ (List.mem_cons_of_mem _ (List.mem_cons_of_mem _ List.mem_cons_self))))))) (g_BadNumber b) (g_Unlike b)) (allm_cons (exm_entry ((ex1 b).2.2.2.2.1 _ (List.mem_cons_of_mem _ (List.mem_cons_of_mem _ (List.mem_cons_of_mem _ (List.mem_cons_of_mem _ (List.mem_cons_of_mem _ (List.mem_cons_of_mem _ (List.mem_cons_of_mem _ List.mem_cons_self)))))))) (g_BadLot b) (g_BadNumber b)) (allm_cons (exm_entry ((ex1 b).2.2.2.2.1 _ (List.mem_cons_of_mem _ (List.mem_cons_of_mem _ (List.mem_cons_of_mem _ (List.mem_cons_of_mem _ (List.mem_cons_of_mem _ (List.mem_cons_of_mem _ (List.mem_cons_of_mem _ (List.mem_cons_of_mem _ List.mem_cons_self))))))))) (g_BadLot b) (g_BadLot b)) (allm_cons (exm_entry ((ex1 b).2.2.2.2.1 _ (List.mem_cons_of_mem _ (List.mem_cons_of_mem _ (List.mem_cons_of_mem _ (List.mem_cons_of_mem _ (List.mem_cons_of_mem _ (List.mem_cons_of_mem _ (List.mem_cons_of_mem _ (List.mem_cons_of_mem _ (List.mem_cons_of_mem _ List.mem_cons_self)))))))))) (g_BadLot b) (g_BadRow b)) (allm_cons (exm_entry ((ex1 b).2.2.2.2.1 _ (List.mem_cons_of_mem _ (List.mem_cons_of_mem _ (List.mem_cons_of_mem _ (List.mem_cons_of_mem _ (List.mem_cons_of_mem _ (List.mem_cons_of_mem _ (List.mem_cons_of_mem _ (List.mem_cons_of_mem _ (List.mem_cons_of_mem _ (List.mem_cons_of_mem _ List.mem_cons_self))))))))))) (g_BadLot b) (g_BadTable b)) (allm_cons (exm_entry ((ex1 b).2.2.2.2.1 _ (List.mem_cons_of_mem _ (List.mem_cons_of_mem _ (List.mem_cons_of_mem _ (List.mem_cons_of_mem _ (List.mem_cons_of_mem _ (List.mem_cons_of_mem _ (List.mem_cons_of_mem _ (List.mem_cons_of_mem _ (List.mem_cons_of_mem _ (List.mem_cons_of_mem _ (List.mem_cons_of_mem _ List.mem_cons_self)))))))))))) (g_BadLot b) (g_BadWeb b)) (allm_cons (exm_entry ((ex1 b).2.2.2.2.1 _ (List.mem_cons_of_mem _ (List.mem_cons_of_mem _ (List.mem_cons_of_mem _ (List.mem_cons_of_mem _ (List.mem_cons_of_mem _ (List.mem_cons_of_mem _ (List.mem_cons_of_mem _ (List.mem_cons_of_mem _ (List.mem_cons_of_mem _ (List.mem_cons_of_mem _ (List.mem_cons_of_mem _ (List.mem_cons_of_mem _ List.mem_cons_self))))))))))))) (g_BadLot b) (g_TooMany b)) (allm_cons (exm_entry ((ex1 b).2.2.2.2.1 _ (List.mem_cons_of_mem _ (List.mem_cons_of_mem _ (List.mem_cons_of_mem _ (List.mem_cons_of_mem _ (List.mem_cons_of_mem _ (List.mem_cons_of_mem _ (List.mem_cons_of_mem _ (List.mem_cons_of_mem _ (List.mem_cons_of_mem _ (List.mem_cons_of_mem _ (List.mem_cons_of_mem _ (List.mem_cons_of_mem _ (List.mem_cons_of_mem _ List.mem_cons_self)))))))))))))) (g_BadLot b) (g_Unlike b)) (allm_cons (exm_entry ((ex1 b).2.2.2.2.1 _ (List.mem_cons_of_mem _ (List.mem_cons_of_mem _ (List.mem_cons_of_mem _ (List.mem_cons_of_mem _ (List.mem_cons_of_mem _ (List.mem_cons_of_mem _ (List.mem_cons_of_mem _ (List.mem_cons_of_mem _ (List.mem_cons_of_mem _ (List.mem_cons_of_mem _ (List.mem_cons_of_mem _ (List.mem_cons_of_mem _ (List.mem_cons_of_mem _ (List.mem_cons_of_mem _ List.mem_cons_self))))))))))))))) (g_BadRow b) (g_BadNumber b)) (allm_cons (exm_entry ((ex1 b).2.2.2.2.1 _ (List.mem_cons_of_mem _ (List.mem_cons_of_mem _ (List.mem_cons_of_mem _ (List.mem_cons_of_mem _ (List.mem_cons_of_mem _ (List.mem_cons_of_mem _ (List.mem_cons_of_mem _ (List.mem_cons_of_mem _ (List.mem_cons_of_mem _ (List.mem_cons_of_mem _ (List.mem_cons_of_mem _ (List.mem_cons_of_mem _ (List.mem_cons_of_mem _ (List.mem_cons_of_mem _ (List.mem_cons_of_mem _ List.mem_cons_self)))))))))))))))) (g_BadRow b) (g_BadLot b)) (allm_cons (exm_entry ((ex1 b).2.2.2.2.1 _ (List.mem_cons_of_mem _ (List.mem_cons_of_mem _ (List.mem_cons_of_mem _ (List.mem_cons_of_mem _ (List.mem_cons_of_mem _ (List.mem_cons_of_mem _ (List.mem_cons_of_mem _ (List.mem_cons_of_mem _ (List.mem_cons_of_mem _ (List.mem_cons_of_mem _ (List.mem_cons_of_mem _ (List.mem_cons_of_mem _ (List.mem_cons_of_mem _ (List.mem_cons_of_mem _ (List.mem_cons_of_mem _ (List.mem_cons_of_mem _ List.mem_cons_self))))))))))))))))) (g_BadRow b) (g_BadRow b)) (allm_cons (exm_entry ((ex1 b).2.2.2.2.1 _ (List.mem_cons_of_mem _ (List.mem_cons_of_mem _ (List.mem_cons_of_mem _ (List.mem_cons_of_mem _ (List.mem_cons_of_mem _ (List.mem_cons_of_mem _ (List.mem_cons_of_mem _ (List.mem_cons_of_mem _ (List.mem_cons_of_mem _ (List.mem_cons_of_mem _ (List.mem_cons_of_mem _ (List.mem_cons_of_mem _ (List.mem_cons_of_mem _ (List.mem_cons_of_mem _ (List.mem_cons_of_mem _ (List.mem_cons_of_mem _ (List.mem_cons_of_mem _ List.mem_cons_self)))))))))))))))))) (g_BadRow b) (g_BadTable b)) (allm_cons (exm_entry ((ex1 b).2.2.2.2.1 _ (List.mem_cons_of_mem _ (List.mem_cons_of_mem _ (List.mem_cons_of_mem _ (List.mem_cons_of_mem _ (List.mem_cons_of_mem _ (List.mem_cons_of_mem _ (List.mem_cons_of_mem _ (List.mem_cons_of_mem _ (List.mem_cons_of_mem _ (List.mem_cons_of_mem _ (List.mem_cons_of_mem _ (List.mem_cons_of_mem _ (List.mem_cons_of_mem _ (List.mem_cons_of_mem _ (List.mem_cons_of_mem _ (List.mem_cons_of_mem _ (List.mem_cons_of_mem _ (List.mem_cons_of_mem _ List.mem_cons_self))))))))))))))))))) (g_BadRow b) (g_BadWeb b)) (allm_cons (exm_entry ((ex1 b).2.2.2.2.1 _ (List.mem_cons_of_mem _ (List.mem_cons_of_mem _ (List.mem_cons_of_mem _ (List.mem_cons_of_mem _ (List.mem_cons_of_mem _ (List.mem_cons_of_mem _ (List.mem_cons_of_mem _ (List.mem_cons_of_mem _ (List.mem_cons_of_mem _ (List.mem_cons_of_mem _ (List.mem_cons_of_mem _ (List.mem_cons_of_mem _ (List.mem_cons_of_mem _ (List.mem_cons_of_mem _ (List.mem_cons_of_mem _ (List.mem_cons_of_mem _ (List.mem_cons_of_mem _ (List.mem_cons_of_mem _ (List.mem_cons_of_mem _ List.mem_cons_self)))))))))))))))))))) (g_BadRow b) (g_TooMany b)) (allm_cons (exm_entry ((ex1 b).2.2.2.2.1 _ (List.mem_cons_of_mem _ (List.mem_cons_of_mem _ (List.mem_cons_of_mem _ (List.mem_cons_of_mem _ (List.mem_cons_of_mem _ (List.mem_cons_of_mem _ (List.mem_cons_of_mem _ (List.mem_cons_of_mem _ (List.mem_cons_of_mem _ (List.mem_cons_of_mem _ (List.mem_cons_of_mem _ (List.mem_cons_of_mem _ (List.mem_cons_of_mem _ (List.mem_cons_of_mem _ (List.mem_cons_of_mem _ (List.mem_cons_of_mem _ (List.mem_cons_of_mem _ (List.mem_cons_of_mem _ (List.mem_cons_of_mem _ (List.mem_cons_of_mem _ List.mem_cons_self))))))))))))))))))))) (g_BadRow b) (g_Unlike b)) (allm_cons (exm_entry ((ex1 b).2.2.2.2.1 _ (List.mem_cons_of_mem _ (List.mem_cons_of_mem _ (List.mem_cons_of_mem _ (List.mem_cons_of_mem _ (List.mem_cons_of_mem _ (List.mem_cons_of_mem _ (List.mem_cons_of_mem _ (List.mem_cons_of_mem _ (List.mem_cons_of_mem _ (List.mem_cons_of_mem _ (List.mem_cons_of_mem _ (List.mem_cons_of_mem _ (List.mem_cons_of_mem _ (List.mem_cons_of_mem _ (List.mem_cons_of_mem _ (List.mem_cons_of_mem _ (List.mem_cons_of_mem _ (List.mem_cons_of_mem _ (List.mem_cons_of_mem _ (List.mem_cons_of_mem _ (List.mem_cons_of_mem _ List.mem_cons_self)))))))))))))))))))))) (g_BadTable b) (g_BadNumber b)) (allm_cons (exm_entry ((ex1 b).2.2.2.2.1 _ (List.mem_cons_of_mem _ (List.mem_cons_of_mem _ (List.mem_cons_of_mem _ (List.mem_cons_of_mem _ (List.mem_cons_of_mem _ (List.mem_cons_of_mem _ (List.mem_cons_of_mem _ (List.mem_cons_of_mem _ (List.mem_cons_of_mem _ (List.mem_cons_of_mem _ (List.mem_cons_of_mem _ (List.mem_cons_of_mem _ (List.mem_cons_of_mem _ (List.mem_cons_of_mem _ (List.mem_cons_of_mem _ (List.mem_cons_of_mem _ (List.mem_cons_of_mem _ (List.mem_cons_of_mem _ (List.mem_cons_of_mem _ (List.mem_cons_of_mem _ (List.mem_cons_of_mem _ (List.mem_cons_of_mem _ List.mem_cons_self))))))))))))))))))))))) (g_BadTable b) (g_BadLot b)) (allm_cons (exm_entry ((ex1 b).2.2.2.2.1 _ (List.mem_cons_of_mem _ (List.mem_cons_of_mem _ (List.mem_cons_of_mem _ (List.mem_cons_of_mem _ (List.mem_cons_of_mem _ (List.mem_cons_of_mem _ (List.mem_cons_of_mem _ (List.mem_cons_of_mem _ (List.mem_cons_of_mem _ (List.mem_cons_of_mem _ (List.mem_cons_of_mem _ (List.mem_cons_of_mem _ (List.mem_cons_of_mem _ (List.mem_cons_of_mem _ (List.mem_cons_of_mem _ (List.mem_cons_of_mem _ (List.mem_cons_of_mem _ (List.mem_cons_of_mem _ (List.mem_cons_of_mem _ (List.mem_cons_of_mem _ (List.mem_cons_of_mem _ (List.mem_cons_of_mem _ (List.mem_cons_of_mem _ List.mem_cons_self)))))))))))))))))))))))) (g_BadTable b) (g_BadRow b)) (allm_cons (exm_entry ((ex1 b).2.2.2.2.1 _ (List.mem_cons_of_mem _ (List.mem_cons_of_mem _ (List.mem_cons_of_mem _ (List.mem_cons_of_mem _ (List.mem_cons_of_mem _ (List.mem_cons_of_mem _ (List.mem_cons_of_mem _ (List.mem_cons_of_mem _ (List.mem_cons_of_mem _ (List.mem_cons_of_mem _ (List.mem_cons_of_mem _ (List.mem_cons_of_mem _ (List.mem_cons_of_mem _ (List.mem_cons_of_mem _ (List.mem_cons_of_mem _ (List.mem_cons_of_mem _ (List.mem_cons_of_mem _ (List.mem_cons_of_mem _ (List.mem_cons_of_mem _ (List.mem_cons_of_mem _ (List.mem_cons_of_mem _ (List.mem_cons_of_mem _ (List.mem_cons_of_mem _ (List.mem_cons_of_mem _ List.mem_cons_self))))))))))))))))))))))))) (g_BadTable b) (g_BadTable b)) (allm_cons (exm_entry ((ex1 b).2.2.2.2.1 _ (List.mem_cons_of_mem _ (List.mem_cons_of_mem _ (List.mem_cons_of_mem _ (List.mem_cons_of_mem _ (List.mem_cons_of_mem _ (List.mem_cons_of_mem _ (List.mem_cons_of_mem _ (List.mem_cons_of_mem _ (List.mem_cons_of_mem _ (List.mem_cons_of_mem _ (List.mem_cons_of_mem _ (List.mem_cons_of_mem _ (List.mem_cons_of_mem _ (List.mem_cons_of_mem _ (List.mem_cons_of_mem _ (List.mem_cons_of_mem _ (List.mem_cons_of_mem _ (List.mem_cons_of_mem _ (List.mem_cons_of_mem _ (List.mem_cons_of_mem _ (List.mem_cons_of_mem _ (List.mem_cons_of_mem _ (List.mem_cons_of_mem _ (List.mem_cons_of_mem _ (List.mem_cons_of_mem _ List.mem_cons_self)))))))))))))))))))))))))) (g_BadTable b) (g_BadWeb b)) (allm_cons (exm_entry ((ex1 b).2.2.2.2.1 _ (List.mem_cons_of_mem _ (List.mem_cons_of_mem _ (List.mem_cons_of_mem _ (List.mem_cons_of_mem _ (List.mem_cons_of_mem _ (List.mem_cons_of_mem _ (List.mem_cons_of_mem _ (List.mem_cons_of_mem _ (List.mem_cons_of_mem _ (List.mem_cons_of_mem _ (List.mem_cons_of_mem _ (List.mem_cons_of_mem _ (List.mem_cons_of_mem _ (List.mem_cons_of_mem _ (List.mem_cons_of_mem _ (List.mem_cons_of_mem _ (List.mem_cons_of_mem _ (List.mem_cons_of_mem _ (List.mem_cons_of_mem _ (List.mem_cons_of_mem _ (List.mem_cons_of_mem _ (List.mem_cons_of_mem _ (List.mem_cons_of_mem _ (List.mem_cons_of_mem _ (List.mem_cons_of_mem _ (List.mem_cons_of_mem _ List.mem_cons_self))))))))))))))))))))))))))) (g_BadTable b) (g_TooMany b)) (allm_cons (exm_entry ((ex1 b).2.2.2.2.1 _ (List.mem_cons_of_mem _ (List.mem_cons_of_mem _ (List.mem_cons_of_mem _ (List.mem_cons_of_mem _ (List.mem_cons_of_mem _ (List.mem_cons_of_mem _ (List.mem_cons_of_mem _ (List.mem_cons_of_mem _ (List.mem_cons_of_mem _ (List.mem_cons_of_mem _ (List.mem_cons_of_mem _ (List.mem_cons_of_mem _ (List.mem_cons_of_mem _ (List.mem_cons_of_mem _ (List.mem_cons_of_mem _ (List.mem_cons_of_mem _ (List.mem_cons_of_mem _ (List.mem_cons_of_mem _ (List.mem_cons_of_mem _ (List.mem_cons_of_mem _ (List.mem_cons_of_mem _ (List.mem_cons_of_mem _ (List.mem_cons_of_mem _ (List.mem_cons_of_mem _ (List.mem_cons_of_mem _ (List.mem_cons_of_mem _ (List.mem_cons_of_mem _ List.mem_cons_self)))))))))))))))))))))))))))) (g_BadTable b) (g_Unlike b)) (allm_cons (exm_entry ((ex1 b).2.2.2.2.1 _ (List.mem_cons_of_mem _ (List.mem_cons_of_mem _ (List.mem_cons_of_mem _ (List.mem_cons_of_mem _ (List.mem_cons_of_mem _ (List.mem_cons_of_mem _ (List.mem_cons_of_mem _ (List.mem_cons_of_mem _ (List.mem_cons_of_mem _ (List.mem_cons_of_mem _ (List.mem_cons_of_mem _ (List.mem_cons_of_mem _ (List.mem_cons_of_mem _ (List.mem_cons_of_mem _ (List.mem_cons_of_mem _ (List.mem_cons_of_mem _ (List.mem_cons_of_mem _ (List.mem_cons_of_mem _ (List.mem_cons_of_mem _ (List.mem_cons_of_mem _ (List.mem_cons_of_mem _ (List.mem_cons_of_mem _ (List.mem_cons_of_mem _ (List.mem_cons_of_mem _ (List.mem_cons_of_mem _ (List.mem_cons_of_mem _ (List.mem_cons_of_mem _ (List.mem_cons_of_mem _ List.mem_cons_self))))))))))))))))))))))))))))) (g_BadWeb b) (g_BadNumber b)) (allm_cons (exm_entry ((ex1 b).2.2.2.2.1 _ (List.mem_cons_of_mem _ (List.mem_cons_of_mem _ (List.mem_cons_of_mem _ (List.mem_cons_of_mem _ (List.mem_cons_of_mem _ (List.mem_cons_of_mem _ (List.mem_cons_of_mem _ (List.mem_cons_of_mem _ (List.mem_cons_of_mem _ (List.mem_cons_of_mem _ (List.mem_cons_of_mem _ (List.mem_cons_of_mem _ (List.mem_cons_of_mem _ (List.mem_cons_of_mem _ (List.mem_cons_of_mem _ (List.mem_cons_of_mem _ (List.mem_cons_of_mem _ (List.mem_cons_of_mem _ (List.mem_cons_of_mem _ (List.mem_cons_of_mem _ (List.mem_cons_of_mem _ (List.mem_cons_of_mem _ (List.mem_cons_of_mem _ (List.mem_cons_of_mem _ (List.mem_cons_of_mem _ (List.mem_cons_of_mem _ (List.mem_cons_of_mem _ (List.mem_cons_of_mem _ (List.mem_cons_of_mem _ List.mem_cons_self)))))))))))))))))))))))))))))) (g_BadWeb b) (g_BadLot b)) (allm_cons (exm_entry ((ex1 b).2.2.2.2.1 _ (List.mem_cons_of_mem _ (List.mem_cons_of_mem _ (List.mem_cons_of_mem _ (List.mem_cons_of_mem _ (List.mem_cons_of_mem _ (List.mem_cons_of_mem _ (List.mem_cons_of_mem _ (List.mem_cons_of_mem _ (List.mem_cons_of_mem _ (List.mem_cons_of_mem _ (List.mem_cons_of_mem _ (List.mem_cons_of_mem _ (List.mem_cons_of_mem _ (List.mem_cons_of_mem _ (List.mem_cons_of_mem _ (List.mem_cons_of_mem _ (List.mem_cons_of_mem _ (List.mem_cons_of_mem _ (List.mem_cons_of_mem _ (List.mem_cons_of_mem _ (List.mem_cons_of_mem _ (List.mem_cons_of_mem _ (List.mem_cons_of_mem _ (List.mem_cons_of_mem _ (List.mem_cons_of_mem _ (List.mem_cons_of_mem _ (List.mem_cons_of_mem _ (List.mem_cons_of_mem _ (List.mem_cons_of_mem _ (List.mem_cons_of_mem _ List.mem_cons_self))))))))))))))))))))))))))))))) (g_BadWeb b) (g_BadRow b)) (allm_cons (exm_entry ((ex1 b).2.2.2.2.1 _ (List.mem_cons_of_mem _ (List.mem_cons_of_mem _ (List.mem_cons_of_mem _ (List.mem_cons_of_mem _ (List.mem_cons_of_mem _ (List.mem_cons_of_mem _ (List.mem_cons_of_mem _ (List.mem_cons_of_mem _ (List.mem_cons_of_mem _ (List.mem_cons_of_mem _ (List.mem_cons_of_mem _ (List.mem_cons_of_mem _ (List.mem_cons_of_mem _ (List.mem_cons_of_mem _ (List.mem_cons_of_mem _ (List.mem_cons_of_mem _ (List.mem_cons_of_mem _ (List.mem_cons_of_mem _ (List.mem_cons_of_mem _ (List.mem_cons_of_mem _ (List.mem_cons_of_mem _ (List.mem_cons_of_mem _ (List.mem_cons_of_mem _ (List.mem_cons_of_mem _ (List.mem_cons_of_mem _ (List.mem_cons_of_mem _ (List.mem_cons_of_mem _ (List.mem_cons_of_mem _ (List.mem_cons_of_mem _ (List.mem_cons_of_mem _ (List.mem_cons_of_mem _ List.mem_cons_self)))))))))))))))))))))))))))))))) (g_BadWeb b) (g_BadTable b)) (allm_cons (exm_entry ((ex1 b).2.2.2.2.1 _ (List.mem_cons_of_mem _ (List.mem_cons_of_mem _ (List.mem_cons_of_mem _ (List.mem_cons_of_mem _ (List.mem_cons_of_mem _ (List.mem_cons_of_mem _ (List.mem_cons_of_mem _ (List.mem_cons_of_mem _ (List.mem_cons_of_mem _ (List.mem_cons_of_mem _ (List.mem_cons_of_mem _ (List.mem_cons_of_mem _ (List.mem_cons_of_mem _ (List.mem_cons_of_mem _ (List.mem_cons_of_mem _ (List.mem_cons_of_mem _ (List.mem_cons_of_mem _ (List.mem_cons_of_mem _ (List.mem_cons_of_mem _ (List.mem_cons_of_mem _ (List.mem_cons_of_mem _ (List.mem_cons_of_mem _ (List.mem_cons_of_mem _ (List.mem_cons_of_mem _ (List.mem_cons_of_mem _ (List.mem_cons_of_mem _ (List.mem_cons_of_mem _ (List.mem_cons_of_mem _ (List.mem_cons_of_mem _ (List.mem_cons_of_mem _ (List.mem_cons_of_mem _ (List.mem_cons_of_mem _ List.mem_cons_self))))))))))))))))))))))))))))))))) (g_BadWeb b) (g_BadWeb b)) (allm_cons (exm_entry ((ex1 b).2.2.2.2.1 _ (List.mem_cons_of_mem _ (List.mem_cons_of_mem _ (List.mem_cons_of_mem _ (List.mem_cons_of_mem _ (List.mem_cons_of_mem _ (List.mem_cons_of_mem _ (List.mem_cons_of_mem _ (List.mem_cons_of_mem _ (List.mem_cons_of_mem _ (List.mem_cons_of_mem _ (List.mem_cons_of_mem _ (List.mem_cons_of_mem _ (List.mem_cons_of_mem _ (List.mem_cons_of_mem _ (List.mem_cons_of_mem _ (List.mem_cons_of_mem _ (List.mem_cons_of_mem _ (List.mem_cons_of_mem _ (List.mem_cons_of_mem _ (List.mem_cons_of_mem _ (List.mem_cons_of_mem _ (List.mem_cons_of_mem _ (List.mem_cons_of_mem _ (List.mem_cons_of_mem _ (List.mem_cons_of_mem _ (List.mem_cons_of_mem _ (List.mem_cons_of_mem _ (List.mem_cons_of_mem _ (List.mem_cons_of_mem _ (List.mem_cons_of_mem _ (List.mem_cons_of_mem _ (List.mem_cons_of_mem _ (List.mem_cons_of_mem _ List.mem_cons_self)))))))))))))))))))))))))))))))))) (g_BadWeb b) (g_TooMany b)) (allm_cons (exm_entry ((ex1 b).2.2.2.2.1 _ (List.mem_cons_of_mem _ (List.mem_cons_of_mem _ (List.mem_cons_of_mem _ (List.mem_cons_of_mem _ (List.mem_cons_of_mem _ (List.mem_cons_of_mem _ (List.mem_cons_of_mem _ (List.mem_cons_of_mem _ (List.mem_cons_of_mem _ (List.mem_cons_of_mem _ (List.mem_cons_of_mem _ (List.mem_cons_of_mem _ (List.mem_cons_of_mem _ (List.mem_cons_of_mem _ (List.mem_cons_of_mem _ (List.mem_cons_of_mem _ (List.mem_cons_of_mem _ (List.mem_cons_of_mem _ (List.mem_cons_of_mem _ (List.mem_cons_of_mem _ (List.mem_cons_of_mem _ (List.mem_cons_of_mem _ (List.mem_cons_of_mem _ (List.mem_cons_of_mem _ (List.mem_cons_of_mem _ (List.mem_cons_of_mem _ (List.mem_cons_of_mem _ (List.mem_cons_of_mem _ (List.mem_cons_of_mem _ (List.mem_cons_of_mem _ (List.mem_cons_of_mem _ (List.mem_cons_of_mem _ (List.mem_cons_of_mem _ (List.mem_cons_of_mem _ List.mem_cons_self))))))))))))))))))))))))))))))))))) (g_BadWeb b) (g_Unlike b)) (allm_cons (exm_entry ((ex1 b).2.2.2.2.1 _ (List.mem_cons_of_mem _ (List.mem_cons_of_mem _ (List.mem_cons_of_mem _ (List.mem_cons_of_mem _ (List.mem_cons_of_mem _ (List.mem_cons_of_mem _ (List.mem_cons_of_mem _ (List.mem_cons_of_mem _ (List.mem_cons_of_mem _ (List.mem_cons_of_mem _ (List.mem_cons_of_mem _ (List.mem_cons_of_mem _ (List.mem_cons_of_mem _ (List.mem_cons_of_mem _ (List.mem_cons_of_mem _ (List.mem_cons_of_mem _ (List.mem_cons_of_mem _ (List.mem_cons_of_mem _ (List.mem_cons_of_mem _ (List.mem_cons_of_mem _ (List.mem_cons_of_mem _ (List.mem_cons_of_mem _ (List.mem_cons_of_mem _ (List.mem_cons_of_mem _ (List.mem_cons_of_mem _ (List.mem_cons_of_mem _ (List.mem_cons_of_mem _ (List.mem_cons_of_mem _ (List.mem_cons_of_mem _ (List.mem_cons_of_mem _ (List.mem_cons_of_mem _ (List.mem_cons_of_mem _ (List.mem_cons_of_mem _ (List.mem_cons_of_mem _ (List.mem_cons_of_mem _ List.mem_cons_self)))))))))))))))))))))))))))))))))))) (g_Unlike b) (g_BadNumber b)) (allm_cons (exm_entry ((ex1 b).2.2.2.2.1 _ (List.mem_cons_of_mem _ (List.mem_cons_of_mem _ (List.mem_cons_of_mem _ (List.mem_cons_of_mem _ (List.mem_cons_of_mem _ (List.mem_cons_of_mem _ (List.mem_cons_of_mem _ (List.mem_cons_of_mem _ (List.mem_cons_of_mem _ (List.mem_cons_of_mem _ (List.mem_cons_of_mem _ (List.mem_cons_of_mem _ (List.mem_cons_of_mem _ (List.mem_cons_of_mem _ (List.mem_cons_of_mem _ (List.mem_cons_of_mem _ (List.mem_cons_of_mem _ (List.mem_cons_of_mem _ (List.mem_cons_of_mem _ (List.mem_cons_of_mem _ (List.mem_cons_of_mem _ (List.mem_cons_of_mem _ (List.mem_cons_of_mem _ (List.mem_cons_of_mem _ (List.mem_cons_of_mem _ (List.mem_cons_of_mem _ (List.mem_cons_of_mem _ (List.mem_cons_of_mem _ (List.mem_cons_of_mem _ (List.mem_cons_of_mem _ (List.mem_cons_of_mem _ (List.mem_cons_of_mem _ (List.mem_cons_of_mem _ (List.mem_cons_of_mem _ (List.mem_cons_of_mem _ (List.mem_cons_of_mem _ List.mem_cons_self))))))))))))))))))))))))))))))))))))) (g_Unlike b) (g_BadLot b)) (allm_cons (exm_entry ((ex1 b).2.2.2.2.1 _ (List.mem_cons_of_mem _ (List.mem_cons_of_mem _ (List.mem_cons_of_mem _ (List.mem_cons_of_mem _ (List.mem_cons_of_mem _ (List.mem_cons_of_mem _ (List.mem_cons_of_mem _ (List.mem_cons_of_mem _ (List.mem_cons_of_mem _ (List.mem_cons_of_mem _ (List.mem_cons_of_mem _ (List.mem_cons_of_mem _ (List.mem_cons_of_mem _ (List.mem_cons_of_mem _ (List.mem_cons_of_mem _ (List.mem_cons_of_mem _ (List.mem_cons_of_mem _ (List.mem_cons_of_mem _ (List.mem_cons_of_mem _ (List.mem_cons_of_mem _ (List.mem_cons_of_mem _ (List.mem_cons_of_mem _ (List.mem_cons_of_mem _ (List.mem_cons_of_mem _ (List.mem_cons_of_mem _ (List.mem_cons_of_mem _ (List.mem_cons_of_mem _ (List.mem_cons_of_mem _ (List.mem_cons_of_mem _ (List.mem_cons_of_mem _ (List.mem_cons_of_mem _ (List.mem_cons_of_mem _ (List.mem_cons_of_mem _ (List.mem_cons_of_mem _ (List.mem_cons_of_mem _ (List.mem_cons_of_mem _ (List.mem_cons_of_mem _ List.mem_cons_self)))))))))))))))))))))))))))))))))))))) (g_Unlike b) (g_BadRow b)) (allm_cons (exm_entry ((ex1 b).2.2.2.2.1 _ (List.mem_cons_of_mem _ (List.mem_cons_of_mem _ (List.mem_cons_of_mem _ (List.mem_cons_of_mem _ (List.mem_cons_of_mem _ (List.mem_cons_of_mem _ (List.mem_cons_of_mem _ (List.mem_cons_of_mem _ (List.mem_cons_of_mem _ (List.mem_cons_of_mem _ (List.mem_cons_of_mem _ (List.mem_cons_of_mem _ (List.mem_cons_of_mem _ (List.mem_cons_of_mem _ (List.mem_cons_of_mem _ (List.mem_cons_of_mem _ (List.mem_cons_of_mem _ (List.mem_cons_of_mem _ (List.mem_cons_of_mem _ (List.mem_cons_of_mem _ (List.mem_cons_of_mem _ (List.mem_cons_of_mem _ (List.mem_cons_of_mem _ (List.mem_cons_of_mem _ (List.mem_cons_of_mem _ (List.mem_cons_of_mem _ (List.mem_cons_of_mem _ (List.mem_cons_of_mem _ (List.mem_cons_of_mem _ (List.mem_cons_of_mem _ (List.mem_cons_of_mem _ (List.mem_cons_of_mem _ (List.mem_cons_of_mem _ (List.mem_cons_of_mem _ (List.mem_cons_of_mem _ (List.mem_cons_of_mem _ (List.mem_cons_of_mem _ (List.mem_cons_of_mem _ List.mem_cons_self))))))))))))))))))))))))))))))))))))))) (g_Unlike b) (g_BadTable b)) (allm_cons (exm_entry ((ex1 b).2.2.2.2.1 _ (List.mem_cons_of_mem _ (List.mem_cons_of_mem _ (List.mem_cons_of_mem _ (List.mem_cons_of_mem _ (List.mem_cons_of_mem _ (List.mem_cons_of_mem _ (List.mem_cons_of_mem _ (List.mem_cons_of_mem _ (List.mem_cons_of_mem _ (List.mem_cons_of_mem _ (List.mem_cons_of_mem _ (List.mem_cons_of_mem _ (List.mem_cons_of_mem _ (List.mem_cons_of_mem _ (List.mem_cons_of_mem _ (List.mem_cons_of_mem _ (List.mem_cons_of_mem _ (List.mem_cons_of_mem _ (List.mem_cons_of_mem _ (List.mem_cons_of_mem _ (List.mem_cons_of_mem _ (List.mem_cons_of_mem _ (List.mem_cons_of_mem _ (List.mem_cons_of_mem _ (List.mem_cons_of_mem _ (List.mem_cons_of_mem _ (List.mem_cons_of_mem _ (List.mem_cons_of_mem _ (List.mem_cons_of_mem _ (List.mem_cons_of_mem _ (List.mem_cons_of_mem _ (List.mem_cons_of_mem _ (List.mem_cons_of_mem _ (List.mem_cons_of_mem _ (List.mem_cons_of_mem _ (List.mem_cons_of_mem _ (List.mem_cons_of_mem _ (List.mem_cons_of_mem _ (List.mem_cons_of_mem _ List.mem_cons_self)))))))))))))))))))))))))))))))))))))))) (g_Unlike b) (g_BadWeb b)) (allm_cons (exm_entry ((ex1 b).2.2.2.2.1 _ (List.mem_cons_of_mem _ (List.mem_cons_of_mem _ (List.mem_cons_of_mem _ (List.mem_cons_of_mem _ (List.mem_cons_of_mem _ (List.mem_cons_of_mem _ (List.mem_cons_of_mem _ (List.mem_cons_of_mem _ (List.mem_cons_of_mem _ (List.mem_cons_of_mem _ (List.mem_cons_of_mem _ (List.mem_cons_of_mem _ (List.mem_cons_of_mem _ (List.mem_cons_of_mem _ (List.mem_cons_of_mem _ (List.mem_cons_of_mem _ (List.mem_cons_of_mem _ (List.mem_cons_of_mem _ (List.mem_cons_of_mem _ (List.mem_cons_of_mem _ (List.mem_cons_of_mem _ (List.mem_cons_of_mem _ (List.mem_cons_of_mem _ (List.mem_cons_of_mem _ (List.mem_cons_of_mem _ (List.mem_cons_of_mem _ (List.mem_cons_of_mem _ (List.mem_cons_of_mem _ (List.mem_cons_of_mem _ (List.mem_cons_of_mem _ (List.mem_cons_of_mem _ (List.mem_cons_of_mem _ (List.mem_cons_of_mem _ (List.mem_cons_of_mem _ (List.mem_cons_of_mem _ (List.mem_cons_of_mem _ (List.mem_cons_of_mem _ (List.mem_cons_of_mem _ (List.mem_cons_of_mem _ (List.mem_cons_of_mem _ List.mem_cons_self))))))))))))))))))))))))))))))))))))))))) (g_Unlike b) (g_TooMany b)) (allm_cons (exm_entry ((ex1 b).2.2.2.2.1 _ (List.mem_cons_of_mem _ (List.mem_cons_of_mem _ (List.mem_cons_of_mem _ (List.mem_cons_of_mem _ (List.mem_cons_of_mem _ (List.mem_cons_of_mem _ (List.mem_cons_of_mem _ (List.mem_cons_of_mem _ (List.mem_cons_of_mem _ (List.mem_cons_of_mem _ (List.mem_cons_of_mem _ (List.mem_cons_of_mem _ (List.mem_cons_of_mem _ (List.mem_cons_of_mem _ (List.mem_cons_of_mem _ (List.mem_cons_of_mem _ (List.mem_cons_of_mem _ (List.mem_cons_of_mem _ (List.mem_cons_of_mem _ (List.mem_cons_of_mem _ (List.mem_cons_of_mem _ (List.mem_cons_of_mem _ (List.mem_cons_of_mem _ (List.mem_cons_of_mem _ (List.mem_cons_of_mem _ (List.mem_cons_of_mem _ (List.mem_cons_of_mem _ (List.mem_cons_of_mem _ (List.mem_cons_of_mem _ (List.mem_cons_of_mem _ (List.mem_cons_of_mem _ (List.mem_cons_of_mem _ (List.mem_cons_of_mem _ (List.mem_cons_of_mem _ (List.mem_cons_of_mem _ (List.mem_cons_of_mem _ (List.mem_cons_of_mem _ (List.mem_cons_of_mem _ (List.mem_cons_of_mem _ (List.mem_cons_of_mem _ (List.mem_cons_of_mem _ List.mem_cons_self)))))))))))))))))))))))))))))))))))))))))) (g_Unlike b) (g_Unlike b)) (allm_cons (exm_entry ((ex1 b).2.2.2.2.1 _ (List.mem_cons_of_mem _ (List.mem_cons_of_mem _ (List.mem_cons_of_mem _ (List.mem_cons_of_mem _ (List.mem_cons_of_mem _ (List.mem_cons_of_mem _ (List.mem_cons_of_mem _ (List.mem_cons_of_mem _ (List.mem_cons_of_mem _ (List.mem_cons_of_mem _ (List.mem_cons_of_mem _ (List.mem_cons_of_mem _ (List.mem_cons_of_mem _ (List.mem_cons_of_mem _ (List.mem_cons_of_mem _ (List.mem_cons_of_mem _ (List.mem_cons_of_mem _ (List.mem_cons_of_mem _ (List.mem_cons_of_mem _ (List.mem_cons_of_mem _ (List.mem_cons_of_mem _ (List.mem_cons_of_mem _ (List.mem_cons_of_mem _ (List.mem_cons_of_mem _ (List.mem_cons_of_mem _ (List.mem_cons_of_mem _ (List.mem_cons_of_mem _ (List.mem_cons_of_mem _ (List.mem_cons_of_mem _ (List.mem_cons_of_mem _ (List.mem_cons_of_mem _ (List.mem_cons_of_mem _ (List.mem_cons_of_mem _ (List.mem_cons_of_mem _ (List.mem_cons_of_mem _ (List.mem_cons_of_mem _ (List.mem_cons_of_mem _ (List.mem_cons_of_mem _ (List.mem_cons_of_mem _ (List.mem_cons_of_mem _ (List.mem_cons_of_mem _ (List.mem_cons_of_mem _ List.mem_cons_self))))))))))))))))))))))))))))))))))))))))))) (g_TooMany b) (g_BadNumber b)) (allm_cons (exm_entry ((ex1 b).2.2.2.2.1 _ (List.mem_cons_of_mem _ (List.mem_cons_of_mem _ (List.mem_cons_of_mem _ (List.mem_cons_of_mem _ (List.mem_cons_of_mem _ (List.mem_cons_of_mem _ (List.mem_cons_of_mem _ (List.mem_cons_of_mem _ (List.mem_cons_of_mem _ (List.mem_cons_of_mem _ (List.mem_cons_of_mem _ (List.mem_cons_of_mem _ (List.mem_cons_of_mem _ (List.mem_cons_of_mem _ (List.mem_cons_of_mem _ (List.mem_cons_of_mem _ (List.mem_cons_of_mem _ (List.mem_cons_of_mem _ (List.mem_cons_of_mem _ (List.mem_cons_of_mem _ (List.mem_cons_of_mem _ (List.mem_cons_of_mem _ (List.mem_cons_of_mem _ (List.mem_cons_of_mem _ (List.mem_cons_of_mem _ (List.mem_cons_of_mem _ (List.mem_cons_of_mem _ (List.mem_cons_of_mem _ (List.mem_cons_of_mem _ (List.mem_cons_of_mem _ (List.mem_cons_of_mem _ (List.mem_cons_of_mem _ (List.mem_cons_of_mem _ (List.mem_cons_of_mem _ (List.mem_cons_of_mem _ (List.mem_cons_of_mem _ (List.mem_cons_of_mem _ (List.mem_cons_of_mem _ (List.mem_cons_of_mem _ (List.mem_cons_of_mem _ (List.mem_cons_of_mem _ (List.mem_cons_of_mem _ (List.mem_cons_of_mem _ List.mem_cons_self)))))))))))))))))))))))))))))))))))))))))))) (g_TooMany b) (g_BadLot b)) (allm_cons (exm_entry ((ex1 b).2.2.2.2.1 _ (List.mem_cons_of_mem _ (List.mem_cons_of_mem _ (List.mem_cons_of_mem _ (List.mem_cons_of_mem _ (List.mem_cons_of_mem _ (List.mem_cons_of_mem _ (List.mem_cons_of_mem _ (List.mem_cons_of_mem _ (List.mem_cons_of_mem _ (List.mem_cons_of_mem _ (List.mem_cons_of_mem _ (List.mem_cons_of_mem _ (List.mem_cons_of_mem _ (List.mem_cons_of_mem _ (List.mem_cons_of_mem _ (List.mem_cons_of_mem _ (List.mem_cons_of_mem _ (List.mem_cons_of_mem _ (List.mem_cons_of_mem _ (List.mem_cons_of_mem _ (List.mem_cons_of_mem _ (List.mem_cons_of_mem _ (List.mem_cons_of_mem _ (List.mem_cons_of_mem _ (List.mem_cons_of_mem _ (List.mem_cons_of_mem _ (List.mem_cons_of_mem _ (List.mem_cons_of_mem _ (List.mem_cons_of_mem _ (List.mem_cons_of_mem _ (List.mem_cons_of_mem _ (List.mem_cons_of_mem _ (List.mem_cons_of_mem _ (List.mem_cons_of_mem _ (List.mem_cons_of_mem _ (List.mem_cons_of_mem _ (List.mem_cons_of_mem _ (List.mem_cons_of_mem _ (List.mem_cons_of_mem _ (List.mem_cons_of_mem _ (List.mem_cons_of_mem _ (List.mem_cons_of_mem _ (List.mem_cons_of_mem _ (List.mem_cons_of_mem _ List.mem_cons_self))))))))))))))))))))))))))))))))))))))))))))) (g_TooMany b) (g_BadRow b)) (allm_cons (exm_entry ((ex1 b).2.2.2.2.1 _ (List.mem_cons_of_mem _ (List.mem_cons_of_mem _ (List.mem_cons_of_mem _ (List.mem_cons_of_mem _ (List.mem_cons_of_mem _ (List.mem_cons_of_mem _ (List.mem_cons_of_mem _ (List.mem_cons_of_mem _ (List.mem_cons_of_mem _ (List.mem_cons_of_mem _ (List.mem_cons_of_mem _ (List.mem_cons_of_mem _ (List.mem_cons_of_mem _ (List.mem_cons_of_mem _ (List.mem_cons_of_mem _ (List.mem_cons_of_mem _ (List.mem_cons_of_mem _ (List.mem_cons_of_mem _ (List.mem_cons_of_mem _ (List.mem_cons_of_mem _ (List.mem_cons_of_mem _ (List.mem_cons_of_mem _ (List.mem_cons_of_mem _ (List.mem_cons_of_mem _ (List.mem_cons_of_mem _ (List.mem_cons_of_mem _ (List.mem_cons_of_mem _ (List.mem_cons_of_mem _ (List.mem_cons_of_mem _ (List.mem_cons_of_mem _ (List.mem_cons_of_mem _ (List.mem_cons_of_mem _ (List.mem_cons_of_mem _ (List.mem_cons_of_mem _ (List.mem_cons_of_mem _ (List.mem_cons_of_mem _ (List.mem_cons_of_mem _ (List.mem_cons_of_mem _ (List.mem_cons_of_mem _ (List.mem_cons_of_mem _ (List.mem_cons_of_mem _ (List.mem_cons_of_mem _ (List.mem_cons_of_mem _ (List.mem_cons_of_mem _ (List.mem_cons_of_mem _ List.mem_cons_self)))))))))))))))))))))))))))))))))))))))))))))) (g_TooMany b) (g_BadTable b)) (allm_cons (exm_entry ((ex1 b).2.2.2.2.1 _ (List.mem_cons_of_mem _ (List.mem_cons_of_mem _ (List.mem_cons_of_mem _ (List.mem_cons_of_mem _ (List.mem_cons_of_mem _ (List.mem_cons_of_mem _ (List.mem_cons_of_mem _ (List.mem_cons_of_mem _ (List.mem_cons_of_mem _ (List.mem_cons_of_mem _ (List.mem_cons_of_mem _ (List.mem_cons_of_mem _ (List.mem_cons_of_mem _ (List.mem_cons_of_mem _ (List.mem_cons_of_mem _ (List.mem_cons_of_mem _ (List.mem_cons_of_mem _ (List.mem_cons_of_mem _ (List.mem_cons_of_mem _ (List.mem_cons_of_mem _ (List.mem_cons_of_mem _ (List.mem_cons_of_mem _ (List.mem_cons_of_mem _ (List.mem_cons_of_mem _ (List.mem_cons_of_mem _ (List.mem_cons_of_mem _ (List.mem_cons_of_mem _ (List.mem_cons_of_mem _ (List.mem_cons_of_mem _ (List.mem_cons_of_mem _ (List.mem_cons_of_mem _ (List.mem_cons_of_mem _ (List.mem_cons_of_mem _ (List.mem_cons_of_mem _ (List.mem_cons_of_mem _ (List.mem_cons_of_mem _ (List.mem_cons_of_mem _ (List.mem_cons_of_mem _ (List.mem_cons_of_mem _ (List.mem_cons_of_mem _ (List.mem_cons_of_mem _ (List.mem_cons_of_mem _ (List.mem_cons_of_mem _ (List.mem_cons_of_mem _ (List.mem_cons_of_mem _ (List.mem_cons_of_mem _ List.mem_cons_self))))))))))))))))))))))))))))))))))))))))))))))) (g_TooMany b) (g_BadWeb b)) (allm_cons (exm_entry ((ex1 b).2.2.2.2.1 _ (List.mem_cons_of_mem _ (List.mem_cons_of_mem _ (List.mem_cons_of_mem _ (List.mem_cons_of_mem _ (List.mem_cons_of_mem _ (List.mem_cons_of_mem _ (List.mem_cons_of_mem _ (List.mem_cons_of_mem _ (List.mem_cons_of_mem _ (List.mem_cons_of_mem _ (List.mem_cons_of_mem _ (List.mem_cons_of_mem _ (List.mem_cons_of_mem _ (List.mem_cons_of_mem _ (List.mem_cons_of_mem _ (List.mem_cons_of_mem _ (List.mem_cons_of_mem _ (List.mem_cons_of_mem _ (List.mem_cons_of_mem _ (List.mem_cons_of_mem _ (List.mem_cons_of_mem _ (List.mem_cons_of_mem _ (List.mem_cons_of_mem _ (List.mem_cons_of_mem _ (List.mem_cons_of_mem _ (List.mem_cons_of_mem _ (List.mem_cons_of_mem _ (List.mem_cons_of_mem _ (List.mem_cons_of_mem _ (List.mem_cons_of_mem _ (List.mem_cons_of_mem _ (List.mem_cons_of_mem _ (List.mem_cons_of_mem _ (List.mem_cons_of_mem _ (List.mem_cons_of_mem _ (List.mem_cons_of_mem _ (List.mem_cons_of_mem _ (List.mem_cons_of_mem _ (List.mem_cons_of_mem _ (List.mem_cons_of_mem _ (List.mem_cons_of_mem _ (List.mem_cons_of_mem _ (List.mem_cons_of_mem _ (List.mem_cons_of_mem _ (List.mem_cons_of_mem _ (List.mem_cons_of_mem _ (List.mem_cons_of_mem _ List.mem_cons_self)))))))))))))))))))))))))))))))))))))))))))))))) (g_TooMany b) (g_TooMany b)) (allm_cons (exm_entry ((ex1 b).2.2.2.2.1 _ (List.mem_cons_of_mem _ (List.mem_cons_of_mem _ (List.mem_cons_of_mem _ (List.mem_cons_of_mem _ (List.mem_cons_of_mem _ (List.mem_cons_of_mem _ (List.mem_cons_of_mem _ (List.mem_cons_of_mem _ (List.mem_cons_of_mem _ (List.mem_cons_of_mem _ (List.mem_cons_of_mem _ (List.mem_cons_of_mem _ (List.mem_cons_of_mem _ (List.mem_cons_of_mem _ (List.mem_cons_of_mem _ (List.mem_cons_of_mem _ (List.mem_cons_of_mem _ (List.mem_cons_of_mem _ (List.mem_cons_of_mem _ (List.mem_cons_of_mem _ (List.mem_cons_of_mem _ (List.mem_cons_of_mem _ (List.mem_cons_of_mem _ (List.mem_cons_of_mem _ (List.mem_cons_of_mem _ (List.mem_cons_of_mem _ (List.mem_cons_of_mem _ (List.mem_cons_of_mem _ (List.mem_cons_of_mem _ (List.mem_cons_of_mem _ (List.mem_cons_of_mem _ (List.mem_cons_of_mem _ (List.mem_cons_of_mem _ (List.mem_cons_of_mem _ (List.mem_cons_of_mem _ (List.mem_cons_of_mem _ (List.mem_cons_of_mem _ (List.mem_cons_of_mem _ (List.mem_cons_of_mem _ (List.mem_cons_of_mem _ (List.mem_cons_of_mem _ (List.mem_cons_of_mem _ (List.mem_cons_of_mem _ (List.mem_cons_of_mem _ (List.mem_cons_of_mem _ (List.mem_cons_of_mem _ (List.mem_cons_of_mem _ (List.mem_cons_of_mem _ List.mem_cons_self))))))))))))))))))))))))))))))))))))))))))))))))) (g_TooMany b) (g_Unlike b)) (allm_nil)))))))))))))))))))))))))))))))))))))))))))))))))
theorem subok (b : Base C base) : ∀ q ∈ (cls.map fun c => ((c, c), true)), ∃ cl cl', C.mg q.1.1 = some (.ref cl) ∧ C.mg q.1.2 = some (.ref cl') ∧ PySem.W.kitOne C.K (.ref cl) (.ref cl') = some q.2 := fun q hq => by
  obtain ⟨c, h1, h2⟩ := List.mem_map.mp hq
  subst h2
  obtain ⟨cl, o, _⟩ := clsok b c h1
  exact ⟨cl, cl, o.1, o.1, by unfold PySem.W.kitOne; rw [if_pos (by simp)]⟩
def T0 : Tb := { con := cons, cls := cls, sub := cls.map fun c => ((c, c), true), fld := flds, idn := idns, errs := errs, exm := exms }
theorem ok0 (b : Base C base) : TbOk P w C base 1 T0 :=
  { fn := allm_nil, con := conok b, ini := allm_nil, kw := allm_nil, cls := clsok b, idn := idnok b, sub := subok b, isT := allm_nil, fld := fldok b, meth := allm_nil, errs := errok b, exm := exmok b, act := act_no fun _ => rfl, lv := Nat.le_refl _, free := frees b, sys := sysb b }
def e_Access_eq : Den := denOf T0.gx p_Access_eq.length n_Access_eq.length m_Access_eq
theorem M_Access_eq (b : Base C base) (ok : TbOk P w C base 1 T0) : MethOk P w C base 3 "Access" "__eq__" e_Access_eq := by
  obtain ⟨fd, F⟩ := F_Access_eq b
  exact meth_entry (g_Access b) (He.cls_ok ((b.2.2 pt1 hp1).d.fact 9 rfl)) (He.meth_ok ((b.2.2 pt1 hp1).d.fact 13 rfl)) ((ex1 b).2.1 _ List.mem_cons_self) F c_Access_eq (by decide) (F.bindsN fun _ _ _ _ _ _ us hl => match us, hl with | [_, _], _ => rfl) (gxok ok) k_Access_eq
def T1 : Tb := { T0 with fn :=  T0.fn, ini :=  T0.ini, meth := (("Access", "__eq__"), e_Access_eq) :: T0.meth }
theorem ok1 (b : Base C base) (ok : TbOk P w C base 1 T0) : TbOk P w C base 3 T1 :=
  { fn := fun q hq => (ok.fn q hq).mono (by decide), con := ok.con, ini := fun q hq => ini_mono (by decide) (ok.ini q hq), kw := fun q hq => kw_mono (by decide) (ok.kw q hq), cls := ok.cls, idn := ok.idn, sub := ok.sub, isT := ok.isT, fld := ok.fld, meth := allm_cons (M_Access_eq b ok) (fun q hq => meth_mono (by decide) (ok.meth q hq)), errs := ok.errs, exm := ok.exm, act := act_no fun _ => rfl, lv := by decide, free := ok.free, sys := ok.sys }
def e_Access_ne : Den := denOf T1.gx p_Access_ne.length n_Access_ne.length m_Access_ne
theorem M_Access_ne (b : Base C base) (ok : TbOk P w C base 3 T1) : MethOk P w C base 5 "Access" "__ne__" e_Access_ne := by
  obtain ⟨fd, F⟩ := F_Access_ne b
  exact meth_entry (g_Access b) (He.cls_ok ((b.2.2 pt1 hp1).d.fact 9 rfl)) (He.meth_ok ((b.2.2 pt1 hp1).d.fact 14 rfl)) ((ex1 b).2.1 _ List.mem_cons_self) F c_Access_ne (by decide) (F.bindsN fun _ _ _ _ _ _ us hl => match us, hl with | [_, _], _ => rfl) (gxok ok) k_Access_ne
def T2 : Tb := { T1 with fn :=  T1.fn, ini :=  T1.ini, meth := (("Access", "__ne__"), e_Access_ne) :: T1.meth }
theorem ok2 (b : Base C base) (ok : TbOk P w C base 3 T1) : TbOk P w C base 5 T2 :=
  { fn := fun q hq => (ok.fn q hq).mono (by decide), con := ok.con, ini := fun q hq => ini_mono (by decide) (ok.ini q hq), kw := fun q hq => kw_mono (by decide) (ok.kw q hq), cls := ok.cls, idn := ok.idn, sub := ok.sub, isT := ok.isT, fld := ok.fld, meth := allm_cons (M_Access_ne b ok) (fun q hq => meth_mono (by decide) (ok.meth q hq)), errs := ok.errs, exm := ok.exm, act := act_no fun _ => rfl, lv := by decide, free := ok.free, sys := ok.sys }
def e_is_whole : Den := denOf T2.gx p_is_whole.length n_is_whole.length m_is_whole
theorem D_is_whole (b : Base C base) (ok : TbOk P w C base 5 T2) : DefOk P w C base 7 "is_whole" e_is_whole := by
  obtain ⟨fd, F⟩ := F_is_whole b
  exact def_ok F c_is_whole (by decide) (g_is_whole b) (F.bindsN fun _ _ _ _ _ _ us hl => match us, hl with | [_], _ => rfl) (gxok ok) k_is_whole
def e_in_tuples_1 : Den := denOf T2.gx p_in_tuples.length n_in_tuples.length m_in_tuples
theorem D_in_tuples_1 (b : Base C base) (ok : TbOk P w C base 5 T2) : DefOk P w C base 7 "in_tuples" e_in_tuples_1 := by
  obtain ⟨fd, F⟩ := F_in_tuples b
  exact def_ok F c_in_tuples (by decide) (g_in_tuples b) (F.bindsN fun _ _ _ _ _ _ us hl => match us, hl with | [_], _ => rfl) (gxok ok) k_in_tuples
def e_bits_of : Den := denOf T2.gx p_bits_of.length n_bits_of.length m_bits_of
theorem D_bits_of (b : Base C base) (ok : TbOk P w C base 5 T2) : DefOk P w C base 7 "bits_of" e_bits_of := by
  obtain ⟨fd, F⟩ := F_bits_of b
  exact def_ok F c_bits_of (by decide) (g_bits_of b) (F.bindsN fun _ _ _ _ _ _ us hl => match us, hl with | [_], _ => rfl) (gxok ok) k_bits_of
def e_of_bits : Den := denOf T2.gx p_of_bits.length n_of_bits.length m_of_bits
theorem D_of_bits (b : Base C base) (ok : TbOk P w C base 5 T2) : DefOk P w C base 7 "of_bits" e_of_bits := by
  obtain ⟨fd, F⟩ := F_of_bits b
  exact def_ok F c_of_bits (by decide) (g_of_bits b) (F.bindsN fun _ _ _ _ _ _ us hl => match us, hl with | [_], _ => rfl) (gxok ok) k_of_bits
def e_holds_another : Den := denOf T2.gx p_holds_another.length n_holds_another.length m_holds_another
theorem D_holds_another (b : Base C base) (ok : TbOk P w C base 5 T2) : DefOk P w C base 7 "holds_another" e_holds_another := by
  obtain ⟨fd, F⟩ := F_holds_another b
  exact def_ok F c_holds_another (by decide) (g_holds_another b) (F.bindsN fun _ _ _ _ _ _ us hl => match us, hl with | [_, _], _ => rfl) (gxok ok) k_holds_another
def e_need_access : Den := denOf T2.gx p_need_access.length n_need_access.length m_need_access
theorem D_need_access (b : Base C base) (ok : TbOk P w C base 5 T2) : DefOk P w C base 7 "need_access" e_need_access := by
  obtain ⟨fd, F⟩ := F_need_access b
  exact def_ok F c_need_access (by decide) (g_need_access b) (F.bindsN fun _ _ _ _ _ _ us hl => match us, hl with | [_], _ => rfl) (gxok ok) k_need_access
def e_share_numbers : Den := denOf T2.gx p_share_numbers.length n_share_numbers.length m_share_numbers
theorem D_share_numbers (b : Base C base) (ok : TbOk P w C base 5 T2) : DefOk P w C base 7 "share_numbers" e_share_numbers := by
  obtain ⟨fd, F⟩ := F_share_numbers b
  exact def_ok F c_share_numbers (by decide) (g_share_numbers b) (F.bindsN fun _ _ _ _ _ _ us hl => match us, hl with | [_], _ => rfl) (gxok ok) k_share_numbers
def e__law_draw : Den := denOf T2.gx p__law_draw.length n__law_draw.length m__law_draw
theorem D__law_draw (b : Base C base) (ok : TbOk P w C base 5 T2) : DefOk P w C base 7 "_law_draw" e__law_draw := by
  obtain ⟨fd, F⟩ := F__law_draw b
  exact def_ok F c__law_draw (by decide) (g__law_draw b) (F.bindsN fun _ _ _ _ _ _ us hl => match us, hl with | [_, _], _ => rfl) (gxok ok) k__law_draw
def e__law_lot : Den := denOf T2.gx p__law_lot.length n__law_lot.length m__law_lot
theorem D__law_lot (b : Base C base) (ok : TbOk P w C base 5 T2) : DefOk P w C base 7 "_law_lot" e__law_lot := by
  obtain ⟨fd, F⟩ := F__law_lot b
  exact def_ok F c__law_lot (by decide) (g__law_lot b) (F.bindsN fun _ _ _ _ _ _ us hl => match us, hl with | [_], _ => rfl) (gxok ok) k__law_lot
def e__law_bits : Den := denOf T2.gx p__law_bits.length n__law_bits.length m__law_bits
theorem D__law_bits (b : Base C base) (ok : TbOk P w C base 5 T2) : DefOk P w C base 7 "_law_bits" e__law_bits := by
  obtain ⟨fd, F⟩ := F__law_bits b
  exact def_ok F c__law_bits (by decide) (g__law_bits b) (F.bindsN fun _ _ _ _ _ _ us hl => match us, hl with | [_], _ => rfl) (gxok ok) k__law_bits
def T3 : Tb := { T2 with fn := ("is_whole", e_is_whole) :: ("in_tuples", e_in_tuples_1) :: ("bits_of", e_bits_of) :: ("of_bits", e_of_bits) :: ("holds_another", e_holds_another) :: ("need_access", e_need_access) :: ("share_numbers", e_share_numbers) :: ("_law_draw", e__law_draw) :: ("_law_lot", e__law_lot) :: ("_law_bits", e__law_bits) :: T2.fn, ini :=  T2.ini, meth :=  T2.meth }
theorem ok3 (b : Base C base) (ok : TbOk P w C base 5 T2) : TbOk P w C base 7 T3 :=
  { fn := allm_cons (D_is_whole b ok) (allm_cons (D_in_tuples_1 b ok) (allm_cons (D_bits_of b ok) (allm_cons (D_of_bits b ok) (allm_cons (D_holds_another b ok) (allm_cons (D_need_access b ok) (allm_cons (D_share_numbers b ok) (allm_cons (D__law_draw b ok) (allm_cons (D__law_lot b ok) (allm_cons (D__law_bits b ok) (fun q hq => (ok.fn q hq).mono (by decide))))))))))), con := ok.con, ini := fun q hq => ini_mono (by decide) (ok.ini q hq), kw := fun q hq => kw_mono (by decide) (ok.kw q hq), cls := ok.cls, idn := ok.idn, sub := ok.sub, isT := ok.isT, fld := ok.fld, meth := fun q hq => meth_mono (by decide) (ok.meth q hq), errs := ok.errs, exm := ok.exm, act := act_no fun _ => rfl, lv := by decide, free := ok.free, sys := ok.sys }
def e_in_tuples_2 : Den := denOf T3.gx p_in_tuples.length n_in_tuples.length m_in_tuples
theorem D_in_tuples_2 (b : Base C base) (ok : TbOk P w C base 7 T3) : DefOk P w C base 9 "in_tuples" e_in_tuples_2 := by
  obtain ⟨fd, F⟩ := F_in_tuples b
  exact def_ok F c_in_tuples (by decide) (g_in_tuples b) (F.bindsN fun _ _ _ _ _ _ us hl => match us, hl with | [_], _ => rfl) (gxok ok) k_in_tuples
def e_need_between : Den := denOf T3.gx p_need_between.length n_need_between.length m_need_between
theorem D_need_between (b : Base C base) (ok : TbOk P w C base 7 T3) : DefOk P w C base 9 "need_between" e_need_between := by
  obtain ⟨fd, F⟩ := F_need_between b
  exact def_ok F c_need_between (by decide) (g_need_between b) (F.bindsN fun _ _ _ _ _ _ us hl => match us, hl with | [_, _, _, _], _ => rfl) (gxok ok) k_need_between
def e_is_share_lot : Den := denOf T3.gx p_is_share_lot.length n_is_share_lot.length m_is_share_lot
theorem D_is_share_lot (b : Base C base) (ok : TbOk P w C base 7 T3) : DefOk P w C base 9 "is_share_lot" e_is_share_lot := by
  obtain ⟨fd, F⟩ := F_is_share_lot b
  exact def_ok F c_is_share_lot (by decide) (g_is_share_lot b) (F.bindsN fun _ _ _ _ _ _ us hl => match us, hl with | [_, _], _ => rfl) (gxok ok) k_is_share_lot
def e_knows : Den := denOf T3.gx p_knows.length n_knows.length m_knows
theorem D_knows (b : Base C base) (ok : TbOk P w C base 7 T3) : DefOk P w C base 9 "knows" e_knows := by
  obtain ⟨fd, F⟩ := F_knows b
  exact def_ok F c_knows (by decide) (g_knows b) (F.bindsN fun _ _ _ _ _ _ us hl => match us, hl with | [_, _], _ => rfl) (gxok ok) k_knows
def e__law_pick : Den := denOf T3.gx p__law_pick.length n__law_pick.length m__law_pick
theorem D__law_pick (b : Base C base) (ok : TbOk P w C base 7 T3) : DefOk P w C base 9 "_law_pick" e__law_pick := by
  obtain ⟨fd, F⟩ := F__law_pick b
  exact def_ok F c__law_pick (by decide) (g__law_pick b) (F.bindsN fun _ _ _ _ _ _ us hl => match us, hl with | [_, _], _ => rfl) (gxok ok) k__law_pick
def e__law_shuffled : Den := denOf T3.gx p__law_shuffled.length n__law_shuffled.length m__law_shuffled
theorem D__law_shuffled (b : Base C base) (ok : TbOk P w C base 7 T3) : DefOk P w C base 9 "_law_shuffled" e__law_shuffled := by
  obtain ⟨fd, F⟩ := F__law_shuffled b
  exact def_ok F c__law_shuffled (by decide) (g__law_shuffled b) (F.bindsN fun _ _ _ _ _ _ us hl => match us, hl with | [_, _], _ => rfl) (gxok ok) k__law_shuffled
def e__law_lists : Den := denOf T3.gx p__law_lists.length n__law_lists.length m__law_lists
theorem D__law_lists (b : Base C base) (ok : TbOk P w C base 7 T3) : DefOk P w C base 9 "_law_lists" e__law_lists := by
  obtain ⟨fd, F⟩ := F__law_lists b
  exact def_ok F c__law_lists (by decide) (g__law_lists b) (F.bindsN fun _ _ _ _ _ _ us hl => match us, hl with | [_, _], _ => rfl) (gxok ok) k__law_lists
def e__law_knows : Den := denOf T3.gx p__law_knows.length n__law_knows.length m__law_knows
theorem D__law_knows (b : Base C base) (ok : TbOk P w C base 7 T3) : DefOk P w C base 9 "_law_knows" e__law_knows := by
  obtain ⟨fd, F⟩ := F__law_knows b
  exact def_ok F c__law_knows (by decide) (g__law_knows b) (F.bindsN fun _ _ _ _ _ _ us hl => match us, hl with | [_, _], _ => rfl) (gxok ok) k__law_knows
def e__law_least : Den := denOf T3.gx p__law_least.length n__law_least.length m__law_least
theorem D__law_least (b : Base C base) (ok : TbOk P w C base 7 T3) : DefOk P w C base 9 "_law_least" e__law_least := by
  obtain ⟨fd, F⟩ := F__law_least b
  exact def_ok F c__law_least (by decide) (g__law_least b) (F.bindsN fun _ _ _ _ _ _ us hl => match us, hl with | [_], _ => rfl) (gxok ok) k__law_least
def e__law_all : Den := denOf T3.gx p__law_all.length n__law_all.length m__law_all
theorem D__law_all (b : Base C base) (ok : TbOk P w C base 7 T3) : DefOk P w C base 9 "_law_all" e__law_all := by
  obtain ⟨fd, F⟩ := F__law_all b
  exact def_ok F c__law_all (by decide) (g__law_all b) (F.bindsN fun _ _ _ _ _ _ us hl => match us, hl with | [_], _ => rfl) (gxok ok) k__law_all
def T4 : Tb := { T3 with fn := ("in_tuples", e_in_tuples_2) :: ("need_between", e_need_between) :: ("is_share_lot", e_is_share_lot) :: ("knows", e_knows) :: ("_law_pick", e__law_pick) :: ("_law_shuffled", e__law_shuffled) :: ("_law_lists", e__law_lists) :: ("_law_knows", e__law_knows) :: ("_law_least", e__law_least) :: ("_law_all", e__law_all) :: T3.fn, ini :=  T3.ini, meth :=  T3.meth }
theorem ok4 (b : Base C base) (ok : TbOk P w C base 7 T3) : TbOk P w C base 9 T4 :=
  { fn := allm_cons (D_in_tuples_2 b ok) (allm_cons (D_need_between b ok) (allm_cons (D_is_share_lot b ok) (allm_cons (D_knows b ok) (allm_cons (D__law_pick b ok) (allm_cons (D__law_shuffled b ok) (allm_cons (D__law_lists b ok) (allm_cons (D__law_knows b ok) (allm_cons (D__law_least b ok) (allm_cons (D__law_all b ok) (fun q hq => (ok.fn q hq).mono (by decide))))))))))), con := ok.con, ini := fun q hq => ini_mono (by decide) (ok.ini q hq), kw := fun q hq => kw_mono (by decide) (ok.kw q hq), cls := ok.cls, idn := ok.idn, sub := ok.sub, isT := ok.isT, fld := ok.fld, meth := fun q hq => meth_mono (by decide) (ok.meth q hq), errs := ok.errs, exm := ok.exm, act := act_no fun _ => rfl, lv := by decide, free := ok.free, sys := ok.sys }
def e_in_tuples : Den := denOf T4.gx p_in_tuples.length n_in_tuples.length m_in_tuples
theorem D_in_tuples (b : Base C base) (ok : TbOk P w C base 9 T4) : DefOk P w C base 11 "in_tuples" e_in_tuples := by
  obtain ⟨fd, F⟩ := F_in_tuples b
  exact def_ok F c_in_tuples (by decide) (g_in_tuples b) (F.bindsN fun _ _ _ _ _ _ us hl => match us, hl with | [_], _ => rfl) (gxok ok) k_in_tuples
def e_knowing : Den := denOf T4.gx p_knowing.length n_knowing.length m_knowing
theorem D_knowing (b : Base C base) (ok : TbOk P w C base 9 T4) : DefOk P w C base 11 "knowing" e_knowing := by
  obtain ⟨fd, F⟩ := F_knowing b
  exact def_ok F c_knowing (by decide) (g_knowing b) (F.bindsN fun _ _ _ _ _ _ us hl => match us, hl with | [_], _ => rfl) (gxok ok) k_knowing
def e__law_access : Den := denOf T4.gx p__law_access.length n__law_access.length m__law_access
theorem D__law_access (b : Base C base) (ok : TbOk P w C base 9 T4) : DefOk P w C base 11 "_law_access" e__law_access := by
  obtain ⟨fd, F⟩ := F__law_access b
  exact def_ok F c__law_access (by decide) (g__law_access b) (F.bindsN fun _ _ _ _ _ _ us hl => match us, hl with | [_, _], _ => rfl) (gxok ok) k__law_access
def T5 : Tb := { T4 with fn := ("in_tuples", e_in_tuples) :: ("knowing", e_knowing) :: ("_law_access", e__law_access) :: T4.fn, ini :=  T4.ini, meth :=  T4.meth }
theorem ok5 (b : Base C base) (ok : TbOk P w C base 9 T4) : TbOk P w C base 11 T5 :=
  { fn := allm_cons (D_in_tuples b ok) (allm_cons (D_knowing b ok) (allm_cons (D__law_access b ok) (fun q hq => (ok.fn q hq).mono (by decide)))), con := ok.con, ini := fun q hq => ini_mono (by decide) (ok.ini q hq), kw := fun q hq => kw_mono (by decide) (ok.kw q hq), cls := ok.cls, idn := ok.idn, sub := ok.sub, isT := ok.isT, fld := ok.fld, meth := fun q hq => meth_mono (by decide) (ok.meth q hq), errs := ok.errs, exm := ok.exm, act := act_no fun _ => rfl, lv := by decide, free := ok.free, sys := ok.sys }
def e_share_lot_from : Den := denOf T5.gx p_share_lot_from.length n_share_lot_from.length m_share_lot_from
theorem D_share_lot_from (b : Base C base) (ok : TbOk P w C base 11 T5) : DefOk P w C base 13 "share_lot_from" e_share_lot_from := by
  obtain ⟨fd, F⟩ := F_share_lot_from b
  exact def_ok F c_share_lot_from (by decide) (g_share_lot_from b) (F.bindsN fun _ _ _ _ _ _ us hl => match us, hl with | [_, _], _ => rfl) (gxok ok) k_share_lot_from
def i_Access : Ini := iniOf T5.gx "Access" p_Access_init.length n_Access_init.length m_Access_init
theorem I_Access (b : Base C base) (ok : TbOk P w C base 11 T5) : ∃ cl fI fd ps, C.mg "Access" = some (.ref cl) ∧ Mk C.K cl fI ∧ FnG P w C base 13 fI fd ps (spIni C "Access" i_Access) ∧ Binds C.K fd ps [] := by
  obtain ⟨fd, F⟩ := F_Access_init b
  exact ⟨_, _, fd, p_Access_init, g_Access b, He.mkr_ok ((b.2.2 pt1 hp1).d.fact 10 rfl), fnG_ini F c_Access_init (by decide) (gxok ok) k_Access_init, F.bindsN fun _ _ _ _ _ _ us hl => match us, hl with | [_, _, _], _ => rfl⟩
def T6 : Tb := { T5 with fn := ("share_lot_from", e_share_lot_from) :: T5.fn, ini := ("Access", i_Access) :: T5.ini, meth :=  T5.meth }
theorem ok6 (b : Base C base) (ok : TbOk P w C base 11 T5) : TbOk P w C base 13 T6 :=
  { fn := allm_cons (D_share_lot_from b ok) (fun q hq => (ok.fn q hq).mono (by decide)), con := ok.con, ini := allm_cons (I_Access b ok) (fun q hq => ini_mono (by decide) (ok.ini q hq)), kw := fun q hq => kw_mono (by decide) (ok.kw q hq), cls := ok.cls, idn := ok.idn, sub := ok.sub, isT := ok.isT, fld := ok.fld, meth := fun q hq => meth_mono (by decide) (ok.meth q hq), errs := ok.errs, exm := ok.exm, act := act_no fun _ => rfl, lv := by decide, free := ok.free, sys := ok.sys }
def e_may_know : Den := denOf T6.gx p_may_know.length n_may_know.length m_may_know
theorem D_may_know (b : Base C base) (ok : TbOk P w C base 13 T6) : DefOk P w C base 15 "may_know" e_may_know := by
  obtain ⟨fd, F⟩ := F_may_know b
  exact def_ok F c_may_know (by decide) (g_may_know b) (F.bindsN fun _ _ _ _ _ _ us hl => match us, hl with | [_, _], _ => rfl) (gxok ok) k_may_know
def e_least_of : Den := denOf T6.gx p_least_of.length n_least_of.length m_least_of
theorem D_least_of (b : Base C base) (ok : TbOk P w C base 13 T6) : DefOk P w C base 15 "least_of" e_least_of := by
  obtain ⟨fd, F⟩ := F_least_of b
  exact def_ok F c_least_of (by decide) (g_least_of b) (F.bindsN fun _ _ _ _ _ _ us hl => match us, hl with | [_, _], _ => rfl) (gxok ok) k_least_of
def e_accesses : Den := denOf T6.gx p_accesses.length n_accesses.length m_accesses
theorem D_accesses (b : Base C base) (ok : TbOk P w C base 13 T6) : DefOk P w C base 15 "accesses" e_accesses := by
  obtain ⟨fd, F⟩ := F_accesses b
  exact def_ok F c_accesses (by decide) (g_accesses b) (F.bindsN fun _ _ _ _ _ _ us hl => match us, hl with | [_], _ => rfl) (gxok ok) k_accesses
def T7 : Tb := { T6 with fn := ("may_know", e_may_know) :: ("least_of", e_least_of) :: ("accesses", e_accesses) :: T6.fn, ini :=  T6.ini, meth :=  T6.meth }
theorem ok7 (b : Base C base) (ok : TbOk P w C base 13 T6) : TbOk P w C base 15 T7 :=
  { fn := allm_cons (D_may_know b ok) (allm_cons (D_least_of b ok) (allm_cons (D_accesses b ok) (fun q hq => (ok.fn q hq).mono (by decide)))), con := ok.con, ini := fun q hq => ini_mono (by decide) (ok.ini q hq), kw := fun q hq => kw_mono (by decide) (ok.kw q hq), cls := ok.cls, idn := ok.idn, sub := ok.sub, isT := ok.isT, fld := ok.fld, meth := fun q hq => meth_mono (by decide) (ok.meth q hq), errs := ok.errs, exm := ok.exm, act := act_no fun _ => rfl, lv := by decide, free := ok.free, sys := ok.sys }
def e_turned_access : Den := denOf T7.gx p_turned_access.length n_turned_access.length m_turned_access
theorem D_turned_access (b : Base C base) (ok : TbOk P w C base 15 T7) : DefOk P w C base 17 "turned_access" e_turned_access := by
  obtain ⟨fd, F⟩ := F_turned_access b
  exact def_ok F c_turned_access (by decide) (g_turned_access b) (F.bindsN fun _ _ _ _ _ _ us hl => match us, hl with | [_], _ => rfl) (gxok ok) k_turned_access
def T8 : Tb := { T7 with fn := ("turned_access", e_turned_access) :: T7.fn, ini :=  T7.ini, meth :=  T7.meth }
theorem ok8 (b : Base C base) (ok : TbOk P w C base 15 T7) : TbOk P w C base 17 T8 :=
  { fn := allm_cons (D_turned_access b ok) (fun q hq => (ok.fn q hq).mono (by decide)), con := ok.con, ini := fun q hq => ini_mono (by decide) (ok.ini q hq), kw := fun q hq => kw_mono (by decide) (ok.kw q hq), cls := ok.cls, idn := ok.idn, sub := ok.sub, isT := ok.isT, fld := ok.fld, meth := fun q hq => meth_mono (by decide) (ok.meth q hq), errs := ok.errs, exm := ok.exm, act := act_no fun _ => rfl, lv := by decide, free := ok.free, sys := ok.sys }
def e__law_case : Den := denOf T8.gx p__law_case.length n__law_case.length m__law_case
theorem D__law_case (b : Base C base) (ok : TbOk P w C base 17 T8) : DefOk P w C base 19 "_law_case" e__law_case := by
  obtain ⟨fd, F⟩ := F__law_case b
  exact def_ok F c__law_case (by decide) (g__law_case b) (F.bindsN fun _ _ _ _ _ _ us hl => match us, hl with | [_], _ => rfl) (gxok ok) k__law_case
def T9 : Tb := { T8 with fn := ("_law_case", e__law_case) :: T8.fn, ini :=  T8.ini, meth :=  T8.meth }
theorem ok9 (b : Base C base) (ok : TbOk P w C base 17 T8) : TbOk P w C base 19 T9 :=
  { fn := allm_cons (D__law_case b ok) (fun q hq => (ok.fn q hq).mono (by decide)), con := ok.con, ini := fun q hq => ini_mono (by decide) (ok.ini q hq), kw := fun q hq => kw_mono (by decide) (ok.kw q hq), cls := ok.cls, idn := ok.idn, sub := ok.sub, isT := ok.isT, fld := ok.fld, meth := fun q hq => meth_mono (by decide) (ok.meth q hq), errs := ok.errs, exm := ok.exm, act := act_no fun _ => rfl, lv := by decide, free := ok.free, sys := ok.sys }
theorem okE (b : Base C base) : TbOk P w C base 19 T9 := ok9 b (ok8 b (ok7 b (ok6 b (ok5 b (ok4 b (ok3 b (ok2 b (ok1 b (ok0 b)))))))))
def T10 : Tb := { T9 with lam := la_law.map fun e => ev T9.gm e }
theorem ok10 (b : Base C base) (L : LawC C n_law (defScope s_law) ts_law) (ok : TbOk P w C base 19 T9) : TbOk P w C base 21 T10 :=
  { fn := fun q hq => (ok.fn q hq).mono (by decide), con := ok.con, ini := fun q hq => ini_mono (by decide) (ok.ini q hq), kw := fun q hq => kw_mono (by decide) (ok.kw q hq), cls := ok.cls, idn := ok.idn, sub := ok.sub, isT := ok.isT, fld := ok.fld, meth := fun q hq => meth_mono (by decide) (ok.meth q hq), errs := ok.errs, exm := ok.exm, act := act_ok (lam_ok L kl_law (by decide +kernel) ok (by decide) rfl), lv := by decide, free := ok.free, sys := ok.sys }
def e__law_fault : Den := denOf T10.gx p__law_fault.length n__law_fault.length m__law_fault
theorem D__law_fault (b : Base C base) (ok : TbOk P w C base 21 T10) : DefOk P w C base 23 "_law_fault" e__law_fault := by
  obtain ⟨fd, F⟩ := F__law_fault b
  exact def_ok F c__law_fault (by decide) (g__law_fault b) (F.bindsN fun _ _ _ _ _ _ us hl => match us, hl with | [_], _ => rfl) (gxok ok) k__law_fault
def T11 : Tb := { T10 with fn := ("_law_fault", e__law_fault) :: T10.fn, ini :=  T10.ini, meth :=  T10.meth }
theorem ok11 (b : Base C base) (L : LawC C n_law (defScope s_law) ts_law) (ok : TbOk P w C base 21 T10) : TbOk P w C base 23 T11 :=
  { fn := allm_cons (D__law_fault b ok) (fun q hq => (ok.fn q hq).mono (by decide)), con := ok.con, ini := fun q hq => ini_mono (by decide) (ok.ini q hq), kw := fun q hq => kw_mono (by decide) (ok.kw q hq), cls := ok.cls, idn := ok.idn, sub := ok.sub, isT := ok.isT, fld := ok.fld, meth := fun q hq => meth_mono (by decide) (ok.meth q hq), errs := ok.errs, exm := ok.exm, act := act_ok (lam_ok L kl_law (by decide +kernel) (okE b) (by decide) rfl), lv := by decide, free := ok.free, sys := ok.sys }
def e__law_due : Den := denOf T11.gx p__law_due.length n__law_due.length m__law_due
theorem D__law_due (b : Base C base) (ok : TbOk P w C base 23 T11) : DefOk P w C base 25 "_law_due" e__law_due := by
  obtain ⟨fd, F⟩ := F__law_due b
  exact def_ok F c__law_due (by decide) (g__law_due b) (F.bindsN fun _ _ _ _ _ _ us hl => match us, hl with | [_], _ => rfl) (gxok ok) k__law_due
def T12 : Tb := { T11 with fn := ("_law_due", e__law_due) :: T11.fn, ini :=  T11.ini, meth :=  T11.meth }
theorem ok12 (b : Base C base) (L : LawC C n_law (defScope s_law) ts_law) (ok : TbOk P w C base 23 T11) : TbOk P w C base 25 T12 :=
  { fn := allm_cons (D__law_due b ok) (fun q hq => (ok.fn q hq).mono (by decide)), con := ok.con, ini := fun q hq => ini_mono (by decide) (ok.ini q hq), kw := fun q hq => kw_mono (by decide) (ok.kw q hq), cls := ok.cls, idn := ok.idn, sub := ok.sub, isT := ok.isT, fld := ok.fld, meth := fun q hq => meth_mono (by decide) (ok.meth q hq), errs := ok.errs, exm := ok.exm, act := act_ok (lam_ok L kl_law (by decide +kernel) (okE b) (by decide) rfl), lv := by decide, free := ok.free, sys := ok.sys }
theorem okA (b : Base C base) (L : LawC C n_law (defScope s_law) ts_law) : TbOk P w C base 25 T12 := ok12 b L (ok11 b L (ok10 b L (okE b)))
abbrev TF : Tb := T12
abbrev TE : Tb := T9
abbrev kF : Nat := 25
theorem due_ok (b : Base C base) (L : LawC C n_law (defScope s_law) ts_law) : DefOk P w C base kF "_law_due" e__law_due := (okA b L).fn ("_law_due", e__law_due) (in_of_lookup (by rfl))
theorem pen_ok (b : Base C base) (he : ∀ fo ce : Int, 0 ≤ fo → fo < foB → ∃ fo', ev T0.gm e_pen [none, some (.int fo), some (.int ce)] {} = .ok (.int fo') {} ∧ 0 ≤ fo' ∧ fo' < foB) : ∃ fd, FnG P w C base 3 (He.fAd C.K d__law_pen.at_) fd ["script"] (spPen C) ∧ Binds C.K fd ["script"] [] ∧ PySem.W.keepIn C.K (.ref (He.fAd C.K d__law_pen.at_)) = true := by
  obtain ⟨fd, F⟩ := F__law_pen b
  exact ⟨fd, fnG_pen F c__law_pen (gok (ok0 b)) t__law_pen he, F.bindsN (fun _ _ _ _ _ _ us hl => match us, hl with | [_], _ => rfl), F.kp⟩
end
end Mk
set_option Elab.async false
set_option linter.all false
set_option maxRecDepth 100000
set_option maxHeartbeats 2000000
/-! Plain0: what terms and statements are worth, step by step. -/
namespace Mp
open PySem PySem.Spec PyProof.Rows L2
section
variable {Γ : Gm} {ρ : List (Option D)} {s s1 s2 s3 : Ms} {x y d : D} {ds xs ys : List D}
theorem var_eq {i : Nat} (h : ρ[i]? = some (some d)) : ev Γ (.var i) ρ s = .ok d s := by
  show Out.opt ((ρ[i]?).join) s = _
  rw [h]; rfl
theorem lit_eq {c : Const} (h : litD c = some d) : ev Γ (.lit c) ρ s = .ok d s := by
  show Out.opt (litD c) s = _
  rw [h]; rfl
theorem evs_cons {e : E} {es : Es} (h1 : ev Γ e ρ s = .ok d s1) (h2 : evs Γ es ρ s1 = .ok ds s2) : evs Γ (.cons e es) ρ s = .ok (d :: ds) s2 := by
  show (ev Γ e ρ s).bind _ = _
  rw [h1]
  show (evs Γ es ρ s1).bind _ = _
  rw [h2]; rfl
theorem evs_nil : evs Γ .nil ρ s = .ok [] s := rfl
theorem evs_one {e : E} (h1 : ev Γ e ρ s = .ok d s1) : evs Γ (.cons e .nil) ρ s = .ok [d] s1 := evs_cons h1 rfl
theorem tup_eq {es : Es} (h : evs Γ es ρ s = .ok ds s1) (hl : ds.length ≤ sizeLine) : ev Γ (.tup es) ρ s = .ok (.tup ds) s1 := by
  show (evs Γ es ρ s).bind _ = _
  rw [h, Out.bind_ok, if_pos hl]
theorem lst_eq {es : Es} (h : evs Γ es ρ s = .ok ds s1) (hl : ds.length ≤ sizeLine) : ev Γ (.lst es) ρ s = .ok (.lst ds) s1 := by
  show (evs Γ es ρ s).bind _ = _
  rw [h, Out.bind_ok, if_pos hl]
theorem bi_eq {f : Bi} {es : Es} (h : evs Γ es ρ s = .ok ds s1) (hb : biD f ds = some d) : ev Γ (.bi f es) ρ s = .ok d s1 := by
  show (evs Γ es ρ s).bind _ = _
  rw [h]
  show Out.opt (biD f ds) s1 = _
  rw [hb]; rfl
theorem prim_eq {n : Str} {f : List D → Option D} {es : Es} (hf : Γ.prim n = some f) (h : evs Γ es ρ s = .ok ds s1) (hb : f ds = some d) : ev Γ (.prim n es) ρ s = .ok d s1 := by
  rw [prim_ev hf, h]
  show Out.opt (f ds) s1 = _
  rw [hb]; rfl
theorem bin_eq {op : Operator} {a b : E} (h1 : ev Γ a ρ s = .ok x s1) (h2 : ev Γ b ρ s1 = .ok y s2) (hb : binD op x y = some d) : ev Γ (.bin op a b) ρ s = .ok d s2 := by
  show (ev Γ a ρ s).bind _ = _
  rw [h1]
  show (ev Γ b ρ s1).bind _ = _
  rw [h2]
  show Out.opt (binD op x y) s2 = _
  rw [hb]; rfl
theorem cmp_eq {op : CmpOp} {a b : E} {k : Bool} (h1 : ev Γ a ρ s = .ok x s1) (h2 : ev Γ b ρ s1 = .ok y s2) (hb : cmpO Γ op x y s2 = .ok k s3) : ev Γ (.cmp op a b) ρ s = .ok (.bl k) s3 := by
  show (ev Γ a ρ s).bind _ = _
  rw [h1]
  show (ev Γ b ρ s1).bind _ = _
  rw [h2]
  show (cmpO Γ op x y s2).bind _ = _
  rw [hb]; rfl
theorem not_eq {a : E} {k : Bool} (h1 : ev Γ a ρ s = .ok x s1) (hb : tru x = some k) : ev Γ (.not a) ρ s = .ok (.bl (!k)) s1 := by
  show (ev Γ a ρ s).bind _ = _
  rw [h1]
  show (Out.opt (tru x) s1).bind _ = _
  rw [hb]; rfl
theorem ifx_eq {t a b : E} {k : Bool} (h1 : ev Γ t ρ s = .ok x s1) (hb : tru x = some k) : ev Γ (.ifx t a b) ρ s = if k = true then ev Γ a ρ s1 else ev Γ b ρ s1 := by
  show (ev Γ t ρ s).bind _ = _
  rw [h1]
  show (Out.opt (tru x) s1).bind _ = _
  rw [hb]; rfl
theorem and_one {e : E} : evAnd Γ (.cons e .nil) ρ s = ev Γ e ρ s := by
  show (ev Γ e ρ s).bind (fun x s => Out.ok x s) = _
  cases ev Γ e ρ s <;> rfl
theorem and_cons {e e2 : E} {r : Es} {k : Bool} (h1 : ev Γ e ρ s = .ok x s1) (hb : tru x = some k) : evAnd Γ (.cons e (.cons e2 r)) ρ s = if k = true then evAnd Γ (.cons e2 r) ρ s1 else .ok x s1 := by
  show (ev Γ e ρ s).bind (fun x s => (Out.opt (tru x) s).bind fun k s => if k = true then evAnd Γ (.cons e2 r) ρ s else .ok x s) = _
  rw [h1]
  show (Out.opt (tru x) s1).bind _ = _
  rw [hb]; rfl
theorem or_one {e : E} : evOr Γ (.cons e .nil) ρ s = ev Γ e ρ s := by
  show (ev Γ e ρ s).bind (fun x s => Out.ok x s) = _
  cases ev Γ e ρ s <;> rfl
theorem or_cons {e e2 : E} {r : Es} {k : Bool} (h1 : ev Γ e ρ s = .ok x s1) (hb : tru x = some k) : evOr Γ (.cons e (.cons e2 r)) ρ s = if k = true then .ok x s1 else evOr Γ (.cons e2 r) ρ s1 := by
  show (ev Γ e ρ s).bind (fun x s => (Out.opt (tru x) s).bind fun k s => if k = true then .ok x s else evOr Γ (.cons e2 r) ρ s) = _
  rw [h1]
  show (Out.opt (tru x) s1).bind _ = _
  rw [hb]; rfl
theorem ix_eq {a i : E} (h1 : ev Γ a ρ s = .ok x s1) (h2 : ev Γ i ρ s1 = .ok y s2) (hb : ixD x y = some d) : ev Γ (.ix a i) ρ s = .ok d s2 := by
  show (ev Γ a ρ s).bind _ = _
  rw [h1]
  show (ev Γ i ρ s1).bind _ = _
  rw [h2]
  show Out.opt (ixD x y) s2 = _
  rw [hb]; rfl
theorem fld_eq {a : E} {f : Str} (h1 : ev Γ a ρ s = .ok x s1) (hb : fldD Γ x f = some d) : ev Γ (.fld a f) ρ s = .ok d s1 := by
  show (ev Γ a ρ s).bind _ = _
  rw [h1]
  show Out.opt (fldD Γ x f) s1 = _
  rw [hb]; rfl
theorem call_eq {f : Str} {den : Den} {es : Es} (hf : Γ.fn f = some den) (h : evs Γ es ρ s = .ok ds s1) : ev Γ (.call f es) ρ s = den ds s1 := by
  show (match Γ.fn f with
    | some d => (evs Γ es ρ s).bind d
    | none => .bad) = _
  rw [hf, h]; rfl
theorem mk_eq {c : Str} {den : Den} {es : Es} (hf : Γ.mke c = some den) (h : evs Γ es ρ s = .ok ds s1) : ev Γ (.mk c es) ρ s = den ds s1 := by
  show (match Γ.mke c with
    | some d => (evs Γ es ρ s).bind d
    | none => .bad) = _
  rw [hf, h]; rfl
theorem it_e {a : E} (h1 : ev Γ a ρ s = .ok x s1) (hx : itemsD x = some xs) : evi Γ (.e a) ρ s = .ok xs s1 := by
  show (ev Γ a ρ s).bind _ = _
  rw [h1]
  show Out.opt (itemsD x) s1 = _
  rw [hx]; rfl
theorem rng1_eq {a : E} {i : Int} (h1 : ev Γ a ρ s = .ok (.int i) s1) (hb : bnd62 i = true) : evi Γ (.rng1 a) ρ s = .ok (rngD 0 i.toNat) s1 := by
  show (ev Γ a ρ s).bind _ = _
  rw [h1]
  show (if bnd62 i = true then Out.ok (rngD 0 i.toNat) s1 else .bad) = _
  rw [if_pos hb]
/-! ### comprehensions: each turn told -/
/-- one turn: what it leaves, if anything -/
def Turn (Γ : Gm) (tg : Tg) (c : Oe) (e : E) (ρ : List (Option D)) (x : D) (s : Ms) (o : Option D) (s1 : Ms) : Prop :=
  ∃ ρ' k s0, bindT tg x ρ = some ρ' ∧ evc Γ c ρ' s = .ok k s0 ∧ (if k = true then ∃ y, ev Γ e ρ' s0 = .ok y s1 ∧ o = some y else o = none ∧ s1 = s0)
inductive LoopV (Γ : Gm) (tg : Tg) (c : Oe) (e : E) (ρ : List (Option D)) : List D → Ms → List D → Ms → Prop
  | nil (s : Ms) : LoopV Γ tg c e ρ [] s [] s
  | some {x y : D} {xs ys : List D} {s s1 s2 : Ms} (h : Turn Γ tg c e ρ x s (some y) s1) (r : LoopV Γ tg c e ρ xs s1 ys s2) : LoopV Γ tg c e ρ (x :: xs) s (y :: ys) s2
  | none {x : D} {xs ys : List D} {s s1 s2 : Ms} (h : Turn Γ tg c e ρ x s none s1) (r : LoopV Γ tg c e ρ xs s1 ys s2) : LoopV Γ tg c e ρ (x :: xs) s ys s2
theorem lc_eq {tg : Tg} {it : It} {c : Oe} {e : E} (hit : evi Γ it ρ s = .ok xs s1) (h : LoopV Γ tg c e ρ xs s1 ys s2) (hl : ys.length ≤ sizeLine) : ev Γ (.lc tg it c e) ρ s = .ok (.lst ys) s2 := by
  let F : D → Ms → Out (Option D) := fun d s => (match bindT tg d ρ with
    | Option.none => Out.bad
    | Option.some ρ' => (evc Γ c ρ' s).bind fun k s => if k = true then (ev Γ e ρ' s).bind fun x s => .ok (Option.some x) s else .ok Option.none s).nox
  have turn : ∀ {x o s s1}, Turn Γ tg c e ρ x s o s1 → F x s = .ok o s1 := fun {x o s s1} ⟨ρ', k, s0, h1, h2, h3⟩ => by
    show (match bindT tg x ρ with
      | Option.none => Out.bad
      | Option.some ρ' => (evc Γ c ρ' s).bind fun k s => if k = true then (ev Γ e ρ' s).bind fun x s => .ok (Option.some x) s else .ok Option.none s).nox = _
    rw [h1]
    show ((evc Γ c ρ' s).bind fun k s => if k = true then (ev Γ e ρ' s).bind fun x s => .ok (Option.some x) s else .ok Option.none s).nox = _
    rw [h2, Out.bind_ok]
    cases k with
    | true =>
      obtain ⟨y, h4, h5⟩ := h3
      rw [if_pos rfl, h4, h5]; rfl
    | false =>
      obtain ⟨h4, h5⟩ := h3
      rw [if_neg (by decide), h4, h5]; rfl
  have el : loopL F xs s1 = .ok ys s2 := by
    clear hit hl
    induction h with
    | nil s => rfl
    | @some x y xs ys s s1 s2 h r ih =>
      show (F x s).bind _ = _
      rw [turn h]
      show (loopL F xs s1).bind _ = _
      rw [ih]; rfl
    | @none x xs ys s s1 s2 h r ih =>
      show (F x s).bind _ = _
      rw [turn h]
      show (loopL F xs s1).bind _ = _
      rw [ih]; rfl
  show (evi Γ it ρ s).bind _ = _
  rw [hit]
  show (loopL F xs s1).bind (fun ds s => if ds.length ≤ sizeLine then Out.ok (D.lst ds) s else .bad) = _
  rw [el, Out.bind_ok, if_pos hl]
/-- a comprehension that changes nothing: what stays, what it becomes -/
theorem lc_pure {tg : Tg} {it : It} {c : Oe} {e : E} {α : Type} (f : α → D) (p : α → Bool) (g : α → D) {as : List α} (hit : evi Γ it ρ s = .ok (as.map f) s1)
    (ht : ∀ a ∈ as, ∃ ρ', bindT tg (f a) ρ = some ρ' ∧ evc Γ c ρ' s1 = .ok (p a) s1 ∧ (p a = true → ev Γ e ρ' s1 = .ok (g a) s1)) (hl : as.length ≤ sizeLine) : ev Γ (.lc tg it c e) ρ s = .ok (.lst ((as.filter p).map g)) s1 := by
  refine lc_eq hit ?_ (Nat.le_trans (by rw [List.length_map]; exact List.length_filter_le _ _) hl)
  clear hit hl
  induction as with
  | nil => exact .nil _
  | cons a as ih =>
    obtain ⟨ρ', h1, h2, h3⟩ := ht a List.mem_cons_self
    have r := ih fun b hb => ht b (List.mem_cons_of_mem _ hb)
    rw [List.map_cons, List.filter_cons]
    by_cases z : p a = true
    · rw [if_pos z, List.map_cons]
      exact .some ⟨ρ', true, s1, h1, by rw [← z]; exact h2, by rw [if_pos rfl]; exact ⟨_, h3 z, rfl⟩⟩ r
    · rw [if_neg z]
      have z' : p a = false := by simpa using z
      exact .none ⟨ρ', false, s1, h1, by rw [← z']; exact h2, by rw [if_neg (by decide)]; exact ⟨rfl, rfl⟩⟩ r
theorem evc_no : evc Γ .no ρ s = .ok true s := rfl
theorem evc_yes {e : E} {k : Bool} (h : ev Γ e ρ s = .ok x s1) (hb : tru x = some k) : evc Γ (.yes e) ρ s = .ok k s1 := by
  show (ev Γ e ρ s).bind _ = _
  rw [h]
  show Out.opt (tru x) s1 = _
  rw [hb]; rfl
theorem blsD_map : ∀ (bs : List Bool), blsD (bs.map D.bl) = some bs
  | [] => rfl
  | b :: bs => by
    show (blsD (bs.map D.bl)).map (b :: ·) = _
    rw [blsD_map bs]; rfl
theorem intsD_map : ∀ (ns : List Int), intsD (ns.map D.int) = some ns
  | [] => rfl
  | n :: ns => by
    show (intsD (ns.map D.int)).map (n :: ·) = _
    rw [intsD_map ns]; rfl
/-- any([.. for x in xs]), all([..]) without a test -/
theorem any_eq {tg : Tg} {it : It} {e : E} {α : Type} (f : α → D) (g : α → Bool) {as : List α} (hit : evi Γ it ρ s = .ok (as.map f) s1) (ht : ∀ a ∈ as, ∃ ρ', bindT tg (f a) ρ = some ρ' ∧ ev Γ e ρ' s1 = .ok (.bl (g a)) s1) (hl : as.length ≤ sizeLine) :
    ev Γ (.bi .any (.cons (.lc tg it .no e) .nil)) ρ s = .ok (.bl (as.any g)) s1 := by
  have h := lc_pure (c := .no) f (fun _ => true) (fun a => .bl (g a)) hit (fun a ha => let ⟨ρ', h1, h2⟩ := ht a ha; ⟨ρ', h1, rfl, fun _ => h2⟩) hl
  rw [List.filter_eq_self.mpr fun _ _ => rfl] at h
  refine bi_eq (evs_one h) ?_
  show (match blsD (as.map fun a => .bl (g a)) with
    | some ns => some (D.bl (ns.any id))
    | none => none) = _
  rw [show (as.map fun a => D.bl (g a)) = (as.map g).map D.bl by rw [List.map_map]; rfl, blsD_map]
  simp
theorem all_eq {tg : Tg} {it : It} {e : E} {α : Type} (f : α → D) (g : α → Bool) {as : List α} (hit : evi Γ it ρ s = .ok (as.map f) s1) (ht : ∀ a ∈ as, ∃ ρ', bindT tg (f a) ρ = some ρ' ∧ ev Γ e ρ' s1 = .ok (.bl (g a)) s1) (hl : as.length ≤ sizeLine) :
    ev Γ (.bi .all (.cons (.lc tg it .no e) .nil)) ρ s = .ok (.bl (as.all g)) s1 := by
  have h := lc_pure (c := .no) f (fun _ => true) (fun a => .bl (g a)) hit (fun a ha => let ⟨ρ', h1, h2⟩ := ht a ha; ⟨ρ', h1, rfl, fun _ => h2⟩) hl
  rw [List.filter_eq_self.mpr fun _ _ => rfl] at h
  refine bi_eq (evs_one h) ?_
  show (match blsD (as.map fun a => .bl (g a)) with
    | some ns => some (D.bl (ns.all id))
    | none => none) = _
  rw [show (as.map fun a => D.bl (g a)) = (as.map g).map D.bl by rw [List.map_map]; rfl, blsD_map]
  simp
end
/-! ### statements -/
section
variable {Γ : Gx} {ρ ρ' : List Sl} {s s' s2 : Ms} {d : D} {c : Ctl}
abbrev NoOw (ρ : List Sl) : Prop := ∀ (j : Nat) ds, ρ[j]? ≠ some (.ow ds)
theorem fz_noow (h : NoOw ρ) (vs : List Nat) : fz vs ρ = ρ := by
  unfold fz
  refine List.ext_getElem? fun j => ?_
  rw [List.getElem?_mapIdx]
  cases e : ρ[j]? with
  | none => rfl
  | some x =>
    cases x <;> first | rfl | exact absurd e (h j _)
theorem ss_seq {t : S} {m : Ss} (h : evS Γ t ρ s = .ok (.nx ρ') s') : evSs Γ (.cons t m) ρ s = evSs Γ m ρ' s' := by
  show (evS Γ t ρ s).bind _ = _
  rw [h]; rfl
theorem ss_ret {t : S} {m : Ss} (h : evS Γ t ρ s = .ok (.rt d) s') : evSs Γ (.cons t m) ρ s = .ok (.rt d) s' := by
  show (evS Γ t ρ s).bind _ = _
  rw [h]; rfl
theorem ss_ex {t : S} {m : Ss} {x : Exc} (h : evS Γ t ρ s = .ex x s') : evSs Γ (.cons t m) ρ s = .ex x s' := by
  show (evS Γ t ρ s).bind _ = _
  rw [h]; rfl
theorem ret_eq {e : E} (h : ev Γ.g e (look (vsE e) ρ) s = .ok d s') : evS Γ (.ret e) ρ s = .ok (.rt d) s' := by
  show (ev Γ.g e (look (vsE e) ρ) s).bind _ = _
  rw [h]; rfl
/-- a name takes a value (fz: what the look leaves) -/
theorem asg_eq {i : Nat} {e : E} (h : ev Γ.g e (look (vsE e) ρ) s = .ok d s') : evS Γ (.asg i {} e) ρ s = .ok (.nx ((fz (vsE e) ρ).set i (.sh d))) s' := by
  show (evV Γ.g {} e ρ s).bind _ = _
  unfold evV
  rw [if_neg (by decide)]
  unfold evX
  rw [h]; rfl
theorem ife_eq {t : E} {a b : Ss} {k : Bool} (h : ev Γ.g t (look (vsE t) ρ) s = .ok d s') (hb : tru d = some k) : evS Γ (.ife t a b) ρ s = if k = true then evSs Γ a ρ s' else evSs Γ b ρ s' := by
  show (evXT Γ.g t ρ s).bind _ = _
  unfold evXT
  rw [h]
  show ((Out.opt (tru d) s').bind _) = _
  rw [hb]; rfl
theorem unp_eq {is : List Nat} {e : E} (h : ev Γ.g e (look (vsE e) ρ) s = .ok d s') (hb : bindS (.t is) d (fz (vsE e) ρ) = some ρ') : evS Γ (.unp is {} e) ρ s = .ok (.nx ρ') s' := by
  have ex : evX Γ.g false e ρ s = .ok (d, fz (vsE e) ρ) s' := by
    unfold evX
    rw [h, Out.bind_ok, if_neg Bool.false_ne_true]
  show (evX Γ.g false e ρ s).bind _ = _
  rw [ex]
  show (Out.opt (bindS (.t is) d (fz (vsE e) ρ)) s').bind _ = _
  rw [hb]; rfl
theorem for_eq {tg : Tg} {it : It} {b : Ss} {xs : List D} (h : evi Γ.g it (look (vsI it) ρ) s = .ok xs s') (hf : evFor tg (fun ρ s => evSs Γ b ρ s) xs (fz (vsI it) ρ) s' = .ok c s2) : evS Γ (.for_ tg it b) ρ s = .ok c s2 := by
  have ei : evXI Γ.g it ρ s = .ok (xs, fz (vsI it) ρ) s' := by
    unfold evXI
    rw [h]; rfl
  show (evXI Γ.g it ρ s).bind _ = _
  rw [ei]
  exact hf
theorem rse_eq {c : Str} {es : Es} {ds : List D} {x : Exc} (hc : Γ.excs c = true) (h : evs Γ.g es (look (vsEs es) ρ) s = .ok ds s') (hx : Γ.exc c ds = some x) : evS Γ (.rse c es) ρ s = .ex x s' := by
  show (if Γ.excs c = true then (evs Γ.g es (look (vsEs es) ρ) s).bind (fun ds s => match Γ.exc c ds with
    | some x => .ex x s
    | none => .bad) else .bad) = _
  rw [if_pos hc, h]
  show (match Γ.exc c ds with
    | some x => Out.ex x s'
    | none => .bad) = _
  rw [hx]
theorem den_rt {np n : Nat} {b : Ss} {ds : List D} (hl : ds.length = np) (h : evSs Γ b (ds.map Sl.sh ++ List.replicate (n - np) .no) s = .ok (.rt d) s') : denOf Γ np n b ds s = .ok d s' := by
  unfold denOf
  rw [if_pos hl, h]; rfl
theorem den_nx {np n : Nat} {b : Ss} {ds : List D} {ρ' : List Sl} (hl : ds.length = np) (h : evSs Γ b (ds.map Sl.sh ++ List.replicate (n - np) .no) s = .ok (.nx ρ') s') : denOf Γ np n b ds s = .ok .non s' := by
  unfold denOf
  rw [if_pos hl, h]; rfl
theorem den_ex {np n : Nat} {b : Ss} {ds : List D} {x : Exc} (hl : ds.length = np) (h : evSs Γ b (ds.map Sl.sh ++ List.replicate (n - np) .no) s = .ex x s') : denOf Γ np n b ds s = .ex x s' := by
  unfold denOf
  rw [if_pos hl, h]; rfl
end
end Mp
set_option Elab.async false
set_option linter.all false
set_option maxRecDepth 100000
set_option maxHeartbeats 2000000
/-! Draw67: what a drawing is worth (Draw82 with this law's numbers). -/
namespace Mk
open PySem PySem.Spec PyProof.Rows L2 Mp
abbrev sp (cs : List Int) (a d c f : Int) (o : Nat) (r : Option (List (Option D))) : Ms := ⟨some ⟨cs, a, d, c, f⟩, o, r⟩
abbrev rd (many : Int) : List Sl := [.sh .pen, .sh (.int many), .no, .no, .no]
def q1 : S := .pns 0 "count" {} (.bin .Add (.pnf 0 "count") (.lit (.int 1)))
def q2t : E := .and (.cons (.cmp .Eq (.pnf 0 "digits") (.lit (.int 0))) (.cons (.cmp .Lt (.pnf 0 "at") (.bi .len (.cons (.pnf 0 "cells") .nil))) .nil))
def q3 : S := .asg 2 {} (.ix (.pnf 0 "cells") (.pnf 0 "at"))
def q4 : S := .pns 0 "at" {} (.bin .Add (.pnf 0 "at") (.lit (.int 1)))
def q5t : E := .cmp .GtE (.var 2) (.bin .Pow (.lit (.int 10)) (.lit (.int 18)))
def q5a : S := .pns 0 "digits" {} (.bin .Sub (.var 2) (.bin .Pow (.lit (.int 10)) (.lit (.int 18))))
def q5b : S := .pns 0 "fold" {} (.bin .Mod (.bi .int (.cons (.bin .Add (.bin .Mult (.pnf 0 "fold") (.lit (.int 62089911))) (.var 2)) .nil)) (.lit (.int 2147483497)))
def q6t : E := .cmp .Gt (.pnf 0 "digits") (.lit (.int 0))
def q7 : S := .asg 3 {} (.bin .Mod (.bi .int (.cons (.pnf 0 "digits") .nil)) (.var 1))
def q8 : S := .pns 0 "digits" {} (.bin .FloorDiv (.pnf 0 "digits") (.var 1))
def q9 : S := .asg 4 {} (.bin .Add (.bin .Add (.pnf 0 "fold") (.bin .Mult (.pnf 0 "count") (.lit (.int 7907)))) (.lit (.int 101)))
def q10 : E := .bin .Mod (.bin .FloorDiv (.bi .int (.cons (.bin .Mod (.bin .Pow (.var 4) (.lit (.int 19))) (.lit (.int 2305843009213693951))) .nil)) (.lit (.int 8192))) (.var 1)
theorem draw_parts : m__law_draw = .cons q1 (.cons (.ife q2t (.cons q3 (.cons q4 (.cons (.ife q5t (.cons q5a .nil) (.cons q5b .nil)) .nil))) .nil) (.cons (.ife q6t (.cons q7 (.cons q8 (.cons (.ret (.var 3)) .nil))) .nil) (.cons q9 (.cons (.ret q10) .nil)))) := rfl
section
variable (cs : List Int) (a d c f : Int) (o : Nat) (r : Option (List (Option D))) (many : Int)
theorem v1 : evS T2.gx q1 (rd many) (sp cs a d c f o r) = .ok (.nx (rd many)) (sp cs a d (c + 1) f o r) := rfl
theorem d0 (ρ : List (Option D)) (hp : ρ[0]? = some (some .pen)) : ev T2.gm (.cmp .Eq (.pnf 0 "digits") (.lit (.int 0))) ρ (sp cs a d c f o r) = .ok (.bl (PyData.eqv (.int d) (.int 0))) (sp cs a d c f o r) := by
  have e : ev T2.gm (.pnf 0 "digits") ρ (sp cs a d c f o r) = .ok (.int d) (sp cs a d c f o r) := by
    show (match (ρ[0]?).join with
      | some .pen => Out.opt ((sp cs a d c f o r).pen.bind (penGet "digits")) (sp cs a d c f o r)
      | _ => .bad) = _
    rw [hp]; rfl
  show (ev T2.gm (.pnf 0 "digits") ρ (sp cs a d c f o r)).bind _ = _
  rw [e]
  rfl
theorem d1 : ev T2.gm (.cmp .Lt (.pnf 0 "at") (.bi .len (.cons (.pnf 0 "cells") .nil))) (look (vsE q2t) (rd many)) (sp cs a d c f o r) = .ok (.bl (decide (a < cs.length))) (sp cs a d c f o r) := by
  show Out.ok (D.bl (decide (a < (((cs.map D.int).length : Nat) : Int)))) (sp cs a d c f o r) = _
  rw [List.length_map]
theorem v2 (k : Bool) (h : (PyData.eqv (.int d) (.int 0) && decide (a < cs.length)) = k) : evXT T2.gm q2t (rd many) (sp cs a d c f o r) = .ok k (sp cs a d c f o r) := by
  have e : ev T2.gm q2t (look (vsE q2t) (rd many)) (sp cs a d c f o r) = .ok (.bl k) (sp cs a d c f o r) := by
    have e0 : ev T2.gm q2t (look (vsE q2t) (rd many)) (sp cs a d c f o r) = (ev T2.gm (.cmp .Eq (.pnf 0 "digits") (.lit (.int 0))) (look (vsE q2t) (rd many)) (sp cs a d c f o r)).bind (fun x s => (Out.opt (tru x) s).bind fun k s =>
      if k = true then evAnd T2.gm (.cons (.cmp .Lt (.pnf 0 "at") (.bi .len (.cons (.pnf 0 "cells") .nil))) .nil) (look (vsE q2t) (rd many)) s else .ok x s) := rfl
    rw [e0, d0 _ _ _ _ _ _ _ _ rfl]
    cases z : PyData.eqv (.int d) (.int 0) with
    | false => rw [z] at h; subst h; rfl
    | true =>
      rw [z] at h
      show evAnd T2.gm (.cons (.cmp .Lt (.pnf 0 "at") (.bi .len (.cons (.pnf 0 "cells") .nil))) .nil) (look (vsE q2t) (rd many)) (sp cs a d c f o r) = _
      have e2 : evAnd T2.gm (.cons (.cmp .Lt (.pnf 0 "at") (.bi .len (.cons (.pnf 0 "cells") .nil))) .nil) (look (vsE q2t) (rd many)) (sp cs a d c f o r) = (ev T2.gm (.cmp .Lt (.pnf 0 "at") (.bi .len (.cons (.pnf 0 "cells") .nil))) (look (vsE q2t) (rd many)) (sp cs a d c f o r)).bind (fun x s => .ok x s) := rfl
      rw [e2, d1]
      rw [Bool.true_and] at h
      rw [h]; rfl
  show (ev T2.gm q2t (look (vsE q2t) (rd many)) (sp cs a d c f o r)).bind _ = _
  rw [e]; rfl
theorem v3 (x : Int) (h : L2.atI (cs.map D.int) a = some (.int x)) : evS T2.gx q3 (rd many) (sp cs a d c f o r) = .ok (.nx [.sh .pen, .sh (.int many), .sh (.int x), .no, .no]) (sp cs a d c f o r) := by
  have e : ev T2.gm (.ix (.pnf 0 "cells") (.pnf 0 "at")) (look (vsE (.ix (.pnf 0 "cells") (.pnf 0 "at"))) (rd many)) (sp cs a d c f o r) = .ok (.int x) (sp cs a d c f o r) := by
    show Out.opt (L2.atI (cs.map D.int) a) (sp cs a d c f o r) = _
    rw [h]; rfl
  show (((ev T2.gm (.ix (.pnf 0 "cells") (.pnf 0 "at")) (look (vsE (.ix (.pnf 0 "cells") (.pnf 0 "at"))) (rd many)) (sp cs a d c f o r)).bind _).bind _).bind _ = _
  rw [e]; rfl
theorem v5t (x : Int) : evXT T2.gm q5t [.sh .pen, .sh (.int many), .sh (.int x), .no, .no] (sp cs a d c f o r) = .ok (decide (10 ^ 18 ≤ x)) (sp cs a d c f o r) := rfl
theorem v5b (x : Int) : evS T2.gx q5b [.sh .pen, .sh (.int many), .sh (.int x), .no, .no] (sp cs a d c f o r) = .ok (.nx [.sh .pen, .sh (.int many), .sh (.int x), .no, .no]) (sp cs a d c ((f * 62089911 + x) % 2147483497) o r) := by
  have e1 : Mp.binI .Mult f 62089911 = some (.int (f * 62089911)) := by
    show (if (-(2 ^ 64) < f ∧ f < 2 ^ 64) ∨ (-(2 ^ 64) < (62089911 : Int) ∧ (62089911 : Int) < 2 ^ 64) then some (D.int (f * 62089911)) else none) = _
    rw [if_pos (.inr (by decide))]
  have e2 : ev T2.gm (.bin .Mult (.pnf 0 "fold") (.lit (.int 62089911))) (look (vsE (.bin .Mod (.bi .int (.cons (.bin .Add (.bin .Mult (.pnf 0 "fold") (.lit (.int 62089911))) (.var 2)) .nil)) (.lit (.int 2147483497)))) [.sh .pen, .sh (.int many), .sh (.int x), .no, .no]) (sp cs a d c f o r) = .ok (.int (f * 62089911)) (sp cs a d c f o r) := by
    show Out.opt (Mp.binI .Mult f 62089911) (sp cs a d c f o r) = _
    rw [e1]; rfl
  have e3 : ev T2.gm (.bin .Mod (.bi .int (.cons (.bin .Add (.bin .Mult (.pnf 0 "fold") (.lit (.int 62089911))) (.var 2)) .nil)) (.lit (.int 2147483497))) (look (vsE (.bin .Mod (.bi .int (.cons (.bin .Add (.bin .Mult (.pnf 0 "fold") (.lit (.int 62089911))) (.var 2)) .nil)) (.lit (.int 2147483497)))) [.sh .pen, .sh (.int many), .sh (.int x), .no, .no]) (sp cs a d c f o r) = .ok (.int ((f * 62089911 + x) % 2147483497)) (sp cs a d c f o r) := by
    show ((((ev T2.gm (.bin .Mult (.pnf 0 "fold") (.lit (.int 62089911))) _ _).bind _).bind _).bind _).bind _ = _
    rw [e2]
    rfl
  show (((ev T2.gm (.bin .Mod _ _) _ (sp cs a d c f o r)).bind _).bind _) = _
  rw [e3]
  rfl
theorem v6t (ρ : List Sl) (h0 : ρ[0]? = some (.sh .pen)) : evXT T2.gm q6t ρ (sp cs a d c f o r) = .ok (decide (0 < d)) (sp cs a d c f o r) := by
  have e : ev T2.gm (.pnf 0 "digits") (look (vsE q6t) ρ) (sp cs a d c f o r) = .ok (.int d) (sp cs a d c f o r) := by
    show (match ((look (vsE q6t) ρ)[0]?).join with
      | some .pen => Out.opt ((sp cs a d c f o r).pen.bind (penGet "digits")) (sp cs a d c f o r)
      | _ => .bad) = _
    have : (look (vsE q6t) ρ)[0]? = some (some .pen) := by
      unfold look
      rw [List.getElem?_mapIdx, h0]; rfl
    rw [this]; rfl
  show ((ev T2.gm (.pnf 0 "digits") (look (vsE q6t) ρ) (sp cs a d c f o r)).bind _).bind _ = _
  rw [e]
  rfl
theorem v7 (y : Sl) (hy : ∃ z, y = .sh (.int z) ∨ y = .no) (hm : 0 < many) : evS T2.gx q7 [.sh .pen, .sh (.int many), y, .no, .no] (sp cs a d c f o r) = .ok (.nx [.sh .pen, .sh (.int many), y, .sh (.int (d % many)), .no]) (sp cs a d c f o r) := by
  have e1 : Mp.binI .Mod d many = some (.int (d % many)) := by
    show (if 0 < many then some (D.int (d % many)) else none) = _
    rw [if_pos hm]
  obtain ⟨z, hy | hy⟩ := hy <;> subst hy
  · show (((Out.opt (Mp.binI .Mod d many) (sp cs a d c f o r)).bind _).bind _).bind _ = _
    rw [e1]; rfl
  · show (((Out.opt (Mp.binI .Mod d many) (sp cs a d c f o r)).bind _).bind _).bind _ = _
    rw [e1]; rfl
theorem v8 (y : Sl) (hy : ∃ z, y = .sh (.int z) ∨ y = .no) (x : Int) (hm : 0 < many ∧ many < 1073741824) : evS T2.gx q8 [.sh .pen, .sh (.int many), y, .sh (.int x), .no] (sp cs a d c f o r) = .ok (.nx [.sh .pen, .sh (.int many), y, .sh (.int x), .no]) (sp cs a (d / many) c f o r) := by
  have e1 : Mp.binI .FloorDiv d many = some (.int (d / many)) := by
    show (if 0 < many ∧ many < 1073741824 then some (D.int (d / many)) else none) = _
    rw [if_pos hm]
  obtain ⟨z, hy | hy⟩ := hy <;> subst hy
  · show (Out.ok () (sp cs a d c f o r)).bind (fun _ s => ((Out.opt (Mp.binI .FloorDiv d many) s).bind _).bind _) = _
    rw [Out.bind_ok, e1]; rfl
  · show (Out.ok () (sp cs a d c f o r)).bind (fun _ s => ((Out.opt (Mp.binI .FloorDiv d many) s).bind _).bind _) = _
    rw [Out.bind_ok, e1]; rfl
theorem v4 (y : Sl) : evS T2.gx q4 [.sh .pen, .sh (.int many), y, .no, .no] (sp cs a d c f o r) = .ok (.nx (fz [0] [.sh .pen, .sh (.int many), y, .no, .no])) (sp cs (a + 1) d c f o r) := rfl
theorem v5a (x : Int) : evS T2.gx q5a [.sh .pen, .sh (.int many), .sh (.int x), .no, .no] (sp cs a d c f o r) = .ok (.nx [.sh .pen, .sh (.int many), .sh (.int x), .no, .no]) (sp cs a (x - 10 ^ 18) c f o r) := by
  rfl
theorem v9 (y : Sl) (hy : ∃ z, y = .sh (.int z) ∨ y = .no) : evS T2.gx q9 [.sh .pen, .sh (.int many), y, .no, .no] (sp cs a d c f o r) = .ok (.nx [.sh .pen, .sh (.int many), y, .no, .sh (.int (f + c * 7907 + 101))]) (sp cs a d c f o r) := by
  have e1 : Mp.binI .Mult c 7907 = some (.int (c * 7907)) := by
    show (if (-(2 ^ 64) < c ∧ c < 2 ^ 64) ∨ (-(2 ^ 64) < (7907 : Int) ∧ (7907 : Int) < 2 ^ 64) then some (D.int (c * 7907)) else none) = _
    rw [if_pos (.inr (by decide))]
  obtain ⟨z, hy | hy⟩ := hy <;> subst hy
  · show (((((Out.opt (Mp.binI .Mult c 7907) (sp cs a d c f o r)).bind _).bind _).bind _).bind _).bind _ = _
    rw [e1]; rfl
  · show (((((Out.opt (Mp.binI .Mult c 7907) (sp cs a d c f o r)).bind _).bind _).bind _).bind _).bind _ = _
    rw [e1]; rfl
theorem v10 (ρ : List (Option D)) (s : Ms) (b : Int) (h4 : ρ[4]? = some (some (.int b))) (h1 : ρ[1]? = some (some (.int many))) (hb : b.natAbs < 2 ^ 64) (hm : 0 < many) : ∃ x, ev T2.gm q10 ρ s = .ok (.int x) s ∧ 0 ≤ x ∧ x < many := by
  have e1 : ev T2.gm (.bin .Pow (.var 4) (.lit (.int 19))) ρ s = .ok (.int (b ^ 19)) s := by
    show (Out.opt ((ρ[4]?).join) s).bind _ = _
    rw [h4]
    show Out.opt (if (0 : Int) ≤ 19 ∧ (19 : Int) ≤ 1000000 ∧ b.natAbs < 2 ^ 64 then some (D.int (b ^ (19 : Int).toNat)) else none) s = _
    rw [if_pos ⟨by decide, by decide, hb⟩]
    rfl
  have e2 : ev T2.gm (.bin .FloorDiv (.bi .int (.cons (.bin .Mod (.bin .Pow (.var 4) (.lit (.int 19))) (.lit (.int 2305843009213693951))) .nil)) (.lit (.int 8192))) ρ s = .ok (.int (b ^ 19 % 2305843009213693951 / 8192)) s := by
    show ((((ev T2.gm (.bin .Pow (.var 4) (.lit (.int 19))) ρ s).bind _).bind _).bind _).bind _ = _
    rw [e1]
    rfl
  refine ⟨b ^ 19 % 2305843009213693951 / 8192 % many, ?_, Int.emod_nonneg _ (by omega), Int.emod_lt_of_pos _ hm⟩
  show (ev T2.gm (.bin .FloorDiv _ _) ρ s).bind _ = _
  rw [e2]
  show (Out.opt ((ρ[1]?).join) s).bind _ = _
  rw [h1]
  show Out.opt (if 0 < many then some (D.int (b ^ 19 % 2305843009213693951 / 8192 % many)) else none) s = _
  rw [if_pos hm]
  rfl
end
/-- the drawing dict as it may be after n drawings -/
structure PenI (n : Int) (p : Pen) : Prop where
  f0 : 0 ≤ p.fold
  f1 : p.fold < foB
  c0 : 0 ≤ p.count
  c1 : p.count ≤ n
  d0 : 0 ≤ p.digits
  a0 : 0 ≤ p.at_
  l : p.cells.length ≤ 63
def tl2 : Ss := .cons (.ife q6t (.cons q7 (.cons q8 (.cons (.ret (.var 3)) .nil))) .nil) (.cons q9 (.cons (.ret q10) .nil))
theorem ss_cons_eq {Γ : Gx} {t : S} {m : Ss} {ρ : List Sl} {s : Ms} : evSs Γ (.cons t m) ρ s = (evS Γ t ρ s).bind fun c s => match c with
    | .nx ρ' => evSs Γ m ρ' s
    | c => .ok c s := rfl
theorem dr_ife {Γ : Gx} {c : E} {x y : Ss} {ρ : List Sl} {s : Ms} {k : Bool} (h : evXT Γ.g c ρ s = .ok k s) : evS Γ (.ife c x y) ρ s = if k = true then evSs Γ x ρ s else evSs Γ y ρ s := by
  show (evXT Γ.g c ρ s).bind _ = _
  rw [h]; rfl
theorem dr_ret {Γ : Gx} {e : E} {ρ : List Sl} {s s' : Ms} {d : D} (h : ev Γ.g e (look (vsE e) ρ) s = .ok d s') : evS Γ (.ret e) ρ s = .ok (.rt d) s' := by
  show (ev Γ.g e (look (vsE e) ρ) s).bind _ = _
  rw [h]; rfl
theorem tail2 (cs : List Int) (a d c f : Int) (o : Nat) (r : Option (List (Option D))) (many : Int) (y : Sl) (hy : ∃ z, y = .sh (.int z) ∨ y = .no) (hm : 0 < many ∧ many < 1073741824) (n : Int) (hn : n < 1000000000) (I : PenI n ⟨cs, a, d, c, f⟩) :
    ∃ x d', evSs T2.gx tl2 [.sh .pen, .sh (.int many), y, .no, .no] (sp cs a d c f o r) = .ok (.rt (.int x)) (sp cs a d' c f o r) ∧ 0 ≤ x ∧ x < many ∧ PenI n ⟨cs, a, d', c, f⟩ := by
  have t6 := v6t cs a d c f o r [.sh .pen, .sh (.int many), y, .no, .no] rfl
  by_cases h : 0 < d
  · refine ⟨d % many, d / many, ?_, Int.emod_nonneg _ (by omega), Int.emod_lt_of_pos _ hm.1, ⟨I.f0, I.f1, I.c0, I.c1, Int.ediv_nonneg I.d0 (by omega), I.a0, I.l⟩⟩
    unfold tl2
    rw [ss_cons_eq, dr_ife t6, decide_eq_true h, if_pos rfl, ss_cons_eq, v7 cs a d c f o r many y hy hm.1]
    show (evSs T2.gx (.cons q8 (.cons (.ret (.var 3)) .nil)) _ _).bind _ = _
    rw [ss_cons_eq, v8 cs a d c f o r many y hy (d % many) hm]
    rfl
  · have hb : (f + c * 7907 + 101).natAbs < 2 ^ 64 := by
      have h0 := I.f0
      have h1 := I.f1
      have h2 := I.c0
      have h3 := I.c1
      simp only at h0 h1 h2 h3
      show (f + c * 7907 + 101).natAbs < 18446744073709551616
      have : foB = 1099511627776 := rfl
      omega
    obtain ⟨x, e, x0, x1⟩ := v10 many (look (vsE q10) [.sh .pen, .sh (.int many), y, .no, .sh (.int (f + c * 7907 + 101))]) (sp cs a d c f o r) (f + c * 7907 + 101) (by rfl) (by rfl) hb hm.1
    refine ⟨x, d, ?_, x0, x1, I⟩
    unfold tl2
    rw [ss_cons_eq, dr_ife t6, decide_eq_false h, if_neg Bool.false_ne_true]
    show evSs T2.gx (.cons q9 (.cons (.ret q10) .nil)) _ _ = _
    rw [ss_cons_eq, v9 cs a d c f o r many y hy]
    show evSs T2.gx (.cons (.ret q10) .nil) _ _ = _
    rw [ss_cons_eq, dr_ret e]
    rfl
theorem draw {n : Int} (hn : n < 999999999) {s : Ms} {p : Pen} (hs : s.pen = some p) (I : PenI n p) {many : Int} (hm : 0 < many ∧ many < 1073741824) :
    ∃ x p', e__law_draw [.pen, .int many] s = .ok (.int x) { s with pen := some p' } ∧ 0 ≤ x ∧ x < many ∧ PenI (n + 1) p' := by
  obtain ⟨pn, o, r⟩ := s
  have hs' : pn = some p := hs
  subst hs'
  obtain ⟨cs, a, d, c, f⟩ := p
  have i0 := I.c0
  have i1 := I.c1
  have i2 := I.a0
  simp only at i0 i1 i2
  have I1 : PenI (n + 1) ⟨cs, a, d, c + 1, f⟩ := ⟨I.f0, I.f1, by show 0 ≤ c + 1; omega, by show c + 1 ≤ n + 1; omega, I.d0, I.a0, I.l⟩
  have fin : ∀ {ct : Out Ctl} {x : Int} {s' : Ms}, ct = .ok (.rt (.int x)) s' → (ct.bind fun c s => match c with
      | .nx _ => Out.ok D.non s
      | .rt d => .ok d s
      | _ => .bad) = .ok (.int x) s' := fun {ct x s'} e => by rw [e]; rfl
  have start : e__law_draw [.pen, .int many] ⟨some ⟨cs, a, d, c, f⟩, o, r⟩ = ((evSs T2.gx m__law_draw (rd many) (sp cs a d c f o r)).bind fun c s => match c with
      | .nx _ => Out.ok D.non s
      | .rt d => .ok d s
      | _ => .bad) := rfl
  rw [start, draw_parts, ss_cons_eq, v1]
  by_cases h : (PyData.eqv (.int d) (.int 0) && decide (a < cs.length)) = true
  · have hl : a < cs.length := by
      rw [Bool.and_eq_true] at h
      exact of_decide_eq_true h.2
    have hx : ∃ x, cs[a.toNat]? = some x := ⟨cs[a.toNat]'(by omega), by rw [List.getElem?_eq_getElem]⟩
    obtain ⟨x, hx⟩ := hx
    have ha : L2.atI (cs.map D.int) a = some (.int x) := by
      unfold L2.atI ixN
      rw [List.length_map, if_pos i2, if_pos hl]
      show (cs.map D.int)[a.toNat]? = _
      rw [List.getElem?_map, hx]; rfl
    have mid : ∃ d' f', evSs T2.gx (.cons q3 (.cons q4 (.cons (.ife q5t (.cons q5a .nil) (.cons q5b .nil)) .nil))) (rd many) (sp cs a d (c + 1) f o r) = .ok (.nx [.sh .pen, .sh (.int many), .sh (.int x), .no, .no]) (sp cs (a + 1) d' (c + 1) f' o r) ∧ PenI (n + 1) ⟨cs, a + 1, d', c + 1, f'⟩ := by
      rw [ss_cons_eq, v3 cs a d (c + 1) f o r many x ha]
      show ∃ d' f', evSs T2.gx (.cons q4 (.cons (.ife q5t (.cons q5a .nil) (.cons q5b .nil)) .nil)) [.sh .pen, .sh (.int many), .sh (.int x), .no, .no] (sp cs a d (c + 1) f o r) = .ok (.nx [.sh .pen, .sh (.int many), .sh (.int x), .no, .no]) (sp cs (a + 1) d' (c + 1) f' o r) ∧ PenI (n + 1) ⟨cs, a + 1, d', c + 1, f'⟩
      rw [ss_cons_eq, v4]
      show ∃ d' f', evSs T2.gx (.cons (.ife q5t (.cons q5a .nil) (.cons q5b .nil)) .nil) [.sh .pen, .sh (.int many), .sh (.int x), .no, .no] (sp cs (a + 1) d (c + 1) f o r) = .ok (.nx [.sh .pen, .sh (.int many), .sh (.int x), .no, .no]) (sp cs (a + 1) d' (c + 1) f' o r) ∧ PenI (n + 1) ⟨cs, a + 1, d', c + 1, f'⟩
      rw [ss_cons_eq, dr_ife (v5t cs (a + 1) d (c + 1) f o r many x)]
      have id := I.d0
      have if0 := I.f0
      simp only at id if0
      by_cases hc : (10 : Int) ^ 18 ≤ x
      · refine ⟨x - 10 ^ 18, f, ?_, ⟨I.f0, I.f1, by show 0 ≤ c + 1; omega, by show c + 1 ≤ n + 1; omega, by show 0 ≤ x - 10 ^ 18; omega, by show 0 ≤ a + 1; omega, I.l⟩⟩
        rw [decide_eq_true hc, if_pos rfl, ss_cons_eq, v5a]
        rfl
      · refine ⟨d, (f * 62089911 + x) % 2147483497, ?_, ⟨Int.emod_nonneg _ (by decide), Int.lt_trans (Int.emod_lt_of_pos _ (by decide)) (by decide), by show 0 ≤ c + 1; omega, by show c + 1 ≤ n + 1; omega, I.d0, by show 0 ≤ a + 1; omega, I.l⟩⟩
        rw [decide_eq_false hc, if_neg Bool.false_ne_true, ss_cons_eq, v5b]
        rfl
    obtain ⟨d', f', em, I2⟩ := mid
    obtain ⟨x', d2, e2, x0, x1, I3⟩ := tail2 cs (a + 1) d' (c + 1) f' o r many (.sh (.int x)) ⟨x, .inl rfl⟩ hm (n + 1) (by omega) I2
    refine ⟨x', ⟨cs, a + 1, d2, c + 1, f'⟩, fin ?_, x0, x1, I3⟩
    show evSs T2.gx (.cons (.ife q2t _ .nil) tl2) (rd many) (sp cs a d (c + 1) f o r) = _
    rw [ss_cons_eq, dr_ife (v2 cs a d (c + 1) f o r many true h), if_pos rfl, em]
    exact e2
  · have h' : (PyData.eqv (.int d) (.int 0) && decide (a < cs.length)) = false := by
      cases z : (PyData.eqv (.int d) (.int 0) && decide (a < cs.length)) with
      | true => exact absurd z h
      | false => rfl
    obtain ⟨x', d2, e2, x0, x1, I3⟩ := tail2 cs a d (c + 1) f o r many .no ⟨0, .inr rfl⟩ hm (n + 1) (by omega) I1
    refine ⟨x', ⟨cs, a, d2, c + 1, f⟩, fin ?_, x0, x1, I3⟩
    show evSs T2.gx (.cons (.ife q2t _ .nil) tl2) (rd many) (sp cs a d (c + 1) f o r) = _
    rw [ss_cons_eq, dr_ife (v2 cs a d (c + 1) f o r many false h'), if_neg Bool.false_ne_true]
    exact e2
end Mk
set_option Elab.async false
set_option linter.all false
set_option maxRecDepth 100000
set_option maxHeartbeats 2000000
/-! Plain1: drawing, picking, shuffling. -/
namespace Mk
open PySem PySem.Spec PyProof.Rows L2 Mp
/-- the state after at most n drawings -/
def St (n : Int) (s : Ms) : Prop := s.env = none ∧ ∃ p, s.pen = some p ∧ PenI n p
theorem St.le {n m : Int} {s : Ms} (h : St n s) (l : n ≤ m) : St m s := by
  obtain ⟨e, p, h1, I⟩ := h
  exact ⟨e, p, h1, ⟨I.f0, I.f1, I.c0, Int.le_trans I.c1 l, I.d0, I.a0, I.l⟩⟩
theorem draw_st {n : Int} {s : Ms} (h : St n s) (hn : n < 999999999) {many : Int} (hm : 0 < many ∧ many < 1073741824) : ∃ x s', e__law_draw [.pen, .int many] s = .ok (.int x) s' ∧ 0 ≤ x ∧ x < many ∧ St (n + 1) s' := by
  obtain ⟨e, p, h1, I⟩ := h
  obtain ⟨x, p', h2, h3, h4, I'⟩ := draw hn h1 I hm
  exact ⟨x, _, h2, h3, h4, e, p', rfl, I'⟩
theorem atI_of {xs : List D} {i : Int} {x : D} (h0 : 0 ≤ i) (h : xs[i.toNat]? = some x) : L2.atI xs i = some x := by
  have hl : i < xs.length := by
    by_cases z : i < xs.length
    · exact z
    · rw [List.getElem?_eq_none (by omega)] at h; cases h
  unfold L2.atI ixN
  rw [if_pos h0, if_pos hl]
  exact h
theorem fn3_draw : T3.gx.g.fn "_law_draw" = some e__law_draw := by kernel_rfl
/-- a drawn one of these -/
theorem pick_st {n : Int} {s : Ms} (h : St n s) (hn : n < 999999999) {q : D} {xs : List D} (hq : q = .lst xs ∨ q = .tup xs) (h0 : 0 < xs.length) (hl : xs.length < 1000000) : ∃ x s', e__law_pick [.pen, q] s = .ok x s' ∧ x ∈ xs ∧ St (n + 1) s' := by
  obtain ⟨i, s', h1, h2, h3, h4⟩ := draw_st h hn (many := xs.length) ⟨by omega, by omega⟩
  have hi : i.toNat < xs.length := by omega
  refine ⟨xs[i.toNat], s', den_rt rfl (ss_ret (ret_eq ?_)), List.getElem_mem hi, h4⟩
  have v0 : ∀ l : List (Option D), l = [some .pen, some q] → ev T3.gx.g (.var 0) l s = .ok .pen s := fun l e => by subst e; rfl
  have v1 : ∀ l : List (Option D), l = [some .pen, some q] → ev T3.gx.g (.var 1) l s = .ok q s := fun l e => by subst e; rfl
  have len : ev T3.gx.g (.bi .len (.cons (.var 1) .nil)) [some .pen, some q] s = .ok (.int xs.length) s := by
    refine bi_eq (evs_one (v1 _ rfl)) ?_
    rcases hq with e | e <;> subst e <;> rfl
  show ev T3.gx.g (.ix (.var 1) (.call "_law_draw" (.cons (.var 0) (.cons (.bi .len (.cons (.var 1) .nil)) .nil)))) [some .pen, some q] s = _
  refine ix_eq (v1 _ rfl) ((call_eq fn3_draw (evs_cons (v0 _ rfl) (evs_one len))).trans h1) ?_
  unfold ixD
  have hit : itemsD q = some xs := by rcases hq with e | e <;> subst e <;> rfl
  rw [hit]
  exact atI_of h2 (by rw [List.getElem?_eq_getElem hi])
/-! ### shuffling -/
abbrev shB : Ss := .cons (.apop 3 2 { kp := true } (.call "_law_draw" (.cons (.var 0) (.cons (.bi .len (.cons (.var 2) .nil)) .nil)))) .nil
theorem perm_erase : ∀ (xs : List D) (i : Nat) (hi : i < xs.length), (xs[i] :: xs.eraseIdx i).Perm xs
  | x :: xs, 0, _ => .refl _
  | x :: xs, i + 1, hi => by
    have hi' : i < xs.length := by simpa using hi
    exact (List.Perm.swap x xs[i] _).trans ((perm_erase xs i hi').cons x)
theorem big_le : 1000000 ≤ sizeLine := by decide
theorem perm_step {xs ys zs : List D} {i : Nat} (hi : i < xs.length) (h : (ys ++ xs).Perm zs) : ((ys ++ [xs[i]]) ++ xs.eraseIdx i).Perm zs := by
  refine List.Perm.trans ?_ h
  rw [List.append_assoc]
  refine List.Perm.append_left ys ?_
  show (xs[i] :: xs.eraseIdx i).Perm xs
  exact perm_erase xs i hi
theorem sh_loop {q : D} : ∀ (m : Nat) (js : List D) (xs ys : List D) (lap : Sl) (n : Int) (s : Ms), js.length = m → xs.length = m → St n s → n + m < 999999999 → xs.length + ys.length < 1000000 → (∀ ds, lap ≠ .ow ds) →
    ∃ zs lap' s', evFor (.v 4) (fun ρ s => evSs T3.gx shB ρ s) js [.sh .pen, .sh q, .ow xs, .ow ys, lap] s = .ok (.nx [.sh .pen, .sh q, .ow [], .ow zs, lap']) s' ∧ zs.Perm (ys ++ xs) ∧ St (n + m) s'
  | 0, [], [], ys, lap, n, s, _, _, h, _, _, _ => ⟨ys, lap, s, rfl, by simp, by simpa using h⟩
  | m + 1, j :: js, xs, ys, lap, n, s, hj, hx, h, hn, hl, hlap => by
    obtain ⟨i, s1, h1, h2, h3, h4⟩ := draw_st h (by omega) (many := xs.length) ⟨by omega, by omega⟩
    have hi : i.toNat < xs.length := by omega
    have he : (xs.eraseIdx i.toNat).length = m := by rw [List.length_eraseIdx_of_lt hi]; omega
    obtain ⟨zs, lap', s', k1, k2, k3⟩ := sh_loop (q := q) m js (xs.eraseIdx i.toNat) (ys ++ [xs[i.toNat]]) (.sh j) (n + 1) s1 (by simpa using hj) he h4 (by omega) (by rw [he, List.length_append, List.length_singleton]; omega) (fun ds z => by cases z)
    refine ⟨zs, lap', s', ?_, k2.trans (perm_step hi (.refl _)), by have := k3; rw [show n + 1 + (m : Int) = n + ((m + 1 : Nat) : Int) by omega] at this; exact this⟩
    -- one turn
    have v0 : ∀ l : List (Option D), l[0]? = some (some .pen) → ev T3.gx.g (.var 0) l s = .ok .pen s := fun l e => var_eq e
    have one : evSs T3.gx shB [.sh .pen, .sh q, .ow xs, .ow ys, .sh j] s = .ok (.nx [.sh .pen, .sh q, .ow (xs.eraseIdx i.toNat), .ow (ys ++ [xs[i.toNat]]), .sh j]) s1 := by
      have len : ev T3.gx.g (.bi .len (.cons (.var 2) .nil)) (look (vsE (.call "_law_draw" (.cons (.var 0) (.cons (.bi .len (.cons (.var 2) .nil)) .nil)))) [.sh .pen, .sh q, .ow xs, .ow ys, .sh j]) s = .ok (.int xs.length) s := by
        refine bi_eq (ds := [.lst xs]) (evs_one (var_eq rfl)) rfl
      have e1 : ev T3.gx.g (.call "_law_draw" (.cons (.var 0) (.cons (.bi .len (.cons (.var 2) .nil)) .nil))) (look (vsE (.call "_law_draw" (.cons (.var 0) (.cons (.bi .len (.cons (.var 2) .nil)) .nil)))) [.sh .pen, .sh q, .ow xs, .ow ys, .sh j]) s = .ok (.int i) s1 :=
        (call_eq fn3_draw (evs_cons (var_eq rfl) (evs_one len))).trans h1
      have e2 : evX T3.gx.g true (.call "_law_draw" (.cons (.var 0) (.cons (.bi .len (.cons (.var 2) .nil)) .nil))) [.sh .pen, .sh q, .ow xs, .ow ys, .sh j] s = .ok (.int i, [.sh .pen, .sh q, .ow xs, .ow ys, .sh j]) s1 := by
        unfold evX
        rw [e1]; rfl
      have hb : bnd62 i = true := by
        unfold bnd62
        rw [decide_eq_true_iff]
        show -(4611686018427387904 : Int) ≤ i ∧ i < 4611686018427387904
        omega
      have e3 : popS 2 (.int i) [.sh .pen, .sh q, .ow xs, .ow ys, .sh j] = some (xs[i.toNat], [.sh .pen, .sh q, .ow (xs.eraseIdx i.toNat), .ow ys, .sh j]) := by
        show (match ixN xs.length i with
          | some n => match xs[n]? with
            | some d => if bnd62 i = true then some (d, ([.sh .pen, .sh q, .ow xs, .ow ys, .sh j] : List Sl).set 2 (.ow (xs.eraseIdx n))) else none
            | none => none
          | none => none) = _
        have hix : ixN xs.length i = some i.toNat := by
          unfold ixN
          rw [if_pos h2, if_pos h3]
        rw [hix]
        show (match xs[i.toNat]? with
            | some d => if bnd62 i = true then some (d, ([.sh .pen, .sh q, .ow xs, .ow ys, .sh j] : List Sl).set 2 (.ow (xs.eraseIdx i.toNat))) else none
            | none => none) = _
        rw [List.getElem?_eq_getElem hi]
        show (if bnd62 i = true then some (xs[i.toNat], ([.sh .pen, .sh q, .ow xs, .ow ys, .sh j] : List Sl).set 2 (.ow (xs.eraseIdx i.toNat))) else none) = _
        rw [if_pos hb]; rfl
      have e4 : appS 3 xs[i.toNat] [.sh .pen, .sh q, .ow (xs.eraseIdx i.toNat), .ow ys, .sh j] = some [.sh .pen, .sh q, .ow (xs.eraseIdx i.toNat), .ow (ys ++ [xs[i.toNat]]), .sh j] := by
        show (if ys.length < sizeLine then some _ else none) = _
        rw [if_pos (Nat.lt_of_lt_of_le (by omega : ys.length < 1000000) big_le)]; rfl
      refine (ss_seq (s' := s1) (ρ' := [.sh .pen, .sh q, .ow (xs.eraseIdx i.toNat), .ow (ys ++ [xs[i.toNat]]), .sh j]) ?_).trans rfl
      show (evX T3.gx.g true _ _ s).bind _ = _
      rw [e2]
      show (Out.opt (popS 2 (.int i) [.sh .pen, .sh q, .ow xs, .ow ys, .sh j]) s1).bind _ = _
      rw [e3]
      show (Out.opt (appS 3 xs[i.toNat] [.sh .pen, .sh q, .ow (xs.eraseIdx i.toNat), .ow ys, .sh j]) s1).bind _ = _
      rw [e4]; rfl
    show (evSs T3.gx shB [.sh .pen, .sh q, .ow xs, .ow ys, .sh j] s).bind _ = _
    rw [one]
    exact k1
theorem shuffled_st {n : Int} {s : Ms} (h : St n s) {q : D} {xs : List D} (hq : q = .lst xs ∨ q = .tup xs) (hn : n + xs.length < 999999999) (hl : xs.length < 1000000) : ∃ ys s', e__law_shuffled [.pen, q] s = .ok (.lst ys) s' ∧ ys.Perm xs ∧ St (n + xs.length) s' := by
  have hr : (rngD 0 xs.length).length = xs.length := by unfold rngD; simp
  obtain ⟨zs, lap', s', k1, k2, k3⟩ := sh_loop (q := q) xs.length (rngD 0 xs.length) xs [] .no n s hr rfl h (by omega) (by simpa using hl) (fun ds z => by cases z)
  refine ⟨zs, s', den_rt rfl ?_, by simpa using k2, k3⟩
  have e1 : ev T3.gx.g (.bi .list (.cons (.var 1) .nil)) [some .pen, some q, none, none, none] s = .ok (.lst xs) s := by
    refine bi_eq (evs_one (var_eq rfl)) ?_
    rcases hq with e | e <;> subst e <;> rfl
  have p1 : evS T3.gx (.par 2 3 { ow := true } { ow := true } (.bi .list (.cons (.var 1) .nil)) (.lst .nil)) [.sh .pen, .sh q, .no, .no, .no] s = .ok (.nx [.sh .pen, .sh q, .ow xs, .ow [], .no]) s := by
    show (evV T3.gx.g { ow := true } (.bi .list (.cons (.var 1) .nil)) [.sh .pen, .sh q, .no, .no, .no] s).bind _ = _
    have e2 : evV T3.gx.g { ow := true } (.bi .list (.cons (.var 1) .nil)) [.sh .pen, .sh q, .no, .no, .no] s = .ok (.ow xs, [.sh .pen, .sh q, .no, .no, .no]) s := by
      unfold evV
      rw [if_pos rfl]
      unfold evN
      show ((ev T3.gx.g (.bi .list (.cons (.var 1) .nil)) [some .pen, some q, none, none, none] s).bind _).bind _ = _
      rw [e1]; rfl
    rw [e2]; rfl
  refine (ss_seq p1).trans ?_
  have l1 : ev T3.gx.g (.bi .len (.cons (.var 1) .nil)) [some .pen, some q, none, none, none] s = .ok (.int xs.length) s := by
    refine bi_eq (evs_one (var_eq rfl)) ?_
    rcases hq with e | e <;> subst e <;> rfl
  have it1 : evi T3.gx.g (.rng1 (.bi .len (.cons (.var 1) .nil))) (look (vsI (.rng1 (.bi .len (.cons (.var 1) .nil)))) [.sh .pen, .sh q, .ow xs, .ow [], .no]) s = .ok (rngD 0 xs.length) s := by
    have hb : bnd62 (xs.length : Int) = true := by
      unfold bnd62
      rw [decide_eq_true_iff]
      show -(4611686018427387904 : Int) ≤ xs.length ∧ (xs.length : Int) < 4611686018427387904
      omega
    exact rng1_eq (i := xs.length) l1 hb
  refine (ss_seq (for_eq it1 k1)).trans ?_
  exact ss_ret (ret_eq (show ev T3.gx.g (.var 3) _ s' = _ from var_eq rfl))
end Mk
set_option Elab.async false
set_option linter.all false
set_option maxRecDepth 100000
set_option maxHeartbeats 0
namespace Mk
open PySem PySem.Spec PyProof.Rows L2 Mp
def lotL (n : Nat) : List Nat := (List.range 6).filter fun k => n.testBit k
def lotD (n : Nat) : D := .tup ((lotL n).map fun k => D.int (Int.ofNat k))
theorem map_at {α β : Type} {f g : α → β} {l : List α} (h : l.map f = l.map g) : ∀ x ∈ l, f x = g x := List.map_inj_left.mp h
theorem bits_fin (s : Ms) : (List.range 64).map (fun n => e_bits_of [lotD n] s) = (List.range 64).map (fun n => .ok (.int (n : Int)) s) := by kernel_rfl
end Mk
set_option Elab.async false
set_option linter.all false
set_option maxRecDepth 100000
set_option maxHeartbeats 0
namespace Mk
open PySem PySem.Spec PyProof.Rows L2 Mp
/-- antichains of these numbers, each sorted -/
def acs : List Nat → List (List Nat)
  | [] => [[]]
  | x :: xs => let r := acs xs; r ++ (r.filter fun l => l.all fun y => ((x &&& y) != x) && ((x &&& y) != y)).map (x :: ·)
def nums (sh : Nat) : List Nat := (List.range (2 ^ sh - 1)).map fun k => 2 * (k + 1)
def acN (sh : Nat) : List (List Nat) := (acs (nums sh)).filter fun l => !l.isEmpty
def lotsD (ns : List Nat) : D := .tup (ns.map lotD)
def accD (sh : Nat) (ns : List Nat) : D := .ins "Access" 0 [("shares", .int (Int.ofNat sh)), ("least", lotsD ns)]
def lotI (n : Nat) : List Int := (lotL n).map Int.ofNat
/-- all of them, in the order of their lots -/
def accL (sh : Nat) : List (List Nat) := sortT (fun a b => ltK (a.map lotI) (b.map lotI)) (acN sh)
theorem ac_len : (List.map (fun sh => (acN sh).length) [1, 2, 3, 4]) = [1, 4, 18, 166] := by decide +kernel
theorem acc3 (s : Ms) : e_accesses [.int 3] s = .ok (.tup ((accL 3).map (accD 3))) s := by kernel_rfl
end Mk
set_option Elab.async false
set_option linter.all false
set_option maxRecDepth 100000
set_option maxHeartbeats 2000000
/-! Plain2: drawn access. -/
namespace Mk
open PySem PySem.Spec PyProof.Rows L2 Mp
abbrev nI (n : Nat) : D := .int (Int.ofNat n)
theorem lot_fin (s : Ms) : (List.range 64).map (fun n => e__law_lot [nI n] s) = (List.range 64).map (fun n => .ok (lotD n) s) := by kernel_rfl
theorem ofb_fin (s : Ms) : (List.range 64).map (fun n => e_of_bits [nI n] s) = (List.range 64).map (fun n => .ok (lotD n) s) := by kernel_rfl
theorem lbits_fin (s : Ms) : (List.range 64).map (fun n => e__law_bits [lotD n] s) = (List.range 64).map (fun n => .ok (nI n) s) := by kernel_rfl
theorem law_lot {n : Nat} (h : n < 64) (s : Ms) : e__law_lot [nI n] s = .ok (lotD n) s := map_at (lot_fin s) n (List.mem_range.mpr h)
theorem of_bits {n : Nat} (h : n < 64) (s : Ms) : e_of_bits [nI n] s = .ok (lotD n) s := map_at (ofb_fin s) n (List.mem_range.mpr h)
theorem bits_of {n : Nat} (h : n < 64) (s : Ms) : e_bits_of [lotD n] s = .ok (nI n) s := map_at (bits_fin s) n (List.mem_range.mpr h)
/-- one of the two is within the other -/
def inc (a b : Nat) : Bool := ((a &&& b) == a) || ((a &&& b) == b)
def e_inc : E := .cmp .In (.bin .BitAnd (.var 3) (.var 5)) (.tup (.cons (.var 3) (.cons (.var 5) .nil)))
def pairs32 : List (Nat × Nat) := (List.range 32).flatMap fun a => (List.range 32).map fun b => (a, b)
theorem mem32 {a b : Nat} (ha : a < 32) (hb : b < 32) : (a, b) ∈ pairs32 := List.mem_flatMap.mpr ⟨a, List.mem_range.mpr ha, List.mem_map.mpr ⟨b, List.mem_range.mpr hb, rfl⟩⟩
theorem inc_fin (x0 x1 x2 x4 : Option D) (s : Ms) : pairs32.map (fun p => ev T4.gx.g e_inc [x0, x1, x2, some (nI p.1), x4, some (nI p.2)] s) = pairs32.map (fun p => .ok (.bl (inc p.1 p.2)) s) := by kernel_rfl
theorem inc_eq {a b : Nat} (ha : a < 32) (hb : b < 32) (x0 x1 x2 x4 : Option D) (s : Ms) : ev T4.gx.g e_inc [x0, x1, x2, some (nI a), x4, some (nI b)] s = .ok (.bl (inc a b)) s := map_at (inc_fin x0 x1 x2 x4 s) (a, b) (mem32 ha hb)
theorem fn4_draw : T4.gx.g.fn "_law_draw" = some e__law_draw := by kernel_rfl
theorem fn4_shuf : T4.gx.g.fn "_law_shuffled" = some e__law_shuffled := by kernel_rfl
theorem fn4_lot : T4.gx.g.fn "_law_lot" = some e__law_lot := by kernel_rfl
/-- those that are taken, one after the other -/
def greedy (fs : List Nat) : List Nat → List Nat
  | [] => fs
  | a :: l => if fs.any (inc a) then greedy fs l else greedy (fs ++ [a]) l
theorem greedy_sub : ∀ (l fs : List Nat), ∀ x ∈ greedy fs l, x ∈ fs ∨ x ∈ l
  | [], fs, x, h => .inl h
  | a :: l, fs, x, h => by
    unfold greedy at h
    split at h
    · rcases greedy_sub l fs x h with z | z
      · exact .inl z
      · exact .inr (List.mem_cons_of_mem _ z)
    · rcases greedy_sub l _ x h with z | z
      · rcases List.mem_append.mp z with z | z
        · exact .inl z
        · rw [List.mem_singleton.mp z]; exact .inr List.mem_cons_self
      · exact .inr (List.mem_cons_of_mem _ z)
theorem greedy_keep : ∀ (l fs : List Nat), ∀ x ∈ fs, x ∈ greedy fs l
  | [], fs, x, h => h
  | a :: l, fs, x, h => by
    unfold greedy
    split
    · exact greedy_keep l fs x h
    · exact greedy_keep l _ x (List.mem_append_left _ h)
/-- none of these within another one -/
abbrev Anti (l : List Nat) : Prop := l.Pairwise fun a b => inc b a = false
theorem greedy_anti : ∀ (l fs : List Nat), Anti fs → Anti (greedy fs l)
  | [], fs, h => h
  | a :: l, fs, h => by
    unfold greedy
    split
    · exact greedy_anti l fs h
    · rename_i hn
      refine greedy_anti l _ (List.pairwise_append.mpr ⟨h, List.pairwise_singleton _ _, fun x hx y hy => ?_⟩)
      rw [List.mem_singleton.mp hy]
      have z : fs.any (inc a) = false := by simpa using hn
      exact List.any_eq_false.mp z x hx |> fun q => by simpa using q
theorem greedy_ne {a : Nat} {l : List Nat} : greedy [] (a :: l) ≠ [] := by
  have h := greedy_keep l [a] a List.mem_cons_self
  intro z
  have e : greedy [] (a :: l) = greedy [a] l := rfl
  rw [e] at z
  rw [z] at h
  cases h
theorem inc_self (a : Nat) : inc a a = true := by simp [inc]
theorem inc_symm {a b : Nat} : inc a b = inc b a := by
  unfold inc
  rw [Nat.and_comm b a, Bool.or_comm]
theorem anti_nodup {l : List Nat} (h : Anti l) : l.Nodup := h.imp fun {a b} z e => by
  subst e
  rw [inc_self] at z; cases z
/-- the loop of the drawing -/
abbrev acB : Ss := .cons (.ife (.not (.bi .any (.cons (.lc (.v 5) (.e (.var 4)) .no e_inc) .nil))) (.cons (.app 4 {} (.var 3)) .nil) .nil) .nil
theorem ac_turn {x0 x1 x2 : D} {a : Nat} {fs : List Nat} {s : Ms} (ha : a < 32) (hf : ∀ b ∈ fs, b < 32) (hl : fs.length < 1000) :
    evSs T4.gx acB [.sh x0, .sh x1, .sh x2, .sh (nI a), .ow (fs.map nI), .no] s = .ok (.nx [.sh x0, .sh x1, .sh x2, .sh (nI a), .ow ((if fs.any (inc a) then fs else fs ++ [a]).map nI), .no]) s := by
  have e1 : ev T4.gx.g (.bi .any (.cons (.lc (.v 5) (.e (.var 4)) .no e_inc) .nil)) [some x0, some x1, some x2, some (nI a), some (.lst (fs.map nI)), none] s = .ok (.bl (fs.any (inc a))) s :=
    any_eq nI (inc a) (it_e (var_eq rfl) rfl) (fun b hb => ⟨_, rfl, inc_eq ha (hf b hb) _ _ _ _ s⟩) (Nat.le_of_lt (Nat.lt_of_lt_of_le (by omega : fs.length < 1000000) big_le))
  have e2 := not_eq e1 (k := fs.any (inc a)) rfl
  have e3 : evS T4.gx (.ife (.not (.bi .any (.cons (.lc (.v 5) (.e (.var 4)) .no e_inc) .nil))) (.cons (.app 4 {} (.var 3)) .nil) .nil) [.sh x0, .sh x1, .sh x2, .sh (nI a), .ow (fs.map nI), .no] s = _ := ife_eq (k := !fs.any (inc a)) e2 rfl
  cases z : fs.any (inc a) with
  | true =>
    rw [z] at e3
    exact (ss_seq (e3.trans rfl)).trans rfl
  | false =>
    rw [z] at e3
    refine (ss_seq (s' := s) (ρ' := [.sh x0, .sh x1, .sh x2, .sh (nI a), .ow ((fs ++ [a]).map nI), .no]) (e3.trans ?_)).trans rfl
    show evSs T4.gx (.cons (.app 4 {} (.var 3)) .nil) [.sh x0, .sh x1, .sh x2, .sh (nI a), .ow (fs.map nI), .no] s = _
    refine (ss_seq (s' := s) (ρ' := [.sh x0, .sh x1, .sh x2, .sh (nI a), .ow ((fs ++ [a]).map nI), .no]) ?_).trans rfl
    show (Out.opt (appS 4 (nI a) [.sh x0, .sh x1, .sh x2, .sh (nI a), .ow (fs.map nI), .no]) s).bind _ = _
    have e4 : appS 4 (nI a) [.sh x0, .sh x1, .sh x2, .sh (nI a), .ow (fs.map nI), .no] = some [.sh x0, .sh x1, .sh x2, .sh (nI a), .ow ((fs ++ [a]).map nI), .no] := by
      show (if (fs.map nI).length < sizeLine then some ([.sh x0, .sh x1, .sh x2, .sh (nI a), .ow (fs.map nI ++ [nI a]), .no] : List Sl) else none) = _
      rw [if_pos (by rw [List.length_map]; exact Nat.lt_of_lt_of_le (by omega : fs.length < 1000000) big_le), List.map_append]; rfl
    rw [e4]; rfl
theorem ac_loop {x0 x1 x2 : D} {s : Ms} : ∀ (l fs : List Nat) (y : Sl), (∀ a ∈ l, a < 32) → (∀ b ∈ fs, b < 32) → fs.length + l.length < 1000 →
    ∃ y', evFor (.v 3) (fun ρ s => evSs T4.gx acB ρ s) (l.map nI) [.sh x0, .sh x1, .sh x2, y, .ow (fs.map nI), .no] s = .ok (.nx [.sh x0, .sh x1, .sh x2, y', .ow ((greedy fs l).map nI), .no]) s
  | [], fs, y, _, _, _ => ⟨y, rfl⟩
  | a :: l, fs, y, ha, hf, hl => by
    have hl' : fs.length + (l.length + 1) < 1000 := hl
    have t := ac_turn (x0 := x0) (x1 := x1) (x2 := x2) (s := s) (ha a List.mem_cons_self) hf (by omega)
    have go : ∀ fs' : List Nat, fs' = (if fs.any (inc a) then fs else fs ++ [a]) → ∃ y', evFor (.v 3) (fun ρ s => evSs T4.gx acB ρ s) (l.map nI) [.sh x0, .sh x1, .sh x2, .sh (nI a), .ow (fs'.map nI), .no] s = .ok (.nx [.sh x0, .sh x1, .sh x2, y', .ow ((greedy fs' l).map nI), .no]) s := fun fs' e => by
      refine ac_loop l fs' (.sh (nI a)) (fun b hb => ha b (List.mem_cons_of_mem _ hb)) (fun b hb => ?_) ?_
      · rw [e] at hb
        split at hb
        · exact hf b hb
        · rcases List.mem_append.mp hb with z | z
          · exact hf b z
          · rw [List.mem_singleton.mp z]; exact ha a List.mem_cons_self
      · rw [e]; split <;> first | omega | (simp; omega)
    obtain ⟨y', h⟩ := go _ rfl
    refine ⟨y', ?_⟩
    show (evSs T4.gx acB [.sh x0, .sh x1, .sh x2, .sh (nI a), .ow (fs.map nI), .no] s).bind _ = _
    rw [t]
    show evFor (.v 3) (fun ρ s => evSs T4.gx acB ρ s) (l.map nI) _ s = _
    rw [h]
    have eg : greedy fs (a :: l) = greedy (if fs.any (inc a) then fs else fs ++ [a]) l := by
      show (if fs.any (inc a) = true then greedy fs l else greedy (fs ++ [a]) l) = _
      split <;> rfl
    rw [eg]
/-- what is sorted: those of nums that were taken -/
theorem sub_acs : ∀ {l L : List Nat}, l.Sublist L → Anti l → l ∈ acs L
  | _, _, .slnil, _ => List.mem_cons_self
  | _, _, .cons a h, hA => List.mem_append_left _ (sub_acs h hA)
  | _, _, .cons₂ a h, hA => by
    have hA' := List.pairwise_cons.mp hA
    refine List.mem_append_right _ (List.mem_map.mpr ⟨_, List.mem_filter.mpr ⟨sub_acs h hA'.2, ?_⟩, rfl⟩)
    rw [List.all_eq_true]
    intro y hy
    have z := hA'.1 y hy
    rw [inc_symm] at z
    unfold inc at z
    rw [Bool.or_eq_false_iff] at z
    rw [Bool.and_eq_true]
    exact ⟨by simpa using z.1, by simpa using z.2⟩
end Mk
set_option Elab.async false
set_option linter.all false
set_option maxRecDepth 100000
set_option maxHeartbeats 2000000
/-! Plain3: drawn access, the whole. -/
namespace Mk
open PySem PySem.Spec PyProof.Rows L2 Mp
abbrev shs : List Nat := [1, 2, 3, 4]
theorem nums_lt {sh : Nat} (h : sh ∈ shs) : ∀ n ∈ nums sh, n < 32 := by
  have : ∀ sh ∈ shs, ∀ n ∈ nums sh, n < 32 := by decide +kernel
  exact this sh h
theorem nums_srt {sh : Nat} (h : sh ∈ shs) : (nums sh).Pairwise (· < ·) := by
  have : ∀ sh ∈ shs, (nums sh).Pairwise (· < ·) := by decide +kernel
  exact this sh h
theorem nums_len {sh : Nat} (h : sh ∈ shs) : 1 ≤ (nums sh).length ∧ (nums sh).length ≤ 15 := by
  have : ∀ sh ∈ shs, 1 ≤ (nums sh).length ∧ (nums sh).length ≤ 15 := by decide +kernel
  exact this sh h
/-- [number << 1 for number in range(1, 1 << shares)] -/
def e_nums : E := .lc (.v 3) (.rng2 (.lit (.int 1)) (.bin .LShift (.lit (.int 1)) (.var 1))) .no (.bin .LShift (.var 3) (.lit (.int 1)))
theorem nums_fin (x0 x2 x3 x4 x5 : Option D) (s : Ms) : shs.map (fun sh => ev T4.gx.g e_nums [x0, some (nI sh), x2, x3, x4, x5] s) = shs.map (fun sh => .ok (.lst ((nums sh).map nI)) s) := by kernel_rfl
/-- those of nums that were taken, in order -/
theorem srt_of {sh : Nat} (h : sh ∈ shs) {fs : List Nat} (hA : Anti fs) (hs : ∀ x ∈ fs, x ∈ nums sh) : ∃ ns, sortI (fs.map Int.ofNat) = ns.map Int.ofNat ∧ ns.Perm fs ∧ Anti ns ∧ ns.Sublist (nums sh) := by
  have sub : ((nums sh).filter fun n => decide (n ∈ fs)).Sublist (nums sh) := List.filter_sublist
  have srt := (nums_srt h).sublist sub
  have nd : ((nums sh).filter fun n => decide (n ∈ fs)).Nodup := srt.imp fun {a b} q e => by omega
  have pm : ((nums sh).filter fun n => decide (n ∈ fs)).Perm fs := (List.perm_ext_iff_of_nodup nd (anti_nodup hA)).mpr fun a => by
    rw [List.mem_filter, decide_eq_true_iff]
    exact ⟨fun q => q.2, fun q => ⟨hs a q, q⟩⟩
  refine ⟨_, ?_, pm, ?_, sub⟩
  · refine srt_uniq (sortI_srt _) ?_ ((sortI_perm _).trans (pm.map Int.ofNat).symm)
    exact List.pairwise_map.mpr (srt.imp fun {a b} q => by
      show (Int.ofNat a) ≤ (Int.ofNat b)
      exact Int.ofNat_le.mpr (Nat.le_of_lt q))
  · exact pm.symm.pairwise hA fun {a b} q => by rw [inc_symm]; exact q
theorem ofNat_map (ns : List Nat) : (ns.map Int.ofNat).map D.int = ns.map nI := by rw [List.map_map]; rfl
theorem prim4_sorted : T4.gx.g.prim "sorted" = some (fun ds => match ds with
    | [.lst xs] => sortedD xs
    | _ => none) := by kernel_rfl
theorem sorted_ints {ns : List Nat} : sortedD (ns.map nI) = some (.lst ((sortI (ns.map Int.ofNat)).map D.int)) := by
  unfold sortedD
  rw [← ofNat_map, intsD_map]
abbrev ac4 : E := .slc (.var 2) .no (.yes (.bin .Add (.lit (.int 1)) (.call "_law_draw" (.cons (.var 0) (.cons (.lit (.int 6)) .nil)))))
abbrev acRet : E := .bi .tuple (.cons (.lc (.v 3) (.e (.prim "sorted" (.cons (.var 4) .nil))) .no (.call "_law_lot" (.cons (.var 3) .nil))) .nil)
theorem access_parts : m__law_access = .cons (.asg 2 {} (.call "_law_shuffled" (.cons (.var 0) (.cons e_nums .nil)))) (.cons (.asg 4 { ow := true } (.lst .nil)) (.cons (.for_ (.v 3) (.e ac4) acB) (.cons (.ret acRet) .nil))) := rfl
theorem access_st {n : Int} {s : Ms} (h : St n s) (hn : n < 900000000) {sh : Nat} (hsh : sh ∈ shs) : ∃ ns s', e__law_access [.pen, nI sh] s = .ok (lotsD ns) s' ∧ ns ∈ acN sh ∧ St (n + 16) s' := by
  have hlen := nums_len hsh
  obtain ⟨ys, s1, h1, hp, h2⟩ := shuffled_st h (q := .lst ((nums sh).map nI)) (xs := (nums sh).map nI) (.inl rfl) (by rw [List.length_map]; omega) (by rw [List.length_map]; omega)
  obtain ⟨i, s2, h3, h4, h5, h6⟩ := draw_st h2 (by rw [List.length_map]; omega) (many := 6) (by decide)
  -- the shuffled ones, as numbers
  obtain ⟨ms, hms, hpm⟩ : ∃ ms : List Nat, ys = ms.map nI ∧ ms.Perm (nums sh) := by
    have key : ∀ {ys : List D} {xs : List Nat}, ys.Perm (xs.map nI) → ∃ ms : List Nat, ys = ms.map nI ∧ ms.Perm xs := fun {ys xs} p => by
      obtain ⟨ms, q1, q2⟩ := P2.perm (F := fun (a : Nat) (d : D) => d = nI a) p.symm (as := xs) (by
        clear p
        induction xs with
        | nil => exact .nil
        | cons x xs ih => exact .cons rfl ih)
      refine ⟨ms, ?_, q2⟩
      clear q2 p
      induction q1 with
      | nil => rfl
      | cons e _ ih => rw [List.map_cons, ← ih, e]
    exact key hp
  subst hms
  have lt32 : ∀ a ∈ ms, a < 32 := fun a ha => nums_lt hsh a (hpm.mem_iff.mp ha)
  have hml : ms.length = (nums sh).length := hpm.length_eq
  -- the first 1 + i of them
  have hk : ∃ k, Mp.cutD (ms.map nI) none (some (1 + i)) = (ms.take k).map nI ∧ 1 ≤ k := by
    refine ⟨HT.sIx (ms.map nI).length (ms.map nI).length (some (1 + i)), ?_, ?_⟩
    · unfold Mp.cutD
      have z : HT.sIx (ms.map nI).length 0 none = 0 := rfl
      rw [z, List.drop_zero, Nat.sub_zero, List.map_take]
    · have hl1 : 1 ≤ (ms.map nI).length := by rw [List.length_map, hml]; exact hlen.1
      have e1 : HT.sIx (ms.map nI).length (ms.map nI).length (some (1 + i)) = min (1 + i).toNat (ms.map nI).length := by
        first | rfl | (unfold HT.sIx; simp; omega)
      rw [e1]
      omega
  obtain ⟨k, ek, hk1⟩ := hk
  obtain ⟨y', eL⟩ := ac_loop (x0 := .pen) (x1 := nI sh) (x2 := .lst (ms.map nI)) (s := s2) (ms.take k) [] .no (fun a ha => lt32 a (List.mem_of_mem_take ha)) (fun b hb => by cases hb) (by
    have := List.length_take_le' k ms
    simp only [List.length_nil]; omega)
  have hA := greedy_anti (ms.take k) [] List.Pairwise.nil
  have hsub : ∀ x ∈ greedy [] (ms.take k), x ∈ nums sh := fun x hx => by
    rcases greedy_sub _ _ x hx with z | z
    · cases z
    · exact hpm.mem_iff.mp (List.mem_of_mem_take z)
  obtain ⟨ns, es, pn, an, sb⟩ := srt_of hsh hA hsub
  have hne : ns ≠ [] := fun z => by
    rw [z] at pn
    have e := (List.Perm.nil_eq pn).symm
    cases em : ms.take k with
    | nil =>
      have := congrArg List.length em
      rw [List.length_take, hml, List.length_nil] at this
      omega
    | cons a l =>
      rw [em] at e
      exact greedy_ne e
  have lt32n : ∀ a ∈ ns, a < 32 := fun a ha => nums_lt hsh a (hsub a (pn.mem_iff.mp ha))
  refine ⟨ns, s2, ?_, List.mem_filter.mpr ⟨sub_acs sb an, by cases ns with
    | nil => exact absurd rfl hne
    | cons _ _ => rfl⟩, h6.le (by rw [List.length_map]; omega)⟩
  have em : ∀ (x0 x2 x3 x4 x5 : Option D) (s : Ms), ev T4.gx.g e_nums [x0, some (nI sh), x2, x3, x4, x5] s = .ok (.lst ((nums sh).map nI)) s := fun x0 x2 x3 x4 x5 s => map_at (nums_fin x0 x2 x3 x4 x5 s) sh hsh
  refine den_rt rfl ?_
  rw [access_parts]
  have a1 : evS T4.gx (.asg 2 {} (.call "_law_shuffled" (.cons (.var 0) (.cons e_nums .nil)))) [.sh .pen, .sh (nI sh), .no, .no, .no, .no] s = .ok (.nx [.sh .pen, .sh (nI sh), .sh (.lst (ms.map nI)), .no, .no, .no]) s1 :=
    asg_eq ((call_eq fn4_shuf (evs_cons (var_eq rfl) (evs_one (em _ _ _ _ _ _)))).trans h1)
  refine (ss_seq a1).trans ?_
  have a2 : evS T4.gx (.asg 4 { ow := true } (.lst .nil)) [.sh .pen, .sh (nI sh), .sh (.lst (ms.map nI)), .no, .no, .no] s1 = .ok (.nx [.sh .pen, .sh (nI sh), .sh (.lst (ms.map nI)), .no, .ow [], .no]) s1 := rfl
  refine (ss_seq a2).trans ?_
  have c1 : ev T4.gx.g (.call "_law_draw" (.cons (.var 0) (.cons (.lit (.int 6)) .nil))) (look (vsI (.e ac4)) [.sh .pen, .sh (nI sh), .sh (.lst (ms.map nI)), .no, .ow [], .no]) s1 = .ok (.int i) s2 :=
    (call_eq fn4_draw (evs_cons (var_eq rfl) (evs_one (lit_eq rfl)))).trans h3
  have c2 : ev T4.gx.g (.bin .Add (.lit (.int 1)) (.call "_law_draw" (.cons (.var 0) (.cons (.lit (.int 6)) .nil)))) (look (vsI (.e ac4)) [.sh .pen, .sh (nI sh), .sh (.lst (ms.map nI)), .no, .ow [], .no]) s1 = .ok (.int (1 + i)) s2 :=
    bin_eq (lit_eq rfl) c1 rfl
  have it1 : evi T4.gx.g (.e ac4) (look (vsI (.e ac4)) [.sh .pen, .sh (nI sh), .sh (.lst (ms.map nI)), .no, .ow [], .no]) s1 = .ok ((ms.take k).map nI) s2 := by
    refine it_e (x := .lst ((ms.take k).map nI)) ?_ rfl
    show (ev T4.gx.g (.var 2) _ s1).bind _ = _
    rw [show ev T4.gx.g (.var 2) (look (vsI (.e ac4)) [.sh .pen, .sh (nI sh), .sh (.lst (ms.map nI)), .no, .ow [], .no]) s1 = .ok (.lst (ms.map nI)) s1 from var_eq rfl]
    show ((ev T4.gx.g (.bin .Add (.lit (.int 1)) (.call "_law_draw" (.cons (.var 0) (.cons (.lit (.int 6)) .nil)))) (look (vsI (.e ac4)) [.sh .pen, .sh (nI sh), .sh (.lst (ms.map nI)), .no, .ow [], .no]) s1).bind _).bind _ = _
    rw [c2]
    show Out.opt (some (D.lst (Mp.cutD (ms.map nI) none (some (1 + i))))) s2 = _
    rw [ek]; rfl
  refine (ss_seq (for_eq it1 eL)).trans ?_
  refine ss_ret (ret_eq ?_)
  have r1 : ∀ x3 : Option D, ev T4.gx.g acRet [some .pen, some (nI sh), some (.lst (ms.map nI)), x3, some (.lst ((greedy [] (ms.take k)).map nI)), none] s2 = .ok (lotsD ns) s2 := fun x3 => by
    have so : ev T4.gx.g (.prim "sorted" (.cons (.var 4) .nil)) [some .pen, some (nI sh), some (.lst (ms.map nI)), x3, some (.lst ((greedy [] (ms.take k)).map nI)), none] s2 = .ok (.lst (ns.map nI)) s2 := by
      refine prim_eq prim4_sorted (evs_one (var_eq rfl)) ?_
      show sortedD ((greedy [] (ms.take k)).map nI) = _
      rw [sorted_ints, es, ofNat_map]
    have lc := lc_pure (Γ := T4.gx.g) (c := .no) nI (fun _ => true) lotD (as := ns) (tg := .v 3) (e := .call "_law_lot" (.cons (.var 3) .nil)) (it_e so rfl) (fun a ha => ⟨_, rfl, rfl, fun _ => (call_eq fn4_lot (evs_one (var_eq rfl))).trans (law_lot (Nat.lt_trans (lt32n a ha) (by decide)) s2)⟩) (by
      have := pn.length_eq
      have l2 := sb.length_le
      exact Nat.le_trans (by omega) big_le)
    rw [List.filter_eq_self.mpr fun _ _ => rfl] at lc
    exact bi_eq (evs_one lc) rfl
  exact r1 (look1 (vsE acRet) 3 y')
end Mk
set_option Elab.async false
set_option linter.all false
set_option maxRecDepth 100000
set_option maxHeartbeats 2000000
/-! Plain4: the forms in which least lots are handed in; Access is made. -/
namespace Mk
open PySem PySem.Spec PyProof.Rows L2 Mp
def lotLD (n : Nat) : D := .lst ((lotL n).map fun k => D.int (Int.ofNat k))
/-- the forms: a tuple of tuples, a list of tuples, a list of lists -/
def frm (ms : List Nat) : List D := [.tup (ms.map lotD), .lst (ms.map lotD), .lst (ms.map lotLD)]
theorem tm_le {ms : List Nat} (h : ms.length ≤ 1000) : ms.length ≤ sizeLine := Nat.le_trans (Nat.le_trans h (by decide)) big_le
theorem fn3_draw' : T3.gx.g.fn "_law_draw" = some e__law_draw := fn3_draw
abbrev liB : E := .ifx (.isi (.var 3) (.ty "tuple")) (.bi .list (.cons (.var 3) .nil)) (.var 3)
theorem lists_parts : m__law_lists = .cons (.asg 2 {} (.call "_law_draw" (.cons (.var 0) (.cons (.lit (.int 3)) .nil)))) (.cons (.ife (.or (.cons (.cmp .Eq (.var 2) (.lit (.int 0))) (.cons (.not (.isi (.var 1) (.ty "tuple"))) .nil))) (.cons (.ret (.var 1)) .nil) .nil) (.cons (.ife (.cmp .Eq (.var 2) (.lit (.int 1))) (.cons (.ret (.bi .list (.cons (.var 1) .nil))) .nil) .nil) (.cons (.ret (.lc (.v 3) (.e (.var 1)) .no liB)) .nil))) := rfl
theorem lists_st {n : Int} {s : Ms} (h : St n s) (hn : n < 999999999) {ms : List Nat} (hl : ms.length ≤ 1000) : ∃ d s', e__law_lists [.pen, .tup (ms.map lotD)] s = .ok d s' ∧ d ∈ frm ms ∧ St (n + 1) s' := by
  obtain ⟨i, s', h1, h2, h3, h4⟩ := draw_st h hn (many := 3) (by decide)
  have a1 : evS T3.gx (.asg 2 {} (.call "_law_draw" (.cons (.var 0) (.cons (.lit (.int 3)) .nil)))) [.sh .pen, .sh (.tup (ms.map lotD)), .no, .no] s = .ok (.nx [.sh .pen, .sh (.tup (ms.map lotD)), .sh (.int i), .no]) s' :=
    asg_eq ((call_eq fn3_draw (evs_cons (var_eq rfl) (evs_one (lit_eq rfl)))).trans h1)
  have c : i = 0 ∨ i = 1 ∨ i = 2 := by omega
  rcases c with c | c | c
  · subst c
    refine ⟨_, s', den_rt rfl ?_, List.mem_cons_self, h4⟩
    rw [lists_parts]
    exact (ss_seq a1).trans rfl
  · subst c
    refine ⟨_, s', den_rt rfl ?_, List.mem_cons_of_mem _ List.mem_cons_self, h4⟩
    rw [lists_parts]
    exact (ss_seq a1).trans rfl
  · subst c
    refine ⟨_, s', den_rt rfl ?_, List.mem_cons_of_mem _ (List.mem_cons_of_mem _ List.mem_cons_self), h4⟩
    rw [lists_parts]
    refine (ss_seq a1).trans ?_
    refine (ss_seq (ρ' := [.sh .pen, .sh (.tup (ms.map lotD)), .sh (.int 2), .no]) (s' := s') rfl).trans ?_
    refine (ss_seq (ρ' := [.sh .pen, .sh (.tup (ms.map lotD)), .sh (.int 2), .no]) (s' := s') rfl).trans ?_
    refine ss_ret (ret_eq ?_)
    have lc := lc_pure (Γ := T3.gx.g) (ρ := [some .pen, some (.tup (ms.map lotD)), some (.int 2), none]) (s := s') (c := .no) lotD (fun _ => true) lotLD (as := ms) (tg := .v 3) (it := .e (.var 1)) (e := liB) (it_e (x := .tup (ms.map lotD)) (var_eq rfl) rfl) (fun a _ => ⟨_, rfl, rfl, fun _ => rfl⟩) (tm_le hl)
    rw [List.filter_eq_self.mpr fun _ _ => rfl] at lc
    exact lc
/-! ### in_tuples -/
theorem fn3_in : T3.gx.g.fn "in_tuples" = some e_in_tuples_1 := by kernel_rfl
theorem fn4_in : T4.gx.g.fn "in_tuples" = some e_in_tuples_2 := by kernel_rfl
theorem fn5_in : T5.gx.g.fn "in_tuples" = some e_in_tuples := by kernel_rfl
theorem in2_fin (s : Ms) : (List.range 64).map (fun n => e_in_tuples_2 [lotD n] s) = (List.range 64).map (fun n => .ok (lotD n) s) := by kernel_rfl
theorem in2_finL (s : Ms) : (List.range 64).map (fun n => e_in_tuples_2 [lotLD n] s) = (List.range 64).map (fun n => .ok (lotD n) s) := by kernel_rfl
abbrev inR : E := .bi .tuple (.cons (.lc (.v 1) (.e (.var 0)) .no (.call "in_tuples" (.cons (.var 1) .nil))) .nil)
theorem in_parts : m_in_tuples = .cons (.ife (.not (.prim "isiTL" (.cons (.var 0) .nil))) (.cons (.ret (.var 0)) .nil) .nil) (.cons (.ret inR) .nil) := rfl
theorem in3_of {x : D} {xs : List Nat} {f : Nat → D} (hx : x = .tup (xs.map f) ∨ x = .lst (xs.map f)) (hf : ∀ n ∈ xs, ∀ s, e_in_tuples_2 [f n] s = .ok (lotD n) s) (hl : xs.length ≤ 1000) (s : Ms) : e_in_tuples [x] s = .ok (lotsD xs) s := by
  refine den_rt rfl ?_
  rw [in_parts]
  have t : evS T4.gx (.ife (.not (.prim "isiTL" (.cons (.var 0) .nil))) (.cons (.ret (.var 0)) .nil) .nil) [.sh x, .no] s = .ok (.nx [.sh x, .no]) s := by
    rcases hx with e | e <;> subst e <;> rfl
  refine (ss_seq t).trans (ss_ret (ret_eq ?_))
  have it : evi T4.gx.g (.e (.var 0)) [some x, none] s = .ok (xs.map f) s := it_e (var_eq rfl) (by rcases hx with e | e <;> subst e <;> rfl)
  have lc := lc_pure (Γ := T4.gx.g) (c := .no) f (fun _ => true) lotD (as := xs) (tg := .v 1) (e := .call "in_tuples" (.cons (.var 1) .nil)) it (fun a ha => ⟨_, rfl, rfl, fun _ => (call_eq fn4_in (evs_one (var_eq rfl))).trans (hf a ha s)⟩) (tm_le hl)
  rw [List.filter_eq_self.mpr fun _ _ => rfl] at lc
  exact bi_eq (evs_one lc) rfl
theorem in3 {ms : List Nat} (h32 : ∀ a ∈ ms, a < 32) (hl : ms.length ≤ 1000) {d : D} (hd : d ∈ frm ms) (s : Ms) : e_in_tuples [d] s = .ok (lotsD ms) s := by
  have g1 : ∀ n ∈ ms, ∀ s, e_in_tuples_2 [lotD n] s = .ok (lotD n) s := fun n hn s => map_at (in2_fin s) n (List.mem_range.mpr (Nat.lt_trans (h32 n hn) (by decide)))
  have g2 : ∀ n ∈ ms, ∀ s, e_in_tuples_2 [lotLD n] s = .ok (lotD n) s := fun n hn s => map_at (in2_finL s) n (List.mem_range.mpr (Nat.lt_trans (h32 n hn) (by decide)))
  simp only [frm, List.mem_cons, List.not_mem_nil, or_false] at hd
  rcases hd with e | e | e
  · exact in3_of (.inl e) g1 hl s
  · exact in3_of (.inr e) g1 hl s
  · exact in3_of (.inr e) g2 hl s
/-! ### Access.__init__ -/
theorem fn5_nb : T5.gx.g.fn "need_between" = some e_need_between := by kernel_rfl
theorem fn5_bits : T5.gx.g.fn "bits_of" = some e_bits_of := by kernel_rfl
theorem fn5_ofb : T5.gx.g.fn "of_bits" = some e_of_bits := by kernel_rfl
theorem fn5_isl : T5.gx.g.fn "is_share_lot" = some e_is_share_lot := by kernel_rfl
theorem fn5_ha : T5.gx.g.fn "holds_another" = some e_holds_another := by kernel_rfl
theorem nb_fin (s : Ms) : shs.map (fun sh => e_need_between [.str "shares", nI sh, .int 1, .int 4] s) = shs.map (fun _ => .ok .non s) := by kernel_rfl
def shn : List (Nat × Nat) := shs.flatMap fun sh => (nums sh).map fun n => (sh, n)
theorem mem_shn {sh n : Nat} (h : sh ∈ shs) (hn : n ∈ nums sh) : (sh, n) ∈ shn := List.mem_flatMap.mpr ⟨sh, h, List.mem_map.mpr ⟨n, hn, rfl⟩⟩
abbrev slB : E := .and (.cons (.call "is_share_lot" (.cons (.var 1) (.cons (.var 4) .nil))) (.cons (.cmp .Gt (.bi .len (.cons (.var 4) .nil)) (.lit (.int 0))) .nil))
theorem sl_fin (x0 x2 x3 x5 x6 : Option D) (s : Ms) : shn.map (fun p => ev T5.gx.g slB [x0, some (nI p.1), x2, x3, some (lotD p.2), x5, x6] s) = shn.map (fun _ => .ok (.bl true) s) := by kernel_rfl
/-- another one is within this one -/
def hold (a b : Nat) : Bool := !(b == a) && ((b &&& a) == b)
abbrev haB : E := .and (.cons (.cmp .NotEq (.var 2) (.var 1)) (.cons (.cmp .Eq (.bin .BitAnd (.var 2) (.var 1)) (.var 2)) .nil))
theorem ha_fin (x0 : Option D) (s : Ms) : pairs32.map (fun p => ev T2.gx.g haB [x0, some (nI p.1), some (nI p.2)] s) = pairs32.map (fun p => .ok (.bl (hold p.1 p.2)) s) := by kernel_rfl
theorem ha_parts : m_holds_another = .cons (.ret (.bi .any (.cons (.lc (.v 2) (.e (.var 0)) .no haB) .nil))) .nil := rfl
theorem holds_eq {ms : List Nat} {a : Nat} (ha : a < 32) (h32 : ∀ b ∈ ms, b < 32) (hl : ms.length ≤ 1000) (s : Ms) : e_holds_another [.lst (ms.map nI), nI a] s = .ok (.bl (ms.any (hold a))) s := by
  refine den_rt rfl ?_
  rw [ha_parts]
  refine ss_ret (ret_eq ?_)
  exact any_eq nI (hold a) (it_e (x := .lst (ms.map nI)) (var_eq rfl) rfl) (fun b hb => ⟨_, rfl, map_at (ha_fin _ s) (a, b) (mem32 ha (h32 b hb))⟩) (tm_le hl)
theorem dedup_nodup : ∀ (l acc : List Int), (∀ x ∈ l, x ∉ acc) → l.Nodup → (l.foldl step_dedup acc).length = acc.length + l.length
  | [], acc, _, _ => rfl
  | x :: l, acc, h, hn => by
    have hn' := List.nodup_cons.mp hn
    have e : step_dedup acc x = acc ++ [x] := by
      unfold step_dedup
      rw [if_neg]
      intro z
      obtain ⟨y, hy, e⟩ := List.any_eq_true.mp z
      have : y = x := by simpa using e
      exact h x List.mem_cons_self (this ▸ hy)
    rw [List.foldl_cons, e, dedup_nodup l (acc ++ [x]) (fun y hy z => by
      rcases List.mem_append.mp z with z | z
      · exact h y (List.mem_cons_of_mem _ hy) z
      · rw [List.mem_singleton.mp z] at hy; exact hn'.1 hy) hn'.2]
    simp; omega
theorem hold_anti {ms : List Nat} (h : Anti ms) {a : Nat} (ha : a ∈ ms) : ms.any (hold a) = false := by
  rw [List.any_eq_false]
  intro b hb
  have key : ∀ {x y : Nat}, inc y x = false → hold x y = false ∧ hold y x = false := fun {x y} z => by
    unfold inc at z
    rw [Bool.or_eq_false_iff] at z
    unfold hold
    constructor
    · rw [Bool.and_eq_false_iff]; exact .inr z.1
    · rw [Bool.and_eq_false_iff]
      refine .inr ?_
      have z2 := z.2
      rw [Nat.and_comm] at z2
      exact z2
  have all : ∀ {l : List Nat}, Anti l → ∀ x ∈ l, ∀ y ∈ l, hold x y = false := fun {l} hA => by
    induction l with
    | nil => intro x hx; cases hx
    | cons c l ih =>
      have hA' := List.pairwise_cons.mp hA
      intro x hx y hy
      rcases List.mem_cons.mp hx with e1 | e1 <;> rcases List.mem_cons.mp hy with e2 | e2
      · subst e1 e2; simp [hold]
      · subst e1; exact (key (hA'.1 y e2)).1
      · subst e2; exact (key (hA'.1 x e1)).2
      · exact ih hA'.2 x e1 y e2
  simp [all h a ha b hb]
end Mk
set_option Elab.async false
set_option linter.all false
set_option maxRecDepth 100000
set_option maxHeartbeats 2000000
/-! Plain5: Access is made of its least lots, in any order, in any form. -/
namespace Mk
open PySem PySem.Spec PyProof.Rows L2 Mp
theorem acs_of : ∀ {L l : List Nat}, l ∈ acs L → l.Sublist L ∧ Anti l
  | [], l, h => by rw [List.mem_singleton.mp h]; exact ⟨.slnil, .nil⟩
  | x :: xs, l, h => by
    rcases List.mem_append.mp h with z | z
    · obtain ⟨h1, h2⟩ := acs_of z
      exact ⟨h1.cons x, h2⟩
    · obtain ⟨l', h1, e⟩ := List.mem_map.mp z
      subst e
      obtain ⟨h2, h3⟩ := List.mem_filter.mp h1
      obtain ⟨h4, h5⟩ := acs_of h2
      refine ⟨h4.cons₂ x, List.pairwise_cons.mpr ⟨fun y hy => ?_, h5⟩⟩
      have q := List.all_eq_true.mp h3 y hy
      rw [Bool.and_eq_true] at q
      rw [inc_symm]
      unfold inc
      rw [Bool.or_eq_false_iff]
      exact ⟨by simpa using q.1, by simpa using q.2⟩
/-- what is known of drawn least lots -/
structure Ac (sh : Nat) (ns : List Nat) : Prop where
  hs : sh ∈ shs
  sub : ns.Sublist (nums sh)
  anti : Anti ns
  ne : ns ≠ []
theorem ac_of {sh : Nat} {ns : List Nat} (h : sh ∈ shs) (hn : ns ∈ acN sh) : Ac sh ns := by
  obtain ⟨h1, h2⟩ := List.mem_filter.mp hn
  obtain ⟨h3, h4⟩ := acs_of h1
  exact ⟨h, h3, h4, fun z => by rw [z] at h2; cases h2⟩
theorem Ac.len {sh : Nat} {ns : List Nat} (h : Ac sh ns) : ns.length ≤ 15 := Nat.le_trans h.sub.length_le (nums_len h.hs).2
theorem Ac.lt {sh : Nat} {ns : List Nat} (h : Ac sh ns) : ∀ a ∈ ns, a < 32 := fun a ha => nums_lt h.hs a (h.sub.subset ha)
theorem Ac.sorted {sh : Nat} {ns ms : List Nat} (h : Ac sh ns) (p : ms.Perm ns) : sortI (ms.map Int.ofNat) = ns.map Int.ofNat := by
  refine srt_uniq (sortI_srt _) (List.pairwise_map.mpr (((nums_srt h.hs).sublist h.sub).imp fun {a b} q => ?_)) ((sortI_perm _).trans (p.map Int.ofNat))
  show (Int.ofNat a) ≤ (Int.ofNat b)
  exact Int.ofNat_le.mpr (Nat.le_of_lt q)
theorem fld5 (c f : Str) : T5.gx.g.fld c f = flds.contains (c, f) := rfl
theorem prim5_len : T5.gx.g.prim "lenset" = some (fun ds => match ds with
    | [.lst xs] => (match intsD xs with
      | some ns => if ns.length ≤ 4000 then some (D.int (difI ns)) else none
      | none => none)
    | _ => none) := by kernel_rfl
theorem prim5_sorted : T5.gx.g.prim "sorted" = some (fun ds => match ds with
    | [.lst xs] => sortedD xs
    | _ => none) := by kernel_rfl
theorem con5 : T5.gx.g.con "MOST_SHARES" = some (.int 4) := by kernel_rfl
abbrev q0 : S := .exp (.call "need_between" (.cons (.lit (.str "shares")) (.cons (.var 1) (.cons (.lit (.int 1)) (.cons (.con "MOST_SHARES") .nil)))))
abbrev q1' : S := .asg 3 {} (.call "in_tuples" (.cons (.var 2) .nil))
abbrev q2' : S := .ife (.or (.cons (.not (.isi (.var 3) (.ty "tuple"))) (.cons (.cmp .Eq (.bi .len (.cons (.var 3) .nil)) (.lit (.int 0))) .nil))) (.cons (.rse "BadRow" (.cons (.var 2) .nil)) .nil) .nil
abbrev q3' : S := .ife (.not (.bi .all (.cons (.lc (.v 4) (.e (.var 3)) .no slB) .nil))) (.cons (.rse "BadRow" (.cons (.var 2) .nil)) .nil) .nil
abbrev q4' : S := .asg 5 {} (.lc (.v 4) (.e (.var 3)) .no (.call "bits_of" (.cons (.var 4) .nil)))
abbrev q5a' : E := .cmp .Lt (.prim "lenset" (.cons (.var 5) .nil)) (.bi .len (.cons (.var 5) .nil))
abbrev q5b' : E := .bi .any (.cons (.lc (.v 6) (.e (.var 5)) .no (.call "holds_another" (.cons (.var 5) (.cons (.var 6) .nil)))) .nil)
abbrev q5' : S := .ife (.or (.cons q5a' (.cons q5b' .nil))) (.cons (.rse "BadRow" (.cons (.var 2) .nil)) .nil) .nil
abbrev q6' : S := .sto "shares" {} (.var 1)
abbrev q7e : E := .bi .tuple (.cons (.lc (.v 6) (.e (.prim "sorted" (.cons (.var 5) .nil))) .no (.call "of_bits" (.cons (.var 6) .nil))) .nil)
abbrev q7' : S := .sto "least" {} q7e
theorem init_parts : m_Access_init = .cons q0 (.cons q1' (.cons q2' (.cons q3' (.cons q4' (.cons q5' (.cons q6' (.cons q7' .nil))))))) := rfl
theorem init_ok {sh : Nat} {ns ms : List Nat} (h : Ac sh ns) (p : ms.Perm ns) {d : D} (hd : d ∈ frm ms) (s : Ms) : i_Access [nI sh, d] s = .ok [("shares", nI sh), ("least", lotsD ns)] s := by
  have lm : ms.length ≤ 1000 := by rw [p.length_eq]; exact Nat.le_trans h.len (by decide)
  have l32 : ∀ a ∈ ms, a < 32 := fun a ha => h.lt a (p.mem_iff.mp ha)
  have hm : ∀ a ∈ ms, a ∈ nums sh := fun a ha => h.sub.subset (p.mem_iff.mp ha)
  have an : Anti ms := p.symm.pairwise h.anti fun {a b} q => by rw [inc_symm]; exact q
  have ml : 0 < ms.length := by
    rw [p.length_eq]
    cases hn : ns with
    | nil => exact absurd hn h.ne
    | cons _ _ => simp
  -- the statements, one after the other
  have s0 : evS T5.gx q0 [.ob "Access" [], .sh (nI sh), .sh d, .no, .no, .no, .no] s = .ok (.nx [.ob "Access" [], .sh (nI sh), .sh d, .no, .no, .no, .no]) s := by
    have e : ev T5.gx.g (.call "need_between" (.cons (.lit (.str "shares")) (.cons (.var 1) (.cons (.lit (.int 1)) (.cons (.con "MOST_SHARES") .nil))))) [none, some (nI sh), some d, none, none, none, none] s = .ok .non s := by
      refine (call_eq fn5_nb (evs_cons (lit_eq rfl) (evs_cons (var_eq rfl) (evs_cons (lit_eq rfl) (evs_one (d := .int 4) ?_))))).trans (map_at (nb_fin s) sh h.hs)
      show Out.opt (T5.gx.g.con "MOST_SHARES") s = _
      rw [con5]; rfl
    show (ev T5.gx.g _ (look _ [.ob "Access" [], .sh (nI sh), .sh d, .no, .no, .no, .no]) s).bind _ = _
    rw [show ev T5.gx.g (.call "need_between" (.cons (.lit (.str "shares")) (.cons (.var 1) (.cons (.lit (.int 1)) (.cons (.con "MOST_SHARES") .nil))))) (look (vsE (.call "need_between" (.cons (.lit (.str "shares")) (.cons (.var 1) (.cons (.lit (.int 1)) (.cons (.con "MOST_SHARES") .nil)))))) [.ob "Access" [], .sh (nI sh), .sh d, .no, .no, .no, .no]) s = .ok .non s from e]
    rfl
  have s1 : evS T5.gx q1' [.ob "Access" [], .sh (nI sh), .sh d, .no, .no, .no, .no] s = .ok (.nx [.ob "Access" [], .sh (nI sh), .sh d, .sh (lotsD ms), .no, .no, .no]) s :=
    asg_eq ((call_eq fn5_in (evs_one (var_eq rfl))).trans (in3 l32 lm hd s))
  have s2 : evS T5.gx q2' [.ob "Access" [], .sh (nI sh), .sh d, .sh (lotsD ms), .no, .no, .no] s = .ok (.nx [.ob "Access" [], .sh (nI sh), .sh d, .sh (lotsD ms), .no, .no, .no]) s := by
    refine (ife_eq (k := false) (d := .bl false) (s' := s) ?_ rfl).trans rfl
    show evOr T5.gx.g _ [none, some (nI sh), some d, some (lotsD ms), none, none, none] s = _
    refine (or_cons (x := .bl false) (k := false) (s1 := s) rfl rfl).trans ?_
    rw [if_neg Bool.false_ne_true, or_one]
    refine cmp_eq (x := .int ms.length) (y := .int 0) (s1 := s) (s2 := s) (bi_eq (ds := [lotsD ms]) (evs_one (var_eq rfl)) ?_) (lit_eq rfl) ?_
    · show some (D.int ((ms.map lotD).length : Int)) = _
      rw [List.length_map]
    · show Out.opt (eqD (.int ms.length) (.int 0)) s = _
      have e : eqD (.int (ms.length : Int)) (.int 0) = some (decide ((ms.length : Int) = 0)) := by
        show some (PyData.eqv (.int (ms.length : Int)) (.int 0)) = _
        congr 1
      rw [e, decide_eq_false (by omega)]; rfl
  have s3 : evS T5.gx q3' [.ob "Access" [], .sh (nI sh), .sh d, .sh (lotsD ms), .no, .no, .no] s = .ok (.nx [.ob "Access" [], .sh (nI sh), .sh d, .sh (lotsD ms), .no, .no, .no]) s := by
    have e := all_eq (Γ := T5.gx.g) (ρ := [none, some (nI sh), some d, some (lotsD ms), none, none, none]) (s := s) (s1 := s) (tg := .v 4) (it := .e (.var 3)) (e := slB) lotD (fun _ => true) (as := ms) (it_e (x := lotsD ms) (var_eq rfl) rfl) (fun a ha => ⟨_, rfl, map_at (sl_fin none (some d) (some (lotsD ms)) none none s) (sh, a) (mem_shn h.hs (hm a ha))⟩) (tm_le lm)
    have e2 := not_eq e (k := ms.all fun _ => true) rfl
    have e3 : (!ms.all fun _ => true) = false := by simp
    rw [e3] at e2
    exact (ife_eq (k := false) e2 rfl).trans rfl
  have s4 : evS T5.gx q4' [.ob "Access" [], .sh (nI sh), .sh d, .sh (lotsD ms), .no, .no, .no] s = .ok (.nx [.ob "Access" [], .sh (nI sh), .sh d, .sh (lotsD ms), .no, .sh (.lst (ms.map nI)), .no]) s := by
    have lc := lc_pure (Γ := T5.gx.g) (ρ := [none, some (nI sh), some d, some (lotsD ms), none, none, none]) (s := s) (s1 := s) (tg := .v 4) (it := .e (.var 3)) (c := .no) (e := .call "bits_of" (.cons (.var 4) .nil)) lotD (fun _ => true) nI (as := ms) (it_e (x := lotsD ms) (var_eq rfl) rfl) (fun a ha => ⟨_, rfl, rfl, fun _ => (call_eq fn5_bits (evs_one (var_eq rfl))).trans (bits_of (Nat.lt_trans (l32 a ha) (by decide)) s)⟩) (tm_le lm)
    rw [List.filter_eq_self.mpr fun _ _ => rfl] at lc
    exact asg_eq lc
  have s5 : evS T5.gx q5' [.ob "Access" [], .sh (nI sh), .sh d, .sh (lotsD ms), .no, .sh (.lst (ms.map nI)), .no] s = .ok (.nx [.ob "Access" [], .sh (nI sh), .sh d, .sh (lotsD ms), .no, .sh (.lst (ms.map nI)), .no]) s := by
    refine (ife_eq (k := false) (d := .bl false) (s' := s) ?_ rfl).trans rfl
    show evOr T5.gx.g _ [none, some (nI sh), some d, some (lotsD ms), none, some (.lst (ms.map nI)), none] s = _
    have nd : (ms.map Int.ofNat).Nodup := (anti_nodup an).map Int.ofNat fun a b q e => q (Int.ofNat.inj e)
    have hdif : difI (ms.map Int.ofNat) = ms.length := by
      unfold difI
      rw [dedup_nodup _ [] (fun _ _ z => by cases z) nd]
      simp
    have e1 : ev T5.gx.g q5a' [none, some (nI sh), some d, some (lotsD ms), none, some (.lst (ms.map nI)), none] s = .ok (.bl false) s := by
      refine cmp_eq (x := .int ms.length) (y := .int ms.length) (s1 := s) (s2 := s) (prim_eq prim5_len (ds := [.lst (ms.map nI)]) (evs_one (var_eq rfl)) ?_) (bi_eq (ds := [.lst (ms.map nI)]) (evs_one (var_eq rfl)) ?_) ?_
      · show (match intsD (ms.map nI) with
          | some ns => if ns.length ≤ 4000 then some (D.int (difI ns)) else none
          | none => none) = _
        rw [← ofNat_map, intsD_map]
        show (if (ms.map Int.ofNat).length ≤ 4000 then some (D.int (difI (ms.map Int.ofNat))) else none) = _
        rw [if_pos (by rw [List.length_map]; omega), hdif]
      · show some (D.int ((ms.map nI).length : Int)) = _
        rw [List.length_map]
      · show Out.opt (some (decide ((ms.length : Int) < ms.length))) s = _
        rw [decide_eq_false (by omega)]; rfl
    refine (or_cons (k := false) e1 rfl).trans ?_
    rw [if_neg Bool.false_ne_true, or_one]
    have e2 := any_eq (Γ := T5.gx.g) (ρ := [none, some (nI sh), some d, some (lotsD ms), none, some (.lst (ms.map nI)), none]) (s := s) (s1 := s) (tg := .v 6) (it := .e (.var 5)) (e := .call "holds_another" (.cons (.var 5) (.cons (.var 6) .nil))) nI (fun a => ms.any (hold a)) (as := ms) (it_e (x := .lst (ms.map nI)) (var_eq rfl) rfl)
      (fun a ha => ⟨_, rfl, (call_eq fn5_ha (evs_cons (d := .lst (ms.map nI)) (var_eq rfl) (evs_one (var_eq rfl)))).trans (holds_eq (l32 a ha) l32 lm s)⟩) (tm_le lm)
    have e3 : (ms.any fun a => ms.any (hold a)) = false := List.any_eq_false.mpr fun a ha => by rw [hold_anti an ha]; exact Bool.false_ne_true
    rw [e3] at e2
    exact e2
  have s6 : evS T5.gx q6' [.ob "Access" [], .sh (nI sh), .sh d, .sh (lotsD ms), .no, .sh (.lst (ms.map nI)), .no] s = .ok (.nx [.ob "Access" [("shares", nI sh)], .sh (nI sh), .sh d, .sh (lotsD ms), .no, .sh (.lst (ms.map nI)), .no]) s := by kernel_rfl
  have e7 : ev T5.gx.g q7e [none, some (nI sh), some d, some (lotsD ms), none, some (.lst (ms.map nI)), none] s = .ok (lotsD ns) s := by
    have so : ev T5.gx.g (.prim "sorted" (.cons (.var 5) .nil)) [none, some (nI sh), some d, some (lotsD ms), none, some (.lst (ms.map nI)), none] s = .ok (.lst (ns.map nI)) s := by
      refine prim_eq prim5_sorted (ds := [.lst (ms.map nI)]) (evs_one (var_eq rfl)) ?_
      show sortedD (ms.map nI) = _
      rw [sorted_ints, h.sorted p, ofNat_map]
    have lc := lc_pure (Γ := T5.gx.g) (c := .no) nI (fun _ => true) lotD (as := ns) (tg := .v 6) (e := .call "of_bits" (.cons (.var 6) .nil)) (it_e so rfl) (fun a ha => ⟨_, rfl, rfl, fun _ => (call_eq fn5_ofb (evs_one (var_eq rfl))).trans (of_bits (Nat.lt_trans (h.lt a ha) (by decide)) s)⟩) (tm_le (Nat.le_trans h.len (by decide)))
    rw [List.filter_eq_self.mpr fun _ _ => rfl] at lc
    exact bi_eq (evs_one lc) rfl
  have s7 : evS T5.gx q7' [.ob "Access" [("shares", nI sh)], .sh (nI sh), .sh d, .sh (lotsD ms), .no, .sh (.lst (ms.map nI)), .no] s = .ok (.nx [.ob "Access" [("shares", nI sh), ("least", lotsD ns)], .sh (nI sh), .sh d, .sh (lotsD ms), .no, .sh (.lst (ms.map nI)), .no]) s := by
    have ex : evX T5.gx.g false q7e [.ob "Access" [("shares", nI sh)], .sh (nI sh), .sh d, .sh (lotsD ms), .no, .sh (.lst (ms.map nI)), .no] s = .ok (lotsD ns, [.ob "Access" [("shares", nI sh)], .sh (nI sh), .sh d, .sh (lotsD ms), .no, .sh (.lst (ms.map nI)), .no]) s := by
      unfold evX
      rw [show ev T5.gx.g q7e (look (vsE q7e) [.ob "Access" [("shares", nI sh)], .sh (nI sh), .sh d, .sh (lotsD ms), .no, .sh (.lst (ms.map nI)), .no]) s = .ok (lotsD ns) s from e7]
      rfl
    have st : stoS T5.gx.g "least" (lotsD ns) [.ob "Access" [("shares", nI sh)], .sh (nI sh), .sh d, .sh (lotsD ms), .no, .sh (.lst (ms.map nI)), .no] = some [.ob "Access" [("shares", nI sh), ("least", lotsD ns)], .sh (nI sh), .sh d, .sh (lotsD ms), .no, .sh (.lst (ms.map nI)), .no] := by kernel_rfl
    show (evX T5.gx.g false q7e _ s).bind _ = _
    rw [ex]
    exact congrArg (fun o => (Out.opt o s).bind fun ρ' s => Out.ok (Ctl.nx ρ') s) st
  have all : evSs T5.gx m_Access_init [.ob "Access" [], .sh (nI sh), .sh d, .no, .no, .no, .no] s = .ok (.nx [.ob "Access" [("shares", nI sh), ("least", lotsD ns)], .sh (nI sh), .sh d, .sh (lotsD ms), .no, .sh (.lst (ms.map nI)), .no]) s := by
    rw [init_parts]
    exact (ss_seq s0).trans ((ss_seq s1).trans ((ss_seq s2).trans ((ss_seq s3).trans ((ss_seq s4).trans ((ss_seq s5).trans ((ss_seq s6).trans ((ss_seq s7).trans rfl)))))))
  show (evSs T5.gx m_Access_init [.ob "Access" [], .sh (nI sh), .sh d, .no, .no, .no, .no] s).bind _ = _
  rw [all]
  show (if ("Access" : Str) = "Access" then Out.ok _ s else .bad) = _
  rw [if_pos rfl]
theorem make_ok {sh : Nat} {ns ms : List Nat} (h : Ac sh ns) (p : ms.Perm ns) {d : D} (hd : d ∈ frm ms) (s : Ms) : mkDen "Access" false i_Access [nI sh, d] s = .ok (accD sh ns) s := by
  unfold mkDen
  rw [init_ok h p hd s]; rfl
end Mk
set_option Elab.async false
set_option linter.all false
set_option maxRecDepth 100000
set_option maxHeartbeats 2000000
/-! CaseT: the parts of a case. -/
namespace Mk
open PySem PySem.Spec PyProof.Rows L2 Mp
def dropS : Nat → Ss → Ss
  | 0, m => m
  | n + 1, .cons _ r => dropS n r
  | _ + 1, .nil => .nil
def takeS : Nat → Ss → Ss
  | 0, _ => .nil
  | n + 1, .cons t r => .cons t (takeS n r)
  | _ + 1, .nil => .nil
/-- what is looked at once the access is made; behind the picks -/
def caseB1 : Ss := takeS 5 (dropS 3 m__law_case)
def caseB2 : Ss := dropS 11 m__law_case
def someN (sh : Nat) : List Nat := (List.range (2 ^ sh)).map (2 * ·)
def knowsB (ns : List Nat) (n : Nat) : Bool := ns.any fun l => (l &&& n) == l
def dueN (sh : Nat) (ns : List Nat) : List Nat := (someN sh).filter (knowsB ns)
def lstN (l : List Nat) : D := .lst (l.map nI)
abbrev runA (s : Ms) (sh : Nat) (ns : List Nat) : Out Ctl := evSs T8.gx caseB1 [.sh .pen, .sh (nI sh), .sh (lotsD ns), .sh (accD sh ns), .no, .no, .no, .no, .no, .no] s
abbrev endA (s : Ms) (sh : Nat) (ns : List Nat) : Out Ctl := .ok (.nx [.sh .pen, .sh (nI sh), .sh (lotsD ns), .sh (accD sh ns), .sh (lstN (someN sh)), .no, .sh (lstN (dueN sh ns)), .no, .no, .no]) s
abbrev runB (x0 x5 x7 : Sl) (s : Ms) (sh : Nat) (ns : List Nat) : Out Ctl := evSs T8.gx caseB2 [x0, .sh (nI sh), .sh (lotsD ns), .sh (accD sh ns), .sh (lstN (someN sh)), x5, .sh (lstN (dueN sh ns)), x7, .no, .no] s
abbrev endB (s : Ms) : Out Ctl := .ok (.rt (.bl true)) s
abbrev runC (s : Ms) (sh : Nat) (ns : List Nat) : List (Out D × Out D × Option Bool) := (someN sh).map fun n => (e_may_know [accD sh ns, lotD n] s, e_may_know [accD sh ns, lotLD n] s, inD (nI n) (lstN (dueN sh ns)))
abbrev endC (s : Ms) (sh : Nat) (ns : List Nat) : List (Out D × Out D × Option Bool) := (someN sh).map fun n => (.ok (.bl (knowsB ns n)) s, .ok (.bl (knowsB ns n)) s, some (knowsB ns n))
end Mk
set_option Elab.async false
set_option linter.all false
set_option maxRecDepth 100000
set_option maxHeartbeats 2000000
/-! Know: who may know, for all least lots. -/
namespace Mk
open PySem PySem.Spec PyProof.Rows L2 Mp
theorem fn3_bits : T3.gx.g.fn "bits_of" = some e_bits_of := by kernel_rfl
theorem fn3_lbits : T3.gx.g.fn "_law_bits" = some e__law_bits := by kernel_rfl
abbrev knB : E := .cmp .Eq (.bin .BitAnd (.call "bits_of" (.cons (.var 2) .nil)) (.var 1)) (.call "bits_of" (.cons (.var 2) .nil))
abbrev lkB : E := .cmp .Eq (.bin .BitAnd (.call "_law_bits" (.cons (.var 2) .nil)) (.var 1)) (.call "_law_bits" (.cons (.var 2) .nil))
theorem kn_fin (x0 : Option D) (s : Ms) : pairs32.map (fun p => ev T3.gx.g knB [x0, some (nI p.2), some (lotD p.1)] s) = pairs32.map (fun p => .ok (.bl ((p.1 &&& p.2) == p.1)) s) := by kernel_rfl
theorem lk_fin (x0 : Option D) (s : Ms) : pairs32.map (fun p => ev T3.gx.g lkB [x0, some (nI p.2), some (lotD p.1)] s) = pairs32.map (fun p => .ok (.bl ((p.1 &&& p.2) == p.1)) s) := by kernel_rfl
theorem kn_parts : m_knows = .cons (.ret (.bi .any (.cons (.lc (.v 2) (.e (.fld (.var 0) "least")) .no knB) .nil))) .nil := rfl
theorem lk_parts : m__law_knows = .cons (.ret (.bi .any (.cons (.lc (.v 2) (.e (.var 0)) .no lkB) .nil))) .nil := rfl
theorem fld3 (sh : Nat) (ns : List Nat) : fldD T3.gx.g (accD sh ns) "least" = some (lotsD ns) := by kernel_rfl
theorem knows_eq {sh n : Nat} {ns : List Nat} (h32 : ∀ a ∈ ns, a < 32) (hl : ns.length ≤ 1000) (hn : n < 32) (s : Ms) : e_knows [accD sh ns, nI n] s = .ok (.bl (knowsB ns n)) s := by
  refine den_rt rfl ?_
  rw [kn_parts]
  refine ss_ret (ret_eq ?_)
  exact any_eq lotD (fun l => (l &&& n) == l) (it_e (x := lotsD ns) (fld_eq (x := accD sh ns) (var_eq rfl) (fld3 sh ns)) rfl) (fun b hb => ⟨_, rfl, map_at (kn_fin _ s) (b, n) (mem32 (h32 b hb) hn)⟩) (tm_le hl)
theorem lknows_eq {n : Nat} {ns : List Nat} (h32 : ∀ a ∈ ns, a < 32) (hl : ns.length ≤ 1000) (hn : n < 32) (s : Ms) : e__law_knows [lotsD ns, nI n] s = .ok (.bl (knowsB ns n)) s := by
  refine den_rt rfl ?_
  rw [lk_parts]
  refine ss_ret (ret_eq ?_)
  exact any_eq lotD (fun l => (l &&& n) == l) (it_e (x := lotsD ns) (var_eq rfl) rfl) (fun b hb => ⟨_, rfl, map_at (lk_fin _ s) (b, n) (mem32 (h32 b hb) hn)⟩) (tm_le hl)
/-! ### numbers, lots that are handed in -/
theorem sn_fin (s : Ms) : shs.map (fun sh => e_share_numbers [nI sh] s) = shs.map (fun sh => .ok (lstN (someN sh)) s) := by kernel_rfl
theorem na_eq (sh : Nat) (ns : List Nat) (s : Ms) : e_need_access [accD sh ns] s = .ok .non s := by kernel_rfl
def shsn : List (Nat × Nat) := shs.flatMap fun sh => (someN sh).map fun n => (sh, n)
theorem mem_shsn {sh n : Nat} (h : sh ∈ shs) (hn : n ∈ someN sh) : (sh, n) ∈ shsn := List.mem_flatMap.mpr ⟨sh, h, List.mem_map.mpr ⟨n, hn, rfl⟩⟩
theorem slf1 (s : Ms) : shsn.map (fun p => e_share_lot_from [nI p.1, lotD p.2] s) = shsn.map (fun p => .ok (lotD p.2) s) := by kernel_rfl
theorem slf2 (s : Ms) : shsn.map (fun p => e_share_lot_from [nI p.1, lotLD p.2] s) = shsn.map (fun p => .ok (lotD p.2) s) := by kernel_rfl
theorem fn6_na : T6.gx.g.fn "need_access" = some e_need_access := by kernel_rfl
theorem fn6_kn : T6.gx.g.fn "knows" = some e_knows := by kernel_rfl
theorem fn6_bits : T6.gx.g.fn "bits_of" = some e_bits_of := by kernel_rfl
theorem fn6_slf : T6.gx.g.fn "share_lot_from" = some e_share_lot_from := by kernel_rfl
theorem fld6 (sh : Nat) (ns : List Nat) : fldD T6.gx.g (accD sh ns) "shares" = some (nI sh) := by kernel_rfl
/-- a statement that is a term, whatever it is worth -/
theorem exp_eq {Γ : Gx} {e : E} {ρ : List Sl} {s s' : Ms} {d : D} (h : ev Γ.g e (look (vsE e) ρ) s = .ok d s') : evS Γ (.exp e) ρ s = .ok (.nx ρ) s' := by
  show (ev Γ.g e (look (vsE e) ρ) s).bind _ = _
  rw [h]; rfl
theorem may_parts : m_may_know = .cons (.exp (.call "need_access" (.cons (.var 0) .nil))) (.cons (.ret (.call "knows" (.cons (.var 0) (.cons (.call "bits_of" (.cons (.call "share_lot_from" (.cons (.fld (.var 0) "shares") (.cons (.var 1) .nil))) .nil)) .nil)))) .nil) := rfl
theorem may_eq {sh n : Nat} {ns : List Nat} (A : Ac sh ns) (hn : n ∈ someN sh) {d : D} (hd : d = lotD n ∨ d = lotLD n) (s : Ms) : e_may_know [accD sh ns, d] s = .ok (.bl (knowsB ns n)) s := by
  refine den_rt rfl ?_
  rw [may_parts]
  refine (ss_seq (exp_eq ((call_eq fn6_na (evs_one (var_eq rfl))).trans (na_eq sh ns s)))).trans (ss_ret (ret_eq ?_))
  have e1 : ev T6.gx.g (.call "share_lot_from" (.cons (.fld (.var 0) "shares") (.cons (.var 1) .nil))) [some (accD sh ns), some d] s = .ok (lotD n) s := by
    refine (call_eq fn6_slf (evs_cons (fld_eq (x := accD sh ns) (var_eq rfl) (fld6 sh ns)) (evs_one (var_eq rfl)))).trans ?_
    rcases hd with z | z
    · rw [z]; exact map_at (slf1 s) (sh, n) (mem_shsn A.hs hn)
    · rw [z]; exact map_at (slf2 s) (sh, n) (mem_shsn A.hs hn)
  have e2 : ev T6.gx.g (.call "bits_of" (.cons (.call "share_lot_from" (.cons (.fld (.var 0) "shares") (.cons (.var 1) .nil))) .nil)) [some (accD sh ns), some d] s = .ok (nI n) s :=
    (call_eq fn6_bits (evs_one e1)).trans (bits_of (Nat.lt_trans (show n < 32 from (by have := (show ∀ sh ∈ shs, ∀ n ∈ someN sh, n < 32 by decide +kernel); exact this sh A.hs n hn)) (by decide)) s)
  exact (call_eq fn6_kn (evs_cons (var_eq rfl) (evs_one e2))).trans (knows_eq A.lt (Nat.le_trans A.len (by decide)) (by have := (show ∀ sh ∈ shs, ∀ n ∈ someN sh, n < 32 by decide +kernel); exact this sh A.hs n hn) s)
theorem some32 {sh : Nat} (h : sh ∈ shs) : ∀ n ∈ someN sh, n < 32 := by
  have : ∀ sh ∈ shs, ∀ n ∈ someN sh, n < 32 := by decide +kernel
  exact this sh h
theorem some16 {sh : Nat} (h : sh ∈ shs) : (someN sh).length ≤ 16 := by
  have : ∀ sh ∈ shs, (someN sh).length ≤ 16 := by decide +kernel
  exact this sh h
theorem fn4_na : T4.gx.g.fn "need_access" = some e_need_access := by kernel_rfl
theorem fn4_kn : T4.gx.g.fn "knows" = some e_knows := by kernel_rfl
theorem fn4_sn : T4.gx.g.fn "share_numbers" = some e_share_numbers := by kernel_rfl
theorem fn4_ofb : T4.gx.g.fn "of_bits" = some e_of_bits := by kernel_rfl
theorem fld4 (sh : Nat) (ns : List Nat) : fldD T4.gx.g (accD sh ns) "shares" = some (nI sh) := by kernel_rfl
theorem knowing_parts : m_knowing = .cons (.exp (.call "need_access" (.cons (.var 0) .nil))) (.cons (.ret (.bi .tuple (.cons (.lc (.v 1) (.e (.call "share_numbers" (.cons (.fld (.var 0) "shares") .nil))) (.yes (.call "knows" (.cons (.var 0) (.cons (.var 1) .nil)))) (.call "of_bits" (.cons (.var 1) .nil))) .nil))) .nil) := rfl
theorem knowing_eq {sh : Nat} {ns : List Nat} (A : Ac sh ns) (s : Ms) : e_knowing [accD sh ns] s = .ok (.tup ((dueN sh ns).map lotD)) s := by
  refine den_rt rfl ?_
  rw [knowing_parts]
  refine (ss_seq (exp_eq ((call_eq fn4_na (evs_one (var_eq rfl))).trans (na_eq sh ns s)))).trans (ss_ret (ret_eq ?_))
  have it : evi T4.gx.g (.e (.call "share_numbers" (.cons (.fld (.var 0) "shares") .nil))) [some (accD sh ns), none] s = .ok ((someN sh).map nI) s :=
    it_e (x := lstN (someN sh)) ((call_eq fn4_sn (evs_one (fld_eq (x := accD sh ns) (var_eq rfl) (fld4 sh ns)))).trans (map_at (sn_fin s) sh A.hs)) rfl
  have lc := lc_pure (Γ := T4.gx.g) (tg := .v 1) (c := .yes (.call "knows" (.cons (.var 0) (.cons (.var 1) .nil)))) (e := .call "of_bits" (.cons (.var 1) .nil)) nI (knowsB ns) lotD it (fun n hn => ⟨_, rfl, evc_yes ((call_eq fn4_kn (evs_cons (d := accD sh ns) (var_eq rfl) (evs_one (var_eq rfl)))).trans (knows_eq A.lt (Nat.le_trans A.len (by decide)) (some32 A.hs n hn) s)) rfl, fun _ => (call_eq fn4_ofb (evs_one (var_eq rfl))).trans (of_bits (Nat.lt_trans (some32 A.hs n hn) (by decide)) s)⟩) (tm_le (Nat.le_trans (some16 A.hs) (by decide)))
  exact bi_eq (evs_one lc) rfl
/-! ### turned access -/
def topN (sh : Nat) : Nat := 2 ^ (sh + 1) - 2
def mins (l : List Nat) : List Nat := l.filter fun n => !l.any (hold n)
def offs (sh : Nat) (ns : List Nat) : List Nat := (someN sh).filter fun n => !knowsB ns (topN sh - n)
def turnN (sh : Nat) (ns : List Nat) : List Nat := mins (offs sh ns)
theorem turn_fin : ∀ sh ∈ shs, ∀ ns ∈ acN sh, turnN sh ns ∈ acN sh ∧ turnN sh (turnN sh ns) = ns := by decide +kernel
abbrev tuB : E := .bin .BitAnd (.ix (.var 1) (.neg (.lit (.int 1)))) (.inv (.var 2))
abbrev ltB : E := .bin .Sub (.ix (.var 4) (.neg (.lit (.int 1)))) (.var 5)
theorem tu_fin (x0 : Option D) (s : Ms) : shsn.map (fun p => ev T7.gx.g tuB [x0, some (lstN (someN p.1)), some (nI p.2)] s) = shsn.map (fun p => .ok (nI (topN p.1 - p.2)) s) := by kernel_rfl
theorem fn6_ha : T6.gx.g.fn "holds_another" = some e_holds_another := by kernel_rfl
theorem fn6_ofb : T6.gx.g.fn "of_bits" = some e_of_bits := by kernel_rfl
theorem mk6_acc : T6.gx.g.mke "Access" = some (mkDen "Access" false i_Access) := by kernel_rfl
theorem lo_parts : m_least_of = .cons (.asg 2 {} (.lc (.v 3) (.e (.var 1)) (.yes (.not (.call "holds_another" (.cons (.var 1) (.cons (.var 3) .nil))))) (.var 3))) (.cons (.ret (.mk "Access" (.cons (.var 0) (.cons (.bi .tuple (.cons (.lc (.v 3) (.e (.var 2)) .no (.call "of_bits" (.cons (.var 3) .nil))) .nil)) .nil)))) .nil) := rfl
theorem least_of_eq {sh : Nat} {l : List Nat} (h32 : ∀ a ∈ l, a < 32) (hl : l.length ≤ 1000) (A : Ac sh (mins l)) (s : Ms) : e_least_of [nI sh, lstN l] s = .ok (accD sh (mins l)) s := by
  refine den_rt rfl ?_
  rw [lo_parts]
  have lc := lc_pure (Γ := T6.gx.g) (ρ := [some (nI sh), some (lstN l), none, none]) (s := s) (s1 := s) (tg := .v 3) (it := .e (.var 1)) (c := .yes (.not (.call "holds_another" (.cons (.var 1) (.cons (.var 3) .nil))))) (e := .var 3) nI (fun n => !l.any (hold n)) nI (as := l) (it_e (x := lstN l) (var_eq rfl) rfl)
    (fun n hn => ⟨_, rfl, evc_yes (not_eq (k := l.any (hold n)) ((call_eq fn6_ha (evs_cons (d := lstN l) (var_eq rfl) (evs_one (var_eq rfl)))).trans (holds_eq (h32 n hn) h32 hl s)) rfl) rfl, fun _ => var_eq rfl⟩) (tm_le hl)
  refine (ss_seq (asg_eq lc)).trans (ss_ret (ret_eq ?_))
  have m32 : ∀ a ∈ mins l, a < 32 := fun a ha => h32 a ((List.mem_filter.mp ha).1)
  have lc2 := lc_pure (Γ := T6.gx.g) (ρ := [some (nI sh), some (lstN l), some (.lst ((mins l).map nI)), none]) (s := s) (s1 := s) (tg := .v 3) (it := .e (.var 2)) (c := .no) (e := .call "of_bits" (.cons (.var 3) .nil)) nI (fun _ => true) lotD (as := mins l) (it_e (x := .lst ((mins l).map nI)) (var_eq rfl) rfl)
    (fun n hn => ⟨_, rfl, rfl, fun _ => (call_eq fn6_ofb (evs_one (var_eq rfl))).trans (of_bits (Nat.lt_trans (m32 n hn) (by decide)) s)⟩) (tm_le (Nat.le_trans (List.length_filter_le _ _) hl))
  rw [List.filter_eq_self.mpr fun _ _ => rfl] at lc2
  exact (mk_eq mk6_acc (evs_cons (var_eq rfl) (evs_one (bi_eq (d := .tup ((mins l).map lotD)) (evs_one lc2) rfl)))).trans (make_ok A (.refl _) List.mem_cons_self s)
theorem fn7_na : T7.gx.g.fn "need_access" = some e_need_access := by kernel_rfl
theorem fn7_kn : T7.gx.g.fn "knows" = some e_knows := by kernel_rfl
theorem fn7_sn : T7.gx.g.fn "share_numbers" = some e_share_numbers := by kernel_rfl
theorem fn7_lo : T7.gx.g.fn "least_of" = some e_least_of := by kernel_rfl
theorem fld7 (sh : Nat) (ns : List Nat) : fldD T7.gx.g (accD sh ns) "shares" = some (nI sh) := by kernel_rfl
theorem top_sub {sh : Nat} (h : sh ∈ shs) : ∀ n : Nat, topN sh - n < 32 := fun n => by
  have : ∀ sh ∈ shs, topN sh < 32 := by decide +kernel
  have := this sh h
  omega
theorem ta_parts : m_turned_access = .cons (.exp (.call "need_access" (.cons (.var 0) .nil))) (.cons (.asg 1 {} (.call "share_numbers" (.cons (.fld (.var 0) "shares") .nil))) (.cons (.ret (.call "least_of" (.cons (.fld (.var 0) "shares") (.cons (.lc (.v 2) (.e (.var 1)) (.yes (.not (.call "knows" (.cons (.var 0) (.cons tuB .nil))))) (.var 2)) .nil)))) .nil)) := rfl
theorem turned_eq {sh : Nat} {ns : List Nat} (A : Ac sh ns) (A2 : Ac sh (turnN sh ns)) (s : Ms) : e_turned_access [accD sh ns] s = .ok (accD sh (turnN sh ns)) s := by
  refine den_rt rfl ?_
  rw [ta_parts]
  refine (ss_seq (exp_eq ((call_eq fn7_na (evs_one (var_eq rfl))).trans (na_eq sh ns s)))).trans ?_
  have a1 : evS T7.gx (.asg 1 {} (.call "share_numbers" (.cons (.fld (.var 0) "shares") .nil))) [.sh (accD sh ns), .no, .no] s = .ok (.nx [.sh (accD sh ns), .sh (lstN (someN sh)), .no]) s :=
    asg_eq ((call_eq fn7_sn (evs_one (fld_eq (x := accD sh ns) (var_eq rfl) (fld7 sh ns)))).trans (map_at (sn_fin s) sh A.hs))
  refine (ss_seq a1).trans (ss_ret (ret_eq ?_))
  have lc := lc_pure (Γ := T7.gx.g) (ρ := [some (accD sh ns), some (lstN (someN sh)), none]) (s := s) (s1 := s) (tg := .v 2) (it := .e (.var 1)) (c := .yes (.not (.call "knows" (.cons (.var 0) (.cons tuB .nil))))) (e := .var 2) nI (fun n => !knowsB ns (topN sh - n)) nI (as := someN sh) (it_e (x := lstN (someN sh)) (var_eq rfl) rfl)
    (fun n hn => ⟨_, rfl, evc_yes (not_eq (k := knowsB ns (topN sh - n)) ((call_eq fn7_kn (evs_cons (d := accD sh ns) (var_eq rfl) (evs_one (map_at (tu_fin (some (accD sh ns)) s) (sh, n) (mem_shsn A.hs hn))))).trans (knows_eq A.lt (Nat.le_trans A.len (by decide)) (top_sub A.hs n) s)) rfl) rfl, fun _ => var_eq rfl⟩) (tm_le (Nat.le_trans (some16 A.hs) (by decide)))
  refine (call_eq fn7_lo (evs_cons (fld_eq (x := accD sh ns) (var_eq rfl) (fld7 sh ns)) (evs_one lc))).trans ?_
  exact least_of_eq (l := offs sh ns) (fun a ha => some32 A.hs a ((List.mem_filter.mp ha).1)) (Nat.le_trans (List.length_filter_le _ _) (Nat.le_trans (some16 A.hs) (by decide))) A2 s
end Mk
set_option Elab.async false
set_option linter.all false
set_option maxRecDepth 100000
set_option maxHeartbeats 0
/-! Eqs: equality of access. -/
namespace Mk
open PySem PySem.Spec PyProof.Rows L2 Mp
theorem eq_tup (sh : Nat) (ns : List Nat) (s : Ms) : cmpO T8.gx.g .Eq (accD sh ns) (.tup [nI sh, lotsD ns]) s = .ok false s := by kernel_rfl
theorem eq_next (ns : List Nat) (s : Ms) : [1, 2, 3].map (fun sh => cmpO T8.gx.g .Eq (accD sh ns) (accD (sh + 1) ns) s) = [1, 2, 3].map (fun sh => .ok false s) := by kernel_rfl
theorem eqs_1 (s : Ms) : (acN 1).map (fun ns => (cmpO T8.gx.g .Eq (accD 1 ns) (accD 1 ns) s, cmpO T8.gx.g .NotEq (accD 1 ns) (accD 1 ns) s)) = (acN 1).map (fun _ => (.ok true s, .ok false s)) := by kernel_rfl
theorem eqs_2 (s : Ms) : (acN 2).map (fun ns => (cmpO T8.gx.g .Eq (accD 2 ns) (accD 2 ns) s, cmpO T8.gx.g .NotEq (accD 2 ns) (accD 2 ns) s)) = (acN 2).map (fun _ => (.ok true s, .ok false s)) := by kernel_rfl
theorem eqs_3 (s : Ms) : (acN 3).map (fun ns => (cmpO T8.gx.g .Eq (accD 3 ns) (accD 3 ns) s, cmpO T8.gx.g .NotEq (accD 3 ns) (accD 3 ns) s)) = (acN 3).map (fun _ => (.ok true s, .ok false s)) := by kernel_rfl
theorem eqs_4 (s : Ms) : (acN 4).map (fun ns => (cmpO T8.gx.g .Eq (accD 4 ns) (accD 4 ns) s, cmpO T8.gx.g .NotEq (accD 4 ns) (accD 4 ns) s)) = (acN 4).map (fun _ => (.ok true s, .ok false s)) := by kernel_rfl
theorem acc_same {sh : Nat} (h : sh ∈ shs) {ns : List Nat} (hn : ns ∈ acN sh) (s : Ms) : cmpO T8.gx.g .Eq (accD sh ns) (accD sh ns) s = .ok true s ∧ cmpO T8.gx.g .NotEq (accD sh ns) (accD sh ns) s = .ok false s := by
  simp only [shs, List.mem_cons, List.not_mem_nil, or_false] at h
  rcases h with z | z | z | z <;> subst z
  · exact Prod.mk.inj (map_at (eqs_1 s) ns hn)
  · exact Prod.mk.inj (map_at (eqs_2 s) ns hn)
  · exact Prod.mk.inj (map_at (eqs_3 s) ns hn)
  · exact Prod.mk.inj (map_at (eqs_4 s) ns hn)
end Mk
set_option Elab.async false
set_option linter.all false
set_option maxRecDepth 100000
set_option maxHeartbeats 2000000
/-! Case: what a case looks at, for all least lots. -/
namespace Mk
open PySem PySem.Spec PyProof.Rows L2 Mp
/-! ### x in l, of ints -/
theorem pys_ints : ∀ l : List Nat, toPys (l.map nI) = some (l.map fun n => PyData.int (Int.ofNat n))
  | [] => rfl
  | n :: l => by
    rw [List.map_cons, List.map_cons]
    simp only [toPys, toPy, pys_ints l]
theorem lay_ints : ∀ l : List Nat, PyData.canLayAll0 (l.map fun n => PyData.int (Int.ofNat n)) = true ∧ PyData.depthAll (l.map fun n => PyData.int (Int.ofNat n)) ≤ 1
  | [] => by simp [PyData.canLayAll0, PyData.depthAll]
  | n :: l => by
    obtain ⟨a, b⟩ := lay_ints l
    rw [List.map_cons]
    constructor
    · simp only [PyData.canLayAll0, PyData.canLay0, a, Bool.and_self]
    · simp only [PyData.depthAll, PyData.depth]; omega
theorem in_ints (n : Nat) (l : List Nat) : inD (nI n) (lstN l) = some (l.any fun m => m == n) := by
  obtain ⟨a, b⟩ := lay_ints l
  have s1 : SeqAt.shaped (.int (Int.ofNat n)) = true := by
    unfold SeqAt.shaped
    simp [PyData.canLay0, PyData.depth]
  have s2 : SeqAt.shaped (.list (l.map fun n => PyData.int (Int.ofNat n))) = true := by
    unfold SeqAt.shaped
    rw [Bool.and_eq_true]
    refine ⟨by simp only [PyData.canLay0]; exact a, ?_⟩
    rw [decide_eq_true_iff]
    simp only [PyData.depth]; omega
  show (match toPy (nI n), toPys (l.map nI) with
    | some p, some ps => if SeqAt.shaped p = true ∧ SeqAt.shaped (.list ps) = true then some (ps.any fun z => PyData.eqv z p) else none
    | _, _ => none) = _
  rw [pys_ints]
  show (if SeqAt.shaped (.int (Int.ofNat n)) = true ∧ SeqAt.shaped (.list (l.map fun n => PyData.int (Int.ofNat n))) = true then some ((l.map fun n => PyData.int (Int.ofNat n)).any fun z => PyData.eqv z (.int (Int.ofNat n))) else none) = _
  rw [if_pos ⟨s1, s2⟩, List.any_map]
  congr 2
  funext m
  show PyData.eqv (.int (Int.ofNat m)) (.int (Int.ofNat n)) = _
  simp only [PyData.eqv]
  by_cases h : m = n
  · subst h; simp
  · have : ¬ (Int.ofNat m = Int.ofNat n) := fun e => h (Int.ofNat.inj e)
    have e1 : (m == n) = false := beq_eq_false_iff_ne.mpr h
    have e2 : (Int.ofNat m == Int.ofNat n) = false := beq_eq_false_iff_ne.mpr this
    rw [e1, e2]
theorem in_due {sh n : Nat} {ns : List Nat} (hn : n ∈ someN sh) : inD (nI n) (lstN (dueN sh ns)) = some (knowsB ns n) := by
  rw [in_ints]
  congr 1
  cases h : knowsB ns n with
  | true => exact List.any_eq_true.mpr ⟨n, List.mem_filter.mpr ⟨hn, h⟩, by simp⟩
  | false =>
    rw [List.any_eq_false]
    intro m hm
    have e := (List.mem_filter.mp hm).2
    intro z
    have : m = n := by simpa using z
    rw [this, h] at e; cases e
/-! ### how lots are shown -/
theorem lot_rp : ∀ n, n < 32 → rpB 3 8 (lotD n) = true := by decide +kernel
theorem lots_rp {l : List Nat} (h : ∀ a ∈ l, a < 32) (hl : l.length ≤ 16) : Rp 4 144 (.tup (l.map lotD)) := rp_tup (k := 3) (b := 8) (n := 16) (fun d hd => by
  obtain ⟨a, ha, e⟩ := List.mem_map.mp hd
  rw [← e]; exact rp_of (lot_rp a (h a ha))) (by rw [List.length_map]; exact hl)
theorem pair_rp {sh : Nat} (hs : sh < 32) {l : List Nat} (h : ∀ a ∈ l, a < 32) (hl : l.length ≤ 16) : Rp 5 290 (.tup [nI sh, lotsD l]) := by
  have i : Rp 4 144 (nI sh) := by
    refine (rp_of (k := 3) (b := 8) ?_).mono (by decide) (by decide)
    have : ∀ sh, sh < 32 → rpB 3 8 (nI sh) = true := by decide +kernel
    exact this sh hs
  refine rp_tup (k := 4) (b := 144) (n := 2) (fun d hd => ?_) (by show 2 ≤ 2; decide)
  rcases List.mem_cons.mp hd with z | z
  · rw [z]; exact i
  · rw [List.mem_singleton.mp z]; exact lots_rp h hl
theorem sh32 {sh : Nat} (h : sh ∈ shs) : sh < 32 := by
  have : ∀ sh ∈ shs, sh < 32 := by decide
  exact this sh h
/-! ### the first part -/
theorem fld8s (sh : Nat) (ns : List Nat) : fldD T8.gx.g (accD sh ns) "shares" = some (nI sh) := by kernel_rfl
theorem fld8l (sh : Nat) (ns : List Nat) : fldD T8.gx.g (accD sh ns) "least" = some (lotsD ns) := by kernel_rfl
theorem fn8_kn : T8.gx.g.fn "knowing" = some e_knowing := by kernel_rfl
theorem fn8_lk : T8.gx.g.fn "_law_knows" = some e__law_knows := by kernel_rfl
theorem fn8_lot' : T8.gx.g.fn "_law_lot" = some e__law_lot := by kernel_rfl
theorem fn8_ta : T8.gx.g.fn "turned_access" = some e_turned_access := by kernel_rfl
theorem fn8_ll : T8.gx.g.fn "_law_least" = some e__law_least := by kernel_rfl
theorem mk8_acc' : T8.gx.g.mke "Access" = some (mkDen "Access" false i_Access) := by kernel_rfl
abbrev fpE (i : Nat) : E := .tup (.cons (.fld (.var i) "shares") (.cons (.fld (.var i) "least") .nil))
abbrev vpE (i j : Nat) : E := .tup (.cons (.var i) (.cons (.var j) .nil))
abbrev cA1 : E := .cmp .NotEq (.bi .repr (.cons (fpE 3) .nil)) (.bi .repr (.cons (vpE 1 2) .nil))
abbrev cA2 : E := .cmp .NotEq (.var 3) (.mk "Access" (.cons (.var 1) (.cons (.var 2) .nil)))
abbrev cA3 : E := .cmp .Eq (.var 3) (vpE 1 2)
abbrev retF : Ss := .cons (.ret (.lit (.bool false))) .nil
abbrev b1 : S := .ife (.or (.cons cA1 (.cons cA2 (.cons cA3 .nil)))) retF .nil
abbrev b2a : E := .cmp .Lt (.var 1) (.lit (.int 4))
abbrev b2b : E := .cmp .Eq (.var 3) (.mk "Access" (.cons (.bin .Add (.var 1) (.lit (.int 1))) (.cons (.var 2) .nil)))
abbrev b2 : S := .ife (.and (.cons b2a (.cons b2b .nil))) retF .nil
abbrev soE : E := .lc (.v 5) (.rng1 (.bin .LShift (.lit (.int 1)) (.var 1))) .no (.bin .LShift (.var 5) (.lit (.int 1)))
abbrev b3 : S := .asg 4 {} soE
abbrev duE : E := .lc (.v 5) (.e (.var 4)) (.yes (.call "_law_knows" (.cons (.var 2) (.cons (.var 5) .nil)))) (.var 5)
abbrev b4 : S := .asg 6 {} duE
abbrev lkE : E := .bi .tuple (.cons (.lc (.v 5) (.e (.var 6)) .no (.call "_law_lot" (.cons (.var 5) .nil))) .nil)
abbrev b5 : S := .ife (.cmp .NotEq (.bi .repr (.cons (.call "knowing" (.cons (.var 3) .nil)) .nil)) (.bi .repr (.cons lkE .nil))) retF .nil
theorem B1_parts : caseB1 = .cons b1 (.cons b2 (.cons b3 (.cons b4 (.cons b5 .nil)))) := rfl
theorem so_fin (x0 x2 x3 x4 x5 x6 x7 x8 x9 : Option D) (s : Ms) : shs.map (fun sh => ev T8.gx.g soE [x0, some (nI sh), x2, x3, x4, x5, x6, x7, x8, x9] s) = shs.map (fun sh => .ok (lstN (someN sh)) s) := by kernel_rfl
theorem nums_next : ∀ sh ∈ ([1, 2, 3] : List Nat), (nums sh).Sublist (nums (sh + 1)) := by decide +kernel
theorem runA_eq {sh : Nat} {ns : List Nat} (hsh : sh ∈ shs) (hn : ns ∈ acN sh) (s : Ms) : runA s sh ns = endA s sh ns := by
  have A := ac_of hsh hn
  have ln : ns.length ≤ 16 := Nat.le_trans A.len (by decide)
  have ln3 : ns.length ≤ 1000 := Nat.le_trans A.len (by decide)
  obtain ⟨q1, q2⟩ := acc_same hsh hn s
  show evSs T8.gx caseB1 [.sh .pen, .sh (nI sh), .sh (lotsD ns), .sh (accD sh ns), .no, .no, .no, .no, .no, .no] s = _
  rw [B1_parts]
  have s1 : evS T8.gx b1 [.sh .pen, .sh (nI sh), .sh (lotsD ns), .sh (accD sh ns), .no, .no, .no, .no, .no, .no] s = .ok (.nx [.sh .pen, .sh (nI sh), .sh (lotsD ns), .sh (accD sh ns), .no, .no, .no, .no, .no, .no]) s := by
    refine (ife_eq (k := false) (d := .bl false) (s' := s) ?_ rfl).trans rfl
    show evOr T8.gx.g _ [some .pen, some (nI sh), some (lotsD ns), some (accD sh ns), none, none, none, none, none, none] s = _
    have e1 : ev T8.gx.g (fpE 3) [some .pen, some (nI sh), some (lotsD ns), some (accD sh ns), none, none, none, none, none, none] s = .ok (.tup [nI sh, lotsD ns]) s :=
      tup_eq (evs_cons (fld_eq (x := accD sh ns) (var_eq rfl) (fld8s sh ns)) (evs_one (fld_eq (x := accD sh ns) (var_eq rfl) (fld8l sh ns)))) (by show 2 ≤ sizeLine; decide)
    have e2 : ev T8.gx.g (vpE 1 2) [some .pen, some (nI sh), some (lotsD ns), some (accD sh ns), none, none, none, none, none, none] s = .ok (.tup [nI sh, lotsD ns]) s :=
      tup_eq (evs_cons (var_eq rfl) (evs_one (var_eq rfl))) (by show 2 ≤ sizeLine; decide)
    refine (or_cons (k := false) (repr_same (pair_rp (sh32 hsh) A.lt ln) (by decide) (by decide) e1 e2).2 rfl).trans ?_
    rw [if_neg Bool.false_ne_true]
    have e3 : ev T8.gx.g cA2 [some .pen, some (nI sh), some (lotsD ns), some (accD sh ns), none, none, none, none, none, none] s = .ok (.bl false) s :=
      cmp_eq (x := accD sh ns) (y := accD sh ns) (s1 := s) (s2 := s) (var_eq rfl) ((mk_eq mk8_acc' (evs_cons (var_eq rfl) (evs_one (var_eq rfl)))).trans (make_ok A (.refl _) List.mem_cons_self s)) q2
    refine (or_cons (k := false) e3 rfl).trans ?_
    rw [if_neg Bool.false_ne_true, or_one]
    exact cmp_eq (x := accD sh ns) (s1 := s) (var_eq rfl) e2 (eq_tup sh ns s)
  refine (ss_seq s1).trans ?_
  have s2 : evS T8.gx b2 [.sh .pen, .sh (nI sh), .sh (lotsD ns), .sh (accD sh ns), .no, .no, .no, .no, .no, .no] s = .ok (.nx [.sh .pen, .sh (nI sh), .sh (lotsD ns), .sh (accD sh ns), .no, .no, .no, .no, .no, .no]) s := by
    refine (ife_eq (k := false) (d := .bl false) (s' := s) ?_ rfl).trans rfl
    show evAnd T8.gx.g _ [some .pen, some (nI sh), some (lotsD ns), some (accD sh ns), none, none, none, none, none, none] s = _
    by_cases h4 : sh = 4
    · subst h4
      exact (and_cons (k := false) (x := .bl false) (s1 := s) rfl rfl).trans rfl
    · have h3 : sh ∈ ([1, 2, 3] : List Nat) := by
        simp only [shs, List.mem_cons, List.not_mem_nil, or_false] at hsh ⊢
        omega
      have hs1 : sh + 1 ∈ shs := by
        simp only [shs, List.mem_cons, List.not_mem_nil, or_false] at h3 ⊢
        omega
      have A1 : Ac (sh + 1) ns := ⟨hs1, A.sub.trans (nums_next sh h3), A.anti, A.ne⟩
      have t1 : ev T8.gx.g b2a [some .pen, some (nI sh), some (lotsD ns), some (accD sh ns), none, none, none, none, none, none] s = .ok (.bl true) s := by
        refine cmp_eq (x := nI sh) (y := .int 4) (s1 := s) (s2 := s) (var_eq rfl) (lit_eq rfl) ?_
        simp only [List.mem_cons, List.not_mem_nil, or_false] at h3
        rcases h3 with z | z | z <;> subst z <;> rfl
      refine (and_cons (k := true) t1 rfl).trans ?_
      rw [if_pos rfl, and_one]
      have t2 : ev T8.gx.g (.bin .Add (.var 1) (.lit (.int 1))) [some .pen, some (nI sh), some (lotsD ns), some (accD sh ns), none, none, none, none, none, none] s = .ok (nI (sh + 1)) s :=
        bin_eq (x := nI sh) (y := .int 1) (s1 := s) (var_eq rfl) (lit_eq rfl) (by
          show some (D.int (Int.ofNat sh + 1)) = some (D.int (Int.ofNat (sh + 1)))
          rfl)
      exact cmp_eq (x := accD sh ns) (y := accD (sh + 1) ns) (s1 := s) (s2 := s) (var_eq rfl) ((mk_eq mk8_acc' (evs_cons t2 (evs_one (var_eq rfl)))).trans (make_ok A1 (.refl _) List.mem_cons_self s)) (map_at (eq_next ns s) sh h3)
  refine (ss_seq s2).trans ?_
  have s3 : evS T8.gx b3 [.sh .pen, .sh (nI sh), .sh (lotsD ns), .sh (accD sh ns), .no, .no, .no, .no, .no, .no] s = .ok (.nx [.sh .pen, .sh (nI sh), .sh (lotsD ns), .sh (accD sh ns), .sh (lstN (someN sh)), .no, .no, .no, .no, .no]) s :=
    asg_eq (map_at (so_fin (some .pen) (some (lotsD ns)) (some (accD sh ns)) none none none none none none s) sh hsh)
  refine (ss_seq s3).trans ?_
  have s4 : evS T8.gx b4 [.sh .pen, .sh (nI sh), .sh (lotsD ns), .sh (accD sh ns), .sh (lstN (someN sh)), .no, .no, .no, .no, .no] s = .ok (.nx [.sh .pen, .sh (nI sh), .sh (lotsD ns), .sh (accD sh ns), .sh (lstN (someN sh)), .no, .sh (lstN (dueN sh ns)), .no, .no, .no]) s := by
    have lc := lc_pure (Γ := T8.gx.g) (ρ := [some .pen, some (nI sh), some (lotsD ns), some (accD sh ns), some (lstN (someN sh)), none, none, none, none, none]) (s := s) (s1 := s) (tg := .v 5) (it := .e (.var 4)) (c := .yes (.call "_law_knows" (.cons (.var 2) (.cons (.var 5) .nil)))) (e := .var 5) nI (knowsB ns) nI (as := someN sh) (it_e (x := lstN (someN sh)) (var_eq rfl) rfl)
      (fun n hn => ⟨_, rfl, evc_yes ((call_eq fn8_lk (evs_cons (d := lotsD ns) (var_eq rfl) (evs_one (var_eq rfl)))).trans (lknows_eq A.lt ln3 (some32 hsh n hn) s)) rfl, fun _ => var_eq rfl⟩) (tm_le (Nat.le_trans (some16 hsh) (by decide)))
    exact asg_eq lc
  refine (ss_seq s4).trans ?_
  have d32 : ∀ a ∈ dueN sh ns, a < 32 := fun a ha => some32 hsh a (List.mem_filter.mp ha).1
  have d16 : (dueN sh ns).length ≤ 16 := Nat.le_trans (List.length_filter_le _ _) (some16 hsh)
  have s5 : evS T8.gx b5 [.sh .pen, .sh (nI sh), .sh (lotsD ns), .sh (accD sh ns), .sh (lstN (someN sh)), .no, .sh (lstN (dueN sh ns)), .no, .no, .no] s = .ok (.nx [.sh .pen, .sh (nI sh), .sh (lotsD ns), .sh (accD sh ns), .sh (lstN (someN sh)), .no, .sh (lstN (dueN sh ns)), .no, .no, .no]) s := by
    have e1 : ev T8.gx.g (.call "knowing" (.cons (.var 3) .nil)) [some .pen, some (nI sh), some (lotsD ns), some (accD sh ns), some (lstN (someN sh)), none, some (lstN (dueN sh ns)), none, none, none] s = .ok (.tup ((dueN sh ns).map lotD)) s :=
      (call_eq fn8_kn (evs_one (var_eq rfl))).trans (knowing_eq A s)
    have lc := lc_pure (Γ := T8.gx.g) (ρ := [some .pen, some (nI sh), some (lotsD ns), some (accD sh ns), some (lstN (someN sh)), none, some (lstN (dueN sh ns)), none, none, none]) (s := s) (s1 := s) (tg := .v 5) (it := .e (.var 6)) (c := .no) (e := .call "_law_lot" (.cons (.var 5) .nil)) nI (fun _ => true) lotD (as := dueN sh ns) (it_e (x := lstN (dueN sh ns)) (var_eq rfl) rfl)
      (fun n hn => ⟨_, rfl, rfl, fun _ => (call_eq fn8_lot' (evs_one (var_eq rfl))).trans (law_lot (Nat.lt_trans (d32 n hn) (by decide)) s)⟩) (tm_le (Nat.le_trans d16 (by decide)))
    rw [List.filter_eq_self.mpr fun _ _ => rfl] at lc
    have e2 : ev T8.gx.g lkE [some .pen, some (nI sh), some (lotsD ns), some (accD sh ns), some (lstN (someN sh)), none, some (lstN (dueN sh ns)), none, none, none] s = .ok (.tup ((dueN sh ns).map lotD)) s := bi_eq (evs_one lc) rfl
    exact (ife_eq (k := false) (repr_same (lots_rp d32 d16) (by decide) (by decide) e1 e2).2 rfl).trans rfl
  exact (ss_seq s5).trans rfl
/-! ### the last part -/
abbrev ltC : E := .not (.call "_law_knows" (.cons (.var 2) (.cons ltB .nil)))
abbrev lnE : E := .lc (.v 5) (.e (.var 4)) (.yes ltC) (.var 5)
abbrev g1 : S := .asg 8 {} (.call "turned_access" (.cons (.var 3) .nil))
abbrev g2 : S := .asg 9 {} (.call "_law_least" (.cons lnE .nil))
abbrev g3a : E := .cmp .Eq (.bi .repr (.cons (fpE 8) .nil)) (.bi .repr (.cons (vpE 1 9) .nil))
abbrev g3b : E := .cmp .Eq (.call "turned_access" (.cons (.var 8) .nil)) (.var 3)
theorem B2_parts : caseB2 = .cons g1 (.cons g2 (.cons (.ret (.and (.cons g3a (.cons g3b .nil)))) .nil)) := rfl
theorem lt_fin (x0 x1 x2 x3 x6 x7 x8 x9 : Option D) (s : Ms) : shsn.map (fun p => ev T8.gx.g ltB [x0, x1, x2, x3, some (lstN (someN p.1)), some (nI p.2), x6, x7, x8, x9] s) = shsn.map (fun p => .ok (nI (topN p.1 - p.2)) s) := by kernel_rfl
/-- the law's own least ones -/
abbrev llB : E := .and (.cons (.cmp .NotEq (.var 3) (.var 2)) (.cons (.cmp .Eq (.bin .BitAnd (.var 3) (.var 2)) (.var 3)) .nil))
theorem ll_fin (x0 x1 : Option D) (s : Ms) : pairs32.map (fun p => ev T3.gx.g llB [x0, x1, some (nI p.1), some (nI p.2)] s) = pairs32.map (fun p => .ok (.bl (hold p.1 p.2)) s) := by kernel_rfl
theorem ll_parts : m__law_least = .cons (.asg 1 {} (.lc (.v 2) (.e (.var 0)) (.yes (.not (.bi .any (.cons (.lc (.v 3) (.e (.var 0)) .no llB) .nil)))) (.var 2))) (.cons (.ret (.bi .tuple (.cons (.lc (.v 2) (.e (.prim "sorted" (.cons (.var 1) .nil))) .no (.call "_law_lot" (.cons (.var 2) .nil))) .nil))) .nil) := rfl
theorem fn3_lot : T3.gx.g.fn "_law_lot" = some e__law_lot := by kernel_rfl
theorem prim3_sorted : T3.gx.g.prim "sorted" = some (fun ds => match ds with
    | [.lst xs] => sortedD xs
    | _ => none) := by kernel_rfl
theorem lleast_eq {sh : Nat} {l : List Nat} (h32 : ∀ a ∈ l, a < 32) (hl : l.length ≤ 1000) (A : Ac sh (mins l)) (s : Ms) : e__law_least [lstN l] s = .ok (lotsD (mins l)) s := by
  refine den_rt rfl ?_
  rw [ll_parts]
  have lc := lc_pure (Γ := T3.gx.g) (ρ := [some (lstN l), none, none, none]) (s := s) (s1 := s) (tg := .v 2) (it := .e (.var 0)) (c := .yes (.not (.bi .any (.cons (.lc (.v 3) (.e (.var 0)) .no llB) .nil)))) (e := .var 2) nI (fun n => !l.any (hold n)) nI (as := l) (it_e (x := lstN l) (var_eq rfl) rfl)
    (fun n hn => ⟨_, rfl, evc_yes (not_eq (k := l.any (hold n)) (any_eq nI (hold n) (as := l) (it_e (x := lstN l) (var_eq rfl) rfl) (fun m hm => ⟨_, rfl, map_at (ll_fin _ _ s) (n, m) (mem32 (h32 n hn) (h32 m hm))⟩) (tm_le hl)) rfl) rfl, fun _ => var_eq rfl⟩) (tm_le hl)
  refine (ss_seq (asg_eq lc)).trans (ss_ret (ret_eq ?_))
  have so : ev T3.gx.g (.prim "sorted" (.cons (.var 1) .nil)) [some (lstN l), some (.lst ((mins l).map nI)), none, none] s = .ok (.lst ((mins l).map nI)) s := by
    refine prim_eq prim3_sorted (ds := [.lst ((mins l).map nI)]) (evs_one (var_eq rfl)) ?_
    show sortedD ((mins l).map nI) = _
    rw [sorted_ints, A.sorted (.refl _), ofNat_map]
  have lc2 := lc_pure (Γ := T3.gx.g) (c := .no) nI (fun _ => true) lotD (as := mins l) (tg := .v 2) (e := .call "_law_lot" (.cons (.var 2) .nil)) (it_e so rfl) (fun n hn => ⟨_, rfl, rfl, fun _ => (call_eq fn3_lot (evs_one (var_eq rfl))).trans (law_lot (Nat.lt_trans (A.lt n hn) (by decide)) s)⟩) (tm_le (Nat.le_trans A.len (by decide)))
  rw [List.filter_eq_self.mpr fun _ _ => rfl] at lc2
  exact bi_eq (evs_one lc2) rfl
theorem runB_eq {sh nn : Nat} {ns : List Nat} (hsh : sh ∈ shs) (hn : ns ∈ acN sh) (s : Ms) : runB (.sh .pen) (.sh (nI nn)) (.sh (lotD nn)) s sh ns = endB s := by
  have A := ac_of hsh hn
  obtain ⟨t1, t2⟩ := turn_fin sh hsh ns hn
  have A2 := ac_of hsh t1
  have A3 : Ac sh (turnN sh (turnN sh ns)) := by rw [t2]; exact A
  have q1 := (acc_same hsh hn s).1
  have o32 : ∀ a ∈ offs sh ns, a < 32 := fun a ha => some32 hsh a (List.mem_filter.mp ha).1
  have o16 : (offs sh ns).length ≤ 16 := Nat.le_trans (List.length_filter_le _ _) (some16 hsh)
  show evSs T8.gx caseB2 [.sh .pen, .sh (nI sh), .sh (lotsD ns), .sh (accD sh ns), .sh (lstN (someN sh)), .sh (nI nn), .sh (lstN (dueN sh ns)), .sh (lotD nn), .no, .no] s = _
  rw [B2_parts]
  have s1 : evS T8.gx g1 [.sh .pen, .sh (nI sh), .sh (lotsD ns), .sh (accD sh ns), .sh (lstN (someN sh)), .sh (nI nn), .sh (lstN (dueN sh ns)), .sh (lotD nn), .no, .no] s = .ok (.nx [.sh .pen, .sh (nI sh), .sh (lotsD ns), .sh (accD sh ns), .sh (lstN (someN sh)), .sh (nI nn), .sh (lstN (dueN sh ns)), .sh (lotD nn), .sh (accD sh (turnN sh ns)), .no]) s :=
    asg_eq ((call_eq fn8_ta (evs_one (var_eq rfl))).trans (turned_eq A A2 s))
  refine (ss_seq s1).trans ?_
  have s2 : evS T8.gx g2 [.sh .pen, .sh (nI sh), .sh (lotsD ns), .sh (accD sh ns), .sh (lstN (someN sh)), .sh (nI nn), .sh (lstN (dueN sh ns)), .sh (lotD nn), .sh (accD sh (turnN sh ns)), .no] s = .ok (.nx [.sh .pen, .sh (nI sh), .sh (lotsD ns), .sh (accD sh ns), .sh (lstN (someN sh)), .sh (nI nn), .sh (lstN (dueN sh ns)), .sh (lotD nn), .sh (accD sh (turnN sh ns)), .sh (lotsD (turnN sh ns))]) s := by
    have lc := lc_pure (Γ := T8.gx.g) (ρ := [some .pen, some (nI sh), some (lotsD ns), some (accD sh ns), some (lstN (someN sh)), some (nI nn), some (lstN (dueN sh ns)), some (lotD nn), some (accD sh (turnN sh ns)), none]) (s := s) (s1 := s) (tg := .v 5) (it := .e (.var 4)) (c := .yes ltC) (e := .var 5) nI (fun n => !knowsB ns (topN sh - n)) nI (as := someN sh) (it_e (x := lstN (someN sh)) (var_eq rfl) rfl)
      (fun n hn => ⟨_, rfl, evc_yes (not_eq (k := knowsB ns (topN sh - n)) ((call_eq fn8_lk (evs_cons (d := lotsD ns) (var_eq rfl) (evs_one (map_at (lt_fin (some .pen) (some (nI sh)) (some (lotsD ns)) (some (accD sh ns)) (some (lstN (dueN sh ns))) (some (lotD nn)) (some (accD sh (turnN sh ns))) none s) (sh, n) (mem_shsn hsh hn))))).trans (lknows_eq A.lt (Nat.le_trans A.len (by decide)) (top_sub hsh n) s)) rfl) rfl, fun _ => var_eq rfl⟩) (tm_le (Nat.le_trans (some16 hsh) (by decide)))
    exact asg_eq ((call_eq fn8_ll (evs_one lc)).trans (lleast_eq (l := offs sh ns) o32 (Nat.le_trans o16 (by decide)) A2 s))
  refine (ss_seq s2).trans (ss_ret (ret_eq ?_))
  show evAnd T8.gx.g _ [some .pen, some (nI sh), some (lotsD ns), some (accD sh ns), some (lstN (someN sh)), some (nI nn), some (lstN (dueN sh ns)), some (lotD nn), some (accD sh (turnN sh ns)), some (lotsD (turnN sh ns))] s = _
  have e1 : ev T8.gx.g (fpE 8) [some .pen, some (nI sh), some (lotsD ns), some (accD sh ns), some (lstN (someN sh)), some (nI nn), some (lstN (dueN sh ns)), some (lotD nn), some (accD sh (turnN sh ns)), some (lotsD (turnN sh ns))] s = .ok (.tup [nI sh, lotsD (turnN sh ns)]) s :=
    tup_eq (evs_cons (fld_eq (x := accD sh (turnN sh ns)) (var_eq rfl) (fld8s sh _)) (evs_one (fld_eq (x := accD sh (turnN sh ns)) (var_eq rfl) (fld8l sh _)))) (by show 2 ≤ sizeLine; decide)
  have e2 : ev T8.gx.g (vpE 1 9) [some .pen, some (nI sh), some (lotsD ns), some (accD sh ns), some (lstN (someN sh)), some (nI nn), some (lstN (dueN sh ns)), some (lotD nn), some (accD sh (turnN sh ns)), some (lotsD (turnN sh ns))] s = .ok (.tup [nI sh, lotsD (turnN sh ns)]) s :=
    tup_eq (evs_cons (var_eq rfl) (evs_one (var_eq rfl))) (by show 2 ≤ sizeLine; decide)
  refine (and_cons (k := true) (repr_same (pair_rp (sh32 hsh) A2.lt (Nat.le_trans A2.len (by decide))) (by decide) (by decide) e1 e2).1 rfl).trans ?_
  rw [if_pos rfl, and_one]
  have e3 : e_turned_access [accD sh (turnN sh ns)] s = .ok (accD sh ns) s := by
    have z := turned_eq A2 A3 s
    rw [t2] at z
    exact z
  exact cmp_eq (x := accD sh ns) (y := accD sh ns) (s1 := s) (s2 := s) ((call_eq fn8_ta (evs_one (var_eq rfl))).trans e3) (var_eq rfl) q1
end Mk
set_option Elab.async false
set_option linter.all false
set_option maxRecDepth 100000
set_option maxHeartbeats 2000000
/-! Plain6: a case holds. -/
namespace Mk
open PySem PySem.Spec PyProof.Rows L2 Mp
theorem fn8_draw : T8.gx.g.fn "_law_draw" = some e__law_draw := by kernel_rfl
theorem fn8_acc : T8.gx.g.fn "_law_access" = some e__law_access := by kernel_rfl
theorem fn8_shuf : T8.gx.g.fn "_law_shuffled" = some e__law_shuffled := by kernel_rfl
theorem fn8_lists : T8.gx.g.fn "_law_lists" = some e__law_lists := by kernel_rfl
theorem fn8_pick : T8.gx.g.fn "_law_pick" = some e__law_pick := by kernel_rfl
theorem fn8_lot : T8.gx.g.fn "_law_lot" = some e__law_lot := by kernel_rfl
theorem fn8_may : T8.gx.g.fn "may_know" = some e_may_know := by kernel_rfl
theorem mk8_acc : T8.gx.g.mke "Access" = some (mkDen "Access" false i_Access) := by kernel_rfl
abbrev k1 : S := .asg 1 {} (.bin .Add (.lit (.int 1)) (.call "_law_draw" (.cons (.var 0) (.cons (.lit (.int 4)) .nil))))
abbrev k2 : S := .asg 2 {} (.call "_law_access" (.cons (.var 0) (.cons (.var 1) .nil)))
abbrev k3e : E := .mk "Access" (.cons (.var 1) (.cons (.call "_law_lists" (.cons (.var 0) (.cons (.bi .tuple (.cons (.call "_law_shuffled" (.cons (.var 0) (.cons (.var 2) .nil))) .nil)) .nil))) .nil))
abbrev k3 : S := .asg 3 {} k3e
abbrev k9 : S := .asg 5 {} (.call "_law_pick" (.cons (.var 0) (.cons (.var 4) .nil)))
abbrev k10 : S := .asg 7 {} (.call "_law_lot" (.cons (.var 5) .nil))
abbrev k11m : E := .call "may_know" (.cons (.var 3) (.cons (.call "_law_pick" (.cons (.var 0) (.cons (.lst (.cons (.var 7) (.cons (.bi .list (.cons (.var 7) .nil)) .nil))) .nil))) .nil))
abbrev k11 : S := .ife (.cmp .NotEq (.bi .repr (.cons k11m .nil)) (.bi .repr (.cons (.cmp .In (.var 5) (.var 6)) .nil))) (.cons (.ret (.lit (.bool false))) .nil) .nil
theorem case_parts : ∃ a b c d e, m__law_case = .cons k1 (.cons k2 (.cons k3 (.cons a (.cons b (.cons c (.cons d (.cons e (.cons k9 (.cons k10 (.cons k11 caseB2)))))))))) ∧ caseB1 = .cons a (.cons b (.cons c (.cons d (.cons e .nil)))) := ⟨_, _, _, _, _, rfl, rfl⟩
/-- five statements, then others -/
theorem ss5 {Γ : Gx} {a b c d e : S} {r : Ss} {ρ ρ' : List Sl} {s s' : Ms} (h : evSs Γ (.cons a (.cons b (.cons c (.cons d (.cons e .nil))))) ρ s = .ok (.nx ρ') s') : evSs Γ (.cons a (.cons b (.cons c (.cons d (.cons e r))))) ρ s = evSs Γ r ρ' s' := by
  have step : ∀ {t : S} {m : Ss} {ρ ρ' : List Sl} {s s' : Ms}, evSs Γ (.cons t m) ρ s = .ok (.nx ρ') s' → ∃ ρ1 s1, evS Γ t ρ s = .ok (.nx ρ1) s1 ∧ evSs Γ m ρ1 s1 = .ok (.nx ρ') s' := fun {t m ρ ρ' s s'} h => by
    have h' : (evS Γ t ρ s).bind (fun c s => match c with
      | .nx ρ' => evSs Γ m ρ' s
      | c => .ok c s) = .ok (.nx ρ') s' := h
    cases z : evS Γ t ρ s with
    | ok c s1 =>
      rw [z] at h'
      cases c with
      | nx ρ1 => exact ⟨ρ1, s1, rfl, h'⟩
      | rt d => cases h'
      | bk _ => cases h'
      | ct _ => cases h'
    | ex x s1 => rw [z] at h'; cases h'
    | bad => rw [z] at h'; cases h'
  obtain ⟨r1, s1, e1, h1⟩ := step h
  obtain ⟨r2, s2, e2, h2⟩ := step h1
  obtain ⟨r3, s3, e3, h3⟩ := step h2
  obtain ⟨r4, s4, e4, h4⟩ := step h3
  obtain ⟨r5, s5, e5, h5⟩ := step h4
  have h5 : Out.ok (Ctl.nx r5) s5 = .ok (.nx ρ') s' := h5
  cases h5
  exact (ss_seq e1).trans ((ss_seq e2).trans ((ss_seq e3).trans ((ss_seq e4).trans (ss_seq e5))))
theorem lots_perm {ns : List Nat} {ys : List D} (p : ys.Perm (ns.map lotD)) : ∃ ms : List Nat, ys = ms.map lotD ∧ ms.Perm ns := by
  obtain ⟨ms, q1, q2⟩ := P2.perm (F := fun (a : Nat) (d : D) => d = lotD a) p.symm (as := ns) (by
    clear p
    induction ns with
    | nil => exact .nil
    | cons x xs ih => exact .cons rfl ih)
  refine ⟨ms, ?_, q2⟩
  clear q2 p
  induction q1 with
  | nil => rfl
  | cons e _ ih => rw [List.map_cons, ← ih, e]
theorem some_lt {sh : Nat} (h : sh ∈ shs) : ∀ n ∈ someN sh, n < 32 := by
  have : ∀ sh ∈ shs, ∀ n ∈ someN sh, n < 32 := by decide +kernel
  exact this sh h
theorem some_len {sh : Nat} (h : sh ∈ shs) : 0 < (someN sh).length ∧ (someN sh).length ≤ 16 := by
  have : ∀ sh ∈ shs, 0 < (someN sh).length ∧ (someN sh).length ≤ 16 := by decide +kernel
  exact this sh h
theorem lot_list (n : Nat) : (D.lst ((lotL n).map fun k => D.int (Int.ofNat k))) = lotLD n := rfl
theorem repr_bl (b : Bool) : biD .repr [.bl b] = some (.str (PyData.shown (.bool b))) := by cases b <;> rfl
theorem case_st {n : Int} {s : Ms} (h : St n s) (hn : n < 800000000) : ∃ s', e__law_case [.pen] s = .ok (.bl true) s' ∧ St (n + 40) s' := by
  obtain ⟨i, s1, h1, h2, h3, h4⟩ := draw_st h (by omega) (many := 4) (by decide)
  obtain ⟨sh, hsh, ei⟩ : ∃ sh ∈ shs, (1 + i : Int) = Int.ofNat sh := by
    have c : i = 0 ∨ i = 1 ∨ i = 2 ∨ i = 3 := by omega
    rcases c with c | c | c | c <;> subst c
    · exact ⟨1, by decide, rfl⟩
    · exact ⟨2, by decide, rfl⟩
    · exact ⟨3, by decide, rfl⟩
    · exact ⟨4, by decide, rfl⟩
  obtain ⟨ns, s2, h5, h6, h7⟩ := access_st h4 (by omega) hsh
  have A := ac_of hsh h6
  have ln := A.len
  obtain ⟨ys, s3, h8, h9, h10⟩ := shuffled_st h7 (q := lotsD ns) (xs := ns.map lotD) (.inr rfl) (by rw [List.length_map]; omega) (by rw [List.length_map]; omega)
  obtain ⟨ms, ey, pm⟩ := lots_perm h9
  subst ey
  have lm : ms.length ≤ 15 := by rw [pm.length_eq]; exact ln
  obtain ⟨d, s4, h11, h12, h13⟩ := lists_st h10 (by rw [List.length_map]; omega) (ms := ms) (by omega)
  have mk := make_ok A pm h12 s4
  have fa := runA_eq hsh h6 s4
  obtain ⟨x, s5, h14, h15, h16⟩ := pick_st h13 (by rw [List.length_map]; omega) (q := lstN (someN sh)) (xs := (someN sh).map nI) (.inl rfl) (by rw [List.length_map]; exact (some_len hsh).1) (by rw [List.length_map]; have := (some_len hsh).2; omega)
  obtain ⟨nn, hnn, ex⟩ := List.mem_map.mp h15
  subst ex
  obtain ⟨y, s6, h17, h18, h19⟩ := pick_st h16 (by rw [List.length_map]; omega) (q := .lst [lotD nn, lotLD nn]) (xs := [lotD nn, lotLD nn]) (.inl rfl) (by show 0 < 2; decide) (by show 2 < 1000000; decide)
  have c1 := may_eq A hnn (.inl rfl) s6
  have c2 := may_eq A hnn (.inr rfl) s6
  have c3 := in_due (ns := ns) hnn
  have fb := runB_eq (nn := nn) hsh h6 s6
  refine ⟨s6, den_rt rfl ?_, h19.le (by rw [List.length_map]; omega)⟩
  obtain ⟨a, b, c, e, f, ep, eb⟩ := case_parts
  rw [ep]
  have t1 : evS T8.gx k1 [.sh .pen, .no, .no, .no, .no, .no, .no, .no, .no, .no] s = .ok (.nx [.sh .pen, .sh (nI sh), .no, .no, .no, .no, .no, .no, .no, .no]) s1 := by
    have q := asg_eq (Γ := T8.gx) (i := 1) (ρ := [.sh .pen, .no, .no, .no, .no, .no, .no, .no, .no, .no]) (bin_eq (Γ := T8.gx.g) (op := .Add) (a := .lit (.int 1)) (b := .call "_law_draw" (.cons (.var 0) (.cons (.lit (.int 4)) .nil))) (d := .int (1 + i)) (x := .int 1) (lit_eq rfl) ((call_eq fn8_draw (evs_cons (var_eq rfl) (evs_one (lit_eq rfl)))).trans h1) rfl)
    rw [ei] at q
    exact q
  refine (ss_seq t1).trans ?_
  have t2 : evS T8.gx k2 [.sh .pen, .sh (nI sh), .no, .no, .no, .no, .no, .no, .no, .no] s1 = .ok (.nx [.sh .pen, .sh (nI sh), .sh (lotsD ns), .no, .no, .no, .no, .no, .no, .no]) s2 :=
    asg_eq ((call_eq fn8_acc (evs_cons (var_eq rfl) (evs_one (var_eq rfl)))).trans h5)
  refine (ss_seq t2).trans ?_
  have t3 : evS T8.gx k3 [.sh .pen, .sh (nI sh), .sh (lotsD ns), .no, .no, .no, .no, .no, .no, .no] s2 = .ok (.nx [.sh .pen, .sh (nI sh), .sh (lotsD ns), .sh (accD sh ns), .no, .no, .no, .no, .no, .no]) s4 := by
    have e1 : ev T8.gx.g (.bi .tuple (.cons (.call "_law_shuffled" (.cons (.var 0) (.cons (.var 2) .nil))) .nil)) [some .pen, some (nI sh), some (lotsD ns), none, none, none, none, none, none, none] s2 = .ok (.tup (ms.map lotD)) s3 :=
      bi_eq (evs_one ((call_eq fn8_shuf (evs_cons (var_eq rfl) (evs_one (var_eq rfl)))).trans h8)) rfl
    have e2 : ev T8.gx.g (.call "_law_lists" (.cons (.var 0) (.cons (.bi .tuple (.cons (.call "_law_shuffled" (.cons (.var 0) (.cons (.var 2) .nil))) .nil)) .nil))) [some .pen, some (nI sh), some (lotsD ns), none, none, none, none, none, none, none] s2 = .ok d s4 :=
      (call_eq fn8_lists (evs_cons (var_eq rfl) (evs_one e1))).trans h11
    exact asg_eq ((mk_eq mk8_acc (evs_cons (var_eq rfl) (evs_one e2))).trans mk)
  refine (ss_seq t3).trans ?_
  have t4 : evSs T8.gx (.cons a (.cons b (.cons c (.cons e (.cons f .nil))))) [.sh .pen, .sh (nI sh), .sh (lotsD ns), .sh (accD sh ns), .no, .no, .no, .no, .no, .no] s4 = endA s4 sh ns := by
    rw [← eb]; exact fa
  refine (ss5 t4).trans ?_
  have t9 : evS T8.gx k9 [.sh .pen, .sh (nI sh), .sh (lotsD ns), .sh (accD sh ns), .sh (lstN (someN sh)), .no, .sh (lstN (dueN sh ns)), .no, .no, .no] s4 = .ok (.nx [.sh .pen, .sh (nI sh), .sh (lotsD ns), .sh (accD sh ns), .sh (lstN (someN sh)), .sh (nI nn), .sh (lstN (dueN sh ns)), .no, .no, .no]) s5 :=
    asg_eq ((call_eq fn8_pick (evs_cons (var_eq rfl) (evs_one (var_eq rfl)))).trans h14)
  refine (ss_seq t9).trans ?_
  have t10 : evS T8.gx k10 [.sh .pen, .sh (nI sh), .sh (lotsD ns), .sh (accD sh ns), .sh (lstN (someN sh)), .sh (nI nn), .sh (lstN (dueN sh ns)), .no, .no, .no] s5 = .ok (.nx [.sh .pen, .sh (nI sh), .sh (lotsD ns), .sh (accD sh ns), .sh (lstN (someN sh)), .sh (nI nn), .sh (lstN (dueN sh ns)), .sh (lotD nn), .no, .no]) s5 :=
    asg_eq ((call_eq fn8_lot (evs_one (var_eq rfl))).trans (law_lot (Nat.lt_trans (some_lt hsh nn hnn) (by decide)) s5))
  refine (ss_seq t10).trans ?_
  have my : ∀ s, s = s6 → e_may_know [accD sh ns, y] s6 = .ok (.bl (knowsB ns nn)) s6 := fun s _ => by
    rcases List.mem_cons.mp h18 with z | z
    · rw [z]; exact c1
    · rw [List.mem_singleton.mp z]; exact c2
  have t11 : evS T8.gx k11 [.sh .pen, .sh (nI sh), .sh (lotsD ns), .sh (accD sh ns), .sh (lstN (someN sh)), .sh (nI nn), .sh (lstN (dueN sh ns)), .sh (lotD nn), .no, .no] s5 = .ok (.nx [.sh .pen, .sh (nI sh), .sh (lotsD ns), .sh (accD sh ns), .sh (lstN (someN sh)), .sh (nI nn), .sh (lstN (dueN sh ns)), .sh (lotD nn), .no, .no]) s6 := by
    have e1 : ev T8.gx.g (.lst (.cons (.var 7) (.cons (.bi .list (.cons (.var 7) .nil)) .nil))) [some .pen, some (nI sh), some (lotsD ns), some (accD sh ns), some (lstN (someN sh)), some (nI nn), some (lstN (dueN sh ns)), some (lotD nn), none, none] s5 = .ok (.lst [lotD nn, lotLD nn]) s5 :=
      lst_eq (evs_cons (var_eq rfl) (evs_one (bi_eq (ds := [lotD nn]) (evs_one (var_eq rfl)) rfl))) (by show 2 ≤ sizeLine; decide)
    have e2 : ev T8.gx.g k11m [some .pen, some (nI sh), some (lotsD ns), some (accD sh ns), some (lstN (someN sh)), some (nI nn), some (lstN (dueN sh ns)), some (lotD nn), none, none] s5 = .ok (.bl (knowsB ns nn)) s6 :=
      (call_eq fn8_may (evs_cons (var_eq rfl) (evs_one ((call_eq fn8_pick (evs_cons (var_eq rfl) (evs_one e1))).trans h17)))).trans (my _ rfl)
    have e3 : ev T8.gx.g (.cmp .In (.var 5) (.var 6)) [some .pen, some (nI sh), some (lotsD ns), some (accD sh ns), some (lstN (someN sh)), some (nI nn), some (lstN (dueN sh ns)), some (lotD nn), none, none] s6 = .ok (.bl (knowsB ns nn)) s6 :=
      cmp_eq (x := nI nn) (y := lstN (dueN sh ns)) (s1 := s6) (s2 := s6) (var_eq rfl) (var_eq rfl) (by
        show Out.opt (inD (nI nn) (lstN (dueN sh ns))) s6 = _
        rw [c3]; rfl)
    have e4 := bi_eq (f := .repr) (evs_one e2) (repr_bl _)
    have e5 := bi_eq (f := .repr) (evs_one e3) (repr_bl _)
    have e6 := cmp_eq (op := .NotEq) (k := false) (s3 := s6) e4 e5 (by cases knowsB ns nn <;> kernel_rfl)
    exact (ife_eq (k := false) e6 rfl).trans rfl
  refine (ss_seq t11).trans ?_
  exact fb
end Mk
set_option Elab.async false
set_option linter.all false
set_option maxRecDepth 100000
set_option maxHeartbeats 0
/-! Due: the calls tell what is due. -/
namespace Mk
open PySem PySem.Spec PyProof.Rows L2 Mp
def fewL : List D := [.int 0, .int 5, .int (-1), .bl true, .non, .str "2"]
def i1 : D := .int 1
def badL (sh : Nat) : List D := [.non, .int 5, .tup [], .tup [.tup []], .tup [.tup [.int 0]], .tup [.tup [.int (Int.ofNat sh + 1)]], .tup [.tup [i1, i1]], .tup [.tup [i1], .tup [i1]], .tup [.tup [i1], .non], .tup [i1], .str "1", .tup [.tup [.bl true]], .tup [.tup [i1, .int 0]], .dct []]
def oddL (xs : List D) : List D := [.non, .int 0, .tup xs, .str "access"]
def lotL' (sh : Nat) : List D := [.non, .tup [.int 0], .tup [.int (Int.ofNat sh + 1)], .tup [i1, i1], .int 5, .tup [.str "1"], .tup [.bl true]]
def en (sh one few bad odd lot : D) : List (Option D) := [none, some .pen, none, some sh, none, some one, some few, some bad, some odd, some lot, none]
abbrev sE (s : Ms) (e : List (Option D)) : Ms := ⟨s.pen, s.oid, some e⟩
abbrev cmpE : E := .cmp .Eq (.bi .repr (.cons (.call "_law_fault" (.cons (.var 1) .nil)) .nil)) (.bi .repr (.cons (.var 2) .nil))
abbrev duR (x0 : Option D) (s : Ms) (e : List (Option D)) (k : Nat) (due : D) : Out D := ev T11.gx.g cmpE [x0, some (.lam k), some due] (sE s e)
abbrev okD (s : Ms) (e : List (Option D)) : Out D := .ok (.bl true) (sE s e)
def dNum (few : D) : D := .tup [.str "number", .str "shares", few]
def dRow (bad : D) : D := .tup [.str "row", bad]
def dUn : D := .tup [.str "unlike", .str "access"]
def dLot (lot : D) : D := .tup [.str "lot", lot]
def d2 : D := .tup [.tup [.int 1, .int 2], .tup [.int 1, .int 2, .int 3]]
theorem du0 (x0 : Option D) (s : Ms) (sh one bad odd lot : D) : fewL.map (fun few => duR x0 s (en sh one few bad odd lot) 0 (dNum few)) = fewL.map (fun few => okD s (en sh one few bad odd lot)) := by kernel_rfl
def shbad : List (Nat × D) := shs.flatMap fun sh => (badL sh).map fun b => (sh, b)
theorem du1 (x0 : Option D) (s : Ms) (one few odd lot : D) : shbad.map (fun p => duR x0 s (en (nI p.1) one few p.2 odd lot) 1 (dRow p.2)) = shbad.map (fun p => okD s (en (nI p.1) one few p.2 odd lot)) := by kernel_rfl
theorem du2 (x0 : Option D) (s : Ms) (sh one few bad odd lot : D) : duR x0 s (en sh one few bad odd lot) 2 (dRow d2) = okD s (en sh one few bad odd lot) := by kernel_rfl
theorem du3 (x0 : Option D) (s : Ms) (sh one few bad lot : D) (xs : List D) : (oddL xs).map (fun odd => duR x0 s (en sh one few bad odd lot) 3 dUn) = (oddL xs).map (fun odd => okD s (en sh one few bad odd lot)) := by kernel_rfl
def shlot : List (Nat × D) := shs.flatMap fun sh => (lotL' sh).map fun b => (sh, b)
theorem du4 (x0 : Option D) (s : Ms) (few bad odd ls : D) : shlot.map (fun p => duR x0 s (en (nI p.1) (.ins "Access" 0 [("shares", nI p.1), ("least", ls)]) few bad odd p.2) 4 (dLot p.2)) = shlot.map (fun p => okD s (en (nI p.1) (.ins "Access" 0 [("shares", nI p.1), ("least", ls)]) few bad odd p.2)) := by kernel_rfl
theorem du5 (x0 : Option D) (s : Ms) (sh one few bad lot : D) (xs : List D) : (oddL xs).map (fun odd => duR x0 s (en sh one few bad odd lot) 5 dUn) = (oddL xs).map (fun odd => okD s (en sh one few bad odd lot)) := by kernel_rfl
theorem du6 (x0 : Option D) (s : Ms) (sh one few bad lot : D) (xs : List D) : (oddL xs).map (fun odd => duR x0 s (en sh one few bad odd lot) 6 dUn) = (oddL xs).map (fun odd => okD s (en sh one few bad odd lot)) := by kernel_rfl
theorem du7 (x0 : Option D) (s : Ms) (sh one bad odd lot : D) : fewL.map (fun few => duR x0 s (en sh one few bad odd lot) 7 (dNum few)) = fewL.map (fun few => okD s (en sh one few bad odd lot)) := by kernel_rfl
end Mk
set_option Elab.async false
set_option linter.all false
set_option maxRecDepth 100000
set_option maxHeartbeats 2000000
/-! LawT: the law's own statements, in parts. -/
namespace Mk
open PySem PySem.Spec PyProof.Rows L2 Mp
def headS : Ss → S
  | .cons t _ => t
  | .nil => .pas
def toldD (sh : Nat) : D := .tup ((accL sh).map (accD sh))
def law4 : S := headS (dropS 3 m_law)
abbrev rho4 (sh : Nat) : List Sl := [.no, .sh .pen, .no, .sh (nI sh), .sh (toldD sh), .no, .no, .no, .no, .no, .no]
end Mk
set_option Elab.async false
set_option linter.all false
set_option maxRecDepth 100000
set_option maxHeartbeats 2000000
/-! Plain8: the law's own def, in plain Lean. -/
namespace Mk
open PySem PySem.Spec PyProof.Rows L2 Mp
abbrev fewE : E := .lst (.cons (.lit (.int 0)) (.cons (.lit (.int 5)) (.cons (.neg (.lit (.int 1))) (.cons (.lit (.bool true)) (.cons (.lit .none) (.cons (.lit (.str "2")) .nil))))))
abbrev badE : E := .lst (.cons (.lit .none) (.cons (.lit (.int 5)) (.cons (.tup .nil) (.cons (.tup (.cons (.tup .nil) .nil)) (.cons (.tup (.cons (.tup (.cons (.lit (.int 0)) .nil)) .nil)) (.cons (.tup (.cons (.tup (.cons (.bin .Add (.var 3) (.lit (.int 1))) .nil)) .nil)) (.cons (.tup (.cons (.tup (.cons (.lit (.int 1)) (.cons (.lit (.int 1)) .nil))) .nil)) (.cons (.tup (.cons (.tup (.cons (.lit (.int 1)) .nil)) (.cons (.tup (.cons (.lit (.int 1)) .nil)) .nil))) (.cons (.tup (.cons (.tup (.cons (.lit (.int 1)) .nil)) (.cons (.lit .none) .nil))) (.cons (.tup (.cons (.lit (.int 1)) .nil)) (.cons (.lit (.str "1")) (.cons (.tup (.cons (.tup (.cons (.lit (.bool true)) .nil)) .nil)) (.cons (.tup (.cons (.tup (.cons (.lit (.int 1)) (.cons (.lit (.int 0)) .nil))) .nil)) (.cons (.prim "dict0" .nil) .nil))))))))))))))
abbrev oddE : E := .lst (.cons (.lit .none) (.cons (.lit (.int 0)) (.cons (.fld (.var 5) "least") (.cons (.lit (.str "access")) .nil))))
abbrev lotE : E := .lst (.cons (.lit .none) (.cons (.tup (.cons (.lit (.int 0)) .nil)) (.cons (.tup (.cons (.bin .Add (.var 3) (.lit (.int 1))) .nil)) (.cons (.tup (.cons (.lit (.int 1)) (.cons (.lit (.int 1)) .nil))) (.cons (.lit (.int 5)) (.cons (.tup (.cons (.lit (.str "1")) .nil)) (.cons (.tup (.cons (.lit (.bool true)) .nil)) .nil)))))))

/-- what the runs tell -/
structure LawF : Prop where
  acc : ∀ (s : Ms) (sh : Nat), sh ∈ shs → e_accesses [nI sh] s = .ok (toldD sh) s
  all : ∀ (s : Ms) (sh : Nat), sh ∈ shs → evS TF.gx law4 (rho4 sh) s = .ok (.nx (rho4 sh)) s
abbrev G : Gm := TF.gx.g
theorem fnF_case : G.fn "_law_case" = some e__law_case := by kernel_rfl
theorem fnF_draw : G.fn "_law_draw" = some e__law_draw := by kernel_rfl
theorem fnF_acc : G.fn "accesses" = some e_accesses := by kernel_rfl
theorem fnF_pick : G.fn "_law_pick" = some e__law_pick := by kernel_rfl
abbrev lcE : E := .lc (.v 2) (.rng1 (.lit (.int 5))) .no (.call "_law_case" (.cons (.var 1) .nil))
abbrev l1 : S := .ife (.not (.bi .all (.cons lcE .nil))) (.cons (.ret (.lit (.bool false))) .nil) .nil
abbrev l2 : S := .asg 3 {} (.bin .Add (.lit (.int 1)) (.call "_law_draw" (.cons (.var 1) (.cons (.lit (.int 4)) .nil))))
abbrev l3 : S := .asg 4 {} (.call "accesses" (.cons (.var 3) .nil))
abbrev pk (e : E) : E := .call "_law_pick" (.cons (.var 1) (.cons e .nil))
abbrev l5 : S := .unp [5, 6] {} (.tup (.cons (pk (.var 4)) (.cons (pk fewE) .nil)))
abbrev l6 : S := .asg 7 {} (pk badE)
abbrev l7 : S := .unp [8, 9] {} (.tup (.cons (pk oddE) (.cons (pk lotE) .nil)))
theorem law_parts : m_law = .cons l1 (.cons l2 (.cons l3 (.cons law4 (.cons l5 (.cons l6 (.cons l7 .nil)))))) := rfl
theorem few_fin (ρ : List (Option D)) (s : Ms) : ev G fewE ρ s = .ok (.lst fewL) s := by kernel_rfl
theorem bad_fin (x0 x1 x2 x4 x5 x6 x7 x8 x9 x10 : Option D) (s : Ms) : shs.map (fun sh => ev G badE [x0, x1, x2, some (nI sh), x4, x5, x6, x7, x8, x9, x10] s) = shs.map (fun sh => .ok (.lst (badL sh)) s) := by kernel_rfl
theorem lot_finL (x0 x1 x2 x4 x5 x6 x7 x8 x9 x10 : Option D) (s : Ms) : shs.map (fun sh => ev G lotE [x0, x1, x2, some (nI sh), x4, x5, x6, x7, x8, x9, x10] s) = shs.map (fun sh => .ok (.lst (lotL' sh)) s) := by kernel_rfl
theorem odd_fin (x0 x1 x2 x3 x4 x6 x7 x8 x9 x10 : Option D) (s : Ms) (sh : Nat) (xs : List D) : ev G oddE [x0, x1, x2, x3, x4, some (.ins "Access" 0 [("shares", nI sh), ("least", .tup xs)]), x6, x7, x8, x9, x10] s = .ok (.lst (oddL xs)) s := by kernel_rfl
theorem bad_eq {sh : Nat} (h : sh ∈ shs) (x0 x1 x2 x4 x5 x6 x7 x8 x9 x10 : Option D) (s : Ms) : ev G badE [x0, x1, x2, some (nI sh), x4, x5, x6, x7, x8, x9, x10] s = .ok (.lst (badL sh)) s := map_at (bad_fin x0 x1 x2 x4 x5 x6 x7 x8 x9 x10 s) sh h
theorem lot_eqL {sh : Nat} (h : sh ∈ shs) (x0 x1 x2 x4 x5 x6 x7 x8 x9 x10 : Option D) (s : Ms) : ev G lotE [x0, x1, x2, some (nI sh), x4, x5, x6, x7, x8, x9, x10] s = .ok (.lst (lotL' sh)) s := map_at (lot_finL x0 x1 x2 x4 x5 x6 x7 x8 x9 x10 s) sh h
theorem told_len {sh : Nat} (h : sh ∈ shs) : 0 < (accL sh).length ∧ (accL sh).length ≤ 166 := by
  have : ∀ sh ∈ shs, 0 < (accL sh).length ∧ (accL sh).length ≤ 166 := by decide +kernel
  exact this sh h
/-- five cases -/
theorem five {n : Int} {s : Ms} (h : St n s) (hn : n < 700000000) : ∃ s', ev G lcE [none, some .pen, none, none, none, none, none, none, none, none, none] s = .ok (.lst [.bl true, .bl true, .bl true, .bl true, .bl true]) s' ∧ St (n + 200) s' := by
  obtain ⟨s1, a1, b1⟩ := case_st h (by omega)
  obtain ⟨s2, a2, b2⟩ := case_st b1 (by omega)
  obtain ⟨s3, a3, b3⟩ := case_st b2 (by omega)
  obtain ⟨s4, a4, b4⟩ := case_st b3 (by omega)
  obtain ⟨s5, a5, b5⟩ := case_st b4 (by omega)
  refine ⟨s5, ?_, b5.le (by omega)⟩
  have turn : ∀ {x : D} {s s' : Ms}, e__law_case [.pen] s = .ok (.bl true) s' → Turn G (.v 2) .no (.call "_law_case" (.cons (.var 1) .nil)) [none, some .pen, none, none, none, none, none, none, none, none, none] x s (some (.bl true)) s' := fun {x s s'} e =>
    ⟨_, true, s, rfl, rfl, by rw [if_pos rfl]; exact ⟨_, (call_eq fnF_case (evs_one (var_eq rfl))).trans e, rfl⟩⟩
  exact lc_eq (xs := [.int 0, .int 1, .int 2, .int 3, .int 4]) (s1 := s) rfl (.some (turn a1) (.some (turn a2) (.some (turn a3) (.some (turn a4) (.some (turn a5) (.nil _)))))) (by show 5 ≤ sizeLine; decide)
/-- a pick as a term -/
theorem pk_eq {e : E} {ρ : List (Option D)} {n : Int} {s : Ms} {xs : List D} {q : D} (h1 : ρ[1]? = some (some .pen)) (he : ∀ s, ev G e ρ s = .ok q s) (hq : q = .lst xs ∨ q = .tup xs) (h : St n s) (hn : n < 900000000) (h0 : 0 < xs.length) (hl : xs.length < 1000000) :
    ∃ x s', ev G (pk e) ρ s = .ok x s' ∧ x ∈ xs ∧ St (n + 1) s' := by
  obtain ⟨x, s', a, b, c⟩ := pick_st h (by omega) hq h0 hl
  exact ⟨x, s', (call_eq fnF_pick (evs_cons (var_eq h1) (evs_one (he s)))).trans a, b, c⟩
theorem capt_en (sh told one few bad odd lot : D) : capt (defScope s_law) n_law [none, some .pen, none, some sh, some told, some one, some few, some bad, some odd, some lot, none] = en sh one few bad odd lot := by kernel_rfl
theorem law_plain (F : LawF) : LawP TF.gx e__law_due n_law (defScope s_law) m_law 10 du_law 63 := by
  intro ns fo hl h0 h1
  have st : St 0 (stP ns fo) := ⟨rfl, _, rfl, ⟨h0, h1, Int.le_refl _, Int.le_refl _, Int.le_refl _, Int.le_refl _, hl⟩⟩
  obtain ⟨s1, a1, b1⟩ := five st (by omega)
  obtain ⟨i, s2, a2, c1, c2, b2⟩ := draw_st b1 (by omega) (many := 4) (by decide)
  obtain ⟨sh, hsh, ei⟩ : ∃ sh ∈ shs, (1 + i : Int) = Int.ofNat sh := by
    have c : i = 0 ∨ i = 1 ∨ i = 2 ∨ i = 3 := by omega
    rcases c with c | c | c | c <;> subst c
    · exact ⟨1, by decide, rfl⟩
    · exact ⟨2, by decide, rfl⟩
    · exact ⟨3, by decide, rfl⟩
    · exact ⟨4, by decide, rfl⟩
  have tl := told_len hsh
  obtain ⟨x5, s3, a3, m5, b3⟩ := pk_eq (e := .var 4) (ρ := [none, some .pen, none, some (nI sh), some (toldD sh), none, none, none, none, none, none]) (q := toldD sh) rfl (fun s => var_eq rfl) (.inr rfl) b2 (by omega) (by rw [List.length_map]; exact tl.1) (by rw [List.length_map]; omega)
  obtain ⟨nn, hnn, e5⟩ := List.mem_map.mp m5
  subst e5
  obtain ⟨few, s4, a4, m6, b4⟩ := pk_eq (e := fewE) (ρ := [none, some .pen, none, some (nI sh), some (toldD sh), none, none, none, none, none, none]) (q := .lst fewL) rfl (fun s => few_fin _ s) (.inl rfl) b3 (by omega) (by decide) (by decide)
  obtain ⟨bad, s5, a5, m7, b5⟩ := pk_eq (e := badE) (ρ := [none, some .pen, none, some (nI sh), some (toldD sh), some (accD sh nn), some few, none, none, none, none]) (q := .lst (badL sh)) rfl (fun s => bad_eq hsh _ _ _ _ _ _ _ _ _ _ s) (.inl rfl) b4 (by omega) (by show 0 < 14; decide) (by show 14 < 1000000; decide)
  obtain ⟨odd, s6, a6, m8, b6⟩ := pk_eq (e := oddE) (ρ := [none, some .pen, none, some (nI sh), some (toldD sh), some (accD sh nn), some few, some bad, none, none, none]) (q := .lst (oddL (nn.map lotD))) rfl (fun s => odd_fin _ _ _ _ _ _ _ _ _ _ s sh _) (.inl rfl) b5 (by omega) (by show 0 < 4; decide) (by show 4 < 1000000; decide)
  obtain ⟨lot, s7, a7, m9, b7⟩ := pk_eq (e := lotE) (ρ := [none, some .pen, none, some (nI sh), some (toldD sh), some (accD sh nn), some few, some bad, none, none, none]) (q := .lst (lotL' sh)) rfl (fun s => lot_eqL hsh _ _ _ _ _ _ _ _ _ _ s) (.inl rfl) b6 (by omega) (by show 0 < 7; decide) (by show 7 < 1000000; decide)
  refine ⟨[.no, .sh .pen, .no, .sh (nI sh), .sh (toldD sh), .sh (accD sh nn), .sh few, .sh bad, .sh odd, .sh lot, .no], s7, [dNum few, dRow bad, dRow d2, dUn, dLot lot, dUn, dUn, dNum few], sE s7 (en (nI sh) (accD sh nn) few bad odd lot), ?_, b7.1, rfl, ?_, ?_⟩
  · rw [law_parts]
    have t1 : evS TF.gx l1 [.no, .sh .pen, .no, .no, .no, .no, .no, .no, .no, .no, .no] (stP ns fo) = .ok (.nx [.no, .sh .pen, .no, .no, .no, .no, .no, .no, .no, .no, .no]) s1 := by
      have e1 := not_eq (k := true) (bi_eq (f := .all) (d := .bl true) (evs_one a1) rfl) rfl
      exact (ife_eq (k := false) e1 rfl).trans rfl
    refine (ss_seq t1).trans ?_
    have t2 : evS TF.gx l2 [.no, .sh .pen, .no, .no, .no, .no, .no, .no, .no, .no, .no] s1 = .ok (.nx [.no, .sh .pen, .no, .sh (nI sh), .no, .no, .no, .no, .no, .no, .no]) s2 := by
      have q := asg_eq (Γ := TF.gx) (i := 3) (ρ := [.no, .sh .pen, .no, .no, .no, .no, .no, .no, .no, .no, .no]) (bin_eq (Γ := G) (op := .Add) (a := .lit (.int 1)) (b := .call "_law_draw" (.cons (.var 1) (.cons (.lit (.int 4)) .nil))) (d := .int (1 + i)) (x := .int 1) (lit_eq rfl) ((call_eq fnF_draw (evs_cons (var_eq rfl) (evs_one (lit_eq rfl)))).trans a2) rfl)
      rw [ei] at q
      exact q
    refine (ss_seq t2).trans ?_
    have t3 : evS TF.gx l3 [.no, .sh .pen, .no, .sh (nI sh), .no, .no, .no, .no, .no, .no, .no] s2 = .ok (.nx (rho4 sh)) s2 :=
      asg_eq ((call_eq fnF_acc (evs_one (var_eq rfl))).trans (F.acc s2 sh hsh))
    refine (ss_seq t3).trans ?_
    refine (ss_seq (F.all s2 sh hsh)).trans ?_
    have t5 : evS TF.gx l5 (rho4 sh) s2 = .ok (.nx [.no, .sh .pen, .no, .sh (nI sh), .sh (toldD sh), .sh (accD sh nn), .sh few, .no, .no, .no, .no]) s4 :=
      unp_eq (tup_eq (evs_cons a3 (evs_one a4)) (by show 2 ≤ sizeLine; decide)) rfl
    refine (ss_seq t5).trans ?_
    have t6 : evS TF.gx l6 [.no, .sh .pen, .no, .sh (nI sh), .sh (toldD sh), .sh (accD sh nn), .sh few, .no, .no, .no, .no] s4 = .ok (.nx [.no, .sh .pen, .no, .sh (nI sh), .sh (toldD sh), .sh (accD sh nn), .sh few, .sh bad, .no, .no, .no]) s5 := asg_eq a5
    refine (ss_seq t6).trans ?_
    have t7 : evS TF.gx l7 [.no, .sh .pen, .no, .sh (nI sh), .sh (toldD sh), .sh (accD sh nn), .sh few, .sh bad, .no, .no, .no] s5 = .ok (.nx [.no, .sh .pen, .no, .sh (nI sh), .sh (toldD sh), .sh (accD sh nn), .sh few, .sh bad, .sh odd, .sh lot, .no]) s7 :=
      unp_eq (tup_eq (evs_cons a6 (evs_one a7)) (by show 2 ≤ sizeLine; decide)) rfl
    exact (ss_seq t7).trans rfl
  · have v6 : ∀ {l : List (Option D)}, l[6]? = some (some few) → ev G (.var 6) l s7 = .ok few s7 := fun {l} e => var_eq e
    exact ⟨_, _, rfl, tup_eq (evs_cons (lit_eq rfl) (evs_cons (lit_eq rfl) (evs_one (var_eq rfl)))) (by show 3 ≤ sizeLine; decide),
      _, _, rfl, tup_eq (evs_cons (lit_eq rfl) (evs_one (var_eq rfl))) (by show 2 ≤ sizeLine; decide),
      _, _, rfl, (by kernel_rfl),
      _, _, rfl, (by kernel_rfl),
      _, _, rfl, tup_eq (evs_cons (lit_eq rfl) (evs_one (var_eq rfl))) (by show 2 ≤ sizeLine; decide),
      _, _, rfl, (by kernel_rfl), _, _, rfl, (by kernel_rfl),
      _, _, rfl, tup_eq (evs_cons (lit_eq rfl) (evs_cons (lit_eq rfl) (evs_one (var_eq rfl)))) (by show 3 ≤ sizeLine; decide), rfl⟩
  · have ec : capt (defScope s_law) n_law (look [] [.no, .sh .pen, .no, .sh (nI sh), .sh (toldD sh), .sh (accD sh nn), .sh few, .sh bad, .sh odd, .sh lot, .no]) = en (nI sh) (accD sh nn) few bad odd lot := capt_en (nI sh) (toldD sh) (accD sh nn) few bad odd lot
    rw [ec]
    refine den_rt rfl (ss_ret (ret_eq ?_))
    have f0 := map_at (du0 (some (.lst (dueL 0 [dNum few, dRow bad, dRow d2, dUn, dLot lot, dUn, dUn, dNum few]))) s7 (nI sh) (accD sh nn) bad odd lot) few m6
    have f1 := map_at (du1 (some (.lst (dueL 0 [dNum few, dRow bad, dRow d2, dUn, dLot lot, dUn, dUn, dNum few]))) s7 (accD sh nn) few odd lot) (sh, bad) (List.mem_flatMap.mpr ⟨sh, hsh, List.mem_map.mpr ⟨bad, m7, rfl⟩⟩)
    have f2 := du2 (some (.lst (dueL 0 [dNum few, dRow bad, dRow d2, dUn, dLot lot, dUn, dUn, dNum few]))) s7 (nI sh) (accD sh nn) few bad odd lot
    have f3 := map_at (du3 (some (.lst (dueL 0 [dNum few, dRow bad, dRow d2, dUn, dLot lot, dUn, dUn, dNum few]))) s7 (nI sh) (accD sh nn) few bad lot (nn.map lotD)) odd m8
    have f4 := map_at (du4 (some (.lst (dueL 0 [dNum few, dRow bad, dRow d2, dUn, dLot lot, dUn, dUn, dNum few]))) s7 few bad odd (lotsD nn)) (sh, lot) (List.mem_flatMap.mpr ⟨sh, hsh, List.mem_map.mpr ⟨lot, m9, rfl⟩⟩)
    have f5 := map_at (du5 (some (.lst (dueL 0 [dNum few, dRow bad, dRow d2, dUn, dLot lot, dUn, dUn, dNum few]))) s7 (nI sh) (accD sh nn) few bad lot (nn.map lotD)) odd m8
    have f6 := map_at (du6 (some (.lst (dueL 0 [dNum few, dRow bad, dRow d2, dUn, dLot lot, dUn, dUn, dNum few]))) s7 (nI sh) (accD sh nn) few bad lot (nn.map lotD)) odd m8
    have f7 := map_at (du7 (some (.lst (dueL 0 [dNum few, dRow bad, dRow d2, dUn, dLot lot, dUn, dUn, dNum few]))) s7 (nI sh) (accD sh nn) bad odd lot) few m6
    have q := all_eq (Γ := T11.gx.g) (ρ := [some (.lst (dueL 0 [dNum few, dRow bad, dRow d2, dUn, dLot lot, dUn, dUn, dNum few])), none, none]) (s := sE s7 (en (nI sh) (accD sh nn) few bad odd lot)) (s1 := sE s7 (en (nI sh) (accD sh nn) few bad odd lot)) (tg := .t [1, 2]) (it := .e (.var 0)) (e := cmpE) (fun p : Nat × D => .tup [.lam p.1, p.2]) (fun _ => true)
      (as := [(0, dNum few), (1, dRow bad), (2, dRow d2), (3, dUn), (4, dLot lot), (5, dUn), (6, dUn), (7, dNum few)]) (it_e (x := .lst (dueL 0 [dNum few, dRow bad, dRow d2, dUn, dLot lot, dUn, dUn, dNum few])) (var_eq rfl) rfl) (fun p hp => by
        simp only [List.mem_cons, List.not_mem_nil, or_false] at hp
        rcases hp with z | z | z | z | z | z | z | z <;> subst z
        · exact ⟨_, rfl, f0⟩
        · exact ⟨_, rfl, f1⟩
        · exact ⟨_, rfl, f2⟩
        · exact ⟨_, rfl, f3⟩
        · exact ⟨_, rfl, f4⟩
        · exact ⟨_, rfl, f5⟩
        · exact ⟨_, rfl, f6⟩
        · exact ⟨_, rfl, f7⟩) (by show 8 ≤ sizeLine; decide)
    exact q
end Mk
set_option Elab.async false
set_option linter.all false
set_option maxRecDepth 100000
set_option maxHeartbeats 0
/-! Fin5_123: all access, as told and by the law. -/
namespace Mk
open PySem PySem.Spec PyProof.Rows L2 Mp
theorem all_1 (s : Ms) : evS TF.gx law4 (rho4 1) s = .ok (.nx (rho4 1)) s := by kernel_rfl
theorem all_2 (s : Ms) : evS TF.gx law4 (rho4 2) s = .ok (.nx (rho4 2)) s := by kernel_rfl
theorem all_3 (s : Ms) : evS TF.gx law4 (rho4 3) s = .ok (.nx (rho4 3)) s := by kernel_rfl
end Mk
set_option Elab.async false
set_option linter.all false
set_option maxRecDepth 100000
set_option maxHeartbeats 0
/-! Fin5_4: all access, as told and by the law. -/
namespace Mk
open PySem PySem.Spec PyProof.Rows L2 Mp
theorem all_4 (s : Ms) : evS TF.gx law4 (rho4 4) s = .ok (.nx (rho4 4)) s := by kernel_rfl
end Mk
set_option Elab.async false
set_option linter.all false
set_option maxRecDepth 100000
set_option maxHeartbeats 0
/-! Acc: all access, as the program tells them. -/
namespace Mk
open PySem PySem.Spec PyProof.Rows L2 Mp
theorem ac_1 (s : Ms) : e_accesses [nI 1] s = .ok (toldD 1) s := by kernel_rfl
theorem ac_2 (s : Ms) : e_accesses [nI 2] s = .ok (toldD 2) s := by kernel_rfl
theorem ac_3 (s : Ms) : e_accesses [nI 3] s = .ok (toldD 3) s := by kernel_rfl
theorem ac_4 (s : Ms) : e_accesses [nI 4] s = .ok (toldD 4) s := by kernel_rfl
end Mk
set_option Elab.async false
set_option linter.all false
set_option maxRecDepth 100000
set_option maxHeartbeats 2000000
/-! Facts: the runs, put together; the drawing dict's fold. -/
namespace Mk
open PySem PySem.Spec PyProof.Rows L2 Mp
theorem sh_cases {Pr : Nat → Prop} (h1 : Pr 1) (h2 : Pr 2) (h3 : Pr 3) (h4 : Pr 4) : ∀ sh ∈ shs, Pr sh := fun sh h => by
  simp only [shs, List.mem_cons, List.not_mem_nil, or_false] at h
  rcases h with z | z | z | z <;> subst z <;> assumption
theorem facts : LawF where
  acc := fun s => sh_cases (ac_1 s) (ac_2 s) (ac_3 s) (ac_4 s)
  all := fun s => sh_cases (all_1 s) (all_2 s) (all_3 s) (all_4 s)
theorem pen_he (fo ce : Int) (h0 : 0 ≤ fo) (h1 : fo < foB) : ∃ fo', ev T0.gm e_pen [none, some (.int fo), some (.int ce)] {} = .ok (.int fo') {} ∧ 0 ≤ fo' ∧ fo' < foB := by
  refine ⟨(fo * 103 + ce + 37) % 1000000097, ?_, Int.emod_nonneg _ (by decide), Int.lt_trans (Int.emod_lt_of_pos _ (by decide)) (by decide)⟩
  have e0 : binD .Mult (.int fo) (.int 103) = some (.int (fo * 103)) := by
    show Mp.binI .Mult fo 103 = _
    unfold Mp.binI
    rw [if_pos (.inr (by decide))]
  have e1 : ev T0.gm (.bin .Mult (.var 1) (.lit (.int 103))) [none, some (.int fo), some (.int ce)] {} = .ok (.int (fo * 103)) {} := bin_eq (var_eq rfl) (lit_eq rfl) e0
  have e2 : ev T0.gm (.bin .Add (.bin .Add (.bin .Mult (.var 1) (.lit (.int 103))) (.var 2)) (.lit (.int 37))) [none, some (.int fo), some (.int ce)] {} = .ok (.int (fo * 103 + ce + 37)) {} := bin_eq (bin_eq e1 (var_eq rfl) rfl) (lit_eq rfl) rfl
  have e3 := bi_eq (f := .int) (d := .int (fo * 103 + ce + 37)) (evs_one e2) rfl
  exact bin_eq (y := .int 1000000097) e3 (lit_eq rfl) rfl
end Mk
set_option Elab.async false
set_option linter.all false
set_option maxRecDepth 100000
set_option maxHeartbeats 0
/-! End: the statement, once the plain law is told. -/
open PySem PySem.W PySem.Calls PyProof.Rows
namespace Mk
open PySem PySem.Spec PyProof.Rows L2 Mp
/-- a def's code object, its table -/
theorem code_of {K : PySem.W.Frag} {x q : Str} {params : Arguments} {body : List Stmt} {scope : Scope} {p : He.Defn} {fd : FuncData} (F : FunD K x q params body scope [] [] (He.fAd K p) fd) : fd.code = .ref (He.cT K p).1 := by
  obtain ⟨oc, od, dV, kV, doc, pm, an, cdv, ct, osl, rfl, lk, hcd, _, _⟩ := F.ex
  obtain ⟨c, e⟩ := He.codeIn_ref hcd
  subst e
  have z := He.codeOf_eq lk rfl
  show Value.ref c = .ref (He.codeOf K p)
  rw [z]
theorem law_F {w : World} {P : Program} {C : Rc} {base : Heap} {ic : Nat} (hT : LawT n_law (defScope s_law) m_law ic du_law ts_law (defBody s_law)) (he : ∀ fo ce : Int, 0 ≤ fo → fo < foB → ∃ fo', ev T0.gm e_pen [none, some (.int fo), some (.int ce)] {} = .ok (.int fo') {} ∧ 0 ≤ fo' ∧ fo' < foB)
    (pl : LawP TF.gx e__law_due n_law (defScope s_law) m_law ic du_law 63) (b : Base C base) (tab : TabAt base C.mg (He.cT C.K ("law", none)).2) {fd : FuncData}
    (F : FunD C.K "law" "law" (defArgs s_law) (defBody s_law) (defScope s_law) [] [] (He.fAd C.K d_law.at_) fd) : FnG P w C base (kF + 2) (He.fAd C.K d_law.at_) fd ["script"] (spLaw C.K 63 (He.cT C.K ("law", none)).2) := by
  obtain ⟨fdp, Fp, bp, kp⟩ := pen_ok (P := P) (w := w) b he
  have hd : PySem.W.codeHdIn C.K (He.cT C.K ("law", none)).1 (He.cT C.K ("law", none)).2 = true := (b.2.2 pt0 hp0).hd ("law", none) List.mem_cons_self
  refine law_fn (C0 := C) (k := kF) (Γ := TF.gx) (den := e__law_due) F c_law hT ⟨PySem.W.codeHd_of_K b.1 hd, tab.bm, tab.gl⟩ (code_of (p := ("law", none)) F) (by decide) Fp (by decide) bp (g__law_pen b) kp (fun C' k1 k2 k3 k4 k5 k6 k7 => ?_) pl
  have b' : Base C' base := ⟨by rw [k1]; exact b.1, by rw [k2]; exact b.2.1, fun p hp => by rw [k1]; exact b.2.2 p hp⟩
  have L : LawC C' n_law (defScope s_law) ts_law := ⟨k3, k5, k6, k7⟩
  exact ⟨gxok (okA b' L), due_ok b' L⟩
end Mk
theorem k67_of {ic : Nat} (hT : Mp.LawT Mk.n_law (L2.defScope Mk.s_law) Mk.m_law ic Mk.du_law Mk.ts_law (L2.defBody Mk.s_law)) (he : ∀ fo ce : Int, 0 ≤ fo → fo < Mp.foB → ∃ fo', Mp.ev Mk.T0.gm Mk.e_pen [none, some (.int fo), some (.int ce)] {} = .ok (.int fo') {} ∧ 0 ≤ fo' ∧ fo' < Mp.foB)
    (pl : Mp.LawP Mk.TF.gx Mk.e__law_due Mk.n_law (L2.defScope Mk.s_law) Mk.m_law ic Mk.du_law 63) : PySem.Challenge.rw_newsranks_k67_who_may_know.Holds := by
  w_on; o_law
  refine HandSHeadRun.head_any (r := OpenLaw.row PySem.Challenge.rw_newsranks_k67_who_may_know) (q := Mk.qv) (H := Mp.hookM Mk.ptA) (ob := Mp.obM Mk.ptA) (M := 12000) (loose := Mk.loA)
    (d := HandSHeadRun.topDef (OpenLaw.row PySem.Challenge.rw_newsranks_k67_who_may_know).prog 45) (kwd := []) (Mp.obM_eq Mk.ptA)
    (by kernel_rfl) (fun s => by kernel_rfl) Mk.run (by kernel_rfl) (by kernel_rfl) (by kernel_rfl) (by rfl) (by first | assumption | decide +kernel) (by decide +kernel) ⟨rfl, rfl, rfl, rfl, rfl, by decide +kernel⟩ ?hw ?hc
  case hw => w_witness2
  case hc =>
    refine Mp.walk_G (l := PySem.Challenge.rw_newsranks_k67_who_may_know) (n := 63) (k := Mk.kF + 2) (x := "script") rfl (by decide) (by kernel_rfl) ⟨⟨rfl, by decide, by decide⟩, rfl⟩ ?F
    intro w mg fa h Y G hm0
    obtain ⟨K, KX, c, tE⟩ := Y
    have hm : mg ("law" : PySem.Str) = some (.ref fa) := by
      have e : (HandSHeadRun.topDef (OpenLaw.row PySem.Challenge.rw_newsranks_k67_who_may_know).prog 45).name = ("law" : PySem.Str) := by kernel_rfl
      rw [← e]
      exact hm0
    have b0 : Mk.Base { K := K, mg := mg } h := ⟨KX, G, c⟩
    have e1 := hm.symm.trans (Mk.g_law b0)
    cases e1
    obtain ⟨fd, F⟩ := Mk.F_law b0
    have bd := L2.FunD.bindsA (ps := ["script"]) F fun _ _ _ _ _ _ us hl => match us, hl with | [_], _ => rfl
    refine ⟨K, [(He.cT K ("law", none)).2], fd, Mp.spLaw K 63 (He.cT K ("law", none)).2, KX, fun t ht => ?_, fun s u => bd s [u] rfl, fun H a ns hl hT1 hS => ⟨a, ns, rfl, hl, hS, hT1 _ List.mem_cons_self, fun _ => rfl⟩, fun base hK hG hTA => ?_⟩
    · rw [List.mem_singleton.mp ht]
      have sm := c Mk.pt0 Mk.hp0
      exact ⟨tE Mk.pt0 Mk.hp0 ("law", none) List.mem_cons_self, sm.out ("law", none) List.mem_cons_self, _, sm.hd ("law", none) List.mem_cons_self⟩
    · exact Mk.law_F hT he pl ⟨hK, hG, c⟩ (hTA _ List.mem_cons_self) F
set_option Elab.async false
set_option linter.all false
set_option maxRecDepth 100000
set_option maxHeartbeats 0
/-! EndK: the statement. -/
theorem PySem.Challenge.cw_newsranks_k67_who_may_know_holds : PySem.Challenge.rw_newsranks_k67_who_may_know.Holds :=
  k67_of Mk.t_law Mk.pen_he (Mk.law_plain Mk.facts)
