import PyProof.Rows.All
import Wide.All
import OpenK.AllK
import Wide.FinOn
import HandS.ForMost
import HandS.ForExc
import HandS.Wide
import HandS.Rev
import HandS.IsInst
import HandS.ExcIs
import HandS.TupAny
import HandS.More
import PySem.Challenge.RW_rootrow_k04_whole_ways_down_the_tree
set_option Elab.async false
set_option linter.all false
set_option maxRecDepth 100000
set_option maxHeartbeats 4000000
/-! RRK: what all laws share: a callee by name, a def by name, loops and comprehensions in short. -/
namespace RR
open PySem PySem.Spec PyProof.Rows L2

/-! ### defs by name -/
/-- a def that stands at the top, by its name -/
structure Df (K : PySem.W.Frag) (mg : Str → Option Value) (x : Str) (ps : List Str) (st : Stmt) : Prop where
  ex : ∃ f fd, Fun K x x st f fd ∧ Binds K fd ps [] ∧ mg x = some (.ref f)
/-- a callee by its name: it keeps its promise -/
structure Cal (P : Program) (w : World) (K : PySem.W.Frag) (mg : Str → Option Value) (base : Heap) (CX : CXT) (k : Nat) (x : Str) (ps : List Str) (sp : Sp) : Prop where
  ex : ∃ f fd, FnOk P w K mg base CX k f fd ps sp ∧ PySem.W.keepIn K (.ref f) = true ∧ Binds K fd ps [] ∧ mg x = some (.ref f)
theorem Df.cal {P : Program} {w : World} {K : PySem.W.Frag} {mg : Str → Option Value} {base : Heap} {CX : CXT} {k : Nat} {x : Str} {ps : List Str} {st : Stmt} {sp : Sp} (D : Df K mg x ps st)
    (h : ∀ f fd, Fun K x x st f fd → FnOk P w K mg base CX k f fd ps sp) : Cal P w K mg base CX k x ps sp := by
  obtain ⟨f, fd, F, b, g⟩ := D.ex
  exact ⟨f, fd, h f fd F, F.kp, b, g⟩
theorem pe_cal {X : Cx} {CX : CXT} {k k' : Nat} {x : Str} {ps : List Str} {sp : Sp} {E : XK} {e : Expr} {es : List Expr} {t : TA} {p pos : Pos} (C : Cal X.prog X.w X.K X.mg X.base CX k x ps sp) (hr : Room k' X.A) (hk : k ≤ k') (hg : Gl X x) (hx : Passes CX X E)
    (ha : PA X (e :: es) t) (hdb : (x == ("__debug__" : Str)) = false := by decide) (he : starEach (e :: es) X.env = (false, eval e X.env) :: starEach es X.env := by rfl) (hpl : (backTo pos (starEach es X.env)).any (·.1) = false := by rfl) :
    PE X (.Call (.Name x p) (e :: es) [] pos) (tCall sp [] E t) := by
  obtain ⟨f, fd, F, kp, b, g⟩ := C.ex
  exact pe_call F (hr.mono hk) hg g kp b .nil hx ha hdb he hpl
theorem pe_calS {X : Cx} {CX : CXT} {k k' : Nat} {x : Str} {ps : List Str} {sp : Sp} {E : L2.St → XK} {e : Expr} {es : List Expr} {t : TA} {p pos : Pos} (C : Cal X.prog X.w X.K X.mg X.base CX k x ps sp) (hr : Room k' X.A) (hk : k ≤ k') (hg : Gl X x) (hx : ∀ σ, PassesAt CX X σ (E σ))
    (ha : PA X (e :: es) t) (hdb : (x == ("__debug__" : Str)) = false := by decide) (he : starEach (e :: es) X.env = (false, eval e X.env) :: starEach es X.env := by rfl) (hpl : (backTo pos (starEach es X.env)).any (·.1) = false := by rfl) :
    PE X (.Call (.Name x p) (e :: es) [] pos) (tCallS sp E t) := by
  obtain ⟨f, fd, F, kp, b, g⟩ := C.ex
  exact pe_callS F (hr.mono hk) hg g kp b hx ha hdb he hpl

theorem df_mk {K : PySem.W.Frag} {h : Heap} {mg : Str → Option Value} {x : Str} {ps : List Str} {st : Stmt} {f : Addr} {oc : Value} {od an : Option Addr} {osl : Array (Option Value)} {kV doc pm cdv ct : Value} (X : K.In h) (G : h.Ns mainGlobals mg)
    (a : PySem.W.nsIn K mainGlobals x = some (some (.ref f))) (l : K.lookup f = some ⟨oc, od, .func (PySem.W.fnOf x x (defArgs st) (defBody st) (defScope st) .none kV doc pm an cdv ct), osl⟩) (c : PySem.W.codeIn K cdv x = true) (k : PySem.W.keepIn K (.ref f) = true)
    (hb : ∀ (kV doc pm : Value) (an : Option Addr) (cdv ct : Value) (us : List Value), us.length = ps.length → bindArgs (PySem.W.fnOf x x (defArgs st) (defBody st) (defScope st) .none kV doc pm an cdv ct) ⟨us, []⟩ = pure (ps.zip us)) : Df K mg x ps st := by
  have F := fun_mk (st := st) l c k
  exact ⟨f, _, F, F.binds hb, PySem.W.mg_of X G a⟩
/-- the built-ins' names: none stands at the top -/
structure Bl (mg : Str → Option Value) : Prop where
  len : mg "len" = none
  all : mg "all" = none
  reversed : mg "reversed" = none
  tuple : mg "tuple" = none
  abs : mg "abs" = none
  range : mg "range" = none
  isinstance : mg "isinstance" = none
  int : mg "int" = none
  bool : mg "bool" = none
  ValueError : mg "ValueError" = none
  list : mg "list" = none
  sum : mg "sum" = none
  min : mg "min" = none
  enumerate : mg "enumerate" = none

/-! ### heaps -/
theorem same_upd {H : Hp} {p : Addr} {o : HO} (h : H p = none) : Same H (upd H p o) := fun b x e => by
  rw [upd_ne (ne_of_none e h)]
  exact e
theorem same_updO {H H' : Hp} {p : Addr} {o : HO} (s : Same H H') (h : H p = none) : Same H (upd H' p o) := fun b x e => by
  rw [upd_ne (ne_of_none e h)]
  exact s b x e
abbrev tI (ns : List Int) : HO := .tup (ns.map V.int)
abbrev lI (ns : List Int) : HO := .lst (ns.map V.int)
theorem small_of {n : Nat} (h : n ≤ 10000000) : n < sizeLine := by rw [sizeLine_eq]; omega
theorem small_le {n : Nat} (h : n ≤ 10000000) : n ≤ sizeLine := Nat.le_of_lt (small_of h)

/-! ### the error's class -/
/-- what the top says of NoNumber at C, under RowError at R -/
structure NoN (K : PySem.W.Frag) (mg : Str → Option Value) (C R : Addr) : Prop where
  g : mg "NoNumber" = some (.ref C)
  gR : mg "RowError" = some (.ref R)
  x : PySem.W.excIn K C [.type "ValueError", .type "Exception", .type "BaseException", .type "object"] "ValueError.__new__" = true
  k : PySem.W.keepIn K (.ref C) = true
  b : PySem.W.subIn K (.ref C) (.type "BaseException") = some true
  t : PySem.W.typeIn K (.ref C) = some (.type "type")
  bR : PySem.W.subIn K (.ref R) (.type "BaseException") = some true
  dR : PySem.W.hasDictIn K R = true
  tR : PySem.W.typeIn K (.ref R) = some (.type "type")
  sR : PySem.W.subIn K (.ref C) (.ref R) = some true
  ec : ExcC K C
  iV : PySem.W.kitOne K (.ref C) (.type "ValueError") = some true
  mV : mg "ValueError" = none
  mI : mg "isinstance" = none
theorem NoN.ex {K : PySem.W.Frag} {mg : Str → Option Value} {C R : Addr} (N : NoN K mg C R) : PySem.W.exmOne K (.ref C) (.ref R) = some true := PySem.W.exm_ref N.bR N.dR N.tR N.sR
theorem NoN.iC {K : PySem.W.Frag} {mg : Str → Option Value} {C R : Addr} (N : NoN K mg C R) : PySem.W.kitOne K (.ref C) (.ref C) = some true := by
  unfold PySem.W.kitOne
  rw [if_pos (by simp)]
theorem ps_no {X : Cx} {W : WX} {C R : Addr} {m : Str} {j : Nat} {p p2 pos pos' : Pos} (N : NoN X.K X.mg C R) (hc : X.calm = true) (tk : Takes X W) (hg : Gl X "NoNumber") :
    PS X (.Raise (some (.Call (.Name "NoNumber" p) [.Constant (.str m) j p2] [] pos)) none pos') (fun _ σ H => W (.ref C) none σ H) :=
  ps_raise hc tk (pmk_own PySem.F.excBase_ValueError N.x N.g N.k (raises_own N.b N.t) hg)

/-- isinstance(e, c) in a suite that holds an exception of any class -/
theorem pe_isE {X : Cx} {a C : Addr} {oe : Obj} {pn : List (Addr × Obj)} {cls : Value} {d : Option Addr} {x : Str} {e : Expr} {es : List Expr} {t : TA} {p pos : Pos} (EC : ExcC X.K C) (hz : Zc cls d oe) (hf : ∃ vs, oe.data = .fields vs)
    (hg : Gl (X.suite a ((a, oe) :: pn)) x) (hm : (X.suite a ((a, oe) :: pn)).mg x = none) (hv : bootBuiltins x = some (.builtin "isinstance")) (ha : PA (X.suite a ((a, oe) :: pn)) (e :: es) t) (hn : x ≠ "__name__" := by decide) (hdb : (x == ("__debug__" : Str)) = false := by decide)
    (he : starEach (e :: es) (X.suite a ((a, oe) :: pn)).env = (false, eval e (X.suite a ((a, oe) :: pn)).env) :: starEach es (X.suite a ((a, oe) :: pn)).env := by rfl) (hpl : (backTo pos (starEach es (X.suite a ((a, oe) :: pn)).env)).any (·.1) = false := by rfl) :
    PE (X.suite a ((a, oe) :: pn)) (.Call (.Name x p) (e :: es) [] pos) (fun σ H Q => cls = .ref C ∧ d = none ∧ tCB (rIsE X.K C a) t σ H Q) := by
  refine ⟨fun pins s σ H Q I h => ?_⟩
  obtain ⟨rfl, rfl, h⟩ := h
  exact (pe_callB (call_isE EC hz hf) hg hm hv ha hn hdb he hpl).run pins s σ H Q I h
theorem kit_vt {K : PySem.W.Frag} {C : Addr} {T : String} (m : PySem.W.kitMeta T = true) (h : PySem.W.subIn K (.ref C) (.type T) = some true) : PySem.W.kitOne K (.ref C) (.type T) = some true := by
  unfold PySem.W.kitOne
  split
  · rfl
  · show (if PySem.W.kitMeta T = true then PySem.W.subIn K (.ref C) (.type T) else none) = some true
    rw [if_pos m]
    exact h
theorem relV_ref {a : Addr} {u : Value} (h : RelV (.ref a) u) : u = .ref a := h
theorem relV_ty {n : String} {u : Value} (h : RelV (.ty n) u) : u = .type n := h

/-! ### numbers -/
/-- // of great numbers by any but 0 -/
def CDivWN (_ j : Int) : Prop := j ≠ 0 ∧ j.natAbs.log2 < 9000
theorem op_fdivWN {X : Cx} : OpR X (binaryOp .FloorDiv) (rI CDivWN fun i j => .int (i.fdiv j)) := opI fun _ _ _ _ _ _ _ hc q => floordiv_int hc.1 q (.inl (PyProof.noPylong_of_log2 hc.2))

/-! ### slices -/
theorem cutV_from {xs : List V} {k : Nat} : cutV xs (some (k : Int)) none = xs.drop k := by
  unfold cutV
  rw [HT.sIx_nat xs.length 0 k, HT.sIx_none]
  by_cases h : k ≤ xs.length
  · rw [Nat.min_eq_left h]
    exact List.take_of_length_le (by rw [List.length_drop]; exact Nat.le_refl _)
  · rw [Nat.min_eq_right (by omega), Nat.sub_self, List.take_zero, List.drop_of_length_le (by omega)]
theorem cutV_to {xs : List V} {k : Nat} : cutV xs none (some (k : Int)) = xs.take k := by
  unfold cutV
  rw [HT.sIx_nat xs.length xs.length k, HT.sIx_none, List.drop_zero, Nat.sub_zero]
  by_cases h : k ≤ xs.length
  · rw [Nat.min_eq_left h]
  · rw [Nat.min_eq_right (by omega), List.take_of_length_le (Nat.le_refl _), List.take_of_length_le (by omega)]
theorem cutV_both {xs : List V} {j k : Nat} (h : j ≤ k) : cutV xs (some (j : Int)) (some (k : Int)) = (xs.drop j).take (k - j) := by
  unfold cutV
  rw [HT.sIx_nat xs.length xs.length k, HT.sIx_nat xs.length 0 j]
  by_cases h1 : k ≤ xs.length
  · rw [Nat.min_eq_left h1, Nat.min_eq_left (by omega)]
  · rw [Nat.min_eq_right (by omega)]
    by_cases h2 : j ≤ xs.length
    · rw [Nat.min_eq_left h2, List.take_of_length_le (by rw [List.length_drop]; exact Nat.le_refl _), List.take_of_length_le (by rw [List.length_drop]; omega)]
    · rw [Nat.min_eq_right (by omega), List.drop_of_length_le (Nat.le_refl _), List.drop_of_length_le (by omega), List.take_nil, List.take_nil]
theorem sIx_one {n d : Nat} : HT.sIx n d (some 1) = min 1 n := HT.sIx_nat n d 1
theorem sIx_neg1 {n d : Nat} : HT.sIx n d (some (-1)) = n - 1 := by
  have h := HT.clip_eq (-1) n d
  rw [if_pos (by decide)] at h
  omega
theorem cutV_init {xs : List V} : cutV xs none (some (-1)) = xs.dropLast := by
  unfold cutV
  rw [sIx_neg1, HT.sIx_none, List.drop_zero, Nat.sub_zero, List.dropLast_eq_take]

/-! ### comprehensions that map -/
theorem yes_of {σ : L2.St} {H : Hp} {A B : Hp → Prop} (h : A H) : tYes σ H fun b H3 => if b = true then A H3 else B H3 := by
  show if true = true then A H else B H
  rw [if_pos rfl]
  exact h
theorem lc_mapL {K : PySem.W.Frag} {a : Addr} {xs ys : List V} {j : Nat} {te : TE} {vs : List Nat} {σ : L2.St} {H1 : Hp} {Qd : Addr → Hp → Prop} (hl : ys.length = xs.length) (hx : xs.length < sizeLine) (hA : SqL K H1 a xs) (hw : ∀ x, wipe ((wipe σ vs).set j (some x)) vs = wipe σ vs)
    (hs : ∀ (i : Nat) x y H Q, xs[i]? = some x → ys[i]? = some y → Same H1 H → (∀ H', Same H H' → Q y H') → te ((wipe σ vs).set j (some x)) H Q)
    (hd : ∀ D H, Same H1 H → H D = some (.lst ys) → H1 D = none → Qd D H) : ∀ D, H1 D = none →
    ∃ W : Nat → Nat → Hp → Prop, (∃ m, W 0 m (upd H1 D (.lst []))) ∧ ∀ i m H, W i m H →
      ((Itl K a).stop i H ∧ Qd D H) ∨ ((Itl K a).go i H ∧ ∃ Nx : Hp → Prop, (∀ H', Nx H' → ∃ m', m' < m ∧ W (i + 1) m' H') ∧ ∀ x H', (Itl K a).yld i H x H' → gName j x (wipe σ vs) H' fun σ2 H2 => wipe σ2 vs = wipe σ vs ∧ tYes σ2 H2 fun b H3 =>
        if b = true then te σ2 H3 fun y H4 => ∃ acc, H4 D = some (.lst acc) ∧ acc.length < sizeLine ∧ Nx (upd H4 D (.lst (acc ++ [y]))) else Nx H3) := fun D hD => by
  refine lc_list (K := K) (a := a) (xs := xs) (fun i H => Same H1 H ∧ H D = some (.lst (ys.take i))) ⟨same_upd hD, upd_same⟩ (fun i H _ h => h.1.seq hA) (fun i x H hi h => ?_) (fun H h => hd D H h.1 (by rw [h.2, ← hl, List.take_length]) hD)
  have hi' : i < ys.length := by
    rw [hl]
    exact (List.getElem?_eq_some_iff.mp hi).1
  refine ⟨hw x, yes_of (hs i x ys[i] H _ hi (List.getElem?_eq_getElem hi') h.1 fun H' s' => ⟨_, s' _ _ h.2, ?_, ?_, ?_⟩)⟩
  · rw [List.length_take]
    omega
  · exact same_updO (h.1.trans s') hD
  · rw [upd_same, List.take_add_one, List.getElem?_eq_getElem hi']
    rfl
theorem lc_mapT {K : PySem.W.Frag} {a : Addr} {xs ys : List V} {j : Nat} {te : TE} {vs : List Nat} {σ : L2.St} {H1 : Hp} {Qd : Addr → Hp → Prop} (hl : ys.length = xs.length) (hx : xs.length < sizeLine) (hA : H1 a = some (.tup xs)) (hw : ∀ x, wipe ((wipe σ vs).set j (some x)) vs = wipe σ vs)
    (hs : ∀ (i : Nat) x y H Q, xs[i]? = some x → ys[i]? = some y → Same H1 H → (∀ H', Same H H' → Q y H') → te ((wipe σ vs).set j (some x)) H Q)
    (hd : ∀ D H, Same H1 H → H D = some (.lst ys) → H1 D = none → Qd D H) : ∀ D, H1 D = none →
    ∃ W : Nat → Nat → Hp → Prop, (∃ m, W 0 m (upd H1 D (.lst []))) ∧ ∀ i m H, W i m H →
      ((Itt K a).stop i H ∧ Qd D H) ∨ ((Itt K a).go i H ∧ ∃ Nx : Hp → Prop, (∀ H', Nx H' → ∃ m', m' < m ∧ W (i + 1) m' H') ∧ ∀ x H', (Itt K a).yld i H x H' → gName j x (wipe σ vs) H' fun σ2 H2 => wipe σ2 vs = wipe σ vs ∧ tYes σ2 H2 fun b H3 =>
        if b = true then te σ2 H3 fun y H4 => ∃ acc, H4 D = some (.lst acc) ∧ acc.length < sizeLine ∧ Nx (upd H4 D (.lst (acc ++ [y]))) else Nx H3) := fun D hD => by
  refine lc_tup (K := K) (a := a) (xs := xs) (fun i H => Same H1 H ∧ H D = some (.lst (ys.take i))) ⟨same_upd hD, upd_same⟩ (fun i H _ h => .of (h.1 _ _ hA)) (fun i x H hi h => ?_) (fun H h => hd D H h.1 (by rw [h.2, ← hl, List.take_length]) hD)
  have hi' : i < ys.length := by
    rw [hl]
    exact (List.getElem?_eq_some_iff.mp hi).1
  refine ⟨hw x, yes_of (hs i x ys[i] H _ hi (List.getElem?_eq_getElem hi') h.1 fun H' s' => ⟨_, s' _ _ h.2, ?_, ?_, ?_⟩)⟩
  · rw [List.length_take]
    omega
  · exact same_updO (h.1.trans s') hD
  · rw [upd_same, List.take_add_one, List.getElem?_eq_getElem hi']
    rfl
/-! ### tuples and lists of ints: ==, !=, sum, in -/
theorem canAll_ints : ∀ ns : List Int, PyData.canLayAll0 (ns.map PyData.int) = true
  | [] => rfl
  | _ :: ns => by
    show (PyData.canLay0 (.int _) && PyData.canLayAll0 (ns.map PyData.int)) = true
    rw [canAll_ints ns]
    rfl
theorem depthAll_ints : ∀ ns : List Int, PyData.depthAll (ns.map PyData.int) = 0
  | [] => rfl
  | _ :: ns => by
    show max (PyData.depth (.int _)) (PyData.depthAll (ns.map PyData.int)) = 0
    rw [depthAll_ints ns]
    rfl
theorem sh_tup (ns : List Int) : SeqAt.shaped (.tuple (ns.map PyData.int)) = true := by
  unfold SeqAt.shaped
  rw [Bool.and_eq_true]
  refine ⟨canAll_ints ns, decide_eq_true ?_⟩
  show PyData.depthAll (ns.map PyData.int) + 1 ≤ 64
  rw [depthAll_ints]
  decide
theorem sh_lst (ns : List Int) : SeqAt.shaped (.list (ns.map PyData.int)) = true := by
  unfold SeqAt.shaped
  rw [Bool.and_eq_true]
  refine ⟨canAll_ints ns, decide_eq_true ?_⟩
  show PyData.depthAll (ns.map PyData.int) + 1 ≤ 64
  rw [depthAll_ints]
  decide
theorem eqvAll_ints : ∀ ns ms : List Int, PyData.eqvAll (ns.map PyData.int) (ms.map PyData.int) = decide (ns = ms)
  | [], [] => rfl
  | [], _ :: _ => rfl
  | _ :: _, [] => rfl
  | n :: ns, m :: ms => by
    show (n == m && PyData.eqvAll (ns.map PyData.int) (ms.map PyData.int)) = _
    rw [eqvAll_ints ns ms]
    by_cases h : n = m
    · subst h
      simp
    · simp [h]
theorem dp_ints {K : PySem.W.Frag} {H : Hp} : ∀ ns : List Int, DpAll K H (ns.map V.int) (ns.map PyData.int)
  | [] => .nil
  | n :: ns => .cons (.int n) (dp_ints ns)
def rEqT (K : PySem.W.Frag) : R2 := fun x y H Q => ∃ (a b : Addr) (ns ms : List Int), x = .ref a ∧ y = .ref b ∧ SqT K H a (ns.map V.int) ∧ SqT K H b (ms.map V.int) ∧ Q (.bl (decide (ns = ms))) H
def rNeT (K : PySem.W.Frag) : R2 := fun x y H Q => ∃ (a b : Addr) (ns ms : List Int), x = .ref a ∧ y = .ref b ∧ SqT K H a (ns.map V.int) ∧ SqT K H b (ms.map V.int) ∧ Q (.bl (!decide (ns = ms))) H
def rEqLI (K : PySem.W.Frag) : R2 := fun x y H Q => ∃ (a b : Addr) (ns ms : List Int), x = .ref a ∧ y = .ref b ∧ SqL K H a (ns.map V.int) ∧ SqL K H b (ms.map V.int) ∧ Q (.bl (decide (ns = ms))) H
def rNeLI (K : PySem.W.Frag) : R2 := fun x y H Q => ∃ (a b : Addr) (ns ms : List Int), x = .ref a ∧ y = .ref b ∧ SqL K H a (ns.map V.int) ∧ SqL K H b (ms.map V.int) ∧ Q (.bl (!decide (ns = ms))) H
section
variable {X : Cx} {k : Nat}
theorem op_eqT (hr : Room k X.A) : OpR X (compareOp .Eq) (rEqT X.K) := by
  intro pins s σ H x y v u Q I rx ry h
  obtain ⟨a, b, ns, ms, rfl, rfl, ha, hb, q⟩ := h
  refine op_eqD hr.units pins s σ H _ _ v u Q I rx ry ⟨_, _, .tup ha (dp_ints ns), .tup hb (dp_ints ms), sh_tup ns, sh_tup ms, ?_⟩
  show Q (.bl (PyData.eqvAll _ _)) H
  rw [eqvAll_ints]
  exact q
theorem op_neT (hr : Room k X.A) : OpR X (compareOp .NotEq) (rNeT X.K) := by
  intro pins s σ H x y v u Q I rx ry h
  obtain ⟨a, b, ns, ms, rfl, rfl, ha, hb, q⟩ := h
  refine op_neD hr.units pins s σ H _ _ v u Q I rx ry ⟨_, _, .tup ha (dp_ints ns), .tup hb (dp_ints ms), sh_tup ns, sh_tup ms, ?_⟩
  show Q (.bl (!PyData.eqvAll _ _)) H
  rw [eqvAll_ints]
  exact q
theorem op_eqLI (hr : Room k X.A) : OpR X (compareOp .Eq) (rEqLI X.K) := by
  intro pins s σ H x y v u Q I rx ry h
  obtain ⟨a, b, ns, ms, rfl, rfl, ha, hb, q⟩ := h
  refine op_eqD hr.units pins s σ H _ _ v u Q I rx ry ⟨_, _, .lst ha (dp_ints ns), .lst hb (dp_ints ms), sh_lst ns, sh_lst ms, ?_⟩
  show Q (.bl (PyData.eqvAll _ _)) H
  rw [eqvAll_ints]
  exact q
theorem op_neLI (hr : Room k X.A) : OpR X (compareOp .NotEq) (rNeLI X.K) := by
  intro pins s σ H x y v u Q I rx ry h
  obtain ⟨a, b, ns, ms, rfl, rfl, ha, hb, q⟩ := h
  refine op_neD hr.units pins s σ H _ _ v u Q I rx ry ⟨_, _, .lst ha (dp_ints ns), .lst hb (dp_ints ms), sh_lst ns, sh_lst ms, ?_⟩
  show Q (.bl (!PyData.eqvAll _ _)) H
  rw [eqvAll_ints]
  exact q
/-- sum(t) of a tuple of ints -/
def rSumT (K : PySem.W.Frag) : List V → Hp → VK → Prop := fun vs H Q => ∃ (a : Addr) (ns : List Int), vs = [V.ref a] ∧ SqT K H a (ns.map V.int) ∧ Q (.int ns.sum) H
theorem cr_sumT (hc : X.calm = true) : CallR X (.builtin "sum") (rSumT X.K) := by
  intro pins s σ H vs us Q I r h
  obtain ⟨a, ns, rfl, hs, q⟩ := h
  obtain ⟨its, rv, ht, _⟩ := I.tuple hs
  rw [Vals.ref1 r]
  have hi := rv.ints
  obtain ⟨xs, e⟩ := hi.allInts.items
  have hn : numsOf (intItems xs).toList = ns := by rw [← e]; exact hi.numsOf
  rw [nums_intItems] at hn
  rw [e] at ht
  refine PySem.W.ktm_sumG (I.ok.hd hc) ht fun h' tk t' hk => ⟨.int _, H, I.kept hk, ⟨_, rfl⟩, ?_⟩
  rw [preSum_eq, List.take_of_length_le (by simp), hn]
  exact q
end
/-- x in xs within a comprehension, the written part named -/
theorem op_inK {X : Cx} (K : PySem.W.Frag) (h : X.K = K := by rfl) : OpR X (compareOp .In) (rIn K false) := by
  subst h
  exact op_in_seq
theorem in01 (z : Int) : inV (.int z) [V.int 0, V.int 1] = decide (z = 0 ∨ z = 1) := by
  show ((0 : Int) == z || ((1 : Int) == z || false)) = _
  by_cases h0 : z = 0
  · subst h0
    rfl
  · by_cases h1 : z = 1
    · subst h1
      rfl
    · rw [decide_eq_false (by omega), Bool.or_false, Bool.or_eq_false_iff]
      exact ⟨beq_false_of_ne (fun e => h0 e.symm), beq_false_of_ne (fun e => h1 e.symm)⟩
/-- isinstance(t, tuple) -/
theorem isT_tup {K : PySem.W.Frag} {H : Hp} {a : Addr} {xs : List V} (e : H a = some (.tup xs)) : TyX K H (.ref a) (.type "tuple") := .base (.tup e)
theorem isT_self {K : PySem.W.Frag} {t : Value} : PySem.W.kitOne K t t = some true := by
  unfold PySem.W.kitOne
  rw [if_pos (by simp)]

/-- what every law promises -/
def sp_law (K : PySem.W.Frag) : Sp := fun vs H Q _ => ∃ (a : Addr) (ns : List Int), vs = [.ref a] ∧ SqL K H a (ns.map V.int) ∧ ns.length ≤ 63 ∧ ∀ H', Q (.bl true) H'
end RR
/-! RRM: fractions, rows, ways: plain mathematics. -/
namespace RR

/-! ### the greatest common divisor -/
def dv (a b : Int) : Int := (Int.gcd a b : Int)
theorem gcd_step {x y : Int} (hx : 0 ≤ x) (hy : 0 < y) : Int.gcd y (x % y) = Int.gcd x y := by
  have h1 := Int.emod_nonneg x (show y ≠ 0 by omega)
  obtain ⟨a, rfl⟩ := Int.eq_ofNat_of_zero_le hx
  obtain ⟨b, rfl⟩ := Int.eq_ofNat_of_zero_le (show 0 ≤ y by omega)
  rw [← Int.natCast_emod]
  show Nat.gcd b (a % b) = Nat.gcd a b
  rw [Nat.gcd_comm a b, Nat.gcd_rec b a, Nat.gcd_comm]
theorem gcd_abs (a b : Int) : Int.gcd (if a < 0 then -a else a) (if b < 0 then -b else b) = Int.gcd a b := by
  split <;> split <;> simp only [Int.gcd_neg, Int.neg_gcd]
theorem gcd_end {x y : Int} (hx : 0 ≤ x) (hy : ¬ 0 < y) (h0 : 0 ≤ y) : x = (Int.gcd x y : Int) := by
  have e : y = 0 := by omega
  subst e
  rw [Int.gcd_zero_right]
  omega
theorem dv_nonneg (a b : Int) : 0 ≤ dv a b := Int.natCast_nonneg _
theorem dv_dvd_left (a b : Int) : dv a b ∣ a := Int.gcd_dvd_left a b
theorem dv_dvd_right (a b : Int) : dv a b ∣ b := Int.gcd_dvd_right a b
theorem dv_pos_right {a b : Int} (h : b ≠ 0) : 0 < dv a b := by
  have h1 : 0 < Int.gcd a b := Int.gcd_pos_of_ne_zero_right a h
  unfold dv
  omega
theorem dv_pos_left {a b : Int} (h : a ≠ 0) : 0 < dv a b := by
  have h1 : 0 < Int.gcd a b := Int.gcd_pos_of_ne_zero_left b h
  unfold dv
  omega
theorem dv_comm (a b : Int) : dv a b = dv b a := by
  unfold dv
  rw [Int.gcd_comm]
theorem dvd_dv {k a b : Int} (h1 : k ∣ a) (h2 : k ∣ b) : k ∣ dv a b := Int.dvd_coe_gcd h1 h2
theorem fdiv_neg_dvd {a g : Int} (h : g ∣ a) (hg : g ≠ 0) : a.fdiv (-g) = -(a / g) := by
  obtain ⟨k, rfl⟩ := h
  rw [Int.mul_ediv_cancel_left _ hg, show g * k = (-g) * (-k) by rw [Int.neg_mul_neg], Int.mul_fdiv_cancel_left _ (by omega)]
theorem neg_ediv_dvd {a g : Int} (h : g ∣ a) : (-a) / g = -(a / g) := Int.neg_ediv_of_dvd h
/-- the fraction u divided by l -/
def low (u l : Int) : Int × Int := if l < 0 then ((-u) / dv u l, (-l) / dv u l) else (u / dv u l, l / dv u l)
theorem dv_div {a b : Int} (h : 0 < dv a b) : dv (a / dv a b) (b / dv a b) = 1 := by
  have h1 : 0 < Int.gcd a b := by
    unfold dv at h
    omega
  have h2 := Int.gcd_ediv_gcd_ediv_gcd h1
  unfold dv
  omega
theorem dv_neg_left (a b : Int) : dv (-a) b = dv a b := by
  unfold dv
  rw [Int.neg_gcd]
theorem dv_neg_right (a b : Int) : dv a (-b) = dv a b := by
  unfold dv
  rw [Int.gcd_neg]
/-- what lowest gives, by products: the fraction is lowest and stands for the same -/
structure IsLow (u l p q : Int) : Prop where
  pos : 0 < q
  one : dv p q = 1
  cross : u * q = p * l
theorem low_is {u l : Int} (h : l ≠ 0) : IsLow u l (low u l).1 (low u l).2 := by
  have hg := dv_pos_right (a := u) h
  obtain ⟨a, ha⟩ := dv_dvd_left u l
  obtain ⟨b, hb⟩ := dv_dvd_right u l
  have hg0 : dv u l ≠ 0 := by omega
  have e1 : u / dv u l = a := by conv => lhs; lhs; rw [ha]
                                 exact Int.mul_ediv_cancel_left _ hg0
  have e2 : l / dv u l = b := by conv => lhs; lhs; rw [hb]
                                 exact Int.mul_ediv_cancel_left _ hg0
  have h1 := dv_div hg
  rw [e1, e2] at h1
  unfold low
  split
  · rename_i hl
    rw [neg_ediv_dvd (dv_dvd_left u l), neg_ediv_dvd (dv_dvd_right u l), e1, e2]
    refine ⟨?_, ?_, ?_⟩
    · have : ¬ 0 ≤ b := fun hb0 => by
        have := Int.mul_nonneg (Int.le_of_lt hg) hb0
        omega
      show 0 < -b
      omega
    · show dv (-a) (-b) = 1
      rw [dv_neg_left, dv_neg_right, h1]
    · show u * -b = -a * l
      generalize dv u l = g at *
      subst ha hb
      grind
  · rename_i hl
    rw [e1, e2]
    refine ⟨?_, h1, ?_⟩
    · have : ¬ b ≤ 0 := fun hb0 => by
        have := Int.mul_nonneg (Int.le_of_lt hg) (show 0 ≤ -b by omega)
        rw [Int.mul_neg] at this
        omega
      show 0 < b
      omega
    · show u * b = a * l
      generalize dv u l = g at *
      subst ha hb
      grind
/-- coprime: a divisor of a product -/
theorem dvd_of_mul {k a b : Int} (h : dv k a = 1) (h2 : k ∣ a * b) : k ∣ b := by
  have h1 : Int.gcd k a = 1 := by
    unfold dv at h
    omega
  rw [← Int.natAbs_dvd_natAbs] at h2 ⊢
  rw [Int.natAbs_mul] at h2
  exact Nat.Coprime.dvd_of_dvd_mul_left h1 h2
theorem low_unique {p q r s : Int} (h1 : 0 < q) (h2 : dv p q = 1) (h3 : 0 < s) (h4 : dv r s = 1) (h : p * s = r * q) : p = r ∧ q = s := by
  have a1 : q ∣ s := by
    refine dvd_of_mul (a := p) (by rw [dv_comm]; exact h2) ⟨r, ?_⟩
    rw [h, Int.mul_comm]
  have a2 : s ∣ q := by
    refine dvd_of_mul (a := r) (by rw [dv_comm]; exact h4) ⟨p, ?_⟩
    rw [← h, Int.mul_comm]
  have e : q = s := Int.dvd_antisymm (by omega) (by omega) a1 a2
  subst e
  exact ⟨Int.eq_of_mul_eq_mul_right (by omega) h, rfl⟩
theorem IsLow.eq {u l p q : Int} (h : l ≠ 0) (x : IsLow u l p q) : low u l = (p, q) := by
  have y := low_is (u := u) h
  obtain ⟨x1, x2, x3⟩ := x
  obtain ⟨y1, y2, y3⟩ := y
  have e : p * (low u l).2 = (low u l).1 * q := by
    have : l * (p * (low u l).2) = l * ((low u l).1 * q) := by grind
    exact Int.eq_of_mul_eq_mul_left h this
  obtain ⟨e1, e2⟩ := low_unique x1 x2 y1 y2 e
  rw [e1, e2]
theorem low_self {p q : Int} (h : 0 < q) (h2 : dv p q = 1) : low p q = (p, q) := IsLow.eq (by omega) ⟨h, h2, rfl⟩
theorem low_le {u l : Int} (h : 0 < l) : (low u l).2 ≤ l := by
  have hg := dv_pos_right (a := u) (show l ≠ 0 by omega)
  unfold low
  rw [if_neg (by omega)]
  exact Int.ediv_le_self _ (by omega)
theorem low_abs {u l : Int} (h : l ≠ 0) : (low u l).1.natAbs ≤ u.natAbs ∧ (low u l).2.natAbs ≤ l.natAbs := by
  have hg := dv_pos_right (a := u) h
  have k : ∀ z : Int, dv u l ∣ z → (z / dv u l).natAbs ≤ z.natAbs := fun z hz => by
    obtain ⟨c, rfl⟩ := hz
    rw [Int.mul_ediv_cancel_left _ (by omega), Int.natAbs_mul]
    exact Nat.le_mul_of_pos_left _ (by omega)
  unfold low
  split
  · rw [neg_ediv_dvd (dv_dvd_left u l), neg_ediv_dvd (dv_dvd_right u l)]
    exact ⟨by rw [Int.natAbs_neg]; exact k _ (dv_dvd_left u l), by rw [Int.natAbs_neg]; exact k _ (dv_dvd_right u l)⟩
  · exact ⟨k _ (dv_dvd_left u l), k _ (dv_dvd_right u l)⟩

/-! ### rows -/
/-- what a row stands for -/
def st : List Int → Int × Int
  | [] => (1, 0)
  | x :: r => (x * (st r).1 + (st r).2, (st r).1)
/-- whether a tuple is a row for fraction_of -/
def isRow (xs : List Int) : Bool := !xs.isEmpty && (xs.drop 1).all fun y => decide (1 ≤ y)

/-! ### ways -/
/-- the way to u divided by l -/
def way (u l : Int) : List Int := if h : 1 ≤ u ∧ 1 ≤ l ∧ u ≠ l then (if u < l then 0 :: way u (l - u) else 1 :: way (u - l) l) else []
termination_by (u + l).toNat
decreasing_by all_goals omega
theorem way_eq (u : Int) : way u u = [] := by
  unfold way
  rw [dif_neg (fun h => h.2.2 rfl)]
theorem way_lo {u l : Int} (h1 : 1 ≤ u) (h2 : u < l) : way u l = 0 :: way u (l - u) := by
  conv => lhs; unfold way
  rw [dif_pos ⟨h1, by omega, by omega⟩, if_pos h2]
theorem way_hi {u l : Int} (h1 : 1 ≤ l) (h2 : l < u) : way u l = 1 :: way (u - l) l := by
  conv => lhs; unfold way
  rw [dif_pos ⟨by omega, h1, by omega⟩, if_neg (by omega)]
theorem way_len {u l : Int} (h1 : 1 ≤ u) (h2 : 1 ≤ l) : ((way u l).length : Int) + 2 ≤ u + l := by
  by_cases h : u = l
  · subst h
    rw [way_eq]
    show (0 : Int) + 2 ≤ _
    omega
  · by_cases h3 : u < l
    · have ih := way_len (u := u) (l := l - u) h1 (by omega)
      rw [way_lo h1 h3, List.length_cons]
      omega
    · have ih := way_len (u := u - l) (l := l) (by omega) h2
      rw [way_hi h2 (by omega), List.length_cons]
      omega
termination_by (u + l).toNat
decreasing_by all_goals omega
/-- where a way leads -/
def bw : List Int → Int × Int
  | [] => (1, 1)
  | s :: w => if s = 0 then ((bw w).1, (bw w).1 + (bw w).2) else ((bw w).1 + (bw w).2, (bw w).2)
theorem bw_pos : ∀ w : List Int, 1 ≤ (bw w).1 ∧ 1 ≤ (bw w).2
  | [] => ⟨Int.le_refl 1, Int.le_refl 1⟩
  | s :: w => by
    have ih := bw_pos w
    unfold bw
    split
    · exact ⟨ih.1, by show 1 ≤ (bw w).1 + (bw w).2; omega⟩
    · exact ⟨by show 1 ≤ (bw w).1 + (bw w).2; omega, ih.2⟩
theorem bw_big : ∀ w : List Int, (bw w).1 ≤ 2 ^ w.length ∧ (bw w).2 ≤ 2 ^ w.length
  | [] => ⟨Int.le_refl 1, Int.le_refl 1⟩
  | s :: w => by
    have ih := bw_big w
    have p := bw_pos w
    unfold bw
    rw [List.length_cons, Int.pow_succ]
    split
    · exact ⟨by show (bw w).1 ≤ _; omega, by show (bw w).1 + (bw w).2 ≤ _; omega⟩
    · exact ⟨by show (bw w).1 + (bw w).2 ≤ _; omega, by show (bw w).2 ≤ _; omega⟩
theorem bw_lo (w : List Int) : bw (0 :: w) = ((bw w).1, (bw w).1 + (bw w).2) := by
  conv => lhs; unfold bw
  rw [if_pos rfl]
theorem bw_hi (w : List Int) : bw (1 :: w) = ((bw w).1 + (bw w).2, (bw w).2) := by
  conv => lhs; unfold bw
  rw [if_neg (by decide)]
theorem way_bw : ∀ w : List Int, (∀ s ∈ w, s = 0 ∨ s = 1) → way (bw w).1 (bw w).2 = w
  | [], _ => way_eq 1
  | s :: w, h => by
    have ih := way_bw w fun x hx => h x (List.mem_cons_of_mem _ hx)
    have p := bw_pos w
    rcases h s List.mem_cons_self with rfl | rfl
    · rw [bw_lo]
      show way (bw w).1 ((bw w).1 + (bw w).2) = _
      rw [way_lo p.1 (by omega), show (bw w).1 + (bw w).2 - (bw w).1 = (bw w).2 by omega, ih]
    · rw [bw_hi]
      show way ((bw w).1 + (bw w).2) (bw w).2 = _
      rw [way_hi p.2 (by omega), show (bw w).1 + (bw w).2 - (bw w).2 = (bw w).1 by omega, ih]
theorem dv_sub_right {u l : Int} : dv u (l - u) = dv u l := by
  unfold dv
  rw [Int.gcd_sub_self_right]
theorem dv_add_right {u l : Int} : dv u (u + l) = dv u l := by
  unfold dv
  rw [Int.gcd_self_add_right]
theorem dv_sub_left {u l : Int} : dv (u - l) l = dv u l := by
  unfold dv
  rw [Int.gcd_sub_self_left]
theorem dv_add_left {u l : Int} : dv (u + l) l = dv u l := by
  unfold dv
  rw [Int.gcd_add_self_left]
theorem dv_self {u : Int} (h : 0 ≤ u) : dv u u = u := by
  unfold dv
  rw [Int.gcd_self]
  omega
theorem bw_low : ∀ w : List Int, dv (bw w).1 (bw w).2 = 1
  | [] => by decide
  | s :: w => by
    have ih := bw_low w
    unfold bw
    split
    · show dv (bw w).1 ((bw w).1 + (bw w).2) = 1
      rw [dv_add_right, ih]
    · show dv ((bw w).1 + (bw w).2) (bw w).2 = 1
      rw [dv_add_left, ih]
theorem bw_way {u l : Int} (h1 : 1 ≤ u) (h2 : 1 ≤ l) (h : dv u l = 1) : bw (way u l) = (u, l) := by
  by_cases e : u = l
  · subst e
    rw [dv_self (by omega)] at h
    subst h
    rw [way_eq]
    rfl
  · by_cases h3 : u < l
    · have ih := bw_way (u := u) (l := l - u) h1 (by omega) (by rw [dv_sub_right, h])
      rw [way_lo h1 h3, bw_lo, ih]
      show (u, u + (l - u)) = (u, l)
      rw [show u + (l - u) = l by omega]
    · have ih := bw_way (u := u - l) (l := l) (by omega) h2 (by rw [dv_sub_left, h])
      rw [way_hi h2 (by omega), bw_hi, ih]
      show (u - l + l, l) = (u, l)
      rw [show u - l + l = u by omega]
termination_by (u + l).toNat
decreasing_by all_goals omega
theorem way_01 {u l : Int} : ∀ s ∈ way u l, s = 0 ∨ s = 1 := by
  unfold way
  split
  · rename_i h
    obtain ⟨h1, h2, h3⟩ := h
    split
    · intro s hs
      rcases List.mem_cons.mp hs with rfl | hs
      · exact .inl rfl
      · exact way_01 s hs
    · intro s hs
      rcases List.mem_cons.mp hs with rfl | hs
      · exact .inr rfl
      · exact way_01 s hs
  · intro s hs
    cases hs
termination_by (u + l).toNat
decreasing_by all_goals omega
/-- two bounds, and the rest of the way between -/
theorem bw_step {w : List Int} {s a b c d X Y : Int} (h : X = a * (bw (s :: w)).2 + c * (bw (s :: w)).1) (h2 : Y = b * (bw (s :: w)).2 + d * (bw (s :: w)).1) :
    if s = 0 then X = a * (bw w).2 + (a + c) * (bw w).1 ∧ Y = b * (bw w).2 + (b + d) * (bw w).1 else X = (a + c) * (bw w).2 + c * (bw w).1 ∧ Y = (b + d) * (bw w).2 + d * (bw w).1 := by
  unfold bw at h h2
  split
  · rename_i e
    rw [if_pos e] at h h2
    exact ⟨by rw [h]; grind, by rw [h2]; grind⟩
  · rename_i e
    rw [if_neg e] at h h2
    exact ⟨by rw [h]; grind, by rw [h2]; grind⟩

/-! ### rows by division -/
/-- the row of u divided by l -/
def row (u l : Int) : List Int := if 0 < l then (u / l) :: row l (u % l) else []
termination_by l.toNat
decreasing_by
  have h1 := Int.emod_lt_of_pos u (show 0 < l by assumption)
  omega
theorem row_zero {u l : Int} (h : ¬ 0 < l) : row u l = [] := by
  unfold row
  rw [if_neg h]
theorem row_cons {u l : Int} (h : 0 < l) : row u l = (u / l) :: row l (u % l) := by
  conv => lhs; unfold row
  rw [if_pos h]
theorem row_len {u l : Int} (h : 0 ≤ l) : ((row u l).length : Int) ≤ l + 1 := by
  by_cases h0 : 0 < l
  · have h1 := Int.emod_lt_of_pos u h0
    have h2 := Int.emod_nonneg u (show l ≠ 0 by omega)
    have ih := row_len (u := l) (l := u % l) h2
    rw [row_cons h0, List.length_cons]
    omega
  · rw [row_zero h0]
    show (0 : Int) ≤ _
    omega
termination_by l.toNat
decreasing_by omega
theorem sum_swap {u l : Int} (h1 : 0 < u) (h2 : 0 < l) : (row u l).sum = (row l u).sum := by
  by_cases e : u = l
  · rw [e]
  · by_cases h : u < l
    · rw [row_cons h2, Int.ediv_eq_zero_of_lt (by omega) h, Int.emod_eq_of_lt (by omega) h, List.sum_cons, Int.zero_add]
    · rw [row_cons h1, Int.ediv_eq_zero_of_lt (by omega) (by omega), Int.emod_eq_of_lt (by omega) (by omega), List.sum_cons, Int.zero_add]
theorem sum_add {u l : Int} (h : 0 < l) : (row (u + l) l).sum = 1 + (row u l).sum := by
  rw [row_cons h, row_cons h, List.sum_cons, List.sum_cons, Int.add_emod_right, Int.add_ediv_of_dvd_right (Int.dvd_refl l), Int.ediv_self (by omega)]
  omega
theorem row_sum {u l : Int} (h1 : 1 ≤ u) (h2 : 1 ≤ l) (h : dv u l = 1) : (row u l).sum = ((way u l).length : Int) + 1 := by
  by_cases e : u = l
  · subst e
    rw [dv_self (by omega)] at h
    subst h
    rw [way_eq, row_cons (by decide), row_zero (by decide)]
    decide
  · by_cases h3 : u < l
    · have ih := row_sum (u := u) (l := l - u) h1 (by omega) (by rw [dv_sub_right, h])
      rw [way_lo h1 h3, List.length_cons, sum_swap (by omega) (by omega), show l = (l - u) + u by omega, sum_add (by omega), ← sum_swap (by omega) (by omega)]
      have e2 : l - u + u - u = l - u := by omega
      rw [e2, ih]
      omega
    · have ih := row_sum (u := u - l) (l := l) (by omega) h2 (by rw [dv_sub_left, h])
      have e2 : u = (u - l) + l := by omega
      rw [way_hi h2 (by omega), List.length_cons, e2, sum_add (by omega), ih]
      have e3 : u - l + l - l = u - l := by omega
      rw [e3]
      omega
termination_by (u + l).toNat
decreasing_by all_goals omega
end RR
/-! RRS: the promises of the defs. -/
namespace RR
open PySem PySem.Spec PyProof.Rows L2
/-- within four thousand bits -/
structure Big (x : Int) : Prop where
  lt : x.natAbs < 2 ^ 4000
theorem big_of {x : Int} (h : x.natAbs < 2 ^ 60) : Big x := ⟨Nat.lt_of_lt_of_le h (Nat.pow_le_pow_right (by decide) (by decide))⟩
theorem big_le {x y : Int} (h : x.natAbs ≤ y.natAbs) (hy : Big y) : Big x := ⟨Nat.lt_of_le_of_lt h hy.lt⟩
theorem len1 {α : Type} {a : α} : [a].length ≤ sizeLine := small_le (show 1 ≤ 10000000 by decide)
theorem len2 {α : Type} {a b : α} : [a, b].length ≤ sizeLine := small_le (show 2 ≤ 10000000 by decide)
theorem len4 {α : Type} {a b c d : α} : [a, b, c, d].length ≤ sizeLine := small_le (show 4 ≤ 10000000 by decide)
theorem map_get {ns : List Int} {i : Nat} {x : V} (h : (ns.map V.int)[i]? = some x) : ∃ n, ns[i]? = some n ∧ x = .int n := by
  rw [List.getElem?_map] at h
  cases e : ns[i]? with
  | none =>
    rw [e] at h
    cases h
  | some n =>
    rw [e] at h
    exact ⟨n, rfl, (Option.some.inj h).symm⟩
theorem get_map {ns : List Int} {i : Nat} {n : Int} (h : ns[i]? = some n) : (ns.map V.int)[i]? = some (.int n) := by
  rw [List.getElem?_map, h]
  rfl
theorem Big.log {x : Int} (h : Big x) : x.natAbs.log2 < 4000 := PySem.Flt.log2_lt_of (by decide) h.lt
theorem Big.mul {x y : Int} (h : Big x) (h2 : Big y) : CMulW x y := by
  have h3 := h.log
  have h4 := h2.log
  unfold CMulW
  omega
/-- divisor -/
def sp_divisor : Sp := fun vs H Q _ => ∃ a b : Int, vs = [.int a, .int b] ∧ Q (.int (dv a b)) H
/-- lowest, as the laws have it (the lower one is not 0) -/
def sp_lowH : Sp := fun vs H Q _ => ∃ u l : Int, vs = [.int u, .int l] ∧ l ≠ 0 ∧ Big u ∧ Big l ∧ ∀ p, H p = none → Q (.ref p) (upd H p (tI [(low u l).1, (low u l).2]))
/-- lowest -/
def sp_lowest (C : Addr) : Sp := fun vs H Q E => ∃ u l : Int, vs = [.int u, .int l] ∧ Big u ∧ Big l ∧ (l = 0 → E (.ref C) none H) ∧ (l ≠ 0 → ∀ p, H p = none → Q (.ref p) (upd H p (tI [(low u l).1, (low u l).2])))
/-- a cell of the script -/
def cellOf (ns : List Int) (k : Nat) : Int := ns.getD k 0
def sp_cell (K : PySem.W.Frag) : Sp := fun vs H Q _ => ∃ (a : Addr) (ns : List Int) (k : Nat), vs = [.ref a, .int k] ∧ SqL K H a (ns.map V.int) ∧ k < 1000 ∧ Q (.int (cellOf ns k)) H
/-- a draw -/
def mix (c p m : Int) : Int := c * 48271 % p % m
def sp_mix : Sp := fun vs H Q _ => ∃ c p m : Int, vs = [.int c, .int p, .int m] ∧ 0 < p ∧ 0 < m ∧ Q (.int (mix c p m)) H
/-- a drawn fraction -/
def frac (c o w : Int) : Int × Int := low (mix c 1000003 (2 * w + 1) - w) (1 + mix o 999983 w)
def sp_fraction : Sp := fun vs H Q _ => ∃ c o w : Int, vs = [.int c, .int o, .int w] ∧ 0 < w ∧ w < 1000000 ∧ ∀ p, H p = none → Q (.ref p) (upd H p (tI [(frac c o w).1, (frac c o w).2]))
/-- fraction_of -/
def sp_fraction_of (C : Addr) : Sp := fun vs H Q E => ∃ (t : Addr) (xs : List Int), vs = [.ref t] ∧ H t = some (tI xs) ∧ xs.length ≤ 1000000 ∧
  (isRow xs = false → ∀ H', Same H H' → E (.ref C) none H') ∧
  (isRow xs = true → (∀ y ∈ xs, Big y) ∧ (∀ j, Big (st (xs.drop j)).1) ∧ ∀ H' p, Same H H' → H p = none → H' p = some (tI [(st xs).1, (st xs).2]) → Q (.ref p) H')
/-- way_to -/
def sp_way_to (C : Addr) : Sp := fun vs H Q E => ∃ (t : Addr) (u l : Int), vs = [.ref t] ∧ H t = some (tI [u, l]) ∧ (u < 1 → E (.ref C) none H) ∧
  (1 ≤ u → 1 ≤ l ∧ (way u l).length ≤ 1000000 ∧ ∀ H' p, Same H H' → H p = none → H' p = some (tI (way u l)) → Q (.ref p) H')
/-- middle -/
def sp_middle : Sp := fun vs H Q _ => ∃ (t u : Addr) (a b c d : Int), vs = [.ref t, .ref u] ∧ H t = some (tI [a, b]) ∧ H u = some (tI [c, d]) ∧ ∀ p, H p = none → Q (.ref p) (upd H p (tI [a + c, b + d]))
/-- where a way leads -/
def sp_walked : Sp := fun vs H Q _ => ∃ (t : Addr) (ws : List Int), vs = [.ref t] ∧ H t = some (tI ws) ∧ (∀ s ∈ ws, s = 0 ∨ s = 1) ∧ ∀ H' p, Same H H' → H p = none → H' p = some (tI [(bw ws).1, (bw ws).2]) → Q (.ref p) H'
/-- row_of -/
def sp_row_of : Sp := fun vs H Q _ => ∃ (t : Addr) (u l : Int), vs = [.ref t] ∧ H t = some (tI [u, l]) ∧ 0 < l ∧ Big l ∧ (row u l).length ≤ 1000000 ∧ ∀ H' p, Same H H' → H p = none → H' p = some (tI (row u l)) → Q (.ref p) H'
/-- a whole number -/
def sp_whole : Sp := fun vs H Q _ => ∃ z : Int, vs = [.int z] ∧ Q (.bl true) H
end RR
namespace RR
open PySem PySem.Spec PyProof.Rows L2
/-! ### the text by places -/
def topS (i : Nat) : Stmt := PySem.Challenge.pw_rootrow_k04_whole_ways_down_the_tree.main.body.getD i (.Pass ⟨0, 0, 0, 0⟩)
abbrev s_middle : Stmt := topS 4
abbrev n_middle : List Str := ["one", "other"]
abbrev p_middle : List Str := ["one", "other"]
theorem sc_middle : FnScope n_middle p_middle (defScope s_middle) := ⟨rfl, rfl, rfl, by decide +kernel, rfl, by decide +kernel, by decide +kernel⟩
abbrev s_way_to : Stmt := topS 5
abbrev n_way_to : List Str := ["fraction", "upper", "lower", "found"]
abbrev p_way_to : List Str := ["fraction"]
theorem sc_way_to : FnScope n_way_to p_way_to (defScope s_way_to) := ⟨rfl, rfl, rfl, by decide +kernel, rfl, by decide +kernel, by decide +kernel⟩
abbrev s_fraction_at : Stmt := topS 6
abbrev n_fraction_at : List Str := ["way", "low", "high", "place", "one"]
abbrev p_fraction_at : List Str := ["way"]
theorem sc_fraction_at : FnScope n_fraction_at p_fraction_at (defScope s_fraction_at) := ⟨rfl, rfl, rfl, by decide +kernel, rfl, by decide +kernel, by decide +kernel⟩
abbrev s_row_of : Stmt := topS 8
abbrev n_row_of : List Str := ["fraction", "upper", "lower", "found"]
abbrev p_row_of : List Str := ["fraction"]
theorem sc_row_of : FnScope n_row_of p_row_of (defScope s_row_of) := ⟨rfl, rfl, rfl, by decide +kernel, rfl, by decide +kernel, by decide +kernel⟩
abbrev s__law_cell : Stmt := topS 10
abbrev n__law_cell : List Str := ["_law_script", "_law_k"]
abbrev p__law_cell : List Str := ["_law_script", "_law_k"]
theorem sc__law_cell : FnScope n__law_cell p__law_cell (defScope s__law_cell) := ⟨rfl, rfl, rfl, by decide +kernel, rfl, by decide +kernel, by decide +kernel⟩
abbrev s__law_mix : Stmt := topS 11
abbrev n__law_mix : List Str := ["_law_cell_here", "_law_prime", "_law_many"]
abbrev p__law_mix : List Str := ["_law_cell_here", "_law_prime", "_law_many"]
theorem sc__law_mix : FnScope n__law_mix p__law_mix (defScope s__law_mix) := ⟨rfl, rfl, rfl, by decide +kernel, rfl, by decide +kernel, by decide +kernel⟩
abbrev s__law_whole : Stmt := topS 12
abbrev n__law_whole : List Str := ["_law_found"]
abbrev p__law_whole : List Str := ["_law_found"]
theorem sc__law_whole : FnScope n__law_whole p__law_whole (defScope s__law_whole) := ⟨rfl, rfl, rfl, by decide +kernel, rfl, by decide +kernel, by decide +kernel⟩
abbrev s__law_divisor : Stmt := topS 13
abbrev n__law_divisor : List Str := ["_law_one", "_law_other"]
abbrev p__law_divisor : List Str := ["_law_one", "_law_other"]
theorem sc__law_divisor : FnScope n__law_divisor p__law_divisor (defScope s__law_divisor) := ⟨rfl, rfl, rfl, by decide +kernel, rfl, by decide +kernel, by decide +kernel⟩
abbrev s__law_lowest : Stmt := topS 14
abbrev n__law_lowest : List Str := ["_law_upper", "_law_lower", "_law_by"]
abbrev p__law_lowest : List Str := ["_law_upper", "_law_lower"]
theorem sc__law_lowest : FnScope n__law_lowest p__law_lowest (defScope s__law_lowest) := ⟨rfl, rfl, rfl, by decide +kernel, rfl, by decide +kernel, by decide +kernel⟩
abbrev s__law_fraction : Stmt := topS 15
abbrev n__law_fraction : List Str := ["_law_cell_here", "_law_other", "_law_wide", "_law_upper"]
abbrev p__law_fraction : List Str := ["_law_cell_here", "_law_other", "_law_wide"]
theorem sc__law_fraction : FnScope n__law_fraction p__law_fraction (defScope s__law_fraction) := ⟨rfl, rfl, rfl, by decide +kernel, rfl, by decide +kernel, by decide +kernel⟩
abbrev s__law_walked : Stmt := topS 16
abbrev n__law_walked : List Str := ["_law_way", "_law_low", "_law_high", "_law_place", "_law_step"]
abbrev p__law_walked : List Str := ["_law_way"]
theorem sc__law_walked : FnScope n__law_walked p__law_walked (defScope s__law_walked) := ⟨rfl, rfl, rfl, by decide +kernel, rfl, by decide +kernel, by decide +kernel⟩
abbrev s_law : Stmt := topS 17
abbrev n_law : List Str := ["_law_script", "_law_upper", "_law_fraction_here", "_law_found", "_law_way", "_law_told", "_law_one", "_law_cell_here"]
abbrev p_law : List Str := ["_law_script"]
theorem sc_law : FnScope n_law p_law (defScope s_law) := ⟨rfl, rfl, rfl, by decide +kernel, rfl, by decide +kernel, by decide +kernel⟩
section
variable {P : Program} {w : World} {K : PySem.W.Frag} {mg : Str → Option Value} {base : Heap} {C R : Addr}
theorem ok_way_to (D : Df K mg "way_to" p_way_to s_way_to) (B : Bl mg) (N : NoN K mg C R) : Cal P w K mg base (L2.CX P w) 1 "way_to" p_way_to (sp_way_to C) := D.cal fun f fd F => by
  refine F.okX sc_way_to (fun vs H Q E h => ?_) (fun cdv A outer s H vs Q E hr h => ?_)
  · obtain ⟨t, u, l, rfl, _⟩ := h
    rfl
  obtain ⟨t, u, l, rfl, hT, hbad, hgood⟩ := h
  refine ⟨_, pss_cons (ps_asg (pv 0) (pg_tup (by rfl) (pgs_cons (pg_name (i := 1) sc_way_to.nd rfl (.inl rfl)) (pgs_cons (pg_name (i := 2) sc_way_to.nd rfl (.inl rfl)) pgs_nil))))
    <| pss_cons (ps_if (pt_cmpR op_lt (pv 1) pe_int (nomark _)) (pss_one (ps_no N rfl (takes_of rfl rfl rfl rfl) (by rfl))) pss_nil)
    <| pss_cons (ps_set (i := 3) sc_way_to.nd rfl (.inl rfl) (pe_lst pa_nil))
    <| pss_cons (ps_while (passes_of rfl) (pt_cmpR op_ne (pv 1) (pv 2) (nomark _)) (pss_one (ps_if (pt_cmpR op_lt (pv 1) (pv 2) (nomark _))
        (pss_cons (ps_expr (pe_bm PySem.F.plainAttrs_list PySem.F.slot_list_append PySem.F.type_list_append mt_append (pv 3) (pa_cons pe_int pa_nil)))
          (pss_one (ps_set (i := 2) sc_way_to.nd rfl (.inl rfl) (pe_op op_sub (pv 2) (pv 1)))))
        (pss_cons (ps_expr (pe_bm PySem.F.plainAttrs_list PySem.F.slot_list_append PySem.F.type_list_append mt_append (pv 3) (pa_cons pe_int pa_nil)))
          (pss_one (ps_set (i := 1) sc_way_to.nd rfl (.inl rfl) (pe_op op_sub (pv 1) (pv 2))))))))
    <| pss_one (ps_ret (pe_callTy call_tuple_of (by rfl) B.tuple (by decide +kernel) (pa_cons (pv 3) pa_nil))), ?_⟩
  refine ⟨_, rfl, t, _, rfl, SqT.of hT, rfl, _, _, rfl, _, _, rfl, rfl, ?_⟩
  refine ⟨_, rfl, _, _, rfl, rfl, _, rfl, ite2 (fun c => ?_) (fun c => ?_)⟩
  · exact hbad (of_decide_eq_true c)
  have hu : 1 ≤ u := by
    have := of_decide_eq_false (Bool.eq_false_iff.mpr c)
    omega
  obtain ⟨hl, hsz, q⟩ := hgood hu
  refine ⟨Nat.zero_le _, fun o no => ?_⟩
  have hw := way_len hu hl
  refine ⟨fun m σ H' => ∃ (x y : Int) (acc : List Int), σ = [some (.ref t), some (.int x), some (.int y), some (.ref o)] ∧ 1 ≤ x ∧ 1 ≤ y ∧ acc ++ way x y = way u l ∧ Same H H' ∧ H' o = some (lI acc) ∧ m = (x + y).toNat,
    ⟨_, u, l, [], rfl, hu, hl, rfl, same_upd no, upd_same, rfl⟩, ?_⟩
  rintro m σ H' ⟨x, y, acc, rfl, hx, hy, hacc, s1, e1, rfl⟩
  have hal : acc.length ≤ 1000000 := by
    have := congrArg List.length hacc
    rw [List.length_append] at this
    omega
  have app : ∀ z : Int, acc.map V.int ++ [.int z] = (acc ++ [z]).map V.int := fun z => by rw [List.map_append] <;> rfl
  refine ⟨_, rfl, _, rfl, rfl, _, rfl, ite2 (fun c2 => ?_) (fun c2 => ?_)⟩
  · have hxy : x ≠ y := fun z => by
      subst z
      simp at c2
    refine ⟨fun σ' H2 => ∃ (x2 y2 z : Int), σ' = [some (.ref t), some (.int x2), some (.int y2), some (.ref o)] ∧ 1 ≤ x2 ∧ 1 ≤ y2 ∧ x2 + y2 < x + y ∧ way x y = z :: way x2 y2 ∧ Same H H2 ∧ H2 o = some (lI (acc ++ [z])), ?_, ?_⟩
    · rintro σ' H2 ⟨x2, y2, z, rfl, h1, h2, h3, h4, h5, h6⟩
      exact ⟨(x2 + y2).toNat, by omega, x2, y2, acc ++ [z], rfl, h1, h2, by rw [← hacc, h4, List.append_assoc] <;> rfl, h5, h6, rfl⟩
    refine ⟨_, rfl, _, rfl, _, _, rfl, rfl, _, rfl, ite2 (fun c3 => ?_) (fun c3 => ?_)⟩
    · have c3' : x < y := of_decide_eq_true c3
      refine ⟨_, rfl, .inl ⟨rfl, _, SqL.of e1⟩, o, _, _, rfl, rfl, e1, by rw [List.length_map]; exact small_of (by omega), ?_⟩
      rw [app]
      exact ⟨_, rfl, _, rfl, _, _, rfl, rfl, x, y - x, 0, rfl, hx, by omega, by omega, way_lo hx c3', same_updO s1 no, upd_same⟩
    · have c3' : ¬ x < y := of_decide_eq_false (Bool.eq_false_iff.mpr c3)
      refine ⟨_, rfl, .inl ⟨rfl, _, SqL.of e1⟩, o, _, _, rfl, rfl, e1, by rw [List.length_map]; exact small_of (by omega), ?_⟩
      rw [app]
      exact ⟨_, rfl, _, rfl, _, _, rfl, rfl, x - y, y, 1, rfl, by omega, hy, by omega, way_hi hy (by omega), same_updO s1 no, upd_same⟩
  · have hxy : x = y := by
      by_cases z : x = y
      · exact z
      · exfalso
        apply c2
        simp [z]
    subst hxy
    rw [way_eq, List.append_nil] at hacc
    subst hacc
    exact ⟨_, rfl, o, _, rfl, .inl ⟨SqL.of e1, fun p np => q _ p (same_updO s1 (s1.free np)) (s1.free np) upd_same⟩⟩
end
section
variable {P : Program} {w : World} {K : PySem.W.Frag} {mg : Str → Option Value} {base : Heap}
theorem ok_middle (D : Df K mg "middle" p_middle s_middle) : Cal P w K mg base CX0 1 "middle" p_middle sp_middle := D.cal fun f fd F => by
  refine F.ok sc_middle (fun vs H Q E h => ?_) (fun cdv A outer s H vs Q E hr h => ?_)
  · obtain ⟨t, u, a, b, c, d, rfl, _⟩ := h
    rfl
  obtain ⟨t, u, a, b, c, d, rfl, h1, h2, q⟩ := h
  refine ⟨_, pss_one (ps_ret (pe_tup (pa_cons (pe_op op_add (pe_ix ix_tup (pv 0) pe_int (fun _ _ => rfl)) (pe_ix ix_tup (pv 1) pe_int (fun _ _ => rfl)))
    (pa_cons (pe_op op_add (pe_ix ix_tup (pv 0) pe_int (fun _ _ => rfl)) (pe_ix ix_tup (pv 1) pe_int (fun _ _ => rfl))) pa_nil)))), ?_⟩
  refine ⟨_, rfl, t, _, 0, .int a, rfl, rfl, SqT.of h1, atI_nat (j := 0) rfl, _, rfl, u, _, 0, .int c, rfl, rfl, SqT.of h2, atI_nat (j := 0) rfl, _, _, rfl, rfl, ?_⟩
  refine ⟨_, rfl, t, _, 1, .int b, rfl, rfl, SqT.of h1, atI_nat (j := 1) rfl, _, rfl, u, _, 1, .int d, rfl, rfl, SqT.of h2, atI_nat (j := 1) rfl, _, _, rfl, rfl, len2, q⟩
end
section
variable {P : Program} {w : World} {K : PySem.W.Frag} {mg : Str → Option Value} {base : Heap}
theorem ok_fraction_at (D : Df K mg "fraction_at" p_fraction_at s_fraction_at) (Cm : Cal P w K mg base CX0 1 "middle" p_middle sp_middle) : Cal P w K mg base CX0 2 "fraction_at" p_fraction_at sp_walked := D.cal fun f fd F => by
  refine F.ok sc_fraction_at (fun vs H Q E h => ?_) (fun cdv A outer s H vs Q E hr h => ?_)
  · obtain ⟨t, ws, rfl, _⟩ := h
    rfl
  obtain ⟨t, ws, rfl, hT, h01, q⟩ := h
  refine ⟨_, pss_cons (ps_set (i := 1) sc_fraction_at.nd rfl (.inl rfl) (pe_tup (pa_cons pe_int (pa_cons pe_int pa_nil))))
    <| pss_cons (ps_set (i := 2) sc_fraction_at.nd rfl (.inl rfl) (pe_tup (pa_cons pe_int (pa_cons pe_int pa_nil))))
    <| pss_cons (ps_set (i := 3) sc_fraction_at.nd rfl (.inl rfl) (pe_tup (pa_cons pe_int (pa_cons pe_int pa_nil))))
    <| pss_cons (ps_for PassesOwn.never rfl (pi_tup (pv 0)) (pg_name (i := 4) sc_fraction_at.nd rfl (.inl rfl))
      (pss_cons (ps_if (pt_cmpR op_eq (pv 4) pe_int (nomark _)) (pss_one (ps_set (i := 2) sc_fraction_at.nd rfl (.inl rfl) (pv 3))) (pss_one (ps_set (i := 1) sc_fraction_at.nd rfl (.inl rfl) (pv 3))))
        (pss_one (ps_set (i := 3) sc_fraction_at.nd rfl (.inl rfl) (pe_cal Cm hr (by decide) (by rfl) pass0 (pa_cons (pv 1) (pa_cons (pv 2) pa_nil)))))))
    <| pss_one (ps_ret (pv 3)), ?_⟩
  refine ⟨len2, fun a na => ⟨len2, fun b nb => ⟨len2, fun c nc => ?_⟩⟩⟩
  have s1 : Same H (upd H a (tI [0, 1])) := same_upd na
  have s2 : Same H (upd (upd H a (tI [0, 1])) b (tI [1, 0])) := s1.trans (same_upd nb)
  have s3 : Same H (upd (upd (upd H a (tI [0, 1])) b (tI [1, 0])) c (tI [1, 1])) := s2.trans (same_upd nc)
  have ea : (upd (upd (upd H a (tI [0, 1])) b (tI [1, 0])) c (tI [1, 1])) a = some (tI [0, 1]) := same_upd nc _ _ (same_upd nb _ _ upd_same)
  have eb : (upd (upd (upd H a (tI [0, 1])) b (tI [1, 0])) c (tI [1, 1])) b = some (tI [1, 0]) := same_upd nc _ _ upd_same
  refine ⟨_, rfl, t, rfl, ⟨_, SqT.of (s3 _ _ hT)⟩, for_tup (xs := ws.map V.int) (fun i σ H' => ∃ (lo hi pl : Addr) (x1 y1 x2 y2 : Int) (z4 : Option V), σ = [some (.ref t), some (.ref lo), some (.ref hi), some (.ref pl), z4] ∧ Same H H' ∧ H' lo = some (tI [x1, y1]) ∧ H' hi = some (tI [x2, y2]) ∧ H' pl = some (tI [x1 + x2, y1 + y2]) ∧ H pl = none ∧
      (bw ws).1 = x1 * (bw (ws.drop i)).2 + x2 * (bw (ws.drop i)).1 ∧ (bw ws).2 = y1 * (bw (ws.drop i)).2 + y2 * (bw (ws.drop i)).1)
    ⟨a, b, c, 0, 1, 1, 0, none, rfl, s3, ea, eb, upd_same, s2.free nc, by rw [List.drop_zero]; omega, by rw [List.drop_zero]; omega⟩ (fun i σ H' _ h => ?_) (fun i x σ H' hx h => ?_) (fun σ H' h => ?_)⟩
  · obtain ⟨_, _, _, _, _, _, _, _, _, s4, _⟩ := h
    exact SqT.of (s4 _ _ hT)
  · obtain ⟨lo, hi, pl, x1, y1, x2, y2, z4, rfl, s4, e1, e2, e3, np, h1, h2⟩ := h
    obtain ⟨z, hz, rfl⟩ := map_get hx
    have hd : ws.drop i = z :: ws.drop (i + 1) := by
      obtain ⟨hl, e⟩ := List.getElem?_eq_some_iff.mp hz
      rw [List.drop_eq_getElem_cons hl, e]
    rw [hd] at h1 h2
    have hs := bw_step h1 h2
    refine ⟨_, rfl, rfl, _, rfl, ite2 (fun c => ?_) (fun c => ?_)⟩
    · have c' : z = 0 := V.int.inj (of_decide_eq_true c)
      rw [if_pos c'] at hs
      refine ⟨_, rfl, _, rfl, _, rfl, lo, pl, x1, y1, x1 + x2, y1 + y2, rfl, e1, e3, fun p2 np2 => ?_⟩
      exact ⟨lo, pl, p2, x1, y1, x1 + x2, y1 + y2, _, rfl, same_updO s4 (s4.free np2), same_upd np2 _ _ e1, same_upd np2 _ _ e3, upd_same, s4.free np2, hs.1, hs.2⟩
    · have c' : z ≠ 0 := fun z => c (decide_eq_true (congrArg V.int z))
      rw [if_neg c'] at hs
      refine ⟨_, rfl, _, rfl, _, rfl, pl, hi, x1 + x2, y1 + y2, x2, y2, rfl, e3, e2, fun p2 np2 => ?_⟩
      exact ⟨pl, hi, p2, x1 + x2, y1 + y2, x2, y2, _, rfl, same_updO s4 (s4.free np2), same_upd np2 _ _ e3, same_upd np2 _ _ e2, upd_same, s4.free np2, hs.1, hs.2⟩
  · obtain ⟨lo, hi, pl, x1, y1, x2, y2, z4, rfl, s4, e1, e2, e3, np, h1, h2⟩ := h
    rw [List.length_map, List.drop_length] at h1 h2
    have h1' : (bw ws).1 = x1 + x2 := by
      rw [h1]
      show x1 * 1 + x2 * 1 = _
      omega
    have h2' : (bw ws).2 = y1 + y2 := by
      rw [h2]
      show y1 * 1 + y2 * 1 = _
      omega
    exact ⟨_, rfl, q _ pl s4 np (by rw [e3, h1', h2'])⟩
end
section
variable {P : Program} {w : World} {K : PySem.W.Frag} {mg : Str → Option Value} {base : Heap}
theorem ok_row_of (D : Df K mg "row_of" p_row_of s_row_of) (B : Bl mg) : Cal P w K mg base CX0 1 "row_of" p_row_of sp_row_of := D.cal fun f fd F => by
  refine F.ok sc_row_of (fun vs H Q E h => ?_) (fun cdv A outer s H vs Q E hr h => ?_)
  · obtain ⟨t, u, l, rfl, _⟩ := h
    rfl
  obtain ⟨t, u, l, rfl, hT, hl0, hbig, hlen, q⟩ := h
  refine ⟨_, pss_cons (ps_asg (pv 0) (pg_tup (by rfl) (pgs_cons (pg_name (i := 1) sc_row_of.nd rfl (.inl rfl)) (pgs_cons (pg_name (i := 2) sc_row_of.nd rfl (.inl rfl)) pgs_nil))))
    <| pss_cons (ps_set (i := 3) sc_row_of.nd rfl (.inl rfl) (pe_lst pa_nil))
    <| pss_cons (ps_while PassesOwn.never (pt_cmpR op_gt (pv 2) pe_int (nomark _))
        (pss_cons (ps_expr (pe_bm PySem.F.plainAttrs_list PySem.F.slot_list_append PySem.F.type_list_append mt_append (pv 3) (pa_cons (pe_op op_fdivW (pv 1) (pv 2)) pa_nil)))
          (pss_one (ps_par (i := 1) (j := 2) (by rfl) sc_row_of.nd rfl rfl (by decide) rfl rfl (pa_cons (pv 2) (pa_cons (pe_op op_mod (pv 1) (pv 2)) pa_nil)) (by rfl)))))
    <| pss_one (ps_ret (pe_callTy call_tuple_of (by rfl) B.tuple (by decide +kernel) (pa_cons (pv 3) pa_nil))), ?_⟩
  refine ⟨_, rfl, t, _, rfl, SqT.of hT, rfl, _, _, rfl, _, _, rfl, rfl, Nat.zero_le _, fun o no => ?_⟩
  refine ⟨fun m σ H' => ∃ (x y : Int) (acc : List Int), σ = [some (.ref t), some (.int x), some (.int y), some (.ref o)] ∧ 0 ≤ y ∧ y ≤ l ∧ acc ++ row x y = row u l ∧ Same H H' ∧ H' o = some (lI acc) ∧ m = y.toNat,
    ⟨_, u, l, [], rfl, by omega, Int.le_refl l, rfl, same_upd no, upd_same, rfl⟩, ?_⟩
  rintro m σ H' ⟨x, y, acc, rfl, hy, hyl, hacc, s1, e1, rfl⟩
  have hal : acc.length ≤ 1000000 := by
    have := congrArg List.length hacc
    rw [List.length_append] at this
    omega
  have app : ∀ z : Int, acc.map V.int ++ [.int z] = (acc ++ [z]).map V.int := fun z => by rw [List.map_append] <;> rfl
  refine ⟨_, rfl, _, _, rfl, rfl, _, rfl, ite2 (fun c2 => ?_) (fun c2 => ?_)⟩
  · have c' : 0 < y := of_decide_eq_true c2
    have h1 := Int.emod_nonneg x (show y ≠ 0 by omega)
    have h2 := Int.emod_lt_of_pos x c'
    have hb : 0 < y ∧ y.natAbs.log2 < 9000 := ⟨c', Nat.lt_of_lt_of_le (big_le (x := y) (y := l) (by omega) hbig).log (by decide : 4000 ≤ 9000)⟩
    refine ⟨fun σ' H2 => σ' = [some (.ref t), some (.int y), some (.int (x % y)), some (.ref o)] ∧ Same H H2 ∧ H2 o = some (lI (acc ++ [x / y])), ?_, ?_⟩
    · rintro σ' H2 ⟨rfl, h5, h6⟩
      exact ⟨(x % y).toNat, by omega, y, x % y, acc ++ [x / y], rfl, h1, by omega, by rw [← hacc, row_cons c', List.append_assoc] <;> rfl, h5, h6, rfl⟩
    refine ⟨_, rfl, .inl ⟨rfl, _, SqL.of e1⟩, _, rfl, _, rfl, _, _, rfl, rfl, hb, o, _, _, rfl, rfl, e1, by rw [List.length_map]; exact small_of (by omega), ?_⟩
    rw [app]
    exact ⟨_, rfl, _, rfl, _, rfl, _, _, rfl, rfl, c', _, _, rfl, rfl, same_updO s1 no, upd_same⟩
  · have c' : ¬ 0 < y := of_decide_eq_false (Bool.eq_false_iff.mpr c2)
    rw [row_zero c', List.append_nil] at hacc
    subst hacc
    exact ⟨_, rfl, o, _, rfl, .inl ⟨SqL.of e1, fun p np => q _ p (same_updO s1 (s1.free np)) (s1.free np) upd_same⟩⟩
end
section
variable {P : Program} {w : World} {K : PySem.W.Frag} {mg : Str → Option Value} {base : Heap}
theorem ok__law_divisor (D : Df K mg "_law_divisor" p__law_divisor s__law_divisor) (B : Bl mg) : Cal P w K mg base CX0 1 "_law_divisor" p__law_divisor sp_divisor := D.cal fun f fd F => by
  refine F.ok sc__law_divisor (fun vs H Q E h => ?_) (fun cdv A outer s H vs Q E hr h => ?_)
  · obtain ⟨a, b, rfl, _⟩ := h
    rfl
  obtain ⟨a, b, rfl, q⟩ := h
  refine ⟨_, pss_cons (ps_set (i := 0) sc__law_divisor.nd rfl (.inl rfl) (pe_callB call_abs (by rfl) B.abs (by decide +kernel) (pa_cons (pv 0) pa_nil)))
    (pss_cons (ps_set (i := 1) sc__law_divisor.nd rfl (.inl rfl) (pe_callB call_abs (by rfl) B.abs (by decide +kernel) (pa_cons (pv 1) pa_nil)))
    (pss_cons (ps_while PassesOwn.never (pt_cmpR op_gt (pv 1) pe_int (nomark _)) (pss_one (ps_par (i := 0) (j := 1) (by rfl) sc__law_divisor.nd rfl rfl (by decide) rfl rfl (pa_cons (pv 1) (pa_cons (pe_op op_mod (pv 0) (pv 1)) pa_nil)) (by rfl))))
    (pss_one (ps_ret (pv 0))))), ?_⟩
  refine ⟨_, rfl, a, rfl, _, rfl, b, rfl, ?_⟩
  refine ⟨fun m σ H' => ∃ x y : Int, σ = [some (.int x), some (.int y)] ∧ 0 ≤ x ∧ 0 ≤ y ∧ Int.gcd x y = Int.gcd a b ∧ H' = H ∧ m = y.toNat, ⟨_, _, _, rfl, by split <;> omega, by split <;> omega, gcd_abs a b, rfl, rfl⟩, ?_⟩
  rintro m σ H' ⟨x, y, rfl, hx, hy, hg, rfl, rfl⟩
  refine ⟨_, rfl, _, _, rfl, rfl, _, rfl, ite2 (fun c => ?_) (fun c => ?_)⟩
  · have c' : 0 < y := of_decide_eq_true c
    have h1 := Int.emod_nonneg x (show y ≠ 0 by omega)
    have h2 := Int.emod_lt_of_pos x c'
    refine ⟨fun σ' H2 => σ' = [some (.int y), some (.int (x % y))] ∧ H2 = H', fun σ' H2 ⟨e1, e2⟩ => ⟨(x % y).toNat, by omega, y, x % y, e1, hy, h1, by rw [gcd_step hx c', hg], e2, rfl⟩, ?_⟩
    exact ⟨_, rfl, _, rfl, _, rfl, _, _, rfl, rfl, c', _, _, rfl, rfl, rfl⟩
  · have c' : ¬ 0 < y := of_decide_eq_false (Bool.eq_false_iff.mpr c)
    refine ⟨_, rfl, ?_⟩
    have e : x = dv a b := by
      rw [gcd_end hx c' hy, hg]
      rfl
    rw [e]
    exact q
end
section
variable {P : Program} {w : World} {K : PySem.W.Frag} {mg : Str → Option Value} {base : Heap}
theorem ok__law_lowest (D : Df K mg "_law_lowest" p__law_lowest s__law_lowest) (C_div : Cal P w K mg base CX0 1 "_law_divisor" p__law_divisor sp_divisor) : Cal P w K mg base CX0 2 "_law_lowest" p__law_lowest sp_lowH := D.cal fun f fd F => by
  refine F.ok sc__law_lowest (fun vs H Q E h => ?_) (fun cdv A outer s H vs Q E hr h => ?_)
  · obtain ⟨a, b, rfl, _⟩ := h
    rfl
  obtain ⟨u, l, rfl, h0, hu, hl, q⟩ := h
  refine ⟨_, pss_cons (ps_set (i := 2) sc__law_lowest.nd rfl (.inl rfl) (pe_cal C_div hr (by decide) (by rfl) pass0 (pa_cons (pv 0) (pa_cons (pv 1) pa_nil))))
    (pss_cons (ps_if (pt_cmpR op_lt (pv 1) pe_int (nomark _)) (pss_one (ps_set (i := 2) sc__law_lowest.nd rfl (.inl rfl) (pe_op op_sub pe_int (pv 2)))) pss_nil)
    (pss_one (ps_ret (pe_tup (pa_cons (pe_op op_fdivWN (pv 0) (pv 2)) (pa_cons (pe_op op_fdivWN (pv 1) (pv 2)) pa_nil)))))), ?_⟩
  have hg := dv_pos_right (a := u) h0
  have hb : dv u l ≠ 0 ∧ (dv u l).natAbs.log2 < 9000 := by
    refine ⟨by omega, Nat.lt_of_lt_of_le (PySem.Flt.log2_lt_of (by decide) (Nat.lt_of_le_of_lt ?_ hl.lt)) (by decide : 4000 ≤ 9000)⟩
    obtain ⟨k, hk⟩ := dv_dvd_right u l
    conv => rhs; rw [hk]
    rw [Int.natAbs_mul]
    refine Nat.le_mul_of_pos_right _ ?_
    have : k ≠ 0 := fun z => by
      rw [z, Int.mul_zero] at hk
      exact h0 hk
    omega
  refine ⟨_, rfl, _, rfl, u, l, rfl, _, rfl, _, _, rfl, rfl, _, rfl, ite2 (fun c => ?_) (fun c => ?_)⟩
  · have c' : l < 0 := of_decide_eq_true c
    have e0 : (0 : Int) - dv u l = -dv u l := by omega
    have hb' : (0 - dv u l) ≠ 0 ∧ (0 - dv u l).natAbs.log2 < 9000 := by
      rw [e0, Int.natAbs_neg]
      exact ⟨by omega, hb.2⟩
    refine ⟨_, rfl, _, _, rfl, rfl, _, rfl, _, rfl, _, _, rfl, rfl, hb', _, rfl, _, rfl, _, _, rfl, rfl, hb', len2, fun p np => ?_⟩
    have := q p np
    unfold low at this
    rw [if_pos c', neg_ediv_dvd (dv_dvd_left u l), neg_ediv_dvd (dv_dvd_right u l), ← fdiv_neg_dvd (dv_dvd_left u l) hb.1, ← fdiv_neg_dvd (dv_dvd_right u l) hb.1, ← e0] at this
    exact this
  · have c' : ¬ l < 0 := of_decide_eq_false (Bool.eq_false_iff.mpr c)
    refine ⟨_, rfl, _, rfl, _, _, rfl, rfl, hb, _, rfl, _, rfl, _, _, rfl, rfl, hb, len2, fun p np => ?_⟩
    have := q p np
    unfold low at this
    rw [if_neg c', ← Int.fdiv_eq_ediv_of_nonneg u (by omega), ← Int.fdiv_eq_ediv_of_nonneg l (by omega)] at this
    exact this
end
section
variable {P : Program} {w : World} {K : PySem.W.Frag} {mg : Str → Option Value} {base : Heap}
theorem ok__law_cell (D : Df K mg "_law_cell" p__law_cell s__law_cell) (B : Bl mg) : Cal P w K mg base CX0 1 "_law_cell" p__law_cell (sp_cell K) := D.cal fun f fd F => by
  refine F.ok sc__law_cell (fun vs H Q E h => ?_) (fun cdv A outer s H vs Q E hr h => ?_)
  · obtain ⟨a, ns, k, rfl, _⟩ := h
    rfl
  obtain ⟨a, ns, k, rfl, hS, hk, q⟩ := h
  refine ⟨_, pss_cons (ps_if (pt_cmpR op_lt (pv 1) (pe_callB call_len_seq (by rfl) B.len PySem.boot_len (pa_cons (pv 0) pa_nil)) (nomark _)) (pss_one (ps_ret (pe_ix ix_list (pv 0) (pv 1) (fun _ _ => rfl)))) pss_nil)
    (pss_one (ps_ret pe_int)), ?_⟩
  refine ⟨_, rfl, _, rfl, a, _, rfl, .inl hS, _, _, rfl, rfl, _, rfl, ite2 (fun c => ?_) (fun c => ?_)⟩
  · have c' : (k : Int) < (((ns.map V.int).length : Nat) : Int) := of_decide_eq_true c
    rw [List.length_map] at c'
    have hl : k < ns.length := by omega
    refine ⟨_, rfl, _, rfl, a, _, _, _, rfl, rfl, hS, atI_nat (j := k) (v := .int (cellOf ns k)) ?_, q⟩
    rw [List.getElem?_map, List.getElem?_eq_getElem hl]
    show some (V.int ns[k]) = some (V.int (ns.getD k 0))
    rw [List.getD_eq_getElem?_getD, List.getElem?_eq_getElem hl]
    rfl
  · have c' : ¬ (k : Int) < (((ns.map V.int).length : Nat) : Int) := of_decide_eq_false (Bool.eq_false_iff.mpr c)
    rw [List.length_map] at c'
    have e : cellOf ns k = 0 := by
      unfold cellOf
      rw [List.getD_eq_getElem?_getD, List.getElem?_eq_none (by omega)]
      rfl
    rw [e] at q
    exact q
end
section
variable {P : Program} {w : World} {K : PySem.W.Frag} {mg : Str → Option Value} {base : Heap}
theorem ok__law_whole (D : Df K mg "_law_whole" p__law_whole s__law_whole) (B : Bl mg) : Cal P w K mg base CX0 1 "_law_whole" p__law_whole sp_whole := D.cal fun f fd F => by
  refine F.ok sc__law_whole (fun vs H Q E h => ?_) (fun cdv A outer s H vs Q E hr h => ?_)
  · obtain ⟨z, rfl, _⟩ := h
    rfl
  obtain ⟨z, rfl, q⟩ := h
  refine ⟨_, pss_one (ps_ret (pe_and (pe_callB call_isi (by rfl) B.isinstance PyProof.Rows.boot_isinstance (pa_cons (pv 0) (pa_cons (pe_bltn (v := .ty "int") (by rfl) B.int (by decide +kernel) rfl) pa_nil)))
    (pe_one (pe_not (pe_callB call_isi (by rfl) B.isinstance PyProof.Rows.boot_isinstance (pa_cons (pv 0) (pa_cons (pe_bltn (v := .ty "bool") (by rfl) B.bool (by decide +kernel) rfl) pa_nil))))))), ?_⟩
  refine ⟨_, rfl, .int z, .ty "int", _, _, true, rfl, .ty "int", .base (.int z), isT_self, true, rfl, iteT ?_⟩
  exact ⟨_, rfl, .int z, .ty "bool", _, _, false, rfl, .ty "bool", .base (.int z), kit_ty (by decide +kernel), false, rfl, q⟩
end
section
variable {P : Program} {w : World} {K : PySem.W.Frag} {mg : Str → Option Value} {base : Heap}
theorem ok__law_walked (D : Df K mg "_law_walked" p__law_walked s__law_walked) : Cal P w K mg base CX0 2 "_law_walked" p__law_walked sp_walked := D.cal fun f fd F => by
  refine F.ok sc__law_walked (fun vs H Q E h => ?_) (fun cdv A outer s H vs Q E hr h => ?_)
  · obtain ⟨t, ws, rfl, _⟩ := h
    rfl
  obtain ⟨t, ws, rfl, hT, h01, q⟩ := h
  refine ⟨_, pss_cons (ps_set (i := 1) sc__law_walked.nd rfl (.inl rfl) (pe_tup (pa_cons pe_int (pa_cons pe_int pa_nil))))
    <| pss_cons (ps_set (i := 2) sc__law_walked.nd rfl (.inl rfl) (pe_tup (pa_cons pe_int (pa_cons pe_int pa_nil))))
    <| pss_cons (ps_set (i := 3) sc__law_walked.nd rfl (.inl rfl) (pe_tup (pa_cons pe_int (pa_cons pe_int pa_nil))))
    <| pss_cons (ps_for PassesOwn.never rfl (pi_tup (pv 0)) (pg_name (i := 4) sc__law_walked.nd rfl (.inl rfl))
      (pss_cons (ps_if (pt_cmpR op_eq (pv 4) pe_int (nomark _)) (pss_one (ps_set (i := 1) sc__law_walked.nd rfl (.inl rfl) (pv 3))) (pss_one (ps_set (i := 2) sc__law_walked.nd rfl (.inl rfl) (pv 3))))
        (pss_one (ps_set (i := 3) sc__law_walked.nd rfl (.inl rfl) (pe_tup (pa_cons (pe_op op_add (pe_ix ix_tup (pv 1) pe_int (fun _ _ => rfl)) (pe_ix ix_tup (pv 2) pe_int (fun _ _ => rfl)))
    (pa_cons (pe_op op_add (pe_ix ix_tup (pv 1) pe_int (fun _ _ => rfl)) (pe_ix ix_tup (pv 2) pe_int (fun _ _ => rfl))) pa_nil)))))))
    <| pss_one (ps_ret (pv 3)), ?_⟩
  refine ⟨len2, fun a na => ⟨len2, fun b nb => ⟨len2, fun c nc => ?_⟩⟩⟩
  have s1 : Same H (upd H a (tI [0, 1])) := same_upd na
  have s2 : Same H (upd (upd H a (tI [0, 1])) b (tI [1, 0])) := s1.trans (same_upd nb)
  have s3 : Same H (upd (upd (upd H a (tI [0, 1])) b (tI [1, 0])) c (tI [1, 1])) := s2.trans (same_upd nc)
  have ea : (upd (upd (upd H a (tI [0, 1])) b (tI [1, 0])) c (tI [1, 1])) a = some (tI [0, 1]) := same_upd nc _ _ (same_upd nb _ _ upd_same)
  have eb : (upd (upd (upd H a (tI [0, 1])) b (tI [1, 0])) c (tI [1, 1])) b = some (tI [1, 0]) := same_upd nc _ _ upd_same
  refine ⟨_, rfl, t, rfl, ⟨_, SqT.of (s3 _ _ hT)⟩, for_tup (xs := ws.map V.int) (fun i σ H' => ∃ (lo hi pl : Addr) (x1 y1 x2 y2 : Int) (z4 : Option V), σ = [some (.ref t), some (.ref lo), some (.ref hi), some (.ref pl), z4] ∧ Same H H' ∧ H' lo = some (tI [x1, y1]) ∧ H' hi = some (tI [x2, y2]) ∧ H' pl = some (tI [x1 + x2, y1 + y2]) ∧ H pl = none ∧
      (bw ws).1 = x1 * (bw (ws.drop i)).2 + x2 * (bw (ws.drop i)).1 ∧ (bw ws).2 = y1 * (bw (ws.drop i)).2 + y2 * (bw (ws.drop i)).1)
    ⟨a, b, c, 0, 1, 1, 0, none, rfl, s3, ea, eb, upd_same, s2.free nc, by rw [List.drop_zero]; omega, by rw [List.drop_zero]; omega⟩ (fun i σ H' _ h => ?_) (fun i x σ H' hx h => ?_) (fun σ H' h => ?_)⟩
  · obtain ⟨_, _, _, _, _, _, _, _, _, s4, _⟩ := h
    exact SqT.of (s4 _ _ hT)
  · obtain ⟨lo, hi, pl, x1, y1, x2, y2, z4, rfl, s4, e1, e2, e3, np, h1, h2⟩ := h
    obtain ⟨z, hz, rfl⟩ := map_get hx
    have hd : ws.drop i = z :: ws.drop (i + 1) := by
      obtain ⟨hl, e⟩ := List.getElem?_eq_some_iff.mp hz
      rw [List.drop_eq_getElem_cons hl, e]
    rw [hd] at h1 h2
    have hs := bw_step h1 h2
    refine ⟨_, rfl, rfl, _, rfl, ite2 (fun c => ?_) (fun c => ?_)⟩
    · have c' : z = 1 := V.int.inj (of_decide_eq_true c)
      rw [if_neg (by omega)] at hs
      refine ⟨_, rfl, _, rfl, pl, _, 0, .int (x1 + x2), rfl, rfl, SqT.of e3, atI_nat (j := 0) rfl, _, rfl, hi, _, 0, .int x2, rfl, rfl, SqT.of e2, atI_nat (j := 0) rfl, _, _, rfl, rfl, ?_⟩
      refine ⟨_, rfl, pl, _, 1, .int (y1 + y2), rfl, rfl, SqT.of e3, atI_nat (j := 1) rfl, _, rfl, hi, _, 1, .int y2, rfl, rfl, SqT.of e2, atI_nat (j := 1) rfl, _, _, rfl, rfl, len2, fun p2 np2 => ?_⟩
      exact ⟨pl, hi, p2, x1 + x2, y1 + y2, x2, y2, _, rfl, same_updO s4 (s4.free np2), same_upd np2 _ _ e3, same_upd np2 _ _ e2, upd_same, s4.free np2, hs.1, hs.2⟩
    · have c' : z ≠ 1 := fun z => c (decide_eq_true (congrArg V.int z))
      have c2 : z = 0 := by
        rcases h01 z (List.mem_of_getElem? hz) with e | e
        · exact e
        · exact absurd e c'
      rw [if_pos c2] at hs
      refine ⟨_, rfl, _, rfl, lo, _, 0, .int x1, rfl, rfl, SqT.of e1, atI_nat (j := 0) rfl, _, rfl, pl, _, 0, .int (x1 + x2), rfl, rfl, SqT.of e3, atI_nat (j := 0) rfl, _, _, rfl, rfl, ?_⟩
      refine ⟨_, rfl, lo, _, 1, .int y1, rfl, rfl, SqT.of e1, atI_nat (j := 1) rfl, _, rfl, pl, _, 1, .int (y1 + y2), rfl, rfl, SqT.of e3, atI_nat (j := 1) rfl, _, _, rfl, rfl, len2, fun p2 np2 => ?_⟩
      exact ⟨lo, pl, p2, x1, y1, x1 + x2, y1 + y2, _, rfl, same_updO s4 (s4.free np2), same_upd np2 _ _ e1, same_upd np2 _ _ e3, upd_same, s4.free np2, hs.1, hs.2⟩
  · obtain ⟨lo, hi, pl, x1, y1, x2, y2, z4, rfl, s4, e1, e2, e3, np, h1, h2⟩ := h
    rw [List.length_map, List.drop_length] at h1 h2
    have h1' : (bw ws).1 = x1 + x2 := by
      rw [h1]
      show x1 * 1 + x2 * 1 = _
      omega
    have h2' : (bw ws).2 = y1 + y2 := by
      rw [h2]
      show y1 * 1 + y2 * 1 = _
      omega
    exact ⟨_, rfl, q _ pl s4 np (by rw [e3, h1', h2'])⟩
end
/-! ### the law: ways down the tree -/
section
variable {P : Program} {w : World} {K : PySem.W.Frag} {mg : Str → Option Value} {base : Heap} {C R : Addr}
theorem ok_law {f : Addr} {fd : FuncData} (F : Fun K "law" "law" s_law f fd) (B : Bl mg) (Cc : Cal P w K mg base CX0 1 "_law_cell" p__law_cell (sp_cell K)) (Cl : Cal P w K mg base CX0 2 "_law_lowest" p__law_lowest sp_lowH)
    (Cw : Cal P w K mg base (L2.CX P w) 1 "way_to" p_way_to (sp_way_to C)) (Ch : Cal P w K mg base CX0 1 "_law_whole" p__law_whole sp_whole) (Ck : Cal P w K mg base CX0 2 "_law_walked" p__law_walked sp_walked) (Ca : Cal P w K mg base CX0 2 "fraction_at" p_fraction_at sp_walked)
    (Cr : Cal P w K mg base CX0 1 "row_of" p_row_of sp_row_of) : FnOk P w K mg base CX0 40 f fd ["_law_script"] (sp_law K) := by
  refine F.ok sc_law (fun vs H Q E h => ?_) (fun cdv A outer s H vs Q E hr h => ?_)
  · obtain ⟨a, ns, rfl, _⟩ := h
    rfl
  obtain ⟨a, ns, rfl, hS, h63, q⟩ := h
  refine ⟨_, pss_cons (ps_set (i := 1) sc_law.nd rfl (.inl rfl) (pe_op op_add pe_int (pe_op op_mod (pe_cal Cc hr (by decide) (by rfl) pass0 (pa_cons (pv 0) (pa_cons pe_int pa_nil))) pe_int)))
    <| pss_cons (ps_set (i := 2) sc_law.nd rfl (.inl rfl) (pe_cal Cl hr (by decide) (by rfl) pass0 (pa_cons (pv 1) (pa_cons (pe_op op_add pe_int (pe_op op_mod (pe_cal Cc hr (by decide) (by rfl) pass0 (pa_cons (pv 0) (pa_cons pe_int pa_nil))) pe_int)) pa_nil))))
    <| pss_cons (ps_set (i := 3) sc_law.nd rfl (.inl rfl) (pe_cal Cw hr (by decide) (by rfl) passL (pa_cons (pv 2) pa_nil)))
    <| pss_cons (ps_if (PW.pt (pw_or (pt_not (pt_val (pe_callB call_isi (by rfl) B.isinstance PyProof.Rows.boot_isinstance (pa_cons (pv 3) (pa_cons (pe_bltn (v := .ty "tuple") (by rfl) B.tuple (by decide +kernel) rfl) pa_nil)))))
        (pw_or1 (pt_not (pt_val (pe_callB (cr_all rfl) (by rfl) B.all (by decide +kernel) (pa_cons
          (pe_lc (own := [("_law_one", 6)]) (g := gName 6) (tt := tYes) rfl sc_law.nd (pi_tup (pv 3)) (blkOk_by (N := n_law) (sc := defScope s_law) (by decide +kernel))
            (fun _ _ _ _ _ => pg_name (i := 6) sc_law.nd rfl (Or.inl rfl)) (fun _ _ _ _ _ => pts_nil) (fun _ _ _ _ _ => pe_and (pe_cal Ch hr (by decide) (by rfl) pass0 (pa_cons (pv 6) pa_nil)) (pe_one (pe_cmpR (op_inK K) (pv 6) (pe_tup (pa_cons pe_int (pa_cons pe_int pa_nil))) (by rfl))))) pa_nil)))))))
      (pss_one (ps_ret pe_bl)) pss_nil)
    <| pss_cons (ps_if (PW.pt (pw_or (pt_cmpR (op_neT hr) (pe_cal Ck hr (by decide) (by rfl) pass0 (pa_cons (pv 3) pa_nil)) (pv 2) (nomark _)) (pw_or1 (pt_cmpR (op_neT hr) (pe_cal Ca hr (by decide) (by rfl) pass0 (pa_cons (pv 3) pa_nil)) (pv 2) (nomark _)))))
      (pss_one (ps_ret pe_bl)) pss_nil)
    <| pss_cons (ps_if (pt_cmpR op_ne (pe_callB call_len_seq (by rfl) B.len PySem.boot_len (pa_cons (pv 3) pa_nil)) (pe_op op_sub (pe_callB (cr_sumT rfl) (by rfl) B.sum (by decide +kernel) (pa_cons (pe_cal Cr hr (by decide) (by rfl) pass0 (pa_cons (pv 2) pa_nil)) pa_nil)) pe_int) (nomark _))
      (pss_one (ps_ret pe_bl)) pss_nil)
    <| pss_cons (ps_set (i := 4) sc_law.nd rfl (.inl rfl) (pe_callTy call_tuple_of (by rfl) B.tuple (by decide +kernel) (pa_cons
          (pe_lc (own := [("_law_cell_here", 7)]) (g := gName 7) (tt := tYes) rfl sc_law.nd (pi_list (pe_slice sl_list (pv 0) (po_some pe_int) (po_some pe_int))) (blkOk_by (N := n_law) (sc := defScope s_law) (by decide +kernel))
            (fun _ _ _ _ _ => pg_name (i := 7) sc_law.nd rfl (Or.inl rfl)) (fun _ _ _ _ _ => pts_nil) (fun _ _ _ _ _ => pe_op op_mod (pv 7) pe_int)) pa_nil)))
    <| pss_cons (ps_set (i := 5) sc_law.nd rfl (.inl rfl) (pe_cal Ca hr (by decide) (by rfl) pass0 (pa_cons (pv 4) pa_nil)))
    <| pss_cons (ps_if (PW.pt (pw_or (pt_not (pt_val (pe_callB call_isi (by rfl) B.isinstance PyProof.Rows.boot_isinstance (pa_cons (pv 5) (pa_cons (pe_bltn (v := .ty "tuple") (by rfl) B.tuple (by decide +kernel) rfl) pa_nil)))))
        (pw_or (pt_cmpR (op_neT hr) (pv 5) (pe_cal Ck hr (by decide) (by rfl) pass0 (pa_cons (pv 4) pa_nil)) (nomark _))
        (pw_or1 (pt_cmpR (op_neT hr) (pe_cal Cl hr (by decide) (by rfl) pass0 (pa_cons (pe_ix ix_tup (pv 5) pe_int (fun _ _ => rfl)) (pa_cons (pe_ix ix_tup (pv 5) pe_int (fun _ _ => rfl)) pa_nil))) (pv 5) (nomark _))))))
      (pss_one (ps_ret pe_bl)) pss_nil)
    <| pss_one (ps_ret (pe_cmpR (op_eqT hr) (pe_cal Cw hr (by decide) (by rfl) passL (pa_cons (pv 5) pa_nil)) (pv 4) (nomark _))), ?_⟩
  have m60 : ∀ z : Int, 0 ≤ z % 60 ∧ z % 60 < 60 := fun z => ⟨Int.emod_nonneg _ (by decide), Int.emod_lt_of_pos _ (by decide)⟩
  have a0 := m60 (cellOf ns 0)
  have a1 := m60 (cellOf ns 1)
  have e60 : (2 : Nat) ^ 60 = 1152921504606846976 := by decide
  refine ⟨_, rfl, a, ns, 0, rfl, hS, by decide, _, _, rfl, rfl, (by show (0 : Int) < 60; decide), _, _, rfl, rfl, ?_⟩
  refine ⟨_, rfl, _, rfl, a, ns, 1, rfl, hS, by decide, _, _, rfl, rfl, (by show (0 : Int) < 60; decide), _, _, rfl, rfl, _, _, rfl, by omega, big_of (by omega), big_of (by omega), fun fr nfr => ?_⟩
  have hlow := low_is (u := 1 + cellOf ns 0 % 60) (l := 1 + cellOf ns 1 % 60) (by omega)
  have habs := low_abs (u := 1 + cellOf ns 0 % 60) (l := 1 + cellOf ns 1 % 60) (by omega)
  have hlowpos : 1 ≤ (low (1 + cellOf ns 0 % 60) (1 + cellOf ns 1 % 60)).1 := by
    have h3 := hlow.cross
    have h2 := hlow.pos
    by_cases z : 1 ≤ (low (1 + cellOf ns 0 % 60) (1 + cellOf ns 1 % 60)).1
    · exact z
    · exfalso
      have p1 : 0 < (1 + cellOf ns 0 % 60) * (low (1 + cellOf ns 0 % 60) (1 + cellOf ns 1 % 60)).2 := Int.mul_pos (by omega) h2
      have p2 : (low (1 + cellOf ns 0 % 60) (1 + cellOf ns 1 % 60)).1 * (1 + cellOf ns 1 % 60) ≤ 0 := Int.mul_nonpos_of_nonpos_of_nonneg (by omega) (by omega)
      omega
  have hp := hlow.pos
  have ho := hlow.one
  generalize hpq : low (1 + cellOf ns 0 % 60) (1 + cellOf ns 1 % 60) = pq at *
  obtain ⟨p, l⟩ := pq
  have hp' : 0 < l := hp
  have ho' : dv p l = 1 := ho
  have h1' : 1 ≤ p := hlowpos
  have hb1 : p.natAbs ≤ 60 := by
    have := habs.1
    show p.natAbs ≤ 60
    have e : (p, l).1 = p := rfl
    omega
  have hb2 : l.natAbs ≤ 60 := by
    have := habs.2
    have e : (p, l).2 = l := rfl
    omega
  have s1 : Same H (upd H fr (tI [p, l])) := same_upd nfr
  -- way_to
  refine ⟨_, rfl, fr, p, l, rfl, upd_same, fun z => by omega, fun _ => ⟨by omega, by have := way_len (u := p) (l := l) (by omega) (by omega); omega, fun H1 wy sw _ ew => ?_⟩⟩
  have efr : H1 fr = some (tI [p, l]) := sw _ _ upd_same
  have s2 : Same H H1 := s1.trans sw
  have wl := way_len (u := p) (l := l) (by omega) (by omega)
  have w01 := way_01 (u := p) (l := l)
  -- isinstance .. all ..
  refine ⟨_, rfl, .ref wy, .ty "tuple", _, _, true, rfl, .ty "tuple", isT_tup ew, isT_self, true, rfl, iteF ?_⟩
  refine ⟨_, rfl, wy, rfl, ⟨_, SqT.of ew⟩, lc_mapT (xs := (way p l).map V.int) (ys := ((way p l).map fun _ => true).map V.bl) (by simp only [List.length_map]) (by rw [List.length_map]; exact small_of (by omega)) ew (fun x => rfl) (fun i x y H2 Q2 hx hy sx q2 => ?_) (fun L H2 sx hL nL => ?_)⟩
  · obtain ⟨n, hn, rfl⟩ := map_get hx
    have ey : y = .bl true := by
      rw [List.getElem?_map, List.getElem?_map, hn] at hy
      exact (Option.some.inj hy).symm
    subst ey
    refine ⟨_, rfl, n, rfl, true, rfl, iteT ?_⟩
    refine ⟨_, rfl, len2, fun t nt => ⟨t, _, rfl, .inr (SqT.of upd_same), rfl, rfl, ?_⟩⟩
    have e1 : inV (.int n) [V.int 0, V.int 1] = true := by
      rw [in01]
      exact decide_eq_true (w01 n (List.mem_of_getElem? hn))
    show Q2 (.bl (inV (.int n) [V.int 0, V.int 1])) _
    rw [e1]
    exact q2 _ (same_upd nt)
  have s3 : Same H H2 := s2.trans sx
  refine ⟨L, _, rfl, .of hL, true, ?_, iteF ?_⟩
  · rw [List.all_map]
    simp
  have efr2 : H2 fr = some (tI [p, l]) := sx _ _ efr
  have ew2 : H2 wy = some (tI (way p l)) := sx _ _ ew
  have hbw : bw (way p l) = (p, l) := bw_way h1' (by omega) ho'
  -- walked, fraction_at
  refine ⟨_, rfl, wy, _, rfl, ew2, w01, fun H3 k3 sk _ ek => ?_⟩
  rw [hbw] at ek
  refine ⟨_, rfl, k3, fr, _, _, rfl, rfl, SqT.of ek, SqT.of (sk _ _ efr2), false, ?_, iteF ?_⟩
  · exact congrArg V.bl (by simp)
  have s4 : Same H H3 := s3.trans sk
  refine ⟨_, rfl, wy, _, rfl, sk _ _ ew2, w01, fun H4 k4 sk4 _ ek4 => ?_⟩
  rw [hbw] at ek4
  have efr4 : H4 fr = some (tI [p, l]) := sk4 _ _ (sk _ _ efr2)
  refine ⟨_, rfl, k4, fr, _, _, rfl, rfl, SqT.of ek4, SqT.of efr4, false, ?_, iteF ?_⟩
  · exact congrArg V.bl (by simp)
  have s5 : Same H H4 := s4.trans sk4
  -- the row's sum
  have hrl := row_len (u := p) (l := l) (by omega)
  refine ⟨_, rfl, wy, _, rfl, .inr (SqT.of (sk4 _ _ (sk _ _ ew2))), _, rfl, fr, p, l, rfl, efr4, hp', big_of (by omega), by omega, fun H5 r5 sr5 _ er5 => ?_⟩
  refine ⟨r5, _, rfl, SqT.of er5, _, _, rfl, rfl, rfl, false, ?_, iteF ?_⟩
  · have e := row_sum h1' (by omega) ho'
    rw [e, List.length_map]
    exact congrArg V.bl (by simp)
  have s6 : Same H H5 := s5.trans sr5
  -- the way of the script
  have hcut : cutV (ns.map V.int) (some 2) (some 42) = ((ns.drop 2).take 40).map V.int := by
    rw [show (2 : Int) = ((2 : Nat) : Int) from rfl, show (42 : Int) = ((42 : Nat) : Int) from rfl, cutV_both (by decide), List.map_take, List.map_drop]
  refine ⟨_, rfl, 2, rfl, 42, rfl, a, _, rfl, s6.seq hS, fun sl nsl => ?_⟩
  rw [hcut]
  generalize hL2 : (ns.drop 2).take 40 = L2
  have hl2 : L2.length ≤ 40 := by
    rw [← hL2, List.length_take]
    omega
  have s7 : Same H (upd H5 sl (lI L2)) := s6.trans (same_upd nsl)
  refine ⟨sl, rfl, ⟨_, SqL.of upd_same⟩, lc_mapL (xs := L2.map V.int) (ys := (L2.map fun c => c % 2).map V.int) (by simp only [List.length_map]) (by rw [List.length_map]; exact small_of (by omega)) (SqL.of upd_same) (fun x => rfl) (fun i x y H6 Q6 hx hy sx6 q6 => ?_) (fun D6 H6 sx6 hD6 nD6 => ?_)⟩
  · obtain ⟨n, hn, rfl⟩ := map_get hx
    have ey : y = .int (n % 2) := by
      rw [List.getElem?_map, List.getElem?_map, hn] at hy
      exact (Option.some.inj hy).symm
    subst ey
    exact ⟨_, rfl, _, _, rfl, rfl, (by show (0 : Int) < 2; decide), q6 _ (Same.refl _)⟩
  have s8 : Same H H6 := s7.trans sx6
  refine ⟨D6, _, rfl, .inl ⟨SqL.of hD6, fun wz nwz => ?_⟩⟩
  have w2 : ∀ s ∈ L2.map fun c => c % 2, s = 0 ∨ s = 1 := fun s hs => by
    obtain ⟨c, _, rfl⟩ := List.mem_map.mp hs
    have := Int.emod_nonneg c (show (2 : Int) ≠ 0 by decide)
    have := Int.emod_lt_of_pos c (show (0 : Int) < 2 by decide)
    show c % 2 = 0 ∨ c % 2 = 1
    omega
  have wl2 : (L2.map fun c => c % 2).length ≤ 40 := by rw [List.length_map]; exact hl2
  generalize (L2.map fun c => c % 2) = W at w2 wl2
  have s9 : Same H (upd H6 wz (tI W)) := s8.trans (same_upd nwz)
  -- told
  refine ⟨_, rfl, wz, W, rfl, upd_same, w2, fun H7 td s7' ntd etd => ?_⟩
  have ewz : H7 wz = some (tI W) := s7' _ _ upd_same
  refine ⟨_, rfl, .ref td, .ty "tuple", _, _, true, rfl, .ty "tuple", isT_tup etd, isT_self, true, rfl, iteF ?_⟩
  refine ⟨_, rfl, _, rfl, wz, W, rfl, ewz, w2, fun H8 tw s8' _ etw => ?_⟩
  refine ⟨td, tw, _, _, rfl, rfl, SqT.of (s8' _ _ etd), SqT.of etw, false, ?_, iteF ?_⟩
  · exact congrArg V.bl (by simp)
  have bpos := bw_pos W
  have blow := bw_low W
  have bbig := bw_big W
  have hB : ∀ z : Int, 1 ≤ z → z ≤ 2 ^ W.length → Big z := fun z h1 h2 => big_of (by
    have : (2 : Nat) ^ W.length ≤ 2 ^ 40 := Nat.pow_le_pow_right (by decide) wl2
    have e40 : (2 : Nat) ^ 40 = 1099511627776 := by decide
    have h3 : ((2 : Int) ^ W.length) = ((2 ^ W.length : Nat) : Int) := by simp
    omega)
  refine ⟨_, rfl, td, _, 0, .int (bw W).1, rfl, rfl, SqT.of (s8' _ _ etd), atI_nat (j := 0) rfl, _, rfl, td, _, 1, .int (bw W).2, rfl, rfl, SqT.of (s8' _ _ etd), atI_nat (j := 1) rfl, (bw W).1, (bw W).2, rfl, by omega, hB _ bpos.1 bbig.1, hB _ bpos.2 bbig.2, fun t9 nt9 => ?_⟩
  rw [low_self (by omega) blow]
  refine ⟨_, rfl, t9, td, _, _, rfl, rfl, SqT.of upd_same, SqT.of (same_upd nt9 _ _ (s8' _ _ etd)), false, ?_, iteF ?_⟩
  · exact congrArg V.bl (by simp)
  -- the end
  refine ⟨_, rfl, td, (bw W).1, (bw W).2, rfl, same_upd nt9 _ _ (s8' _ _ etd), fun z => by omega, fun _ => ⟨by omega, by rw [way_bw W w2]; omega, fun H9 t10 s10 _ e10 => ?_⟩⟩
  refine ⟨_, rfl, t10, wz, _, _, rfl, rfl, SqT.of e10, SqT.of (s10 _ _ (same_upd nt9 _ _ (s8' _ _ ewz))), ?_⟩
  rw [way_bw W w2, decide_eq_true rfl]
  exact q _
end
/-! ### what the top has written -/
theorem all_mk {l : PySem.W.OpenLaw} {w : World} {K : PySem.W.Frag} {h : Heap} {mg : Str → Option Value} {fa : Addr} (X : K.In h) (G : h.Ns mainGlobals mg) (hfa : mg "law" = some (.ref fa))
    {f0 : Addr} {od0 an0 : Option Addr} {sl0 : Array (Option Value)} {oc0 kV0 dc0 pm0 cd0 ct0 : Value}
    {f1 : Addr} {od1 an1 : Option Addr} {sl1 : Array (Option Value)} {oc1 kV1 dc1 pm1 cd1 ct1 : Value}
    {f2 : Addr} {od2 an2 : Option Addr} {sl2 : Array (Option Value)} {oc2 kV2 dc2 pm2 cd2 ct2 : Value}
    {f3 : Addr} {od3 an3 : Option Addr} {sl3 : Array (Option Value)} {oc3 kV3 dc3 pm3 cd3 ct3 : Value}
    {f4 : Addr} {od4 an4 : Option Addr} {sl4 : Array (Option Value)} {oc4 kV4 dc4 pm4 cd4 ct4 : Value}
    {f5 : Addr} {od5 an5 : Option Addr} {sl5 : Array (Option Value)} {oc5 kV5 dc5 pm5 cd5 ct5 : Value}
    {f6 : Addr} {od6 an6 : Option Addr} {sl6 : Array (Option Value)} {oc6 kV6 dc6 pm6 cd6 ct6 : Value}
    {f7 : Addr} {od7 an7 : Option Addr} {sl7 : Array (Option Value)} {oc7 kV7 dc7 pm7 cd7 ct7 : Value}
    {f8 : Addr} {od8 an8 : Option Addr} {sl8 : Array (Option Value)} {oc8 kV8 dc8 pm8 cd8 ct8 : Value}
    {f9 : Addr} {od9 an9 : Option Addr} {sl9 : Array (Option Value)} {oc9 kV9 dc9 pm9 cd9 ct9 : Value}
    {f10 : Addr} {od10 an10 : Option Addr} {sl10 : Array (Option Value)} {oc10 kV10 dc10 pm10 cd10 ct10 : Value}
    {f11 : Addr} {od11 an11 : Option Addr} {sl11 : Array (Option Value)} {oc11 kV11 dc11 pm11 cd11 ct11 : Value}
    {C R : Addr}
    (a0 : PySem.W.nsIn K mainGlobals "middle" = some (some (.ref f0)))
    (l0 : K.lookup f0 = some ⟨oc0, od0, .func (PySem.W.fnOf "middle" "middle" (defArgs s_middle) (defBody s_middle) (defScope s_middle) .none kV0 dc0 pm0 an0 cd0 ct0), sl0⟩)
    (c0 : PySem.W.codeIn K cd0 "middle" = true)
    (k0 : PySem.W.keepIn K (.ref f0) = true)
    (a1 : PySem.W.nsIn K mainGlobals "way_to" = some (some (.ref f1)))
    (l1 : K.lookup f1 = some ⟨oc1, od1, .func (PySem.W.fnOf "way_to" "way_to" (defArgs s_way_to) (defBody s_way_to) (defScope s_way_to) .none kV1 dc1 pm1 an1 cd1 ct1), sl1⟩)
    (c1 : PySem.W.codeIn K cd1 "way_to" = true)
    (k1 : PySem.W.keepIn K (.ref f1) = true)
    (a2 : PySem.W.nsIn K mainGlobals "fraction_at" = some (some (.ref f2)))
    (l2 : K.lookup f2 = some ⟨oc2, od2, .func (PySem.W.fnOf "fraction_at" "fraction_at" (defArgs s_fraction_at) (defBody s_fraction_at) (defScope s_fraction_at) .none kV2 dc2 pm2 an2 cd2 ct2), sl2⟩)
    (c2 : PySem.W.codeIn K cd2 "fraction_at" = true)
    (k2 : PySem.W.keepIn K (.ref f2) = true)
    (a3 : PySem.W.nsIn K mainGlobals "row_of" = some (some (.ref f3)))
    (l3 : K.lookup f3 = some ⟨oc3, od3, .func (PySem.W.fnOf "row_of" "row_of" (defArgs s_row_of) (defBody s_row_of) (defScope s_row_of) .none kV3 dc3 pm3 an3 cd3 ct3), sl3⟩)
    (c3 : PySem.W.codeIn K cd3 "row_of" = true)
    (k3 : PySem.W.keepIn K (.ref f3) = true)
    (a4 : PySem.W.nsIn K mainGlobals "_law_cell" = some (some (.ref f4)))
    (l4 : K.lookup f4 = some ⟨oc4, od4, .func (PySem.W.fnOf "_law_cell" "_law_cell" (defArgs s__law_cell) (defBody s__law_cell) (defScope s__law_cell) .none kV4 dc4 pm4 an4 cd4 ct4), sl4⟩)
    (c4 : PySem.W.codeIn K cd4 "_law_cell" = true)
    (k4 : PySem.W.keepIn K (.ref f4) = true)
    (a5 : PySem.W.nsIn K mainGlobals "_law_mix" = some (some (.ref f5)))
    (l5 : K.lookup f5 = some ⟨oc5, od5, .func (PySem.W.fnOf "_law_mix" "_law_mix" (defArgs s__law_mix) (defBody s__law_mix) (defScope s__law_mix) .none kV5 dc5 pm5 an5 cd5 ct5), sl5⟩)
    (c5 : PySem.W.codeIn K cd5 "_law_mix" = true)
    (k5 : PySem.W.keepIn K (.ref f5) = true)
    (a6 : PySem.W.nsIn K mainGlobals "_law_whole" = some (some (.ref f6)))
    (l6 : K.lookup f6 = some ⟨oc6, od6, .func (PySem.W.fnOf "_law_whole" "_law_whole" (defArgs s__law_whole) (defBody s__law_whole) (defScope s__law_whole) .none kV6 dc6 pm6 an6 cd6 ct6), sl6⟩)
    (c6 : PySem.W.codeIn K cd6 "_law_whole" = true)
    (k6 : PySem.W.keepIn K (.ref f6) = true)
    (a7 : PySem.W.nsIn K mainGlobals "_law_divisor" = some (some (.ref f7)))
    (l7 : K.lookup f7 = some ⟨oc7, od7, .func (PySem.W.fnOf "_law_divisor" "_law_divisor" (defArgs s__law_divisor) (defBody s__law_divisor) (defScope s__law_divisor) .none kV7 dc7 pm7 an7 cd7 ct7), sl7⟩)
    (c7 : PySem.W.codeIn K cd7 "_law_divisor" = true)
    (k7 : PySem.W.keepIn K (.ref f7) = true)
    (a8 : PySem.W.nsIn K mainGlobals "_law_lowest" = some (some (.ref f8)))
    (l8 : K.lookup f8 = some ⟨oc8, od8, .func (PySem.W.fnOf "_law_lowest" "_law_lowest" (defArgs s__law_lowest) (defBody s__law_lowest) (defScope s__law_lowest) .none kV8 dc8 pm8 an8 cd8 ct8), sl8⟩)
    (c8 : PySem.W.codeIn K cd8 "_law_lowest" = true)
    (k8 : PySem.W.keepIn K (.ref f8) = true)
    (a9 : PySem.W.nsIn K mainGlobals "_law_fraction" = some (some (.ref f9)))
    (l9 : K.lookup f9 = some ⟨oc9, od9, .func (PySem.W.fnOf "_law_fraction" "_law_fraction" (defArgs s__law_fraction) (defBody s__law_fraction) (defScope s__law_fraction) .none kV9 dc9 pm9 an9 cd9 ct9), sl9⟩)
    (c9 : PySem.W.codeIn K cd9 "_law_fraction" = true)
    (k9 : PySem.W.keepIn K (.ref f9) = true)
    (a10 : PySem.W.nsIn K mainGlobals "_law_walked" = some (some (.ref f10)))
    (l10 : K.lookup f10 = some ⟨oc10, od10, .func (PySem.W.fnOf "_law_walked" "_law_walked" (defArgs s__law_walked) (defBody s__law_walked) (defScope s__law_walked) .none kV10 dc10 pm10 an10 cd10 ct10), sl10⟩)
    (c10 : PySem.W.codeIn K cd10 "_law_walked" = true)
    (k10 : PySem.W.keepIn K (.ref f10) = true)
    (a11 : PySem.W.nsIn K mainGlobals "law" = some (some (.ref f11)))
    (l11 : K.lookup f11 = some ⟨oc11, od11, .func (PySem.W.fnOf "law" "law" (defArgs s_law) (defBody s_law) (defScope s_law) .none kV11 dc11 pm11 an11 cd11 ct11), sl11⟩)
    (c11 : PySem.W.codeIn K cd11 "law" = true)
    (k11 : PySem.W.keepIn K (.ref f11) = true)
    (z_len : PySem.W.nsIn K mainGlobals "len" = some none)
    (z_all : PySem.W.nsIn K mainGlobals "all" = some none)
    (z_reversed : PySem.W.nsIn K mainGlobals "reversed" = some none)
    (z_tuple : PySem.W.nsIn K mainGlobals "tuple" = some none)
    (z_abs : PySem.W.nsIn K mainGlobals "abs" = some none)
    (z_range : PySem.W.nsIn K mainGlobals "range" = some none)
    (z_isinstance : PySem.W.nsIn K mainGlobals "isinstance" = some none)
    (z_int : PySem.W.nsIn K mainGlobals "int" = some none)
    (z_bool : PySem.W.nsIn K mainGlobals "bool" = some none)
    (z_ValueError : PySem.W.nsIn K mainGlobals "ValueError" = some none)
    (z_list : PySem.W.nsIn K mainGlobals "list" = some none)
    (z_sum : PySem.W.nsIn K mainGlobals "sum" = some none)
    (z_min : PySem.W.nsIn K mainGlobals "min" = some none)
    (z_enumerate : PySem.W.nsIn K mainGlobals "enumerate" = some none)
    (gC : PySem.W.nsIn K mainGlobals "NoNumber" = some (some (.ref C)))
    (gR : PySem.W.nsIn K mainGlobals "RowError" = some (some (.ref R)))
    (xC : PySem.W.excIn K C [.type "ValueError", .type "Exception", .type "BaseException", .type "object"] "ValueError.__new__" = true)
    (kC : PySem.W.keepIn K (.ref C) = true)
    (bC : PySem.W.subIn K (.ref C) (.type "BaseException") = some true)
    (tC : PySem.W.typeIn K (.ref C) = some (.type "type"))
    (bR : PySem.W.subIn K (.ref R) (.type "BaseException") = some true)
    (dR : PySem.W.hasDictIn K R = true)
    (tR : PySem.W.typeIn K (.ref R) = some (.type "type"))
    (sR : PySem.W.subIn K (.ref C) (.ref R) = some true)
    (e1 : PySem.W.findIn K (.ref C) "__getattribute__" = some (some (.builtin "BaseException.__getattribute__")))
    (e2 : PySem.W.findIn K (.ref C) "__getattr__" = some none)
    (e4 : PySem.W.hasDictIn K C = true)
    (e5 : PySem.W.findIn K (.ref C) "__class__" = some (some (.builtin "object.__class__")))
    (e6 : PySem.W.specialIn K (.builtin "object.__class__") "__get__" = some (some (.builtin "getset_descriptor.__get__")))
    (e7 : PySem.W.takesIn K (.builtin "object.__class__") = some true)
    (e8 : PySem.W.mroIn K C (.type "object") = some true)
    (iV : PySem.W.subIn K (.ref C) (.type "ValueError") = some true) :
    ∃ fd : FuncData, (∀ (s : Shared) (v : Value), BindsTo s fd ⟨[v], []⟩ [("_law_script", v)]) ∧ ∀ base : Heap, K.In base → base.Ns mainGlobals mg → FnOk l.prog w K mg base CX0 40 fa fd ["_law_script"] (sp_law K) := by
  have e := hfa.symm.trans (PySem.W.mg_of X G a11)
  cases e
  have D_middle : Df K mg "middle" p_middle s_middle := df_mk X G a0 l0 c0 k0 fun _ _ _ _ _ _ us hl => match us, hl with | [_, _], _ => rfl
  have D_way_to : Df K mg "way_to" p_way_to s_way_to := df_mk X G a1 l1 c1 k1 fun _ _ _ _ _ _ us hl => match us, hl with | [_], _ => rfl
  have D_fraction_at : Df K mg "fraction_at" p_fraction_at s_fraction_at := df_mk X G a2 l2 c2 k2 fun _ _ _ _ _ _ us hl => match us, hl with | [_], _ => rfl
  have D_row_of : Df K mg "row_of" p_row_of s_row_of := df_mk X G a3 l3 c3 k3 fun _ _ _ _ _ _ us hl => match us, hl with | [_], _ => rfl
  have D__law_cell : Df K mg "_law_cell" p__law_cell s__law_cell := df_mk X G a4 l4 c4 k4 fun _ _ _ _ _ _ us hl => match us, hl with | [_, _], _ => rfl
  have D__law_mix : Df K mg "_law_mix" p__law_mix s__law_mix := df_mk X G a5 l5 c5 k5 fun _ _ _ _ _ _ us hl => match us, hl with | [_, _, _], _ => rfl
  have D__law_whole : Df K mg "_law_whole" p__law_whole s__law_whole := df_mk X G a6 l6 c6 k6 fun _ _ _ _ _ _ us hl => match us, hl with | [_], _ => rfl
  have D__law_divisor : Df K mg "_law_divisor" p__law_divisor s__law_divisor := df_mk X G a7 l7 c7 k7 fun _ _ _ _ _ _ us hl => match us, hl with | [_, _], _ => rfl
  have D__law_lowest : Df K mg "_law_lowest" p__law_lowest s__law_lowest := df_mk X G a8 l8 c8 k8 fun _ _ _ _ _ _ us hl => match us, hl with | [_, _], _ => rfl
  have D__law_fraction : Df K mg "_law_fraction" p__law_fraction s__law_fraction := df_mk X G a9 l9 c9 k9 fun _ _ _ _ _ _ us hl => match us, hl with | [_, _, _], _ => rfl
  have D__law_walked : Df K mg "_law_walked" p__law_walked s__law_walked := df_mk X G a10 l10 c10 k10 fun _ _ _ _ _ _ us hl => match us, hl with | [_], _ => rfl
  have B : Bl mg := ⟨PySem.W.mg_none_of X G z_len, PySem.W.mg_none_of X G z_all, PySem.W.mg_none_of X G z_reversed, PySem.W.mg_none_of X G z_tuple, PySem.W.mg_none_of X G z_abs, PySem.W.mg_none_of X G z_range, PySem.W.mg_none_of X G z_isinstance, PySem.W.mg_none_of X G z_int, PySem.W.mg_none_of X G z_bool, PySem.W.mg_none_of X G z_ValueError, PySem.W.mg_none_of X G z_list, PySem.W.mg_none_of X G z_sum, PySem.W.mg_none_of X G z_min, PySem.W.mg_none_of X G z_enumerate⟩
  have N : NoN K mg C R := ⟨PySem.W.mg_of X G gC, PySem.W.mg_of X G gR, xC, kC, bC, tC, bR, dR, tR, sR, ⟨e1, e2, bC, e4, e5, e6, e7, e8⟩, kit_vt (by decide +kernel) iV, PySem.W.mg_none_of X G z_ValueError, PySem.W.mg_none_of X G z_isinstance⟩
  have F := fun_mk (st := s_law) l11 c11 k11
  refine ⟨PySem.W.fnOf "law" "law" (defArgs s_law) (defBody s_law) (defScope s_law) .none kV11 dc11 pm11 an11 cd11 ct11, fun s v => .of_eq rfl, fun base _ _ => ?_⟩
  have Cm := ok_middle (P := l.prog) (w := w) (base := base) D_middle
  have Cw := ok_way_to (P := l.prog) (w := w) (base := base) D_way_to B N
  have Ca := ok_fraction_at D_fraction_at Cm
  have Cr := ok_row_of (P := l.prog) (w := w) (base := base) D_row_of B
  have Cd := ok__law_divisor (P := l.prog) (w := w) (base := base) D__law_divisor B
  have Cl := ok__law_lowest D__law_lowest Cd
  have Cc := ok__law_cell (P := l.prog) (w := w) (base := base) D__law_cell B
  have Ch := ok__law_whole (P := l.prog) (w := w) (base := base) D__law_whole B
  have Ck := ok__law_walked (P := l.prog) (w := w) (base := base) D__law_walked
  exact ok_law F B Cc Cl Cw Ch Ck Ca Cr
end RR
open PySem PySem.W PyProof.Rows
set_option maxHeartbeats 0 in
theorem PySem.Challenge.cw_rootrow_k04_whole_ways_down_the_tree_holds : PySem.Challenge.rw_rootrow_k04_whole_ways_down_the_tree.Holds := by
  w_on; o_law; k_head; (case hw => w_witness2)
  k_fill
  refine L2.walk_of (l := PySem.Challenge.rw_rootrow_k04_whole_ways_down_the_tree) (n := 63) (k := 40) (x := "_law_script") (CX := fun _ => L2.CX0) (sp := fun w => RR.sp_law _) rfl (by decide) rfl ⟨rfl, by decide, by decide⟩ (fun w h Y => PySem.W.kIn_of Y) ?F (fun _ _ a ns hl _ hS => ⟨a, ns, rfl, hS, hl, fun _ => rfl⟩) (fun _ _ _ _ _ h => h)
  case F =>
    intro w mg fa h KX G hmg
    refine' RR.all_mk KX G hmg ?a0 ?l0 ?c0 ?k0 ?a1 ?l1 ?c1 ?k1 ?a2 ?l2 ?c2 ?k2 ?a3 ?l3 ?c3 ?k3 ?a4 ?l4 ?c4 ?k4 ?a5 ?l5 ?c5 ?k5 ?a6 ?l6 ?c6 ?k6 ?a7 ?l7 ?c7 ?k7 ?a8 ?l8 ?c8 ?k8 ?a9 ?l9 ?c9 ?k9 ?a10 ?l10 ?c10 ?k10 ?a11 ?l11 ?c11 ?k11 ?z_len ?z_all ?z_reversed ?z_tuple ?z_abs ?z_range ?z_isinstance ?z_int ?z_bool ?z_ValueError ?z_list ?z_sum ?z_min ?z_enumerate ?gC ?gR ?xC ?kC ?bC ?tC ?bR ?dR ?tR ?sR ?e1 ?e2 ?e4 ?e5 ?e6 ?e7 ?e8 ?iV
    (case a0 => k_is)
    (case l0 => k_is)
    (case c0 => k_is)
    (case k0 => k_is)
    (case a1 => k_is)
    (case l1 => k_is)
    (case c1 => k_is)
    (case k1 => k_is)
    (case a2 => k_is)
    (case l2 => k_is)
    (case c2 => k_is)
    (case k2 => k_is)
    (case a3 => k_is)
    (case l3 => k_is)
    (case c3 => k_is)
    (case k3 => k_is)
    (case a4 => k_is)
    (case l4 => k_is)
    (case c4 => k_is)
    (case k4 => k_is)
    (case a5 => k_is)
    (case l5 => k_is)
    (case c5 => k_is)
    (case k5 => k_is)
    (case a6 => k_is)
    (case l6 => k_is)
    (case c6 => k_is)
    (case k6 => k_is)
    (case a7 => k_is)
    (case l7 => k_is)
    (case c7 => k_is)
    (case k7 => k_is)
    (case a8 => k_is)
    (case l8 => k_is)
    (case c8 => k_is)
    (case k8 => k_is)
    (case a9 => k_is)
    (case l9 => k_is)
    (case c9 => k_is)
    (case k9 => k_is)
    (case a10 => k_is)
    (case l10 => k_is)
    (case c10 => k_is)
    (case k10 => k_is)
    (case a11 => k_is)
    (case l11 => k_is)
    (case c11 => k_is)
    (case k11 => k_is)
    (case z_len => k_is)
    (case z_all => k_is)
    (case z_reversed => k_is)
    (case z_tuple => k_is)
    (case z_abs => k_is)
    (case z_range => k_is)
    (case z_isinstance => k_is)
    (case z_int => k_is)
    (case z_bool => k_is)
    (case z_ValueError => k_is)
    (case z_list => k_is)
    (case z_sum => k_is)
    (case z_min => k_is)
    (case z_enumerate => k_is)
    (case gC => k_is)
    (case gR => k_is)
    (case xC => first | k_exc | k_is)
    (case kC => k_is)
    (case bC => k_is)
    (case tC => k_is)
    (case bR => k_is)
    (case dR => k_is)
    (case tR => k_is)
    (case sR => k_is)
    (case e1 => k_is)
    (case e2 => k_is)
    (case e4 => k_is)
    (case e5 => k_is)
    (case e6 => k_is)
    (case e7 => k_is)
    (case e8 => k_is)
    (case iV => k_is)
