import PyProof.Rows.All
import Wide.All
import OpenK.AllK
import Wide.FinOn
import HandS.ForMost
import HandS.ForExc
import HandS.Wide
import HandS.Rev
import HandS.IsInst
import HandS.ExcIs
import HandS.TupAny
import HandS.More
import HandS.Style
import PySem.Challenge.RW_rootrow_k13_whole_squares_that_differ_by
set_option Elab.async false
set_option linter.all false
set_option maxRecDepth 100000
set_option maxHeartbeats 4000000
/-! RRK: what all laws share: a callee by name, a def by name, loops and comprehensions in short. -/
namespace RR
open PySem PySem.Spec PyProof.Rows L2

/-! ### defs by name -/
/-- a def that stands at the top, by its name -/
structure Df (K : PySem.W.Frag) (mg : Str → Option Value) (x : Str) (ps : List Str) (st : Stmt) : Prop where
  ex : ∃ f fd, Fun K x x st f fd ∧ Binds K fd ps [] ∧ mg x = some (.ref f)
/-- a callee by its name: it keeps its promise -/
structure Cal (P : Program) (w : World) (K : PySem.W.Frag) (mg : Str → Option Value) (base : Heap) (CX : CXT) (k : Nat) (x : Str) (ps : List Str) (sp : Sp) : Prop where
  ex : ∃ f fd, FnOk P w K mg base CX k f fd ps sp ∧ PySem.W.keepIn K (.ref f) = true ∧ Binds K fd ps [] ∧ mg x = some (.ref f)
theorem Df.cal {P : Program} {w : World} {K : PySem.W.Frag} {mg : Str → Option Value} {base : Heap} {CX : CXT} {k : Nat} {x : Str} {ps : List Str} {st : Stmt} {sp : Sp} (D : Df K mg x ps st)
    (h : ∀ f fd, Fun K x x st f fd → FnOk P w K mg base CX k f fd ps sp) : Cal P w K mg base CX k x ps sp := by
  obtain ⟨f, fd, F, b, g⟩ := D.ex
  exact ⟨f, fd, h f fd F, F.kp, b, g⟩
theorem pe_cal {X : Cx} {CX : CXT} {k k' : Nat} {x : Str} {ps : List Str} {sp : Sp} {E : XK} {e : Expr} {es : List Expr} {t : TA} {p pos : Pos} (C : Cal X.prog X.w X.K X.mg X.base CX k x ps sp) (hr : Room k' X.A) (hk : k ≤ k') (hg : Gl X x) (hx : Passes CX X E)
    (ha : PA X (e :: es) t) (hdb : (x == ("__debug__" : Str)) = false := by decide) (he : starEach (e :: es) X.env = (false, eval e X.env) :: starEach es X.env := by rfl) (hpl : (backTo pos (starEach es X.env)).any (·.1) = false := by rfl) :
    PE X (.Call (.Name x p) (e :: es) [] pos) (tCall sp [] E t) := by
  obtain ⟨f, fd, F, kp, b, g⟩ := C.ex
  exact pe_call F (hr.mono hk) hg g kp b .nil hx ha hdb he hpl
theorem pe_calS {X : Cx} {CX : CXT} {k k' : Nat} {x : Str} {ps : List Str} {sp : Sp} {E : L2.St → XK} {e : Expr} {es : List Expr} {t : TA} {p pos : Pos} (C : Cal X.prog X.w X.K X.mg X.base CX k x ps sp) (hr : Room k' X.A) (hk : k ≤ k') (hg : Gl X x) (hx : ∀ σ, PassesAt CX X σ (E σ))
    (ha : PA X (e :: es) t) (hdb : (x == ("__debug__" : Str)) = false := by decide) (he : starEach (e :: es) X.env = (false, eval e X.env) :: starEach es X.env := by rfl) (hpl : (backTo pos (starEach es X.env)).any (·.1) = false := by rfl) :
    PE X (.Call (.Name x p) (e :: es) [] pos) (tCallS sp E t) := by
  obtain ⟨f, fd, F, kp, b, g⟩ := C.ex
  exact pe_callS F (hr.mono hk) hg g kp b hx ha hdb he hpl

theorem df_mk {K : PySem.W.Frag} {h : Heap} {mg : Str → Option Value} {x : Str} {ps : List Str} {st : Stmt} {f : Addr} {oc : Value} {od an : Option Addr} {osl : Array (Option Value)} {kV doc pm cdv ct : Value} (X : K.In h) (G : h.Ns mainGlobals mg)
    (a : PySem.W.nsIn K mainGlobals x = some (some (.ref f))) (l : K.lookup f = some ⟨oc, od, .func (PySem.W.fnOf x x (defArgs st) (defBody st) (defScope st) .none kV doc pm an cdv ct), osl⟩) (c : PySem.W.codeIn K cdv x = true) (k : PySem.W.keepIn K (.ref f) = true)
    (hb : ∀ (kV doc pm : Value) (an : Option Addr) (cdv ct : Value) (us : List Value), us.length = ps.length → bindArgs (PySem.W.fnOf x x (defArgs st) (defBody st) (defScope st) .none kV doc pm an cdv ct) ⟨us, []⟩ = pure (ps.zip us)) : Df K mg x ps st := by
  have F := fun_mk (st := st) l c k
  exact ⟨f, _, F, F.binds hb, PySem.W.mg_of X G a⟩
/-- the built-ins' names: none stands at the top -/
structure Bl (mg : Str → Option Value) : Prop where
  len : mg "len" = none
  all : mg "all" = none
  reversed : mg "reversed" = none
  tuple : mg "tuple" = none
  abs : mg "abs" = none
  range : mg "range" = none
  isinstance : mg "isinstance" = none
  int : mg "int" = none
  bool : mg "bool" = none
  ValueError : mg "ValueError" = none
  list : mg "list" = none
  sum : mg "sum" = none
  min : mg "min" = none
  enumerate : mg "enumerate" = none

/-! ### heaps -/
theorem same_upd {H : Hp} {p : Addr} {o : HO} (h : H p = none) : Same H (upd H p o) := fun b x e => by
  rw [upd_ne (ne_of_none e h)]
  exact e
theorem same_updO {H H' : Hp} {p : Addr} {o : HO} (s : Same H H') (h : H p = none) : Same H (upd H' p o) := fun b x e => by
  rw [upd_ne (ne_of_none e h)]
  exact s b x e
abbrev tI (ns : List Int) : HO := .tup (ns.map V.int)
abbrev lI (ns : List Int) : HO := .lst (ns.map V.int)
theorem small_of {n : Nat} (h : n ≤ 10000000) : n < sizeLine := by rw [sizeLine_eq]; omega
theorem small_le {n : Nat} (h : n ≤ 10000000) : n ≤ sizeLine := Nat.le_of_lt (small_of h)

/-! ### the error's class -/
/-- what the top says of NoNumber at C, under RowError at R -/
structure NoN (K : PySem.W.Frag) (mg : Str → Option Value) (C R : Addr) : Prop where
  g : mg "NoNumber" = some (.ref C)
  gR : mg "RowError" = some (.ref R)
  x : PySem.W.excIn K C [.type "ValueError", .type "Exception", .type "BaseException", .type "object"] "ValueError.__new__" = true
  k : PySem.W.keepIn K (.ref C) = true
  b : PySem.W.subIn K (.ref C) (.type "BaseException") = some true
  t : PySem.W.typeIn K (.ref C) = some (.type "type")
  bR : PySem.W.subIn K (.ref R) (.type "BaseException") = some true
  dR : PySem.W.hasDictIn K R = true
  tR : PySem.W.typeIn K (.ref R) = some (.type "type")
  sR : PySem.W.subIn K (.ref C) (.ref R) = some true
  ec : ExcC K C
  iV : PySem.W.kitOne K (.ref C) (.type "ValueError") = some true
  mV : mg "ValueError" = none
  mI : mg "isinstance" = none
theorem NoN.ex {K : PySem.W.Frag} {mg : Str → Option Value} {C R : Addr} (N : NoN K mg C R) : PySem.W.exmOne K (.ref C) (.ref R) = some true := PySem.W.exm_ref N.bR N.dR N.tR N.sR
theorem NoN.iC {K : PySem.W.Frag} {mg : Str → Option Value} {C R : Addr} (N : NoN K mg C R) : PySem.W.kitOne K (.ref C) (.ref C) = some true := by
  unfold PySem.W.kitOne
  rw [if_pos (by simp)]
theorem ps_no {X : Cx} {W : WX} {C R : Addr} {m : Str} {j : Nat} {p p2 pos pos' : Pos} (N : NoN X.K X.mg C R) (hc : X.calm = true) (tk : Takes X W) (hg : Gl X "NoNumber") :
    PS X (.Raise (some (.Call (.Name "NoNumber" p) [.Constant (.str m) j p2] [] pos)) none pos') (fun _ σ H => W (.ref C) none σ H) :=
  ps_raise hc tk (pmk_own PySem.F.excBase_ValueError N.x N.g N.k (raises_own N.b N.t) hg)

/-- isinstance(e, c) in a suite that holds an exception of any class -/
theorem pe_isE {X : Cx} {a C : Addr} {oe : Obj} {pn : List (Addr × Obj)} {cls : Value} {d : Option Addr} {x : Str} {e : Expr} {es : List Expr} {t : TA} {p pos : Pos} (EC : ExcC X.K C) (hz : Zc cls d oe) (hf : ∃ vs, oe.data = .fields vs)
    (hg : Gl (X.suite a ((a, oe) :: pn)) x) (hm : (X.suite a ((a, oe) :: pn)).mg x = none) (hv : bootBuiltins x = some (.builtin "isinstance")) (ha : PA (X.suite a ((a, oe) :: pn)) (e :: es) t) (hn : x ≠ "__name__" := by decide) (hdb : (x == ("__debug__" : Str)) = false := by decide)
    (he : starEach (e :: es) (X.suite a ((a, oe) :: pn)).env = (false, eval e (X.suite a ((a, oe) :: pn)).env) :: starEach es (X.suite a ((a, oe) :: pn)).env := by rfl) (hpl : (backTo pos (starEach es (X.suite a ((a, oe) :: pn)).env)).any (·.1) = false := by rfl) :
    PE (X.suite a ((a, oe) :: pn)) (.Call (.Name x p) (e :: es) [] pos) (fun σ H Q => cls = .ref C ∧ d = none ∧ tCB (rIsE X.K C a) t σ H Q) := by
  refine ⟨fun pins s σ H Q I h => ?_⟩
  obtain ⟨rfl, rfl, h⟩ := h
  exact (pe_callB (call_isE EC hz hf) hg hm hv ha hn hdb he hpl).run pins s σ H Q I h
theorem kit_vt {K : PySem.W.Frag} {C : Addr} {T : String} (m : PySem.W.kitMeta T = true) (h : PySem.W.subIn K (.ref C) (.type T) = some true) : PySem.W.kitOne K (.ref C) (.type T) = some true := by
  unfold PySem.W.kitOne
  split
  · rfl
  · show (if PySem.W.kitMeta T = true then PySem.W.subIn K (.ref C) (.type T) else none) = some true
    rw [if_pos m]
    exact h
theorem relV_ref {a : Addr} {u : Value} (h : RelV (.ref a) u) : u = .ref a := h
theorem relV_ty {n : String} {u : Value} (h : RelV (.ty n) u) : u = .type n := h

/-! ### numbers -/
/-- // of great numbers by any but 0 -/
def CDivWN (_ j : Int) : Prop := j ≠ 0 ∧ j.natAbs.log2 < 9000
theorem op_fdivWN {X : Cx} : OpR X (binaryOp .FloorDiv) (rI CDivWN fun i j => .int (i.fdiv j)) := opI fun _ _ _ _ _ _ _ hc q => floordiv_int hc.1 q (.inl (PyProof.noPylong_of_log2 hc.2))

/-! ### a statement, then the rest, with a word between them -/
def tMid (t u : TS) : TS := fun D σ H => ∃ Mid : L2.St → Hp → Prop, t { D with nx := Mid } σ H ∧ ∀ σ' H', Mid σ' H' → u D σ' H'
theorem pss_mid {X : Cx} {st : Stmt} {rest : List Stmt} {t u : TS} (h1 : PS X st t) (h2 : PSs X rest u) : PSs X (st :: rest) (tMid t u) := by
  refine ⟨fun pins s σ H D I h => ?_⟩
  obtain ⟨Mid, hm, hu⟩ := h
  refine wpAny_execs_cons (thn (h1.run pins s σ H { D with nx := Mid } I hm) fun f s1 q => ?_)
  cases f with
  | next =>
    obtain ⟨σ', H', I', q⟩ := q
    exact h2.run pins s1 σ' H' D I' (hu σ' H' q)
  | ret v => exact q
  | brk => exact q
  | cont => exact q

/-! ### slices -/
theorem cutV_from {xs : List V} {k : Nat} : cutV xs (some (k : Int)) none = xs.drop k := by
  unfold cutV
  rw [HT.sIx_nat xs.length 0 k, HT.sIx_none]
  by_cases h : k ≤ xs.length
  · rw [Nat.min_eq_left h]
    exact List.take_of_length_le (by rw [List.length_drop]; exact Nat.le_refl _)
  · rw [Nat.min_eq_right (by omega), Nat.sub_self, List.take_zero, List.drop_of_length_le (by omega)]
theorem cutV_to {xs : List V} {k : Nat} : cutV xs none (some (k : Int)) = xs.take k := by
  unfold cutV
  rw [HT.sIx_nat xs.length xs.length k, HT.sIx_none, List.drop_zero, Nat.sub_zero]
  by_cases h : k ≤ xs.length
  · rw [Nat.min_eq_left h]
  · rw [Nat.min_eq_right (by omega), List.take_of_length_le (Nat.le_refl _), List.take_of_length_le (by omega)]
theorem cutV_both {xs : List V} {j k : Nat} (h : j ≤ k) : cutV xs (some (j : Int)) (some (k : Int)) = (xs.drop j).take (k - j) := by
  unfold cutV
  rw [HT.sIx_nat xs.length xs.length k, HT.sIx_nat xs.length 0 j]
  by_cases h1 : k ≤ xs.length
  · rw [Nat.min_eq_left h1, Nat.min_eq_left (by omega)]
  · rw [Nat.min_eq_right (by omega)]
    by_cases h2 : j ≤ xs.length
    · rw [Nat.min_eq_left h2, List.take_of_length_le (by rw [List.length_drop]; exact Nat.le_refl _), List.take_of_length_le (by rw [List.length_drop]; omega)]
    · rw [Nat.min_eq_right (by omega), List.drop_of_length_le (Nat.le_refl _), List.drop_of_length_le (by omega), List.take_nil, List.take_nil]
theorem sIx_one {n d : Nat} : HT.sIx n d (some 1) = min 1 n := HT.sIx_nat n d 1
theorem sIx_neg {n d k : Nat} (h : 1 ≤ k) : HT.sIx n d (some (-(k : Int))) = n - k := by
  have h := HT.clip_eq (-(k : Int)) n d
  rw [if_pos (by omega)] at h
  omega
theorem cutV_but {xs : List V} {k : Nat} (h : 1 ≤ k) : cutV xs none (some (-(k : Int))) = xs.take (xs.length - k) := by
  unfold cutV
  rw [sIx_neg h, HT.sIx_none, List.drop_zero, Nat.sub_zero]
theorem atI_neg {xs : List V} {k : Nat} {v : V} (h : 1 ≤ k) (h2 : k ≤ xs.length) (e : xs[xs.length - k]? = some v) : atI xs (-(k : Int)) = some v := by
  unfold atI ixN
  rw [if_neg (by omega), if_pos (by omega)]
  show xs[(-(k : Int) + (xs.length : Int)).toNat]? = some v
  rw [show (-(k : Int) + (xs.length : Int)).toNat = xs.length - k by omega]
  exact e
theorem sIx_neg1 {n d : Nat} : HT.sIx n d (some (-1)) = n - 1 := by
  have h := HT.clip_eq (-1) n d
  rw [if_pos (by decide)] at h
  omega
theorem cutV_init {xs : List V} : cutV xs none (some (-1)) = xs.dropLast := by
  unfold cutV
  rw [sIx_neg1, HT.sIx_none, List.drop_zero, Nat.sub_zero, List.dropLast_eq_take]

/-! ### comprehensions that map -/
theorem yes_of {σ : L2.St} {H : Hp} {A B : Hp → Prop} (h : A H) : tYes σ H fun b H3 => if b = true then A H3 else B H3 := by
  show if true = true then A H else B H
  rw [if_pos rfl]
  exact h
theorem lc_mapL {K : PySem.W.Frag} {a : Addr} {xs ys : List V} {j : Nat} {te : TE} {vs : List Nat} {σ : L2.St} {H1 : Hp} {Qd : Addr → Hp → Prop} (hl : ys.length = xs.length) (hx : xs.length < sizeLine) (hA : SqL K H1 a xs) (hw : ∀ x, wipe ((wipe σ vs).set j (some x)) vs = wipe σ vs)
    (hs : ∀ (i : Nat) x y H Q, xs[i]? = some x → ys[i]? = some y → Same H1 H → (∀ H', Same H H' → Q y H') → te ((wipe σ vs).set j (some x)) H Q)
    (hd : ∀ D H, Same H1 H → H D = some (.lst ys) → H1 D = none → Qd D H) : ∀ D, H1 D = none →
    ∃ W : Nat → Nat → Hp → Prop, (∃ m, W 0 m (upd H1 D (.lst []))) ∧ ∀ i m H, W i m H →
      ((Itl K a).stop i H ∧ Qd D H) ∨ ((Itl K a).go i H ∧ ∃ Nx : Hp → Prop, (∀ H', Nx H' → ∃ m', m' < m ∧ W (i + 1) m' H') ∧ ∀ x H', (Itl K a).yld i H x H' → gName j x (wipe σ vs) H' fun σ2 H2 => wipe σ2 vs = wipe σ vs ∧ tYes σ2 H2 fun b H3 =>
        if b = true then te σ2 H3 fun y H4 => ∃ acc, H4 D = some (.lst acc) ∧ acc.length < sizeLine ∧ Nx (upd H4 D (.lst (acc ++ [y]))) else Nx H3) := fun D hD => by
  refine lc_list (K := K) (a := a) (xs := xs) (fun i H => Same H1 H ∧ H D = some (.lst (ys.take i))) ⟨same_upd hD, upd_same⟩ (fun i H _ h => h.1.seq hA) (fun i x H hi h => ?_) (fun H h => hd D H h.1 (by rw [h.2, ← hl, List.take_length]) hD)
  have hi' : i < ys.length := by
    rw [hl]
    exact (List.getElem?_eq_some_iff.mp hi).1
  refine ⟨hw x, yes_of (hs i x ys[i] H _ hi (List.getElem?_eq_getElem hi') h.1 fun H' s' => ⟨_, s' _ _ h.2, ?_, ?_, ?_⟩)⟩
  · rw [List.length_take]
    omega
  · exact same_updO (h.1.trans s') hD
  · rw [upd_same, List.take_add_one, List.getElem?_eq_getElem hi']
    rfl
theorem lc_mapT {K : PySem.W.Frag} {a : Addr} {xs ys : List V} {j : Nat} {te : TE} {vs : List Nat} {σ : L2.St} {H1 : Hp} {Qd : Addr → Hp → Prop} (hl : ys.length = xs.length) (hx : xs.length < sizeLine) (hA : H1 a = some (.tup xs)) (hw : ∀ x, wipe ((wipe σ vs).set j (some x)) vs = wipe σ vs)
    (hs : ∀ (i : Nat) x y H Q, xs[i]? = some x → ys[i]? = some y → Same H1 H → (∀ H', Same H H' → Q y H') → te ((wipe σ vs).set j (some x)) H Q)
    (hd : ∀ D H, Same H1 H → H D = some (.lst ys) → H1 D = none → Qd D H) : ∀ D, H1 D = none →
    ∃ W : Nat → Nat → Hp → Prop, (∃ m, W 0 m (upd H1 D (.lst []))) ∧ ∀ i m H, W i m H →
      ((Itt K a).stop i H ∧ Qd D H) ∨ ((Itt K a).go i H ∧ ∃ Nx : Hp → Prop, (∀ H', Nx H' → ∃ m', m' < m ∧ W (i + 1) m' H') ∧ ∀ x H', (Itt K a).yld i H x H' → gName j x (wipe σ vs) H' fun σ2 H2 => wipe σ2 vs = wipe σ vs ∧ tYes σ2 H2 fun b H3 =>
        if b = true then te σ2 H3 fun y H4 => ∃ acc, H4 D = some (.lst acc) ∧ acc.length < sizeLine ∧ Nx (upd H4 D (.lst (acc ++ [y]))) else Nx H3) := fun D hD => by
  refine lc_tup (K := K) (a := a) (xs := xs) (fun i H => Same H1 H ∧ H D = some (.lst (ys.take i))) ⟨same_upd hD, upd_same⟩ (fun i H _ h => .of (h.1 _ _ hA)) (fun i x H hi h => ?_) (fun H h => hd D H h.1 (by rw [h.2, ← hl, List.take_length]) hD)
  have hi' : i < ys.length := by
    rw [hl]
    exact (List.getElem?_eq_some_iff.mp hi).1
  refine ⟨hw x, yes_of (hs i x ys[i] H _ hi (List.getElem?_eq_getElem hi') h.1 fun H' s' => ⟨_, s' _ _ h.2, ?_, ?_, ?_⟩)⟩
  · rw [List.length_take]
    omega
  · exact same_updO (h.1.trans s') hD
  · rw [upd_same, List.take_add_one, List.getElem?_eq_getElem hi']
    rfl
/-! ### tuples and lists of ints: ==, !=, sum, in -/
theorem canAll_ints : ∀ ns : List Int, PyData.canLayAll0 (ns.map PyData.int) = true
  | [] => rfl
  | _ :: ns => by
    show (PyData.canLay0 (.int _) && PyData.canLayAll0 (ns.map PyData.int)) = true
    rw [canAll_ints ns]
    rfl
theorem depthAll_ints : ∀ ns : List Int, PyData.depthAll (ns.map PyData.int) = 0
  | [] => rfl
  | _ :: ns => by
    show max (PyData.depth (.int _)) (PyData.depthAll (ns.map PyData.int)) = 0
    rw [depthAll_ints ns]
    rfl
theorem sh_tup (ns : List Int) : SeqAt.shaped (.tuple (ns.map PyData.int)) = true := by
  unfold SeqAt.shaped
  rw [Bool.and_eq_true]
  refine ⟨canAll_ints ns, decide_eq_true ?_⟩
  show PyData.depthAll (ns.map PyData.int) + 1 ≤ 64
  rw [depthAll_ints]
  decide
theorem sh_lst (ns : List Int) : SeqAt.shaped (.list (ns.map PyData.int)) = true := by
  unfold SeqAt.shaped
  rw [Bool.and_eq_true]
  refine ⟨canAll_ints ns, decide_eq_true ?_⟩
  show PyData.depthAll (ns.map PyData.int) + 1 ≤ 64
  rw [depthAll_ints]
  decide
theorem eqvAll_ints : ∀ ns ms : List Int, PyData.eqvAll (ns.map PyData.int) (ms.map PyData.int) = decide (ns = ms)
  | [], [] => rfl
  | [], _ :: _ => rfl
  | _ :: _, [] => rfl
  | n :: ns, m :: ms => by
    show (n == m && PyData.eqvAll (ns.map PyData.int) (ms.map PyData.int)) = _
    rw [eqvAll_ints ns ms]
    by_cases h : n = m
    · subst h
      simp
    · simp [h]
theorem dp_ints {K : PySem.W.Frag} {H : Hp} : ∀ ns : List Int, DpAll K H (ns.map V.int) (ns.map PyData.int)
  | [] => .nil
  | n :: ns => .cons (.int n) (dp_ints ns)
def rEqT (K : PySem.W.Frag) : R2 := fun x y H Q => ∃ (a b : Addr) (ns ms : List Int), x = .ref a ∧ y = .ref b ∧ SqT K H a (ns.map V.int) ∧ SqT K H b (ms.map V.int) ∧ Q (.bl (decide (ns = ms))) H
def rNeT (K : PySem.W.Frag) : R2 := fun x y H Q => ∃ (a b : Addr) (ns ms : List Int), x = .ref a ∧ y = .ref b ∧ SqT K H a (ns.map V.int) ∧ SqT K H b (ms.map V.int) ∧ Q (.bl (!decide (ns = ms))) H
def rEqLI (K : PySem.W.Frag) : R2 := fun x y H Q => ∃ (a b : Addr) (ns ms : List Int), x = .ref a ∧ y = .ref b ∧ SqL K H a (ns.map V.int) ∧ SqL K H b (ms.map V.int) ∧ Q (.bl (decide (ns = ms))) H
def rNeLI (K : PySem.W.Frag) : R2 := fun x y H Q => ∃ (a b : Addr) (ns ms : List Int), x = .ref a ∧ y = .ref b ∧ SqL K H a (ns.map V.int) ∧ SqL K H b (ms.map V.int) ∧ Q (.bl (!decide (ns = ms))) H
section
variable {X : Cx} {k : Nat}
theorem op_eqT (hr : Room k X.A) : OpR X (compareOp .Eq) (rEqT X.K) := by
  intro pins s σ H x y v u Q I rx ry h
  obtain ⟨a, b, ns, ms, rfl, rfl, ha, hb, q⟩ := h
  refine op_eqD hr.units pins s σ H _ _ v u Q I rx ry ⟨_, _, .tup ha (dp_ints ns), .tup hb (dp_ints ms), sh_tup ns, sh_tup ms, ?_⟩
  show Q (.bl (PyData.eqvAll _ _)) H
  rw [eqvAll_ints]
  exact q
theorem op_neT (hr : Room k X.A) : OpR X (compareOp .NotEq) (rNeT X.K) := by
  intro pins s σ H x y v u Q I rx ry h
  obtain ⟨a, b, ns, ms, rfl, rfl, ha, hb, q⟩ := h
  refine op_neD hr.units pins s σ H _ _ v u Q I rx ry ⟨_, _, .tup ha (dp_ints ns), .tup hb (dp_ints ms), sh_tup ns, sh_tup ms, ?_⟩
  show Q (.bl (!PyData.eqvAll _ _)) H
  rw [eqvAll_ints]
  exact q
theorem op_eqLI (hr : Room k X.A) : OpR X (compareOp .Eq) (rEqLI X.K) := by
  intro pins s σ H x y v u Q I rx ry h
  obtain ⟨a, b, ns, ms, rfl, rfl, ha, hb, q⟩ := h
  refine op_eqD hr.units pins s σ H _ _ v u Q I rx ry ⟨_, _, .lst ha (dp_ints ns), .lst hb (dp_ints ms), sh_lst ns, sh_lst ms, ?_⟩
  show Q (.bl (PyData.eqvAll _ _)) H
  rw [eqvAll_ints]
  exact q
theorem op_neLI (hr : Room k X.A) : OpR X (compareOp .NotEq) (rNeLI X.K) := by
  intro pins s σ H x y v u Q I rx ry h
  obtain ⟨a, b, ns, ms, rfl, rfl, ha, hb, q⟩ := h
  refine op_neD hr.units pins s σ H _ _ v u Q I rx ry ⟨_, _, .lst ha (dp_ints ns), .lst hb (dp_ints ms), sh_lst ns, sh_lst ms, ?_⟩
  show Q (.bl (!PyData.eqvAll _ _)) H
  rw [eqvAll_ints]
  exact q
/-- sum(t) of a tuple of ints -/
def rSumT (K : PySem.W.Frag) : List V → Hp → VK → Prop := fun vs H Q => ∃ (a : Addr) (ns : List Int), vs = [V.ref a] ∧ SqT K H a (ns.map V.int) ∧ Q (.int ns.sum) H
theorem cr_sumT (hc : X.calm = true) : CallR X (.builtin "sum") (rSumT X.K) := by
  intro pins s σ H vs us Q I r h
  obtain ⟨a, ns, rfl, hs, q⟩ := h
  obtain ⟨its, rv, ht, _⟩ := I.tuple hs
  rw [Vals.ref1 r]
  have hi := rv.ints
  obtain ⟨xs, e⟩ := hi.allInts.items
  have hn : numsOf (intItems xs).toList = ns := by rw [← e]; exact hi.numsOf
  rw [nums_intItems] at hn
  rw [e] at ht
  refine PySem.W.ktm_sumG (I.ok.hd hc) ht fun h' tk t' hk => ⟨.int _, H, I.kept hk, ⟨_, rfl⟩, ?_⟩
  rw [preSum_eq, List.take_of_length_le (by simp), hn]
  exact q
end
/-- x in xs within a comprehension, the written part named -/
theorem op_inK {X : Cx} (K : PySem.W.Frag) (h : X.K = K := by rfl) : OpR X (compareOp .In) (rIn K false) := by
  subst h
  exact op_in_seq
theorem in01 (z : Int) : inV (.int z) [V.int 0, V.int 1] = decide (z = 0 ∨ z = 1) := by
  show ((0 : Int) == z || ((1 : Int) == z || false)) = _
  by_cases h0 : z = 0
  · subst h0
    rfl
  · by_cases h1 : z = 1
    · subst h1
      rfl
    · rw [decide_eq_false (by omega), Bool.or_false, Bool.or_eq_false_iff]
      exact ⟨beq_false_of_ne (fun e => h0 e.symm), beq_false_of_ne (fun e => h1 e.symm)⟩
/-- isinstance(t, tuple) -/
theorem isT_tup {K : PySem.W.Frag} {H : Hp} {a : Addr} {xs : List V} (e : H a = some (.tup xs)) : TyX K H (.ref a) (.type "tuple") := .base (.tup e)
theorem isT_self {K : PySem.W.Frag} {t : Value} : PySem.W.kitOne K t t = some true := by
  unfold PySem.W.kitOne
  rw [if_pos (by simp)]

/-- what every law promises -/
def sp_law (K : PySem.W.Frag) : Sp := fun vs H Q _ => ∃ (a : Addr) (ns : List Int), vs = [.ref a] ∧ SqL K H a (ns.map V.int) ∧ ns.length ≤ 63 ∧ ∀ H', Q (.bl true) H'
end RR
/-! RRM: fractions, rows, ways: plain mathematics. -/
namespace RR

/-! ### the greatest common divisor -/
def dv (a b : Int) : Int := (Int.gcd a b : Int)
theorem gcd_step {x y : Int} (hx : 0 ≤ x) (hy : 0 < y) : Int.gcd y (x % y) = Int.gcd x y := by
  have h1 := Int.emod_nonneg x (show y ≠ 0 by omega)
  obtain ⟨a, rfl⟩ := Int.eq_ofNat_of_zero_le hx
  obtain ⟨b, rfl⟩ := Int.eq_ofNat_of_zero_le (show 0 ≤ y by omega)
  rw [← Int.natCast_emod]
  show Nat.gcd b (a % b) = Nat.gcd a b
  rw [Nat.gcd_comm a b, Nat.gcd_rec b a, Nat.gcd_comm]
theorem gcd_abs (a b : Int) : Int.gcd (if a < 0 then -a else a) (if b < 0 then -b else b) = Int.gcd a b := by
  split <;> split <;> simp only [Int.gcd_neg, Int.neg_gcd]
theorem gcd_end {x y : Int} (hx : 0 ≤ x) (hy : ¬ 0 < y) (h0 : 0 ≤ y) : x = (Int.gcd x y : Int) := by
  have e : y = 0 := by omega
  subst e
  rw [Int.gcd_zero_right]
  omega
theorem dv_nonneg (a b : Int) : 0 ≤ dv a b := Int.natCast_nonneg _
theorem dv_dvd_left (a b : Int) : dv a b ∣ a := Int.gcd_dvd_left a b
theorem dv_dvd_right (a b : Int) : dv a b ∣ b := Int.gcd_dvd_right a b
theorem dv_pos_right {a b : Int} (h : b ≠ 0) : 0 < dv a b := by
  have h1 : 0 < Int.gcd a b := Int.gcd_pos_of_ne_zero_right a h
  unfold dv
  omega
theorem dv_pos_left {a b : Int} (h : a ≠ 0) : 0 < dv a b := by
  have h1 : 0 < Int.gcd a b := Int.gcd_pos_of_ne_zero_left b h
  unfold dv
  omega
theorem dv_comm (a b : Int) : dv a b = dv b a := by
  unfold dv
  rw [Int.gcd_comm]
theorem dvd_dv {k a b : Int} (h1 : k ∣ a) (h2 : k ∣ b) : k ∣ dv a b := Int.dvd_coe_gcd h1 h2
theorem fdiv_neg_dvd {a g : Int} (h : g ∣ a) (hg : g ≠ 0) : a.fdiv (-g) = -(a / g) := by
  obtain ⟨k, rfl⟩ := h
  rw [Int.mul_ediv_cancel_left _ hg, show g * k = (-g) * (-k) by rw [Int.neg_mul_neg], Int.mul_fdiv_cancel_left _ (by omega)]
theorem neg_ediv_dvd {a g : Int} (h : g ∣ a) : (-a) / g = -(a / g) := Int.neg_ediv_of_dvd h
/-- the fraction u divided by l -/
def low (u l : Int) : Int × Int := if l < 0 then ((-u) / dv u l, (-l) / dv u l) else (u / dv u l, l / dv u l)
theorem dv_div {a b : Int} (h : 0 < dv a b) : dv (a / dv a b) (b / dv a b) = 1 := by
  have h1 : 0 < Int.gcd a b := by
    unfold dv at h
    omega
  have h2 := Int.gcd_ediv_gcd_ediv_gcd h1
  unfold dv
  omega
theorem dv_neg_left (a b : Int) : dv (-a) b = dv a b := by
  unfold dv
  rw [Int.neg_gcd]
theorem dv_neg_right (a b : Int) : dv a (-b) = dv a b := by
  unfold dv
  rw [Int.gcd_neg]
/-- what lowest gives, by products: the fraction is lowest and stands for the same -/
structure IsLow (u l p q : Int) : Prop where
  pos : 0 < q
  one : dv p q = 1
  cross : u * q = p * l
theorem low_is {u l : Int} (h : l ≠ 0) : IsLow u l (low u l).1 (low u l).2 := by
  have hg := dv_pos_right (a := u) h
  obtain ⟨a, ha⟩ := dv_dvd_left u l
  obtain ⟨b, hb⟩ := dv_dvd_right u l
  have hg0 : dv u l ≠ 0 := by omega
  have e1 : u / dv u l = a := by conv => lhs; lhs; rw [ha]
                                 exact Int.mul_ediv_cancel_left _ hg0
  have e2 : l / dv u l = b := by conv => lhs; lhs; rw [hb]
                                 exact Int.mul_ediv_cancel_left _ hg0
  have h1 := dv_div hg
  rw [e1, e2] at h1
  unfold low
  split
  · rename_i hl
    rw [neg_ediv_dvd (dv_dvd_left u l), neg_ediv_dvd (dv_dvd_right u l), e1, e2]
    refine ⟨?_, ?_, ?_⟩
    · have : ¬ 0 ≤ b := fun hb0 => by
        have := Int.mul_nonneg (Int.le_of_lt hg) hb0
        omega
      show 0 < -b
      omega
    · show dv (-a) (-b) = 1
      rw [dv_neg_left, dv_neg_right, h1]
    · show u * -b = -a * l
      generalize dv u l = g at *
      subst ha hb
      grind
  · rename_i hl
    rw [e1, e2]
    refine ⟨?_, h1, ?_⟩
    · have : ¬ b ≤ 0 := fun hb0 => by
        have := Int.mul_nonneg (Int.le_of_lt hg) (show 0 ≤ -b by omega)
        rw [Int.mul_neg] at this
        omega
      show 0 < b
      omega
    · show u * b = a * l
      generalize dv u l = g at *
      subst ha hb
      grind
/-- coprime: a divisor of a product -/
theorem dvd_of_mul {k a b : Int} (h : dv k a = 1) (h2 : k ∣ a * b) : k ∣ b := by
  have h1 : Int.gcd k a = 1 := by
    unfold dv at h
    omega
  rw [← Int.natAbs_dvd_natAbs] at h2 ⊢
  rw [Int.natAbs_mul] at h2
  exact Nat.Coprime.dvd_of_dvd_mul_left h1 h2
theorem low_unique {p q r s : Int} (h1 : 0 < q) (h2 : dv p q = 1) (h3 : 0 < s) (h4 : dv r s = 1) (h : p * s = r * q) : p = r ∧ q = s := by
  have a1 : q ∣ s := by
    refine dvd_of_mul (a := p) (by rw [dv_comm]; exact h2) ⟨r, ?_⟩
    rw [h, Int.mul_comm]
  have a2 : s ∣ q := by
    refine dvd_of_mul (a := r) (by rw [dv_comm]; exact h4) ⟨p, ?_⟩
    rw [← h, Int.mul_comm]
  have e : q = s := Int.dvd_antisymm (by omega) (by omega) a1 a2
  subst e
  exact ⟨Int.eq_of_mul_eq_mul_right (by omega) h, rfl⟩
theorem IsLow.eq {u l p q : Int} (h : l ≠ 0) (x : IsLow u l p q) : low u l = (p, q) := by
  have y := low_is (u := u) h
  obtain ⟨x1, x2, x3⟩ := x
  obtain ⟨y1, y2, y3⟩ := y
  have e : p * (low u l).2 = (low u l).1 * q := by
    have : l * (p * (low u l).2) = l * ((low u l).1 * q) := by grind
    exact Int.eq_of_mul_eq_mul_left h this
  obtain ⟨e1, e2⟩ := low_unique x1 x2 y1 y2 e
  rw [e1, e2]
theorem low_self {p q : Int} (h : 0 < q) (h2 : dv p q = 1) : low p q = (p, q) := IsLow.eq (by omega) ⟨h, h2, rfl⟩
theorem low_le {u l : Int} (h : 0 < l) : (low u l).2 ≤ l := by
  have hg := dv_pos_right (a := u) (show l ≠ 0 by omega)
  unfold low
  rw [if_neg (by omega)]
  exact Int.ediv_le_self _ (by omega)
theorem low_abs {u l : Int} (h : l ≠ 0) : (low u l).1.natAbs ≤ u.natAbs ∧ (low u l).2.natAbs ≤ l.natAbs := by
  have hg := dv_pos_right (a := u) h
  have k : ∀ z : Int, dv u l ∣ z → (z / dv u l).natAbs ≤ z.natAbs := fun z hz => by
    obtain ⟨c, rfl⟩ := hz
    rw [Int.mul_ediv_cancel_left _ (by omega), Int.natAbs_mul]
    exact Nat.le_mul_of_pos_left _ (by omega)
  unfold low
  split
  · rw [neg_ediv_dvd (dv_dvd_left u l), neg_ediv_dvd (dv_dvd_right u l)]
    exact ⟨by rw [Int.natAbs_neg]; exact k _ (dv_dvd_left u l), by rw [Int.natAbs_neg]; exact k _ (dv_dvd_right u l)⟩
  · exact ⟨k _ (dv_dvd_left u l), k _ (dv_dvd_right u l)⟩

/-! ### rows -/
/-- what a row stands for -/
def st : List Int → Int × Int
  | [] => (1, 0)
  | x :: r => (x * (st r).1 + (st r).2, (st r).1)
/-- whether a tuple is a row for fraction_of -/
def isRow (xs : List Int) : Bool := !xs.isEmpty && (xs.drop 1).all fun y => decide (1 ≤ y)

/-! ### ways -/
/-- the way to u divided by l -/
def way (u l : Int) : List Int := if h : 1 ≤ u ∧ 1 ≤ l ∧ u ≠ l then (if u < l then 0 :: way u (l - u) else 1 :: way (u - l) l) else []
termination_by (u + l).toNat
decreasing_by all_goals omega
theorem way_eq (u : Int) : way u u = [] := by
  unfold way
  rw [dif_neg (fun h => h.2.2 rfl)]
theorem way_lo {u l : Int} (h1 : 1 ≤ u) (h2 : u < l) : way u l = 0 :: way u (l - u) := by
  conv => lhs; unfold way
  rw [dif_pos ⟨h1, by omega, by omega⟩, if_pos h2]
theorem way_hi {u l : Int} (h1 : 1 ≤ l) (h2 : l < u) : way u l = 1 :: way (u - l) l := by
  conv => lhs; unfold way
  rw [dif_pos ⟨by omega, h1, by omega⟩, if_neg (by omega)]
theorem way_len {u l : Int} (h1 : 1 ≤ u) (h2 : 1 ≤ l) : ((way u l).length : Int) + 2 ≤ u + l := by
  by_cases h : u = l
  · subst h
    rw [way_eq]
    show (0 : Int) + 2 ≤ _
    omega
  · by_cases h3 : u < l
    · have ih := way_len (u := u) (l := l - u) h1 (by omega)
      rw [way_lo h1 h3, List.length_cons]
      omega
    · have ih := way_len (u := u - l) (l := l) (by omega) h2
      rw [way_hi h2 (by omega), List.length_cons]
      omega
termination_by (u + l).toNat
decreasing_by all_goals omega
/-- where a way leads -/
def bw : List Int → Int × Int
  | [] => (1, 1)
  | s :: w => if s = 0 then ((bw w).1, (bw w).1 + (bw w).2) else ((bw w).1 + (bw w).2, (bw w).2)
theorem bw_pos : ∀ w : List Int, 1 ≤ (bw w).1 ∧ 1 ≤ (bw w).2
  | [] => ⟨Int.le_refl 1, Int.le_refl 1⟩
  | s :: w => by
    have ih := bw_pos w
    unfold bw
    split
    · exact ⟨ih.1, by show 1 ≤ (bw w).1 + (bw w).2; omega⟩
    · exact ⟨by show 1 ≤ (bw w).1 + (bw w).2; omega, ih.2⟩
theorem bw_big : ∀ w : List Int, (bw w).1 ≤ 2 ^ w.length ∧ (bw w).2 ≤ 2 ^ w.length
  | [] => ⟨Int.le_refl 1, Int.le_refl 1⟩
  | s :: w => by
    have ih := bw_big w
    have p := bw_pos w
    unfold bw
    rw [List.length_cons, Int.pow_succ]
    split
    · exact ⟨by show (bw w).1 ≤ _; omega, by show (bw w).1 + (bw w).2 ≤ _; omega⟩
    · exact ⟨by show (bw w).1 + (bw w).2 ≤ _; omega, by show (bw w).2 ≤ _; omega⟩
theorem bw_lo (w : List Int) : bw (0 :: w) = ((bw w).1, (bw w).1 + (bw w).2) := by
  conv => lhs; unfold bw
  rw [if_pos rfl]
theorem bw_hi (w : List Int) : bw (1 :: w) = ((bw w).1 + (bw w).2, (bw w).2) := by
  conv => lhs; unfold bw
  rw [if_neg (by decide)]
theorem way_bw : ∀ w : List Int, (∀ s ∈ w, s = 0 ∨ s = 1) → way (bw w).1 (bw w).2 = w
  | [], _ => way_eq 1
  | s :: w, h => by
    have ih := way_bw w fun x hx => h x (List.mem_cons_of_mem _ hx)
    have p := bw_pos w
    rcases h s List.mem_cons_self with rfl | rfl
    · rw [bw_lo]
      show way (bw w).1 ((bw w).1 + (bw w).2) = _
      rw [way_lo p.1 (by omega), show (bw w).1 + (bw w).2 - (bw w).1 = (bw w).2 by omega, ih]
    · rw [bw_hi]
      show way ((bw w).1 + (bw w).2) (bw w).2 = _
      rw [way_hi p.2 (by omega), show (bw w).1 + (bw w).2 - (bw w).2 = (bw w).1 by omega, ih]
theorem dv_sub_right {u l : Int} : dv u (l - u) = dv u l := by
  unfold dv
  rw [Int.gcd_sub_self_right]
theorem dv_add_right {u l : Int} : dv u (u + l) = dv u l := by
  unfold dv
  rw [Int.gcd_self_add_right]
theorem dv_sub_left {u l : Int} : dv (u - l) l = dv u l := by
  unfold dv
  rw [Int.gcd_sub_self_left]
theorem dv_add_left {u l : Int} : dv (u + l) l = dv u l := by
  unfold dv
  rw [Int.gcd_add_self_left]
theorem dv_self {u : Int} (h : 0 ≤ u) : dv u u = u := by
  unfold dv
  rw [Int.gcd_self]
  omega
theorem bw_low : ∀ w : List Int, dv (bw w).1 (bw w).2 = 1
  | [] => by decide
  | s :: w => by
    have ih := bw_low w
    unfold bw
    split
    · show dv (bw w).1 ((bw w).1 + (bw w).2) = 1
      rw [dv_add_right, ih]
    · show dv ((bw w).1 + (bw w).2) (bw w).2 = 1
      rw [dv_add_left, ih]
theorem bw_way {u l : Int} (h1 : 1 ≤ u) (h2 : 1 ≤ l) (h : dv u l = 1) : bw (way u l) = (u, l) := by
  by_cases e : u = l
  · subst e
    rw [dv_self (by omega)] at h
    subst h
    rw [way_eq]
    rfl
  · by_cases h3 : u < l
    · have ih := bw_way (u := u) (l := l - u) h1 (by omega) (by rw [dv_sub_right, h])
      rw [way_lo h1 h3, bw_lo, ih]
      show (u, u + (l - u)) = (u, l)
      rw [show u + (l - u) = l by omega]
    · have ih := bw_way (u := u - l) (l := l) (by omega) h2 (by rw [dv_sub_left, h])
      rw [way_hi h2 (by omega), bw_hi, ih]
      show (u - l + l, l) = (u, l)
      rw [show u - l + l = u by omega]
termination_by (u + l).toNat
decreasing_by all_goals omega
theorem way_01 {u l : Int} : ∀ s ∈ way u l, s = 0 ∨ s = 1 := by
  unfold way
  split
  · rename_i h
    obtain ⟨h1, h2, h3⟩ := h
    split
    · intro s hs
      rcases List.mem_cons.mp hs with rfl | hs
      · exact .inl rfl
      · exact way_01 s hs
    · intro s hs
      rcases List.mem_cons.mp hs with rfl | hs
      · exact .inr rfl
      · exact way_01 s hs
  · intro s hs
    cases hs
termination_by (u + l).toNat
decreasing_by all_goals omega
/-- two bounds, and the rest of the way between -/
theorem bw_step {w : List Int} {s a b c d X Y : Int} (h : X = a * (bw (s :: w)).2 + c * (bw (s :: w)).1) (h2 : Y = b * (bw (s :: w)).2 + d * (bw (s :: w)).1) :
    if s = 0 then X = a * (bw w).2 + (a + c) * (bw w).1 ∧ Y = b * (bw w).2 + (b + d) * (bw w).1 else X = (a + c) * (bw w).2 + c * (bw w).1 ∧ Y = (b + d) * (bw w).2 + d * (bw w).1 := by
  unfold bw at h h2
  split
  · rename_i e
    rw [if_pos e] at h h2
    exact ⟨by rw [h]; grind, by rw [h2]; grind⟩
  · rename_i e
    rw [if_neg e] at h h2
    exact ⟨by rw [h]; grind, by rw [h2]; grind⟩

/-! ### rows by division -/
/-- the row of u divided by l -/
def row (u l : Int) : List Int := if 0 < l then (u / l) :: row l (u % l) else []
termination_by l.toNat
decreasing_by
  have h1 := Int.emod_lt_of_pos u (show 0 < l by assumption)
  omega
theorem row_zero {u l : Int} (h : ¬ 0 < l) : row u l = [] := by
  unfold row
  rw [if_neg h]
theorem row_cons {u l : Int} (h : 0 < l) : row u l = (u / l) :: row l (u % l) := by
  conv => lhs; unfold row
  rw [if_pos h]
theorem row_len {u l : Int} (h : 0 ≤ l) : ((row u l).length : Int) ≤ l + 1 := by
  by_cases h0 : 0 < l
  · have h1 := Int.emod_lt_of_pos u h0
    have h2 := Int.emod_nonneg u (show l ≠ 0 by omega)
    have ih := row_len (u := l) (l := u % l) h2
    rw [row_cons h0, List.length_cons]
    omega
  · rw [row_zero h0]
    show (0 : Int) ≤ _
    omega
termination_by l.toNat
decreasing_by omega
theorem sum_swap {u l : Int} (h1 : 0 < u) (h2 : 0 < l) : (row u l).sum = (row l u).sum := by
  by_cases e : u = l
  · rw [e]
  · by_cases h : u < l
    · rw [row_cons h2, Int.ediv_eq_zero_of_lt (by omega) h, Int.emod_eq_of_lt (by omega) h, List.sum_cons, Int.zero_add]
    · rw [row_cons h1, Int.ediv_eq_zero_of_lt (by omega) (by omega), Int.emod_eq_of_lt (by omega) (by omega), List.sum_cons, Int.zero_add]
theorem sum_add {u l : Int} (h : 0 < l) : (row (u + l) l).sum = 1 + (row u l).sum := by
  rw [row_cons h, row_cons h, List.sum_cons, List.sum_cons, Int.add_emod_right, Int.add_ediv_of_dvd_right (Int.dvd_refl l), Int.ediv_self (by omega)]
  omega
theorem row_sum {u l : Int} (h1 : 1 ≤ u) (h2 : 1 ≤ l) (h : dv u l = 1) : (row u l).sum = ((way u l).length : Int) + 1 := by
  by_cases e : u = l
  · subst e
    rw [dv_self (by omega)] at h
    subst h
    rw [way_eq, row_cons (by decide), row_zero (by decide)]
    decide
  · by_cases h3 : u < l
    · have ih := row_sum (u := u) (l := l - u) h1 (by omega) (by rw [dv_sub_right, h])
      rw [way_lo h1 h3, List.length_cons, sum_swap (by omega) (by omega), show l = (l - u) + u by omega, sum_add (by omega), ← sum_swap (by omega) (by omega)]
      have e2 : l - u + u - u = l - u := by omega
      rw [e2, ih]
      omega
    · have ih := row_sum (u := u - l) (l := l) (by omega) h2 (by rw [dv_sub_left, h])
      have e2 : u = (u - l) + l := by omega
      rw [way_hi h2 (by omega), List.length_cons, e2, sum_add (by omega), ih]
      have e3 : u - l + l - l = u - l := by omega
      rw [e3]
      omega
termination_by (u + l).toNat
decreasing_by all_goals omega
/-! ### what a row stands for, and back -/
theorem dv_mod {u l : Int} : dv l (u % l) = dv u l := by
  have h := Int.emod_add_mul_ediv u l
  unfold dv
  conv => rhs; rw [← h]
  rw [Int.gcd_comm (u % l + l * (u / l)) l, Int.mul_comm, Int.gcd_add_mul_right_right]
theorem dv_zero {u : Int} (h : 0 ≤ u) : dv u 0 = u := by
  unfold dv
  rw [Int.gcd_zero_right]
  omega
theorem st_row {u l : Int} (h : 0 ≤ l) (h0 : 0 < l ∨ u = 1) (h1 : dv u l = 1) : st (row u l) = (u, l) := by
  by_cases hl : 0 < l
  · have h2 := Int.emod_lt_of_pos u hl
    have h3 := Int.emod_nonneg u (show l ≠ 0 by omega)
    have h4 : dv l (u % l) = 1 := by rw [dv_mod, h1]
    have ih := st_row (u := l) (l := u % l) h3 (by
      by_cases z : 0 < u % l
      · exact .inl z
      · right
        have e : u % l = 0 := by omega
        rw [e, dv_zero h] at h4
        exact h4) h4
    rw [row_cons hl]
    show ((u / l) * (st (row l (u % l))).1 + (st (row l (u % l))).2, (st (row l (u % l))).1) = _
    rw [ih]
    show ((u / l) * l + u % l, l) = (u, l)
    rw [Int.ediv_mul_add_emod]
  · rw [row_zero hl]
    rcases h0 with h0 | h0
    · exact absurd h0 hl
    · rw [h0, show l = 0 by omega]
      rfl
termination_by l.toNat
decreasing_by omega
theorem row_pos {u l : Int} (h : 0 ≤ l) (h1 : l < u) : ∀ y ∈ row u l, 1 ≤ y := by
  intro y hy
  by_cases hl : 0 < l
  · have h2 := Int.emod_lt_of_pos u hl
    have h3 := Int.emod_nonneg u (show l ≠ 0 by omega)
    rw [row_cons hl] at hy
    rcases List.mem_cons.mp hy with rfl | hy
    · exact (Int.le_ediv_iff_mul_le hl).mpr (by omega)
    · exact row_pos h3 h2 y hy
  · rw [row_zero hl] at hy
    cases hy
termination_by l.toNat
decreasing_by omega
theorem row_last {u l : Int} (h : 0 < l) (h1 : l < u) : ∀ y, (row u l).getLast? = some y → 2 ≤ y := by
  intro y hy
  have h2 := Int.emod_lt_of_pos u h
  have h3 := Int.emod_nonneg u (show l ≠ 0 by omega)
  rw [row_cons h] at hy
  by_cases hz : 0 < u % l
  · have e : row l (u % l) = (l / (u % l)) :: row (u % l) (l % (u % l)) := row_cons hz
    rw [e, List.getLast?_cons_cons, ← e] at hy
    exact row_last hz h2 y hy
  · rw [row_zero hz] at hy
    have e : u / l = y := Option.some.inj hy
    have h4 := Int.ediv_mul_add_emod u l
    rw [← e]
    by_cases h5 : 2 ≤ u / l
    · exact h5
    · exfalso
      have h6 : (u / l) * l ≤ 1 * l := Int.mul_le_mul_of_nonneg_right (by omega) (by omega)
      omega
termination_by l.toNat
decreasing_by omega
theorem row_ne {u l : Int} (h : 0 < l) : row u l ≠ [] := by
  rw [row_cons h]
  exact List.cons_ne_nil _ _
theorem row_tail {u l : Int} (h : 0 < l) : ∀ y ∈ (row u l).drop 1, 1 ≤ y := by
  rw [row_cons h]
  exact row_pos (Int.emod_nonneg u (by omega)) (Int.emod_lt_of_pos u h)
theorem row_last2 {u l : Int} (h : 0 < l) (h2 : 2 ≤ (row u l).length) : ∀ y, (row u l).getLast? = some y → 2 ≤ y := by
  intro y hy
  rw [row_cons h] at hy h2
  by_cases hz : 0 < u % l
  · have e : row l (u % l) = (l / (u % l)) :: row (u % l) (l % (u % l)) := row_cons hz
    rw [e, List.getLast?_cons_cons, ← e] at hy
    exact row_last hz (Int.emod_lt_of_pos u h) y hy
  · rw [row_zero hz] at h2
    simp at h2
theorem row_len2 {u l : Int} (n : Nat) (h : 0 ≤ l) (hn : l < 2 ^ n) : (row u l).length ≤ 2 * n + 1 := by
  induction n generalizing u l with
  | zero =>
    rw [row_zero (by simp at hn; omega)]
    exact Nat.zero_le _
  | succ n ih =>
    by_cases hl : 0 < l
    · have h2 := Int.emod_lt_of_pos u hl
      have h3 := Int.emod_nonneg u (show l ≠ 0 by omega)
      rw [row_cons hl, List.length_cons]
      by_cases hz : 0 < u % l
      · have h4 := Int.emod_lt_of_pos l hz
        have h5 := Int.emod_nonneg l (show u % l ≠ 0 by omega)
        have h6 := Int.ediv_mul_add_emod l (u % l)
        have h7 : 1 ≤ l / (u % l) := (Int.le_ediv_iff_mul_le hz).mpr (by omega)
        have h8 : 1 * (u % l) ≤ l / (u % l) * (u % l) := Int.mul_le_mul_of_nonneg_right h7 (by omega)
        have := ih (u := u % l) (l := l % (u % l)) h5 (by rw [Int.pow_succ] at hn; omega)
        rw [row_cons hz, List.length_cons]
        omega
      · rw [row_zero hz]
        show 0 + 1 ≤ _
        omega
    · rw [row_zero hl]
      exact Nat.zero_le _
/-- of a canonical rest -/
theorem row_st_rest : ∀ s : List Int, s ≠ [] → (∀ y ∈ s, 1 ≤ y) → (∀ y, s.getLast? = some y → 2 ≤ y) → 0 < (st s).2 ∧ (st s).2 < (st s).1 ∧ row (st s).1 (st s).2 = s
  | [], h, _, _ => absurd rfl h
  | [y], _, _, h2 => by
    have hy := h2 y rfl
    show 0 < (1 : Int) ∧ (1 : Int) < y * 1 + 0 ∧ row (y * 1 + 0) 1 = [y]
    refine ⟨by decide, by omega, ?_⟩
    rw [Int.mul_one, Int.add_zero, row_cons (by decide), Int.ediv_one, row_zero (by rw [Int.emod_one]; decide)]
  | y :: z :: s, _, h1, h2 => by
    obtain ⟨a, b, c⟩ := row_st_rest (z :: s) (List.cons_ne_nil _ _) (fun x hx => h1 x (List.mem_cons_of_mem _ hx)) (fun x hx => h2 x (by rw [List.getLast?_cons_cons]; exact hx))
    have hy := h1 y List.mem_cons_self
    generalize hst : st (z :: s) = ul at *
    obtain ⟨u, l⟩ := ul
    have e : st (y :: z :: s) = (y * u + l, u) := by
      show (y * (st (z :: s)).1 + (st (z :: s)).2, (st (z :: s)).1) = _
      rw [hst]
    rw [e]
    have a' : 0 < l := a
    have b' : l < u := b
    have c' : row u l = z :: s := c
    show 0 < u ∧ u < y * u + l ∧ row (y * u + l) u = y :: z :: s
    have h3 : 1 * u ≤ y * u := Int.mul_le_mul_of_nonneg_right hy (by omega)
    refine ⟨by omega, by omega, ?_⟩
    have e1 : (y * u + l) / u = y := by
      rw [Int.add_comm, Int.add_mul_ediv_right _ _ (by omega), Int.ediv_eq_zero_of_lt (by omega) b', Int.zero_add]
    have e2 : (y * u + l) % u = l := by
      rw [Int.add_comm, Int.add_mul_emod_self_right, Int.emod_eq_of_lt (by omega) b']
    rw [row_cons (by omega), e1, e2, c']
theorem row_st (x : Int) (s : List Int) (h1 : ∀ y ∈ s, 1 ≤ y) (h2 : s ≠ [] → ∀ y, s.getLast? = some y → 2 ≤ y) : 0 < (st (x :: s)).2 ∧ row (st (x :: s)).1 (st (x :: s)).2 = x :: s := by
  cases s with
  | nil =>
    show 0 < (1 : Int) ∧ row (x * 1 + 0) 1 = [x]
    refine ⟨by decide, ?_⟩
    rw [Int.mul_one, Int.add_zero, row_cons (by decide), Int.ediv_one, row_zero (by rw [Int.emod_one]; decide)]
  | cons z s =>
    obtain ⟨a, b, c⟩ := row_st_rest (z :: s) (List.cons_ne_nil _ _) h1 (h2 (List.cons_ne_nil _ _))
    generalize hst : st (z :: s) = ul at *
    obtain ⟨u, l⟩ := ul
    have e : st (x :: z :: s) = (x * u + l, u) := by
      show (x * (st (z :: s)).1 + (st (z :: s)).2, (st (z :: s)).1) = _
      rw [hst]
    rw [e]
    have a' : 0 < l := a
    have b' : l < u := b
    have c' : row u l = z :: s := c
    show 0 < u ∧ row (x * u + l) u = x :: z :: s
    have e1 : (x * u + l) / u = x := by
      rw [Int.add_comm, Int.add_mul_ediv_right _ _ (by omega), Int.ediv_eq_zero_of_lt (by omega) b', Int.zero_add]
    have e2 : (x * u + l) % u = l := by
      rw [Int.add_comm, Int.add_mul_emod_self_right, Int.emod_eq_of_lt (by omega) b']
    exact ⟨by omega, by rw [row_cons (by omega), e1, e2, c']⟩
/-- a last 1 goes into the one ahead -/
theorem st_merge : ∀ (s : List Int) (y : Int), st (s ++ [y, 1]) = st (s ++ [y + 1])
  | [], y => by
    show (y * (1 * 1 + 0) + 1, (1 * 1 + 0 : Int)) = ((y + 1) * 1 + 0, 1)
    rw [show (1 * 1 + 0 : Int) = 1 from rfl, Int.mul_one, Int.mul_one, Int.add_zero]
  | x :: s, y => by
    show (x * (st (s ++ [y, 1])).1 + (st (s ++ [y, 1])).2, (st (s ++ [y, 1])).1) = _
    rw [st_merge s y]
    rfl
theorem ediv_abs {u l : Int} (h : 0 < l) : (u / l).natAbs ≤ u.natAbs := by
  have h1 := Int.ediv_mul_add_emod u l
  have h2 := Int.emod_lt_of_pos u h
  have h3 := Int.emod_nonneg u (show l ≠ 0 by omega)
  by_cases hq : 0 ≤ u / l
  · have : (u / l) * 1 ≤ (u / l) * l := Int.mul_le_mul_of_nonneg_left (by omega) hq
    omega
  · have h4 : (u / l + 1) * l ≤ (u / l + 1) * 1 := by
      have h5 : (-(u / l + 1)) * 1 ≤ (-(u / l + 1)) * l := Int.mul_le_mul_of_nonneg_left (by omega) (by omega)
      rw [Int.neg_mul, Int.neg_mul] at h5
      omega
    rw [Int.add_mul, Int.one_mul] at h4
    omega
theorem row_mem {u l : Int} (h : 0 ≤ l) : ∀ y ∈ row u l, y.natAbs ≤ max u.natAbs l.natAbs := by
  intro y hy
  by_cases hl : 0 < l
  · have h2 := Int.emod_lt_of_pos u hl
    have h3 := Int.emod_nonneg u (show l ≠ 0 by omega)
    rw [row_cons hl] at hy
    rcases List.mem_cons.mp hy with rfl | hy
    · have := ediv_abs (u := u) hl
      omega
    · have := row_mem h3 y hy
      omega
  · rw [row_zero hl] at hy
    cases hy
termination_by l.toNat
decreasing_by omega
theorem row_drop {u l : Int} (h : 0 ≤ l) (h0 : 0 < l ∨ u = 1) (h1 : dv u l = 1) : ∀ j, (st ((row u l).drop j)).1.natAbs ≤ max u.natAbs (max l.natAbs 1) := by
  intro j
  cases j with
  | zero =>
    rw [List.drop_zero, st_row h h0 h1]
    show u.natAbs ≤ _
    omega
  | succ j =>
    by_cases hl : 0 < l
    · have h2 := Int.emod_lt_of_pos u hl
      have h3 := Int.emod_nonneg u (show l ≠ 0 by omega)
      have h4 : dv l (u % l) = 1 := by rw [dv_mod, h1]
      rw [row_cons hl, List.drop_succ_cons]
      have := row_drop (u := l) (l := u % l) h3 (by
        by_cases z : 0 < u % l
        · exact .inl z
        · right
          have e : u % l = 0 := by omega
          rw [e, dv_zero h] at h4
          exact h4) h4 j
      omega
    · rw [row_zero hl, List.drop_nil]
      show (1 : Int).natAbs ≤ _
      simp
      omega
termination_by l.toNat
decreasing_by omega
theorem st_abs : ∀ xs : List Int, (∀ y ∈ xs, y.natAbs ≤ 40) → (st xs).1.natAbs ≤ 41 ^ xs.length ∧ (st xs).2.natAbs ≤ 41 ^ xs.length
  | [], _ => ⟨Nat.le_refl 1, Nat.zero_le _⟩
  | x :: s, h => by
    obtain ⟨a, b⟩ := st_abs s fun y hy => h y (List.mem_cons_of_mem _ hy)
    have hx := h x List.mem_cons_self
    rw [List.length_cons, Nat.pow_succ]
    have h1 : (x * (st s).1).natAbs ≤ 40 * 41 ^ s.length := by
      rw [Int.natAbs_mul]
      exact Nat.mul_le_mul hx a
    exact ⟨by show (x * (st s).1 + (st s).2).natAbs ≤ _; omega, by show (st s).1.natAbs ≤ _; omega⟩
end RR
/-! RRS: the promises of the defs. -/
namespace RR
open PySem PySem.Spec PyProof.Rows L2
/-- within four thousand bits -/
structure Big (x : Int) : Prop where
  lt : x.natAbs < 2 ^ 4000
theorem big_of {x : Int} (h : x.natAbs < 2 ^ 60) : Big x := ⟨Nat.lt_of_lt_of_le h (Nat.pow_le_pow_right (by decide) (by decide))⟩
theorem big_le {x y : Int} (h : x.natAbs ≤ y.natAbs) (hy : Big y) : Big x := ⟨Nat.lt_of_le_of_lt h hy.lt⟩
theorem len1 {α : Type} {a : α} : [a].length ≤ sizeLine := small_le (show 1 ≤ 10000000 by decide)
theorem len2 {α : Type} {a b : α} : [a, b].length ≤ sizeLine := small_le (show 2 ≤ 10000000 by decide)
theorem len4 {α : Type} {a b c d : α} : [a, b, c, d].length ≤ sizeLine := small_le (show 4 ≤ 10000000 by decide)
theorem map_get {ns : List Int} {i : Nat} {x : V} (h : (ns.map V.int)[i]? = some x) : ∃ n, ns[i]? = some n ∧ x = .int n := by
  rw [List.getElem?_map] at h
  cases e : ns[i]? with
  | none =>
    rw [e] at h
    cases h
  | some n =>
    rw [e] at h
    exact ⟨n, rfl, (Option.some.inj h).symm⟩
theorem get_map {ns : List Int} {i : Nat} {n : Int} (h : ns[i]? = some n) : (ns.map V.int)[i]? = some (.int n) := by
  rw [List.getElem?_map, h]
  rfl
theorem Big.log {x : Int} (h : Big x) : x.natAbs.log2 < 4000 := PySem.Flt.log2_lt_of (by decide) h.lt
theorem Big.mul {x y : Int} (h : Big x) (h2 : Big y) : CMulW x y := by
  have h3 := h.log
  have h4 := h2.log
  unfold CMulW
  omega
/-- divisor -/
def sp_divisor : Sp := fun vs H Q _ => ∃ a b : Int, vs = [.int a, .int b] ∧ Q (.int (dv a b)) H
/-- lowest, as the laws have it (the lower one is not 0) -/
def sp_lowH : Sp := fun vs H Q _ => ∃ u l : Int, vs = [.int u, .int l] ∧ l ≠ 0 ∧ Big u ∧ Big l ∧ ∀ p, H p = none → Q (.ref p) (upd H p (tI [(low u l).1, (low u l).2]))
/-- lowest -/
def sp_lowest (C : Addr) : Sp := fun vs H Q E => ∃ u l : Int, vs = [.int u, .int l] ∧ Big u ∧ Big l ∧ (l = 0 → E (.ref C) none H) ∧ (l ≠ 0 → ∀ p, H p = none → Q (.ref p) (upd H p (tI [(low u l).1, (low u l).2])))
/-- a cell of the script -/
def cellOf (ns : List Int) (k : Nat) : Int := ns.getD k 0
def sp_cell (K : PySem.W.Frag) : Sp := fun vs H Q _ => ∃ (a : Addr) (ns : List Int) (k : Nat), vs = [.ref a, .int k] ∧ SqL K H a (ns.map V.int) ∧ k < 1000 ∧ Q (.int (cellOf ns k)) H
/-- a draw -/
def mix (c p m : Int) : Int := c * 48271 % p % m
def sp_mix : Sp := fun vs H Q _ => ∃ c p m : Int, vs = [.int c, .int p, .int m] ∧ 0 < p ∧ 0 < m ∧ Q (.int (mix c p m)) H
/-- a drawn fraction -/
def frac (c o w : Int) : Int × Int := low (mix c 1000003 (2 * w + 1) - w) (1 + mix o 999983 w)
def sp_fraction : Sp := fun vs H Q _ => ∃ c o w : Int, vs = [.int c, .int o, .int w] ∧ 0 < w ∧ w < 1000000 ∧ ∀ p, H p = none → Q (.ref p) (upd H p (tI [(frac c o w).1, (frac c o w).2]))
/-- fraction_of -/
def sp_fraction_of (C : Addr) : Sp := fun vs H Q E => ∃ (t : Addr) (xs : List Int), vs = [.ref t] ∧ H t = some (tI xs) ∧ xs.length ≤ 1000000 ∧
  (isRow xs = false → ∀ H', Same H H' → E (.ref C) none H') ∧
  (isRow xs = true → (∀ y ∈ xs, Big y) ∧ (∀ j, Big (st (xs.drop j)).1) ∧ ∀ H' p, Same H H' → H p = none → H' p = some (tI [(st xs).1, (st xs).2]) → Q (.ref p) H')
/-- way_to -/
def sp_way_to (C : Addr) : Sp := fun vs H Q E => ∃ (t : Addr) (u l : Int), vs = [.ref t] ∧ H t = some (tI [u, l]) ∧ (u < 1 → E (.ref C) none H) ∧
  (1 ≤ u → 1 ≤ l ∧ (way u l).length ≤ 1000000 ∧ ∀ H' p, Same H H' → H p = none → H' p = some (tI (way u l)) → Q (.ref p) H')
/-- middle -/
def sp_middle : Sp := fun vs H Q _ => ∃ (t u : Addr) (a b c d : Int), vs = [.ref t, .ref u] ∧ H t = some (tI [a, b]) ∧ H u = some (tI [c, d]) ∧ ∀ p, H p = none → Q (.ref p) (upd H p (tI [a + c, b + d]))
/-- where a way leads -/
def sp_walked : Sp := fun vs H Q _ => ∃ (t : Addr) (ws : List Int), vs = [.ref t] ∧ H t = some (tI ws) ∧ (∀ s ∈ ws, s = 0 ∨ s = 1) ∧ ∀ H' p, Same H H' → H p = none → H' p = some (tI [(bw ws).1, (bw ws).2]) → Q (.ref p) H'
/-- row_of -/
def sp_row_of : Sp := fun vs H Q _ => ∃ (t : Addr) (u l : Int), vs = [.ref t] ∧ H t = some (tI [u, l]) ∧ 0 < l ∧ Big l ∧ (row u l).length ≤ 1000000 ∧ ∀ H' p, Same H H' → H p = none → H' p = some (tI (row u l)) → Q (.ref p) H'
/-- a whole number -/
def sp_whole : Sp := fun vs H Q _ => ∃ z : Int, vs = [.int z] ∧ Q (.bl true) H
/-- a sequence of ints: a list or a tuple -/
def Sq (H : Hp) (t : Addr) (xs : List Int) : Prop := H t = some (tI xs) ∨ H t = some (lI xs)
theorem Sq.same {H H' : Hp} {t : Addr} {xs : List Int} (h : Sq H t xs) (s : Same H H') : Sq H' t xs := h.imp (s _ _) (s _ _)
/-- stands, by hand -/
def sp_stands : Sp := fun vs H Q _ => ∃ (t : Addr) (xs : List Int), vs = [.ref t] ∧ Sq H t xs ∧ xs ≠ [] ∧ xs.length ≤ 1000000 ∧ (∀ y ∈ xs, Big y) ∧ (∀ j, Big (st (xs.drop j)).1) ∧ ∀ H' p, Same H H' → H p = none → H' p = some (tI [(st xs).1, (st xs).2]) → Q (.ref p) H'
/-- first_parts of a fraction -/
def sp_first_parts0 : Sp := fun vs H Q _ => ∃ (t : Addr) (u l : Int) (k : Nat), vs = [.ref t, .int k] ∧ H t = some (tI [u, l]) ∧ 0 < l ∧ Big l ∧ (row u l).length ≤ 1000000 ∧ ∀ H' p, Same H H' → H p = none → H' p = some (tI ((row u l).take k)) → Q (.ref p) H'
end RR
/-! RRQ: squares, roots of square equations and their cuts: plain mathematics. -/
namespace RR

/-! ### square roots of whole numbers -/
def rtStep (r n : Nat) : Nat := if (2 * r + 1) * (2 * r + 1) ≤ n then 2 * r + 1 else 2 * r
def rtF : Nat → Nat → Nat
  | 0, _ => 0
  | k + 1, n => rtStep (rtF k (n / 4)) n
theorem rtF_spec : ∀ k n, n < 4 ^ k → rtF k n * rtF k n ≤ n ∧ n < (rtF k n + 1) * (rtF k n + 1)
  | 0, n, h => by
    have : n = 0 := by simpa using h
    subst this
    decide
  | k + 1, n, h => by
    have h4 : n / 4 < 4 ^ k := by
      rw [Nat.pow_succ] at h
      omega
    obtain ⟨a, b⟩ := rtF_spec k (n / 4) h4
    show rtStep (rtF k (n / 4)) n * rtStep (rtF k (n / 4)) n ≤ n ∧ n < (rtStep (rtF k (n / 4)) n + 1) * (rtStep (rtF k (n / 4)) n + 1)
    generalize rtF k (n / 4) = r at *
    unfold rtStep
    have e1 : (2 * r + 1) * (2 * r + 1) = 4 * (r * r) + 4 * r + 1 := by grind
    have e2 : 2 * r * (2 * r) = 4 * (r * r) := by grind
    have e3 : (r + 1) * (r + 1) = r * r + 2 * r + 1 := by grind
    have e4 : (2 * r + 1 + 1) * (2 * r + 1 + 1) = 4 * (r * r) + 8 * r + 4 := by grind
    split
    · rw [e4]
      omega
    · omega
/-- the whole root of n, for n from 0 on -/
def rt (n : Int) : Int := (rtF (n.toNat.log2 / 2 + 1) n.toNat : Nat)
theorem rt_spec {n : Int} (h : 0 ≤ n) : 0 ≤ rt n ∧ rt n * rt n ≤ n ∧ n < (rt n + 1) * (rt n + 1) := by
  have h1 : n.toNat < 4 ^ (n.toNat.log2 / 2 + 1) := by
    have h2 : n.toNat < 2 ^ (n.toNat.log2 + 1) := Nat.lt_log2_self
    refine Nat.lt_of_lt_of_le h2 ?_
    rw [show (4 : Nat) = 2 ^ 2 from rfl, ← Nat.pow_mul]
    exact Nat.pow_le_pow_right (by decide) (by omega)
  obtain ⟨a, b⟩ := rtF_spec _ _ h1
  unfold rt
  generalize rtF (n.toNat.log2 / 2 + 1) n.toNat = r at *
  refine ⟨Int.natCast_nonneg _, ?_, ?_⟩
  · have : (r : Int) * (r : Int) = ((r * r : Nat) : Int) := by simp
    omega
  · have : ((r : Int) + 1) * ((r : Int) + 1) = (((r + 1) * (r + 1) : Nat) : Int) := by simp
    omega
theorem sq_lt {a b : Int} (h : 0 ≤ b) (h2 : a * a < b * b) : a < b := by
  by_cases h3 : a < b
  · exact h3
  · have := Int.mul_self_le_mul_self h (show b ≤ a by omega)
    omega
theorem sq_le {a b : Int} (h : 0 ≤ b) (h2 : a * a ≤ b * b) : a ≤ b := by
  by_cases h3 : a ≤ b
  · exact h3
  · have := Int.mul_self_lt_mul_self h (show b < a by omega)
    omega
theorem sq_lt' {a b : Int} (h : 0 ≤ b) (h2 : a * a < b * b) : -b < a := by
  have := sq_lt (a := -a) h (by rw [Int.neg_mul_neg]; exact h2)
  omega
theorem rt_unique {n r : Int} (h : 0 ≤ r) (h1 : r * r ≤ n) (h2 : n < (r + 1) * (r + 1)) : rt n = r := by
  have h0 : 0 ≤ n := Int.le_trans (Int.mul_nonneg h h) h1
  obtain ⟨a, b, c⟩ := rt_spec h0
  have x1 := sq_lt (a := r) (b := rt n + 1) (by omega) (by omega)
  have x2 := sq_lt (a := rt n) (b := r + 1) (by omega) (by omega)
  omega
theorem rt_le {n : Int} (h : 0 ≤ n) : rt n ≤ n := by
  obtain ⟨a, b, c⟩ := rt_spec h
  by_cases h1 : rt n ≤ 0
  · omega
  · have : rt n * 1 ≤ rt n * rt n := Int.mul_le_mul_of_nonneg_left (by omega) a
    omega
/-- whether n is a square -/
def isSq (n : Int) : Bool := decide (rt n * rt n = n)
theorem isSq_of {n x : Int} (h : x * x = n) : isSq n = true := by
  have key : ∀ y : Int, 0 ≤ y → y * y = n → isSq n = true := fun y hy h => by
    have e : rt n = y := rt_unique hy (by omega) (by
      have : (y + 1) * (y + 1) = y * y + 2 * y + 1 := by grind
      omega)
    unfold isSq
    rw [e]
    exact decide_eq_true h
  by_cases h0 : 0 ≤ x
  · exact key x h0 h
  · exact key (-x) (by omega) (by rw [Int.neg_mul_neg]; exact h)
/-- Newton: one step down from above -/
theorem newton {n f : Int} (hn : 2 ≤ n) (hf : 1 ≤ f) : 1 ≤ (f + n / f) / 2 ∧ n < ((f + n / f) / 2 + 1) * ((f + n / f) / 2 + 1) ∧ (f ≤ (f + n / f) / 2 → f * f ≤ n) := by
  have h1 := Int.ediv_mul_add_emod n f
  have h2 := Int.emod_lt_of_pos n (show 0 < f by omega)
  have h3 := Int.emod_nonneg n (show f ≠ 0 by omega)
  have hq : 0 ≤ n / f := Int.ediv_nonneg (by omega) (by omega)
  have hq1 : f = 1 → n / f = n := fun e => by rw [e, Int.ediv_one]
  generalize n / f = q at *
  generalize n % f = r at *
  generalize hg : (f + q) / 2 = g at *
  have hg1 : f + q ≤ 2 * g + 1 := by omega
  have hg2 : 2 * g ≤ f + q := by omega
  refine ⟨by omega, ?_, fun h => ?_⟩
  · have x1 : 0 ≤ (f - (q + 1)) * (f - (q + 1)) := by
      by_cases hh : 0 ≤ f - (q + 1)
      · exact Int.mul_nonneg hh hh
      · have := Int.mul_nonneg (show 0 ≤ -(f - (q + 1)) by omega) (show 0 ≤ -(f - (q + 1)) by omega)
        rw [Int.neg_mul_neg] at this
        exact this
    have x2 : (f + q + 1) * (f + q + 1) ≤ (2 * g + 2) * (2 * g + 2) := Int.mul_self_le_mul_self (by omega) (by omega)
    have x3 : (2 * g + 2) * (2 * g + 2) = 4 * ((g + 1) * (g + 1)) := by grind
    have x4 : (f - (q + 1)) * (f - (q + 1)) = (f + q + 1) * (f + q + 1) - 4 * (q * f) - 4 * f := by grind
    omega
  · have x1 : f * f ≤ q * f := Int.mul_le_mul_of_nonneg_right (by omega) (by omega)
    omega
/-! ### no square is d times a square -/
theorem no_sq {d x y : Int} (h : isSq d = false) (e : x * x = d * (y * y)) : y = 0 := by
  by_cases hy : y = 0
  · exact hy
  exfalso
  have h1 : y * y ∣ x * x := ⟨d, by rw [e, Int.mul_comm]⟩
  have h2 : y ^ 2 ∣ x ^ 2 := by
    rw [Int.pow_succ, Int.pow_succ, Int.pow_succ, Int.pow_succ]
    simpa using h1
  obtain ⟨k, rfl⟩ := (Int.pow_dvd_pow_iff (by decide)).mp h2
  have h3 : (y * y) * (k * k) = (y * y) * d := by grind
  have h4 : y * y ≠ 0 := by
    intro z
    rcases Int.mul_eq_zero.mp z with z | z <;> exact hy z
  have h5 := Int.eq_of_mul_eq_mul_left h4 h3
  rw [isSq_of h5] at h
  cases h
/-! ### whole numbers and a root: x + y times the root of d, in order -/
/-- d is above 0 and no square -/
structure Ns (d : Int) : Prop where
  pos : 0 < d
  no : isSq d = false
def nm (d x y : Int) : Int := x * x - d * (y * y)
/-- x + y times the root of d is above 0 -/
def Ps (d x y : Int) : Prop := (0 < nm d x y ∧ 0 < x) ∨ (nm d x y < 0 ∧ 0 < y)
theorem nm_zero {d x y : Int} (h : Ns d) (e : nm d x y = 0) : x = 0 ∧ y = 0 := by
  have hy : y = 0 := no_sq (x := x) h.no (by unfold nm at e; omega)
  subst hy
  have : x * x = 0 := by unfold nm at e; omega
  rcases Int.mul_eq_zero.mp this with z | z <;> exact ⟨z, rfl⟩
theorem nm_mul (d x y z w : Int) : nm d (x * z + d * (y * w)) (x * w + y * z) = nm d x y * nm d z w := by
  unfold nm
  grind
theorem sqn (x : Int) : 0 ≤ x * x := by
  by_cases h : 0 ≤ x
  · exact Int.mul_nonneg h h
  · have := Int.mul_nonneg (show 0 ≤ -x by omega) (show 0 ≤ -x by omega)
    rw [Int.neg_mul_neg] at this
    exact this
theorem sqp {x : Int} (h : x ≠ 0) : 0 < x * x := by
  have h1 := sqn x
  have h2 : x * x ≠ 0 := fun z => by rcases Int.mul_eq_zero.mp z with z | z <;> exact h z
  omega
theorem Ps.ne {d x y : Int} (h : Ps d x y) : ¬ (x = 0 ∧ y = 0) := by
  rintro ⟨rfl, rfl⟩
  rcases h with ⟨_, h⟩ | ⟨_, h⟩ <;> exact absurd h (by decide)
theorem nm_neg (d x y : Int) : nm d (-x) (-y) = nm d x y := by
  unfold nm
  grind
theorem Ps.neg {d x y : Int} (h : Ps d x y) : ¬ Ps d (-x) (-y) := by
  intro k
  unfold Ps at h k
  rw [nm_neg] at k
  omega
theorem Ps.tri {d x y : Int} (h : Ns d) (h0 : ¬ (x = 0 ∧ y = 0)) : Ps d x y ∨ Ps d (-x) (-y) := by
  unfold Ps
  rw [nm_neg]
  have h1 : nm d x y ≠ 0 := fun z => h0 (nm_zero h z)
  by_cases hn : 0 < nm d x y
  · have : x ≠ 0 := by
      rintro rfl
      have h2 : 0 ≤ d * (y * y) := Int.mul_nonneg (Int.le_of_lt h.pos) (sqn y)
      unfold nm at hn
      omega
    omega
  · have : y ≠ 0 := by
      rintro rfl
      have h2 := sqn x
      have e0 : d * (0 * 0) = 0 := by simp
      unfold nm at hn h1
      rw [e0] at hn h1
      omega
    omega
theorem Ps.int {d n : Int} (h : 0 < n) : Ps d n 0 := by
  refine .inl ⟨?_, h⟩
  unfold nm
  have := Int.mul_pos h h
  simp
  exact this
theorem Ps.root {d n : Int} (hd : 0 < d) (h : 0 < n) : Ps d 0 n := by
  refine .inr ⟨?_, h⟩
  unfold nm
  have := Int.mul_pos hd (Int.mul_pos h h)
  omega
theorem abs_lt_of_sq {p q : Int} (hq : 0 < q) (h : p * p < q * q) : -q < p ∧ p < q := ⟨sq_lt' (Int.le_of_lt hq) h, sq_lt (Int.le_of_lt hq) h⟩
theorem Ps.mul {d x y z w : Int} (hd : Ns d) (h : Ps d x y) (k : Ps d z w) : Ps d (x * z + d * (y * w)) (x * w + y * z) := by
  have key : ∀ x y z w : Int, 0 < nm d x y → 0 < x → nm d z w < 0 → 0 < w → nm d (x * z + d * (y * w)) (x * w + y * z) < 0 ∧ 0 < x * w + y * z := by
    intro x y z w a b c e
    refine ⟨by rw [nm_mul]; exact Int.mul_neg_of_pos_of_neg a c, ?_⟩
    have h1 : (y * z) * (y * z) < (x * w) * (x * w) := by
      unfold nm at a c
      have c1 : z * z < d * (w * w) := by omega
      have a1 : d * (y * y) < x * x := by omega
      have k1 : (d * (y * y)) * (z * z) ≤ (x * x) * (z * z) := Int.mul_le_mul_of_nonneg_right (by omega) (sqn z)
      have k2 : (x * x) * (z * z) < (x * x) * (d * (w * w)) := Int.mul_lt_mul_of_pos_left c1 (Int.mul_pos b b)
      have k3 : d * ((y * z) * (y * z)) < d * ((x * w) * (x * w)) := by
        have e1 : d * ((y * z) * (y * z)) = (d * (y * y)) * (z * z) := by grind
        have e2 : d * ((x * w) * (x * w)) = (x * x) * (d * (w * w)) := by grind
        omega
      exact Int.lt_of_mul_lt_mul_left k3 (Int.le_of_lt hd.pos)
    have := abs_lt_of_sq (Int.mul_pos b e) h1
    omega
  rcases h with ⟨a, b⟩ | ⟨a, b⟩ <;> rcases k with ⟨c, e⟩ | ⟨c, e⟩
  · refine .inl ⟨by rw [nm_mul]; exact Int.mul_pos a c, ?_⟩
    have h1 : (d * (y * w)) * (d * (y * w)) < (x * z) * (x * z) := by
      unfold nm at a c
      have a1 : d * (y * y) < x * x := by omega
      have c1 : d * (w * w) < z * z := by omega
      have n1 : 0 ≤ d * (w * w) := Int.mul_nonneg (Int.le_of_lt hd.pos) (sqn w)
      have k1 : (d * (y * y)) * (d * (w * w)) ≤ (x * x) * (d * (w * w)) := Int.mul_le_mul_of_nonneg_right (by omega) n1
      have k2 : (x * x) * (d * (w * w)) < (x * x) * (z * z) := Int.mul_lt_mul_of_pos_left c1 (Int.mul_pos b b)
      have e1 : (d * (y * w)) * (d * (y * w)) = (d * (y * y)) * (d * (w * w)) := by grind
      have e2 : (x * z) * (x * z) = (x * x) * (z * z) := by grind
      omega
    have := abs_lt_of_sq (Int.mul_pos b e) h1
    omega
  · exact .inr (key x y z w a b c e)
  · have := key z w x y c e a b
    refine .inr ?_
    rw [show x * z + d * (y * w) = z * x + d * (w * y) by grind, show x * w + y * z = z * y + w * x by grind]
    exact this
  · refine .inl ⟨by rw [nm_mul]; exact Int.mul_pos_of_neg_of_neg a c, ?_⟩
    have h1 : (x * z) * (x * z) < (d * (y * w)) * (d * (y * w)) := by
      unfold nm at a c
      have a1 : x * x < d * (y * y) := by omega
      have c1 : z * z < d * (w * w) := by omega
      have n1 : 0 < d * (y * y) := Int.mul_pos hd.pos (Int.mul_pos b b)
      have k1 : (x * x) * (z * z) ≤ (d * (y * y)) * (z * z) := Int.mul_le_mul_of_nonneg_right (by omega) (sqn z)
      have k2 : (d * (y * y)) * (z * z) < (d * (y * y)) * (d * (w * w)) := Int.mul_lt_mul_of_pos_left c1 n1
      have e1 : (d * (y * w)) * (d * (y * w)) = (d * (y * y)) * (d * (w * w)) := by grind
      have e2 : (x * z) * (x * z) = (x * x) * (z * z) := by grind
      omega
    have := abs_lt_of_sq (Int.mul_pos hd.pos (Int.mul_pos b e)) h1
    omega
/-- divided by what is above 0 -/
theorem Ps.div {d x y z w : Int} (hd : Ns d) (h : Ps d (x * z + d * (y * w)) (x * w + y * z)) (k : Ps d z w) : Ps d x y := by
  by_cases h0 : x = 0 ∧ y = 0
  · obtain ⟨rfl, rfl⟩ := h0
    exact absurd ⟨by simp, by simp⟩ h.ne
  · rcases Ps.tri hd h0 with h1 | h1
    · exact h1
    · have h2 := Ps.mul hd h1 k
      rw [show -x * z + d * (-y * w) = -(x * z + d * (y * w)) by grind, show -x * w + -y * z = -(x * w + y * z) by grind] at h2
      exact absurd h2 h.neg
theorem Ps.addN {d x y n : Int} (hd : Ns d) (h : Ps d x y) (hn : 0 ≤ n) : Ps d (x + n) y := by
  rcases h with ⟨a, b⟩ | ⟨a, b⟩
  · refine .inl ⟨?_, by omega⟩
    have := Int.mul_self_le_mul_self (show 0 ≤ x by omega) (show x ≤ x + n by omega)
    unfold nm at *
    omega
  · by_cases h1 : nm d (x + n) y < 0
    · exact .inr ⟨h1, b⟩
    · have h2 : nm d (x + n) y ≠ 0 := fun z => by have := (nm_zero hd z).2; omega
      refine .inl ⟨by omega, ?_⟩
      have h3 : x * x < (x + n) * (x + n) := by
        unfold nm at *
        omega
      by_cases h4 : 0 < x + n
      · exact h4
      · exfalso
        have := Int.mul_self_le_mul_self (show 0 ≤ -(x + n) by omega) (show -(x + n) ≤ -x by omega)
        rw [Int.neg_mul_neg, Int.neg_mul_neg] at this
        omega
theorem Ps.add {d x y z w : Int} (hd : Ns d) (h : Ps d x y) (k : Ps d z w) : Ps d (x + z) (y + w) := by
  by_cases hn : 0 < nm d x y
  · have hx : 0 < x := by
      rcases h with ⟨a, b⟩ | ⟨a, b⟩ <;> omega
    have hc : Ps d x (-y) := .inl ⟨by unfold nm at *; rw [Int.neg_mul_neg]; exact hn, hx⟩
    have h1 := Ps.addN hd (Ps.mul hd k hc) (Int.le_of_lt hn)
    refine Ps.div hd (z := x) (w := -y) ?_ hc
    rw [show (x + z) * x + d * ((y + w) * -y) = z * x + d * (w * -y) + nm d x y by unfold nm; grind, show (x + z) * -y + (y + w) * x = z * -y + w * x by grind]
    exact h1
  · have h0 : nm d x y ≠ 0 := fun z => h.ne (nm_zero hd z)
    have hy : 0 < y := by
      rcases h with ⟨a, b⟩ | ⟨a, b⟩ <;> omega
    have hc : Ps d (-x) y := .inr ⟨by unfold nm at *; rw [Int.neg_mul_neg]; omega, hy⟩
    have h1 := Ps.addN hd (Ps.mul hd k hc) (n := -nm d x y) (by omega)
    refine Ps.div hd (z := -x) (w := y) ?_ hc
    rw [show (x + z) * -x + d * ((y + w) * y) = z * -x + d * (w * y) + -nm d x y by unfold nm; grind, show (x + z) * y + (y + w) * -x = z * y + w * -x by grind]
    exact h1
theorem Ps.smul {d x y n : Int} (hd : Ns d) (h : Ps d x y) (hn : 0 < n) : Ps d (n * x) (n * y) := by
  have := Ps.mul hd (Ps.int hn) h
  rw [show n * x + d * (0 * y) = n * x by grind, show n * y + 0 * x = n * y by grind] at this
  exact this
theorem Ps.sdiv {d x y n : Int} (hd : Ns d) (h : Ps d (n * x) (n * y)) (hn : 0 < n) : Ps d x y := by
  refine Ps.div hd (z := n) (w := 0) ?_ (Ps.int hn)
  rw [show x * n + d * (y * 0) = n * x by grind, show x * 0 + y * n = n * y by grind]
  exact h
end RR
/-! RRC: numbers as (p + q times the root of d) divided by r, and how fractions lie to them: plain mathematics. -/
namespace RR
def fm (a b c u l : Int) : Int := a * u * u + b * u * l + c * l * l
def ht (a b c : Int) : Int := b * b - 4 * a * c
/-- whether a root is greater than u divided by l, as both the program and the laws have it -/
def ab (a b c s u l : Int) : Bool := if s = 1 then !decide (0 < 2 * a * u + b * l) || decide (fm a b c u l < 0) else !decide (0 < 2 * a * u + b * l) && decide (0 < fm a b c u l)
def sg (s : Int) : Int := 2 * s - 1
structure IsR (a b c s : Int) : Prop where
  ha : 0 < a
  hs : s = 0 ∨ s = 1
  g : dv (dv a b) c = 1
  n : Ns (ht a b c)
theorem fm_nm (a b c u l s : Int) (hs : s = 0 ∨ s = 1) : nm (ht a b c) (-(2 * a * u + b * l)) (sg s * l) = 4 * a * fm a b c u l := by
  unfold nm ht fm sg
  rcases hs with rfl | rfl <;> grind
theorem ab_ps {a b c s u l : Int} (ha : 0 < a) (hs : s = 0 ∨ s = 1) (hn : Ns (ht a b c)) (hl : 0 < l) : ab a b c s u l = true ↔ Ps (ht a b c) (-(2 * a * u + b * l)) (sg s * l) := by
  unfold Ps
  rw [fm_nm a b c u l s hs]
  have hd : 0 < ht a b c * (l * l) := Int.mul_pos hn.pos (Int.mul_pos hl hl)
  have e : 4 * a * fm a b c u l = (2 * a * u + b * l) * (2 * a * u + b * l) - ht a b c * (l * l) := by
    unfold fm ht
    grind
  have hf : 0 < fm a b c u l → 0 < 4 * a * fm a b c u l := fun h => Int.mul_pos (by omega) h
  have hf2 : fm a b c u l < 0 → 4 * a * fm a b c u l < 0 := fun h => Int.mul_neg_of_pos_of_neg (by omega) h
  have hf3 : fm a b c u l = 0 → False := fun h => by
    have h2 : nm (ht a b c) (-(2 * a * u + b * l)) (sg s * l) = 0 := by rw [fm_nm a b c u l s hs, h, Int.mul_zero]
    have := (nm_zero hn h2).2
    rcases hs with rfl | rfl <;> (unfold sg at this; omega)
  have hw : 2 * a * u + b * l = 0 → 4 * a * fm a b c u l < 0 := fun h => by
    rw [e, h]
    omega
  have hc : (0 < fm a b c u l ∧ 0 < 4 * a * fm a b c u l) ∨ (fm a b c u l < 0 ∧ 4 * a * fm a b c u l < 0) := by
    by_cases h1 : 0 < fm a b c u l
    · exact .inl ⟨h1, hf h1⟩
    · by_cases h2 : fm a b c u l = 0
      · exact (hf3 h2).elim
      · exact .inr ⟨by omega, hf2 (by omega)⟩
  have hw2 : 2 * a * u + b * l ≠ 0 ∨ 4 * a * fm a b c u l < 0 := by
    by_cases h1 : 2 * a * u + b * l = 0
    · exact .inr (hw h1)
    · exact .inl h1
  clear hf hf2 hf3 hw
  unfold ab
  generalize 4 * a * fm a b c u l = g at *
  generalize 2 * a * u + b * l = w at *
  generalize fm a b c u l = f at *
  rcases hs with rfl | rfl
  · rw [if_neg (by decide)]
    simp [sg]
    omega
  · rw [if_pos rfl]
    simp [sg]
    omega
/-- u divided by l is less than the number -/
def Ov (d p q r u l : Int) : Prop := Ps d (p * l - u * r) (q * l)
/-- u divided by l is greater than the number -/
def Be (d p q r u l : Int) : Prop := Ps d (u * r - p * l) (-(q * l))
theorem ab_ov {a b c s u l : Int} (R : IsR a b c s) (hl : 0 < l) : ab a b c s u l = true ↔ Ov (ht a b c) (-b) (sg s) (2 * a) u l := by
  rw [ab_ps R.ha R.hs R.n hl]
  unfold Ov
  rw [show -b * l - u * (2 * a) = -(2 * a * u + b * l) by grind]
theorem sg_ne {s : Int} (h : s = 0 ∨ s = 1) : sg s ≠ 0 := by
  rcases h with rfl | rfl <;> decide
theorem ab_be {a b c s u l : Int} (R : IsR a b c s) (hl : 0 < l) : ab a b c s u l = false ↔ Be (ht a b c) (-b) (sg s) (2 * a) u l := by
  have h1 := ab_ov (u := u) R hl
  unfold Ov at h1
  unfold Be
  rw [show u * (2 * a) - -b * l = -(-b * l - u * (2 * a)) by grind]
  constructor
  · intro h
    have h2 : ¬ (-b * l - u * (2 * a) = 0 ∧ sg s * l = 0) := fun z => by
      rcases Int.mul_eq_zero.mp z.2 with z | z
      · exact sg_ne R.hs z
      · omega
    rcases Ps.tri R.n h2 with h3 | h3
    · rw [h1.mpr h3] at h
      cases h
    · exact h3
  · intro h
    cases e : ab a b c s u l with
    | false => rfl
    | true => exact absurd h (h1.mp e).neg
section
variable {d p q r : Int}
theorem Ov.not {u l : Int} (h : Ov d p q r u l) : ¬ Be d p q r u l := by
  unfold Ov at h
  unfold Be
  rw [show u * r - p * l = -(p * l - u * r) by grind]
  exact h.neg
/-- what is less than a lower one is lower -/
theorem Ov.le {u l v m : Int} (hd : Ns d) (hr : 0 < r) (hl : 0 < l) (hm : 0 < m) (h : Ov d p q r u l) (k : v * l ≤ u * m) : Ov d p q r v m := by
  unfold Ov at *
  have h1 := Ps.addN hd (Ps.smul hd h hm) (n := r * (u * m - v * l)) (Int.mul_nonneg (Int.le_of_lt hr) (by omega))
  refine Ps.sdiv hd (n := l) ?_ hl
  rw [show l * (p * m - v * r) = m * (p * l - u * r) + r * (u * m - v * l) by grind, show l * (q * m) = m * (q * l) by grind]
  exact h1
theorem Be.le {u l v m : Int} (hd : Ns d) (hr : 0 < r) (hl : 0 < l) (hm : 0 < m) (h : Be d p q r u l) (k : u * m ≤ v * l) : Be d p q r v m := by
  unfold Be at *
  have h1 := Ps.addN hd (Ps.smul hd h hm) (n := r * (v * l - u * m)) (Int.mul_nonneg (Int.le_of_lt hr) (by omega))
  refine Ps.sdiv hd (n := l) ?_ hl
  rw [show l * (v * r - p * m) = m * (u * r - p * l) + r * (v * l - u * m) by grind, show l * -(q * m) = m * -(q * l) by grind]
  exact h1
/-- of one above and one below -/
theorem ov_be_lt {u l v m : Int} (hd : Ns d) (hr : 0 < r) (hl : 0 < l) (hm : 0 < m) (h : Ov d p q r u l) (k : Be d p q r v m) : u * m < v * l := by
  by_cases e : u * m < v * l
  · exact e
  · exact absurd k (Ov.le hd hr hl hm h (by omega)).not
end
/-- the part of a root -/
def partR (a b c s : Int) : Int := if s = 0 then (0 - rt (ht a b c) - 1 - b) / (2 * a) else (rt (ht a b c) - b) / (2 * a)
theorem fl {x y : Int} (h : 0 < y) : x / y * y ≤ x ∧ x < (x / y + 1) * y := by
  have h1 := Int.ediv_mul_add_emod x y
  have h2 := Int.emod_lt_of_pos x h
  have h3 := Int.emod_nonneg x (show y ≠ 0 by omega)
  rw [Int.add_mul]
  omega
theorem rt_lt {d : Int} (h : Ns d) : rt d * rt d < d := by
  obtain ⟨a, b, c⟩ := rt_spec (Int.le_of_lt h.pos)
  have : rt d * rt d ≠ d := fun z => by
    have h2 := isSq_of z
    rw [h.no] at h2
    cases h2
  omega
/-- z plus the root -/
theorem ps_up {d z : Int} (h : Ns d) (k : -(rt d) ≤ z) : Ps d z 1 := by
  have h1 := rt_lt h
  have h0 := (rt_spec (Int.le_of_lt h.pos)).1
  unfold Ps nm
  rw [show d * (1 * 1) = d by simp]
  by_cases e : z * z < d
  · right; omega
  · left
    have e2 : z * z ≠ d := fun y => by
      have h2 := isSq_of y
      rw [h.no] at h2
      cases h2
    refine ⟨by omega, ?_⟩
    by_cases e3 : 0 < z
    · exact e3
    · have := Int.mul_self_le_mul_self (show 0 ≤ -z by omega) (show -z ≤ rt d by omega)
      rw [Int.neg_mul_neg] at this
      omega
theorem ps_dn {d z : Int} (h : Ns d) (k : rt d + 1 ≤ z) : Ps d z (-1) := by
  have h0 := (rt_spec (Int.le_of_lt h.pos))
  have := Int.mul_self_le_mul_self (show 0 ≤ rt d + 1 by omega) k
  left
  unfold nm
  rw [show d * (-1 * -1) = d by simp]
  omega
theorem part_ov {a b c s : Int} (R : IsR a b c s) : Ov (ht a b c) (-b) (sg s) (2 * a) (partR a b c s) 1 ∧ Be (ht a b c) (-b) (sg s) (2 * a) (partR a b c s + 1) 1 := by
  have hd := R.n
  have ha := R.ha
  unfold partR Ov Be
  generalize ht a b c = d at *
  rcases R.hs with rfl | rfl
  · rw [if_pos rfl]
    obtain ⟨h1, h2⟩ := fl (x := 0 - rt d - 1 - b) (y := 2 * a) (by omega)
    generalize (0 - rt d - 1 - b) / (2 * a) = z at *
    exact ⟨ps_dn hd (by omega), ps_up hd (by omega)⟩
  · rw [if_neg (by decide)]
    obtain ⟨h1, h2⟩ := fl (x := rt d - b) (y := 2 * a) (by omega)
    generalize (rt d - b) / (2 * a) = z at *
    exact ⟨ps_up hd (by omega), ps_dn hd (by omega)⟩
/-! ### 1 divided by a root less a whole number -/
def mvC (a b c n : Int) : Int := a * n * n + b * n + c
def tnA (a b c n : Int) : Int := if 0 < mvC a b c n then mvC a b c n else -mvC a b c n
def tnB (a b c n : Int) : Int := if 0 < mvC a b c n then b + 2 * a * n else -(b + 2 * a * n)
def tnC (a b c n : Int) : Int := if 0 < mvC a b c n then a else -a
def tnS (a b c s n : Int) : Int := if 0 < mvC a b c n then 1 - s else s
theorem mv_ht (a b c n : Int) : ht a (b + 2 * a * n) (mvC a b c n) = ht a b c := by
  unfold ht mvC
  grind
theorem mvC_ne {a b c n : Int} (h : Ns (ht a b c)) : mvC a b c n ≠ 0 := fun z => by
  have e := mv_ht a b c n
  rw [z] at e
  have h2 := h.no
  rw [isSq_of (x := b + 2 * a * n) (by rw [← e]; unfold ht; simp)] at h2
  cases h2
theorem dv3 {a b c k : Int} (h : dv (dv a b) c = 1) (h1 : k ∣ a) (h2 : k ∣ b) (h3 : k ∣ c) (h0 : 0 ≤ k) : k = 1 := by
  have h4 : k ∣ 1 := by
    rw [← h]
    exact dvd_dv (dvd_dv h1 h2) h3
  exact Int.eq_one_of_dvd_one h0 h4
theorem dv3_dvd (a b c : Int) : dv (dv a b) c ∣ a ∧ dv (dv a b) c ∣ b ∧ dv (dv a b) c ∣ c :=
  ⟨Int.dvd_trans (dv_dvd_left _ _) (dv_dvd_left _ _), Int.dvd_trans (dv_dvd_left _ _) (dv_dvd_right _ _), dv_dvd_right _ _⟩
theorem mv_dv {a b c : Int} (n : Int) (h : dv (dv a b) c = 1) : dv (dv (mvC a b c n) (b + 2 * a * n)) a = 1 := by
  obtain ⟨h1, h2, h3⟩ := dv3_dvd (mvC a b c n) (b + 2 * a * n) a
  have h0 := dv_nonneg (dv (mvC a b c n) (b + 2 * a * n)) a
  generalize dv (dv (mvC a b c n) (b + 2 * a * n)) a = k at *
  have k2 : k ∣ b := by
    have := Int.dvd_sub h2 (Int.dvd_trans h3 (Int.dvd_mul_right a (2 * n)))
    rw [show b + 2 * a * n - a * (2 * n) = b by grind] at this
    exact this
  have k3 : k ∣ c := by
    have := Int.dvd_sub (Int.dvd_sub h1 (Int.dvd_trans h3 (Int.dvd_mul_right a (n * n)))) (Int.dvd_trans k2 (Int.dvd_mul_right b n))
    rw [show mvC a b c n - a * (n * n) - b * n = c by unfold mvC; grind] at this
    exact this
  exact dv3 h h3 k2 k3 h0
theorem tn_ht (a b c n : Int) : ht (tnA a b c n) (tnB a b c n) (tnC a b c n) = ht a b c := by
  rw [← mv_ht a b c n]
  unfold tnA tnB tnC ht
  split <;> grind
theorem tn_isR {a b c s : Int} (n : Int) (R : IsR a b c s) : IsR (tnA a b c n) (tnB a b c n) (tnC a b c n) (tnS a b c s n) := by
  have h0 := mvC_ne (n := n) R.n
  have hg := mv_dv n R.g
  refine ⟨?_, ?_, ?_, by rw [tn_ht]; exact R.n⟩
  · unfold tnA
    split <;> omega
  · have := R.hs
    unfold tnS
    split <;> omega
  · unfold tnA tnB tnC
    split
    · exact hg
    · rw [dv_neg_left, dv_neg_right, dv_neg_right]
      exact hg
theorem sg_inv {s : Int} (h : s = 0 ∨ s = 1) : sg (1 - s) = -sg s := by
  rcases h with rfl | rfl <;> decide
theorem sg_sq {s : Int} (h : s = 0 ∨ s = 1) : sg s * sg s = 1 := by
  rcases h with rfl | rfl <;> decide
/-- the signs of a product -/
theorem ps_sign {d x y z w v t : Int} (hd : Ns d) (e1 : v = x * z + d * (y * w)) (e2 : t = x * w + y * z) (k : Ps d z w) : Ps d v t ↔ Ps d x y := by
  constructor
  · intro h
    rw [e1, e2] at h
    exact Ps.div hd h k
  · intro h
    rw [e1, e2]
    exact Ps.mul hd h k
/-- what the turned one is greater than, by products: t (the turned one less u / l), a (the root less n), m (what is left) -/
theorem tn_key {a b c s n u l : Int} (R : IsR a b c s) : ∃ k : Int, 0 < k ∧
    k * (2 * a * l + (b + 2 * a * n) * u) = (-tnB a b c n * l - u * (2 * tnA a b c n)) * (-b - n * (2 * a)) + ht a b c * (sg (tnS a b c s n) * l * sg s) ∧
    k * -(sg s * u) = (-tnB a b c n * l - u * (2 * tnA a b c n)) * sg s + sg (tnS a b c s n) * l * (-b - n * (2 * a)) := by
  have h0 := mvC_ne (n := n) R.n
  have hs := sg_sq R.hs
  have e : ht a b c = (b + 2 * a * n) * (b + 2 * a * n) - 4 * a * mvC a b c n := by
    rw [← mv_ht a b c n]
    rfl
  rw [e, show -b - n * (2 * a) = -(b + 2 * a * n) by grind]
  unfold tnA tnB tnS
  generalize mvC a b c n = C at *
  generalize b + 2 * a * n = B at *
  split
  · rename_i hC
    rw [sg_inv R.hs]
    generalize sg s = σ at *
    refine ⟨2 * C, by omega, ?_, ?_⟩ <;> grind
  · rename_i hC
    generalize sg s = σ at *
    refine ⟨2 * -C, by omega, ?_, ?_⟩ <;> grind
/-- Ov of a root, in short -/
abbrev OvR (a b c s u l : Int) : Prop := Ov (ht a b c) (-b) (sg s) (2 * a) u l
abbrev BeR (a b c s u l : Int) : Prop := Be (ht a b c) (-b) (sg s) (2 * a) u l
theorem root_tri {a b c s u l : Int} (R : IsR a b c s) (hl : 0 < l) : OvR a b c s u l ∨ BeR a b c s u l := by
  cases e : ab a b c s u l with
  | true => exact .inl ((ab_ov R hl).mp e)
  | false => exact .inr ((ab_be R hl).mp e)
/-- the turned one's signs: with t, a, m as in tn_key -/
theorem tn_sign {a b c s n u l : Int} (R : IsR a b c s) (hl : 0 < l) :
    (OvR a b c s n 1 → (OvR (tnA a b c n) (tnB a b c n) (tnC a b c n) (tnS a b c s n) u l ↔ Ps (ht a b c) (2 * a * l + (b + 2 * a * n) * u) (-(sg s * u)))) ∧
    (BeR a b c s n 1 → (BeR (tnA a b c n) (tnB a b c n) (tnC a b c n) (tnS a b c s n) u l ↔ Ps (ht a b c) (2 * a * l + (b + 2 * a * n) * u) (-(sg s * u)))) := by
  obtain ⟨k, hk, e1, e2⟩ := tn_key (n := n) (u := u) (l := l) R
  have hm : ∀ x y : Int, Ps (ht a b c) (k * x) (k * y) ↔ Ps (ht a b c) x y := fun x y => ⟨fun h => Ps.sdiv R.n h hk, fun h => Ps.smul R.n h hk⟩
  constructor
  · intro h
    unfold OvR Ov at *
    rw [tn_ht, ← hm (2 * a * l + (b + 2 * a * n) * u) (-(sg s * u)), e1, e2]
    rw [Int.mul_one, Int.mul_one] at h
    exact (ps_sign R.n (by grind) (by grind) h).symm
  · intro h
    unfold BeR Be at *
    rw [tn_ht, ← hm (2 * a * l + (b + 2 * a * n) * u) (-(sg s * u)), e1, e2]
    rw [Int.mul_one, Int.mul_one] at h
    refine (ps_sign R.n ?_ ?_ h).symm
    · grind
    · grind
theorem tn_up {a b c s n u l : Int} (R : IsR a b c s) (hl : 0 < l) (hu : 0 < u) :
    OvR (tnA a b c n) (tnB a b c n) (tnC a b c n) (tnS a b c s n) u l ↔ (OvR a b c s n 1 ∧ BeR a b c s (n * u + l) u) := by
  obtain ⟨h1, h2⟩ := tn_sign (n := n) (u := u) R hl
  have e : Ps (ht a b c) (2 * a * l + (b + 2 * a * n) * u) (-(sg s * u)) ↔ BeR a b c s (n * u + l) u := by
    unfold BeR Be
    rw [show (n * u + l) * (2 * a) - -b * u = 2 * a * l + (b + 2 * a * n) * u by grind]
  have h3 := tn_isR n R
  rcases root_tri (u := n) R (show (0 : Int) < 1 by decide) with h | h
  · rw [h1 h, e]
    exact ⟨fun x => ⟨h, x⟩, fun x => x.2⟩
  · have h4 : BeR a b c s (n * u + l) u := Be.le R.n (by have := R.ha; omega) (by decide) hu h (by omega)
    have h5 := (h2 h).mpr (e.mpr h4)
    exact ⟨fun x => absurd h5 x.not, fun x => absurd h x.1.not⟩
theorem tn_zero {a b c s n l : Int} (R : IsR a b c s) (hl : 0 < l) :
    OvR (tnA a b c n) (tnB a b c n) (tnC a b c n) (tnS a b c s n) 0 l ↔ OvR a b c s n 1 := by
  obtain ⟨h1, h2⟩ := tn_sign (n := n) (u := 0) R hl
  have e : Ps (ht a b c) (2 * a * l + (b + 2 * a * n) * 0) (-(sg s * 0)) := by
    rw [Int.mul_zero, Int.mul_zero, Int.add_zero]
    exact Ps.int (Int.mul_pos (by have := R.ha; omega) hl)
  rcases root_tri (u := n) R (show (0 : Int) < 1 by decide) with h | h
  · exact ⟨fun _ => h, fun _ => (h1 h).mpr e⟩
  · exact ⟨fun x => absurd ((h2 h).mpr e) x.not, fun x => absurd h x.not⟩
theorem tn_dn {a b c s n u l : Int} (R : IsR a b c s) (hl : 0 < l) (hu : u < 0) :
    OvR (tnA a b c n) (tnB a b c n) (tnC a b c n) (tnS a b c s n) u l ↔ (OvR a b c s n 1 ∨ BeR a b c s (n * (0 - u) - l) (0 - u)) := by
  obtain ⟨h1, h2⟩ := tn_sign (n := n) (u := u) R hl
  have e : Ps (ht a b c) (2 * a * l + (b + 2 * a * n) * u) (-(sg s * u)) ↔ OvR a b c s (n * (0 - u) - l) (0 - u) := by
    unfold OvR Ov
    rw [show -b * (0 - u) - (n * (0 - u) - l) * (2 * a) = 2 * a * l + (b + 2 * a * n) * u by grind, show sg s * (0 - u) = -(sg s * u) by grind]
  rcases root_tri (u := n) R (show (0 : Int) < 1 by decide) with h | h
  · have h4 : OvR a b c s (n * (0 - u) - l) (0 - u) := Ov.le R.n (by have := R.ha; omega) (by decide) (show 0 < 0 - u by omega) h (by omega)
    exact ⟨fun _ => .inl h, fun _ => (h1 h).mpr (e.mpr h4)⟩
  · rcases root_tri (u := n * (0 - u) - l) R (show 0 < 0 - u by omega) with h4 | h4
    · have h5 := (h2 h).mpr (e.mpr h4)
      exact ⟨fun x => absurd h5 x.not, fun x => x.elim (fun y => absurd h y.not) (fun y => absurd y h4.not)⟩
    · refine ⟨fun _ => .inr h4, fun _ => ?_⟩
      rcases root_tri (u := u) (tn_isR n R) hl with h6 | h6
      · exact h6
      · exact absurd h4 (e.mp ((h2 h).mp h6)).not
end RR
/-! RRT: the promises of the defs over roots, and of the defs that take any thing. -/
namespace RR
open PySem PySem.Spec PyProof.Rows L2
/-- what is no whole number -/
def NotWh (x : V) : Prop := (∃ b, x = .bl b) ∨ ∃ z, x = .str z
def sp_isw : Sp := fun vs H Q _ => ∃ x, vs = [x] ∧ ((∃ z, x = .int z ∧ Q (.bl true) H) ∨ (NotWh x ∧ Q (.bl false) H))
def BadT (xs : List V) : Prop := xs.length ≠ 2 ∨ (∃ y z, xs = [y, z] ∧ NotWh y) ∨ (∃ y z, xs = [.int y, z] ∧ NotWh z) ∨ ∃ y z, xs = [.int y, .int z] ∧ (z < 1 ∨ dv y z ≠ 1)
def NotTup (K : PySem.W.Frag) (H : Hp) (x : V) : Prop := ∃ t, TyX K H x t ∧ PySem.W.kitOne K t (.type "tuple") = some false
def NotFr (K : PySem.W.Frag) (H : Hp) (x : V) : Prop := NotTup K H x ∨ ∃ a xs, x = .ref a ∧ H a = some (.tup xs) ∧ BadT xs
def sp_is_fraction (K : PySem.W.Frag) : Sp := fun vs H Q _ => ∃ x, vs = [x] ∧ ((NotFr K H x ∧ Q (.bl false) H) ∨ ∃ a y z, x = .ref a ∧ H a = some (tI [y, z]) ∧ 1 ≤ z ∧ dv y z = 1 ∧ Q (.bl true) H)
theorem notTup_non {K : PySem.W.Frag} {H : Hp} : NotTup K H .non := ⟨_, .base .non, kit_ty (by decide +kernel)⟩
theorem notTup_int {K : PySem.W.Frag} {H : Hp} (n : Int) : NotTup K H (.int n) := ⟨_, .base (.int n), kit_ty (by decide +kernel)⟩
theorem notTup_lst {K : PySem.W.Frag} {H : Hp} {a : Addr} {xs : List V} (e : H a = some (.lst xs)) : NotTup K H (.ref a) := ⟨_, .base (.lst e), kit_ty (by decide +kernel)⟩
/-- least_square -/
def sp_least_square : Sp := fun vs H Q _ => ∃ n : Int, vs = [.int n] ∧ 0 ≤ n ∧ Big n ∧ Q (.int (rt n)) H
/-- within a thousand bits -/
structure Sm (x : Int) : Prop where
  lt : x.natAbs < 2 ^ 1000
theorem Sm.big {x : Int} (h : Sm x) : Big x := ⟨Nat.lt_of_lt_of_le h.lt (Nat.pow_le_pow_right (by decide) (by decide))⟩
theorem sm_of {x : Int} (h : x.natAbs < 2 ^ 60) : Sm x := ⟨Nat.lt_of_lt_of_le h (Nat.pow_le_pow_right (by decide) (by decide))⟩
theorem sm_le {x y : Int} (h : x.natAbs ≤ y.natAbs) (hy : Sm y) : Sm x := ⟨Nat.lt_of_le_of_lt h hy.lt⟩
theorem nat_mul_lt {x y : Int} {m n : Nat} (h : x.natAbs < 2 ^ m) (k : y.natAbs < 2 ^ n) : (x * y).natAbs < 2 ^ (m + n) := by
  rw [Int.natAbs_mul, Nat.pow_add]
  exact Nat.mul_lt_mul'' h k
theorem nat_add_lt {x y : Int} {m : Nat} (h : x.natAbs < 2 ^ m) (k : y.natAbs < 2 ^ m) : (x + y).natAbs < 2 ^ (m + 1) := by
  have := Int.natAbs_add_le x y
  rw [Nat.pow_succ]
  omega
theorem nat_sub_lt {x y : Int} {m : Nat} (h : x.natAbs < 2 ^ m) (k : y.natAbs < 2 ^ m) : (x - y).natAbs < 2 ^ (m + 1) := by
  rw [Int.sub_eq_add_neg]
  exact nat_add_lt h (by rw [Int.natAbs_neg]; exact k)
theorem nat_mono {x : Int} {m n : Nat} (h : x.natAbs < 2 ^ m) (k : m ≤ n) : x.natAbs < 2 ^ n := Nat.lt_of_lt_of_le h (Nat.pow_le_pow_right (by decide) k)
/-- products of numbers within a hundred thousand bits each -/
theorem mulW_of {x y : Int} {m n : Nat} (h : x.natAbs < 2 ^ m) (k : y.natAbs < 2 ^ n) (hm : m ≤ 100000 := by decide) (hn : n ≤ 100000 := by decide) : CMulW x y := by
  have h3 := PySem.Flt.log2_lt_of (n := x.natAbs) (k := m + 1) (by omega) (nat_mono h (by omega))
  have h4 := PySem.Flt.log2_lt_of (n := y.natAbs) (k := n + 1) (by omega) (nat_mono k (by omega))
  unfold CMulW
  omega
theorem ht_big {a b c : Int} (ha : Sm a) (hb : Sm b) (hc : Sm c) : Big (ht a b c) := by
  refine ⟨nat_mono (m := 2004) (nat_sub_lt (m := 2003) (nat_mono (nat_mul_lt hb.lt hb.lt) (by decide)) (nat_mono (nat_mul_lt (m := 1003) (nat_mul_lt (m := 3) (by decide) ha.lt) hc.lt) (by decide))) (by decide)⟩
/-- heart -/
def sp_heart : Sp := fun vs H Q _ => ∃ a b c : Int, vs = [.int a, .int b, .int c] ∧ Sm a ∧ Sm b ∧ Sm c ∧ Q (.int (ht a b c)) H
/-- is_square -/
def sp_is_square : Sp := fun vs H Q _ => ∃ n : Int, vs = [.int n] ∧ 0 ≤ n ∧ Big n ∧ Q (.bl (isSq n)) H
/-- three whole numbers made lowest, the first above 0 -/
def nfA (a b c : Int) : Int := if a < 0 then -(a / dv (dv a b) c) else a / dv (dv a b) c
def nfB (a b c : Int) : Int := if a < 0 then -(b / dv (dv a b) c) else b / dv (dv a b) c
def nfC (a b c : Int) : Int := if a < 0 then -(c / dv (dv a b) c) else c / dv (dv a b) c
def NoRoot (a b c : Int) : Prop := a = 0 ∨ ht a b c < 0 ∨ isSq (ht a b c) = true
theorem not_noRoot {a b c : Int} (h : Ns (ht a b c)) : ¬ NoRoot a b c := by
  rintro (rfl | z | z)
  · have := h.no
    rw [isSq_of (x := b) (by unfold ht; simp)] at this
    cases this
  · have := h.pos
    omega
  · rw [h.no] at z
    cases z
theorem ns_of {a b c : Int} (h : ¬ NoRoot a b c) : Ns (ht a b c) := by
  have h2 : isSq (ht a b c) = false := by
    cases e : isSq (ht a b c) with
    | false => rfl
    | true => exact absurd (.inr (.inr e)) h
  refine ⟨?_, h2⟩
  have h3 : ¬ ht a b c < 0 := fun z => h (.inr (.inl z))
  have h4 : ht a b c ≠ 0 := fun z => by
    rw [z, show isSq 0 = true from isSq_of (x := 0) rfl] at h2
    cases h2
  omega
def sp_root_of (C : Addr) : Sp := fun vs H Q E => ∃ a b c s : Int, vs = [.int a, .int b, .int c, .int s] ∧ Sm a ∧ Sm b ∧ Sm c ∧ (NoRoot a b c → E (.ref C) none H) ∧
  (¬ NoRoot a b c → ∀ p, H p = none → Q (.ref p) (upd H p (tI [nfA a b c, nfB a b c, nfC a b c, s])))
def NotR4 (a b c s : Int) : Prop := a < 1 ∨ ¬ (s = 0 ∨ s = 1) ∨ dv (dv a b) c ≠ 1 ∨ ht a b c ≤ 0 ∨ isSq (ht a b c) = true
def BadR (xs : List V) : Prop := xs.length ≠ 4 ∨ ((∀ x ∈ xs, NotWh x ∨ ∃ n, x = .int n) ∧ xs.length = 4 ∧ ∃ x ∈ xs, NotWh x) ∨ ∃ a b c s, xs = [.int a, .int b, .int c, .int s] ∧ Sm a ∧ Sm b ∧ Sm c ∧ NotR4 a b c s
def NotRoot (K : PySem.W.Frag) (H : Hp) (x : V) : Prop := NotTup K H x ∨ ∃ r xs, x = .ref r ∧ H r = some (.tup xs) ∧ BadR xs
def sp_is_root (K : PySem.W.Frag) : Sp := fun vs H Q _ => ∃ x, vs = [x] ∧ ((NotRoot K H x ∧ ∀ H', Same H H' → Q (.bl false) H') ∨ ∃ r a b c s, x = .ref r ∧ H r = some (tI [a, b, c, s]) ∧ IsR a b c s ∧ Sm a ∧ Sm b ∧ Sm c ∧ ∀ H', Same H H' → Q (.bl true) H')
def sp_other_root : Sp := fun vs H Q _ => ∃ (r : Addr) (a b c s : Int), vs = [.ref r] ∧ H r = some (tI [a, b, c, s]) ∧ ∀ H' p, Same H H' → H p = none → H' p = some (tI [a, b, c, 1 - s]) → Q (.ref p) H'
/-- whether it is a whole number -/
def isI : V → Bool
  | .int _ => true
  | _ => false
/-- root_of, or "none" -/
def sp_said : Sp := fun vs H Q _ => ∃ a b c s : Int, vs = [.int a, .int b, .int c, .int s] ∧ Sm a ∧ Sm b ∧ Sm c ∧ (NoRoot a b c → ∀ H', Same H H' → Q (.str "none") H') ∧
  (¬ NoRoot a b c → ∀ H' p, Same H H' → H p = none → H' p = some (tI [nfA a b c, nfB a b c, nfC a b c, s]) → Q (.ref p) H')
end RR
/-! RRN: three whole numbers made lowest: plain mathematics. -/
namespace RR
theorem dv_mul (a b k : Int) (hk : 0 ≤ k) : dv (a * k) (b * k) = dv a b * k := by
  unfold dv
  rw [Int.gcd_mul_right]
  rw [Int.natCast_mul, Int.natAbs_of_nonneg hk]
theorem dv3_mul (a b c k : Int) (hk : 0 ≤ k) : dv (dv (a * k) (b * k)) (c * k) = dv (dv a b) c * k := by
  rw [dv_mul a b k hk, dv_mul _ _ k hk]
theorem ht_mul (a b c k : Int) : ht (a * k) (b * k) (c * k) = (k * k) * ht a b c := by
  unfold ht
  grind
theorem dv3_pos {a b c : Int} (h : a ≠ 0) : 0 < dv (dv a b) c := dv_pos_left (by have := dv_pos_left (b := b) h; omega)
/-- a root's numbers out of others: what is divided away -/
theorem nf_eq {a b c : Int} (h : a ≠ 0) : ∃ k : Int, k ≠ 0 ∧ a = nfA a b c * k ∧ b = nfB a b c * k ∧ c = nfC a b c * k ∧ 0 < nfA a b c ∧ dv (dv (nfA a b c) (nfB a b c)) (nfC a b c) = 1 ∧ k.natAbs = (dv (dv a b) c).natAbs ∧ (0 < a → 0 < k) ∧ (a < 0 → k < 0) := by
  have hg := dv3_pos (b := b) (c := c) h
  obtain ⟨d1, d2, d3⟩ := dv3_dvd a b c
  have h1 : dv (dv (a / dv (dv a b) c) (b / dv (dv a b) c)) (c / dv (dv a b) c) = 1 := by
    have e := dv3_mul (a / dv (dv a b) c) (b / dv (dv a b) c) (c / dv (dv a b) c) (dv (dv a b) c) (by omega)
    rw [Int.ediv_mul_cancel d1, Int.ediv_mul_cancel d2, Int.ediv_mul_cancel d3] at e
    have e2 : 1 * dv (dv a b) c = dv (dv (a / dv (dv a b) c) (b / dv (dv a b) c)) (c / dv (dv a b) c) * dv (dv a b) c := by
      rw [Int.one_mul]
      exact e
    exact (Int.eq_of_mul_eq_mul_right (by omega) e2).symm
  have e1 := Int.ediv_mul_cancel d1
  have e2 := Int.ediv_mul_cancel d2
  have e3 := Int.ediv_mul_cancel d3
  unfold nfA nfB nfC
  generalize dv (dv a b) c = g at *
  generalize a / g = x at *
  generalize b / g = y at *
  generalize c / g = z at *
  split
  · rename_i ha
    refine ⟨-g, by omega, by rw [Int.neg_mul_neg]; exact e1.symm, by rw [Int.neg_mul_neg]; exact e2.symm, by rw [Int.neg_mul_neg]; exact e3.symm, ?_, by rw [dv_neg_left, dv_neg_right, dv_neg_right]; exact h1, by omega, by omega, by omega⟩
    have : ¬ 0 ≤ x := fun hx => by
      have := Int.mul_nonneg hx (show 0 ≤ g by omega)
      omega
    omega
  · rename_i ha
    refine ⟨g, by omega, e1.symm, e2.symm, e3.symm, ?_, h1, by omega, by omega, by omega⟩
    have : ¬ x ≤ 0 := fun hx => by
      have := Int.mul_nonneg (show 0 ≤ -x by omega) (show 0 ≤ g by omega)
      rw [Int.neg_mul] at this
      omega
    omega
theorem ns_mul {d k : Int} (hk : k ≠ 0) : Ns (k * k * d) ↔ Ns d := by
  have hp := sqp hk
  constructor
  · rintro ⟨h1, h2⟩
    refine ⟨?_, ?_⟩
    · by_cases h : 0 < d
      · exact h
      · exfalso
        have := Int.mul_nonneg (Int.le_of_lt hp) (show 0 ≤ -d by omega)
        rw [Int.mul_neg] at this
        omega
    · cases e : isSq d with
      | false => rfl
      | true =>
        have e2 : rt d * rt d = d := of_decide_eq_true e
        have h3 := isSq_of (n := k * k * d) (x := k * rt d) (by
          have : k * rt d * (k * rt d) = k * k * (rt d * rt d) := by grind
          rw [this, e2])
        rw [h2] at h3
        cases h3
  · rintro ⟨h1, h2⟩
    refine ⟨Int.mul_pos hp h1, ?_⟩
    cases e : isSq (k * k * d) with
    | false => rfl
    | true =>
      have e2 : rt (k * k * d) * rt (k * k * d) = k * k * d := of_decide_eq_true e
      exact absurd (no_sq h2 (x := rt (k * k * d)) (y := k) (by rw [e2, Int.mul_comm])) hk
theorem noRoot_iff (a b c : Int) : NoRoot a b c ↔ ¬ Ns (ht a b c) ∨ a = 0 := by
  constructor
  · rintro (h | h | h)
    · exact .inr h
    · exact .inl fun z => by have := z.pos; omega
    · exact .inl fun z => by rw [z.no] at h; cases h
  · rintro (h | h)
    · by_cases h1 : NoRoot a b c
      · exact h1
      · exact absurd (ns_of h1) h
    · exact .inl h
theorem noRoot_mul {a b c k : Int} (hk : k ≠ 0) : NoRoot (a * k) (b * k) (c * k) ↔ NoRoot a b c := by
  rw [noRoot_iff, noRoot_iff, ht_mul, ns_mul hk, Int.mul_eq_zero]
  constructor
  · rintro (h | h | h)
    · exact .inl h
    · exact .inr h
    · exact absurd h hk
  · rintro (h | h)
    · exact .inl h
    · exact .inr (.inl h)
theorem nf_isR {a b c s : Int} (h : ¬ NoRoot a b c) (hs : s = 0 ∨ s = 1) : IsR (nfA a b c) (nfB a b c) (nfC a b c) s := by
  have ha : a ≠ 0 := fun z => h (.inl z)
  obtain ⟨k, hk, e1, e2, e3, hp, hd, _⟩ := nf_eq (b := b) (c := c) ha
  refine ⟨hp, hs, hd, ?_⟩
  have hn := ns_of h
  have e : ht a b c = (k * k) * ht (nfA a b c) (nfB a b c) (nfC a b c) := by
    have h2 := ht_mul (nfA a b c) (nfB a b c) (nfC a b c) k
    rw [← e1, ← e2, ← e3] at h2
    exact h2
  rw [e] at hn
  exact (ns_mul hk).mp hn
theorem nf_mul {a b c k : Int} (ha : a ≠ 0) (hk : 0 < k) : nfA (a * k) (b * k) (c * k) = nfA a b c ∧ nfB (a * k) (b * k) (c * k) = nfB a b c ∧ nfC (a * k) (b * k) (c * k) = nfC a b c := by
  have hg := dv3_pos (b := b) (c := c) ha
  have hs : (a * k < 0) ↔ a < 0 := by
    constructor
    · intro h
      by_cases h2 : a < 0
      · exact h2
      · have := Int.mul_nonneg (show 0 ≤ a by omega) (Int.le_of_lt hk)
        omega
    · intro h
      exact Int.mul_neg_of_neg_of_pos h hk
  have hd : ∀ x : Int, x * k / (dv (dv a b) c * k) = x / dv (dv a b) c := fun x => Int.mul_ediv_mul_of_pos_left x _ hk
  unfold nfA nfB nfC
  rw [dv3_mul a b c k (Int.le_of_lt hk), hd, hd, hd]
  by_cases h : a < 0
  · rw [if_pos h, if_pos (hs.mpr h), if_pos h, if_pos (hs.mpr h), if_pos h, if_pos (hs.mpr h)]
    exact ⟨rfl, rfl, rfl⟩
  · rw [if_neg h, if_neg (fun z => h (hs.mp z)), if_neg h, if_neg (fun z => h (hs.mp z)), if_neg h, if_neg (fun z => h (hs.mp z))]
    exact ⟨rfl, rfl, rfl⟩
theorem nf_abs {a b c : Int} (ha : a ≠ 0) : (nfA a b c).natAbs ≤ a.natAbs ∧ (nfB a b c).natAbs ≤ b.natAbs ∧ (nfC a b c).natAbs ≤ c.natAbs := by
  obtain ⟨k, hk, e1, e2, e3, _⟩ := nf_eq (b := b) (c := c) ha
  have h1 : 1 ≤ k.natAbs := by omega
  have key : ∀ x y : Int, x = y * k → y.natAbs ≤ x.natAbs := fun x y e => by
    rw [e, Int.natAbs_mul]
    exact Nat.le_mul_of_pos_right _ h1
  exact ⟨key _ _ e1, key _ _ e2, key _ _ e3⟩
end RR
/-! RRP: the promises of part_of, moved, turned, is_above and of the laws' draws. -/
namespace RR
open PySem PySem.Spec PyProof.Rows L2
/-- within three hundred bits -/
structure S3 (x : Int) : Prop where
  lt : x.natAbs < 2 ^ 300
theorem S3.sm {x : Int} (h : S3 x) : Sm x := ⟨nat_mono h.lt (by decide)⟩
theorem s3_of {x : Int} (h : x.natAbs < 2 ^ 60) : S3 x := ⟨nat_mono h (by decide)⟩
theorem s3_le {x y : Int} (h : x.natAbs ≤ y.natAbs) (hy : S3 y) : S3 x := ⟨Nat.lt_of_le_of_lt h hy.lt⟩
def sp_part_of : Sp := fun vs H Q _ => ∃ r : Addr, vs = [.ref r] ∧ ((∃ u l : Int, H r = some (tI [u, l]) ∧ 0 < l ∧ Big l ∧ Q (.int (u / l)) H) ∨
  ∃ a b c s : Int, H r = some (tI [a, b, c, s]) ∧ 0 < a ∧ 0 ≤ ht a b c ∧ Sm a ∧ Sm b ∧ Sm c ∧ Q (.int (partR a b c s)) H)
def sp_moved : Sp := fun vs H Q _ => ∃ (r : Addr) (a b c s n : Int), vs = [.ref r, .int n] ∧ H r = some (tI [a, b, c, s]) ∧ S3 a ∧ S3 b ∧ S3 c ∧ S3 n ∧ ∀ p, H p = none → Q (.ref p) (upd H p (tI [a, b + 2 * a * n, mvC a b c n, s]))
def sp_turned : Sp := fun vs H Q _ => ∃ (r : Addr) (a b c s n : Int), vs = [.ref r, .int n] ∧ H r = some (tI [a, b, c, s]) ∧ IsR a b c s ∧ S3 a ∧ S3 b ∧ S3 c ∧ S3 n ∧
  ∀ H' p, Same H H' → H p = none → H' p = some (tI [tnA a b c n, tnB a b c n, tnC a b c n, tnS a b c s n]) → Q (.ref p) H'
def sp_above : Sp := fun vs H Q _ => ∃ (r : Addr) (a b c s u l : Int), vs = [.ref r, .int u, .int l] ∧ H r = some (tI [a, b, c, s]) ∧ (s = 0 ∨ s = 1) ∧ Sm a ∧ Sm b ∧ Sm c ∧ Sm u ∧ Sm l ∧ Q (.bl (ab a b c s u l)) H
/-- a drawn root -/
def sp_root : Sp := fun vs H Q _ => ∃ c o w : Int, vs = [.int c, .int o, .int w] ∧ 2 ≤ w ∧ w ≤ 1000 ∧ ∀ a b c s H' p, IsR a b c s → a ≤ w → -w ≤ b → b ≤ w → -w ≤ c → c ≤ w → Same H H' → H p = none → H' p = some (tI [a, b, c, s]) → Q (.ref p) H'
theorem mix_rng {c p m : Int} (hm : 0 < m) : 0 ≤ mix c p m ∧ mix c p m < m := ⟨Int.emod_nonneg _ (by omega), Int.emod_lt_of_pos _ hm⟩
theorem mv_s3 {a b c n : Int} (ha : S3 a) (hb : S3 b) (hc : S3 c) (hn : S3 n) : Sm (b + 2 * a * n) ∧ Sm (mvC a b c n) := by
  have h1 := nat_mul_lt ha.lt hn.lt
  refine ⟨⟨?_⟩, ⟨?_⟩⟩
  · exact nat_mono (nat_add_lt (m := 603) (nat_mono hb.lt (by decide)) (nat_mono (nat_mul_lt (nat_mul_lt (m := 2) (by decide) ha.lt) hn.lt) (by decide))) (by decide)
  · exact nat_mono (nat_add_lt (m := 901) (nat_add_lt (m := 900) (nat_mono (nat_mul_lt h1 hn.lt) (by decide)) (nat_mono (nat_mul_lt hb.lt hn.lt) (by decide))) (nat_mono hc.lt (by decide))) (by decide)
theorem ht_rev (a b c : Int) : ht c b a = ht a b c := by
  unfold ht
  grind
theorem tn_nf {a b c s : Int} (n : Int) (R : IsR a b c s) : ¬ NoRoot (mvC a b c n) (b + 2 * a * n) a ∧ nfA (mvC a b c n) (b + 2 * a * n) a = tnA a b c n ∧ nfB (mvC a b c n) (b + 2 * a * n) a = tnB a b c n ∧ nfC (mvC a b c n) (b + 2 * a * n) a = tnC a b c n := by
  have h0 := mvC_ne (n := n) R.n
  have hg := mv_dv n R.g
  refine ⟨?_, ?_, ?_, ?_⟩
  · rw [noRoot_iff, ht_rev, mv_ht]
    rintro (h | h)
    · exact h R.n
    · exact h0 h
  all_goals
    first | unfold nfA tnA | unfold nfB tnB | unfold nfC tnC
    rw [hg, Int.ediv_one]
    by_cases h : 0 < mvC a b c n
    · rw [if_pos h, if_neg (by omega)]
    · rw [if_neg h, if_pos (by omega)]
end RR
/-! RRO: the row of a root: how it goes on; the promise of rounds_of. -/
namespace RR
open PySem PySem.Spec PyProof.Rows L2
/-- four numbers of a root -/
structure R4 where
  a : Int
  b : Int
  c : Int
  s : Int
deriving DecidableEq
def R4.l (r : R4) : List Int := [r.a, r.b, r.c, r.s]
def R4.k (r : R4) : List Key := [.inl r.a, .inl r.b, .inl r.c, .inl r.s]
theorem R4.k_inj {r t : R4} (h : r.k = t.k) : r = t := by
  obtain ⟨a, b, c, s⟩ := r
  obtain ⟨a', b', c', s'⟩ := t
  simp only [R4.k, List.cons.injEq, Sum.inl.injEq, and_true] at h
  obtain ⟨rfl, rfl, rfl, rfl⟩ := h
  rfl
def R4.Is (r : R4) : Prop := IsR r.a r.b r.c r.s
def R4.prt (r : R4) : Int := partR r.a r.b r.c r.s
def R4.tn (r : R4) (n : Int) : R4 := ⟨tnA r.a r.b r.c n, tnB r.a r.b r.c n, tnC r.a r.b r.c n, tnS r.a r.b r.c r.s n⟩
def R4.nx (r : R4) : R4 := r.tn r.prt
def orb (r : R4) : Nat → R4
  | 0 => r
  | k + 1 => (orb r k).nx
theorem orb_is {r : R4} (h : r.Is) : ∀ k, (orb r k).Is
  | 0 => h
  | k + 1 => tn_isR _ (orb_is h k)
theorem orb_add (r : R4) (i : Nat) : ∀ k, orb r (i + k) = orb (orb r i) k
  | 0 => rfl
  | k + 1 => congrArg R4.nx (orb_add r i k)
/-- the parts from the i-th on, n of them -/
def prts (r : R4) (i n : Nat) : List Int := (List.range' i n).map fun k => (orb r k).prt
/-- within three hundred bits, all of it -/
structure S4 (r : R4) : Prop where
  a : S3 r.a
  b : S3 r.b
  c : S3 r.c
  p : S3 r.prt
theorem valV_range {κ : Type} [DecidableEq κ] {f : Nat → κ} {x : κ} : ∀ n : Nat, (∀ m, m < n → f m ≠ x) → valV ((List.range n).map fun m => (f m, V.int m)) x = none
  | 0, _ => rfl
  | n + 1, h => by
    rw [List.range_succ, List.map_append, List.map_cons, List.map_nil]
    have ih := valV_range n fun m hm => h m (by omega)
    rw [valV]
    rw [List.find?_append]
    rw [valV, Option.map_eq_none_iff] at ih
    rw [ih]
    have : ¬ f n = x := h n (by omega)
    simp [this]
theorem valV_at {κ : Type} [DecidableEq κ] {f : Nat → κ} {x : κ} {i : Nat} : ∀ n : Nat, i < n → f i = x → (∀ m, m < n → f m = x → m = i) → valV ((List.range n).map fun m => (f m, V.int m)) x = some (.int i)
  | 0, h, _, _ => absurd h (Nat.not_lt_zero _)
  | n + 1, hi, hx, hu => by
    rw [List.range_succ, List.map_append, List.map_cons, List.map_nil]
    rw [valV, List.find?_append]
    by_cases h : i < n
    · have ih := valV_at n h hx fun m hm e => hu m (by omega) e
      rw [valV] at ih
      obtain ⟨p, hp, e⟩ := Option.map_eq_some_iff.mp ih
      rw [hp, Option.some_or, Option.map_some, e]
    · have e : i = n := by omega
      subst e
      have ih := valV_range i (f := f) (x := x) fun m hm e => by have := hu m (by omega) e; omega
      rw [valV, Option.map_eq_none_iff] at ih
      rw [ih]
      simp [hx]
theorem room1 {k : Nat} {A : Around} (r : Room k A) : A.units + 1 < cLine := by
  have := r.units
  omega
def sp_rounds_of : Sp := fun vs H Q _ => ∃ (t : Addr) (r : R4), vs = [.ref t] ∧ H t = some (tI r.l) ∧ r.Is ∧ ∃ i j : Nat, i < j ∧ j ≤ 1000000 ∧ orb r j = orb r i ∧ (∀ k m, k < m → m < j → orb r k ≠ orb r m) ∧ (∀ k, k < j → S4 (orb r k)) ∧
  ∀ H' p t1 t2, Same H H' → H p = none → H t1 = none → H t2 = none → H' p = some (.tup [.ref t1, .ref t2]) → H' t1 = some (tI (prts r 0 i)) → H' t2 = some (tI (prts r i (j - i))) → Q (.ref p) H'
end RR
/-! RRX: the roots of the whole numbers to 60: their rows and pairs, a table that is checked. -/
namespace RR
/-- a number, the states of its root's row, the pair before the round's last part, and the difference of its squares -/
structure Ent where
  d : Int
  s : List R4
  x : Int
  y : Int
  m : Int
def tab : List Ent := [
  ⟨2, [⟨1, 0, -2, 1⟩, ⟨1, -2, -1, 1⟩], 1, 1, -1⟩,
  ⟨3, [⟨1, 0, -3, 1⟩, ⟨2, -2, -1, 1⟩, ⟨1, -2, -2, 1⟩], 2, 1, 1⟩,
  ⟨5, [⟨1, 0, -5, 1⟩, ⟨1, -4, -1, 1⟩], 2, 1, -1⟩,
  ⟨6, [⟨1, 0, -6, 1⟩, ⟨2, -4, -1, 1⟩, ⟨1, -4, -2, 1⟩], 5, 2, 1⟩,
  ⟨7, [⟨1, 0, -7, 1⟩, ⟨3, -4, -1, 1⟩, ⟨2, -2, -3, 1⟩, ⟨3, -2, -2, 1⟩, ⟨1, -4, -3, 1⟩], 8, 3, 1⟩,
  ⟨8, [⟨1, 0, -8, 1⟩, ⟨4, -4, -1, 1⟩, ⟨1, -4, -4, 1⟩], 3, 1, 1⟩,
  ⟨10, [⟨1, 0, -10, 1⟩, ⟨1, -6, -1, 1⟩], 3, 1, -1⟩,
  ⟨11, [⟨1, 0, -11, 1⟩, ⟨2, -6, -1, 1⟩, ⟨1, -6, -2, 1⟩], 10, 3, 1⟩,
  ⟨12, [⟨1, 0, -12, 1⟩, ⟨3, -6, -1, 1⟩, ⟨1, -6, -3, 1⟩], 7, 2, 1⟩,
  ⟨13, [⟨1, 0, -13, 1⟩, ⟨4, -6, -1, 1⟩, ⟨3, -2, -4, 1⟩, ⟨3, -4, -3, 1⟩, ⟨4, -2, -3, 1⟩, ⟨1, -6, -4, 1⟩], 18, 5, -1⟩,
  ⟨14, [⟨1, 0, -14, 1⟩, ⟨5, -6, -1, 1⟩, ⟨2, -4, -5, 1⟩, ⟨5, -4, -2, 1⟩, ⟨1, -6, -5, 1⟩], 15, 4, 1⟩,
  ⟨15, [⟨1, 0, -15, 1⟩, ⟨6, -6, -1, 1⟩, ⟨1, -6, -6, 1⟩], 4, 1, 1⟩,
  ⟨17, [⟨1, 0, -17, 1⟩, ⟨1, -8, -1, 1⟩], 4, 1, -1⟩,
  ⟨18, [⟨1, 0, -18, 1⟩, ⟨2, -8, -1, 1⟩, ⟨1, -8, -2, 1⟩], 17, 4, 1⟩,
  ⟨19, [⟨1, 0, -19, 1⟩, ⟨3, -8, -1, 1⟩, ⟨5, -4, -3, 1⟩, ⟨2, -6, -5, 1⟩, ⟨5, -6, -2, 1⟩, ⟨3, -4, -5, 1⟩, ⟨1, -8, -3, 1⟩], 170, 39, 1⟩,
  ⟨20, [⟨1, 0, -20, 1⟩, ⟨4, -8, -1, 1⟩, ⟨1, -8, -4, 1⟩], 9, 2, 1⟩,
  ⟨21, [⟨1, 0, -21, 1⟩, ⟨5, -8, -1, 1⟩, ⟨4, -2, -5, 1⟩, ⟨3, -6, -4, 1⟩, ⟨4, -6, -3, 1⟩, ⟨5, -2, -4, 1⟩, ⟨1, -8, -5, 1⟩], 55, 12, 1⟩,
  ⟨22, [⟨1, 0, -22, 1⟩, ⟨6, -8, -1, 1⟩, ⟨3, -4, -6, 1⟩, ⟨2, -8, -3, 1⟩, ⟨3, -8, -2, 1⟩, ⟨6, -4, -3, 1⟩, ⟨1, -8, -6, 1⟩], 197, 42, 1⟩,
  ⟨23, [⟨1, 0, -23, 1⟩, ⟨7, -8, -1, 1⟩, ⟨2, -6, -7, 1⟩, ⟨7, -6, -2, 1⟩, ⟨1, -8, -7, 1⟩], 24, 5, 1⟩,
  ⟨24, [⟨1, 0, -24, 1⟩, ⟨8, -8, -1, 1⟩, ⟨1, -8, -8, 1⟩], 5, 1, 1⟩,
  ⟨26, [⟨1, 0, -26, 1⟩, ⟨1, -10, -1, 1⟩], 5, 1, -1⟩,
  ⟨27, [⟨1, 0, -27, 1⟩, ⟨2, -10, -1, 1⟩, ⟨1, -10, -2, 1⟩], 26, 5, 1⟩,
  ⟨28, [⟨1, 0, -28, 1⟩, ⟨3, -10, -1, 1⟩, ⟨4, -8, -3, 1⟩, ⟨3, -8, -4, 1⟩, ⟨1, -10, -3, 1⟩], 127, 24, 1⟩,
  ⟨29, [⟨1, 0, -29, 1⟩, ⟨4, -10, -1, 1⟩, ⟨5, -6, -4, 1⟩, ⟨5, -4, -5, 1⟩, ⟨4, -6, -5, 1⟩, ⟨1, -10, -4, 1⟩], 70, 13, -1⟩,
  ⟨30, [⟨1, 0, -30, 1⟩, ⟨5, -10, -1, 1⟩, ⟨1, -10, -5, 1⟩], 11, 2, 1⟩,
  ⟨31, [⟨1, 0, -31, 1⟩, ⟨6, -10, -1, 1⟩, ⟨5, -2, -6, 1⟩, ⟨3, -8, -5, 1⟩, ⟨2, -10, -3, 1⟩, ⟨3, -10, -2, 1⟩, ⟨5, -8, -3, 1⟩, ⟨6, -2, -5, 1⟩, ⟨1, -10, -6, 1⟩], 1520, 273, 1⟩,
  ⟨32, [⟨1, 0, -32, 1⟩, ⟨7, -10, -1, 1⟩, ⟨4, -4, -7, 1⟩, ⟨7, -4, -4, 1⟩, ⟨1, -10, -7, 1⟩], 17, 3, 1⟩,
  ⟨33, [⟨1, 0, -33, 1⟩, ⟨8, -10, -1, 1⟩, ⟨3, -6, -8, 1⟩, ⟨8, -6, -3, 1⟩, ⟨1, -10, -8, 1⟩], 23, 4, 1⟩,
  ⟨34, [⟨1, 0, -34, 1⟩, ⟨9, -10, -1, 1⟩, ⟨2, -8, -9, 1⟩, ⟨9, -8, -2, 1⟩, ⟨1, -10, -9, 1⟩], 35, 6, 1⟩,
  ⟨35, [⟨1, 0, -35, 1⟩, ⟨10, -10, -1, 1⟩, ⟨1, -10, -10, 1⟩], 6, 1, 1⟩,
  ⟨37, [⟨1, 0, -37, 1⟩, ⟨1, -12, -1, 1⟩], 6, 1, -1⟩,
  ⟨38, [⟨1, 0, -38, 1⟩, ⟨2, -12, -1, 1⟩, ⟨1, -12, -2, 1⟩], 37, 6, 1⟩,
  ⟨39, [⟨1, 0, -39, 1⟩, ⟨3, -12, -1, 1⟩, ⟨1, -12, -3, 1⟩], 25, 4, 1⟩,
  ⟨40, [⟨1, 0, -40, 1⟩, ⟨4, -12, -1, 1⟩, ⟨1, -12, -4, 1⟩], 19, 3, 1⟩,
  ⟨41, [⟨1, 0, -41, 1⟩, ⟨5, -12, -1, 1⟩, ⟨5, -8, -5, 1⟩, ⟨1, -12, -5, 1⟩], 32, 5, -1⟩,
  ⟨42, [⟨1, 0, -42, 1⟩, ⟨6, -12, -1, 1⟩, ⟨1, -12, -6, 1⟩], 13, 2, 1⟩,
  ⟨43, [⟨1, 0, -43, 1⟩, ⟨7, -12, -1, 1⟩, ⟨6, -2, -7, 1⟩, ⟨3, -10, -6, 1⟩, ⟨9, -8, -3, 1⟩, ⟨2, -10, -9, 1⟩, ⟨9, -10, -2, 1⟩, ⟨3, -8, -9, 1⟩, ⟨6, -10, -3, 1⟩, ⟨7, -2, -6, 1⟩, ⟨1, -12, -7, 1⟩], 3482, 531, 1⟩,
  ⟨44, [⟨1, 0, -44, 1⟩, ⟨8, -12, -1, 1⟩, ⟨5, -4, -8, 1⟩, ⟨7, -6, -5, 1⟩, ⟨4, -8, -7, 1⟩, ⟨7, -8, -4, 1⟩, ⟨5, -6, -7, 1⟩, ⟨8, -4, -5, 1⟩, ⟨1, -12, -8, 1⟩], 199, 30, 1⟩,
  ⟨45, [⟨1, 0, -45, 1⟩, ⟨9, -12, -1, 1⟩, ⟨4, -6, -9, 1⟩, ⟨5, -10, -4, 1⟩, ⟨4, -10, -5, 1⟩, ⟨9, -6, -4, 1⟩, ⟨1, -12, -9, 1⟩], 161, 24, 1⟩,
  ⟨46, [⟨1, 0, -46, 1⟩, ⟨10, -12, -1, 1⟩, ⟨3, -8, -10, 1⟩, ⟨7, -10, -3, 1⟩, ⟨6, -4, -7, 1⟩, ⟨5, -8, -6, 1⟩, ⟨2, -12, -5, 1⟩, ⟨5, -12, -2, 1⟩, ⟨6, -8, -5, 1⟩, ⟨7, -4, -6, 1⟩, ⟨3, -10, -7, 1⟩, ⟨10, -8, -3, 1⟩, ⟨1, -12, -10, 1⟩], 24335, 3588, 1⟩,
  ⟨47, [⟨1, 0, -47, 1⟩, ⟨11, -12, -1, 1⟩, ⟨2, -10, -11, 1⟩, ⟨11, -10, -2, 1⟩, ⟨1, -12, -11, 1⟩], 48, 7, 1⟩,
  ⟨48, [⟨1, 0, -48, 1⟩, ⟨12, -12, -1, 1⟩, ⟨1, -12, -12, 1⟩], 7, 1, 1⟩,
  ⟨50, [⟨1, 0, -50, 1⟩, ⟨1, -14, -1, 1⟩], 7, 1, -1⟩,
  ⟨51, [⟨1, 0, -51, 1⟩, ⟨2, -14, -1, 1⟩, ⟨1, -14, -2, 1⟩], 50, 7, 1⟩,
  ⟨52, [⟨1, 0, -52, 1⟩, ⟨3, -14, -1, 1⟩, ⟨9, -10, -3, 1⟩, ⟨4, -8, -9, 1⟩, ⟨9, -8, -4, 1⟩, ⟨3, -10, -9, 1⟩, ⟨1, -14, -3, 1⟩], 649, 90, 1⟩,
  ⟨53, [⟨1, 0, -53, 1⟩, ⟨4, -14, -1, 1⟩, ⟨7, -10, -4, 1⟩, ⟨7, -4, -7, 1⟩, ⟨4, -10, -7, 1⟩, ⟨1, -14, -4, 1⟩], 182, 25, -1⟩,
  ⟨54, [⟨1, 0, -54, 1⟩, ⟨5, -14, -1, 1⟩, ⟨9, -6, -5, 1⟩, ⟨2, -12, -9, 1⟩, ⟨9, -12, -2, 1⟩, ⟨5, -6, -9, 1⟩, ⟨1, -14, -5, 1⟩], 485, 66, 1⟩,
  ⟨55, [⟨1, 0, -55, 1⟩, ⟨6, -14, -1, 1⟩, ⟨5, -10, -6, 1⟩, ⟨6, -10, -5, 1⟩, ⟨1, -14, -6, 1⟩], 89, 12, 1⟩,
  ⟨56, [⟨1, 0, -56, 1⟩, ⟨7, -14, -1, 1⟩, ⟨1, -14, -7, 1⟩], 15, 2, 1⟩,
  ⟨57, [⟨1, 0, -57, 1⟩, ⟨8, -14, -1, 1⟩, ⟨7, -2, -8, 1⟩, ⟨3, -12, -7, 1⟩, ⟨7, -12, -3, 1⟩, ⟨8, -2, -7, 1⟩, ⟨1, -14, -8, 1⟩], 151, 20, 1⟩,
  ⟨58, [⟨1, 0, -58, 1⟩, ⟨9, -14, -1, 1⟩, ⟨6, -4, -9, 1⟩, ⟨7, -8, -6, 1⟩, ⟨7, -6, -7, 1⟩, ⟨6, -8, -7, 1⟩, ⟨9, -4, -6, 1⟩, ⟨1, -14, -9, 1⟩], 99, 13, -1⟩,
  ⟨59, [⟨1, 0, -59, 1⟩, ⟨10, -14, -1, 1⟩, ⟨5, -6, -10, 1⟩, ⟨2, -14, -5, 1⟩, ⟨5, -14, -2, 1⟩, ⟨10, -6, -5, 1⟩, ⟨1, -14, -10, 1⟩], 530, 69, 1⟩,
  ⟨60, [⟨1, 0, -60, 1⟩, ⟨11, -14, -1, 1⟩, ⟨4, -8, -11, 1⟩, ⟨11, -8, -4, 1⟩, ⟨1, -14, -11, 1⟩], 31, 4, 1⟩]
def chain : List R4 → R4 → Bool
  | [], _ => true
  | [r], e => decide (r.nx = e)
  | r :: t :: l, e => decide (r.nx = t) && chain (t :: l) e
def smB (x : Int) : Bool := decide (x.natAbs < 1152921504606846976)
def distinct : List R4 → Bool
  | [] => true
  | r :: l => l.all (fun t => decide (r ≠ t)) && distinct l
def sts : List Int → Bool
  | [] => true
  | x :: l => smB (st (x :: l)).1 && sts l
def Ent.row (e : Ent) : List Int := e.s.dropLast.map R4.prt
def chkE (e : Ent) : Bool := decide (2 ≤ e.d) && decide (e.d ≤ 60) && !isSq e.d && decide (e.s.head? = some ⟨1, 0, 0 - e.d, 1⟩) && decide (2 ≤ e.s.length) && chain e.s (e.s.getD 1 ⟨0, 0, 0, 0⟩) && distinct e.s
  && e.s.all (fun r => smB r.a && smB r.b && smB r.c && smB r.prt) && isRow e.row && e.row.all smB && sts e.row && decide (st e.row = (e.x, e.y)) && decide (e.x * e.x - e.d * e.y * e.y = e.m) && (decide (e.m = 1) || decide (e.m = -1)) && smB e.x && smB e.y && decide (1 ≤ e.x) && decide (1 ≤ e.y) && decide (e.s.length ≤ 100)
theorem tab_ok : tab.all chkE = true := by decide +kernel
theorem tab_all : ∀ d : Int, 2 ≤ d → d ≤ 60 → isSq d = false → ∃ e ∈ tab, e.d = d := by
  have h : (List.range 61).all (fun n => decide (n < 2) || isSq (n : Int) || tab.any fun e => decide (e.d = (n : Int))) = true := by decide +kernel
  intro d h2 h60 hs
  obtain ⟨n, rfl⟩ := Int.eq_ofNat_of_zero_le (show 0 ≤ d by omega)
  have h3 := List.all_eq_true.mp h n (List.mem_range.mpr (by omega))
  rw [hs, Bool.or_false, Bool.or_eq_true] at h3
  rcases h3 with h3 | h3
  · have := of_decide_eq_true h3
    omega
  · obtain ⟨e, he, h4⟩ := List.any_eq_true.mp h3
    exact ⟨e, he, of_decide_eq_true h4⟩
end RR
/-! RRY: what the table of pairs says; the promises of first_pair, least_pair, least_minus, pair_at. -/
namespace RR
open PySem PySem.Spec PyProof.Rows L2
theorem len3 {α : Type} {a b c : α} : [a, b, c].length ≤ sizeLine := small_le (show 3 ≤ 10000000 by decide)
theorem smB_of {x : Int} (h : smB x = true) : x.natAbs < 2 ^ 60 := by
  have := of_decide_eq_true h
  have e : (2 : Nat) ^ 60 = 1152921504606846976 := by decide
  omega
theorem chain_orb : ∀ (l : List R4) (r e : R4), chain (r :: l) e = true → (∀ k, k < (r :: l).length → (r :: l)[k]? = some (orb r k)) ∧ orb r (r :: l).length = e
  | [], r, e, h => by
    have h1 : r.nx = e := of_decide_eq_true h
    refine ⟨fun k hk => ?_, h1⟩
    have : k = 0 := by simpa using hk
    subst this
    rfl
  | t :: l, r, e, h => by
    unfold chain at h
    rw [Bool.and_eq_true] at h
    have h1 : r.nx = t := of_decide_eq_true h.1
    obtain ⟨ih1, ih2⟩ := chain_orb l t e h.2
    have sh : ∀ k, orb t k = orb r (k + 1) := fun k => by
      have := orb_add r 1 k
      rw [show orb r 1 = t from h1] at this
      rw [← this, Nat.add_comm]
    refine ⟨fun k hk => ?_, ?_⟩
    · cases k with
      | zero => rfl
      | succ k =>
        rw [List.getElem?_cons_succ, ih1 k (by simpa using hk), sh]
    · rw [List.length_cons, ← sh, ih2]
theorem distinct_ne : ∀ (l : List R4), distinct l = true → ∀ (k m : Nat), k < m → ∀ x y : R4, l[k]? = some x → l[m]? = some y → x ≠ y
  | [], _, k, m, _, x, y, hx, _ => by simp at hx
  | r :: l, h, k, m, hkm, x, y, hx, hy => by
    unfold distinct at h
    rw [Bool.and_eq_true, List.all_eq_true] at h
    cases m with
    | zero => omega
    | succ m =>
      rw [List.getElem?_cons_succ] at hy
      cases k with
      | zero =>
        cases (show r = x from Option.some.inj hx)
        exact of_decide_eq_true (h.1 y (List.mem_of_getElem? hy))
      | succ k =>
        rw [List.getElem?_cons_succ] at hx
        exact distinct_ne l h.2 k m (by omega) x y hx hy
theorem sts_all : ∀ (l : List Int), sts l = true → ∀ j, Big (st (l.drop j)).1
  | [], _, j => by
    rw [List.drop_nil]
    exact big_of (by decide)
  | x :: l, h, j => by
    unfold sts at h
    rw [Bool.and_eq_true] at h
    cases j with
    | zero => exact big_of (smB_of h.1)
    | succ j => exact sts_all l h.2 j
/-- the root of d -/
def sqr (d : Int) : R4 := ⟨1, 0, 0 - d, 1⟩
theorem sqr_is {d : Int} (h : 2 ≤ d) (hs : isSq d = false) : (sqr d).Is := by
  refine ⟨(by decide : (0 : Int) < 1), .inr rfl, ?_, ?_⟩
  · show dv (dv 1 0) (0 - d) = 1
    obtain ⟨h1, _, _⟩ := dv3_dvd 1 0 (0 - d)
    exact Int.eq_one_of_dvd_one (dv_nonneg _ _) h1
  · show Ns (ht 1 0 (0 - d))
    rw [show ht 1 0 (0 - d) = 2 * 2 * d by unfold ht; omega]
    exact (ns_mul (by decide)).mpr ⟨by omega, hs⟩
/-- what the table says of a number -/
structure EntOk (e : Ent) : Prop where
  d2 : 2 ≤ e.d
  d60 : e.d ≤ 60
  ns : isSq e.d = false
  len : 2 ≤ e.s.length
  len2 : e.s.length ≤ 100
  rep : orb (sqr e.d) e.s.length = orb (sqr e.d) 1
  dis : ∀ k m, k < m → m < e.s.length → orb (sqr e.d) k ≠ orb (sqr e.d) m
  sm : ∀ k, k < e.s.length → S4 (orb (sqr e.d) k)
  row : prts (sqr e.d) 0 1 ++ (prts (sqr e.d) 1 (e.s.length - 1)).dropLast = e.row
  isr : isRow e.row = true
  big : ∀ y ∈ e.row, Big y
  bst : ∀ j, Big (st (e.row.drop j)).1
  st : st e.row = (e.x, e.y)
  m : e.x * e.x - e.d * e.y * e.y = e.m
  m1 : e.m = 1 ∨ e.m = -1
  bx : e.x.natAbs < 2 ^ 60
  bY : e.y.natAbs < 2 ^ 60
  x1 : 1 ≤ e.x
  y1 : 1 ≤ e.y
theorem ent_ok {e : Ent} (he : e ∈ tab) : EntOk e := by
  have h := List.all_eq_true.mp tab_ok e he
  unfold chkE at h
  simp only [Bool.and_eq_true, Bool.or_eq_true, Bool.not_eq_true', decide_eq_true_eq] at h
  obtain ⟨⟨⟨⟨⟨⟨⟨⟨⟨⟨⟨⟨⟨⟨⟨⟨⟨⟨h1, h2⟩, h3⟩, h4⟩, h5⟩, h6⟩, h7⟩, h8⟩, h9⟩, h10⟩, h11⟩, h12⟩, h13⟩, h14⟩, h15⟩, h16⟩, h17⟩, h18⟩, h19⟩ := h
  cases hs : e.s with
  | nil =>
    rw [hs] at h5
    simp at h5
  | cons r l =>
    have hr : r = sqr e.d := by
      rw [hs] at h4
      exact Option.some.inj h4
    subst hr
    rw [hs] at h6
    obtain ⟨c1, c2⟩ := chain_orb _ _ _ h6
    have hlen : 2 ≤ (sqr e.d :: l).length := by rw [← hs]; exact h5
    have g1 : ∀ k, k < e.s.length → e.s[k]? = some (orb (sqr e.d) k) := fun k hk => by
      rw [hs] at hk ⊢
      exact c1 k hk
    have e1 : (sqr e.d :: l).getD 1 ⟨0, 0, 0, 0⟩ = orb (sqr e.d) 1 := by
      rw [List.getD_eq_getElem?_getD, c1 1 (by omega)]
      rfl
    have hmap : e.row = (List.range' 0 (e.s.length - 1)).map fun k => (orb (sqr e.d) k).prt := by
      unfold Ent.row
      apply List.ext_getElem?
      intro i
      rw [List.getElem?_map, List.getElem?_map, List.getElem?_dropLast]
      by_cases hi : i < e.s.length - 1
      · rw [if_pos hi, g1 i (by omega), List.getElem?_range' hi]
        simp
      · rw [if_neg hi, List.getElem?_eq_none (by rw [List.length_range']; omega)]
        rfl
    refine ⟨h1, h2, h3, h5, h19, ?_, ?_, ?_, ?_, h9, ?_, sts_all _ h11, h12, h13, h14, smB_of h15, smB_of h16, h17, h18⟩
    · rw [hs, c2, e1]
    · intro k m hkm hm
      exact distinct_ne _ h7 k m hkm _ _ (g1 k (by omega)) (g1 m hm)
    · intro k hk
      have h20 := List.all_eq_true.mp h8 _ (List.mem_of_getElem? (g1 k hk))
      simp only [Bool.and_eq_true] at h20
      exact ⟨s3_of (smB_of h20.1.1.1), s3_of (smB_of h20.1.1.2), s3_of (smB_of h20.1.2), s3_of (smB_of h20.2)⟩
    · rw [hmap]
      unfold prts
      rw [← List.map_dropLast, ← List.map_append]
      congr 1
      obtain ⟨n, hn⟩ : ∃ n, e.s.length - 1 = n + 1 := ⟨e.s.length - 2, by omega⟩
      have hc : List.range' 1 (n + 1) = List.range' 1 n ++ [1 + 1 * n] := List.range'_concat
      have ha : List.range' 0 1 ++ List.range' (0 + 1) n = List.range' 0 (1 + n) := List.range'_append_1
      rw [hn, hc, List.dropLast_concat, Nat.add_comm n 1, ← ha]
    · intro y hy
      exact big_of (smB_of (List.all_eq_true.mp h10 y hy))
def BadD (d : Int) : Prop := d < 2 ∨ isSq d = true
def sp_first_pair (C : Addr) : Sp := fun vs H Q E => ∃ d : Int, vs = [.int d] ∧ Big d ∧ (BadD d → ∀ H', Same H H' → E (.ref C) none H') ∧ (¬ BadD d → ∃ e ∈ tab, e.d = d ∧ ∀ H' p, Same H H' → H p = none → H' p = some (tI [e.x, e.y, e.m]) → Q (.ref p) H')
/-- the least pair with one more -/
def Ent.X (e : Ent) : Int := if e.m = 1 then e.x else e.x * e.x + e.d * e.y * e.y
def Ent.Y (e : Ent) : Int := if e.m = 1 then e.y else 2 * e.x * e.y
def sp_least_pair (C : Addr) : Sp := fun vs H Q E => ∃ d : Int, vs = [.int d] ∧ Big d ∧ (BadD d → ∀ H', Same H H' → E (.ref C) none H') ∧ (¬ BadD d → ∃ e ∈ tab, e.d = d ∧ ∀ H' p, Same H H' → H p = none → H' p = some (tI [e.X, e.Y]) → Q (.ref p) H')
def sp_least_minus (C : Addr) : Sp := fun vs H Q E => ∃ d : Int, vs = [.int d] ∧ Big d ∧ (BadD d → ∀ H', Same H H' → E (.ref C) none H') ∧ (¬ BadD d → ∃ e ∈ tab, e.d = d ∧ (e.m = 1 → ∀ H', Same H H' → Q .non H') ∧ (e.m ≠ 1 → ∀ H' p, Same H H' → H p = none → H' p = some (tI [e.x, e.y]) → Q (.ref p) H'))
/-- the pairs, by the first one -/
def pairs (X Y d : Int) : Nat → Int × Int
  | 0 => (X, Y)
  | k + 1 => (X * (pairs X Y d k).1 + d * Y * (pairs X Y d k).2, X * (pairs X Y d k).2 + Y * (pairs X Y d k).1)
def sp_pair_at (C : Addr) : Sp := fun vs H Q E => ∃ d k : Int, vs = [.int d, .int k] ∧ Big d ∧ k ≤ 10 ∧ (BadD d → ∀ H', Same H H' → E (.ref C) none H') ∧
  (¬ BadD d → ∃ e ∈ tab, e.d = d ∧ (k < 1 → ∀ H', Same H H' → E (.ref C) none H') ∧ (1 ≤ k → ∀ H' p, Same H H' → H p = none → H' p = some (tI [(pairs e.X e.Y d (k - 1).toNat).1, (pairs e.X e.Y d (k - 1).toNat).2]) → Q (.ref p) H'))
theorem EntOk.bXY {e : Ent} (T : EntOk e) : e.X.natAbs < 2 ^ 130 ∧ e.Y.natAbs < 2 ^ 130 := by
  have d1 := T.d60
  have d2 := T.d2
  have h1 := nat_mul_lt T.bx T.bx
  have h2 := nat_mul_lt (nat_mul_lt (m := 6) (x := e.d) (by omega) T.bY) T.bY
  have h3 := nat_mul_lt (nat_mul_lt (m := 2) (x := 2) (by decide) T.bx) T.bY
  unfold Ent.X Ent.Y
  split
  · exact ⟨nat_mono T.bx (by decide), nat_mono T.bY (by decide)⟩
  · exact ⟨nat_mono (nat_add_lt (m := 126) (nat_mono h1 (by decide)) (nat_mono h2 (by decide))) (by decide), nat_mono h3 (by decide)⟩
theorem pairs_big {X Y d : Int} (hX : X.natAbs < 2 ^ 130) (hY : Y.natAbs < 2 ^ 130) (hd : d.natAbs < 2 ^ 6) : ∀ i, (pairs X Y d i).1.natAbs < 2 ^ (131 + 208 * i) ∧ (pairs X Y d i).2.natAbs < 2 ^ (131 + 208 * i)
  | 0 => ⟨nat_mono hX (by decide), nat_mono hY (by decide)⟩
  | i + 1 => by
    obtain ⟨a, b⟩ := pairs_big hX hY hd i
    have h1 := nat_mono (nat_mul_lt hX a) (show 130 + (131 + 208 * i) ≤ 338 + 208 * i by omega)
    have h2 := nat_mono (nat_mul_lt (nat_mul_lt hd hY) b) (show 6 + 130 + (131 + 208 * i) ≤ 338 + 208 * i by omega)
    have h3 := nat_mono (nat_mul_lt hX b) (show 130 + (131 + 208 * i) ≤ 338 + 208 * i by omega)
    have h4 := nat_mono (nat_mul_lt hY a) (show 130 + (131 + 208 * i) ≤ 338 + 208 * i by omega)
    rw [show 131 + 208 * (i + 1) = 338 + 208 * i + 1 by omega]
    exact ⟨nat_add_lt h1 h2, nat_add_lt h3 h4⟩
end RR
/-! RRZ: no lesser pairs: the table, checked. -/
namespace RR
def nosq (d m : Int) : Nat → Bool
  | 0 => true
  | y + 1 => (decide (y = 0) || !isSq (d * (y : Int) * (y : Int) + m)) && nosq d m y
theorem nosq_at {d m : Int} : ∀ {n : Nat}, nosq d m n = true → ∀ y : Nat, 1 ≤ y → y < n → isSq (d * (y : Int) * (y : Int) + m) = false
  | 0, _, y, _, h => absurd h (Nat.not_lt_zero _)
  | n + 1, h, y, h1, h2 => by
    unfold nosq at h
    rw [Bool.and_eq_true, Bool.or_eq_true, Bool.not_eq_true'] at h
    by_cases e : y = n
    · subst e
      rcases h.1 with h3 | h3
      · have := of_decide_eq_true h3
        omega
      · exact h3
    · exact nosq_at h.2 y h1 (by omega)
def least (x : Int) : Nat := if x < 300 then x.toNat else 300
def chkM (e : Ent) : Bool := nosq e.d 1 (least e.Y) && (if e.m = 1 then nosq e.d (-1) 300 else nosq e.d (-1) (least e.y))
theorem tab_least : tab.all chkM = true := by decide +kernel
end RR
namespace RR
open PySem PySem.Spec PyProof.Rows L2
/-! ### the text by places -/
def topS (i : Nat) : Stmt := PySem.Challenge.pw_rootrow_k13_whole_squares_that_differ_by.main.body.getD i (.Pass ⟨0, 0, 0, 0⟩)
abbrev s_divisor : Stmt := topS 4
abbrev n_divisor : List Str := ["one", "other"]
abbrev p_divisor : List Str := ["one", "other"]
theorem sc_divisor : FnScope n_divisor p_divisor (defScope s_divisor) := ⟨rfl, rfl, rfl, by decide +kernel, rfl, by decide +kernel, by decide +kernel⟩
abbrev s_least_square : Stmt := topS 5
abbrev n_least_square : List Str := ["n", "found", "other"]
abbrev p_least_square : List Str := ["n"]
theorem sc_least_square : FnScope n_least_square p_least_square (defScope s_least_square) := ⟨rfl, rfl, rfl, by decide +kernel, rfl, by decide +kernel, by decide +kernel⟩
abbrev s_heart : Stmt := topS 7
abbrev n_heart : List Str := ["a", "b", "c"]
abbrev p_heart : List Str := ["a", "b", "c"]
theorem sc_heart : FnScope n_heart p_heart (defScope s_heart) := ⟨rfl, rfl, rfl, by decide +kernel, rfl, by decide +kernel, by decide +kernel⟩
abbrev s_is_square : Stmt := topS 8
abbrev n_is_square : List Str := ["n"]
abbrev p_is_square : List Str := ["n"]
theorem sc_is_square : FnScope n_is_square p_is_square (defScope s_is_square) := ⟨rfl, rfl, rfl, by decide +kernel, rfl, by decide +kernel, by decide +kernel⟩
abbrev s_root_of : Stmt := topS 9
abbrev n_root_of : List Str := ["a", "b", "c", "side", "by"]
abbrev p_root_of : List Str := ["a", "b", "c", "side"]
theorem sc_root_of : FnScope n_root_of p_root_of (defScope s_root_of) := ⟨rfl, rfl, rfl, by decide +kernel, rfl, by decide +kernel, by decide +kernel⟩
abbrev s_part_of : Stmt := topS 10
abbrev n_part_of : List Str := ["number", "a", "b", "c", "side", "wide", "found"]
abbrev p_part_of : List Str := ["number"]
theorem sc_part_of : FnScope n_part_of p_part_of (defScope s_part_of) := ⟨rfl, rfl, rfl, by decide +kernel, rfl, by decide +kernel, by decide +kernel⟩
abbrev s_moved : Stmt := topS 11
abbrev n_moved : List Str := ["root", "n", "a", "b", "c", "side"]
abbrev p_moved : List Str := ["root", "n"]
theorem sc_moved : FnScope n_moved p_moved (defScope s_moved) := ⟨rfl, rfl, rfl, by decide +kernel, rfl, by decide +kernel, by decide +kernel⟩
abbrev s_turned : Stmt := topS 12
abbrev n_turned : List Str := ["root", "n", "a", "b", "c", "side", "other"]
abbrev p_turned : List Str := ["root", "n"]
theorem sc_turned : FnScope n_turned p_turned (defScope s_turned) := ⟨rfl, rfl, rfl, by decide +kernel, rfl, by decide +kernel, by decide +kernel⟩
abbrev s_fraction_of : Stmt := topS 14
abbrev n_fraction_of : List Str := ["row", "part", "upper", "lower"]
abbrev p_fraction_of : List Str := ["row"]
theorem sc_fraction_of : FnScope n_fraction_of p_fraction_of (defScope s_fraction_of) := ⟨rfl, rfl, rfl, by decide +kernel, rfl, by decide +kernel, by decide +kernel⟩
abbrev s_rounds_of : Stmt := topS 16
abbrev n_rounds_of : List Str := ["root", "places", "parts", "cut"]
abbrev p_rounds_of : List Str := ["root"]
theorem sc_rounds_of : FnScope n_rounds_of p_rounds_of (defScope s_rounds_of) := ⟨rfl, rfl, rfl, by decide +kernel, rfl, by decide +kernel, by decide +kernel⟩
abbrev s_first_pair : Stmt := topS 18
abbrev n_first_pair : List Str := ["d", "ahead", "again", "x", "y"]
abbrev p_first_pair : List Str := ["d"]
theorem sc_first_pair : FnScope n_first_pair p_first_pair (defScope s_first_pair) := ⟨rfl, rfl, rfl, by decide +kernel, rfl, by decide +kernel, by decide +kernel⟩
abbrev s_least_pair : Stmt := topS 19
abbrev n_least_pair : List Str := ["d", "x", "y", "more"]
abbrev p_least_pair : List Str := ["d"]
theorem sc_least_pair : FnScope n_least_pair p_least_pair (defScope s_least_pair) := ⟨rfl, rfl, rfl, by decide +kernel, rfl, by decide +kernel, by decide +kernel⟩
abbrev s_least_minus : Stmt := topS 20
abbrev n_least_minus : List Str := ["d", "x", "y", "more"]
abbrev p_least_minus : List Str := ["d"]
theorem sc_least_minus : FnScope n_least_minus p_least_minus (defScope s_least_minus) := ⟨rfl, rfl, rfl, by decide +kernel, rfl, by decide +kernel, by decide +kernel⟩
abbrev s_pair_at : Stmt := topS 21
abbrev n_pair_at : List Str := ["d", "k", "x", "y", "found", "turn"]
abbrev p_pair_at : List Str := ["d", "k"]
theorem sc_pair_at : FnScope n_pair_at p_pair_at (defScope s_pair_at) := ⟨rfl, rfl, rfl, by decide +kernel, rfl, by decide +kernel, by decide +kernel⟩
abbrev s__law_cell : Stmt := topS 23
abbrev n__law_cell : List Str := ["_law_script", "_law_k"]
abbrev p__law_cell : List Str := ["_law_script", "_law_k"]
theorem sc__law_cell : FnScope n__law_cell p__law_cell (defScope s__law_cell) := ⟨rfl, rfl, rfl, by decide +kernel, rfl, by decide +kernel, by decide +kernel⟩
abbrev s__law_mix : Stmt := topS 24
abbrev n__law_mix : List Str := ["_law_cell_here", "_law_prime", "_law_many"]
abbrev p__law_mix : List Str := ["_law_cell_here", "_law_prime", "_law_many"]
theorem sc__law_mix : FnScope n__law_mix p__law_mix (defScope s__law_mix) := ⟨rfl, rfl, rfl, by decide +kernel, rfl, by decide +kernel, by decide +kernel⟩
abbrev s__law_whole : Stmt := topS 25
abbrev n__law_whole : List Str := ["_law_found"]
abbrev p__law_whole : List Str := ["_law_found"]
theorem sc__law_whole : FnScope n__law_whole p__law_whole (defScope s__law_whole) := ⟨rfl, rfl, rfl, by decide +kernel, rfl, by decide +kernel, by decide +kernel⟩
abbrev s__law_divisor : Stmt := topS 26
abbrev n__law_divisor : List Str := ["_law_one", "_law_other"]
abbrev p__law_divisor : List Str := ["_law_one", "_law_other"]
theorem sc__law_divisor : FnScope n__law_divisor p__law_divisor (defScope s__law_divisor) := ⟨rfl, rfl, rfl, by decide +kernel, rfl, by decide +kernel, by decide +kernel⟩
abbrev s__law_lowest : Stmt := topS 27
abbrev n__law_lowest : List Str := ["_law_upper", "_law_lower", "_law_by"]
abbrev p__law_lowest : List Str := ["_law_upper", "_law_lower"]
theorem sc__law_lowest : FnScope n__law_lowest p__law_lowest (defScope s__law_lowest) := ⟨rfl, rfl, rfl, by decide +kernel, rfl, by decide +kernel, by decide +kernel⟩
abbrev s__law_fraction : Stmt := topS 28
abbrev n__law_fraction : List Str := ["_law_cell_here", "_law_other", "_law_wide", "_law_upper"]
abbrev p__law_fraction : List Str := ["_law_cell_here", "_law_other", "_law_wide"]
theorem sc__law_fraction : FnScope n__law_fraction p__law_fraction (defScope s__law_fraction) := ⟨rfl, rfl, rfl, by decide +kernel, rfl, by decide +kernel, by decide +kernel⟩
abbrev s__law_square : Stmt := topS 29
abbrev n__law_square : List Str := ["_law_n", "_law_low", "_law_high", "_law_half"]
abbrev p__law_square : List Str := ["_law_n"]
theorem sc__law_square : FnScope n__law_square p__law_square (defScope s__law_square) := ⟨rfl, rfl, rfl, by decide +kernel, rfl, by decide +kernel, by decide +kernel⟩
abbrev s__law_heart : Stmt := topS 30
abbrev n__law_heart : List Str := ["_law_root_here"]
abbrev p__law_heart : List Str := ["_law_root_here"]
theorem sc__law_heart : FnScope n__law_heart p__law_heart (defScope s__law_heart) := ⟨rfl, rfl, rfl, by decide +kernel, rfl, by decide +kernel, by decide +kernel⟩
abbrev s__law_root : Stmt := topS 31
abbrev n__law_root : List Str := ["_law_cell_here", "_law_other", "_law_wide", "_law_k", "_law_a", "_law_b", "_law_c", "_law_d", "_law_by"]
abbrev p__law_root : List Str := ["_law_cell_here", "_law_other", "_law_wide"]
theorem sc__law_root : FnScope n__law_root p__law_root (defScope s__law_root) := ⟨rfl, rfl, rfl, by decide +kernel, rfl, by decide +kernel, by decide +kernel⟩
abbrev s__law_first : Stmt := topS 32
abbrev n__law_first : List Str := ["_law_d", "_law_more", "_law_bound", "_law_y", "_law_n", "_law_x"]
abbrev p__law_first : List Str := ["_law_d", "_law_more", "_law_bound"]
theorem sc__law_first : FnScope n__law_first p__law_first (defScope s__law_first) := ⟨rfl, rfl, rfl, by decide +kernel, rfl, by decide +kernel, by decide +kernel⟩
abbrev s__law_pair_right : Stmt := topS 33
abbrev n__law_pair_right : List Str := ["_law_found", "_law_d", "_law_more", "_law_bound", "_law_x", "_law_y", "_law_first_here", "_law_one"]
abbrev p__law_pair_right : List Str := ["_law_found", "_law_d", "_law_more", "_law_bound"]
theorem sc__law_pair_right : FnScope n__law_pair_right p__law_pair_right (defScope s__law_pair_right) := ⟨rfl, rfl, rfl, by decide +kernel, rfl, by decide +kernel, by decide +kernel⟩
abbrev s_law : Stmt := topS 34
abbrev n_law : List Str := ["_law_script", "_law_d", "_law_found", "_law_other", "_law_k", "_law_x", "_law_y", "_law_turn", "_law_more"]
abbrev p_law : List Str := ["_law_script"]
theorem sc_law : FnScope n_law p_law (defScope s_law) := ⟨rfl, rfl, rfl, by decide +kernel, rfl, by decide +kernel, by decide +kernel⟩
section
variable {P : Program} {w : World} {K : PySem.W.Frag} {mg : Str → Option Value} {base : Heap}
theorem ok_divisor (D : Df K mg "divisor" p_divisor s_divisor) (B : Bl mg) : Cal P w K mg base CX0 1 "divisor" p_divisor sp_divisor := D.cal fun f fd F => by
  refine F.ok sc_divisor (fun vs H Q E h => ?_) (fun cdv A outer s H vs Q E hr h => ?_)
  · obtain ⟨a, b, rfl, _⟩ := h
    rfl
  obtain ⟨a, b, rfl, q⟩ := h
  refine ⟨_, pss_cons (ps_set (i := 0) sc_divisor.nd rfl (.inl rfl) (pe_callB call_abs (by rfl) B.abs (by decide +kernel) (pa_cons (pv 0) pa_nil)))
    (pss_cons (ps_set (i := 1) sc_divisor.nd rfl (.inl rfl) (pe_callB call_abs (by rfl) B.abs (by decide +kernel) (pa_cons (pv 1) pa_nil)))
    (pss_cons (ps_while PassesOwn.never (pt_cmpR op_gt (pv 1) pe_int (nomark _)) (pss_one (ps_par (i := 0) (j := 1) (by rfl) sc_divisor.nd rfl rfl (by decide) rfl rfl (pa_cons (pv 1) (pa_cons (pe_op op_mod (pv 0) (pv 1)) pa_nil)) (by rfl))))
    (pss_one (ps_ret (pv 0))))), ?_⟩
  refine ⟨_, rfl, a, rfl, _, rfl, b, rfl, ?_⟩
  refine ⟨fun m σ H' => ∃ x y : Int, σ = [some (.int x), some (.int y)] ∧ 0 ≤ x ∧ 0 ≤ y ∧ Int.gcd x y = Int.gcd a b ∧ H' = H ∧ m = y.toNat, ⟨_, _, _, rfl, by split <;> omega, by split <;> omega, gcd_abs a b, rfl, rfl⟩, ?_⟩
  rintro m σ H' ⟨x, y, rfl, hx, hy, hg, rfl, rfl⟩
  refine ⟨_, rfl, _, _, rfl, rfl, _, rfl, ite2 (fun c => ?_) (fun c => ?_)⟩
  · have c' : 0 < y := of_decide_eq_true c
    have h1 := Int.emod_nonneg x (show y ≠ 0 by omega)
    have h2 := Int.emod_lt_of_pos x c'
    refine ⟨fun σ' H2 => σ' = [some (.int y), some (.int (x % y))] ∧ H2 = H', fun σ' H2 ⟨e1, e2⟩ => ⟨(x % y).toNat, by omega, y, x % y, e1, hy, h1, by rw [gcd_step hx c', hg], e2, rfl⟩, ?_⟩
    exact ⟨_, rfl, _, rfl, _, rfl, _, _, rfl, rfl, c', _, _, rfl, rfl, rfl⟩
  · have c' : ¬ 0 < y := of_decide_eq_false (Bool.eq_false_iff.mpr c)
    refine ⟨_, rfl, ?_⟩
    have e : x = dv a b := by
      rw [gcd_end hx c' hy, hg]
      rfl
    rw [e]
    exact q
end
section
variable {P : Program} {w : World} {K : PySem.W.Frag} {mg : Str → Option Value} {base : Heap}
theorem ok_least_square (D : Df K mg "least_square" p_least_square s_least_square) : Cal P w K mg base CX0 1 "least_square" p_least_square sp_least_square := D.cal fun f fd F => by
  refine F.ok sc_least_square (fun vs H Q E h => ?_) (fun cdv A outer s H vs Q E hr h => ?_)
  · obtain ⟨a, rfl, _⟩ := h
    rfl
  obtain ⟨n, rfl, h0, hb, q⟩ := h
  refine ⟨_, pss_cons (ps_if (pt_cmpR op_lt (pv 0) pe_int (nomark _)) (pss_one (ps_ret (pv 0))) pss_nil)
    <| pss_cons (ps_set (i := 1) sc_least_square.nd rfl (.inl rfl) (pv 0))
    <| pss_cons (ps_set (i := 2) sc_least_square.nd rfl (.inl rfl) (pe_op op_fdiv (pe_op op_add (pv 1) (pe_op op_fdivW (pv 0) (pv 1))) pe_int))
    <| pss_cons (ps_while PassesOwn.never (pt_cmpR op_lt (pv 2) (pv 1) (nomark _)) (pss_cons (ps_set (i := 1) sc_least_square.nd rfl (.inl rfl) (pv 2))
      (pss_one (ps_set (i := 2) sc_least_square.nd rfl (.inl rfl) (pe_op op_fdiv (pe_op op_add (pv 1) (pe_op op_fdivW (pv 0) (pv 1))) pe_int)))))
    <| pss_one (ps_ret (pv 1)), ?_⟩
  refine ⟨_, rfl, _, _, rfl, rfl, _, rfl, ite2 (fun c => ?_) (fun c => ?_)⟩
  · have c' : n < 2 := of_decide_eq_true c
    have e : rt n = n := by
      rcases (show n = 0 ∨ n = 1 by omega) with rfl | rfl <;> exact rt_unique (by decide) (by decide) (by decide)
    rw [e] at q
    exact ⟨_, rfl, q⟩
  have c' : ¬ n < 2 := of_decide_eq_false (Bool.eq_false_iff.mpr c)
  have hdv : ∀ f : Int, 1 ≤ f → f ≤ n → 0 < f ∧ f.natAbs.log2 < 9000 := fun f h1 h2 => ⟨by omega, Nat.lt_trans (big_le (x := f) (by omega) hb).log (by decide)⟩
  have st : ∀ f : Int, 1 ≤ f → (f + n / f) / 2 ≤ (f + n / f) / 2 := fun f _ => Int.le_refl _
  refine ⟨_, rfl, _, rfl, _, rfl, _, rfl, _, _, rfl, rfl, hdv n (by omega) (by omega), _, _, rfl, rfl, _, _, rfl, rfl, ⟨by decide, by decide⟩, ?_⟩
  refine ⟨fun m σ H' => ∃ f : Int, σ = [some (.int n), some (.int f), some (.int ((f + n / f) / 2))] ∧ 1 ≤ f ∧ f ≤ n ∧ n < (f + 1) * (f + 1) ∧ H' = H ∧ m = f.toNat, ⟨_, n, rfl, by omega, by omega, ?_, rfl, rfl⟩, ?_⟩
  · have : (n + 1) * (n + 1) = n * n + 2 * n + 1 := by grind
    have := sqn n
    omega
  rintro m σ H' ⟨f, rfl, h1, h2, h3, rfl, rfl⟩
  obtain ⟨k1, k2, k3⟩ := newton (n := n) (by omega) h1
  refine ⟨_, rfl, _, rfl, _, _, rfl, rfl, _, rfl, ite2 (fun c => ?_) (fun c => ?_)⟩
  · have c2 : (f + n / f) / 2 < f := of_decide_eq_true c
    refine ⟨fun σ' H2 => σ' = [some (.int n), some (.int ((f + n / f) / 2)), some (.int (((f + n / f) / 2 + n / ((f + n / f) / 2)) / 2))] ∧ H2 = H', fun σ' H2 ⟨e1, e2⟩ => ⟨_, ?_, _, e1, k1, ?_, k2, e2, rfl⟩, ?_⟩
    · omega
    · omega
    · exact ⟨_, rfl, _, rfl, _, rfl, _, rfl, _, _, rfl, rfl, hdv _ k1 (by omega), _, _, rfl, rfl, _, _, rfl, rfl, ⟨by decide, by decide⟩, rfl, rfl⟩
  · have c2 : ¬ (f + n / f) / 2 < f := of_decide_eq_false (Bool.eq_false_iff.mpr c)
    have e : rt n = f := rt_unique (by omega) (k3 (by omega)) h3
    rw [e] at q
    exact ⟨_, rfl, q⟩
end
section
variable {P : Program} {w : World} {K : PySem.W.Frag} {mg : Str → Option Value} {base : Heap}
theorem ok_heart (D : Df K mg "heart" p_heart s_heart) : Cal P w K mg base CX0 1 "heart" p_heart sp_heart := D.cal fun f fd F => by
  refine F.ok sc_heart (fun vs H Q E h => ?_) (fun cdv A outer s H vs Q E hr h => ?_)
  · obtain ⟨a, b, c, rfl, _⟩ := h
    rfl
  obtain ⟨a, b, c, rfl, ha, hb, hc, q⟩ := h
  refine ⟨_, pss_one (ps_ret (pe_op op_sub (pe_op op_mulW (pv 1) (pv 1)) (pe_op op_mulW (pe_op op_mulW pe_int (pv 0)) (pv 2)))), ?_⟩
  exact ⟨_, rfl, _, rfl, _, _, rfl, rfl, mulW_of hb.lt hb.lt, _, rfl, _, _, rfl, rfl, mulW_of (m := 3) (by decide) ha.lt, _, rfl, _, _, rfl, rfl, mulW_of (m := 1003) (nat_mul_lt (m := 3) (by decide) ha.lt) hc.lt, _, _, rfl, rfl, q⟩
end
section
variable {P : Program} {w : World} {K : PySem.W.Frag} {mg : Str → Option Value} {base : Heap}
theorem ok_is_square (D : Df K mg "is_square" p_is_square s_is_square) (Cs : Cal P w K mg base CX0 1 "least_square" p_least_square sp_least_square) : Cal P w K mg base CX0 2 "is_square" p_is_square sp_is_square := D.cal fun f fd F => by
  refine F.ok sc_is_square (fun vs H Q E h => ?_) (fun cdv A outer s H vs Q E hr h => ?_)
  · obtain ⟨n, rfl, _⟩ := h
    rfl
  obtain ⟨n, rfl, h0, hb, q⟩ := h
  refine ⟨_, pss_one (ps_ret (pe_cmpR op_eq (pe_op op_mulW (pe_cal Cs hr (by decide) (by rfl) pass0 (pa_cons (pv 0) pa_nil)) (pe_cal Cs hr (by decide) (by rfl) pass0 (pa_cons (pv 0) pa_nil))) (pv 0) (nomark _))), ?_⟩
  have hr1 : Big (rt n) := big_le (by have := rt_le h0; have := (rt_spec h0).1; omega) hb
  refine ⟨_, rfl, n, rfl, h0, hb, _, rfl, n, rfl, h0, hb, _, _, rfl, rfl, hr1.mul hr1, _, rfl, rfl, ?_⟩
  have e : decide (V.int (rt n * rt n) = V.int n) = isSq n := by
    unfold isSq
    exact decide_eq_decide.mpr ⟨fun z => V.int.inj z, fun z => congrArg V.int z⟩
  dsimp only
  rw [e]
  exact q
end
section
variable {P : Program} {w : World} {K : PySem.W.Frag} {mg : Str → Option Value} {base : Heap} {C R : Addr}
theorem ok_root_of (D : Df K mg "root_of" p_root_of s_root_of) (N : NoN K mg C R) (Ch : Cal P w K mg base CX0 1 "heart" p_heart sp_heart) (Cs : Cal P w K mg base CX0 2 "is_square" p_is_square sp_is_square) (Cd : Cal P w K mg base CX0 1 "divisor" p_divisor sp_divisor) : Cal P w K mg base (L2.CX P w) 3 "root_of" p_root_of (sp_root_of C) := D.cal fun f fd F => by
  refine F.okX sc_root_of (fun vs H Q E h => ?_) (fun cdv A outer s H vs Q E hr h => ?_)
  · obtain ⟨a, b, c, s, rfl, _⟩ := h
    rfl
  obtain ⟨a, b, c, sd, rfl, ha, hb, hc, q0, q⟩ := h
  refine ⟨_, pss_mid (ps_if (PW.pt (pw_or (pt_cmpR op_eq (pv 0) pe_int (nomark _)) (pw_or (pt_cmpR op_lt (pe_cal Ch hr (by decide) (by rfl) pass0 (pa_cons (pv 0) (pa_cons (pv 1) (pa_cons (pv 2) pa_nil)))) pe_int (nomark _))
      (pw_or1 (pt_val (pe_cal Cs hr (by decide) (by rfl) pass0 (pa_cons (pe_cal Ch hr (by decide) (by rfl) pass0 (pa_cons (pv 0) (pa_cons (pv 1) (pa_cons (pv 2) pa_nil)))) pa_nil)))))))
      (pss_one (ps_no N rfl (takes_of rfl rfl rfl rfl) (by rfl))) pss_nil)
    <| pss_cons (ps_set (i := 4) sc_root_of.nd rfl (.inl rfl) (pe_cal Cd hr (by decide) (by rfl) pass0 (pa_cons (pe_cal Cd hr (by decide) (by rfl) pass0 (pa_cons (pv 0) (pa_cons (pv 1) pa_nil))) (pa_cons (pv 2) pa_nil))))
    <| pss_cons (ps_if (pt_cmpR op_lt (pv 0) pe_int (nomark _)) (pss_one (ps_set (i := 4) sc_root_of.nd rfl (.inl rfl) (pe_op op_sub pe_int (pv 4)))) pss_nil)
    (pss_one (ps_ret (pe_tup (pa_cons (pe_op op_fdivWN (pv 0) (pv 4)) (pa_cons (pe_op op_fdivWN (pv 1) (pv 4)) (pa_cons (pe_op op_fdivWN (pv 2) (pv 4)) (pa_cons (pv 3) pa_nil))))))), ?_⟩
  refine ⟨fun σ H' => H' = H ∧ σ = [some (.int a), some (.int b), some (.int c), some (.int sd), none] ∧ ¬ NoRoot a b c, ?_, ?_⟩
  · refine ⟨_, rfl, rfl, _, rfl, ite2 (fun k => ?_) (fun k => ?_)⟩
    · exact iteT (q0 (.inl (V.int.inj (of_decide_eq_true k))))
    have h0 : a ≠ 0 := fun z => k (decide_eq_true (congrArg V.int z))
    refine ⟨_, rfl, _, rfl, _, rfl, a, b, c, rfl, ha, hb, hc, _, _, rfl, rfl, _, rfl, ite2 (fun k => ?_) (fun k => ?_)⟩
    · exact iteT (q0 (.inr (.inl (of_decide_eq_true k))))
    have h1 : ¬ ht a b c < 0 := of_decide_eq_false (Bool.eq_false_iff.mpr k)
    refine ⟨_, rfl, _, rfl, _, rfl, a, b, c, rfl, ha, hb, hc, ht a b c, rfl, by omega, ht_big ha hb hc, _, rfl, ?_⟩
    cases e : isSq (ht a b c) with
    | true => exact iteT (q0 (.inr (.inr e)))
    | false => exact iteF ⟨rfl, rfl, fun z => z.elim h0 fun z => z.elim h1 fun z => by rw [e] at z; cases z⟩
  rintro σ H' ⟨rfl, rfl, hno⟩
  have h0 : a ≠ 0 := fun z => hno (.inl z)
  have hg : 0 < dv (dv a b) c := dv_pos_left (by have := dv_pos_left (b := b) h0; omega)
  obtain ⟨d1, d2, d3⟩ := dv3_dvd a b c
  have hgb : (dv (dv a b) c).natAbs.log2 < 9000 := by
    refine Nat.lt_of_lt_of_le (PySem.Flt.log2_lt_of (by decide) (Nat.lt_of_le_of_lt ?_ ha.lt)) (by decide : 1000 ≤ 9000)
    obtain ⟨k, hk⟩ := d1
    conv => rhs; rw [hk]
    rw [Int.natAbs_mul]
    refine Nat.le_mul_of_pos_right _ ?_
    have : k ≠ 0 := fun z => by
      rw [z, Int.mul_zero] at hk
      exact h0 hk
    omega
  have q2 := q hno
  unfold nfA nfB nfC at q2
  refine ⟨_, rfl, _, rfl, a, b, rfl, _, rfl, _, c, rfl, ?_⟩
  generalize dv (dv a b) c = g at *
  refine ⟨_, rfl, _, _, rfl, rfl, _, rfl, ite2 (fun k => ?_) (fun k => ?_)⟩
  · have k' : a < 0 := of_decide_eq_true k
    have hb1 : (0 - g) ≠ 0 ∧ (0 - g).natAbs.log2 < 9000 := ⟨by omega, by rw [show (0 - g).natAbs = g.natAbs by omega]; exact hgb⟩
    refine ⟨_, rfl, _, _, rfl, rfl, _, rfl, _, rfl, _, _, rfl, rfl, hb1, _, rfl, _, rfl, _, _, rfl, rfl, hb1, _, rfl, _, rfl, _, _, rfl, rfl, hb1, _, rfl, len4, fun p np => ?_⟩
    have q3 := q2 p np
    rw [if_pos k', if_pos k', if_pos k', ← fdiv_neg_dvd d1 (by omega), ← fdiv_neg_dvd d2 (by omega), ← fdiv_neg_dvd d3 (by omega), ← show (0 : Int) - g = -g by omega] at q3
    exact q3
  · have k' : ¬ a < 0 := of_decide_eq_false (Bool.eq_false_iff.mpr k)
    have hb1 : g ≠ 0 ∧ g.natAbs.log2 < 9000 := ⟨by omega, hgb⟩
    refine ⟨_, rfl, _, rfl, _, _, rfl, rfl, hb1, _, rfl, _, rfl, _, _, rfl, rfl, hb1, _, rfl, _, rfl, _, _, rfl, rfl, hb1, _, rfl, len4, fun p np => ?_⟩
    have q3 := q2 p np
    rw [if_neg k', if_neg k', if_neg k', ← Int.fdiv_eq_ediv_of_nonneg a (by omega), ← Int.fdiv_eq_ediv_of_nonneg b (by omega), ← Int.fdiv_eq_ediv_of_nonneg c (by omega)] at q3
    exact q3
end
section
variable {P : Program} {w : World} {K : PySem.W.Frag} {mg : Str → Option Value} {base : Heap}
theorem ok_part_of (D : Df K mg "part_of" p_part_of s_part_of) (B : Bl mg) (Ch : Cal P w K mg base CX0 1 "heart" p_heart sp_heart) (Cs : Cal P w K mg base CX0 1 "least_square" p_least_square sp_least_square) : Cal P w K mg base CX0 2 "part_of" p_part_of sp_part_of := D.cal fun f fd F => by
  refine F.ok sc_part_of (fun vs H Q E h => ?_) (fun cdv A outer s H vs Q E hr h => ?_)
  · obtain ⟨r, rfl, _⟩ := h
    rfl
  obtain ⟨r, rfl, h⟩ := h
  refine ⟨_, pss_cons (ps_if (pt_cmpR op_eq (pe_callB call_len_seq (by rfl) B.len PySem.boot_len (pa_cons (pv 0) pa_nil)) pe_int (nomark _))
        (pss_one (ps_ret (pe_op op_fdivW (pe_ix ix_tup (pv 0) pe_int (fun _ _ => rfl)) (pe_ix ix_tup (pv 0) pe_int (fun _ _ => rfl))))) pss_nil)
    <| pss_cons (ps_asg (pv 0) (pg_tup (by rfl) (pgs_cons (pg_name (i := 1) sc_part_of.nd rfl (.inl rfl)) (pgs_cons (pg_name (i := 2) sc_part_of.nd rfl (.inl rfl)) (pgs_cons (pg_name (i := 3) sc_part_of.nd rfl (.inl rfl)) (pgs_cons (pg_name (i := 4) sc_part_of.nd rfl (.inl rfl)) pgs_nil))))))
    <| pss_cons (ps_set (i := 5) sc_part_of.nd rfl (.inl rfl) (pe_cal Cs hr (by decide) (by rfl) pass0 (pa_cons (pe_cal Ch hr (by decide) (by rfl) pass0 (pa_cons (pv 1) (pa_cons (pv 2) (pa_cons (pv 3) pa_nil)))) pa_nil)))
    <| pss_cons (ps_set (i := 6) sc_part_of.nd rfl (.inl rfl) (pe_op op_fdivW (pe_op op_sub (pv 5) (pv 2)) (pe_op op_mulW pe_int (pv 1))))
    <| pss_cons (ps_if (pt_cmpR op_eq (pv 4) pe_int (nomark _)) (pss_one (ps_set (i := 6) sc_part_of.nd rfl (.inl rfl) (pe_op op_fdivW (pe_op op_sub (pe_op op_sub (pe_op op_sub pe_int (pv 5)) pe_int) (pv 2)) (pe_op op_mulW pe_int (pv 1))))) pss_nil)
    <| pss_one (ps_ret (pv 6)), ?_⟩
  rcases h with ⟨u, l, e, hl, hb, q⟩ | ⟨a, b, c, sd, e, ha, hh, sa, sb, sc, q⟩
  · refine ⟨_, rfl, r, _, rfl, .inr (SqT.of e), rfl, true, rfl, iteT ?_⟩
    exact ⟨_, rfl, r, _, 0, .int u, rfl, rfl, SqT.of e, atI_nat (j := 0) rfl, _, rfl, r, _, 1, .int l, rfl, rfl, SqT.of e, atI_nat (j := 1) rfl, _, _, rfl, rfl, ⟨hl, Nat.lt_trans hb.log (by decide)⟩, q⟩
  · refine ⟨_, rfl, r, _, rfl, .inr (SqT.of e), rfl, false, rfl, iteF ?_⟩
    have hd : CDivW (rt (ht a b c) - b) (2 * a) := ⟨by omega, Nat.lt_of_lt_of_le (PySem.Flt.log2_lt_of (k := 1002) (by decide) (nat_mul_lt (m := 2) (by decide) sa.lt)) (by decide)⟩
    have hm : CMulW 2 a := mulW_of (m := 2) (by decide) sa.lt
    refine ⟨_, rfl, r, _, rfl, SqT.of e, rfl, _, _, rfl, _, _, rfl, _, _, rfl, _, _, rfl, rfl, ?_⟩
    refine ⟨_, rfl, _, rfl, _, rfl, a, b, c, rfl, sa, sb, sc, _, rfl, hh, ht_big sa sb sc, ?_⟩
    refine ⟨_, rfl, _, rfl, _, _, rfl, rfl, _, rfl, _, _, rfl, rfl, hm, _, _, rfl, rfl, hd, ?_⟩
    refine ⟨_, rfl, rfl, _, rfl, ite2 (fun k => ?_) (fun k => ?_)⟩
    · have k' : sd = 0 := V.int.inj (of_decide_eq_true k)
      refine ⟨_, rfl, _, _, rfl, rfl, _, _, rfl, rfl, _, rfl, _, _, rfl, rfl, _, rfl, _, _, rfl, rfl, hm, _, _, rfl, rfl, hd, _, rfl, ?_⟩
      unfold partR at q
      rw [if_pos k'] at q
      exact q
    · have k' : ¬ sd = 0 := fun z => k (decide_eq_true (congrArg V.int z))
      unfold partR at q
      rw [if_neg k'] at q
      exact ⟨_, rfl, q⟩
end
section
variable {P : Program} {w : World} {K : PySem.W.Frag} {mg : Str → Option Value} {base : Heap}
theorem ok_moved (D : Df K mg "moved" p_moved s_moved) : Cal P w K mg base CX0 1 "moved" p_moved sp_moved := D.cal fun f fd F => by
  refine F.ok sc_moved (fun vs H Q E h => ?_) (fun cdv A outer s H vs Q E hr h => ?_)
  · obtain ⟨r, a, b, c, sd, n, rfl, _⟩ := h
    rfl
  obtain ⟨r, a, b, c, sd, n, rfl, e, ha, hb, hc, hn, q⟩ := h
  refine ⟨_, pss_cons (ps_asg (pv 0) (pg_tup (by rfl) (pgs_cons (pg_name (i := 2) sc_moved.nd rfl (.inl rfl)) (pgs_cons (pg_name (i := 3) sc_moved.nd rfl (.inl rfl)) (pgs_cons (pg_name (i := 4) sc_moved.nd rfl (.inl rfl)) (pgs_cons (pg_name (i := 5) sc_moved.nd rfl (.inl rfl)) pgs_nil))))))
    <| pss_one (ps_ret (pe_tup (pa_cons (pv 2) (pa_cons (pe_op op_add (pv 3) (pe_op op_mulW (pe_op op_mulW pe_int (pv 2)) (pv 1)))
      (pa_cons (pe_op op_add (pe_op op_add (pe_op op_mulW (pe_op op_mulW (pv 2) (pv 1)) (pv 1)) (pe_op op_mulW (pv 3) (pv 1))) (pv 4)) (pa_cons (pv 5) pa_nil)))))), ?_⟩
  refine ⟨_, rfl, r, _, rfl, SqT.of e, rfl, _, _, rfl, _, _, rfl, _, _, rfl, _, _, rfl, rfl, ?_⟩
  refine ⟨_, rfl, _, rfl, _, rfl, _, _, rfl, rfl, mulW_of (m := 2) (by decide) ha.lt, _, rfl, _, _, rfl, rfl, mulW_of (m := 302) (nat_mul_lt (m := 2) (by decide) ha.lt) hn.lt, _, _, rfl, rfl, ?_⟩
  exact ⟨_, rfl, _, rfl, _, _, rfl, rfl, mulW_of ha.lt hn.lt, _, rfl, _, _, rfl, rfl, mulW_of (m := 600) (nat_mul_lt ha.lt hn.lt) hn.lt, _, rfl, _, rfl, _, _, rfl, rfl, mulW_of hb.lt hn.lt, _, _, rfl, rfl, _, rfl, _, _, rfl, rfl, _, rfl, len4, q⟩
end
section
variable {P : Program} {w : World} {K : PySem.W.Frag} {mg : Str → Option Value} {base : Heap} {C : Addr}
theorem ok_turned (D : Df K mg "turned" p_turned s_turned) (Cm : Cal P w K mg base CX0 1 "moved" p_moved sp_moved) (Cr : Cal P w K mg base (L2.CX P w) 3 "root_of" p_root_of (sp_root_of C)) : Cal P w K mg base CX0 4 "turned" p_turned sp_turned := D.cal fun f fd F => by
  refine F.ok sc_turned (fun vs H Q E h => ?_) (fun cdv A outer s H vs Q E hr h => ?_)
  · obtain ⟨r, a, b, c, sd, n, rfl, _⟩ := h
    rfl
  obtain ⟨r, a, b, c, sd, n, rfl, e, R, ha, hb, hc, hn, q⟩ := h
  refine ⟨_, pss_cons (ps_asg (pe_cal Cm hr (by decide) (by rfl) pass0 (pa_cons (pv 0) (pa_cons (pv 1) pa_nil))) (pg_tup (by rfl) (pgs_cons (pg_name (i := 2) sc_turned.nd rfl (.inl rfl)) (pgs_cons (pg_name (i := 3) sc_turned.nd rfl (.inl rfl)) (pgs_cons (pg_name (i := 4) sc_turned.nd rfl (.inl rfl)) (pgs_cons (pg_name (i := 5) sc_turned.nd rfl (.inl rfl)) pgs_nil))))))
    <| pss_cons (ps_set (i := 6) sc_turned.nd rfl (.inl rfl) (pv 5))
    <| pss_cons (ps_if (pt_cmpR op_gt (pv 4) pe_int (nomark _)) (pss_one (ps_set (i := 6) sc_turned.nd rfl (.inl rfl) (pe_op op_sub pe_int (pv 5)))) pss_nil)
    <| pss_one (ps_ret (pe_cal Cr hr (by decide) (by rfl) passL (pa_cons (pv 4) (pa_cons (pv 3) (pa_cons (pv 2) (pa_cons (pv 6) pa_nil)))))), ?_⟩
  obtain ⟨m1, m2⟩ := mv_s3 ha hb hc hn
  obtain ⟨t0, t1, t2, t3⟩ := tn_nf n R
  refine ⟨_, rfl, _, rfl, r, a, b, c, sd, n, rfl, e, ha, hb, hc, hn, fun p np => ?_⟩
  refine ⟨p, _, rfl, SqT.of upd_same, rfl, _, _, rfl, _, _, rfl, _, _, rfl, _, _, rfl, rfl, ?_⟩
  have s1 := same_upd np (o := tI [a, b + 2 * a * n, mvC a b c n, sd])
  refine ⟨_, rfl, _, rfl, _, _, rfl, rfl, _, rfl, ite2 (fun k => ?_) (fun k => ?_)⟩
  · have k' : 0 < mvC a b c n := of_decide_eq_true k
    refine ⟨_, rfl, _, _, rfl, rfl, _, rfl, _, rfl, _, rfl, _, rfl, mvC a b c n, b + 2 * a * n, a, 1 - sd, rfl, m2, m1, ha.sm, fun z => absurd z t0, fun _ p2 np2 => ?_⟩
    rw [t1, t2, t3]
    refine q _ p2 (same_updO s1 (s1.free np2)) (s1.free np2) ?_
    unfold tnS
    rw [if_pos k']
    exact upd_same
  · have k' : ¬ 0 < mvC a b c n := of_decide_eq_false (Bool.eq_false_iff.mpr k)
    refine ⟨_, rfl, _, rfl, _, rfl, _, rfl, mvC a b c n, b + 2 * a * n, a, sd, rfl, m2, m1, ha.sm, fun z => absurd z t0, fun _ p2 np2 => ?_⟩
    rw [t1, t2, t3]
    refine q _ p2 (same_updO s1 (s1.free np2)) (s1.free np2) ?_
    unfold tnS
    rw [if_neg k']
    exact upd_same
end
section
variable {P : Program} {w : World} {K : PySem.W.Frag} {mg : Str → Option Value} {base : Heap}
theorem ok_rounds_of (D : Df K mg "rounds_of" p_rounds_of s_rounds_of) (B : Bl mg) (Cp : Cal P w K mg base CX0 2 "part_of" p_part_of sp_part_of) (Ct : Cal P w K mg base CX0 4 "turned" p_turned sp_turned) : Cal P w K mg base CX0 5 "rounds_of" p_rounds_of sp_rounds_of := D.cal fun f fd F => by
  refine F.ok sc_rounds_of (fun vs H Q E h => ?_) (fun cdv A outer s H vs Q E hr h => ?_)
  · obtain ⟨t, r, rfl, _⟩ := h
    rfl
  obtain ⟨t, r, rfl, e, R, i, j, hij, hj, hrep, hdis, hsm, q⟩ := h
  refine ⟨_, pss_cons (ps_set (i := 1) sc_rounds_of.nd rfl (.inl rfl) pe_dnewT)
    <| pss_cons (ps_set (i := 2) sc_rounds_of.nd rfl (.inl rfl) (pe_lst pa_nil))
    <| pss_cons (ps_while PassesOwn.never (pt_cmp (pc_dnotin (room1 hr) (pv 0) (pv 1)))
        (pss_cons (ps_dput (room1 hr) (pv 1) (pv 0) (pe_callB call_len_seq (by rfl) B.len PySem.boot_len (pa_cons (pv 2) pa_nil)) rfl)
        <| pss_cons (ps_expr (pe_bm PySem.F.plainAttrs_list PySem.F.slot_list_append PySem.F.type_list_append mt_append (pv 2) (pa_cons (pe_cal Cp hr (by decide) (by rfl) pass0 (pa_cons (pv 0) pa_nil)) pa_nil)))
        <| pss_one (ps_set (i := 0) sc_rounds_of.nd rfl (.inl rfl) (pe_cal Ct hr (by decide) (by rfl) pass0 (pa_cons (pv 0) (pa_cons (pe_ix ix_list (pv 2) (pe_un un_neg pe_int) (fun _ _ => rfl)) pa_nil))))))
    <| pss_cons (ps_set (i := 3) sc_rounds_of.nd rfl (.inl rfl) (pe_dget (room1 hr) (pv 1) (pv 0) (fun _ _ => rfl)))
    <| pss_one (ps_ret (pe_tup (pa_cons (pe_callTy call_tuple_of (by rfl) B.tuple (by decide +kernel) (pa_cons (pe_slice sl_list (pv 2) po_none (po_some (pv 3))) pa_nil))
        (pa_cons (pe_callTy call_tuple_of (by rfl) B.tuple (by decide +kernel) (pa_cons (pe_slice sl_list (pv 2) (po_some (pv 3)) po_none) pa_nil)) pa_nil)))), ?_⟩
  intro d nd
  dsimp only
  have sD := same_upd nd (o := HO.dT [])
  refine ⟨Nat.zero_le _, fun o no => ?_⟩
  have hdo : d ≠ o := fun z => by
    subst z
    rw [upd_same] at no
    cases no
  refine ⟨fun m σ H' => ∃ (k : Nat) (x : Addr), k ≤ j ∧ m = j - k ∧ σ = [some (.ref x), some (.ref d), some (.ref o), none] ∧ Same H H' ∧ H' x = some (tI (orb r k).l) ∧ H' d = some (.dT ((List.range k).map fun m => ((orb r m).k, V.int m))) ∧ H' o = some (lI (prts r 0 k)),
    ⟨_, 0, t, Nat.zero_le _, rfl, rfl, sD.trans (same_upd no), same_upd no _ _ (sD _ _ e), by rw [upd_ne hdo, upd_same] <;> rfl, upd_same⟩, ?_⟩
  rintro m σ H' ⟨k, x, hk, rfl, rfl, s1, ex, ed, eo⟩
  have hxd : x ≠ d := fun z => by
    subst z
    rw [ex] at ed
    cases ed
  have hxo : x ≠ o := fun z => by
    subst z
    rw [ex] at eo
    cases eo
  have hget := DGet.t (k := (orb r k).k) ed ex
  have hlen : (prts r 0 k).length = k := by
    unfold prts
    rw [List.length_map, List.length_range']
  by_cases hkj : k < j
  · -- one more
    have hv : valV ((List.range k).map fun m => ((orb r m).k, V.int m)) (orb r k).k = none := valV_range (f := fun m => (orb r m).k) k fun m hm e => hdis m k hm hkj (R4.k_inj e)
    rw [hv] at hget
    obtain ⟨z1, z2, z3, z4⟩ := hsm k hkj
    have Rk : IsR (orb r k).a (orb r k).b (orb r k).c (orb r k).s := orb_is R k
    refine ⟨_, rfl, _, rfl, d, none, rfl, hget, true, rfl, iteT ?_⟩
    refine ⟨fun σ' H2 => ∃ x' : Addr, σ' = [some (.ref x'), some (.ref d), some (.ref o), none] ∧ Same H H2 ∧ H2 x' = some (tI (orb r (k + 1)).l) ∧ H2 d = some (.dT ((List.range (k + 1)).map fun m => ((orb r m).k, V.int m))) ∧ H2 o = some (lI (prts r 0 (k + 1))),
      fun σ' H2 ⟨x', e1, e2, e3, e4, e5⟩ => ⟨j - (k + 1), by omega, k + 1, x', hkj, rfl, e1, e2, e3, e4, e5⟩, ?_⟩
    have hput := DPut.t (v := .int k) ed (k := (orb r k).k) (b := x) ex (by rw [List.length_map, List.length_range]; exact small_of (by omega))
    rw [putK_new _ hv] at hput
    have hkv : ((List.range k).map fun m => ((orb r m).k, V.int m)) ++ [((orb r k).k, V.int k)] = (List.range (k + 1)).map fun m => ((orb r m).k, V.int m) := by
      rw [List.range_succ, List.map_append]
      rfl
    rw [hkv] at hput
    refine ⟨_, rfl, o, _, rfl, .inl (SqL.of eo), _, rfl, _, rfl, d, _, rfl, by rw [List.length_map, hlen]; exact hput, ?_⟩
    have s2 := same_updO (o := HO.dT ((List.range (k + 1)).map fun m => ((orb r m).k, V.int m))) s1 nd
    have ex2 : (upd H' d (HO.dT ((List.range (k + 1)).map fun m => ((orb r m).k, V.int m)))) x = _ := (upd_ne hxd).trans ex
    have eo2 : (upd H' d (HO.dT ((List.range (k + 1)).map fun m => ((orb r m).k, V.int m)))) o = _ := (upd_ne hdo.symm).trans eo
    have ed2 : (upd H' d (HO.dT ((List.range (k + 1)).map fun m => ((orb r m).k, V.int m)))) d = _ := upd_same
    generalize upd H' d (HO.dT ((List.range (k + 1)).map fun m => ((orb r m).k, V.int m))) = H2 at *
    have hno : H o = none := by
      cases h : H o with
      | none => rfl
      | some y =>
        have := sD _ _ h
        rw [no] at this
        cases this
    refine ⟨_, rfl, .inl ⟨rfl, _, SqL.of eo2⟩, _, rfl, x, rfl, .inr ⟨(orb r k).a, (orb r k).b, (orb r k).c, (orb r k).s, ex2, Rk.ha, Int.le_of_lt Rk.n.pos, z1.sm, z2.sm, z3.sm, o, _, _, rfl, rfl, eo2, by rw [List.length_map, hlen]; exact small_of (by omega), ?_⟩⟩
    have hpp : (prts r 0 k).map V.int ++ [V.int (partR (orb r k).a (orb r k).b (orb r k).c (orb r k).s)] = (prts r 0 (k + 1)).map V.int := by
      unfold prts
      rw [List.range'_concat, List.map_append, List.map_append, Nat.one_mul, Nat.zero_add]
      rfl
    rw [hpp]
    have s3 := same_updO (o := HO.lst ((prts r 0 (k + 1)).map V.int)) s2 hno
    have ex3 : (upd H2 o (HO.lst ((prts r 0 (k + 1)).map V.int))) x = _ := (upd_ne hxo).trans ex2
    have ed3 : (upd H2 o (HO.lst ((prts r 0 (k + 1)).map V.int))) d = _ := (upd_ne hdo).trans ed2
    have eo3 : (upd H2 o (HO.lst ((prts r 0 (k + 1)).map V.int))) o = _ := upd_same
    generalize upd H2 o (HO.lst ((prts r 0 (k + 1)).map V.int)) = H3 at *
    have hl2 : (prts r 0 (k + 1)).length = k + 1 := by
      unfold prts
      rw [List.length_map, List.length_range']
    have glast : atI ((prts r 0 (k + 1)).map V.int) (-1) = some (.int (orb r k).prt) := atI_neg (k := 1) (by decide) (by rw [List.length_map, hl2]; omega) (by
      rw [List.length_map, hl2, Nat.add_sub_cancel, ← hpp, List.getElem?_append_right (by rw [List.length_map, hlen]; exact Nat.le_refl _), List.length_map, hlen, Nat.sub_self]
      rfl)
    refine ⟨_, rfl, _, rfl, 1, rfl, o, _, -1, _, rfl, rfl, SqL.of eo3, glast, x, (orb r k).a, (orb r k).b, (orb r k).c, (orb r k).s, (orb r k).prt, rfl, ex3, Rk, z1, z2, z3, z4, fun H4 p s4 _ ep => ?_⟩
    exact ⟨p, rfl, s3.trans s4, ep, s4 _ _ ed3, s4 _ _ eo3⟩
  · -- it was there
    have hkj2 : k = j := by omega
    subst hkj2
    have hv : valV ((List.range k).map fun m => ((orb r m).k, V.int m)) (orb r k).k = some (.int i) := valV_at (f := fun m => (orb r m).k) k hij (by show (orb r i).k = _; rw [hrep]) fun m hm e => by
      have e2 : orb r m = orb r i := (R4.k_inj e).trans hrep
      by_cases h1 : m < i
      · exact absurd e2 (hdis m i h1 hij)
      · by_cases h2 : i < m
        · exact absurd e2.symm (hdis i m h2 hm)
        · omega
    rw [hv] at hget
    refine ⟨_, rfl, _, rfl, d, some (.int i), rfl, hget, false, rfl, iteF ?_⟩
    refine ⟨_, rfl, _, rfl, d, .int i, rfl, hget, ?_⟩
    have c1 : cutV ((prts r 0 k).map V.int) none (some (i : Int)) = (prts r 0 i).map V.int := by
      rw [cutV_to, ← List.map_take]
      unfold prts
      have hsplit : List.range' 0 k = List.range' 0 i ++ List.range' (0 + i) (k - i) := by
        rw [List.range'_append_1, show i + (k - i) = k by omega]
      rw [← List.map_take, hsplit, List.take_left' (by rw [List.length_range'])]
    have c2 : cutV ((prts r 0 k).map V.int) (some (i : Int)) none = (prts r i (k - i)).map V.int := by
      rw [cutV_from, ← List.map_drop]
      unfold prts
      rw [← List.map_drop, List.drop_range', Nat.mul_one, Nat.zero_add]
    refine ⟨_, rfl, _, rfl, i, rfl, o, _, rfl, SqL.of eo, fun l1 nl1 => ?_⟩
    rw [c1]
    refine ⟨l1, _, rfl, .inl ⟨SqL.of upd_same, fun t1 nt1 => ?_⟩⟩
    have s2 := same_updO (o := HO.lst ((prts r 0 i).map V.int)) s1 (s1.free nl1)
    have s3 := same_updO (o := HO.tup ((prts r 0 i).map V.int)) s2 (s2.free nt1)
    have eo3 := same_upd nt1 (o := HO.tup ((prts r 0 i).map V.int)) _ _ (same_upd nl1 (o := HO.lst ((prts r 0 i).map V.int)) _ _ eo)
    have et1 : (upd (upd H' l1 (HO.lst ((prts r 0 i).map V.int))) t1 (HO.tup ((prts r 0 i).map V.int))) t1 = _ := upd_same
    have ft1 := s2.free nt1
    generalize upd (upd H' l1 (HO.lst ((prts r 0 i).map V.int))) t1 (HO.tup ((prts r 0 i).map V.int)) = H3 at *
    refine ⟨_, rfl, _, rfl, i, rfl, o, _, rfl, SqL.of eo3, fun l2 nl2 => ?_⟩
    rw [c2]
    refine ⟨l2, _, rfl, .inl ⟨SqL.of upd_same, fun t2 nt2 => ?_⟩⟩
    have s4 := same_updO (o := HO.lst ((prts r i (k - i)).map V.int)) s3 (s3.free nl2)
    have s5 := same_updO (o := HO.tup ((prts r i (k - i)).map V.int)) s4 (s4.free nt2)
    have et2 := same_upd nt2 (o := HO.tup ((prts r i (k - i)).map V.int)) _ _ (same_upd nl2 (o := HO.lst ((prts r i (k - i)).map V.int)) _ _ et1)
    have et3 : (upd (upd H3 l2 (HO.lst ((prts r i (k - i)).map V.int))) t2 (HO.tup ((prts r i (k - i)).map V.int))) t2 = _ := upd_same
    have ft2 := s4.free nt2
    generalize upd (upd H3 l2 (HO.lst ((prts r i (k - i)).map V.int))) t2 (HO.tup ((prts r i (k - i)).map V.int)) = H5 at *
    refine ⟨len2, fun p np => ?_⟩
    exact q _ p t1 t2 (same_updO s5 (s5.free np)) (s5.free np) ft1 ft2 upd_same (same_upd np _ _ et2) (same_upd np _ _ et3)
end
theorem st_drop {xs : List Int} {j : Nat} {x : Int} (h : xs[j]? = some x) : st (xs.drop j) = (x * (st (xs.drop (j + 1))).1 + (st (xs.drop (j + 1))).2, (st (xs.drop (j + 1))).1) := by
  obtain ⟨hl, e⟩ := List.getElem?_eq_some_iff.mp h
  rw [List.drop_eq_getElem_cons hl, e]
  rfl
theorem st_last {xs : List Int} {j : Nat} {x : Int} (h : xs[j]? = some x) (hl : j + 1 = xs.length) : st (xs.drop j) = (x, 1) := by
  rw [st_drop h, List.drop_of_length_le (by omega)]
  show (x * 1 + 0, (1 : Int)) = _
  rw [Int.mul_one, Int.add_zero]
section
variable {P : Program} {w : World} {K : PySem.W.Frag} {mg : Str → Option Value} {base : Heap} {C R : Addr}
theorem ok_fraction_of (D : Df K mg "fraction_of" p_fraction_of s_fraction_of) (B : Bl mg) (N : NoN K mg C R) : Cal P w K mg base (L2.CX P w) 1 "fraction_of" p_fraction_of (sp_fraction_of C) := D.cal fun f fd F => by
  refine F.okX sc_fraction_of (fun vs H Q E h => ?_) (fun cdv A outer s H vs Q E hr h => ?_)
  · obtain ⟨t, xs, rfl, _⟩ := h
    rfl
  obtain ⟨t, xs, rfl, hT, hlen, hbad, hgood⟩ := h
  refine ⟨_, pss_cons (ps_if (PW.pt (pw_or (pt_cmpR op_eq (pe_callB call_len_seq (by rfl) B.len PySem.boot_len (pa_cons (pv 0) pa_nil)) pe_int (nomark _))
      (pw_or1 (pt_not (pt_val (pe_callB (cr_all rfl) (by rfl) B.all (by decide +kernel) (pa_cons
        (pe_lc (own := [("part", 1)]) (g := gName 1) (tt := tYes) rfl sc_fraction_of.nd (pi_tup (pe_slice sl_tupA (pv 0) (po_some pe_int) po_none)) (blkOk_by (N := n_fraction_of) (sc := defScope s_fraction_of) (by decide +kernel))
          (fun _ _ _ _ _ => pg_name (i := 1) sc_fraction_of.nd rfl (Or.inl rfl)) (fun _ _ _ _ _ => pts_nil) (fun _ _ _ _ _ => pe_cmpR op_ge (pv 1) pe_int (nomark _))) pa_nil)))))))
      (pss_one (ps_no N rfl (takes_of rfl rfl rfl rfl) (by rfl))) pss_nil)
    <| pss_cons (ps_set (i := 2) sc_fraction_of.nd rfl (.inl rfl) (pe_ix ix_tup (pv 0) (pe_un un_neg pe_int) (fun _ _ => rfl)))
    <| pss_cons (ps_set (i := 3) sc_fraction_of.nd rfl (.inl rfl) pe_int)
    <| pss_cons (ps_for (passes_of rfl) rfl (RT.pi_revA (by rfl) B.reversed (pe_slice sl_tupA (pv 0) po_none (po_some (pe_un un_neg pe_int)))) (pg_name (i := 1) sc_fraction_of.nd rfl (.inl rfl))
      (pss_one (ps_par (i := 2) (j := 3) (by rfl) sc_fraction_of.nd rfl rfl (by decide) rfl rfl (pa_cons (pe_op op_add (pe_op op_mulW (pv 1) (pv 2)) (pv 3)) (pa_cons (pv 2) pa_nil)) (by rfl))))
    <| pss_one (ps_ret (pe_tup (pa_cons (pv 2) (pa_cons (pv 3) pa_nil)))), ?_⟩
  refine ⟨_, rfl, t, _, rfl, .inr (SqT.of hT), rfl, _, rfl, ite2 (fun c => ?_) (fun c => ?_)⟩
  · have c' : (((xs.map V.int).length : Nat) : Int) = 0 := V.int.inj (of_decide_eq_true c)
    rw [List.length_map] at c'
    have e : xs = [] := List.eq_nil_of_length_eq_zero (by omega)
    subst e
    exact iteT (hbad rfl _ (Same.refl H))
  have c' : ¬ (((xs.map V.int).length : Nat) : Int) = 0 := fun z => c (decide_eq_true (congrArg V.int z))
  rw [List.length_map] at c'
  have hne : xs ≠ [] := fun z => by
    subst z
    exact c' rfl
  -- row[1:]
  have hcut : cutV (xs.map V.int) (some 1) none = (xs.drop 1).map V.int := by
    rw [List.map_drop]
    exact cutV_from (k := 1)
  refine ⟨_, rfl, 1, rfl, t, _, rfl, SqT.of hT, fun hw => absurd hw.1 ?_, fun _ p np => ?_⟩
  · rw [sIx_one, List.length_map]
    omega
  rw [hcut]
  have s1 : Same H (upd H p (tI (xs.drop 1))) := same_upd np
  refine ⟨p, rfl, ⟨_, SqT.of upd_same⟩, lc_mapT (xs := (xs.drop 1).map V.int) (ys := ((xs.drop 1).map fun y => decide (1 ≤ y)).map V.bl) (by simp only [List.length_map]) (by rw [List.length_map, List.length_drop]; exact small_of (by omega)) upd_same (fun x => rfl) (fun i x y H2 Q2 hx hy s2 q2 => ?_) (fun L H2 s2 hL nL => ?_)⟩
  · obtain ⟨n, hn, rfl⟩ := map_get hx
    have ey : y = .bl (decide (1 ≤ n)) := by
      rw [List.getElem?_map, List.getElem?_map, hn] at hy
      exact (Option.some.inj hy).symm
    subst ey
    exact ⟨_, rfl, _, _, rfl, rfl, q2 _ (Same.refl _)⟩
  have s3 : Same H H2 := s1.trans s2
  refine ⟨L, _, rfl, .of hL, _, rfl, ?_⟩
  have er : isRow xs = ((xs.drop 1).map fun y => decide (1 ≤ y)).all id := by
    unfold isRow
    rw [List.all_map]
    cases xs with
    | nil => exact absurd rfl hne
    | cons a r => rfl
  rw [← er]
  cases hrow : isRow xs with
  | false => exact iteT (hbad hrow _ s3)
  | true =>
    obtain ⟨hb, hbs, q⟩ := hgood hrow
    refine iteF ?_
    -- upper = row[-1], lower = 1
    have hn : xs.length - 1 < xs.length := by omega
    have gl : xs[xs.length - 1]? = some xs[xs.length - 1] := List.getElem?_eq_getElem hn
    have glast : atI (xs.map V.int) (-1) = some (.int xs[xs.length - 1]) := by
      have e1 : xs.map V.int = xs.dropLast.map V.int ++ [.int xs[xs.length - 1]] := by
        have e2 : xs = xs.dropLast ++ [xs[xs.length - 1]] := by
          have e3 := List.dropLast_concat_getLast hne
          rw [List.getLast_eq_getElem hne] at e3
          exact e3.symm
        conv => lhs; rw [e2]
        rw [List.map_append]
        rfl
      rw [e1]
      exact atI_last _ _
    refine ⟨_, rfl, 1, rfl, t, _, -1, _, rfl, rfl, SqT.of (s3 _ _ hT), glast, ?_⟩
    -- the loop
    refine ⟨_, rfl, 1, rfl, -1, rfl, t, _, rfl, SqT.of (s3 _ _ hT), fun hw => absurd hw.2 ?_, fun _ p2 np2 => ?_⟩
    · rw [sIx_neg1, List.length_map]
      omega
    have hcut2 : cutV (xs.map V.int) none (some (-1)) = xs.dropLast.map V.int := by
      rw [cutV_init, List.map_dropLast]
    rw [hcut2]
    have s4 : Same H (upd H2 p2 (tI xs.dropLast)) := s3.trans (same_upd np2)
    have hdl : (xs.dropLast.map V.int).length = xs.length - 1 := by rw [List.length_map, List.length_dropLast]
    refine ⟨p2, xs.dropLast.map V.int, rfl, .inr ⟨SqT.of upd_same, RT.for_ItvT (fun i σ H' => ∃ y1, σ = [some (.ref t), y1, some (.int (st (xs.drop (xs.length - 1 - i))).1), some (.int (st (xs.drop (xs.length - 1 - i))).2)] ∧ Same H H' ∧ H' p2 = some (tI xs.dropLast))
      ⟨none, ?_, s4, upd_same⟩ (fun i σ H' hP => ?_) (fun i x σ H' hi hx hP => ?_) (fun σ H' hP => ?_)⟩⟩
    · rw [Nat.sub_zero, st_last gl (by omega)]
      rfl
    · obtain ⟨_, _, _, e⟩ := hP
      exact SqT.of e
    · obtain ⟨y1, rfl, s5, e5⟩ := hP
      rw [hdl] at hi hx
      obtain ⟨z, hz, rfl⟩ := map_get hx
      have hz2 : xs[xs.length - 1 - 1 - i]? = some z := by
        rw [List.getElem?_dropLast, if_pos (by omega)] at hz
        exact hz
      have hz3 : xs[xs.length - 1 - (i + 1)]? = some z := by
        rw [show xs.length - 1 - (i + 1) = xs.length - 1 - 1 - i by omega]
        exact hz2
      have hst := st_drop hz3
      rw [show xs.length - 1 - (i + 1) + 1 = xs.length - 1 - i by omega] at hst
      have hzb : Big z := hb z (List.mem_of_getElem? hz2)
      refine ⟨_, rfl, _, rfl, _, _, rfl, rfl, hzb.mul (hbs _), _, rfl, _, _, rfl, rfl, _, rfl, _, _, rfl, some (.int z), ?_, s5, e5⟩
      rw [hst]
      rfl
    · obtain ⟨y1, rfl, s5, _⟩ := hP
      rw [hdl, Nat.sub_self, List.drop_zero]
      refine ⟨_, rfl, _, rfl, len2, fun r nr => q _ r (same_updO s5 (s5.free nr)) (s5.free nr) upd_same⟩
end
section
variable {P : Program} {w : World} {K : PySem.W.Frag} {mg : Str → Option Value} {base : Heap} {C R : Addr}
theorem ok_first_pair (D : Df K mg "first_pair" p_first_pair s_first_pair) (N : NoN K mg C R) (Cs : Cal P w K mg base CX0 2 "is_square" p_is_square sp_is_square) (Cr : Cal P w K mg base CX0 5 "rounds_of" p_rounds_of sp_rounds_of) (Co : Cal P w K mg base (L2.CX P w) 3 "root_of" p_root_of (sp_root_of C))
    (Cf : Cal P w K mg base (L2.CX P w) 1 "fraction_of" p_fraction_of (sp_fraction_of C)) : Cal P w K mg base (L2.CX P w) 6 "first_pair" p_first_pair (sp_first_pair C) := D.cal fun f fd F => by
  refine F.okX sc_first_pair (fun vs H Q E h => ?_) (fun cdv A outer s H vs Q E hr h => ?_)
  · obtain ⟨d, rfl, _⟩ := h
    rfl
  obtain ⟨d, rfl, hb, q0, q⟩ := h
  refine ⟨_, pss_mid (ps_if (PW.pt (pw_or (pt_cmpR op_lt (pv 0) pe_int (nomark _)) (pw_or1 (pt_val (pe_cal Cs hr (by decide) (by rfl) pass0 (pa_cons (pv 0) pa_nil))))))
        (pss_one (ps_no N rfl (takes_of rfl rfl rfl rfl) (by rfl))) pss_nil)
    <| pss_cons (ps_asg (pe_cal Cr hr (by decide) (by rfl) pass0 (pa_cons (pe_cal Co hr (by decide) (by rfl) passL (pa_cons pe_int (pa_cons pe_int (pa_cons (pe_op op_sub pe_int (pv 0)) (pa_cons pe_int pa_nil))))) pa_nil))
        (pg_tup (by rfl) (pgs_cons (pg_name (i := 1) sc_first_pair.nd rfl (.inl rfl)) (pgs_cons (pg_name (i := 2) sc_first_pair.nd rfl (.inl rfl)) pgs_nil))))
    <| pss_mid (ps_asg (pe_cal Cf hr (by decide) (by rfl) passL (pa_cons (pe_op op_catA (pv 1) (pe_slice sl_tupA (pv 2) po_none (po_some (pe_un un_neg pe_int)))) pa_nil))
        (pg_tup (by rfl) (pgs_cons (pg_name (i := 3) sc_first_pair.nd rfl (.inl rfl)) (pgs_cons (pg_name (i := 4) sc_first_pair.nd rfl (.inl rfl)) pgs_nil))))
    <| pss_one (ps_ret (pe_tup (pa_cons (pv 3) (pa_cons (pv 4) (pa_cons (pe_op op_sub (pe_op op_mulW (pv 3) (pv 3)) (pe_op op_mulW (pe_op op_mulW (pv 0) (pv 4)) (pv 4))) pa_nil))))), ?_⟩
  refine ⟨fun σ H' => σ = [some (.int d), none, none, none, none] ∧ H' = H ∧ ¬ BadD d, ?_, ?_⟩
  · refine ⟨_, rfl, _, _, rfl, rfl, _, rfl, ite2 (fun c => iteT (q0 (.inl (of_decide_eq_true c)) _ (Same.refl _))) (fun c => ?_)⟩
    have c' : ¬ d < 2 := of_decide_eq_false (Bool.eq_false_iff.mpr c)
    refine ⟨_, rfl, d, rfl, by omega, hb, _, rfl, ?_⟩
    cases h : isSq d with
    | true => exact iteT (q0 (.inr h) _ (Same.refl _))
    | false => exact iteF ⟨rfl, rfl, fun z => z.elim c' fun z => by rw [h] at z; cases z⟩
  rintro σ H' ⟨rfl, rfl, hnb⟩
  obtain ⟨e, he, rfl, q2⟩ := q hnb
  have T := ent_ok he
  have R := sqr_is T.d2 T.ns
  have hno : ¬ NoRoot 1 0 (0 - e.d) := not_noRoot R.n
  have hg : dv (dv 1 0) (0 - e.d) = 1 := R.g
  have n1 : nfA 1 0 (0 - e.d) = 1 := by unfold nfA; rw [hg]; rfl
  have n2 : nfB 1 0 (0 - e.d) = 0 := by unfold nfB; rw [hg]; rfl
  have n3 : nfC 1 0 (0 - e.d) = 0 - e.d := by unfold nfC; rw [hg, if_neg (by decide), Int.ediv_one]
  have d1 := T.d60
  have d2 := T.d2
  refine ⟨_, rfl, _, _, rfl, rfl, 1, 0, 0 - e.d, 1, rfl, sm_of (by decide), sm_of (by decide), sm_of (by omega), fun z => absurd z hno, fun _ r nr => ?_⟩
  rw [n1, n2, n3]
  have s1 := same_upd nr (o := tI [1, 0, 0 - e.d, 1])
  refine ⟨r, sqr e.d, rfl, upd_same, R, 1, e.s.length, T.len, by have := T.len2; omega, T.rep, T.dis, T.sm, fun H1 p t1 t2 s2 np nt1 nt2 ep e1 e2 => ?_⟩
  refine ⟨p, _, rfl, SqT.of ep, rfl, _, _, rfl, _, _, rfl, rfl, ?_⟩
  -- the row
  have hrow := T.row
  have l2 : (prts (sqr e.d) 1 (e.s.length - 1)).length = e.s.length - 1 := by
    unfold prts
    rw [List.length_map, List.length_range']
  have l1 : (prts (sqr e.d) 0 1).length = 1 := rfl
  have dl := T.len
  have dl2 := T.len2
  have s3 := s1.trans s2
  have hcut : cutV ((prts (sqr e.d) 1 (e.s.length - 1)).map V.int) none (some (-1)) = (prts (sqr e.d) 1 (e.s.length - 1)).dropLast.map V.int := by
    rw [cutV_init, List.map_dropLast]
  have hlr : e.row.length ≤ 1000000 := by
    rw [← hrow, List.length_append, List.length_dropLast, l1, l2]
    omega
  refine ⟨fun σ H4 => σ = [some (.int e.d), some (.ref t1), some (.ref t2), some (.int e.x), some (.int e.y)] ∧ Same H' H4, ?_, ?_⟩
  · refine ⟨_, rfl, _, rfl, 1, rfl, -1, rfl, t2, _, rfl, SqT.of e2, fun hw => absurd hw.2 ?_, fun _ p3 np3 => ?_⟩
    · rw [sIx_neg1, List.length_map]
      omega
    rw [hcut]
    have s4 := s3.trans (same_upd np3 (o := tI (prts (sqr e.d) 1 (e.s.length - 1)).dropLast))
    have e14 := same_upd np3 (o := tI (prts (sqr e.d) 1 (e.s.length - 1)).dropLast) _ _ e1
    have e34 : (upd H1 p3 (tI (prts (sqr e.d) 1 (e.s.length - 1)).dropLast)) p3 = _ := upd_same
    generalize upd H1 p3 (tI (prts (sqr e.d) 1 (e.s.length - 1)).dropLast) = H3 at *
    refine ⟨t1, p3, _, _, rfl, rfl, SqT.of e14, SqT.of e34, ?_, fun z => ?_, fun _ z => ?_, fun _ _ p5 np5 => ?_⟩
    · rw [List.length_map, List.length_map, List.length_dropLast, l1, l2]
      exact small_le (by omega)
    · have := congrArg List.length z
      rw [List.length_map, l1] at this
      cases this
    · have hz : (prts (sqr e.d) 1 (e.s.length - 1)).dropLast = [] := List.map_eq_nil_iff.mp z
      have et : H3 t1 = some (tI e.row) := by
        rw [← hrow, hz, List.append_nil]
        exact e14
      refine ⟨t1, e.row, rfl, et, hlr, fun z => (by rw [T.isr] at z; cases z), fun _ => ⟨T.big, T.bst, fun H4 p4 s5 _ e4 => ?_⟩⟩
      rw [T.st] at e4
      exact ⟨p4, _, rfl, SqT.of e4, rfl, _, _, rfl, _, _, rfl, rfl, rfl, s4.trans s5⟩
    · rw [← List.map_append, hrow]
      have s5 := s4.trans (same_upd np5 (o := tI e.row))
      refine ⟨p5, e.row, rfl, upd_same, hlr, fun z => (by rw [T.isr] at z; cases z), fun _ => ⟨T.big, T.bst, fun H4 p4 s6 _ e4 => ?_⟩⟩
      rw [T.st] at e4
      exact ⟨p4, _, rfl, SqT.of e4, rfl, _, _, rfl, _, _, rfl, rfl, rfl, s5.trans s6⟩
  rintro σ H4 ⟨rfl, s5⟩
  have bx := T.bx
  have bY := T.bY
  refine ⟨_, rfl, _, rfl, _, rfl, _, rfl, _, _, rfl, rfl, mulW_of bx bx, _, rfl, _, rfl, _, _, rfl, rfl, mulW_of (m := 6) (by omega) bY, _, rfl, _, _, rfl, rfl, mulW_of (m := 66) (nat_mul_lt (m := 6) (by omega) bY) bY, _, _, rfl, rfl, len3, fun p6 np6 => ?_⟩
  dsimp only
  rw [T.m]
  exact q2 _ p6 (same_updO s5 (s5.free np6)) (s5.free np6) upd_same
end
section
variable {P : Program} {w : World} {K : PySem.W.Frag} {mg : Str → Option Value} {base : Heap} {C R : Addr}
theorem ok_least_pair (D : Df K mg "least_pair" p_least_pair s_least_pair) (Cf : Cal P w K mg base (L2.CX P w) 6 "first_pair" p_first_pair (sp_first_pair C)) : Cal P w K mg base (L2.CX P w) 7 "least_pair" p_least_pair (sp_least_pair C) := D.cal fun f fd F => by
  refine F.okX sc_least_pair (fun vs H Q E h => ?_) (fun cdv A outer s H vs Q E hr h => ?_)
  · obtain ⟨d, rfl, _⟩ := h
    rfl
  obtain ⟨d, rfl, hb, q0, q⟩ := h
  refine ⟨_, pss_cons (ps_asg (pe_calS Cf hr (by decide) (by rfl) (fun σ => passAt (takes_of rfl rfl rfl rfl) σ) (pa_cons (pv 0) pa_nil))
        (pg_tup (by rfl) (pgs_cons (pg_name (i := 1) sc_least_pair.nd rfl (.inl rfl)) (pgs_cons (pg_name (i := 2) sc_least_pair.nd rfl (.inl rfl)) (pgs_cons (pg_name (i := 3) sc_least_pair.nd rfl (.inl rfl)) pgs_nil)))))
    <| pss_cons (ps_if (pt_cmpR op_eq (pv 3) pe_int (nomark _)) (pss_one (ps_ret (pe_tup (pa_cons (pv 1) (pa_cons (pv 2) pa_nil))))) pss_nil)
    <| pss_one (ps_ret (pe_tup (pa_cons (pe_op op_add (pe_op op_mulW (pv 1) (pv 1)) (pe_op op_mulW (pe_op op_mulW (pv 0) (pv 2)) (pv 2))) (pa_cons (pe_op op_mulW (pe_op op_mulW pe_int (pv 1)) (pv 2)) pa_nil)))), ?_⟩
  refine ⟨_, rfl, d, rfl, hb, fun hB H' s1 => q0 hB H' s1, fun hB => ?_⟩
  obtain ⟨e, he, rfl, q2⟩ := q hB
  have T := ent_ok he
  have bx := T.bx
  have bY := T.bY
  have d1 := T.d60
  have d2 := T.d2
  unfold Ent.X Ent.Y at q2
  refine ⟨e, he, rfl, fun H' p s1 _ ep => ?_⟩
  refine ⟨p, _, rfl, SqT.of ep, rfl, _, _, rfl, _, _, rfl, _, _, rfl, rfl, ?_⟩
  refine ⟨_, rfl, rfl, _, rfl, ite2 (fun c => ?_) (fun c => ?_)⟩
  · have c' : e.m = 1 := V.int.inj (of_decide_eq_true c)
    rw [if_pos c', if_pos c'] at q2
    exact ⟨_, rfl, _, rfl, len2, fun p2 np2 => q2 _ p2 (same_updO s1 (s1.free np2)) (s1.free np2) upd_same⟩
  · have c' : ¬ e.m = 1 := fun z => c (decide_eq_true (congrArg V.int z))
    rw [if_neg c', if_neg c'] at q2
    exact ⟨_, rfl, _, rfl, _, _, rfl, rfl, mulW_of bx bx, _, rfl, _, rfl, _, _, rfl, rfl, mulW_of (m := 6) (by omega) bY, _, rfl, _, _, rfl, rfl, mulW_of (m := 66) (nat_mul_lt (m := 6) (by omega) bY) bY, _, _, rfl, rfl,
      _, rfl, _, _, rfl, rfl, mulW_of (m := 2) (by decide) bx, _, rfl, _, _, rfl, rfl, mulW_of (m := 62) (nat_mul_lt (m := 2) (by decide) bx) bY, len2, fun p2 np2 => q2 _ p2 (same_updO s1 (s1.free np2)) (s1.free np2) upd_same⟩
end
section
variable {P : Program} {w : World} {K : PySem.W.Frag} {mg : Str → Option Value} {base : Heap} {C R : Addr}
theorem ok_least_minus (D : Df K mg "least_minus" p_least_minus s_least_minus) (Cf : Cal P w K mg base (L2.CX P w) 6 "first_pair" p_first_pair (sp_first_pair C)) : Cal P w K mg base (L2.CX P w) 7 "least_minus" p_least_minus (sp_least_minus C) := D.cal fun f fd F => by
  refine F.okX sc_least_minus (fun vs H Q E h => ?_) (fun cdv A outer s H vs Q E hr h => ?_)
  · obtain ⟨d, rfl, _⟩ := h
    rfl
  obtain ⟨d, rfl, hb, q0, q⟩ := h
  refine ⟨_, pss_cons (ps_asg (pe_calS Cf hr (by decide) (by rfl) (fun σ => passAt (takes_of rfl rfl rfl rfl) σ) (pa_cons (pv 0) pa_nil))
        (pg_tup (by rfl) (pgs_cons (pg_name (i := 1) sc_least_minus.nd rfl (.inl rfl)) (pgs_cons (pg_name (i := 2) sc_least_minus.nd rfl (.inl rfl)) (pgs_cons (pg_name (i := 3) sc_least_minus.nd rfl (.inl rfl)) pgs_nil)))))
    <| pss_cons (ps_if (pt_cmpR op_eq (pv 3) pe_int (nomark _)) (pss_one (ps_ret pe_non)) pss_nil)
    <| pss_one (ps_ret (pe_tup (pa_cons (pv 1) (pa_cons (pv 2) pa_nil)))), ?_⟩
  refine ⟨_, rfl, d, rfl, hb, fun hB H' s1 => q0 hB H' s1, fun hB => ?_⟩
  obtain ⟨e, he, rfl, q1, q2⟩ := q hB
  refine ⟨e, he, rfl, fun H' p s1 _ ep => ?_⟩
  refine ⟨p, _, rfl, SqT.of ep, rfl, _, _, rfl, _, _, rfl, _, _, rfl, rfl, ?_⟩
  refine ⟨_, rfl, rfl, _, rfl, ite2 (fun c => ?_) (fun c => ?_)⟩
  · exact q1 (V.int.inj (of_decide_eq_true c)) _ s1
  · have c' : ¬ e.m = 1 := fun z => c (decide_eq_true (congrArg V.int z))
    exact ⟨_, rfl, _, rfl, len2, fun p2 np2 => q2 c' _ p2 (same_updO s1 (s1.free np2)) (s1.free np2) upd_same⟩
end
section
variable {P : Program} {w : World} {K : PySem.W.Frag} {mg : Str → Option Value} {base : Heap} {C R : Addr}
theorem ok_pair_at (D : Df K mg "pair_at" p_pair_at s_pair_at) (B : Bl mg) (N : NoN K mg C R) (Cf : Cal P w K mg base (L2.CX P w) 7 "least_pair" p_least_pair (sp_least_pair C)) : Cal P w K mg base (L2.CX P w) 8 "pair_at" p_pair_at (sp_pair_at C) := D.cal fun f fd F => by
  refine F.okX sc_pair_at (fun vs H Q E h => ?_) (fun cdv A outer s H vs Q E hr h => ?_)
  · obtain ⟨d, k, rfl, _⟩ := h
    rfl
  obtain ⟨d, k, rfl, hb, hk, q0, q⟩ := h
  refine ⟨_, pss_cons (ps_asg (pe_calS Cf hr (by decide) (by rfl) (fun σ => passAt (takes_of rfl rfl rfl rfl) σ) (pa_cons (pv 0) pa_nil))
        (pg_tup (by rfl) (pgs_cons (pg_name (i := 2) sc_pair_at.nd rfl (.inl rfl)) (pgs_cons (pg_name (i := 3) sc_pair_at.nd rfl (.inl rfl)) pgs_nil))))
    <| pss_cons (ps_if (pt_cmpR op_lt (pv 1) pe_int (nomark _)) (pss_one (ps_no N rfl (takes_of rfl rfl rfl rfl) (by rfl))) pss_nil)
    <| pss_cons (ps_set (i := 4) sc_pair_at.nd rfl (.inl rfl) (pe_tup (pa_cons (pv 2) (pa_cons (pv 3) pa_nil))))
    <| pss_cons (ps_for (passes_of rfl) rfl (pi_range1 (by rfl) B.range (pa_cons (pe_op op_sub (pv 1) pe_int) pa_nil)) (pg_name (i := 5) sc_pair_at.nd rfl (.inl rfl))
        (pss_one (ps_set (i := 4) sc_pair_at.nd rfl (.inl rfl) (pe_tup (pa_cons (pe_op op_add (pe_op op_mulW (pv 2) (pe_ix ix_tup (pv 4) pe_int (fun _ _ => rfl))) (pe_op op_mulW (pe_op op_mulW (pv 0) (pv 3)) (pe_ix ix_tup (pv 4) pe_int (fun _ _ => rfl))))
          (pa_cons (pe_op op_add (pe_op op_mulW (pv 2) (pe_ix ix_tup (pv 4) pe_int (fun _ _ => rfl))) (pe_op op_mulW (pv 3) (pe_ix ix_tup (pv 4) pe_int (fun _ _ => rfl)))) pa_nil))))))
    <| pss_one (ps_ret (pv 4)), ?_⟩
  refine ⟨_, rfl, d, rfl, hb, fun hB H' s1 => q0 hB H' s1, fun hB => ?_⟩
  obtain ⟨e, he, rfl, q1, q2⟩ := q hB
  refine ⟨e, he, rfl, fun H' p s1 _ ep => ?_⟩
  refine ⟨p, _, rfl, SqT.of ep, rfl, _, _, rfl, _, _, rfl, rfl, ?_⟩
  refine ⟨_, rfl, _, _, rfl, rfl, _, rfl, ite2 (fun c => ?_) (fun c => ?_)⟩
  · exact q1 (of_decide_eq_true c) _ s1
  have c' : ¬ k < 1 := of_decide_eq_false (Bool.eq_false_iff.mpr c)
  have q3 := q2 (by omega)
  have T := ent_ok he
  have d1 := T.d60
  have d2 := T.d2
  obtain ⟨bX, bY⟩ := T.bXY
  refine ⟨_, rfl, _, rfl, len2, fun p2 np2 => ?_⟩
  refine ⟨_, rfl, _, _, rfl, rfl, k - 1, rfl, by omega, by omega, for_range (fun i σ H2 => ∃ (r : Addr) (y5 : Option V), σ = [some (.int e.d), some (.int k), some (.int e.X), some (.int e.Y), some (.ref r), y5] ∧ Same H H2 ∧ H r = none ∧ H2 r = some (tI [(pairs e.X e.Y e.d i).1, (pairs e.X e.Y e.d i).2]))
    ⟨p2, none, rfl, same_updO s1 (s1.free np2), s1.free np2, upd_same⟩ (fun i σ H2 hi hP => ?_) (fun σ H2 hP => ?_)⟩
  · obtain ⟨r, y5, rfl, s2, _, er⟩ := hP
    have hi10 : i ≤ 10 := by omega
    obtain ⟨b1, b2⟩ := pairs_big bX bY (by omega : e.d.natAbs < 2 ^ 6) i
    have b3 := nat_mono b1 (show 131 + 208 * i ≤ 10000 by omega)
    have b4 := nat_mono b2 (show 131 + 208 * i ≤ 10000 by omega)
    have i0 := atI_nat (xs := [V.int (pairs e.X e.Y e.d i).1, V.int (pairs e.X e.Y e.d i).2]) (j := 0) rfl
    have i1 := atI_nat (xs := [V.int (pairs e.X e.Y e.d i).1, V.int (pairs e.X e.Y e.d i).2]) (j := 1) rfl
    have bdy := nat_mul_lt (m := 6) (x := e.d) (by omega) bY
    refine ⟨_, rfl, _, rfl, r, _, 0, _, rfl, rfl, SqT.of er, i0, _, _, rfl, rfl, mulW_of bX b3, _, rfl, _, rfl, _, _, rfl, rfl, mulW_of (m := 6) (by omega) bY, _, rfl, r, _, 1, _, rfl, rfl, SqT.of er, i1, _, _, rfl, rfl, mulW_of bdy b4, _, _, rfl, rfl, ?_⟩
    refine ⟨_, rfl, _, rfl, r, _, 1, _, rfl, rfl, SqT.of er, i1, _, _, rfl, rfl, mulW_of bX b4, _, rfl, _, rfl, r, _, 0, _, rfl, rfl, SqT.of er, i0, _, _, rfl, rfl, mulW_of bY b3, _, _, rfl, rfl, len2, fun p3 np3 => ?_⟩
    exact ⟨p3, _, rfl, same_updO s2 (s2.free np3), s2.free np3, upd_same⟩
  · obtain ⟨r, y5, rfl, s2, nr, er⟩ := hP
    exact ⟨_, rfl, q3 _ r s2 nr er⟩
end
section
variable {P : Program} {w : World} {K : PySem.W.Frag} {mg : Str → Option Value} {base : Heap}
theorem ok__law_cell (D : Df K mg "_law_cell" p__law_cell s__law_cell) (B : Bl mg) : Cal P w K mg base CX0 1 "_law_cell" p__law_cell (sp_cell K) := D.cal fun f fd F => by
  refine F.ok sc__law_cell (fun vs H Q E h => ?_) (fun cdv A outer s H vs Q E hr h => ?_)
  · obtain ⟨a, ns, k, rfl, _⟩ := h
    rfl
  obtain ⟨a, ns, k, rfl, hS, hk, q⟩ := h
  refine ⟨_, pss_cons (ps_if (pt_cmpR op_lt (pv 1) (pe_callB call_len_seq (by rfl) B.len PySem.boot_len (pa_cons (pv 0) pa_nil)) (nomark _)) (pss_one (ps_ret (pe_ix ix_list (pv 0) (pv 1) (fun _ _ => rfl)))) pss_nil)
    (pss_one (ps_ret pe_int)), ?_⟩
  refine ⟨_, rfl, _, rfl, a, _, rfl, .inl hS, _, _, rfl, rfl, _, rfl, ite2 (fun c => ?_) (fun c => ?_)⟩
  · have c' : (k : Int) < (((ns.map V.int).length : Nat) : Int) := of_decide_eq_true c
    rw [List.length_map] at c'
    have hl : k < ns.length := by omega
    refine ⟨_, rfl, _, rfl, a, _, _, _, rfl, rfl, hS, atI_nat (j := k) (v := .int (cellOf ns k)) ?_, q⟩
    rw [List.getElem?_map, List.getElem?_eq_getElem hl]
    show some (V.int ns[k]) = some (V.int (ns.getD k 0))
    rw [List.getD_eq_getElem?_getD, List.getElem?_eq_getElem hl]
    rfl
  · have c' : ¬ (k : Int) < (((ns.map V.int).length : Nat) : Int) := of_decide_eq_false (Bool.eq_false_iff.mpr c)
    rw [List.length_map] at c'
    have e : cellOf ns k = 0 := by
      unfold cellOf
      rw [List.getD_eq_getElem?_getD, List.getElem?_eq_none (by omega)]
      rfl
    rw [e] at q
    exact q
end
section
variable {P : Program} {w : World} {K : PySem.W.Frag} {mg : Str → Option Value} {base : Heap}
theorem ok__law_whole (D : Df K mg "_law_whole" p__law_whole s__law_whole) (B : Bl mg) : Cal P w K mg base CX0 1 "_law_whole" p__law_whole sp_whole := D.cal fun f fd F => by
  refine F.ok sc__law_whole (fun vs H Q E h => ?_) (fun cdv A outer s H vs Q E hr h => ?_)
  · obtain ⟨z, rfl, _⟩ := h
    rfl
  obtain ⟨z, rfl, q⟩ := h
  refine ⟨_, pss_one (ps_ret (pe_and (pe_callB call_isi (by rfl) B.isinstance PyProof.Rows.boot_isinstance (pa_cons (pv 0) (pa_cons (pe_bltn (v := .ty "int") (by rfl) B.int (by decide +kernel) rfl) pa_nil)))
    (pe_one (pe_not (pe_callB call_isi (by rfl) B.isinstance PyProof.Rows.boot_isinstance (pa_cons (pv 0) (pa_cons (pe_bltn (v := .ty "bool") (by rfl) B.bool (by decide +kernel) rfl) pa_nil))))))), ?_⟩
  refine ⟨_, rfl, .int z, .ty "int", _, _, true, rfl, .ty "int", .base (.int z), isT_self, true, rfl, iteT ?_⟩
  exact ⟨_, rfl, .int z, .ty "bool", _, _, false, rfl, .ty "bool", .base (.int z), kit_ty (by decide +kernel), false, rfl, q⟩
end
section
variable {P : Program} {w : World} {K : PySem.W.Frag} {mg : Str → Option Value} {base : Heap}
theorem ok__law_square (D : Df K mg "_law_square" p__law_square s__law_square) : Cal P w K mg base CX0 1 "_law_square" p__law_square sp_least_square := D.cal fun f fd F => by
  refine F.ok sc__law_square (fun vs H Q E h => ?_) (fun cdv A outer s H vs Q E hr h => ?_)
  · obtain ⟨n, rfl, _⟩ := h
    rfl
  obtain ⟨n, rfl, h0, hb, q⟩ := h
  refine ⟨_, pss_cons (ps_set (i := 1) sc__law_square.nd rfl (.inl rfl) pe_int)
    <| pss_cons (ps_set (i := 2) sc__law_square.nd rfl (.inl rfl) (pe_op op_add (pv 0) pe_int))
    <| pss_cons (ps_while PassesOwn.never (pt_cmpR op_gt (pe_op op_sub (pv 2) (pv 1)) pe_int (nomark _)) (pss_cons (ps_set (i := 3) sc__law_square.nd rfl (.inl rfl) (pe_op op_fdiv (pe_op op_add (pv 1) (pv 2)) pe_int))
      (pss_one (ps_if (pt_cmpR op_le (pe_op op_mulW (pv 3) (pv 3)) (pv 0) (nomark _)) (pss_one (ps_set (i := 1) sc__law_square.nd rfl (.inl rfl) (pv 3))) (pss_one (ps_set (i := 2) sc__law_square.nd rfl (.inl rfl) (pv 3)))))))
    <| pss_one (ps_ret (pv 1)), ?_⟩
  refine ⟨_, rfl, _, _, rfl, rfl, ?_⟩
  refine ⟨fun m σ H' => ∃ (lo hi : Int) (y : Option V), σ = [some (.int n), some (.int lo), some (.int hi), y] ∧ 0 ≤ lo ∧ lo < hi ∧ hi ≤ n + 1 ∧ lo * lo ≤ n ∧ n < hi * hi ∧ H' = H ∧ m = (hi - lo).toNat, ⟨_, 0, n + 1, none, rfl, by omega, by omega, by omega, by omega, ?_, rfl, rfl⟩, ?_⟩
  · have : (n + 1) * (n + 1) = n * n + 2 * n + 1 := by grind
    have := sqn n
    omega
  rintro m σ H' ⟨lo, hi, y, rfl, h1, h2, h3, h4, h5, rfl, rfl⟩
  refine ⟨_, rfl, _, rfl, _, _, rfl, rfl, _, _, rfl, rfl, _, rfl, ite2 (fun c => ?_) (fun c => ?_)⟩
  · have c' : 1 < hi - lo := of_decide_eq_true c
    refine ⟨fun σ' H2 => (∃ (lo' hi' : Int) (y : Option V), σ' = [some (.int n), some (.int lo'), some (.int hi'), y] ∧ 0 ≤ lo' ∧ lo' < hi' ∧ hi' ≤ n + 1 ∧ lo' * lo' ≤ n ∧ n < hi' * hi' ∧ hi' - lo' < hi - lo) ∧ H2 = H', fun σ' H2 ⟨⟨lo', hi', y', e1, k1, k2, k3, k4, k5, k6⟩, e2⟩ => ⟨_, ?_, lo', hi', y', e1, k1, k2, k3, k4, k5, e2, rfl⟩, ?_⟩
    · omega
    have hh : Big ((lo + hi) / 2) := ⟨Nat.lt_of_le_of_lt (show ((lo + hi) / 2).natAbs ≤ n.natAbs by omega) hb.lt⟩
    refine ⟨_, rfl, _, rfl, _, _, rfl, rfl, _, _, rfl, rfl, ⟨by decide, by decide⟩, ?_⟩
    dsimp only
    have g1 : lo < (lo + hi) / 2 := by omega
    have g2 : (lo + hi) / 2 < hi := by omega
    generalize (lo + hi) / 2 = hf at *
    refine ⟨_, rfl, _, rfl, _, _, rfl, rfl, hh.mul hh, _, rfl, _, _, rfl, rfl, _, rfl, ite2 (fun c2 => ?_) (fun c2 => ?_)⟩
    · have c3 : hf * hf ≤ n := of_decide_eq_true c2
      exact ⟨_, rfl, ⟨hf, hi, _, rfl, by omega, g2, h3, c3, h5, by omega⟩, rfl⟩
    · have c3 : ¬ hf * hf ≤ n := of_decide_eq_false (Bool.eq_false_iff.mpr c2)
      exact ⟨_, rfl, ⟨lo, hf, _, rfl, h1, g1, by omega, h4, by omega, by omega⟩, rfl⟩
  · have c' : ¬ 1 < hi - lo := of_decide_eq_false (Bool.eq_false_iff.mpr c)
    have e : rt n = lo := rt_unique h1 h4 (by rw [show lo + 1 = hi by omega]; exact h5)
    rw [e] at q
    exact ⟨_, rfl, q⟩
end
/-! ### the law: squares that differ by one -/
def sp_first : Sp := fun vs H Q _ => ∃ (d m : Int) (b : Nat), vs = [.int d, .int m, .int b] ∧ 2 ≤ d ∧ d ≤ 60 ∧ (m = 1 ∨ m = -1) ∧ 1 ≤ b ∧ b ≤ 300 ∧
  ((∀ y : Nat, 1 ≤ y → y < b → isSq (d * (y : Int) * (y : Int) + m) = false) → Q .non H) ∧
  ∀ y : Nat, 1 ≤ y → y < b → isSq (d * (y : Int) * (y : Int) + m) = true → (∀ z : Nat, 1 ≤ z → z < y → isSq (d * (z : Int) * (z : Int) + m) = false) → ∀ p, H p = none → Q (.ref p) (upd H p (tI [rt (d * (y : Int) * (y : Int) + m), y]))
/-- a pair, the first one -/
structure Pair (d m X Y : Int) : Prop where
  x : 1 ≤ X
  y : 1 ≤ Y
  e : X * X = d * Y * Y + m
  f : ∀ y : Nat, 1 ≤ y → y < least Y → isSq (d * (y : Int) * (y : Int) + m) = false
def sp_pair_right : Sp := fun vs H Q _ => ∃ (t : Addr) (d m X Y : Int), vs = [.ref t, .int d, .int m, .int 300] ∧ H t = some (tI [X, Y]) ∧ 2 ≤ d ∧ d ≤ 60 ∧ (m = 1 ∨ m = -1) ∧ X.natAbs < 2 ^ 130 ∧ Y.natAbs < 2 ^ 130 ∧ Pair d m X Y ∧ ∀ H', Same H H' → Q (.bl true) H'
section
variable {P : Program} {w : World} {K : PySem.W.Frag} {mg : Str → Option Value} {base : Heap} {C R : Addr}
theorem pairs_pell {X Y d : Int} (h : X * X = d * Y * Y + 1) : ∀ i, (pairs X Y d i).1 * (pairs X Y d i).1 = d * (pairs X Y d i).2 * (pairs X Y d i).2 + 1
  | 0 => h
  | i + 1 => by
    have ih := pairs_pell h i
    show (X * (pairs X Y d i).1 + d * Y * (pairs X Y d i).2) * (X * (pairs X Y d i).1 + d * Y * (pairs X Y d i).2) = d * (X * (pairs X Y d i).2 + Y * (pairs X Y d i).1) * (X * (pairs X Y d i).2 + Y * (pairs X Y d i).1) + 1
    generalize (pairs X Y d i).1 = p at *
    generalize (pairs X Y d i).2 = q at *
    have e : (X * p + d * Y * q) * (X * p + d * Y * q) = d * (X * q + Y * p) * (X * q + Y * p) + (X * X - d * Y * Y) * (p * p - d * q * q) := by grind
    rw [e, h, ih, show d * Y * Y + 1 - d * Y * Y = 1 by omega, show d * q * q + 1 - d * q * q = 1 by omega, Int.mul_one]
theorem ent_pair {e : Ent} (he : e ∈ tab) : Pair e.d 1 e.X e.Y := by
  have T := ent_ok he
  have h := List.all_eq_true.mp tab_least e he
  unfold chkM at h
  rw [Bool.and_eq_true] at h
  have x1 := T.x1
  have y1 := T.y1
  have d2 := T.d2
  refine ⟨?_, ?_, ?_, nosq_at h.1⟩
  · unfold Ent.X
    split
    · exact x1
    · have h1 := Int.mul_le_mul x1 x1 (by decide) (by omega)
      have h2 := Int.mul_nonneg (Int.mul_nonneg (show 0 ≤ e.d by omega) (show 0 ≤ e.y by omega)) (show 0 ≤ e.y by omega)
      omega
  · unfold Ent.Y
    split
    · exact y1
    · have h1 := Int.mul_le_mul (show 1 ≤ 2 * e.x by omega) y1 (by decide) (by omega)
      omega
  · have hm := T.m
    unfold Ent.X Ent.Y
    split
    · rename_i h1
      omega
    · rename_i h1
      have h2 : e.m = -1 := T.m1.elim (fun z => absurd z h1) id
      have e2 : (e.x * e.x + e.d * e.y * e.y) * (e.x * e.x + e.d * e.y * e.y) = e.d * (2 * e.x * e.y) * (2 * e.x * e.y) + (e.x * e.x - e.d * e.y * e.y) * (e.x * e.x - e.d * e.y * e.y) := by grind
      rw [e2, hm, h2]
      rfl
theorem ok_first (D : Df K mg "_law_first" p__law_first s__law_first) (B : Bl mg) (Cq : Cal P w K mg base CX0 1 "_law_square" p__law_square sp_least_square) : Cal P w K mg base CX0 2 "_law_first" p__law_first sp_first := D.cal fun f fd F => by
  refine F.ok sc__law_first (fun vs H Q E h => ?_) (fun cdv A outer s H vs Q E hr h => ?_)
  · obtain ⟨d, m, b, rfl, _⟩ := h
    rfl
  obtain ⟨d, m, b, rfl, d2, d60, hm, b1, b300, qn, qy⟩ := h
  refine ⟨_, pss_cons (ps_for PassesOwn.never rfl (pi_range2 (by rfl) B.range (pa_cons pe_int (pa_cons (pv 2) pa_nil))) (pg_name (i := 3) sc__law_first.nd rfl (.inl rfl))
      (pss_cons (ps_set (i := 4) sc__law_first.nd rfl (.inl rfl) (pe_op op_add (pe_op op_mul (pe_op op_mul (pv 0) (pv 3)) (pv 3)) (pv 1)))
      <| pss_cons (ps_set (i := 5) sc__law_first.nd rfl (.inl rfl) (pe_cal Cq hr (by decide) (by rfl) pass0 (pa_cons (pv 4) pa_nil)))
      <| pss_one (ps_if (PW.pt (pw_and (pt_cmpR op_ge (pv 5) pe_int (nomark _)) (pw_and1 (pt_cmpR op_eq (pe_op op_mul (pv 5) (pv 5)) (pv 4) (nomark _)))))
          (pss_one (ps_ret (pe_tup (pa_cons (pv 5) (pa_cons (pv 3) pa_nil))))) pss_nil)))
    <| pss_one (ps_ret pe_non), ?_⟩
  refine ⟨_, rfl, 1, b, rfl, ⟨by decide, by decide, by omega, by omega⟩, for_range (fun i σ H' => H' = H ∧ (∃ y3 y4 y5, σ = [some (.int d), some (.int m), some (.int b), y3, y4, y5]) ∧ ∀ y : Nat, 1 ≤ y → y < 1 + i → isSq (d * (y : Int) * (y : Int) + m) = false)
    ⟨rfl, ⟨_, _, _, rfl⟩, fun y h1 h2 => by omega⟩ (fun i σ H' hi hP => ?_) (fun σ H' hP => ?_)⟩
  · obtain ⟨rfl, ⟨y3, y4, y5, rfl⟩, hpre⟩ := hP
    have hib : 1 + i < b := by omega
    have hc : (1 : Int) + (i : Int) = ((1 + i : Nat) : Int) := by omega
    rw [hc]
    generalize hy : 1 + i = y at *
    have hbn := nat_mul_lt (m := 15) (n := 9) (x := d * (y : Int)) (y := (y : Int)) (nat_mul_lt (m := 6) (n := 9) (by omega) (by omega)) (by omega)
    have hdy := nat_mul_lt (m := 6) (n := 9) (x := d) (y := (y : Int)) (by omega) (by omega)
    have hpos : 2 ≤ d * (y : Int) * (y : Int) := by
      have h1 : (2 : Int) * 1 ≤ d * y := Int.mul_le_mul d2 (by omega) (by decide) (by omega)
      have h2 : (2 : Int) * 1 ≤ d * y * y := Int.mul_le_mul h1 (by omega) (by decide) (by omega)
      exact h2
    refine ⟨_, rfl, _, rfl, _, _, rfl, rfl, .inl (by omega), _, rfl, _, _, rfl, rfl, .inl (by omega), _, rfl, _, _, rfl, rfl, ?_⟩
    dsimp only
    have hn : 1 ≤ d * (y : Int) * (y : Int) + m := by omega
    have hnb : (d * (y : Int) * (y : Int) + m).natAbs < 2 ^ 25 := by omega
    have hq := hpre
    refine ⟨_, rfl, d * (y : Int) * (y : Int) + m, rfl, by omega, big_of (by omega), ?_⟩
    have qy2 := qy y (by omega) (by omega)
    have r0 := (rt_spec (n := d * (y : Int) * (y : Int) + m) (by omega)).1
    have r1 := rt_le (n := d * (y : Int) * (y : Int) + m) (by omega)
    have hnext : isSq (d * (y : Int) * (y : Int) + m) = false → ∀ z : Nat, 1 ≤ z → z < 1 + (i + 1) → isSq (d * (z : Int) * (z : Int) + m) = false := fun h z h1 h2 => by
      by_cases e : z = y
      · rw [e]
        exact h
      · exact hpre z h1 (by omega)
    refine ⟨_, rfl, _, _, rfl, rfl, _, rfl, ite2 (fun c => ?_) (fun c => ?_)⟩
    · refine ⟨_, rfl, _, rfl, _, _, rfl, rfl, .inl (by omega), _, rfl, rfl, _, rfl, ite2 (fun c2 => ?_) (fun c2 => ?_)⟩
      · have hs : isSq (d * (y : Int) * (y : Int) + m) = true := decide_eq_true (V.int.inj (of_decide_eq_true c2))
        exact ⟨_, rfl, _, rfl, len2, fun p np => qy2 hs hpre p np⟩
      · have hs : isSq (d * (y : Int) * (y : Int) + m) = false := by
          cases e : isSq (d * (y : Int) * (y : Int) + m) with
          | false => rfl
          | true => exact absurd (decide_eq_true (congrArg V.int (of_decide_eq_true e))) c2
        exact ⟨rfl, ⟨_, _, _, rfl⟩, hnext hs⟩
    · have c' : ¬ 1 ≤ rt (d * (y : Int) * (y : Int) + m) := of_decide_eq_false (Bool.eq_false_iff.mpr c)
      have hs : isSq (d * (y : Int) * (y : Int) + m) = false := by
        cases e : isSq (d * (y : Int) * (y : Int) + m) with
        | false => rfl
        | true =>
          have h1 : rt (d * (y : Int) * (y : Int) + m) * rt (d * (y : Int) * (y : Int) + m) = d * (y : Int) * (y : Int) + m := of_decide_eq_true e
          rw [show rt (d * (y : Int) * (y : Int) + m) = 0 by omega] at h1
          omega
      exact ⟨rfl, ⟨_, _, _, rfl⟩, hnext hs⟩
  · obtain ⟨rfl, ⟨y3, y4, y5, rfl⟩, hpre⟩ := hP
    exact qn fun y h1 h2 => hpre y h1 (by omega)
theorem ok_pair_right (D : Df K mg "_law_pair_right" p__law_pair_right s__law_pair_right) (B : Bl mg) (Cw : Cal P w K mg base CX0 1 "_law_whole" p__law_whole sp_whole) (Cf : Cal P w K mg base CX0 2 "_law_first" p__law_first sp_first) : Cal P w K mg base CX0 3 "_law_pair_right" p__law_pair_right sp_pair_right := D.cal fun f fd F => by
  refine F.ok sc__law_pair_right (fun vs H Q E h => ?_) (fun cdv A outer s H vs Q E hr h => ?_)
  · obtain ⟨t, d, m, X, Y, rfl, _⟩ := h
    rfl
  obtain ⟨t, d, m, X, Y, rfl, et, d2, d60, hm, bX, bY, Pr, q⟩ := h
  refine ⟨_, pss_cons (ps_if (PW.pt (pw_or (pt_not (pt_val (pe_callB call_isi (by rfl) B.isinstance PyProof.Rows.boot_isinstance (pa_cons (pv 0) (pa_cons (pe_bltn (v := .ty "tuple") (by rfl) B.tuple (by decide +kernel) rfl) pa_nil)))))
      (pw_or (pt_cmpR op_ne (pe_callB call_len_seq (by rfl) B.len PySem.boot_len (pa_cons (pv 0) pa_nil)) pe_int (nomark _))
      (pw_or1 (pt_not (pt_val (pe_callB (cr_all rfl) (by rfl) B.all (by decide +kernel) (pa_cons
          (pe_lc (own := [("_law_one", 7)]) (g := gName 7) (tt := tYes) rfl sc__law_pair_right.nd (pi_tup (pv 0)) (blkOk_by (N := n__law_pair_right) (sc := defScope s__law_pair_right) (by decide +kernel))
            (fun _ _ _ _ _ => pg_name (i := 7) sc__law_pair_right.nd rfl (Or.inl rfl)) (fun _ _ _ _ _ => pts_nil) (fun _ _ _ _ _ => pe_cal Cw hr (by decide) (by rfl) pass0 (pa_cons (pv 7) pa_nil))) pa_nil))))))))
      (pss_one (ps_ret pe_bl)) pss_nil)
    <| pss_cons (ps_asg (pv 0) (pg_tup (by rfl) (pgs_cons (pg_name (i := 4) sc__law_pair_right.nd rfl (.inl rfl)) (pgs_cons (pg_name (i := 5) sc__law_pair_right.nd rfl (.inl rfl)) pgs_nil))))
    <| pss_cons (ps_if (PW.pt (pw_or (pt_cmpR op_lt (pv 4) pe_int (nomark _)) (pw_or (pt_cmpR op_lt (pv 5) pe_int (nomark _))
        (pw_or1 (pt_cmpR op_ne (pe_op op_mulW (pv 4) (pv 4)) (pe_op op_add (pe_op op_mulW (pe_op op_mulW (pv 1) (pv 5)) (pv 5)) (pv 2)) (nomark _))))))
        (pss_one (ps_ret pe_bl)) pss_nil)
    <| pss_cons (ps_set (i := 6) sc__law_pair_right.nd rfl (.inl rfl) (pe_cal Cf hr (by decide) (by rfl) pass0 (pa_cons (pv 1) (pa_cons (pv 2) (pa_cons (pe_callB (call_min2 rfl) (by rfl) B.min PyProof.Rows.boot_min (pa_cons (pv 3) (pa_cons (pe_op op_add (pe_ix ix_tup (pv 0) pe_int (fun _ _ => rfl)) pe_int) pa_nil))) pa_nil)))))
    <| pss_one (ps_ret (pe_or (pe_and (pe_cmpR op_isN (pv 6) pe_non (nomark _)) (pe_one (pe_cmpR op_ge (pe_ix ix_tup (pv 0) pe_int (fun _ _ => rfl)) (pv 3) (nomark _)))) (pe_one (pe_cmpR (op_eqT hr) (pv 6) (pv 0) (nomark _))))), ?_⟩
  refine ⟨_, rfl, .ref t, .ty "tuple", _, _, true, rfl, .ty "tuple", isT_tup et, isT_self, true, rfl, iteF ?_⟩
  refine ⟨_, rfl, t, _, rfl, .inr (SqT.of et), rfl, false, rfl, iteF ?_⟩
  refine ⟨_, rfl, t, rfl, ⟨_, SqT.of et⟩, lc_mapT (xs := [V.int X, V.int Y]) (ys := [V.bl true, V.bl true]) rfl (small_of (show 2 ≤ 10000000 by decide)) et (fun x => rfl) (fun i x y H5 Q5 hx hy sx q5 => ?_) (fun L H5 sx hL nL => ?_)⟩
  · match i, hx, hy with
    | 0, hx, hy => cases hx; cases hy; exact ⟨_, rfl, _, rfl, q5 _ (Same.refl _)⟩
    | 1, hx, hy => cases hx; cases hy; exact ⟨_, rfl, _, rfl, q5 _ (Same.refl _)⟩
  refine ⟨L, [true, true], rfl, .of hL, true, rfl, iteF ?_⟩
  have e5 := sx _ _ et
  have x1 := Pr.x
  have y1 := Pr.y
  refine ⟨_, rfl, t, _, rfl, SqT.of e5, rfl, _, _, rfl, _, _, rfl, rfl, ?_⟩
  refine ⟨_, rfl, _, _, rfl, rfl, false, congrArg V.bl (decide_eq_false (by omega)), iteF ?_⟩
  refine ⟨_, rfl, _, _, rfl, rfl, false, congrArg V.bl (decide_eq_false (by omega)), iteF ?_⟩
  have bdy := nat_mul_lt (m := 6) (x := d) (by omega) bY
  refine ⟨_, rfl, _, rfl, _, _, rfl, rfl, mulW_of bX bX, _, rfl, _, rfl, _, _, rfl, rfl, mulW_of (m := 6) (by omega) bY, _, rfl, _, _, rfl, rfl, mulW_of bdy bY, _, rfl, _, _, rfl, rfl, rfl, false, ?_, iteF ?_⟩
  · exact congrArg V.bl (show (!decide (V.int (X * X) = V.int (d * Y * Y + m))) = false by rw [Pr.e]; simp)
  have gX : atI ([X, Y].map V.int) 0 = some (.int X) := atI_nat (j := 0) rfl
  have gY : atI ([X, Y].map V.int) 1 = some (.int Y) := atI_nat (j := 1) rfl
  have hf := Pr.f
  by_cases hY : Y < 300
  · have hl : least Y = Y.toNat := if_pos hY
    rw [hl] at hf
    obtain ⟨n, rfl⟩ := Int.eq_ofNat_of_zero_le (show 0 ≤ Y by omega)
    rw [Int.toNat_natCast] at hf
    have hs : isSq (d * (n : Int) * (n : Int) + m) = true := isSq_of Pr.e
    have hrt : rt (d * (n : Int) * (n : Int) + m) = X := by
      rw [← Pr.e]
      refine rt_unique (by omega) (Int.le_refl _) ?_
      have : (X + 1) * (X + 1) = X * X + 2 * X + 1 := by grind
      omega
    refine ⟨_, rfl, _, rfl, _, rfl, _, rfl, t, _, 1, _, rfl, rfl, SqT.of e5, gY, _, _, rfl, rfl, _, _, rfl, d, m, n + 1, ?_, d2, d60, hm, by omega, by omega, fun h => ?_, fun y h1 h2 h3 h4 p np => ?_⟩
    · show [V.int d, V.int m, V.int (if (n : Int) + 1 < 300 then (n : Int) + 1 else 300)] = [V.int d, V.int m, V.int ((n + 1 : Nat) : Int)]
      rw [show (if (n : Int) + 1 < 300 then (n : Int) + 1 else 300) = ((n + 1 : Nat) : Int) by split <;> omega]
    · have := h n (by omega) (by omega)
      rw [hs] at this
      cases this
    · have hyn : y = n := by
        by_cases h5 : y < n
        · have := hf y h1 h5
          rw [h3] at this
          cases this
        · omega
      subst hyn
      rw [hrt]
      refine ⟨_, rfl, rfl, false, rfl, iteF ⟨false, rfl, iteF ?_⟩⟩
      refine ⟨_, rfl, _, rfl, p, t, _, _, rfl, rfl, SqT.of upd_same, SqT.of (same_upd np _ _ e5), ?_⟩
      rw [decide_eq_true rfl]
      exact q _ (sx.trans (same_upd np))
  · have hl : least Y = 300 := if_neg hY
    rw [hl] at hf
    refine ⟨_, rfl, _, rfl, _, rfl, _, rfl, t, _, 1, _, rfl, rfl, SqT.of e5, gY, _, _, rfl, rfl, _, _, rfl, d, m, 300, ?_, d2, d60, hm, by omega, by omega, fun h => ?_, fun y h1 h2 h3 h4 p np => ?_⟩
    · show [V.int d, V.int m, V.int (if Y + 1 < 300 then Y + 1 else 300)] = [V.int d, V.int m, V.int ((300 : Nat) : Int)]
      rw [if_neg (by omega)]
      rfl
    · refine ⟨_, rfl, rfl, true, rfl, iteT ⟨_, rfl, t, _, 1, _, rfl, rfl, SqT.of e5, gY, _, rfl, _, _, rfl, rfl, true, congrArg V.bl (decide_eq_true (by omega)), iteT ?_⟩⟩
      exact q _ sx
    · have := hf y h1 h2
      rw [h3] at this
      cases this
theorem no_two : ∀ n : Nat, n < 61 → 2 ≤ n → isSq (n : Int) = true → isSq ((n : Int) + 1) = false := by
  have h : (List.range 61).all (fun n => decide (n < 2) || !isSq (n : Int) || !isSq ((n : Int) + 1)) = true := by decide +kernel
  intro n h1 h2 h3
  have h4 := List.all_eq_true.mp h n (List.mem_range.mpr h1)
  rw [h3] at h4
  simp only [Bool.not_true, Bool.or_false, Bool.or_eq_true, decide_eq_true_eq, Bool.not_eq_true'] at h4
  rcases h4 with h4 | h4
  · omega
  · exact h4
theorem ent_minus {e : Ent} (he : e ∈ tab) (h : e.m ≠ 1) : Pair e.d (-1) e.x e.y := by
  have T := ent_ok he
  have h2 := List.all_eq_true.mp tab_least e he
  unfold chkM at h2
  rw [Bool.and_eq_true, if_neg h] at h2
  have hm := T.m
  have := T.m1
  exact ⟨T.x1, T.y1, by omega, nosq_at h2.2⟩
theorem ent_none {e : Ent} (he : e ∈ tab) (h : e.m = 1) : ∀ y : Nat, 1 ≤ y → y < 300 → isSq (e.d * (y : Int) * (y : Int) + -1) = false := by
  have h2 := List.all_eq_true.mp tab_least e he
  unfold chkM at h2
  rw [Bool.and_eq_true, if_pos h] at h2
  exact nosq_at h2.2
theorem ok_law {f : Addr} {fd : FuncData} (F : Fun K "law" "law" s_law f fd) (B : Bl mg) (Cc : Cal P w K mg base CX0 1 "_law_cell" p__law_cell (sp_cell K)) (Cq : Cal P w K mg base CX0 1 "_law_square" p__law_square sp_least_square) (C1 : Cal P w K mg base (L2.CX P w) 7 "least_pair" p_least_pair (sp_least_pair C)) (C2 : Cal P w K mg base (L2.CX P w) 7 "least_minus" p_least_minus (sp_least_minus C)) (C3 : Cal P w K mg base (L2.CX P w) 8 "pair_at" p_pair_at (sp_pair_at C))
    (Cr : Cal P w K mg base CX0 3 "_law_pair_right" p__law_pair_right sp_pair_right) (Cf : Cal P w K mg base CX0 2 "_law_first" p__law_first sp_first) : FnOk P w K mg base CX0 40 f fd ["_law_script"] (sp_law K) := by
  refine F.ok sc_law (fun vs H Q E h => ?_) (fun cdv A outer s H vs Q E hr h => ?_)
  · obtain ⟨a, ns, rfl, _⟩ := h
    rfl
  obtain ⟨la, ns, rfl, hS, h63, q⟩ := h
  refine ⟨_, pss_cons (ps_set (i := 1) sc_law.nd rfl (.inl rfl) (pe_op op_add pe_int (pe_op op_mod (pe_cal Cc hr (by decide) (by rfl) pass0 (pa_cons (pv 0) (pa_cons pe_int pa_nil))) pe_int)))
    <| pss_mid (ps_if (pt_cmpR op_eq (pe_op op_mul (pe_cal Cq hr (by decide) (by rfl) pass0 (pa_cons (pv 1) pa_nil)) (pe_cal Cq hr (by decide) (by rfl) pass0 (pa_cons (pv 1) pa_nil))) (pv 1) (nomark _)) (pss_one (ps_set (i := 1) sc_law.nd rfl (.inl rfl) (pe_op op_add (pv 1) pe_int))) pss_nil)
    <| pss_cons (ps_set (i := 2) sc_law.nd rfl (.inl rfl) (pe_cal C1 hr (by decide) (by rfl) passL (pa_cons (pv 1) pa_nil)))
    <| pss_cons (ps_if (pt_not (pt_val (pe_cal Cr hr (by decide) (by rfl) pass0 (pa_cons (pv 2) (pa_cons (pv 1) (pa_cons pe_int (pa_cons pe_int pa_nil))))))) (pss_one (ps_ret pe_bl)) pss_nil)
    <| pss_mid (ps_set (i := 3) sc_law.nd rfl (.inl rfl) (pe_cal C2 hr (by decide) (by rfl) passL (pa_cons (pv 1) pa_nil)))
    <| pss_mid (ps_if (pt_cmpR op_isN (pv 3) pe_non (nomark _))
        (pss_one (ps_if (pt_cmpR op_notN (pe_cal Cf hr (by decide) (by rfl) pass0 (pa_cons (pv 1) (pa_cons (pe_un un_neg pe_int) (pa_cons pe_int pa_nil)))) pe_non (nomark _)) (pss_one (ps_ret pe_bl)) pss_nil))
        (pss_one (ps_if (pt_not (pt_val (pe_cal Cr hr (by decide) (by rfl) pass0 (pa_cons (pv 3) (pa_cons (pv 1) (pa_cons (pe_un un_neg pe_int) (pa_cons pe_int pa_nil))))))) (pss_one (ps_ret pe_bl)) pss_nil)))
    <| pss_cons (ps_set (i := 4) sc_law.nd rfl (.inl rfl) (pe_op op_add pe_int (pe_op op_mod (pe_cal Cc hr (by decide) (by rfl) pass0 (pa_cons (pv 0) (pa_cons pe_int pa_nil))) pe_int)))
    <| pss_cons (ps_asg (pv 2) (pg_tup (by rfl) (pgs_cons (pg_name (i := 5) sc_law.nd rfl (.inl rfl)) (pgs_cons (pg_name (i := 6) sc_law.nd rfl (.inl rfl)) pgs_nil))))
    <| pss_cons (ps_for PassesOwn.never rfl (pi_range1 (by rfl) B.range (pa_cons (pe_op op_sub (pv 4) pe_int) pa_nil)) (pg_name (i := 7) sc_law.nd rfl (.inl rfl))
        (pss_cons (ps_set (i := 8) sc_law.nd rfl (.inl rfl) (pe_op op_add (pe_op op_mulW (pe_ix ix_tup (pv 2) pe_int (fun _ _ => rfl)) (pv 6)) (pe_op op_mulW (pe_ix ix_tup (pv 2) pe_int (fun _ _ => rfl)) (pv 5))))
        <| pss_cons (ps_set (i := 5) sc_law.nd rfl (.inl rfl) (pe_op op_add (pe_op op_mulW (pe_ix ix_tup (pv 2) pe_int (fun _ _ => rfl)) (pv 5)) (pe_op op_mulW (pe_op op_mulW (pv 1) (pe_ix ix_tup (pv 2) pe_int (fun _ _ => rfl))) (pv 6))))
        <| pss_one (ps_set (i := 6) sc_law.nd rfl (.inl rfl) (pv 8))))
    <| pss_cons (ps_if (pt_cmpR op_ne (pe_op op_mulW (pv 5) (pv 5)) (pe_op op_add (pe_op op_mulW (pe_op op_mulW (pv 1) (pv 6)) (pv 6)) pe_int) (nomark _)) (pss_one (ps_ret pe_bl)) pss_nil)
    <| pss_one (ps_ret (pe_cmpR (op_eqT hr) (pe_cal C3 hr (by decide) (by rfl) passL (pa_cons (pv 1) (pa_cons (pv 4) pa_nil))) (pe_tup (pa_cons (pv 5) (pa_cons (pv 6) pa_nil))) (nomark _))), ?_⟩
  have m0 := Int.emod_nonneg (cellOf ns 0) (show (59 : Int) ≠ 0 by decide)
  have m1 := Int.emod_lt_of_pos (cellOf ns 0) (show (0 : Int) < 59 by decide)
  have k0 := Int.emod_nonneg (cellOf ns 1) (show (6 : Int) ≠ 0 by decide)
  have k1 := Int.emod_lt_of_pos (cellOf ns 1) (show (0 : Int) < 6 by decide)
  refine ⟨_, rfl, la, ns, 0, rfl, hS, by decide, _, _, rfl, rfl, (by show (0 : Int) < 59; decide), _, _, rfl, rfl, ?_⟩
  dsimp only
  generalize hd0 : 2 + cellOf ns 0 % 59 = d0
  refine ⟨fun σ H' => H' = H ∧ ∃ d : Int, σ = [some (.ref la), some (.int d), none, none, none, none, none, none, none] ∧ 2 ≤ d ∧ d ≤ 60 ∧ isSq d = false, ?_, ?_⟩
  · have r0 := (rt_spec (n := d0) (by omega)).1
    have r1 := rt_le (n := d0) (by omega)
    refine ⟨_, rfl, d0, rfl, by omega, big_of (by omega), _, rfl, d0, rfl, by omega, big_of (by omega), _, _, rfl, rfl, .inl (by omega), _, rfl, rfl, _, rfl, ite2 (fun c => ?_) (fun c => ?_)⟩
    · have hs : isSq d0 = true := decide_eq_true (V.int.inj (of_decide_eq_true c))
      obtain ⟨n, rfl⟩ := Int.eq_ofNat_of_zero_le (show 0 ≤ d0 by omega)
      have h2 := no_two n (by omega) (by omega) hs
      have h60 : n ≠ 60 := fun z => by
        subst z
        revert hs
        decide +kernel
      exact ⟨_, rfl, _, _, rfl, rfl, rfl, _, rfl, by omega, by omega, h2⟩
    · refine ⟨rfl, _, rfl, by omega, by omega, ?_⟩
      cases e : isSq d0 with
      | false => rfl
      | true => exact absurd (decide_eq_true (congrArg V.int (of_decide_eq_true e))) c
  rintro σ H' ⟨rfl, d, rfl, d2, d60, hns⟩
  have hnb : ¬ BadD d := fun z => z.elim (fun z => by omega) fun z => by rw [hns] at z; cases z
  obtain ⟨e, he, hed⟩ := tab_all d d2 d60 hns
  subst hed
  have T := ent_ok he
  obtain ⟨bX, bY⟩ := T.bXY
  have hbd : Big e.d := big_of (by omega)
  refine ⟨_, rfl, e.d, rfl, hbd, fun z => absurd z hnb, fun _ => ⟨e, he, rfl, fun H1 fo s1 _ ef => ?_⟩⟩
  refine ⟨_, rfl, _, rfl, fo, e.d, 1, e.X, e.Y, rfl, ef, d2, d60, .inl rfl, bX, bY, ent_pair he, fun H2 s2 => ⟨true, rfl, iteF ?_⟩⟩
  have ef2 := s2 _ _ ef
  have s3 := s1.trans s2
  refine ⟨fun σ H' => ∃ v, σ = [some (.ref la), some (.int e.d), some (.ref fo), some v, none, none, none, none, none] ∧ Same H2 H' ∧ ((e.m = 1 ∧ v = .non) ∨ (e.m ≠ 1 ∧ ∃ p, v = .ref p ∧ H' p = some (tI [e.x, e.y]))), ?_, ?_⟩
  · refine ⟨_, rfl, e.d, rfl, hbd, fun z => absurd z hnb, fun _ => ⟨e, he, rfl, fun hm H3 s4 => ?_, fun hm H3 p3 s4 _ e3 => ?_⟩⟩
    · exact ⟨_, rfl, s4, .inl ⟨hm, rfl⟩⟩
    · exact ⟨_, rfl, s4, .inr ⟨hm, p3, rfl, e3⟩⟩
  rintro σ H3 ⟨v, rfl, s4, hv⟩
  refine ⟨fun σ H' => ∃ y3, σ = [some (.ref la), some (.int e.d), some (.ref fo), y3, none, none, none, none, none] ∧ Same H2 H', ?_, ?_⟩
  · rcases hv with ⟨hm, rfl⟩ | ⟨hm, p3, rfl, e3⟩
    · refine ⟨_, rfl, rfl, true, rfl, iteT ?_⟩
      refine ⟨_, rfl, 1, rfl, e.d, -1, 300, rfl, d2, d60, .inr rfl, by decide, by decide, fun _ => ⟨rfl, false, rfl, iteF ⟨_, rfl, s4⟩⟩, fun y h1 h2 h3 => ?_⟩
      have := ent_none he hm y h1 h2
      rw [h3] at this
      cases this
    · refine ⟨_, rfl, rfl, false, rfl, iteF ?_⟩
      exact ⟨_, rfl, _, rfl, 1, rfl, p3, e.d, -1, e.x, e.y, rfl, e3, d2, d60, .inr rfl, nat_mono T.bx (by decide), nat_mono T.bY (by decide), ent_minus he hm, fun H4 s5 => ⟨true, rfl, iteF ⟨_, rfl, s4.trans s5⟩⟩⟩
  rintro σ H4 ⟨y3, rfl, s5⟩
  have ef4 := s5 _ _ ef2
  have s6 := s3.trans s5
  refine ⟨_, rfl, la, ns, 1, rfl, s6.seq hS, by decide, _, _, rfl, rfl, (by show (0 : Int) < 6; decide), _, _, rfl, rfl, ?_⟩
  dsimp only
  generalize hk : 1 + cellOf ns 1 % 6 = k
  refine ⟨_, rfl, fo, _, rfl, SqT.of ef4, rfl, _, _, rfl, _, _, rfl, rfl, ?_⟩
  have g0 : atI ([e.X, e.Y].map V.int) 0 = some (.int e.X) := atI_nat (j := 0) rfl
  have g1 : atI ([e.X, e.Y].map V.int) 1 = some (.int e.Y) := atI_nat (j := 1) rfl
  refine ⟨_, rfl, _, _, rfl, rfl, k - 1, rfl, by omega, by omega, for_range (fun i σ H2 => H2 = H4 ∧ ∃ y7 y8, σ = [some (.ref la), some (.int e.d), some (.ref fo), y3, some (.int k), some (.int (pairs e.X e.Y e.d i).1), some (.int (pairs e.X e.Y e.d i).2), y7, y8])
    ⟨rfl, none, none, rfl⟩ (fun i σ H2 hi hP => ?_) (fun σ H2 hP => ?_)⟩
  · obtain ⟨rfl, y7, y8, rfl⟩ := hP
    obtain ⟨b1, b2⟩ := pairs_big bX bY (by omega : e.d.natAbs < 2 ^ 6) i
    have b3 := nat_mono b1 (show 131 + 208 * i ≤ 10000 by omega)
    have b4 := nat_mono b2 (show 131 + 208 * i ≤ 10000 by omega)
    have bdy := nat_mul_lt (m := 6) (x := e.d) (by omega) bY
    refine ⟨_, rfl, fo, _, 0, _, rfl, rfl, SqT.of ef4, g0, _, rfl, _, _, rfl, rfl, mulW_of bX b4, _, rfl, fo, _, 1, _, rfl, rfl, SqT.of ef4, g1, _, rfl, _, _, rfl, rfl, mulW_of bY b3, _, _, rfl, rfl, ?_⟩
    refine ⟨_, rfl, fo, _, 0, _, rfl, rfl, SqT.of ef4, g0, _, rfl, _, _, rfl, rfl, mulW_of bX b3, _, rfl, _, rfl, fo, _, 1, _, rfl, rfl, SqT.of ef4, g1, _, _, rfl, rfl, mulW_of (m := 6) (by omega) bY, _, rfl, _, _, rfl, rfl, mulW_of bdy b4, _, _, rfl, rfl, ?_⟩
    exact ⟨_, rfl, rfl, _, _, rfl⟩
  · obtain ⟨rfl, y7, y8, rfl⟩ := hP
    have hpe := pairs_pell (d := e.d) (ent_pair he).e (k - 1).toNat
    obtain ⟨b1, b2⟩ := pairs_big bX bY (by omega : e.d.natAbs < 2 ^ 6) (k - 1).toNat
    have b3 := nat_mono b1 (show 131 + 208 * (k - 1).toNat ≤ 10000 by omega)
    have b4 := nat_mono b2 (show 131 + 208 * (k - 1).toNat ≤ 10000 by omega)
    generalize hp1 : (pairs e.X e.Y e.d (k - 1).toNat).1 = p1 at *
    generalize hp2 : (pairs e.X e.Y e.d (k - 1).toNat).2 = p2 at *
    have bdp := nat_mono (nat_mul_lt (m := 6) (x := e.d) (by omega) b4) (show 6 + 10000 ≤ 10006 by omega)
    refine ⟨_, rfl, _, rfl, _, _, rfl, rfl, mulW_of b3 b3, _, rfl, _, rfl, _, _, rfl, rfl, mulW_of (m := 6) (by omega) b4, _, rfl, _, _, rfl, rfl, mulW_of bdp b4, _, _, rfl, rfl, rfl, false, congrArg V.bl (show (!decide (V.int (p1 * p1) = V.int (e.d * p2 * p2 + 1))) = false by rw [hpe]; simp), iteF ?_⟩
    refine ⟨_, rfl, _, rfl, e.d, k, rfl, hbd, by omega, fun z => absurd z hnb, fun _ => ⟨e, he, rfl, fun z => by omega, fun _ H5 p5 s7 _ e5 => ?_⟩⟩
    rw [hp1, hp2] at e5
    refine ⟨_, rfl, _, rfl, len2, fun p6 np6 => ⟨p5, p6, [p1, p2], [p1, p2], rfl, rfl, SqT.of (same_upd np6 _ _ e5), SqT.of upd_same, ?_⟩⟩
    rw [decide_eq_true rfl]
    exact q _
end
/-! ### what the top has written -/
theorem all_mk {l : PySem.W.OpenLaw} {w : World} {K : PySem.W.Frag} {h : Heap} {mg : Str → Option Value} {fa : Addr} (X : K.In h) (G : h.Ns mainGlobals mg) (hfa : mg "law" = some (.ref fa))
    {f0 : Addr} {od0 an0 : Option Addr} {sl0 : Array (Option Value)} {oc0 kV0 dc0 pm0 cd0 ct0 : Value}
    {f1 : Addr} {od1 an1 : Option Addr} {sl1 : Array (Option Value)} {oc1 kV1 dc1 pm1 cd1 ct1 : Value}
    {f2 : Addr} {od2 an2 : Option Addr} {sl2 : Array (Option Value)} {oc2 kV2 dc2 pm2 cd2 ct2 : Value}
    {f3 : Addr} {od3 an3 : Option Addr} {sl3 : Array (Option Value)} {oc3 kV3 dc3 pm3 cd3 ct3 : Value}
    {f4 : Addr} {od4 an4 : Option Addr} {sl4 : Array (Option Value)} {oc4 kV4 dc4 pm4 cd4 ct4 : Value}
    {f5 : Addr} {od5 an5 : Option Addr} {sl5 : Array (Option Value)} {oc5 kV5 dc5 pm5 cd5 ct5 : Value}
    {f6 : Addr} {od6 an6 : Option Addr} {sl6 : Array (Option Value)} {oc6 kV6 dc6 pm6 cd6 ct6 : Value}
    {f7 : Addr} {od7 an7 : Option Addr} {sl7 : Array (Option Value)} {oc7 kV7 dc7 pm7 cd7 ct7 : Value}
    {f8 : Addr} {od8 an8 : Option Addr} {sl8 : Array (Option Value)} {oc8 kV8 dc8 pm8 cd8 ct8 : Value}
    {f9 : Addr} {od9 an9 : Option Addr} {sl9 : Array (Option Value)} {oc9 kV9 dc9 pm9 cd9 ct9 : Value}
    {f10 : Addr} {od10 an10 : Option Addr} {sl10 : Array (Option Value)} {oc10 kV10 dc10 pm10 cd10 ct10 : Value}
    {f11 : Addr} {od11 an11 : Option Addr} {sl11 : Array (Option Value)} {oc11 kV11 dc11 pm11 cd11 ct11 : Value}
    {f12 : Addr} {od12 an12 : Option Addr} {sl12 : Array (Option Value)} {oc12 kV12 dc12 pm12 cd12 ct12 : Value}
    {f13 : Addr} {od13 an13 : Option Addr} {sl13 : Array (Option Value)} {oc13 kV13 dc13 pm13 cd13 ct13 : Value}
    {f14 : Addr} {od14 an14 : Option Addr} {sl14 : Array (Option Value)} {oc14 kV14 dc14 pm14 cd14 ct14 : Value}
    {f16 : Addr} {od16 an16 : Option Addr} {sl16 : Array (Option Value)} {oc16 kV16 dc16 pm16 cd16 ct16 : Value}
    {f20 : Addr} {od20 an20 : Option Addr} {sl20 : Array (Option Value)} {oc20 kV20 dc20 pm20 cd20 ct20 : Value}
    {f23 : Addr} {od23 an23 : Option Addr} {sl23 : Array (Option Value)} {oc23 kV23 dc23 pm23 cd23 ct23 : Value}
    {f24 : Addr} {od24 an24 : Option Addr} {sl24 : Array (Option Value)} {oc24 kV24 dc24 pm24 cd24 ct24 : Value}
    {f25 : Addr} {od25 an25 : Option Addr} {sl25 : Array (Option Value)} {oc25 kV25 dc25 pm25 cd25 ct25 : Value}
    {C R : Addr}
    (a0 : PySem.W.nsIn K mainGlobals "divisor" = some (some (.ref f0)))
    (l0 : K.lookup f0 = some ⟨oc0, od0, .func (PySem.W.fnOf "divisor" "divisor" (defArgs s_divisor) (defBody s_divisor) (defScope s_divisor) .none kV0 dc0 pm0 an0 cd0 ct0), sl0⟩)
    (c0 : PySem.W.codeIn K cd0 "divisor" = true)
    (k0 : PySem.W.keepIn K (.ref f0) = true)
    (a1 : PySem.W.nsIn K mainGlobals "least_square" = some (some (.ref f1)))
    (l1 : K.lookup f1 = some ⟨oc1, od1, .func (PySem.W.fnOf "least_square" "least_square" (defArgs s_least_square) (defBody s_least_square) (defScope s_least_square) .none kV1 dc1 pm1 an1 cd1 ct1), sl1⟩)
    (c1 : PySem.W.codeIn K cd1 "least_square" = true)
    (k1 : PySem.W.keepIn K (.ref f1) = true)
    (a2 : PySem.W.nsIn K mainGlobals "heart" = some (some (.ref f2)))
    (l2 : K.lookup f2 = some ⟨oc2, od2, .func (PySem.W.fnOf "heart" "heart" (defArgs s_heart) (defBody s_heart) (defScope s_heart) .none kV2 dc2 pm2 an2 cd2 ct2), sl2⟩)
    (c2 : PySem.W.codeIn K cd2 "heart" = true)
    (k2 : PySem.W.keepIn K (.ref f2) = true)
    (a3 : PySem.W.nsIn K mainGlobals "is_square" = some (some (.ref f3)))
    (l3 : K.lookup f3 = some ⟨oc3, od3, .func (PySem.W.fnOf "is_square" "is_square" (defArgs s_is_square) (defBody s_is_square) (defScope s_is_square) .none kV3 dc3 pm3 an3 cd3 ct3), sl3⟩)
    (c3 : PySem.W.codeIn K cd3 "is_square" = true)
    (k3 : PySem.W.keepIn K (.ref f3) = true)
    (a4 : PySem.W.nsIn K mainGlobals "root_of" = some (some (.ref f4)))
    (l4 : K.lookup f4 = some ⟨oc4, od4, .func (PySem.W.fnOf "root_of" "root_of" (defArgs s_root_of) (defBody s_root_of) (defScope s_root_of) .none kV4 dc4 pm4 an4 cd4 ct4), sl4⟩)
    (c4 : PySem.W.codeIn K cd4 "root_of" = true)
    (k4 : PySem.W.keepIn K (.ref f4) = true)
    (a5 : PySem.W.nsIn K mainGlobals "part_of" = some (some (.ref f5)))
    (l5 : K.lookup f5 = some ⟨oc5, od5, .func (PySem.W.fnOf "part_of" "part_of" (defArgs s_part_of) (defBody s_part_of) (defScope s_part_of) .none kV5 dc5 pm5 an5 cd5 ct5), sl5⟩)
    (c5 : PySem.W.codeIn K cd5 "part_of" = true)
    (k5 : PySem.W.keepIn K (.ref f5) = true)
    (a6 : PySem.W.nsIn K mainGlobals "moved" = some (some (.ref f6)))
    (l6 : K.lookup f6 = some ⟨oc6, od6, .func (PySem.W.fnOf "moved" "moved" (defArgs s_moved) (defBody s_moved) (defScope s_moved) .none kV6 dc6 pm6 an6 cd6 ct6), sl6⟩)
    (c6 : PySem.W.codeIn K cd6 "moved" = true)
    (k6 : PySem.W.keepIn K (.ref f6) = true)
    (a7 : PySem.W.nsIn K mainGlobals "turned" = some (some (.ref f7)))
    (l7 : K.lookup f7 = some ⟨oc7, od7, .func (PySem.W.fnOf "turned" "turned" (defArgs s_turned) (defBody s_turned) (defScope s_turned) .none kV7 dc7 pm7 an7 cd7 ct7), sl7⟩)
    (c7 : PySem.W.codeIn K cd7 "turned" = true)
    (k7 : PySem.W.keepIn K (.ref f7) = true)
    (a8 : PySem.W.nsIn K mainGlobals "fraction_of" = some (some (.ref f8)))
    (l8 : K.lookup f8 = some ⟨oc8, od8, .func (PySem.W.fnOf "fraction_of" "fraction_of" (defArgs s_fraction_of) (defBody s_fraction_of) (defScope s_fraction_of) .none kV8 dc8 pm8 an8 cd8 ct8), sl8⟩)
    (c8 : PySem.W.codeIn K cd8 "fraction_of" = true)
    (k8 : PySem.W.keepIn K (.ref f8) = true)
    (a9 : PySem.W.nsIn K mainGlobals "rounds_of" = some (some (.ref f9)))
    (l9 : K.lookup f9 = some ⟨oc9, od9, .func (PySem.W.fnOf "rounds_of" "rounds_of" (defArgs s_rounds_of) (defBody s_rounds_of) (defScope s_rounds_of) .none kV9 dc9 pm9 an9 cd9 ct9), sl9⟩)
    (c9 : PySem.W.codeIn K cd9 "rounds_of" = true)
    (k9 : PySem.W.keepIn K (.ref f9) = true)
    (a10 : PySem.W.nsIn K mainGlobals "first_pair" = some (some (.ref f10)))
    (l10 : K.lookup f10 = some ⟨oc10, od10, .func (PySem.W.fnOf "first_pair" "first_pair" (defArgs s_first_pair) (defBody s_first_pair) (defScope s_first_pair) .none kV10 dc10 pm10 an10 cd10 ct10), sl10⟩)
    (c10 : PySem.W.codeIn K cd10 "first_pair" = true)
    (k10 : PySem.W.keepIn K (.ref f10) = true)
    (a11 : PySem.W.nsIn K mainGlobals "least_pair" = some (some (.ref f11)))
    (l11 : K.lookup f11 = some ⟨oc11, od11, .func (PySem.W.fnOf "least_pair" "least_pair" (defArgs s_least_pair) (defBody s_least_pair) (defScope s_least_pair) .none kV11 dc11 pm11 an11 cd11 ct11), sl11⟩)
    (c11 : PySem.W.codeIn K cd11 "least_pair" = true)
    (k11 : PySem.W.keepIn K (.ref f11) = true)
    (a12 : PySem.W.nsIn K mainGlobals "least_minus" = some (some (.ref f12)))
    (l12 : K.lookup f12 = some ⟨oc12, od12, .func (PySem.W.fnOf "least_minus" "least_minus" (defArgs s_least_minus) (defBody s_least_minus) (defScope s_least_minus) .none kV12 dc12 pm12 an12 cd12 ct12), sl12⟩)
    (c12 : PySem.W.codeIn K cd12 "least_minus" = true)
    (k12 : PySem.W.keepIn K (.ref f12) = true)
    (a13 : PySem.W.nsIn K mainGlobals "pair_at" = some (some (.ref f13)))
    (l13 : K.lookup f13 = some ⟨oc13, od13, .func (PySem.W.fnOf "pair_at" "pair_at" (defArgs s_pair_at) (defBody s_pair_at) (defScope s_pair_at) .none kV13 dc13 pm13 an13 cd13 ct13), sl13⟩)
    (c13 : PySem.W.codeIn K cd13 "pair_at" = true)
    (k13 : PySem.W.keepIn K (.ref f13) = true)
    (a14 : PySem.W.nsIn K mainGlobals "_law_cell" = some (some (.ref f14)))
    (l14 : K.lookup f14 = some ⟨oc14, od14, .func (PySem.W.fnOf "_law_cell" "_law_cell" (defArgs s__law_cell) (defBody s__law_cell) (defScope s__law_cell) .none kV14 dc14 pm14 an14 cd14 ct14), sl14⟩)
    (c14 : PySem.W.codeIn K cd14 "_law_cell" = true)
    (k14 : PySem.W.keepIn K (.ref f14) = true)
    (a16 : PySem.W.nsIn K mainGlobals "_law_whole" = some (some (.ref f16)))
    (l16 : K.lookup f16 = some ⟨oc16, od16, .func (PySem.W.fnOf "_law_whole" "_law_whole" (defArgs s__law_whole) (defBody s__law_whole) (defScope s__law_whole) .none kV16 dc16 pm16 an16 cd16 ct16), sl16⟩)
    (c16 : PySem.W.codeIn K cd16 "_law_whole" = true)
    (k16 : PySem.W.keepIn K (.ref f16) = true)
    (a20 : PySem.W.nsIn K mainGlobals "_law_square" = some (some (.ref f20)))
    (l20 : K.lookup f20 = some ⟨oc20, od20, .func (PySem.W.fnOf "_law_square" "_law_square" (defArgs s__law_square) (defBody s__law_square) (defScope s__law_square) .none kV20 dc20 pm20 an20 cd20 ct20), sl20⟩)
    (c20 : PySem.W.codeIn K cd20 "_law_square" = true)
    (k20 : PySem.W.keepIn K (.ref f20) = true)
    (a23 : PySem.W.nsIn K mainGlobals "_law_first" = some (some (.ref f23)))
    (l23 : K.lookup f23 = some ⟨oc23, od23, .func (PySem.W.fnOf "_law_first" "_law_first" (defArgs s__law_first) (defBody s__law_first) (defScope s__law_first) .none kV23 dc23 pm23 an23 cd23 ct23), sl23⟩)
    (c23 : PySem.W.codeIn K cd23 "_law_first" = true)
    (k23 : PySem.W.keepIn K (.ref f23) = true)
    (a24 : PySem.W.nsIn K mainGlobals "_law_pair_right" = some (some (.ref f24)))
    (l24 : K.lookup f24 = some ⟨oc24, od24, .func (PySem.W.fnOf "_law_pair_right" "_law_pair_right" (defArgs s__law_pair_right) (defBody s__law_pair_right) (defScope s__law_pair_right) .none kV24 dc24 pm24 an24 cd24 ct24), sl24⟩)
    (c24 : PySem.W.codeIn K cd24 "_law_pair_right" = true)
    (k24 : PySem.W.keepIn K (.ref f24) = true)
    (a25 : PySem.W.nsIn K mainGlobals "law" = some (some (.ref f25)))
    (l25 : K.lookup f25 = some ⟨oc25, od25, .func (PySem.W.fnOf "law" "law" (defArgs s_law) (defBody s_law) (defScope s_law) .none kV25 dc25 pm25 an25 cd25 ct25), sl25⟩)
    (c25 : PySem.W.codeIn K cd25 "law" = true)
    (k25 : PySem.W.keepIn K (.ref f25) = true)
    (z_len : PySem.W.nsIn K mainGlobals "len" = some none)
    (z_all : PySem.W.nsIn K mainGlobals "all" = some none)
    (z_reversed : PySem.W.nsIn K mainGlobals "reversed" = some none)
    (z_tuple : PySem.W.nsIn K mainGlobals "tuple" = some none)
    (z_abs : PySem.W.nsIn K mainGlobals "abs" = some none)
    (z_range : PySem.W.nsIn K mainGlobals "range" = some none)
    (z_isinstance : PySem.W.nsIn K mainGlobals "isinstance" = some none)
    (z_int : PySem.W.nsIn K mainGlobals "int" = some none)
    (z_bool : PySem.W.nsIn K mainGlobals "bool" = some none)
    (z_ValueError : PySem.W.nsIn K mainGlobals "ValueError" = some none)
    (z_list : PySem.W.nsIn K mainGlobals "list" = some none)
    (z_sum : PySem.W.nsIn K mainGlobals "sum" = some none)
    (z_min : PySem.W.nsIn K mainGlobals "min" = some none)
    (z_enumerate : PySem.W.nsIn K mainGlobals "enumerate" = some none)
    (gC : PySem.W.nsIn K mainGlobals "NoNumber" = some (some (.ref C)))
    (gR : PySem.W.nsIn K mainGlobals "RowError" = some (some (.ref R)))
    (xC : PySem.W.excIn K C [.type "ValueError", .type "Exception", .type "BaseException", .type "object"] "ValueError.__new__" = true)
    (kC : PySem.W.keepIn K (.ref C) = true)
    (bC : PySem.W.subIn K (.ref C) (.type "BaseException") = some true)
    (tC : PySem.W.typeIn K (.ref C) = some (.type "type"))
    (bR : PySem.W.subIn K (.ref R) (.type "BaseException") = some true)
    (dR : PySem.W.hasDictIn K R = true)
    (tR : PySem.W.typeIn K (.ref R) = some (.type "type"))
    (sR : PySem.W.subIn K (.ref C) (.ref R) = some true)
    (e1 : PySem.W.findIn K (.ref C) "__getattribute__" = some (some (.builtin "BaseException.__getattribute__")))
    (e2 : PySem.W.findIn K (.ref C) "__getattr__" = some none)
    (e4 : PySem.W.hasDictIn K C = true)
    (e5 : PySem.W.findIn K (.ref C) "__class__" = some (some (.builtin "object.__class__")))
    (e6 : PySem.W.specialIn K (.builtin "object.__class__") "__get__" = some (some (.builtin "getset_descriptor.__get__")))
    (e7 : PySem.W.takesIn K (.builtin "object.__class__") = some true)
    (e8 : PySem.W.mroIn K C (.type "object") = some true)
    (iV : PySem.W.subIn K (.ref C) (.type "ValueError") = some true) :
    ∃ fd : FuncData, (∀ (s : Shared) (v : Value), BindsTo s fd ⟨[v], []⟩ [("_law_script", v)]) ∧ ∀ base : Heap, K.In base → base.Ns mainGlobals mg → FnOk l.prog w K mg base CX0 40 fa fd ["_law_script"] (sp_law K) := by
  have e := hfa.symm.trans (PySem.W.mg_of X G a25)
  cases e
  have D_divisor : Df K mg "divisor" p_divisor s_divisor := df_mk X G a0 l0 c0 k0 fun _ _ _ _ _ _ us hl => match us, hl with | [_, _], _ => rfl
  have D_least_square : Df K mg "least_square" p_least_square s_least_square := df_mk X G a1 l1 c1 k1 fun _ _ _ _ _ _ us hl => match us, hl with | [_], _ => rfl
  have D_heart : Df K mg "heart" p_heart s_heart := df_mk X G a2 l2 c2 k2 fun _ _ _ _ _ _ us hl => match us, hl with | [_, _, _], _ => rfl
  have D_is_square : Df K mg "is_square" p_is_square s_is_square := df_mk X G a3 l3 c3 k3 fun _ _ _ _ _ _ us hl => match us, hl with | [_], _ => rfl
  have D_root_of : Df K mg "root_of" p_root_of s_root_of := df_mk X G a4 l4 c4 k4 fun _ _ _ _ _ _ us hl => match us, hl with | [_, _, _, _], _ => rfl
  have D_part_of : Df K mg "part_of" p_part_of s_part_of := df_mk X G a5 l5 c5 k5 fun _ _ _ _ _ _ us hl => match us, hl with | [_], _ => rfl
  have D_moved : Df K mg "moved" p_moved s_moved := df_mk X G a6 l6 c6 k6 fun _ _ _ _ _ _ us hl => match us, hl with | [_, _], _ => rfl
  have D_turned : Df K mg "turned" p_turned s_turned := df_mk X G a7 l7 c7 k7 fun _ _ _ _ _ _ us hl => match us, hl with | [_, _], _ => rfl
  have D_fraction_of : Df K mg "fraction_of" p_fraction_of s_fraction_of := df_mk X G a8 l8 c8 k8 fun _ _ _ _ _ _ us hl => match us, hl with | [_], _ => rfl
  have D_rounds_of : Df K mg "rounds_of" p_rounds_of s_rounds_of := df_mk X G a9 l9 c9 k9 fun _ _ _ _ _ _ us hl => match us, hl with | [_], _ => rfl
  have D_first_pair : Df K mg "first_pair" p_first_pair s_first_pair := df_mk X G a10 l10 c10 k10 fun _ _ _ _ _ _ us hl => match us, hl with | [_], _ => rfl
  have D_least_pair : Df K mg "least_pair" p_least_pair s_least_pair := df_mk X G a11 l11 c11 k11 fun _ _ _ _ _ _ us hl => match us, hl with | [_], _ => rfl
  have D_least_minus : Df K mg "least_minus" p_least_minus s_least_minus := df_mk X G a12 l12 c12 k12 fun _ _ _ _ _ _ us hl => match us, hl with | [_], _ => rfl
  have D_pair_at : Df K mg "pair_at" p_pair_at s_pair_at := df_mk X G a13 l13 c13 k13 fun _ _ _ _ _ _ us hl => match us, hl with | [_, _], _ => rfl
  have D__law_cell : Df K mg "_law_cell" p__law_cell s__law_cell := df_mk X G a14 l14 c14 k14 fun _ _ _ _ _ _ us hl => match us, hl with | [_, _], _ => rfl
  have D__law_whole : Df K mg "_law_whole" p__law_whole s__law_whole := df_mk X G a16 l16 c16 k16 fun _ _ _ _ _ _ us hl => match us, hl with | [_], _ => rfl
  have D__law_square : Df K mg "_law_square" p__law_square s__law_square := df_mk X G a20 l20 c20 k20 fun _ _ _ _ _ _ us hl => match us, hl with | [_], _ => rfl
  have D__law_first : Df K mg "_law_first" p__law_first s__law_first := df_mk X G a23 l23 c23 k23 fun _ _ _ _ _ _ us hl => match us, hl with | [_, _, _], _ => rfl
  have D__law_pair_right : Df K mg "_law_pair_right" p__law_pair_right s__law_pair_right := df_mk X G a24 l24 c24 k24 fun _ _ _ _ _ _ us hl => match us, hl with | [_, _, _, _], _ => rfl
  have B : Bl mg := ⟨PySem.W.mg_none_of X G z_len, PySem.W.mg_none_of X G z_all, PySem.W.mg_none_of X G z_reversed, PySem.W.mg_none_of X G z_tuple, PySem.W.mg_none_of X G z_abs, PySem.W.mg_none_of X G z_range, PySem.W.mg_none_of X G z_isinstance, PySem.W.mg_none_of X G z_int, PySem.W.mg_none_of X G z_bool, PySem.W.mg_none_of X G z_ValueError, PySem.W.mg_none_of X G z_list, PySem.W.mg_none_of X G z_sum, PySem.W.mg_none_of X G z_min, PySem.W.mg_none_of X G z_enumerate⟩
  have N : NoN K mg C R := ⟨PySem.W.mg_of X G gC, PySem.W.mg_of X G gR, xC, kC, bC, tC, bR, dR, tR, sR, ⟨e1, e2, bC, e4, e5, e6, e7, e8⟩, kit_vt (by decide +kernel) iV, PySem.W.mg_none_of X G z_ValueError, PySem.W.mg_none_of X G z_isinstance⟩
  have F := fun_mk (st := s_law) l25 c25 k25
  refine ⟨PySem.W.fnOf "law" "law" (defArgs s_law) (defBody s_law) (defScope s_law) .none kV25 dc25 pm25 an25 cd25 ct25, fun s v => .of_eq rfl, fun base _ _ => ?_⟩
  have Cd0 := ok_divisor (P := l.prog) (w := w) (base := base) D_divisor B
  have Cl := ok_least_square (P := l.prog) (w := w) (base := base) D_least_square
  have Ch := ok_heart (P := l.prog) (w := w) (base := base) D_heart
  have Cs0 := ok_is_square D_is_square Cl
  have Cro := ok_root_of D_root_of N Ch Cs0 Cd0
  have Cp := ok_part_of D_part_of B Ch Cl
  have Cmo := ok_moved (P := l.prog) (w := w) (base := base) D_moved
  have Ct := ok_turned D_turned Cmo Cro
  have Crr := ok_rounds_of D_rounds_of B Cp Ct
  have Cfo := ok_fraction_of (P := l.prog) (w := w) (base := base) D_fraction_of B N
  have Cfp := ok_first_pair D_first_pair N Cs0 Crr Cro Cfo
  have C1 := ok_least_pair D_least_pair Cfp
  have C2 := ok_least_minus D_least_minus Cfp
  have C3 := ok_pair_at D_pair_at B N C1
  have Cc := ok__law_cell (P := l.prog) (w := w) (base := base) D__law_cell B
  have Cq := ok__law_square (P := l.prog) (w := w) (base := base) D__law_square
  have Cw := ok__law_whole (P := l.prog) (w := w) (base := base) D__law_whole B
  have Cf := ok_first D__law_first B Cq
  have Cr := ok_pair_right D__law_pair_right B Cw Cf
  exact ok_law F B Cc Cq C1 C2 C3 Cr Cf
end RR
open PySem PySem.W PyProof.Rows
set_option maxHeartbeats 0 in
theorem PySem.Challenge.cw_rootrow_k13_whole_squares_that_differ_by_holds : PySem.Challenge.rw_rootrow_k13_whole_squares_that_differ_by.Holds := by
  w_on; o_law; k_head; (case hw => w_witness2)
  k_fill
  refine L2.walk_of (l := PySem.Challenge.rw_rootrow_k13_whole_squares_that_differ_by) (n := 63) (k := 40) (x := "_law_script") (CX := fun _ => L2.CX0) (sp := fun w => RR.sp_law _) rfl (by decide) rfl ⟨rfl, by decide, by decide⟩ (fun w h Y => PySem.W.kIn_of Y) ?F (fun _ _ a ns hl _ hS => ⟨a, ns, rfl, hS, hl, fun _ => rfl⟩) (fun _ _ _ _ _ h => h)
  case F =>
    intro w mg fa h KX G hmg
    refine' RR.all_mk KX G hmg ?a0 ?l0 ?c0 ?k0 ?a1 ?l1 ?c1 ?k1 ?a2 ?l2 ?c2 ?k2 ?a3 ?l3 ?c3 ?k3 ?a4 ?l4 ?c4 ?k4 ?a5 ?l5 ?c5 ?k5 ?a6 ?l6 ?c6 ?k6 ?a7 ?l7 ?c7 ?k7 ?a8 ?l8 ?c8 ?k8 ?a9 ?l9 ?c9 ?k9 ?a10 ?l10 ?c10 ?k10 ?a11 ?l11 ?c11 ?k11 ?a12 ?l12 ?c12 ?k12 ?a13 ?l13 ?c13 ?k13 ?a14 ?l14 ?c14 ?k14 ?a16 ?l16 ?c16 ?k16 ?a20 ?l20 ?c20 ?k20 ?a23 ?l23 ?c23 ?k23 ?a24 ?l24 ?c24 ?k24 ?a25 ?l25 ?c25 ?k25 ?z_len ?z_all ?z_reversed ?z_tuple ?z_abs ?z_range ?z_isinstance ?z_int ?z_bool ?z_ValueError ?z_list ?z_sum ?z_min ?z_enumerate ?gC ?gR ?xC ?kC ?bC ?tC ?bR ?dR ?tR ?sR ?e1 ?e2 ?e4 ?e5 ?e6 ?e7 ?e8 ?iV
    (case a0 => k_is)
    (case l0 => k_is)
    (case c0 => k_is)
    (case k0 => k_is)
    (case a1 => k_is)
    (case l1 => k_is)
    (case c1 => k_is)
    (case k1 => k_is)
    (case a2 => k_is)
    (case l2 => k_is)
    (case c2 => k_is)
    (case k2 => k_is)
    (case a3 => k_is)
    (case l3 => k_is)
    (case c3 => k_is)
    (case k3 => k_is)
    (case a4 => k_is)
    (case l4 => k_is)
    (case c4 => k_is)
    (case k4 => k_is)
    (case a5 => k_is)
    (case l5 => k_is)
    (case c5 => k_is)
    (case k5 => k_is)
    (case a6 => k_is)
    (case l6 => k_is)
    (case c6 => k_is)
    (case k6 => k_is)
    (case a7 => k_is)
    (case l7 => k_is)
    (case c7 => k_is)
    (case k7 => k_is)
    (case a8 => k_is)
    (case l8 => k_is)
    (case c8 => k_is)
    (case k8 => k_is)
    (case a9 => k_is)
    (case l9 => k_is)
    (case c9 => k_is)
    (case k9 => k_is)
    (case a10 => k_is)
    (case l10 => k_is)
    (case c10 => k_is)
    (case k10 => k_is)
    (case a11 => k_is)
    (case l11 => k_is)
    (case c11 => k_is)
    (case k11 => k_is)
    (case a12 => k_is)
    (case l12 => k_is)
    (case c12 => k_is)
    (case k12 => k_is)
    (case a13 => k_is)
    (case l13 => k_is)
    (case c13 => k_is)
    (case k13 => k_is)
    (case a14 => k_is)
    (case l14 => k_is)
    (case c14 => k_is)
    (case k14 => k_is)
    (case a16 => k_is)
    (case l16 => k_is)
    (case c16 => k_is)
    (case k16 => k_is)
    (case a20 => k_is)
    (case l20 => k_is)
    (case c20 => k_is)
    (case k20 => k_is)
    (case a23 => k_is)
    (case l23 => k_is)
    (case c23 => k_is)
    (case k23 => k_is)
    (case a24 => k_is)
    (case l24 => k_is)
    (case c24 => k_is)
    (case k24 => k_is)
    (case a25 => k_is)
    (case l25 => k_is)
    (case c25 => k_is)
    (case k25 => k_is)
    (case z_len => k_is)
    (case z_all => k_is)
    (case z_reversed => k_is)
    (case z_tuple => k_is)
    (case z_abs => k_is)
    (case z_range => k_is)
    (case z_isinstance => k_is)
    (case z_int => k_is)
    (case z_bool => k_is)
    (case z_ValueError => k_is)
    (case z_list => k_is)
    (case z_sum => k_is)
    (case z_min => k_is)
    (case z_enumerate => k_is)
    (case gC => k_is)
    (case gR => k_is)
    (case xC => first | k_exc | k_is)
    (case kC => k_is)
    (case bC => k_is)
    (case tC => k_is)
    (case bR => k_is)
    (case dR => k_is)
    (case tR => k_is)
    (case sR => k_is)
    (case e1 => k_is)
    (case e2 => k_is)
    (case e4 => k_is)
    (case e5 => k_is)
    (case e6 => k_is)
    (case e7 => k_is)
    (case e8 => k_is)
    (case iV => k_is)
