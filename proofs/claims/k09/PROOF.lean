import PyProof.Rows.All
import Wide.All
import OpenK.AllK
import Wide.FinOn
import HandS.ForMost
import HandS.ForExc
import HandS.Wide
import HandS.Rev
import HandS.IsInst
import HandS.ExcIs
import HandS.TupAny
import HandS.More
import HandS.Style
import HandS.Conv
import KE.GoesMore
import HandS.Iter
import HandS.Walk
import PySem.Challenge.RW_rootrow_k09_whole_neighbours
set_option Elab.async false
set_option linter.all false
set_option maxRecDepth 100000
set_option maxHeartbeats 4000000
/-! RRK: what all laws share: a callee by name, a def by name, loops and comprehensions in short. -/
namespace RR
open PySem PySem.Spec PyProof.Rows L2

/-! ### defs by name -/
/-- a def that stands at the top, by its name -/
structure Df (K : PySem.W.Frag) (mg : Str → Option Value) (x : Str) (ps : List Str) (st : Stmt) : Prop where
  ex : ∃ f fd, Fun K x x st f fd ∧ Binds K fd ps [] ∧ mg x = some (.ref f)
/-- a callee by its name: it keeps its promise -/
structure Cal (P : Program) (w : World) (K : PySem.W.Frag) (mg : Str → Option Value) (base : Heap) (CX : CXT) (k : Nat) (x : Str) (ps : List Str) (sp : Sp) : Prop where
  ex : ∃ f fd, FnOk P w K mg base CX k f fd ps sp ∧ PySem.W.keepIn K (.ref f) = true ∧ Binds K fd ps [] ∧ mg x = some (.ref f)
theorem Df.cal {P : Program} {w : World} {K : PySem.W.Frag} {mg : Str → Option Value} {base : Heap} {CX : CXT} {k : Nat} {x : Str} {ps : List Str} {st : Stmt} {sp : Sp} (D : Df K mg x ps st)
    (h : ∀ f fd, Fun K x x st f fd → FnOk P w K mg base CX k f fd ps sp) : Cal P w K mg base CX k x ps sp := by
  obtain ⟨f, fd, F, b, g⟩ := D.ex
  exact ⟨f, fd, h f fd F, F.kp, b, g⟩
theorem pe_cal {X : Cx} {CX : CXT} {k k' : Nat} {x : Str} {ps : List Str} {sp : Sp} {E : XK} {e : Expr} {es : List Expr} {t : TA} {p pos : Pos} (C : Cal X.prog X.w X.K X.mg X.base CX k x ps sp) (hr : Room k' X.A) (hk : k ≤ k') (hg : Gl X x) (hx : Passes CX X E)
    (ha : PA X (e :: es) t) (hdb : (x == ("__debug__" : Str)) = false := by decide) (he : starEach (e :: es) X.env = (false, eval e X.env) :: starEach es X.env := by rfl) (hpl : (backTo pos (starEach es X.env)).any (·.1) = false := by rfl) :
    PE X (.Call (.Name x p) (e :: es) [] pos) (tCall sp [] E t) := by
  obtain ⟨f, fd, F, kp, b, g⟩ := C.ex
  exact pe_call F (hr.mono hk) hg g kp b .nil hx ha hdb he hpl
theorem pe_calS {X : Cx} {CX : CXT} {k k' : Nat} {x : Str} {ps : List Str} {sp : Sp} {E : L2.St → XK} {e : Expr} {es : List Expr} {t : TA} {p pos : Pos} (C : Cal X.prog X.w X.K X.mg X.base CX k x ps sp) (hr : Room k' X.A) (hk : k ≤ k') (hg : Gl X x) (hx : ∀ σ, PassesAt CX X σ (E σ))
    (ha : PA X (e :: es) t) (hdb : (x == ("__debug__" : Str)) = false := by decide) (he : starEach (e :: es) X.env = (false, eval e X.env) :: starEach es X.env := by rfl) (hpl : (backTo pos (starEach es X.env)).any (·.1) = false := by rfl) :
    PE X (.Call (.Name x p) (e :: es) [] pos) (tCallS sp E t) := by
  obtain ⟨f, fd, F, kp, b, g⟩ := C.ex
  exact pe_callS F (hr.mono hk) hg g kp b hx ha hdb he hpl

theorem df_mk {K : PySem.W.Frag} {h : Heap} {mg : Str → Option Value} {x : Str} {ps : List Str} {st : Stmt} {f : Addr} {oc : Value} {od an : Option Addr} {osl : Array (Option Value)} {kV doc pm cdv ct : Value} (X : K.In h) (G : h.Ns mainGlobals mg)
    (a : PySem.W.nsIn K mainGlobals x = some (some (.ref f))) (l : K.lookup f = some ⟨oc, od, .func (PySem.W.fnOf x x (defArgs st) (defBody st) (defScope st) .none kV doc pm an cdv ct), osl⟩) (c : PySem.W.codeIn K cdv x = true) (k : PySem.W.keepIn K (.ref f) = true)
    (hb : ∀ (kV doc pm : Value) (an : Option Addr) (cdv ct : Value) (us : List Value), us.length = ps.length → bindArgs (PySem.W.fnOf x x (defArgs st) (defBody st) (defScope st) .none kV doc pm an cdv ct) ⟨us, []⟩ = pure (ps.zip us)) : Df K mg x ps st := by
  have F := fun_mk (st := st) l c k
  exact ⟨f, _, F, F.binds hb, PySem.W.mg_of X G a⟩
/-- the built-ins' names: none stands at the top -/
structure Bl (mg : Str → Option Value) : Prop where
  len : mg "len" = none
  all : mg "all" = none
  reversed : mg "reversed" = none
  tuple : mg "tuple" = none
  abs : mg "abs" = none
  range : mg "range" = none
  isinstance : mg "isinstance" = none
  int : mg "int" = none
  bool : mg "bool" = none
  ValueError : mg "ValueError" = none
  list : mg "list" = none
  sum : mg "sum" = none
  min : mg "min" = none
  enumerate : mg "enumerate" = none

/-! ### heaps -/
theorem same_upd {H : Hp} {p : Addr} {o : HO} (h : H p = none) : Same H (upd H p o) := fun b x e => by
  rw [upd_ne (ne_of_none e h)]
  exact e
theorem same_updO {H H' : Hp} {p : Addr} {o : HO} (s : Same H H') (h : H p = none) : Same H (upd H' p o) := fun b x e => by
  rw [upd_ne (ne_of_none e h)]
  exact s b x e
abbrev tI (ns : List Int) : HO := .tup (ns.map V.int)
abbrev lI (ns : List Int) : HO := .lst (ns.map V.int)
theorem small_of {n : Nat} (h : n ≤ 10000000) : n < sizeLine := by rw [sizeLine_eq]; omega
theorem small_le {n : Nat} (h : n ≤ 10000000) : n ≤ sizeLine := Nat.le_of_lt (small_of h)

/-! ### the error's class -/
/-- what the top says of NoNumber at C, under RowError at R -/
structure NoN (K : PySem.W.Frag) (mg : Str → Option Value) (C R : Addr) : Prop where
  g : mg "NoNumber" = some (.ref C)
  gR : mg "RowError" = some (.ref R)
  x : PySem.W.excIn K C [.type "ValueError", .type "Exception", .type "BaseException", .type "object"] "ValueError.__new__" = true
  k : PySem.W.keepIn K (.ref C) = true
  b : PySem.W.subIn K (.ref C) (.type "BaseException") = some true
  t : PySem.W.typeIn K (.ref C) = some (.type "type")
  bR : PySem.W.subIn K (.ref R) (.type "BaseException") = some true
  dR : PySem.W.hasDictIn K R = true
  tR : PySem.W.typeIn K (.ref R) = some (.type "type")
  sR : PySem.W.subIn K (.ref C) (.ref R) = some true
  ec : ExcC K C
  iV : PySem.W.kitOne K (.ref C) (.type "ValueError") = some true
  mV : mg "ValueError" = none
  mI : mg "isinstance" = none
theorem NoN.ex {K : PySem.W.Frag} {mg : Str → Option Value} {C R : Addr} (N : NoN K mg C R) : PySem.W.exmOne K (.ref C) (.ref R) = some true := PySem.W.exm_ref N.bR N.dR N.tR N.sR
theorem NoN.iC {K : PySem.W.Frag} {mg : Str → Option Value} {C R : Addr} (N : NoN K mg C R) : PySem.W.kitOne K (.ref C) (.ref C) = some true := by
  unfold PySem.W.kitOne
  rw [if_pos (by simp)]
theorem ps_no {X : Cx} {W : WX} {C R : Addr} {m : Str} {j : Nat} {p p2 pos pos' : Pos} (N : NoN X.K X.mg C R) (hc : X.calm = true) (tk : Takes X W) (hg : Gl X "NoNumber") :
    PS X (.Raise (some (.Call (.Name "NoNumber" p) [.Constant (.str m) j p2] [] pos)) none pos') (fun _ σ H => W (.ref C) none σ H) :=
  ps_raise hc tk (pmk_own PySem.F.excBase_ValueError N.x N.g N.k (raises_own N.b N.t) hg)

/-- isinstance(e, c) in a suite that holds an exception of any class -/
theorem pe_isE {X : Cx} {a C : Addr} {oe : Obj} {pn : List (Addr × Obj)} {cls : Value} {d : Option Addr} {x : Str} {e : Expr} {es : List Expr} {t : TA} {p pos : Pos} (EC : ExcC X.K C) (hz : Zc cls d oe) (hf : ∃ vs, oe.data = .fields vs)
    (hg : Gl (X.suite a ((a, oe) :: pn)) x) (hm : (X.suite a ((a, oe) :: pn)).mg x = none) (hv : bootBuiltins x = some (.builtin "isinstance")) (ha : PA (X.suite a ((a, oe) :: pn)) (e :: es) t) (hn : x ≠ "__name__" := by decide) (hdb : (x == ("__debug__" : Str)) = false := by decide)
    (he : starEach (e :: es) (X.suite a ((a, oe) :: pn)).env = (false, eval e (X.suite a ((a, oe) :: pn)).env) :: starEach es (X.suite a ((a, oe) :: pn)).env := by rfl) (hpl : (backTo pos (starEach es (X.suite a ((a, oe) :: pn)).env)).any (·.1) = false := by rfl) :
    PE (X.suite a ((a, oe) :: pn)) (.Call (.Name x p) (e :: es) [] pos) (fun σ H Q => cls = .ref C ∧ d = none ∧ tCB (rIsE X.K C a) t σ H Q) := by
  refine ⟨fun pins s σ H Q I h => ?_⟩
  obtain ⟨rfl, rfl, h⟩ := h
  exact (pe_callB (call_isE EC hz hf) hg hm hv ha hn hdb he hpl).run pins s σ H Q I h
theorem kit_vt {K : PySem.W.Frag} {C : Addr} {T : String} (m : PySem.W.kitMeta T = true) (h : PySem.W.subIn K (.ref C) (.type T) = some true) : PySem.W.kitOne K (.ref C) (.type T) = some true := by
  unfold PySem.W.kitOne
  split
  · rfl
  · show (if PySem.W.kitMeta T = true then PySem.W.subIn K (.ref C) (.type T) else none) = some true
    rw [if_pos m]
    exact h
theorem relV_ref {a : Addr} {u : Value} (h : RelV (.ref a) u) : u = .ref a := h
theorem relV_ty {n : String} {u : Value} (h : RelV (.ty n) u) : u = .type n := h

/-! ### numbers -/
/-- // of great numbers by any but 0 -/
def CDivWN (_ j : Int) : Prop := j ≠ 0 ∧ j.natAbs.log2 < 9000
theorem op_fdivWN {X : Cx} : OpR X (binaryOp .FloorDiv) (rI CDivWN fun i j => .int (i.fdiv j)) := opI fun _ _ _ _ _ _ _ hc q => floordiv_int hc.1 q (.inl (PyProof.noPylong_of_log2 hc.2))

/-! ### a statement, then the rest, with a word between them -/
def tMid (t u : TS) : TS := fun D σ H => ∃ Mid : L2.St → Hp → Prop, t { D with nx := Mid } σ H ∧ ∀ σ' H', Mid σ' H' → u D σ' H'
theorem pss_mid {X : Cx} {st : Stmt} {rest : List Stmt} {t u : TS} (h1 : PS X st t) (h2 : PSs X rest u) : PSs X (st :: rest) (tMid t u) := by
  refine ⟨fun pins s σ H D I h => ?_⟩
  obtain ⟨Mid, hm, hu⟩ := h
  refine wpAny_execs_cons (thn (h1.run pins s σ H { D with nx := Mid } I hm) fun f s1 q => ?_)
  cases f with
  | next =>
    obtain ⟨σ', H', I', q⟩ := q
    exact h2.run pins s1 σ' H' D I' (hu σ' H' q)
  | ret v => exact q
  | brk => exact q
  | cont => exact q

/-! ### slices -/
theorem cutV_from {xs : List V} {k : Nat} : cutV xs (some (k : Int)) none = xs.drop k := by
  unfold cutV
  rw [HT.sIx_nat xs.length 0 k, HT.sIx_none]
  by_cases h : k ≤ xs.length
  · rw [Nat.min_eq_left h]
    exact List.take_of_length_le (by rw [List.length_drop]; exact Nat.le_refl _)
  · rw [Nat.min_eq_right (by omega), Nat.sub_self, List.take_zero, List.drop_of_length_le (by omega)]
theorem cutV_to {xs : List V} {k : Nat} : cutV xs none (some (k : Int)) = xs.take k := by
  unfold cutV
  rw [HT.sIx_nat xs.length xs.length k, HT.sIx_none, List.drop_zero, Nat.sub_zero]
  by_cases h : k ≤ xs.length
  · rw [Nat.min_eq_left h]
  · rw [Nat.min_eq_right (by omega), List.take_of_length_le (Nat.le_refl _), List.take_of_length_le (by omega)]
theorem cutV_both {xs : List V} {j k : Nat} (h : j ≤ k) : cutV xs (some (j : Int)) (some (k : Int)) = (xs.drop j).take (k - j) := by
  unfold cutV
  rw [HT.sIx_nat xs.length xs.length k, HT.sIx_nat xs.length 0 j]
  by_cases h1 : k ≤ xs.length
  · rw [Nat.min_eq_left h1, Nat.min_eq_left (by omega)]
  · rw [Nat.min_eq_right (by omega)]
    by_cases h2 : j ≤ xs.length
    · rw [Nat.min_eq_left h2, List.take_of_length_le (by rw [List.length_drop]; exact Nat.le_refl _), List.take_of_length_le (by rw [List.length_drop]; omega)]
    · rw [Nat.min_eq_right (by omega), List.drop_of_length_le (Nat.le_refl _), List.drop_of_length_le (by omega), List.take_nil, List.take_nil]
theorem sIx_one {n d : Nat} : HT.sIx n d (some 1) = min 1 n := HT.sIx_nat n d 1
theorem sIx_neg {n d k : Nat} (h : 1 ≤ k) : HT.sIx n d (some (-(k : Int))) = n - k := by
  have h := HT.clip_eq (-(k : Int)) n d
  rw [if_pos (by omega)] at h
  omega
theorem cutV_but {xs : List V} {k : Nat} (h : 1 ≤ k) : cutV xs none (some (-(k : Int))) = xs.take (xs.length - k) := by
  unfold cutV
  rw [sIx_neg h, HT.sIx_none, List.drop_zero, Nat.sub_zero]
theorem atI_neg {xs : List V} {k : Nat} {v : V} (h : 1 ≤ k) (h2 : k ≤ xs.length) (e : xs[xs.length - k]? = some v) : atI xs (-(k : Int)) = some v := by
  unfold atI ixN
  rw [if_neg (by omega), if_pos (by omega)]
  show xs[(-(k : Int) + (xs.length : Int)).toNat]? = some v
  rw [show (-(k : Int) + (xs.length : Int)).toNat = xs.length - k by omega]
  exact e
theorem sIx_neg1 {n d : Nat} : HT.sIx n d (some (-1)) = n - 1 := by
  have h := HT.clip_eq (-1) n d
  rw [if_pos (by decide)] at h
  omega
theorem cutV_init {xs : List V} : cutV xs none (some (-1)) = xs.dropLast := by
  unfold cutV
  rw [sIx_neg1, HT.sIx_none, List.drop_zero, Nat.sub_zero, List.dropLast_eq_take]

/-! ### comprehensions that map -/
theorem yes_of {σ : L2.St} {H : Hp} {A B : Hp → Prop} (h : A H) : tYes σ H fun b H3 => if b = true then A H3 else B H3 := by
  show if true = true then A H else B H
  rw [if_pos rfl]
  exact h
theorem lc_mapL {K : PySem.W.Frag} {a : Addr} {xs ys : List V} {j : Nat} {te : TE} {vs : List Nat} {σ : L2.St} {H1 : Hp} {Qd : Addr → Hp → Prop} (hl : ys.length = xs.length) (hx : xs.length < sizeLine) (hA : SqL K H1 a xs) (hw : ∀ x, wipe ((wipe σ vs).set j (some x)) vs = wipe σ vs)
    (hs : ∀ (i : Nat) x y H Q, xs[i]? = some x → ys[i]? = some y → Same H1 H → (∀ H', Same H H' → Q y H') → te ((wipe σ vs).set j (some x)) H Q)
    (hd : ∀ D H, Same H1 H → H D = some (.lst ys) → H1 D = none → Qd D H) : ∀ D, H1 D = none →
    ∃ W : Nat → Nat → Hp → Prop, (∃ m, W 0 m (upd H1 D (.lst []))) ∧ ∀ i m H, W i m H →
      ((Itl K a).stop i H ∧ Qd D H) ∨ ((Itl K a).go i H ∧ ∃ Nx : Hp → Prop, (∀ H', Nx H' → ∃ m', m' < m ∧ W (i + 1) m' H') ∧ ∀ x H', (Itl K a).yld i H x H' → gName j x (wipe σ vs) H' fun σ2 H2 => wipe σ2 vs = wipe σ vs ∧ tYes σ2 H2 fun b H3 =>
        if b = true then te σ2 H3 fun y H4 => ∃ acc, H4 D = some (.lst acc) ∧ acc.length < sizeLine ∧ Nx (upd H4 D (.lst (acc ++ [y]))) else Nx H3) := fun D hD => by
  refine lc_list (K := K) (a := a) (xs := xs) (fun i H => Same H1 H ∧ H D = some (.lst (ys.take i))) ⟨same_upd hD, upd_same⟩ (fun i H _ h => h.1.seq hA) (fun i x H hi h => ?_) (fun H h => hd D H h.1 (by rw [h.2, ← hl, List.take_length]) hD)
  have hi' : i < ys.length := by
    rw [hl]
    exact (List.getElem?_eq_some_iff.mp hi).1
  refine ⟨hw x, yes_of (hs i x ys[i] H _ hi (List.getElem?_eq_getElem hi') h.1 fun H' s' => ⟨_, s' _ _ h.2, ?_, ?_, ?_⟩)⟩
  · rw [List.length_take]
    omega
  · exact same_updO (h.1.trans s') hD
  · rw [upd_same, List.take_add_one, List.getElem?_eq_getElem hi']
    rfl
theorem lc_mapT {K : PySem.W.Frag} {a : Addr} {xs ys : List V} {j : Nat} {te : TE} {vs : List Nat} {σ : L2.St} {H1 : Hp} {Qd : Addr → Hp → Prop} (hl : ys.length = xs.length) (hx : xs.length < sizeLine) (hA : H1 a = some (.tup xs)) (hw : ∀ x, wipe ((wipe σ vs).set j (some x)) vs = wipe σ vs)
    (hs : ∀ (i : Nat) x y H Q, xs[i]? = some x → ys[i]? = some y → Same H1 H → (∀ H', Same H H' → Q y H') → te ((wipe σ vs).set j (some x)) H Q)
    (hd : ∀ D H, Same H1 H → H D = some (.lst ys) → H1 D = none → Qd D H) : ∀ D, H1 D = none →
    ∃ W : Nat → Nat → Hp → Prop, (∃ m, W 0 m (upd H1 D (.lst []))) ∧ ∀ i m H, W i m H →
      ((Itt K a).stop i H ∧ Qd D H) ∨ ((Itt K a).go i H ∧ ∃ Nx : Hp → Prop, (∀ H', Nx H' → ∃ m', m' < m ∧ W (i + 1) m' H') ∧ ∀ x H', (Itt K a).yld i H x H' → gName j x (wipe σ vs) H' fun σ2 H2 => wipe σ2 vs = wipe σ vs ∧ tYes σ2 H2 fun b H3 =>
        if b = true then te σ2 H3 fun y H4 => ∃ acc, H4 D = some (.lst acc) ∧ acc.length < sizeLine ∧ Nx (upd H4 D (.lst (acc ++ [y]))) else Nx H3) := fun D hD => by
  refine lc_tup (K := K) (a := a) (xs := xs) (fun i H => Same H1 H ∧ H D = some (.lst (ys.take i))) ⟨same_upd hD, upd_same⟩ (fun i H _ h => .of (h.1 _ _ hA)) (fun i x H hi h => ?_) (fun H h => hd D H h.1 (by rw [h.2, ← hl, List.take_length]) hD)
  have hi' : i < ys.length := by
    rw [hl]
    exact (List.getElem?_eq_some_iff.mp hi).1
  refine ⟨hw x, yes_of (hs i x ys[i] H _ hi (List.getElem?_eq_getElem hi') h.1 fun H' s' => ⟨_, s' _ _ h.2, ?_, ?_, ?_⟩)⟩
  · rw [List.length_take]
    omega
  · exact same_updO (h.1.trans s') hD
  · rw [upd_same, List.take_add_one, List.getElem?_eq_getElem hi']
    rfl
/-! ### tuples and lists of ints: ==, !=, sum, in -/
theorem canAll_ints : ∀ ns : List Int, PyData.canLayAll0 (ns.map PyData.int) = true
  | [] => rfl
  | _ :: ns => by
    show (PyData.canLay0 (.int _) && PyData.canLayAll0 (ns.map PyData.int)) = true
    rw [canAll_ints ns]
    rfl
theorem depthAll_ints : ∀ ns : List Int, PyData.depthAll (ns.map PyData.int) = 0
  | [] => rfl
  | _ :: ns => by
    show max (PyData.depth (.int _)) (PyData.depthAll (ns.map PyData.int)) = 0
    rw [depthAll_ints ns]
    rfl
theorem sh_tup (ns : List Int) : SeqAt.shaped (.tuple (ns.map PyData.int)) = true := by
  unfold SeqAt.shaped
  rw [Bool.and_eq_true]
  refine ⟨canAll_ints ns, decide_eq_true ?_⟩
  show PyData.depthAll (ns.map PyData.int) + 1 ≤ 64
  rw [depthAll_ints]
  decide
theorem sh_lst (ns : List Int) : SeqAt.shaped (.list (ns.map PyData.int)) = true := by
  unfold SeqAt.shaped
  rw [Bool.and_eq_true]
  refine ⟨canAll_ints ns, decide_eq_true ?_⟩
  show PyData.depthAll (ns.map PyData.int) + 1 ≤ 64
  rw [depthAll_ints]
  decide
theorem eqvAll_ints : ∀ ns ms : List Int, PyData.eqvAll (ns.map PyData.int) (ms.map PyData.int) = decide (ns = ms)
  | [], [] => rfl
  | [], _ :: _ => rfl
  | _ :: _, [] => rfl
  | n :: ns, m :: ms => by
    show (n == m && PyData.eqvAll (ns.map PyData.int) (ms.map PyData.int)) = _
    rw [eqvAll_ints ns ms]
    by_cases h : n = m
    · subst h
      simp
    · simp [h]
theorem dp_ints {K : PySem.W.Frag} {H : Hp} : ∀ ns : List Int, DpAll K H (ns.map V.int) (ns.map PyData.int)
  | [] => .nil
  | n :: ns => .cons (.int n) (dp_ints ns)
def rEqT (K : PySem.W.Frag) : R2 := fun x y H Q => ∃ (a b : Addr) (ns ms : List Int), x = .ref a ∧ y = .ref b ∧ SqT K H a (ns.map V.int) ∧ SqT K H b (ms.map V.int) ∧ Q (.bl (decide (ns = ms))) H
def rNeT (K : PySem.W.Frag) : R2 := fun x y H Q => ∃ (a b : Addr) (ns ms : List Int), x = .ref a ∧ y = .ref b ∧ SqT K H a (ns.map V.int) ∧ SqT K H b (ms.map V.int) ∧ Q (.bl (!decide (ns = ms))) H
def rEqLI (K : PySem.W.Frag) : R2 := fun x y H Q => ∃ (a b : Addr) (ns ms : List Int), x = .ref a ∧ y = .ref b ∧ SqL K H a (ns.map V.int) ∧ SqL K H b (ms.map V.int) ∧ Q (.bl (decide (ns = ms))) H
def rNeLI (K : PySem.W.Frag) : R2 := fun x y H Q => ∃ (a b : Addr) (ns ms : List Int), x = .ref a ∧ y = .ref b ∧ SqL K H a (ns.map V.int) ∧ SqL K H b (ms.map V.int) ∧ Q (.bl (!decide (ns = ms))) H
section
variable {X : Cx} {k : Nat}
theorem op_eqT (hr : Room k X.A) : OpR X (compareOp .Eq) (rEqT X.K) := by
  intro pins s σ H x y v u Q I rx ry h
  obtain ⟨a, b, ns, ms, rfl, rfl, ha, hb, q⟩ := h
  refine op_eqD hr.units pins s σ H _ _ v u Q I rx ry ⟨_, _, .tup ha (dp_ints ns), .tup hb (dp_ints ms), sh_tup ns, sh_tup ms, ?_⟩
  show Q (.bl (PyData.eqvAll _ _)) H
  rw [eqvAll_ints]
  exact q
theorem op_neT (hr : Room k X.A) : OpR X (compareOp .NotEq) (rNeT X.K) := by
  intro pins s σ H x y v u Q I rx ry h
  obtain ⟨a, b, ns, ms, rfl, rfl, ha, hb, q⟩ := h
  refine op_neD hr.units pins s σ H _ _ v u Q I rx ry ⟨_, _, .tup ha (dp_ints ns), .tup hb (dp_ints ms), sh_tup ns, sh_tup ms, ?_⟩
  show Q (.bl (!PyData.eqvAll _ _)) H
  rw [eqvAll_ints]
  exact q
theorem op_eqLI (hr : Room k X.A) : OpR X (compareOp .Eq) (rEqLI X.K) := by
  intro pins s σ H x y v u Q I rx ry h
  obtain ⟨a, b, ns, ms, rfl, rfl, ha, hb, q⟩ := h
  refine op_eqD hr.units pins s σ H _ _ v u Q I rx ry ⟨_, _, .lst ha (dp_ints ns), .lst hb (dp_ints ms), sh_lst ns, sh_lst ms, ?_⟩
  show Q (.bl (PyData.eqvAll _ _)) H
  rw [eqvAll_ints]
  exact q
theorem op_neLI (hr : Room k X.A) : OpR X (compareOp .NotEq) (rNeLI X.K) := by
  intro pins s σ H x y v u Q I rx ry h
  obtain ⟨a, b, ns, ms, rfl, rfl, ha, hb, q⟩ := h
  refine op_neD hr.units pins s σ H _ _ v u Q I rx ry ⟨_, _, .lst ha (dp_ints ns), .lst hb (dp_ints ms), sh_lst ns, sh_lst ms, ?_⟩
  show Q (.bl (!PyData.eqvAll _ _)) H
  rw [eqvAll_ints]
  exact q
/-- sum(t) of a tuple of ints -/
def rSumT (K : PySem.W.Frag) : List V → Hp → VK → Prop := fun vs H Q => ∃ (a : Addr) (ns : List Int), vs = [V.ref a] ∧ SqT K H a (ns.map V.int) ∧ Q (.int ns.sum) H
theorem cr_sumT (hc : X.calm = true) : CallR X (.builtin "sum") (rSumT X.K) := by
  intro pins s σ H vs us Q I r h
  obtain ⟨a, ns, rfl, hs, q⟩ := h
  obtain ⟨its, rv, ht, _⟩ := I.tuple hs
  rw [Vals.ref1 r]
  have hi := rv.ints
  obtain ⟨xs, e⟩ := hi.allInts.items
  have hn : numsOf (intItems xs).toList = ns := by rw [← e]; exact hi.numsOf
  rw [nums_intItems] at hn
  rw [e] at ht
  refine PySem.W.ktm_sumG (I.ok.hd hc) ht fun h' tk t' hk => ⟨.int _, H, I.kept hk, ⟨_, rfl⟩, ?_⟩
  rw [preSum_eq, List.take_of_length_le (by simp), hn]
  exact q
end
/-- x in xs within a comprehension, the written part named -/
theorem op_inK {X : Cx} (K : PySem.W.Frag) (h : X.K = K := by rfl) : OpR X (compareOp .In) (rIn K false) := by
  subst h
  exact op_in_seq
theorem in01 (z : Int) : inV (.int z) [V.int 0, V.int 1] = decide (z = 0 ∨ z = 1) := by
  show ((0 : Int) == z || ((1 : Int) == z || false)) = _
  by_cases h0 : z = 0
  · subst h0
    rfl
  · by_cases h1 : z = 1
    · subst h1
      rfl
    · rw [decide_eq_false (by omega), Bool.or_false, Bool.or_eq_false_iff]
      exact ⟨beq_false_of_ne (fun e => h0 e.symm), beq_false_of_ne (fun e => h1 e.symm)⟩
/-- isinstance(t, tuple) -/
theorem isT_tup {K : PySem.W.Frag} {H : Hp} {a : Addr} {xs : List V} (e : H a = some (.tup xs)) : TyX K H (.ref a) (.type "tuple") := .base (.tup e)
theorem isT_self {K : PySem.W.Frag} {t : Value} : PySem.W.kitOne K t t = some true := by
  unfold PySem.W.kitOne
  rw [if_pos (by simp)]

/-- what every law promises -/
def sp_law (K : PySem.W.Frag) : Sp := fun vs H Q _ => ∃ (a : Addr) (ns : List Int), vs = [.ref a] ∧ SqL K H a (ns.map V.int) ∧ ns.length ≤ 63 ∧ ∀ H', Q (.bl true) H'
end RR
/-! RRM: fractions, rows, ways: plain mathematics. -/
namespace RR

/-! ### the greatest common divisor -/
def dv (a b : Int) : Int := (Int.gcd a b : Int)
theorem gcd_step {x y : Int} (hx : 0 ≤ x) (hy : 0 < y) : Int.gcd y (x % y) = Int.gcd x y := by
  have h1 := Int.emod_nonneg x (show y ≠ 0 by omega)
  obtain ⟨a, rfl⟩ := Int.eq_ofNat_of_zero_le hx
  obtain ⟨b, rfl⟩ := Int.eq_ofNat_of_zero_le (show 0 ≤ y by omega)
  rw [← Int.natCast_emod]
  show Nat.gcd b (a % b) = Nat.gcd a b
  rw [Nat.gcd_comm a b, Nat.gcd_rec b a, Nat.gcd_comm]
theorem gcd_abs (a b : Int) : Int.gcd (if a < 0 then -a else a) (if b < 0 then -b else b) = Int.gcd a b := by
  split <;> split <;> simp only [Int.gcd_neg, Int.neg_gcd]
theorem gcd_end {x y : Int} (hx : 0 ≤ x) (hy : ¬ 0 < y) (h0 : 0 ≤ y) : x = (Int.gcd x y : Int) := by
  have e : y = 0 := by omega
  subst e
  rw [Int.gcd_zero_right]
  omega
theorem dv_nonneg (a b : Int) : 0 ≤ dv a b := Int.natCast_nonneg _
theorem dv_dvd_left (a b : Int) : dv a b ∣ a := Int.gcd_dvd_left a b
theorem dv_dvd_right (a b : Int) : dv a b ∣ b := Int.gcd_dvd_right a b
theorem dv_pos_right {a b : Int} (h : b ≠ 0) : 0 < dv a b := by
  have h1 : 0 < Int.gcd a b := Int.gcd_pos_of_ne_zero_right a h
  unfold dv
  omega
theorem dv_pos_left {a b : Int} (h : a ≠ 0) : 0 < dv a b := by
  have h1 : 0 < Int.gcd a b := Int.gcd_pos_of_ne_zero_left b h
  unfold dv
  omega
theorem dv_comm (a b : Int) : dv a b = dv b a := by
  unfold dv
  rw [Int.gcd_comm]
theorem dvd_dv {k a b : Int} (h1 : k ∣ a) (h2 : k ∣ b) : k ∣ dv a b := Int.dvd_coe_gcd h1 h2
theorem fdiv_neg_dvd {a g : Int} (h : g ∣ a) (hg : g ≠ 0) : a.fdiv (-g) = -(a / g) := by
  obtain ⟨k, rfl⟩ := h
  rw [Int.mul_ediv_cancel_left _ hg, show g * k = (-g) * (-k) by rw [Int.neg_mul_neg], Int.mul_fdiv_cancel_left _ (by omega)]
theorem neg_ediv_dvd {a g : Int} (h : g ∣ a) : (-a) / g = -(a / g) := Int.neg_ediv_of_dvd h
/-- the fraction u divided by l -/
def low (u l : Int) : Int × Int := if l < 0 then ((-u) / dv u l, (-l) / dv u l) else (u / dv u l, l / dv u l)
theorem dv_div {a b : Int} (h : 0 < dv a b) : dv (a / dv a b) (b / dv a b) = 1 := by
  have h1 : 0 < Int.gcd a b := by
    unfold dv at h
    omega
  have h2 := Int.gcd_ediv_gcd_ediv_gcd h1
  unfold dv
  omega
theorem dv_neg_left (a b : Int) : dv (-a) b = dv a b := by
  unfold dv
  rw [Int.neg_gcd]
theorem dv_neg_right (a b : Int) : dv a (-b) = dv a b := by
  unfold dv
  rw [Int.gcd_neg]
/-- what lowest gives, by products: the fraction is lowest and stands for the same -/
structure IsLow (u l p q : Int) : Prop where
  pos : 0 < q
  one : dv p q = 1
  cross : u * q = p * l
theorem low_is {u l : Int} (h : l ≠ 0) : IsLow u l (low u l).1 (low u l).2 := by
  have hg := dv_pos_right (a := u) h
  obtain ⟨a, ha⟩ := dv_dvd_left u l
  obtain ⟨b, hb⟩ := dv_dvd_right u l
  have hg0 : dv u l ≠ 0 := by omega
  have e1 : u / dv u l = a := by conv => lhs; lhs; rw [ha]
                                 exact Int.mul_ediv_cancel_left _ hg0
  have e2 : l / dv u l = b := by conv => lhs; lhs; rw [hb]
                                 exact Int.mul_ediv_cancel_left _ hg0
  have h1 := dv_div hg
  rw [e1, e2] at h1
  unfold low
  split
  · rename_i hl
    rw [neg_ediv_dvd (dv_dvd_left u l), neg_ediv_dvd (dv_dvd_right u l), e1, e2]
    refine ⟨?_, ?_, ?_⟩
    · have : ¬ 0 ≤ b := fun hb0 => by
        have := Int.mul_nonneg (Int.le_of_lt hg) hb0
        omega
      show 0 < -b
      omega
    · show dv (-a) (-b) = 1
      rw [dv_neg_left, dv_neg_right, h1]
    · show u * -b = -a * l
      generalize dv u l = g at *
      subst ha hb
      grind
  · rename_i hl
    rw [e1, e2]
    refine ⟨?_, h1, ?_⟩
    · have : ¬ b ≤ 0 := fun hb0 => by
        have := Int.mul_nonneg (Int.le_of_lt hg) (show 0 ≤ -b by omega)
        rw [Int.mul_neg] at this
        omega
      show 0 < b
      omega
    · show u * b = a * l
      generalize dv u l = g at *
      subst ha hb
      grind
/-- coprime: a divisor of a product -/
theorem dvd_of_mul {k a b : Int} (h : dv k a = 1) (h2 : k ∣ a * b) : k ∣ b := by
  have h1 : Int.gcd k a = 1 := by
    unfold dv at h
    omega
  rw [← Int.natAbs_dvd_natAbs] at h2 ⊢
  rw [Int.natAbs_mul] at h2
  exact Nat.Coprime.dvd_of_dvd_mul_left h1 h2
theorem low_unique {p q r s : Int} (h1 : 0 < q) (h2 : dv p q = 1) (h3 : 0 < s) (h4 : dv r s = 1) (h : p * s = r * q) : p = r ∧ q = s := by
  have a1 : q ∣ s := by
    refine dvd_of_mul (a := p) (by rw [dv_comm]; exact h2) ⟨r, ?_⟩
    rw [h, Int.mul_comm]
  have a2 : s ∣ q := by
    refine dvd_of_mul (a := r) (by rw [dv_comm]; exact h4) ⟨p, ?_⟩
    rw [← h, Int.mul_comm]
  have e : q = s := Int.dvd_antisymm (by omega) (by omega) a1 a2
  subst e
  exact ⟨Int.eq_of_mul_eq_mul_right (by omega) h, rfl⟩
theorem IsLow.eq {u l p q : Int} (h : l ≠ 0) (x : IsLow u l p q) : low u l = (p, q) := by
  have y := low_is (u := u) h
  obtain ⟨x1, x2, x3⟩ := x
  obtain ⟨y1, y2, y3⟩ := y
  have e : p * (low u l).2 = (low u l).1 * q := by
    have : l * (p * (low u l).2) = l * ((low u l).1 * q) := by grind
    exact Int.eq_of_mul_eq_mul_left h this
  obtain ⟨e1, e2⟩ := low_unique x1 x2 y1 y2 e
  rw [e1, e2]
theorem low_self {p q : Int} (h : 0 < q) (h2 : dv p q = 1) : low p q = (p, q) := IsLow.eq (by omega) ⟨h, h2, rfl⟩
theorem low_le {u l : Int} (h : 0 < l) : (low u l).2 ≤ l := by
  have hg := dv_pos_right (a := u) (show l ≠ 0 by omega)
  unfold low
  rw [if_neg (by omega)]
  exact Int.ediv_le_self _ (by omega)
theorem low_abs {u l : Int} (h : l ≠ 0) : (low u l).1.natAbs ≤ u.natAbs ∧ (low u l).2.natAbs ≤ l.natAbs := by
  have hg := dv_pos_right (a := u) h
  have k : ∀ z : Int, dv u l ∣ z → (z / dv u l).natAbs ≤ z.natAbs := fun z hz => by
    obtain ⟨c, rfl⟩ := hz
    rw [Int.mul_ediv_cancel_left _ (by omega), Int.natAbs_mul]
    exact Nat.le_mul_of_pos_left _ (by omega)
  unfold low
  split
  · rw [neg_ediv_dvd (dv_dvd_left u l), neg_ediv_dvd (dv_dvd_right u l)]
    exact ⟨by rw [Int.natAbs_neg]; exact k _ (dv_dvd_left u l), by rw [Int.natAbs_neg]; exact k _ (dv_dvd_right u l)⟩
  · exact ⟨k _ (dv_dvd_left u l), k _ (dv_dvd_right u l)⟩

/-! ### rows -/
/-- what a row stands for -/
def st : List Int → Int × Int
  | [] => (1, 0)
  | x :: r => (x * (st r).1 + (st r).2, (st r).1)
/-- whether a tuple is a row for fraction_of -/
def isRow (xs : List Int) : Bool := !xs.isEmpty && (xs.drop 1).all fun y => decide (1 ≤ y)

/-! ### ways -/
/-- the way to u divided by l -/
def way (u l : Int) : List Int := if h : 1 ≤ u ∧ 1 ≤ l ∧ u ≠ l then (if u < l then 0 :: way u (l - u) else 1 :: way (u - l) l) else []
termination_by (u + l).toNat
decreasing_by all_goals omega
theorem way_eq (u : Int) : way u u = [] := by
  unfold way
  rw [dif_neg (fun h => h.2.2 rfl)]
theorem way_lo {u l : Int} (h1 : 1 ≤ u) (h2 : u < l) : way u l = 0 :: way u (l - u) := by
  conv => lhs; unfold way
  rw [dif_pos ⟨h1, by omega, by omega⟩, if_pos h2]
theorem way_hi {u l : Int} (h1 : 1 ≤ l) (h2 : l < u) : way u l = 1 :: way (u - l) l := by
  conv => lhs; unfold way
  rw [dif_pos ⟨by omega, h1, by omega⟩, if_neg (by omega)]
theorem way_len {u l : Int} (h1 : 1 ≤ u) (h2 : 1 ≤ l) : ((way u l).length : Int) + 2 ≤ u + l := by
  by_cases h : u = l
  · subst h
    rw [way_eq]
    show (0 : Int) + 2 ≤ _
    omega
  · by_cases h3 : u < l
    · have ih := way_len (u := u) (l := l - u) h1 (by omega)
      rw [way_lo h1 h3, List.length_cons]
      omega
    · have ih := way_len (u := u - l) (l := l) (by omega) h2
      rw [way_hi h2 (by omega), List.length_cons]
      omega
termination_by (u + l).toNat
decreasing_by all_goals omega
/-- where a way leads -/
def bw : List Int → Int × Int
  | [] => (1, 1)
  | s :: w => if s = 0 then ((bw w).1, (bw w).1 + (bw w).2) else ((bw w).1 + (bw w).2, (bw w).2)
theorem bw_pos : ∀ w : List Int, 1 ≤ (bw w).1 ∧ 1 ≤ (bw w).2
  | [] => ⟨Int.le_refl 1, Int.le_refl 1⟩
  | s :: w => by
    have ih := bw_pos w
    unfold bw
    split
    · exact ⟨ih.1, by show 1 ≤ (bw w).1 + (bw w).2; omega⟩
    · exact ⟨by show 1 ≤ (bw w).1 + (bw w).2; omega, ih.2⟩
theorem bw_big : ∀ w : List Int, (bw w).1 ≤ 2 ^ w.length ∧ (bw w).2 ≤ 2 ^ w.length
  | [] => ⟨Int.le_refl 1, Int.le_refl 1⟩
  | s :: w => by
    have ih := bw_big w
    have p := bw_pos w
    unfold bw
    rw [List.length_cons, Int.pow_succ]
    split
    · exact ⟨by show (bw w).1 ≤ _; omega, by show (bw w).1 + (bw w).2 ≤ _; omega⟩
    · exact ⟨by show (bw w).1 + (bw w).2 ≤ _; omega, by show (bw w).2 ≤ _; omega⟩
theorem bw_lo (w : List Int) : bw (0 :: w) = ((bw w).1, (bw w).1 + (bw w).2) := by
  conv => lhs; unfold bw
  rw [if_pos rfl]
theorem bw_hi (w : List Int) : bw (1 :: w) = ((bw w).1 + (bw w).2, (bw w).2) := by
  conv => lhs; unfold bw
  rw [if_neg (by decide)]
theorem way_bw : ∀ w : List Int, (∀ s ∈ w, s = 0 ∨ s = 1) → way (bw w).1 (bw w).2 = w
  | [], _ => way_eq 1
  | s :: w, h => by
    have ih := way_bw w fun x hx => h x (List.mem_cons_of_mem _ hx)
    have p := bw_pos w
    rcases h s List.mem_cons_self with rfl | rfl
    · rw [bw_lo]
      show way (bw w).1 ((bw w).1 + (bw w).2) = _
      rw [way_lo p.1 (by omega), show (bw w).1 + (bw w).2 - (bw w).1 = (bw w).2 by omega, ih]
    · rw [bw_hi]
      show way ((bw w).1 + (bw w).2) (bw w).2 = _
      rw [way_hi p.2 (by omega), show (bw w).1 + (bw w).2 - (bw w).2 = (bw w).1 by omega, ih]
theorem dv_sub_right {u l : Int} : dv u (l - u) = dv u l := by
  unfold dv
  rw [Int.gcd_sub_self_right]
theorem dv_add_right {u l : Int} : dv u (u + l) = dv u l := by
  unfold dv
  rw [Int.gcd_self_add_right]
theorem dv_sub_left {u l : Int} : dv (u - l) l = dv u l := by
  unfold dv
  rw [Int.gcd_sub_self_left]
theorem dv_add_left {u l : Int} : dv (u + l) l = dv u l := by
  unfold dv
  rw [Int.gcd_add_self_left]
theorem dv_self {u : Int} (h : 0 ≤ u) : dv u u = u := by
  unfold dv
  rw [Int.gcd_self]
  omega
theorem bw_low : ∀ w : List Int, dv (bw w).1 (bw w).2 = 1
  | [] => by decide
  | s :: w => by
    have ih := bw_low w
    unfold bw
    split
    · show dv (bw w).1 ((bw w).1 + (bw w).2) = 1
      rw [dv_add_right, ih]
    · show dv ((bw w).1 + (bw w).2) (bw w).2 = 1
      rw [dv_add_left, ih]
theorem bw_way {u l : Int} (h1 : 1 ≤ u) (h2 : 1 ≤ l) (h : dv u l = 1) : bw (way u l) = (u, l) := by
  by_cases e : u = l
  · subst e
    rw [dv_self (by omega)] at h
    subst h
    rw [way_eq]
    rfl
  · by_cases h3 : u < l
    · have ih := bw_way (u := u) (l := l - u) h1 (by omega) (by rw [dv_sub_right, h])
      rw [way_lo h1 h3, bw_lo, ih]
      show (u, u + (l - u)) = (u, l)
      rw [show u + (l - u) = l by omega]
    · have ih := bw_way (u := u - l) (l := l) (by omega) h2 (by rw [dv_sub_left, h])
      rw [way_hi h2 (by omega), bw_hi, ih]
      show (u - l + l, l) = (u, l)
      rw [show u - l + l = u by omega]
termination_by (u + l).toNat
decreasing_by all_goals omega
theorem way_01 {u l : Int} : ∀ s ∈ way u l, s = 0 ∨ s = 1 := by
  unfold way
  split
  · rename_i h
    obtain ⟨h1, h2, h3⟩ := h
    split
    · intro s hs
      rcases List.mem_cons.mp hs with rfl | hs
      · exact .inl rfl
      · exact way_01 s hs
    · intro s hs
      rcases List.mem_cons.mp hs with rfl | hs
      · exact .inr rfl
      · exact way_01 s hs
  · intro s hs
    cases hs
termination_by (u + l).toNat
decreasing_by all_goals omega
/-- two bounds, and the rest of the way between -/
theorem bw_step {w : List Int} {s a b c d X Y : Int} (h : X = a * (bw (s :: w)).2 + c * (bw (s :: w)).1) (h2 : Y = b * (bw (s :: w)).2 + d * (bw (s :: w)).1) :
    if s = 0 then X = a * (bw w).2 + (a + c) * (bw w).1 ∧ Y = b * (bw w).2 + (b + d) * (bw w).1 else X = (a + c) * (bw w).2 + c * (bw w).1 ∧ Y = (b + d) * (bw w).2 + d * (bw w).1 := by
  unfold bw at h h2
  split
  · rename_i e
    rw [if_pos e] at h h2
    exact ⟨by rw [h]; grind, by rw [h2]; grind⟩
  · rename_i e
    rw [if_neg e] at h h2
    exact ⟨by rw [h]; grind, by rw [h2]; grind⟩

/-! ### rows by division -/
/-- the row of u divided by l -/
def row (u l : Int) : List Int := if 0 < l then (u / l) :: row l (u % l) else []
termination_by l.toNat
decreasing_by
  have h1 := Int.emod_lt_of_pos u (show 0 < l by assumption)
  omega
theorem row_zero {u l : Int} (h : ¬ 0 < l) : row u l = [] := by
  unfold row
  rw [if_neg h]
theorem row_cons {u l : Int} (h : 0 < l) : row u l = (u / l) :: row l (u % l) := by
  conv => lhs; unfold row
  rw [if_pos h]
theorem row_len {u l : Int} (h : 0 ≤ l) : ((row u l).length : Int) ≤ l + 1 := by
  by_cases h0 : 0 < l
  · have h1 := Int.emod_lt_of_pos u h0
    have h2 := Int.emod_nonneg u (show l ≠ 0 by omega)
    have ih := row_len (u := l) (l := u % l) h2
    rw [row_cons h0, List.length_cons]
    omega
  · rw [row_zero h0]
    show (0 : Int) ≤ _
    omega
termination_by l.toNat
decreasing_by omega
theorem sum_swap {u l : Int} (h1 : 0 < u) (h2 : 0 < l) : (row u l).sum = (row l u).sum := by
  by_cases e : u = l
  · rw [e]
  · by_cases h : u < l
    · rw [row_cons h2, Int.ediv_eq_zero_of_lt (by omega) h, Int.emod_eq_of_lt (by omega) h, List.sum_cons, Int.zero_add]
    · rw [row_cons h1, Int.ediv_eq_zero_of_lt (by omega) (by omega), Int.emod_eq_of_lt (by omega) (by omega), List.sum_cons, Int.zero_add]
theorem sum_add {u l : Int} (h : 0 < l) : (row (u + l) l).sum = 1 + (row u l).sum := by
  rw [row_cons h, row_cons h, List.sum_cons, List.sum_cons, Int.add_emod_right, Int.add_ediv_of_dvd_right (Int.dvd_refl l), Int.ediv_self (by omega)]
  omega
theorem row_sum {u l : Int} (h1 : 1 ≤ u) (h2 : 1 ≤ l) (h : dv u l = 1) : (row u l).sum = ((way u l).length : Int) + 1 := by
  by_cases e : u = l
  · subst e
    rw [dv_self (by omega)] at h
    subst h
    rw [way_eq, row_cons (by decide), row_zero (by decide)]
    decide
  · by_cases h3 : u < l
    · have ih := row_sum (u := u) (l := l - u) h1 (by omega) (by rw [dv_sub_right, h])
      rw [way_lo h1 h3, List.length_cons, sum_swap (by omega) (by omega), show l = (l - u) + u by omega, sum_add (by omega), ← sum_swap (by omega) (by omega)]
      have e2 : l - u + u - u = l - u := by omega
      rw [e2, ih]
      omega
    · have ih := row_sum (u := u - l) (l := l) (by omega) h2 (by rw [dv_sub_left, h])
      have e2 : u = (u - l) + l := by omega
      rw [way_hi h2 (by omega), List.length_cons, e2, sum_add (by omega), ih]
      have e3 : u - l + l - l = u - l := by omega
      rw [e3]
      omega
termination_by (u + l).toNat
decreasing_by all_goals omega
/-! ### what a row stands for, and back -/
theorem dv_mod {u l : Int} : dv l (u % l) = dv u l := by
  have h := Int.emod_add_mul_ediv u l
  unfold dv
  conv => rhs; rw [← h]
  rw [Int.gcd_comm (u % l + l * (u / l)) l, Int.mul_comm, Int.gcd_add_mul_right_right]
theorem dv_zero {u : Int} (h : 0 ≤ u) : dv u 0 = u := by
  unfold dv
  rw [Int.gcd_zero_right]
  omega
theorem st_row {u l : Int} (h : 0 ≤ l) (h0 : 0 < l ∨ u = 1) (h1 : dv u l = 1) : st (row u l) = (u, l) := by
  by_cases hl : 0 < l
  · have h2 := Int.emod_lt_of_pos u hl
    have h3 := Int.emod_nonneg u (show l ≠ 0 by omega)
    have h4 : dv l (u % l) = 1 := by rw [dv_mod, h1]
    have ih := st_row (u := l) (l := u % l) h3 (by
      by_cases z : 0 < u % l
      · exact .inl z
      · right
        have e : u % l = 0 := by omega
        rw [e, dv_zero h] at h4
        exact h4) h4
    rw [row_cons hl]
    show ((u / l) * (st (row l (u % l))).1 + (st (row l (u % l))).2, (st (row l (u % l))).1) = _
    rw [ih]
    show ((u / l) * l + u % l, l) = (u, l)
    rw [Int.ediv_mul_add_emod]
  · rw [row_zero hl]
    rcases h0 with h0 | h0
    · exact absurd h0 hl
    · rw [h0, show l = 0 by omega]
      rfl
termination_by l.toNat
decreasing_by omega
theorem row_pos {u l : Int} (h : 0 ≤ l) (h1 : l < u) : ∀ y ∈ row u l, 1 ≤ y := by
  intro y hy
  by_cases hl : 0 < l
  · have h2 := Int.emod_lt_of_pos u hl
    have h3 := Int.emod_nonneg u (show l ≠ 0 by omega)
    rw [row_cons hl] at hy
    rcases List.mem_cons.mp hy with rfl | hy
    · exact (Int.le_ediv_iff_mul_le hl).mpr (by omega)
    · exact row_pos h3 h2 y hy
  · rw [row_zero hl] at hy
    cases hy
termination_by l.toNat
decreasing_by omega
theorem row_last {u l : Int} (h : 0 < l) (h1 : l < u) : ∀ y, (row u l).getLast? = some y → 2 ≤ y := by
  intro y hy
  have h2 := Int.emod_lt_of_pos u h
  have h3 := Int.emod_nonneg u (show l ≠ 0 by omega)
  rw [row_cons h] at hy
  by_cases hz : 0 < u % l
  · have e : row l (u % l) = (l / (u % l)) :: row (u % l) (l % (u % l)) := row_cons hz
    rw [e, List.getLast?_cons_cons, ← e] at hy
    exact row_last hz h2 y hy
  · rw [row_zero hz] at hy
    have e : u / l = y := Option.some.inj hy
    have h4 := Int.ediv_mul_add_emod u l
    rw [← e]
    by_cases h5 : 2 ≤ u / l
    · exact h5
    · exfalso
      have h6 : (u / l) * l ≤ 1 * l := Int.mul_le_mul_of_nonneg_right (by omega) (by omega)
      omega
termination_by l.toNat
decreasing_by omega
theorem row_ne {u l : Int} (h : 0 < l) : row u l ≠ [] := by
  rw [row_cons h]
  exact List.cons_ne_nil _ _
theorem row_tail {u l : Int} (h : 0 < l) : ∀ y ∈ (row u l).drop 1, 1 ≤ y := by
  rw [row_cons h]
  exact row_pos (Int.emod_nonneg u (by omega)) (Int.emod_lt_of_pos u h)
theorem row_last2 {u l : Int} (h : 0 < l) (h2 : 2 ≤ (row u l).length) : ∀ y, (row u l).getLast? = some y → 2 ≤ y := by
  intro y hy
  rw [row_cons h] at hy h2
  by_cases hz : 0 < u % l
  · have e : row l (u % l) = (l / (u % l)) :: row (u % l) (l % (u % l)) := row_cons hz
    rw [e, List.getLast?_cons_cons, ← e] at hy
    exact row_last hz (Int.emod_lt_of_pos u h) y hy
  · rw [row_zero hz] at h2
    simp at h2
theorem row_len2 {u l : Int} (n : Nat) (h : 0 ≤ l) (hn : l < 2 ^ n) : (row u l).length ≤ 2 * n + 1 := by
  induction n generalizing u l with
  | zero =>
    rw [row_zero (by simp at hn; omega)]
    exact Nat.zero_le _
  | succ n ih =>
    by_cases hl : 0 < l
    · have h2 := Int.emod_lt_of_pos u hl
      have h3 := Int.emod_nonneg u (show l ≠ 0 by omega)
      rw [row_cons hl, List.length_cons]
      by_cases hz : 0 < u % l
      · have h4 := Int.emod_lt_of_pos l hz
        have h5 := Int.emod_nonneg l (show u % l ≠ 0 by omega)
        have h6 := Int.ediv_mul_add_emod l (u % l)
        have h7 : 1 ≤ l / (u % l) := (Int.le_ediv_iff_mul_le hz).mpr (by omega)
        have h8 : 1 * (u % l) ≤ l / (u % l) * (u % l) := Int.mul_le_mul_of_nonneg_right h7 (by omega)
        have := ih (u := u % l) (l := l % (u % l)) h5 (by rw [Int.pow_succ] at hn; omega)
        rw [row_cons hz, List.length_cons]
        omega
      · rw [row_zero hz]
        show 0 + 1 ≤ _
        omega
    · rw [row_zero hl]
      exact Nat.zero_le _
/-- of a canonical rest -/
theorem row_st_rest : ∀ s : List Int, s ≠ [] → (∀ y ∈ s, 1 ≤ y) → (∀ y, s.getLast? = some y → 2 ≤ y) → 0 < (st s).2 ∧ (st s).2 < (st s).1 ∧ row (st s).1 (st s).2 = s
  | [], h, _, _ => absurd rfl h
  | [y], _, _, h2 => by
    have hy := h2 y rfl
    show 0 < (1 : Int) ∧ (1 : Int) < y * 1 + 0 ∧ row (y * 1 + 0) 1 = [y]
    refine ⟨by decide, by omega, ?_⟩
    rw [Int.mul_one, Int.add_zero, row_cons (by decide), Int.ediv_one, row_zero (by rw [Int.emod_one]; decide)]
  | y :: z :: s, _, h1, h2 => by
    obtain ⟨a, b, c⟩ := row_st_rest (z :: s) (List.cons_ne_nil _ _) (fun x hx => h1 x (List.mem_cons_of_mem _ hx)) (fun x hx => h2 x (by rw [List.getLast?_cons_cons]; exact hx))
    have hy := h1 y List.mem_cons_self
    generalize hst : st (z :: s) = ul at *
    obtain ⟨u, l⟩ := ul
    have e : st (y :: z :: s) = (y * u + l, u) := by
      show (y * (st (z :: s)).1 + (st (z :: s)).2, (st (z :: s)).1) = _
      rw [hst]
    rw [e]
    have a' : 0 < l := a
    have b' : l < u := b
    have c' : row u l = z :: s := c
    show 0 < u ∧ u < y * u + l ∧ row (y * u + l) u = y :: z :: s
    have h3 : 1 * u ≤ y * u := Int.mul_le_mul_of_nonneg_right hy (by omega)
    refine ⟨by omega, by omega, ?_⟩
    have e1 : (y * u + l) / u = y := by
      rw [Int.add_comm, Int.add_mul_ediv_right _ _ (by omega), Int.ediv_eq_zero_of_lt (by omega) b', Int.zero_add]
    have e2 : (y * u + l) % u = l := by
      rw [Int.add_comm, Int.add_mul_emod_self_right, Int.emod_eq_of_lt (by omega) b']
    rw [row_cons (by omega), e1, e2, c']
theorem row_st (x : Int) (s : List Int) (h1 : ∀ y ∈ s, 1 ≤ y) (h2 : s ≠ [] → ∀ y, s.getLast? = some y → 2 ≤ y) : 0 < (st (x :: s)).2 ∧ row (st (x :: s)).1 (st (x :: s)).2 = x :: s := by
  cases s with
  | nil =>
    show 0 < (1 : Int) ∧ row (x * 1 + 0) 1 = [x]
    refine ⟨by decide, ?_⟩
    rw [Int.mul_one, Int.add_zero, row_cons (by decide), Int.ediv_one, row_zero (by rw [Int.emod_one]; decide)]
  | cons z s =>
    obtain ⟨a, b, c⟩ := row_st_rest (z :: s) (List.cons_ne_nil _ _) h1 (h2 (List.cons_ne_nil _ _))
    generalize hst : st (z :: s) = ul at *
    obtain ⟨u, l⟩ := ul
    have e : st (x :: z :: s) = (x * u + l, u) := by
      show (x * (st (z :: s)).1 + (st (z :: s)).2, (st (z :: s)).1) = _
      rw [hst]
    rw [e]
    have a' : 0 < l := a
    have b' : l < u := b
    have c' : row u l = z :: s := c
    show 0 < u ∧ row (x * u + l) u = x :: z :: s
    have e1 : (x * u + l) / u = x := by
      rw [Int.add_comm, Int.add_mul_ediv_right _ _ (by omega), Int.ediv_eq_zero_of_lt (by omega) b', Int.zero_add]
    have e2 : (x * u + l) % u = l := by
      rw [Int.add_comm, Int.add_mul_emod_self_right, Int.emod_eq_of_lt (by omega) b']
    exact ⟨by omega, by rw [row_cons (by omega), e1, e2, c']⟩
/-- a last 1 goes into the one ahead -/
theorem st_merge : ∀ (s : List Int) (y : Int), st (s ++ [y, 1]) = st (s ++ [y + 1])
  | [], y => by
    show (y * (1 * 1 + 0) + 1, (1 * 1 + 0 : Int)) = ((y + 1) * 1 + 0, 1)
    rw [show (1 * 1 + 0 : Int) = 1 from rfl, Int.mul_one, Int.mul_one, Int.add_zero]
  | x :: s, y => by
    show (x * (st (s ++ [y, 1])).1 + (st (s ++ [y, 1])).2, (st (s ++ [y, 1])).1) = _
    rw [st_merge s y]
    rfl
theorem ediv_abs {u l : Int} (h : 0 < l) : (u / l).natAbs ≤ u.natAbs := by
  have h1 := Int.ediv_mul_add_emod u l
  have h2 := Int.emod_lt_of_pos u h
  have h3 := Int.emod_nonneg u (show l ≠ 0 by omega)
  by_cases hq : 0 ≤ u / l
  · have : (u / l) * 1 ≤ (u / l) * l := Int.mul_le_mul_of_nonneg_left (by omega) hq
    omega
  · have h4 : (u / l + 1) * l ≤ (u / l + 1) * 1 := by
      have h5 : (-(u / l + 1)) * 1 ≤ (-(u / l + 1)) * l := Int.mul_le_mul_of_nonneg_left (by omega) (by omega)
      rw [Int.neg_mul, Int.neg_mul] at h5
      omega
    rw [Int.add_mul, Int.one_mul] at h4
    omega
theorem row_mem {u l : Int} (h : 0 ≤ l) : ∀ y ∈ row u l, y.natAbs ≤ max u.natAbs l.natAbs := by
  intro y hy
  by_cases hl : 0 < l
  · have h2 := Int.emod_lt_of_pos u hl
    have h3 := Int.emod_nonneg u (show l ≠ 0 by omega)
    rw [row_cons hl] at hy
    rcases List.mem_cons.mp hy with rfl | hy
    · have := ediv_abs (u := u) hl
      omega
    · have := row_mem h3 y hy
      omega
  · rw [row_zero hl] at hy
    cases hy
termination_by l.toNat
decreasing_by omega
theorem row_drop {u l : Int} (h : 0 ≤ l) (h0 : 0 < l ∨ u = 1) (h1 : dv u l = 1) : ∀ j, (st ((row u l).drop j)).1.natAbs ≤ max u.natAbs (max l.natAbs 1) := by
  intro j
  cases j with
  | zero =>
    rw [List.drop_zero, st_row h h0 h1]
    show u.natAbs ≤ _
    omega
  | succ j =>
    by_cases hl : 0 < l
    · have h2 := Int.emod_lt_of_pos u hl
      have h3 := Int.emod_nonneg u (show l ≠ 0 by omega)
      have h4 : dv l (u % l) = 1 := by rw [dv_mod, h1]
      rw [row_cons hl, List.drop_succ_cons]
      have := row_drop (u := l) (l := u % l) h3 (by
        by_cases z : 0 < u % l
        · exact .inl z
        · right
          have e : u % l = 0 := by omega
          rw [e, dv_zero h] at h4
          exact h4) h4 j
      omega
    · rw [row_zero hl, List.drop_nil]
      show (1 : Int).natAbs ≤ _
      simp
      omega
termination_by l.toNat
decreasing_by omega
theorem st_abs : ∀ xs : List Int, (∀ y ∈ xs, y.natAbs ≤ 40) → (st xs).1.natAbs ≤ 41 ^ xs.length ∧ (st xs).2.natAbs ≤ 41 ^ xs.length
  | [], _ => ⟨Nat.le_refl 1, Nat.zero_le _⟩
  | x :: s, h => by
    obtain ⟨a, b⟩ := st_abs s fun y hy => h y (List.mem_cons_of_mem _ hy)
    have hx := h x List.mem_cons_self
    rw [List.length_cons, Nat.pow_succ]
    have h1 : (x * (st s).1).natAbs ≤ 40 * 41 ^ s.length := by
      rw [Int.natAbs_mul]
      exact Nat.mul_le_mul hx a
    exact ⟨by show (x * (st s).1 + (st s).2).natAbs ≤ _; omega, by show (st s).1.natAbs ≤ _; omega⟩
end RR
/-! RRS: the promises of the defs. -/
namespace RR
open PySem PySem.Spec PyProof.Rows L2
/-- within four thousand bits -/
structure Big (x : Int) : Prop where
  lt : x.natAbs < 2 ^ 4000
theorem big_of {x : Int} (h : x.natAbs < 2 ^ 60) : Big x := ⟨Nat.lt_of_lt_of_le h (Nat.pow_le_pow_right (by decide) (by decide))⟩
theorem big_le {x y : Int} (h : x.natAbs ≤ y.natAbs) (hy : Big y) : Big x := ⟨Nat.lt_of_le_of_lt h hy.lt⟩
theorem len1 {α : Type} {a : α} : [a].length ≤ sizeLine := small_le (show 1 ≤ 10000000 by decide)
theorem len2 {α : Type} {a b : α} : [a, b].length ≤ sizeLine := small_le (show 2 ≤ 10000000 by decide)
theorem len4 {α : Type} {a b c d : α} : [a, b, c, d].length ≤ sizeLine := small_le (show 4 ≤ 10000000 by decide)
theorem map_get {ns : List Int} {i : Nat} {x : V} (h : (ns.map V.int)[i]? = some x) : ∃ n, ns[i]? = some n ∧ x = .int n := by
  rw [List.getElem?_map] at h
  cases e : ns[i]? with
  | none =>
    rw [e] at h
    cases h
  | some n =>
    rw [e] at h
    exact ⟨n, rfl, (Option.some.inj h).symm⟩
theorem get_map {ns : List Int} {i : Nat} {n : Int} (h : ns[i]? = some n) : (ns.map V.int)[i]? = some (.int n) := by
  rw [List.getElem?_map, h]
  rfl
theorem Big.log {x : Int} (h : Big x) : x.natAbs.log2 < 4000 := PySem.Flt.log2_lt_of (by decide) h.lt
theorem Big.mul {x y : Int} (h : Big x) (h2 : Big y) : CMulW x y := by
  have h3 := h.log
  have h4 := h2.log
  unfold CMulW
  omega
/-- divisor -/
def sp_divisor : Sp := fun vs H Q _ => ∃ a b : Int, vs = [.int a, .int b] ∧ Q (.int (dv a b)) H
/-- lowest, as the laws have it (the lower one is not 0) -/
def sp_lowH : Sp := fun vs H Q _ => ∃ u l : Int, vs = [.int u, .int l] ∧ l ≠ 0 ∧ Big u ∧ Big l ∧ ∀ p, H p = none → Q (.ref p) (upd H p (tI [(low u l).1, (low u l).2]))
/-- lowest -/
def sp_lowest (C : Addr) : Sp := fun vs H Q E => ∃ u l : Int, vs = [.int u, .int l] ∧ Big u ∧ Big l ∧ (l = 0 → E (.ref C) none H) ∧ (l ≠ 0 → ∀ p, H p = none → Q (.ref p) (upd H p (tI [(low u l).1, (low u l).2])))
/-- a cell of the script -/
def cellOf (ns : List Int) (k : Nat) : Int := ns.getD k 0
def sp_cell (K : PySem.W.Frag) : Sp := fun vs H Q _ => ∃ (a : Addr) (ns : List Int) (k : Nat), vs = [.ref a, .int k] ∧ SqL K H a (ns.map V.int) ∧ k < 1000 ∧ Q (.int (cellOf ns k)) H
/-- a draw -/
def mix (c p m : Int) : Int := c * 48271 % p % m
def sp_mix : Sp := fun vs H Q _ => ∃ c p m : Int, vs = [.int c, .int p, .int m] ∧ 0 < p ∧ 0 < m ∧ Q (.int (mix c p m)) H
/-- a drawn fraction -/
def frac (c o w : Int) : Int × Int := low (mix c 1000003 (2 * w + 1) - w) (1 + mix o 999983 w)
def sp_fraction : Sp := fun vs H Q _ => ∃ c o w : Int, vs = [.int c, .int o, .int w] ∧ 0 < w ∧ w < 1000000 ∧ ∀ p, H p = none → Q (.ref p) (upd H p (tI [(frac c o w).1, (frac c o w).2]))
/-- fraction_of -/
def sp_fraction_of (C : Addr) : Sp := fun vs H Q E => ∃ (t : Addr) (xs : List Int), vs = [.ref t] ∧ H t = some (tI xs) ∧ xs.length ≤ 1000000 ∧
  (isRow xs = false → ∀ H', Same H H' → E (.ref C) none H') ∧
  (isRow xs = true → (∀ y ∈ xs, Big y) ∧ (∀ j, Big (st (xs.drop j)).1) ∧ ∀ H' p, Same H H' → H p = none → H' p = some (tI [(st xs).1, (st xs).2]) → Q (.ref p) H')
/-- way_to -/
def sp_way_to (C : Addr) : Sp := fun vs H Q E => ∃ (t : Addr) (u l : Int), vs = [.ref t] ∧ H t = some (tI [u, l]) ∧ (u < 1 → E (.ref C) none H) ∧
  (1 ≤ u → 1 ≤ l ∧ (way u l).length ≤ 1000000 ∧ ∀ H' p, Same H H' → H p = none → H' p = some (tI (way u l)) → Q (.ref p) H')
/-- middle -/
def sp_middle : Sp := fun vs H Q _ => ∃ (t u : Addr) (a b c d : Int), vs = [.ref t, .ref u] ∧ H t = some (tI [a, b]) ∧ H u = some (tI [c, d]) ∧ ∀ p, H p = none → Q (.ref p) (upd H p (tI [a + c, b + d]))
/-- where a way leads -/
def sp_walked : Sp := fun vs H Q _ => ∃ (t : Addr) (ws : List Int), vs = [.ref t] ∧ H t = some (tI ws) ∧ (∀ s ∈ ws, s = 0 ∨ s = 1) ∧ ∀ H' p, Same H H' → H p = none → H' p = some (tI [(bw ws).1, (bw ws).2]) → Q (.ref p) H'
/-- row_of -/
def sp_row_of : Sp := fun vs H Q _ => ∃ (t : Addr) (u l : Int), vs = [.ref t] ∧ H t = some (tI [u, l]) ∧ 0 < l ∧ Big l ∧ (row u l).length ≤ 1000000 ∧ ∀ H' p, Same H H' → H p = none → H' p = some (tI (row u l)) → Q (.ref p) H'
/-- a whole number -/
def sp_whole : Sp := fun vs H Q _ => ∃ z : Int, vs = [.int z] ∧ Q (.bl true) H
/-- a sequence of ints: a list or a tuple -/
def Sq (H : Hp) (t : Addr) (xs : List Int) : Prop := H t = some (tI xs) ∨ H t = some (lI xs)
theorem Sq.same {H H' : Hp} {t : Addr} {xs : List Int} (h : Sq H t xs) (s : Same H H') : Sq H' t xs := h.imp (s _ _) (s _ _)
/-- stands, by hand -/
def sp_stands : Sp := fun vs H Q _ => ∃ (t : Addr) (xs : List Int), vs = [.ref t] ∧ Sq H t xs ∧ xs ≠ [] ∧ xs.length ≤ 1000000 ∧ (∀ y ∈ xs, Big y) ∧ (∀ j, Big (st (xs.drop j)).1) ∧ ∀ H' p, Same H H' → H p = none → H' p = some (tI [(st xs).1, (st xs).2]) → Q (.ref p) H'
/-- first_parts of a fraction -/
def sp_first_parts0 : Sp := fun vs H Q _ => ∃ (t : Addr) (u l : Int) (k : Nat), vs = [.ref t, .int k] ∧ H t = some (tI [u, l]) ∧ 0 < l ∧ Big l ∧ (row u l).length ≤ 1000000 ∧ ∀ H' p, Same H H' → H p = none → H' p = some (tI ((row u l).take k)) → Q (.ref p) H'
end RR
/-! RRQ: squares, roots of square equations and their cuts: plain mathematics. -/
namespace RR

/-! ### square roots of whole numbers -/
def rtStep (r n : Nat) : Nat := if (2 * r + 1) * (2 * r + 1) ≤ n then 2 * r + 1 else 2 * r
def rtF : Nat → Nat → Nat
  | 0, _ => 0
  | k + 1, n => rtStep (rtF k (n / 4)) n
theorem rtF_spec : ∀ k n, n < 4 ^ k → rtF k n * rtF k n ≤ n ∧ n < (rtF k n + 1) * (rtF k n + 1)
  | 0, n, h => by
    have : n = 0 := by simpa using h
    subst this
    decide
  | k + 1, n, h => by
    have h4 : n / 4 < 4 ^ k := by
      rw [Nat.pow_succ] at h
      omega
    obtain ⟨a, b⟩ := rtF_spec k (n / 4) h4
    show rtStep (rtF k (n / 4)) n * rtStep (rtF k (n / 4)) n ≤ n ∧ n < (rtStep (rtF k (n / 4)) n + 1) * (rtStep (rtF k (n / 4)) n + 1)
    generalize rtF k (n / 4) = r at *
    unfold rtStep
    have e1 : (2 * r + 1) * (2 * r + 1) = 4 * (r * r) + 4 * r + 1 := by grind
    have e2 : 2 * r * (2 * r) = 4 * (r * r) := by grind
    have e3 : (r + 1) * (r + 1) = r * r + 2 * r + 1 := by grind
    have e4 : (2 * r + 1 + 1) * (2 * r + 1 + 1) = 4 * (r * r) + 8 * r + 4 := by grind
    split
    · rw [e4]
      omega
    · omega
/-- the whole root of n, for n from 0 on -/
def rt (n : Int) : Int := (rtF (n.toNat.log2 / 2 + 1) n.toNat : Nat)
theorem rt_spec {n : Int} (h : 0 ≤ n) : 0 ≤ rt n ∧ rt n * rt n ≤ n ∧ n < (rt n + 1) * (rt n + 1) := by
  have h1 : n.toNat < 4 ^ (n.toNat.log2 / 2 + 1) := by
    have h2 : n.toNat < 2 ^ (n.toNat.log2 + 1) := Nat.lt_log2_self
    refine Nat.lt_of_lt_of_le h2 ?_
    rw [show (4 : Nat) = 2 ^ 2 from rfl, ← Nat.pow_mul]
    exact Nat.pow_le_pow_right (by decide) (by omega)
  obtain ⟨a, b⟩ := rtF_spec _ _ h1
  unfold rt
  generalize rtF (n.toNat.log2 / 2 + 1) n.toNat = r at *
  refine ⟨Int.natCast_nonneg _, ?_, ?_⟩
  · have : (r : Int) * (r : Int) = ((r * r : Nat) : Int) := by simp
    omega
  · have : ((r : Int) + 1) * ((r : Int) + 1) = (((r + 1) * (r + 1) : Nat) : Int) := by simp
    omega
theorem sq_lt {a b : Int} (h : 0 ≤ b) (h2 : a * a < b * b) : a < b := by
  by_cases h3 : a < b
  · exact h3
  · have := Int.mul_self_le_mul_self h (show b ≤ a by omega)
    omega
theorem sq_le {a b : Int} (h : 0 ≤ b) (h2 : a * a ≤ b * b) : a ≤ b := by
  by_cases h3 : a ≤ b
  · exact h3
  · have := Int.mul_self_lt_mul_self h (show b < a by omega)
    omega
theorem sq_lt' {a b : Int} (h : 0 ≤ b) (h2 : a * a < b * b) : -b < a := by
  have := sq_lt (a := -a) h (by rw [Int.neg_mul_neg]; exact h2)
  omega
theorem rt_unique {n r : Int} (h : 0 ≤ r) (h1 : r * r ≤ n) (h2 : n < (r + 1) * (r + 1)) : rt n = r := by
  have h0 : 0 ≤ n := Int.le_trans (Int.mul_nonneg h h) h1
  obtain ⟨a, b, c⟩ := rt_spec h0
  have x1 := sq_lt (a := r) (b := rt n + 1) (by omega) (by omega)
  have x2 := sq_lt (a := rt n) (b := r + 1) (by omega) (by omega)
  omega
theorem rt_le {n : Int} (h : 0 ≤ n) : rt n ≤ n := by
  obtain ⟨a, b, c⟩ := rt_spec h
  by_cases h1 : rt n ≤ 0
  · omega
  · have : rt n * 1 ≤ rt n * rt n := Int.mul_le_mul_of_nonneg_left (by omega) a
    omega
/-- whether n is a square -/
def isSq (n : Int) : Bool := decide (rt n * rt n = n)
theorem isSq_of {n x : Int} (h : x * x = n) : isSq n = true := by
  have key : ∀ y : Int, 0 ≤ y → y * y = n → isSq n = true := fun y hy h => by
    have e : rt n = y := rt_unique hy (by omega) (by
      have : (y + 1) * (y + 1) = y * y + 2 * y + 1 := by grind
      omega)
    unfold isSq
    rw [e]
    exact decide_eq_true h
  by_cases h0 : 0 ≤ x
  · exact key x h0 h
  · exact key (-x) (by omega) (by rw [Int.neg_mul_neg]; exact h)
/-- Newton: one step down from above -/
theorem newton {n f : Int} (hn : 2 ≤ n) (hf : 1 ≤ f) : 1 ≤ (f + n / f) / 2 ∧ n < ((f + n / f) / 2 + 1) * ((f + n / f) / 2 + 1) ∧ (f ≤ (f + n / f) / 2 → f * f ≤ n) := by
  have h1 := Int.ediv_mul_add_emod n f
  have h2 := Int.emod_lt_of_pos n (show 0 < f by omega)
  have h3 := Int.emod_nonneg n (show f ≠ 0 by omega)
  have hq : 0 ≤ n / f := Int.ediv_nonneg (by omega) (by omega)
  have hq1 : f = 1 → n / f = n := fun e => by rw [e, Int.ediv_one]
  generalize n / f = q at *
  generalize n % f = r at *
  generalize hg : (f + q) / 2 = g at *
  have hg1 : f + q ≤ 2 * g + 1 := by omega
  have hg2 : 2 * g ≤ f + q := by omega
  refine ⟨by omega, ?_, fun h => ?_⟩
  · have x1 : 0 ≤ (f - (q + 1)) * (f - (q + 1)) := by
      by_cases hh : 0 ≤ f - (q + 1)
      · exact Int.mul_nonneg hh hh
      · have := Int.mul_nonneg (show 0 ≤ -(f - (q + 1)) by omega) (show 0 ≤ -(f - (q + 1)) by omega)
        rw [Int.neg_mul_neg] at this
        exact this
    have x2 : (f + q + 1) * (f + q + 1) ≤ (2 * g + 2) * (2 * g + 2) := Int.mul_self_le_mul_self (by omega) (by omega)
    have x3 : (2 * g + 2) * (2 * g + 2) = 4 * ((g + 1) * (g + 1)) := by grind
    have x4 : (f - (q + 1)) * (f - (q + 1)) = (f + q + 1) * (f + q + 1) - 4 * (q * f) - 4 * f := by grind
    omega
  · have x1 : f * f ≤ q * f := Int.mul_le_mul_of_nonneg_right (by omega) (by omega)
    omega
/-! ### no square is d times a square -/
theorem no_sq {d x y : Int} (h : isSq d = false) (e : x * x = d * (y * y)) : y = 0 := by
  by_cases hy : y = 0
  · exact hy
  exfalso
  have h1 : y * y ∣ x * x := ⟨d, by rw [e, Int.mul_comm]⟩
  have h2 : y ^ 2 ∣ x ^ 2 := by
    rw [Int.pow_succ, Int.pow_succ, Int.pow_succ, Int.pow_succ]
    simpa using h1
  obtain ⟨k, rfl⟩ := (Int.pow_dvd_pow_iff (by decide)).mp h2
  have h3 : (y * y) * (k * k) = (y * y) * d := by grind
  have h4 : y * y ≠ 0 := by
    intro z
    rcases Int.mul_eq_zero.mp z with z | z <;> exact hy z
  have h5 := Int.eq_of_mul_eq_mul_left h4 h3
  rw [isSq_of h5] at h
  cases h
/-! ### whole numbers and a root: x + y times the root of d, in order -/
/-- d is above 0 and no square -/
structure Ns (d : Int) : Prop where
  pos : 0 < d
  no : isSq d = false
def nm (d x y : Int) : Int := x * x - d * (y * y)
/-- x + y times the root of d is above 0 -/
def Ps (d x y : Int) : Prop := (0 < nm d x y ∧ 0 < x) ∨ (nm d x y < 0 ∧ 0 < y)
theorem nm_zero {d x y : Int} (h : Ns d) (e : nm d x y = 0) : x = 0 ∧ y = 0 := by
  have hy : y = 0 := no_sq (x := x) h.no (by unfold nm at e; omega)
  subst hy
  have : x * x = 0 := by unfold nm at e; omega
  rcases Int.mul_eq_zero.mp this with z | z <;> exact ⟨z, rfl⟩
theorem nm_mul (d x y z w : Int) : nm d (x * z + d * (y * w)) (x * w + y * z) = nm d x y * nm d z w := by
  unfold nm
  grind
theorem sqn (x : Int) : 0 ≤ x * x := by
  by_cases h : 0 ≤ x
  · exact Int.mul_nonneg h h
  · have := Int.mul_nonneg (show 0 ≤ -x by omega) (show 0 ≤ -x by omega)
    rw [Int.neg_mul_neg] at this
    exact this
theorem sqp {x : Int} (h : x ≠ 0) : 0 < x * x := by
  have h1 := sqn x
  have h2 : x * x ≠ 0 := fun z => by rcases Int.mul_eq_zero.mp z with z | z <;> exact h z
  omega
theorem Ps.ne {d x y : Int} (h : Ps d x y) : ¬ (x = 0 ∧ y = 0) := by
  rintro ⟨rfl, rfl⟩
  rcases h with ⟨_, h⟩ | ⟨_, h⟩ <;> exact absurd h (by decide)
theorem nm_neg (d x y : Int) : nm d (-x) (-y) = nm d x y := by
  unfold nm
  grind
theorem Ps.neg {d x y : Int} (h : Ps d x y) : ¬ Ps d (-x) (-y) := by
  intro k
  unfold Ps at h k
  rw [nm_neg] at k
  omega
theorem Ps.tri {d x y : Int} (h : Ns d) (h0 : ¬ (x = 0 ∧ y = 0)) : Ps d x y ∨ Ps d (-x) (-y) := by
  unfold Ps
  rw [nm_neg]
  have h1 : nm d x y ≠ 0 := fun z => h0 (nm_zero h z)
  by_cases hn : 0 < nm d x y
  · have : x ≠ 0 := by
      rintro rfl
      have h2 : 0 ≤ d * (y * y) := Int.mul_nonneg (Int.le_of_lt h.pos) (sqn y)
      unfold nm at hn
      omega
    omega
  · have : y ≠ 0 := by
      rintro rfl
      have h2 := sqn x
      have e0 : d * (0 * 0) = 0 := by simp
      unfold nm at hn h1
      rw [e0] at hn h1
      omega
    omega
theorem Ps.int {d n : Int} (h : 0 < n) : Ps d n 0 := by
  refine .inl ⟨?_, h⟩
  unfold nm
  have := Int.mul_pos h h
  simp
  exact this
theorem Ps.root {d n : Int} (hd : 0 < d) (h : 0 < n) : Ps d 0 n := by
  refine .inr ⟨?_, h⟩
  unfold nm
  have := Int.mul_pos hd (Int.mul_pos h h)
  omega
theorem abs_lt_of_sq {p q : Int} (hq : 0 < q) (h : p * p < q * q) : -q < p ∧ p < q := ⟨sq_lt' (Int.le_of_lt hq) h, sq_lt (Int.le_of_lt hq) h⟩
theorem Ps.mul {d x y z w : Int} (hd : Ns d) (h : Ps d x y) (k : Ps d z w) : Ps d (x * z + d * (y * w)) (x * w + y * z) := by
  have key : ∀ x y z w : Int, 0 < nm d x y → 0 < x → nm d z w < 0 → 0 < w → nm d (x * z + d * (y * w)) (x * w + y * z) < 0 ∧ 0 < x * w + y * z := by
    intro x y z w a b c e
    refine ⟨by rw [nm_mul]; exact Int.mul_neg_of_pos_of_neg a c, ?_⟩
    have h1 : (y * z) * (y * z) < (x * w) * (x * w) := by
      unfold nm at a c
      have c1 : z * z < d * (w * w) := by omega
      have a1 : d * (y * y) < x * x := by omega
      have k1 : (d * (y * y)) * (z * z) ≤ (x * x) * (z * z) := Int.mul_le_mul_of_nonneg_right (by omega) (sqn z)
      have k2 : (x * x) * (z * z) < (x * x) * (d * (w * w)) := Int.mul_lt_mul_of_pos_left c1 (Int.mul_pos b b)
      have k3 : d * ((y * z) * (y * z)) < d * ((x * w) * (x * w)) := by
        have e1 : d * ((y * z) * (y * z)) = (d * (y * y)) * (z * z) := by grind
        have e2 : d * ((x * w) * (x * w)) = (x * x) * (d * (w * w)) := by grind
        omega
      exact Int.lt_of_mul_lt_mul_left k3 (Int.le_of_lt hd.pos)
    have := abs_lt_of_sq (Int.mul_pos b e) h1
    omega
  rcases h with ⟨a, b⟩ | ⟨a, b⟩ <;> rcases k with ⟨c, e⟩ | ⟨c, e⟩
  · refine .inl ⟨by rw [nm_mul]; exact Int.mul_pos a c, ?_⟩
    have h1 : (d * (y * w)) * (d * (y * w)) < (x * z) * (x * z) := by
      unfold nm at a c
      have a1 : d * (y * y) < x * x := by omega
      have c1 : d * (w * w) < z * z := by omega
      have n1 : 0 ≤ d * (w * w) := Int.mul_nonneg (Int.le_of_lt hd.pos) (sqn w)
      have k1 : (d * (y * y)) * (d * (w * w)) ≤ (x * x) * (d * (w * w)) := Int.mul_le_mul_of_nonneg_right (by omega) n1
      have k2 : (x * x) * (d * (w * w)) < (x * x) * (z * z) := Int.mul_lt_mul_of_pos_left c1 (Int.mul_pos b b)
      have e1 : (d * (y * w)) * (d * (y * w)) = (d * (y * y)) * (d * (w * w)) := by grind
      have e2 : (x * z) * (x * z) = (x * x) * (z * z) := by grind
      omega
    have := abs_lt_of_sq (Int.mul_pos b e) h1
    omega
  · exact .inr (key x y z w a b c e)
  · have := key z w x y c e a b
    refine .inr ?_
    rw [show x * z + d * (y * w) = z * x + d * (w * y) by grind, show x * w + y * z = z * y + w * x by grind]
    exact this
  · refine .inl ⟨by rw [nm_mul]; exact Int.mul_pos_of_neg_of_neg a c, ?_⟩
    have h1 : (x * z) * (x * z) < (d * (y * w)) * (d * (y * w)) := by
      unfold nm at a c
      have a1 : x * x < d * (y * y) := by omega
      have c1 : z * z < d * (w * w) := by omega
      have n1 : 0 < d * (y * y) := Int.mul_pos hd.pos (Int.mul_pos b b)
      have k1 : (x * x) * (z * z) ≤ (d * (y * y)) * (z * z) := Int.mul_le_mul_of_nonneg_right (by omega) (sqn z)
      have k2 : (d * (y * y)) * (z * z) < (d * (y * y)) * (d * (w * w)) := Int.mul_lt_mul_of_pos_left c1 n1
      have e1 : (d * (y * w)) * (d * (y * w)) = (d * (y * y)) * (d * (w * w)) := by grind
      have e2 : (x * z) * (x * z) = (x * x) * (z * z) := by grind
      omega
    have := abs_lt_of_sq (Int.mul_pos hd.pos (Int.mul_pos b e)) h1
    omega
/-- divided by what is above 0 -/
theorem Ps.div {d x y z w : Int} (hd : Ns d) (h : Ps d (x * z + d * (y * w)) (x * w + y * z)) (k : Ps d z w) : Ps d x y := by
  by_cases h0 : x = 0 ∧ y = 0
  · obtain ⟨rfl, rfl⟩ := h0
    exact absurd ⟨by simp, by simp⟩ h.ne
  · rcases Ps.tri hd h0 with h1 | h1
    · exact h1
    · have h2 := Ps.mul hd h1 k
      rw [show -x * z + d * (-y * w) = -(x * z + d * (y * w)) by grind, show -x * w + -y * z = -(x * w + y * z) by grind] at h2
      exact absurd h2 h.neg
theorem Ps.addN {d x y n : Int} (hd : Ns d) (h : Ps d x y) (hn : 0 ≤ n) : Ps d (x + n) y := by
  rcases h with ⟨a, b⟩ | ⟨a, b⟩
  · refine .inl ⟨?_, by omega⟩
    have := Int.mul_self_le_mul_self (show 0 ≤ x by omega) (show x ≤ x + n by omega)
    unfold nm at *
    omega
  · by_cases h1 : nm d (x + n) y < 0
    · exact .inr ⟨h1, b⟩
    · have h2 : nm d (x + n) y ≠ 0 := fun z => by have := (nm_zero hd z).2; omega
      refine .inl ⟨by omega, ?_⟩
      have h3 : x * x < (x + n) * (x + n) := by
        unfold nm at *
        omega
      by_cases h4 : 0 < x + n
      · exact h4
      · exfalso
        have := Int.mul_self_le_mul_self (show 0 ≤ -(x + n) by omega) (show -(x + n) ≤ -x by omega)
        rw [Int.neg_mul_neg, Int.neg_mul_neg] at this
        omega
theorem Ps.add {d x y z w : Int} (hd : Ns d) (h : Ps d x y) (k : Ps d z w) : Ps d (x + z) (y + w) := by
  by_cases hn : 0 < nm d x y
  · have hx : 0 < x := by
      rcases h with ⟨a, b⟩ | ⟨a, b⟩ <;> omega
    have hc : Ps d x (-y) := .inl ⟨by unfold nm at *; rw [Int.neg_mul_neg]; exact hn, hx⟩
    have h1 := Ps.addN hd (Ps.mul hd k hc) (Int.le_of_lt hn)
    refine Ps.div hd (z := x) (w := -y) ?_ hc
    rw [show (x + z) * x + d * ((y + w) * -y) = z * x + d * (w * -y) + nm d x y by unfold nm; grind, show (x + z) * -y + (y + w) * x = z * -y + w * x by grind]
    exact h1
  · have h0 : nm d x y ≠ 0 := fun z => h.ne (nm_zero hd z)
    have hy : 0 < y := by
      rcases h with ⟨a, b⟩ | ⟨a, b⟩ <;> omega
    have hc : Ps d (-x) y := .inr ⟨by unfold nm at *; rw [Int.neg_mul_neg]; omega, hy⟩
    have h1 := Ps.addN hd (Ps.mul hd k hc) (n := -nm d x y) (by omega)
    refine Ps.div hd (z := -x) (w := y) ?_ hc
    rw [show (x + z) * -x + d * ((y + w) * y) = z * -x + d * (w * y) + -nm d x y by unfold nm; grind, show (x + z) * y + (y + w) * -x = z * y + w * -x by grind]
    exact h1
theorem Ps.smul {d x y n : Int} (hd : Ns d) (h : Ps d x y) (hn : 0 < n) : Ps d (n * x) (n * y) := by
  have := Ps.mul hd (Ps.int hn) h
  rw [show n * x + d * (0 * y) = n * x by grind, show n * y + 0 * x = n * y by grind] at this
  exact this
theorem Ps.sdiv {d x y n : Int} (hd : Ns d) (h : Ps d (n * x) (n * y)) (hn : 0 < n) : Ps d x y := by
  refine Ps.div hd (z := n) (w := 0) ?_ (Ps.int hn)
  rw [show x * n + d * (y * 0) = n * x by grind, show x * 0 + y * n = n * y by grind]
  exact h
end RR
/-! RRC: numbers as (p + q times the root of d) divided by r, and how fractions lie to them: plain mathematics. -/
namespace RR
def fm (a b c u l : Int) : Int := a * u * u + b * u * l + c * l * l
def ht (a b c : Int) : Int := b * b - 4 * a * c
/-- whether a root is greater than u divided by l, as both the program and the laws have it -/
def ab (a b c s u l : Int) : Bool := if s = 1 then !decide (0 < 2 * a * u + b * l) || decide (fm a b c u l < 0) else !decide (0 < 2 * a * u + b * l) && decide (0 < fm a b c u l)
def sg (s : Int) : Int := 2 * s - 1
structure IsR (a b c s : Int) : Prop where
  ha : 0 < a
  hs : s = 0 ∨ s = 1
  g : dv (dv a b) c = 1
  n : Ns (ht a b c)
theorem fm_nm (a b c u l s : Int) (hs : s = 0 ∨ s = 1) : nm (ht a b c) (-(2 * a * u + b * l)) (sg s * l) = 4 * a * fm a b c u l := by
  unfold nm ht fm sg
  rcases hs with rfl | rfl <;> grind
theorem ab_ps {a b c s u l : Int} (ha : 0 < a) (hs : s = 0 ∨ s = 1) (hn : Ns (ht a b c)) (hl : 0 < l) : ab a b c s u l = true ↔ Ps (ht a b c) (-(2 * a * u + b * l)) (sg s * l) := by
  unfold Ps
  rw [fm_nm a b c u l s hs]
  have hd : 0 < ht a b c * (l * l) := Int.mul_pos hn.pos (Int.mul_pos hl hl)
  have e : 4 * a * fm a b c u l = (2 * a * u + b * l) * (2 * a * u + b * l) - ht a b c * (l * l) := by
    unfold fm ht
    grind
  have hf : 0 < fm a b c u l → 0 < 4 * a * fm a b c u l := fun h => Int.mul_pos (by omega) h
  have hf2 : fm a b c u l < 0 → 4 * a * fm a b c u l < 0 := fun h => Int.mul_neg_of_pos_of_neg (by omega) h
  have hf3 : fm a b c u l = 0 → False := fun h => by
    have h2 : nm (ht a b c) (-(2 * a * u + b * l)) (sg s * l) = 0 := by rw [fm_nm a b c u l s hs, h, Int.mul_zero]
    have := (nm_zero hn h2).2
    rcases hs with rfl | rfl <;> (unfold sg at this; omega)
  have hw : 2 * a * u + b * l = 0 → 4 * a * fm a b c u l < 0 := fun h => by
    rw [e, h]
    omega
  have hc : (0 < fm a b c u l ∧ 0 < 4 * a * fm a b c u l) ∨ (fm a b c u l < 0 ∧ 4 * a * fm a b c u l < 0) := by
    by_cases h1 : 0 < fm a b c u l
    · exact .inl ⟨h1, hf h1⟩
    · by_cases h2 : fm a b c u l = 0
      · exact (hf3 h2).elim
      · exact .inr ⟨by omega, hf2 (by omega)⟩
  have hw2 : 2 * a * u + b * l ≠ 0 ∨ 4 * a * fm a b c u l < 0 := by
    by_cases h1 : 2 * a * u + b * l = 0
    · exact .inr (hw h1)
    · exact .inl h1
  clear hf hf2 hf3 hw
  unfold ab
  generalize 4 * a * fm a b c u l = g at *
  generalize 2 * a * u + b * l = w at *
  generalize fm a b c u l = f at *
  rcases hs with rfl | rfl
  · rw [if_neg (by decide)]
    simp [sg]
    omega
  · rw [if_pos rfl]
    simp [sg]
    omega
/-- u divided by l is less than the number -/
def Ov (d p q r u l : Int) : Prop := Ps d (p * l - u * r) (q * l)
/-- u divided by l is greater than the number -/
def Be (d p q r u l : Int) : Prop := Ps d (u * r - p * l) (-(q * l))
theorem ab_ov {a b c s u l : Int} (R : IsR a b c s) (hl : 0 < l) : ab a b c s u l = true ↔ Ov (ht a b c) (-b) (sg s) (2 * a) u l := by
  rw [ab_ps R.ha R.hs R.n hl]
  unfold Ov
  rw [show -b * l - u * (2 * a) = -(2 * a * u + b * l) by grind]
theorem sg_ne {s : Int} (h : s = 0 ∨ s = 1) : sg s ≠ 0 := by
  rcases h with rfl | rfl <;> decide
theorem ab_be {a b c s u l : Int} (R : IsR a b c s) (hl : 0 < l) : ab a b c s u l = false ↔ Be (ht a b c) (-b) (sg s) (2 * a) u l := by
  have h1 := ab_ov (u := u) R hl
  unfold Ov at h1
  unfold Be
  rw [show u * (2 * a) - -b * l = -(-b * l - u * (2 * a)) by grind]
  constructor
  · intro h
    have h2 : ¬ (-b * l - u * (2 * a) = 0 ∧ sg s * l = 0) := fun z => by
      rcases Int.mul_eq_zero.mp z.2 with z | z
      · exact sg_ne R.hs z
      · omega
    rcases Ps.tri R.n h2 with h3 | h3
    · rw [h1.mpr h3] at h
      cases h
    · exact h3
  · intro h
    cases e : ab a b c s u l with
    | false => rfl
    | true => exact absurd h (h1.mp e).neg
section
variable {d p q r : Int}
theorem Ov.not {u l : Int} (h : Ov d p q r u l) : ¬ Be d p q r u l := by
  unfold Ov at h
  unfold Be
  rw [show u * r - p * l = -(p * l - u * r) by grind]
  exact h.neg
/-- what is less than a lower one is lower -/
theorem Ov.le {u l v m : Int} (hd : Ns d) (hr : 0 < r) (hl : 0 < l) (hm : 0 < m) (h : Ov d p q r u l) (k : v * l ≤ u * m) : Ov d p q r v m := by
  unfold Ov at *
  have h1 := Ps.addN hd (Ps.smul hd h hm) (n := r * (u * m - v * l)) (Int.mul_nonneg (Int.le_of_lt hr) (by omega))
  refine Ps.sdiv hd (n := l) ?_ hl
  rw [show l * (p * m - v * r) = m * (p * l - u * r) + r * (u * m - v * l) by grind, show l * (q * m) = m * (q * l) by grind]
  exact h1
theorem Be.le {u l v m : Int} (hd : Ns d) (hr : 0 < r) (hl : 0 < l) (hm : 0 < m) (h : Be d p q r u l) (k : u * m ≤ v * l) : Be d p q r v m := by
  unfold Be at *
  have h1 := Ps.addN hd (Ps.smul hd h hm) (n := r * (v * l - u * m)) (Int.mul_nonneg (Int.le_of_lt hr) (by omega))
  refine Ps.sdiv hd (n := l) ?_ hl
  rw [show l * (v * r - p * m) = m * (u * r - p * l) + r * (v * l - u * m) by grind, show l * -(q * m) = m * -(q * l) by grind]
  exact h1
/-- of one above and one below -/
theorem ov_be_lt {u l v m : Int} (hd : Ns d) (hr : 0 < r) (hl : 0 < l) (hm : 0 < m) (h : Ov d p q r u l) (k : Be d p q r v m) : u * m < v * l := by
  by_cases e : u * m < v * l
  · exact e
  · exact absurd k (Ov.le hd hr hl hm h (by omega)).not
end
/-- the part of a root -/
def partR (a b c s : Int) : Int := if s = 0 then (0 - rt (ht a b c) - 1 - b) / (2 * a) else (rt (ht a b c) - b) / (2 * a)
theorem fl {x y : Int} (h : 0 < y) : x / y * y ≤ x ∧ x < (x / y + 1) * y := by
  have h1 := Int.ediv_mul_add_emod x y
  have h2 := Int.emod_lt_of_pos x h
  have h3 := Int.emod_nonneg x (show y ≠ 0 by omega)
  rw [Int.add_mul]
  omega
theorem rt_lt {d : Int} (h : Ns d) : rt d * rt d < d := by
  obtain ⟨a, b, c⟩ := rt_spec (Int.le_of_lt h.pos)
  have : rt d * rt d ≠ d := fun z => by
    have h2 := isSq_of z
    rw [h.no] at h2
    cases h2
  omega
/-- z plus the root -/
theorem ps_up {d z : Int} (h : Ns d) (k : -(rt d) ≤ z) : Ps d z 1 := by
  have h1 := rt_lt h
  have h0 := (rt_spec (Int.le_of_lt h.pos)).1
  unfold Ps nm
  rw [show d * (1 * 1) = d by simp]
  by_cases e : z * z < d
  · right; omega
  · left
    have e2 : z * z ≠ d := fun y => by
      have h2 := isSq_of y
      rw [h.no] at h2
      cases h2
    refine ⟨by omega, ?_⟩
    by_cases e3 : 0 < z
    · exact e3
    · have := Int.mul_self_le_mul_self (show 0 ≤ -z by omega) (show -z ≤ rt d by omega)
      rw [Int.neg_mul_neg] at this
      omega
theorem ps_dn {d z : Int} (h : Ns d) (k : rt d + 1 ≤ z) : Ps d z (-1) := by
  have h0 := (rt_spec (Int.le_of_lt h.pos))
  have := Int.mul_self_le_mul_self (show 0 ≤ rt d + 1 by omega) k
  left
  unfold nm
  rw [show d * (-1 * -1) = d by simp]
  omega
theorem part_ov {a b c s : Int} (R : IsR a b c s) : Ov (ht a b c) (-b) (sg s) (2 * a) (partR a b c s) 1 ∧ Be (ht a b c) (-b) (sg s) (2 * a) (partR a b c s + 1) 1 := by
  have hd := R.n
  have ha := R.ha
  unfold partR Ov Be
  generalize ht a b c = d at *
  rcases R.hs with rfl | rfl
  · rw [if_pos rfl]
    obtain ⟨h1, h2⟩ := fl (x := 0 - rt d - 1 - b) (y := 2 * a) (by omega)
    generalize (0 - rt d - 1 - b) / (2 * a) = z at *
    exact ⟨ps_dn hd (by omega), ps_up hd (by omega)⟩
  · rw [if_neg (by decide)]
    obtain ⟨h1, h2⟩ := fl (x := rt d - b) (y := 2 * a) (by omega)
    generalize (rt d - b) / (2 * a) = z at *
    exact ⟨ps_up hd (by omega), ps_dn hd (by omega)⟩
/-! ### 1 divided by a root less a whole number -/
def mvC (a b c n : Int) : Int := a * n * n + b * n + c
def tnA (a b c n : Int) : Int := if 0 < mvC a b c n then mvC a b c n else -mvC a b c n
def tnB (a b c n : Int) : Int := if 0 < mvC a b c n then b + 2 * a * n else -(b + 2 * a * n)
def tnC (a b c n : Int) : Int := if 0 < mvC a b c n then a else -a
def tnS (a b c s n : Int) : Int := if 0 < mvC a b c n then 1 - s else s
theorem mv_ht (a b c n : Int) : ht a (b + 2 * a * n) (mvC a b c n) = ht a b c := by
  unfold ht mvC
  grind
theorem mvC_ne {a b c n : Int} (h : Ns (ht a b c)) : mvC a b c n ≠ 0 := fun z => by
  have e := mv_ht a b c n
  rw [z] at e
  have h2 := h.no
  rw [isSq_of (x := b + 2 * a * n) (by rw [← e]; unfold ht; simp)] at h2
  cases h2
theorem dv3 {a b c k : Int} (h : dv (dv a b) c = 1) (h1 : k ∣ a) (h2 : k ∣ b) (h3 : k ∣ c) (h0 : 0 ≤ k) : k = 1 := by
  have h4 : k ∣ 1 := by
    rw [← h]
    exact dvd_dv (dvd_dv h1 h2) h3
  exact Int.eq_one_of_dvd_one h0 h4
theorem dv3_dvd (a b c : Int) : dv (dv a b) c ∣ a ∧ dv (dv a b) c ∣ b ∧ dv (dv a b) c ∣ c :=
  ⟨Int.dvd_trans (dv_dvd_left _ _) (dv_dvd_left _ _), Int.dvd_trans (dv_dvd_left _ _) (dv_dvd_right _ _), dv_dvd_right _ _⟩
theorem mv_dv {a b c : Int} (n : Int) (h : dv (dv a b) c = 1) : dv (dv (mvC a b c n) (b + 2 * a * n)) a = 1 := by
  obtain ⟨h1, h2, h3⟩ := dv3_dvd (mvC a b c n) (b + 2 * a * n) a
  have h0 := dv_nonneg (dv (mvC a b c n) (b + 2 * a * n)) a
  generalize dv (dv (mvC a b c n) (b + 2 * a * n)) a = k at *
  have k2 : k ∣ b := by
    have := Int.dvd_sub h2 (Int.dvd_trans h3 (Int.dvd_mul_right a (2 * n)))
    rw [show b + 2 * a * n - a * (2 * n) = b by grind] at this
    exact this
  have k3 : k ∣ c := by
    have := Int.dvd_sub (Int.dvd_sub h1 (Int.dvd_trans h3 (Int.dvd_mul_right a (n * n)))) (Int.dvd_trans k2 (Int.dvd_mul_right b n))
    rw [show mvC a b c n - a * (n * n) - b * n = c by unfold mvC; grind] at this
    exact this
  exact dv3 h h3 k2 k3 h0
theorem tn_ht (a b c n : Int) : ht (tnA a b c n) (tnB a b c n) (tnC a b c n) = ht a b c := by
  rw [← mv_ht a b c n]
  unfold tnA tnB tnC ht
  split <;> grind
theorem tn_isR {a b c s : Int} (n : Int) (R : IsR a b c s) : IsR (tnA a b c n) (tnB a b c n) (tnC a b c n) (tnS a b c s n) := by
  have h0 := mvC_ne (n := n) R.n
  have hg := mv_dv n R.g
  refine ⟨?_, ?_, ?_, by rw [tn_ht]; exact R.n⟩
  · unfold tnA
    split <;> omega
  · have := R.hs
    unfold tnS
    split <;> omega
  · unfold tnA tnB tnC
    split
    · exact hg
    · rw [dv_neg_left, dv_neg_right, dv_neg_right]
      exact hg
theorem sg_inv {s : Int} (h : s = 0 ∨ s = 1) : sg (1 - s) = -sg s := by
  rcases h with rfl | rfl <;> decide
theorem sg_sq {s : Int} (h : s = 0 ∨ s = 1) : sg s * sg s = 1 := by
  rcases h with rfl | rfl <;> decide
/-- the signs of a product -/
theorem ps_sign {d x y z w v t : Int} (hd : Ns d) (e1 : v = x * z + d * (y * w)) (e2 : t = x * w + y * z) (k : Ps d z w) : Ps d v t ↔ Ps d x y := by
  constructor
  · intro h
    rw [e1, e2] at h
    exact Ps.div hd h k
  · intro h
    rw [e1, e2]
    exact Ps.mul hd h k
/-- what the turned one is greater than, by products: t (the turned one less u / l), a (the root less n), m (what is left) -/
theorem tn_key {a b c s n u l : Int} (R : IsR a b c s) : ∃ k : Int, 0 < k ∧
    k * (2 * a * l + (b + 2 * a * n) * u) = (-tnB a b c n * l - u * (2 * tnA a b c n)) * (-b - n * (2 * a)) + ht a b c * (sg (tnS a b c s n) * l * sg s) ∧
    k * -(sg s * u) = (-tnB a b c n * l - u * (2 * tnA a b c n)) * sg s + sg (tnS a b c s n) * l * (-b - n * (2 * a)) := by
  have h0 := mvC_ne (n := n) R.n
  have hs := sg_sq R.hs
  have e : ht a b c = (b + 2 * a * n) * (b + 2 * a * n) - 4 * a * mvC a b c n := by
    rw [← mv_ht a b c n]
    rfl
  rw [e, show -b - n * (2 * a) = -(b + 2 * a * n) by grind]
  unfold tnA tnB tnS
  generalize mvC a b c n = C at *
  generalize b + 2 * a * n = B at *
  split
  · rename_i hC
    rw [sg_inv R.hs]
    generalize sg s = σ at *
    refine ⟨2 * C, by omega, ?_, ?_⟩ <;> grind
  · rename_i hC
    generalize sg s = σ at *
    refine ⟨2 * -C, by omega, ?_, ?_⟩ <;> grind
/-- Ov of a root, in short -/
abbrev OvR (a b c s u l : Int) : Prop := Ov (ht a b c) (-b) (sg s) (2 * a) u l
abbrev BeR (a b c s u l : Int) : Prop := Be (ht a b c) (-b) (sg s) (2 * a) u l
theorem root_tri {a b c s u l : Int} (R : IsR a b c s) (hl : 0 < l) : OvR a b c s u l ∨ BeR a b c s u l := by
  cases e : ab a b c s u l with
  | true => exact .inl ((ab_ov R hl).mp e)
  | false => exact .inr ((ab_be R hl).mp e)
/-- the turned one's signs: with t, a, m as in tn_key -/
theorem tn_sign {a b c s n u l : Int} (R : IsR a b c s) (hl : 0 < l) :
    (OvR a b c s n 1 → (OvR (tnA a b c n) (tnB a b c n) (tnC a b c n) (tnS a b c s n) u l ↔ Ps (ht a b c) (2 * a * l + (b + 2 * a * n) * u) (-(sg s * u)))) ∧
    (BeR a b c s n 1 → (BeR (tnA a b c n) (tnB a b c n) (tnC a b c n) (tnS a b c s n) u l ↔ Ps (ht a b c) (2 * a * l + (b + 2 * a * n) * u) (-(sg s * u)))) := by
  obtain ⟨k, hk, e1, e2⟩ := tn_key (n := n) (u := u) (l := l) R
  have hm : ∀ x y : Int, Ps (ht a b c) (k * x) (k * y) ↔ Ps (ht a b c) x y := fun x y => ⟨fun h => Ps.sdiv R.n h hk, fun h => Ps.smul R.n h hk⟩
  constructor
  · intro h
    unfold OvR Ov at *
    rw [tn_ht, ← hm (2 * a * l + (b + 2 * a * n) * u) (-(sg s * u)), e1, e2]
    rw [Int.mul_one, Int.mul_one] at h
    exact (ps_sign R.n (by grind) (by grind) h).symm
  · intro h
    unfold BeR Be at *
    rw [tn_ht, ← hm (2 * a * l + (b + 2 * a * n) * u) (-(sg s * u)), e1, e2]
    rw [Int.mul_one, Int.mul_one] at h
    refine (ps_sign R.n ?_ ?_ h).symm
    · grind
    · grind
theorem tn_up {a b c s n u l : Int} (R : IsR a b c s) (hl : 0 < l) (hu : 0 < u) :
    OvR (tnA a b c n) (tnB a b c n) (tnC a b c n) (tnS a b c s n) u l ↔ (OvR a b c s n 1 ∧ BeR a b c s (n * u + l) u) := by
  obtain ⟨h1, h2⟩ := tn_sign (n := n) (u := u) R hl
  have e : Ps (ht a b c) (2 * a * l + (b + 2 * a * n) * u) (-(sg s * u)) ↔ BeR a b c s (n * u + l) u := by
    unfold BeR Be
    rw [show (n * u + l) * (2 * a) - -b * u = 2 * a * l + (b + 2 * a * n) * u by grind]
  have h3 := tn_isR n R
  rcases root_tri (u := n) R (show (0 : Int) < 1 by decide) with h | h
  · rw [h1 h, e]
    exact ⟨fun x => ⟨h, x⟩, fun x => x.2⟩
  · have h4 : BeR a b c s (n * u + l) u := Be.le R.n (by have := R.ha; omega) (by decide) hu h (by omega)
    have h5 := (h2 h).mpr (e.mpr h4)
    exact ⟨fun x => absurd h5 x.not, fun x => absurd h x.1.not⟩
theorem tn_zero {a b c s n l : Int} (R : IsR a b c s) (hl : 0 < l) :
    OvR (tnA a b c n) (tnB a b c n) (tnC a b c n) (tnS a b c s n) 0 l ↔ OvR a b c s n 1 := by
  obtain ⟨h1, h2⟩ := tn_sign (n := n) (u := 0) R hl
  have e : Ps (ht a b c) (2 * a * l + (b + 2 * a * n) * 0) (-(sg s * 0)) := by
    rw [Int.mul_zero, Int.mul_zero, Int.add_zero]
    exact Ps.int (Int.mul_pos (by have := R.ha; omega) hl)
  rcases root_tri (u := n) R (show (0 : Int) < 1 by decide) with h | h
  · exact ⟨fun _ => h, fun _ => (h1 h).mpr e⟩
  · exact ⟨fun x => absurd ((h2 h).mpr e) x.not, fun x => absurd h x.not⟩
theorem tn_dn {a b c s n u l : Int} (R : IsR a b c s) (hl : 0 < l) (hu : u < 0) :
    OvR (tnA a b c n) (tnB a b c n) (tnC a b c n) (tnS a b c s n) u l ↔ (OvR a b c s n 1 ∨ BeR a b c s (n * (0 - u) - l) (0 - u)) := by
  obtain ⟨h1, h2⟩ := tn_sign (n := n) (u := u) R hl
  have e : Ps (ht a b c) (2 * a * l + (b + 2 * a * n) * u) (-(sg s * u)) ↔ OvR a b c s (n * (0 - u) - l) (0 - u) := by
    unfold OvR Ov
    rw [show -b * (0 - u) - (n * (0 - u) - l) * (2 * a) = 2 * a * l + (b + 2 * a * n) * u by grind, show sg s * (0 - u) = -(sg s * u) by grind]
  rcases root_tri (u := n) R (show (0 : Int) < 1 by decide) with h | h
  · have h4 : OvR a b c s (n * (0 - u) - l) (0 - u) := Ov.le R.n (by have := R.ha; omega) (by decide) (show 0 < 0 - u by omega) h (by omega)
    exact ⟨fun _ => .inl h, fun _ => (h1 h).mpr (e.mpr h4)⟩
  · rcases root_tri (u := n * (0 - u) - l) R (show 0 < 0 - u by omega) with h4 | h4
    · have h5 := (h2 h).mpr (e.mpr h4)
      exact ⟨fun x => absurd h5 x.not, fun x => x.elim (fun y => absurd h y.not) (fun y => absurd y h4.not)⟩
    · refine ⟨fun _ => .inr h4, fun _ => ?_⟩
      rcases root_tri (u := u) (tn_isR n R) hl with h6 | h6
      · exact h6
      · exact absurd h4 (e.mp ((h2 h).mp h6)).not
end RR
/-! RRT: the promises of the defs over roots, and of the defs that take any thing. -/
namespace RR
open PySem PySem.Spec PyProof.Rows L2
/-- what is no whole number -/
def NotWh (x : V) : Prop := (∃ b, x = .bl b) ∨ ∃ z, x = .str z
def sp_isw : Sp := fun vs H Q _ => ∃ x, vs = [x] ∧ ((∃ z, x = .int z ∧ Q (.bl true) H) ∨ (NotWh x ∧ Q (.bl false) H))
def BadT (xs : List V) : Prop := xs.length ≠ 2 ∨ (∃ y z, xs = [y, z] ∧ NotWh y) ∨ (∃ y z, xs = [.int y, z] ∧ NotWh z) ∨ ∃ y z, xs = [.int y, .int z] ∧ (z < 1 ∨ dv y z ≠ 1)
def NotTup (K : PySem.W.Frag) (H : Hp) (x : V) : Prop := ∃ t, TyX K H x t ∧ PySem.W.kitOne K t (.type "tuple") = some false
def NotFr (K : PySem.W.Frag) (H : Hp) (x : V) : Prop := NotTup K H x ∨ ∃ a xs, x = .ref a ∧ H a = some (.tup xs) ∧ BadT xs
def sp_is_fraction (K : PySem.W.Frag) : Sp := fun vs H Q _ => ∃ x, vs = [x] ∧ ((NotFr K H x ∧ Q (.bl false) H) ∨ ∃ a y z, x = .ref a ∧ H a = some (tI [y, z]) ∧ 1 ≤ z ∧ dv y z = 1 ∧ Q (.bl true) H)
theorem notTup_non {K : PySem.W.Frag} {H : Hp} : NotTup K H .non := ⟨_, .base .non, kit_ty (by decide +kernel)⟩
theorem notTup_int {K : PySem.W.Frag} {H : Hp} (n : Int) : NotTup K H (.int n) := ⟨_, .base (.int n), kit_ty (by decide +kernel)⟩
theorem notTup_lst {K : PySem.W.Frag} {H : Hp} {a : Addr} {xs : List V} (e : H a = some (.lst xs)) : NotTup K H (.ref a) := ⟨_, .base (.lst e), kit_ty (by decide +kernel)⟩
/-- least_square -/
def sp_least_square : Sp := fun vs H Q _ => ∃ n : Int, vs = [.int n] ∧ 0 ≤ n ∧ Big n ∧ Q (.int (rt n)) H
/-- within a thousand bits -/
structure Sm (x : Int) : Prop where
  lt : x.natAbs < 2 ^ 1000
theorem Sm.big {x : Int} (h : Sm x) : Big x := ⟨Nat.lt_of_lt_of_le h.lt (Nat.pow_le_pow_right (by decide) (by decide))⟩
theorem sm_of {x : Int} (h : x.natAbs < 2 ^ 60) : Sm x := ⟨Nat.lt_of_lt_of_le h (Nat.pow_le_pow_right (by decide) (by decide))⟩
theorem sm_le {x y : Int} (h : x.natAbs ≤ y.natAbs) (hy : Sm y) : Sm x := ⟨Nat.lt_of_le_of_lt h hy.lt⟩
theorem nat_mul_lt {x y : Int} {m n : Nat} (h : x.natAbs < 2 ^ m) (k : y.natAbs < 2 ^ n) : (x * y).natAbs < 2 ^ (m + n) := by
  rw [Int.natAbs_mul, Nat.pow_add]
  exact Nat.mul_lt_mul'' h k
theorem nat_add_lt {x y : Int} {m : Nat} (h : x.natAbs < 2 ^ m) (k : y.natAbs < 2 ^ m) : (x + y).natAbs < 2 ^ (m + 1) := by
  have := Int.natAbs_add_le x y
  rw [Nat.pow_succ]
  omega
theorem nat_sub_lt {x y : Int} {m : Nat} (h : x.natAbs < 2 ^ m) (k : y.natAbs < 2 ^ m) : (x - y).natAbs < 2 ^ (m + 1) := by
  rw [Int.sub_eq_add_neg]
  exact nat_add_lt h (by rw [Int.natAbs_neg]; exact k)
theorem nat_mono {x : Int} {m n : Nat} (h : x.natAbs < 2 ^ m) (k : m ≤ n) : x.natAbs < 2 ^ n := Nat.lt_of_lt_of_le h (Nat.pow_le_pow_right (by decide) k)
/-- products of numbers within a hundred thousand bits each -/
theorem mulW_of {x y : Int} {m n : Nat} (h : x.natAbs < 2 ^ m) (k : y.natAbs < 2 ^ n) (hm : m ≤ 100000 := by decide) (hn : n ≤ 100000 := by decide) : CMulW x y := by
  have h3 := PySem.Flt.log2_lt_of (n := x.natAbs) (k := m + 1) (by omega) (nat_mono h (by omega))
  have h4 := PySem.Flt.log2_lt_of (n := y.natAbs) (k := n + 1) (by omega) (nat_mono k (by omega))
  unfold CMulW
  omega
theorem ht_big {a b c : Int} (ha : Sm a) (hb : Sm b) (hc : Sm c) : Big (ht a b c) := by
  refine ⟨nat_mono (m := 2004) (nat_sub_lt (m := 2003) (nat_mono (nat_mul_lt hb.lt hb.lt) (by decide)) (nat_mono (nat_mul_lt (m := 1003) (nat_mul_lt (m := 3) (by decide) ha.lt) hc.lt) (by decide))) (by decide)⟩
/-- heart -/
def sp_heart : Sp := fun vs H Q _ => ∃ a b c : Int, vs = [.int a, .int b, .int c] ∧ Sm a ∧ Sm b ∧ Sm c ∧ Q (.int (ht a b c)) H
/-- is_square -/
def sp_is_square : Sp := fun vs H Q _ => ∃ n : Int, vs = [.int n] ∧ 0 ≤ n ∧ Big n ∧ Q (.bl (isSq n)) H
/-- three whole numbers made lowest, the first above 0 -/
def nfA (a b c : Int) : Int := if a < 0 then -(a / dv (dv a b) c) else a / dv (dv a b) c
def nfB (a b c : Int) : Int := if a < 0 then -(b / dv (dv a b) c) else b / dv (dv a b) c
def nfC (a b c : Int) : Int := if a < 0 then -(c / dv (dv a b) c) else c / dv (dv a b) c
def NoRoot (a b c : Int) : Prop := a = 0 ∨ ht a b c < 0 ∨ isSq (ht a b c) = true
theorem not_noRoot {a b c : Int} (h : Ns (ht a b c)) : ¬ NoRoot a b c := by
  rintro (rfl | z | z)
  · have := h.no
    rw [isSq_of (x := b) (by unfold ht; simp)] at this
    cases this
  · have := h.pos
    omega
  · rw [h.no] at z
    cases z
theorem ns_of {a b c : Int} (h : ¬ NoRoot a b c) : Ns (ht a b c) := by
  have h2 : isSq (ht a b c) = false := by
    cases e : isSq (ht a b c) with
    | false => rfl
    | true => exact absurd (.inr (.inr e)) h
  refine ⟨?_, h2⟩
  have h3 : ¬ ht a b c < 0 := fun z => h (.inr (.inl z))
  have h4 : ht a b c ≠ 0 := fun z => by
    rw [z, show isSq 0 = true from isSq_of (x := 0) rfl] at h2
    cases h2
  omega
def sp_root_of (C : Addr) : Sp := fun vs H Q E => ∃ a b c s : Int, vs = [.int a, .int b, .int c, .int s] ∧ Sm a ∧ Sm b ∧ Sm c ∧ (NoRoot a b c → E (.ref C) none H) ∧
  (¬ NoRoot a b c → ∀ p, H p = none → Q (.ref p) (upd H p (tI [nfA a b c, nfB a b c, nfC a b c, s])))
def NotR4 (a b c s : Int) : Prop := a < 1 ∨ ¬ (s = 0 ∨ s = 1) ∨ dv (dv a b) c ≠ 1 ∨ ht a b c ≤ 0 ∨ isSq (ht a b c) = true
def BadR (xs : List V) : Prop := xs.length ≠ 4 ∨ ((∀ x ∈ xs, NotWh x ∨ ∃ n, x = .int n) ∧ xs.length = 4 ∧ ∃ x ∈ xs, NotWh x) ∨ ∃ a b c s, xs = [.int a, .int b, .int c, .int s] ∧ Sm a ∧ Sm b ∧ Sm c ∧ NotR4 a b c s
def NotRoot (K : PySem.W.Frag) (H : Hp) (x : V) : Prop := NotTup K H x ∨ ∃ r xs, x = .ref r ∧ H r = some (.tup xs) ∧ BadR xs
def sp_is_root (K : PySem.W.Frag) : Sp := fun vs H Q _ => ∃ x, vs = [x] ∧ ((NotRoot K H x ∧ ∀ H', Same H H' → Q (.bl false) H') ∨ ∃ r a b c s, x = .ref r ∧ H r = some (tI [a, b, c, s]) ∧ IsR a b c s ∧ Sm a ∧ Sm b ∧ Sm c ∧ ∀ H', Same H H' → Q (.bl true) H')
def sp_other_root : Sp := fun vs H Q _ => ∃ (r : Addr) (a b c s : Int), vs = [.ref r] ∧ H r = some (tI [a, b, c, s]) ∧ ∀ H' p, Same H H' → H p = none → H' p = some (tI [a, b, c, 1 - s]) → Q (.ref p) H'
/-- whether it is a whole number -/
def isI : V → Bool
  | .int _ => true
  | _ => false
/-- root_of, or "none" -/
def sp_said : Sp := fun vs H Q _ => ∃ a b c s : Int, vs = [.int a, .int b, .int c, .int s] ∧ Sm a ∧ Sm b ∧ Sm c ∧ (NoRoot a b c → ∀ H', Same H H' → Q (.str "none") H') ∧
  (¬ NoRoot a b c → ∀ H' p, Same H H' → H p = none → H' p = some (tI [nfA a b c, nfB a b c, nfC a b c, s]) → Q (.ref p) H')
end RR
/-! RRN: three whole numbers made lowest: plain mathematics. -/
namespace RR
theorem dv_mul (a b k : Int) (hk : 0 ≤ k) : dv (a * k) (b * k) = dv a b * k := by
  unfold dv
  rw [Int.gcd_mul_right]
  rw [Int.natCast_mul, Int.natAbs_of_nonneg hk]
theorem dv3_mul (a b c k : Int) (hk : 0 ≤ k) : dv (dv (a * k) (b * k)) (c * k) = dv (dv a b) c * k := by
  rw [dv_mul a b k hk, dv_mul _ _ k hk]
theorem ht_mul (a b c k : Int) : ht (a * k) (b * k) (c * k) = (k * k) * ht a b c := by
  unfold ht
  grind
theorem dv3_pos {a b c : Int} (h : a ≠ 0) : 0 < dv (dv a b) c := dv_pos_left (by have := dv_pos_left (b := b) h; omega)
/-- a root's numbers out of others: what is divided away -/
theorem nf_eq {a b c : Int} (h : a ≠ 0) : ∃ k : Int, k ≠ 0 ∧ a = nfA a b c * k ∧ b = nfB a b c * k ∧ c = nfC a b c * k ∧ 0 < nfA a b c ∧ dv (dv (nfA a b c) (nfB a b c)) (nfC a b c) = 1 ∧ k.natAbs = (dv (dv a b) c).natAbs ∧ (0 < a → 0 < k) ∧ (a < 0 → k < 0) := by
  have hg := dv3_pos (b := b) (c := c) h
  obtain ⟨d1, d2, d3⟩ := dv3_dvd a b c
  have h1 : dv (dv (a / dv (dv a b) c) (b / dv (dv a b) c)) (c / dv (dv a b) c) = 1 := by
    have e := dv3_mul (a / dv (dv a b) c) (b / dv (dv a b) c) (c / dv (dv a b) c) (dv (dv a b) c) (by omega)
    rw [Int.ediv_mul_cancel d1, Int.ediv_mul_cancel d2, Int.ediv_mul_cancel d3] at e
    have e2 : 1 * dv (dv a b) c = dv (dv (a / dv (dv a b) c) (b / dv (dv a b) c)) (c / dv (dv a b) c) * dv (dv a b) c := by
      rw [Int.one_mul]
      exact e
    exact (Int.eq_of_mul_eq_mul_right (by omega) e2).symm
  have e1 := Int.ediv_mul_cancel d1
  have e2 := Int.ediv_mul_cancel d2
  have e3 := Int.ediv_mul_cancel d3
  unfold nfA nfB nfC
  generalize dv (dv a b) c = g at *
  generalize a / g = x at *
  generalize b / g = y at *
  generalize c / g = z at *
  split
  · rename_i ha
    refine ⟨-g, by omega, by rw [Int.neg_mul_neg]; exact e1.symm, by rw [Int.neg_mul_neg]; exact e2.symm, by rw [Int.neg_mul_neg]; exact e3.symm, ?_, by rw [dv_neg_left, dv_neg_right, dv_neg_right]; exact h1, by omega, by omega, by omega⟩
    have : ¬ 0 ≤ x := fun hx => by
      have := Int.mul_nonneg hx (show 0 ≤ g by omega)
      omega
    omega
  · rename_i ha
    refine ⟨g, by omega, e1.symm, e2.symm, e3.symm, ?_, h1, by omega, by omega, by omega⟩
    have : ¬ x ≤ 0 := fun hx => by
      have := Int.mul_nonneg (show 0 ≤ -x by omega) (show 0 ≤ g by omega)
      rw [Int.neg_mul] at this
      omega
    omega
theorem ns_mul {d k : Int} (hk : k ≠ 0) : Ns (k * k * d) ↔ Ns d := by
  have hp := sqp hk
  constructor
  · rintro ⟨h1, h2⟩
    refine ⟨?_, ?_⟩
    · by_cases h : 0 < d
      · exact h
      · exfalso
        have := Int.mul_nonneg (Int.le_of_lt hp) (show 0 ≤ -d by omega)
        rw [Int.mul_neg] at this
        omega
    · cases e : isSq d with
      | false => rfl
      | true =>
        have e2 : rt d * rt d = d := of_decide_eq_true e
        have h3 := isSq_of (n := k * k * d) (x := k * rt d) (by
          have : k * rt d * (k * rt d) = k * k * (rt d * rt d) := by grind
          rw [this, e2])
        rw [h2] at h3
        cases h3
  · rintro ⟨h1, h2⟩
    refine ⟨Int.mul_pos hp h1, ?_⟩
    cases e : isSq (k * k * d) with
    | false => rfl
    | true =>
      have e2 : rt (k * k * d) * rt (k * k * d) = k * k * d := of_decide_eq_true e
      exact absurd (no_sq h2 (x := rt (k * k * d)) (y := k) (by rw [e2, Int.mul_comm])) hk
theorem noRoot_iff (a b c : Int) : NoRoot a b c ↔ ¬ Ns (ht a b c) ∨ a = 0 := by
  constructor
  · rintro (h | h | h)
    · exact .inr h
    · exact .inl fun z => by have := z.pos; omega
    · exact .inl fun z => by rw [z.no] at h; cases h
  · rintro (h | h)
    · by_cases h1 : NoRoot a b c
      · exact h1
      · exact absurd (ns_of h1) h
    · exact .inl h
theorem noRoot_mul {a b c k : Int} (hk : k ≠ 0) : NoRoot (a * k) (b * k) (c * k) ↔ NoRoot a b c := by
  rw [noRoot_iff, noRoot_iff, ht_mul, ns_mul hk, Int.mul_eq_zero]
  constructor
  · rintro (h | h | h)
    · exact .inl h
    · exact .inr h
    · exact absurd h hk
  · rintro (h | h)
    · exact .inl h
    · exact .inr (.inl h)
theorem nf_isR {a b c s : Int} (h : ¬ NoRoot a b c) (hs : s = 0 ∨ s = 1) : IsR (nfA a b c) (nfB a b c) (nfC a b c) s := by
  have ha : a ≠ 0 := fun z => h (.inl z)
  obtain ⟨k, hk, e1, e2, e3, hp, hd, _⟩ := nf_eq (b := b) (c := c) ha
  refine ⟨hp, hs, hd, ?_⟩
  have hn := ns_of h
  have e : ht a b c = (k * k) * ht (nfA a b c) (nfB a b c) (nfC a b c) := by
    have h2 := ht_mul (nfA a b c) (nfB a b c) (nfC a b c) k
    rw [← e1, ← e2, ← e3] at h2
    exact h2
  rw [e] at hn
  exact (ns_mul hk).mp hn
theorem nf_mul {a b c k : Int} (ha : a ≠ 0) (hk : 0 < k) : nfA (a * k) (b * k) (c * k) = nfA a b c ∧ nfB (a * k) (b * k) (c * k) = nfB a b c ∧ nfC (a * k) (b * k) (c * k) = nfC a b c := by
  have hg := dv3_pos (b := b) (c := c) ha
  have hs : (a * k < 0) ↔ a < 0 := by
    constructor
    · intro h
      by_cases h2 : a < 0
      · exact h2
      · have := Int.mul_nonneg (show 0 ≤ a by omega) (Int.le_of_lt hk)
        omega
    · intro h
      exact Int.mul_neg_of_neg_of_pos h hk
  have hd : ∀ x : Int, x * k / (dv (dv a b) c * k) = x / dv (dv a b) c := fun x => Int.mul_ediv_mul_of_pos_left x _ hk
  unfold nfA nfB nfC
  rw [dv3_mul a b c k (Int.le_of_lt hk), hd, hd, hd]
  by_cases h : a < 0
  · rw [if_pos h, if_pos (hs.mpr h), if_pos h, if_pos (hs.mpr h), if_pos h, if_pos (hs.mpr h)]
    exact ⟨rfl, rfl, rfl⟩
  · rw [if_neg h, if_neg (fun z => h (hs.mp z)), if_neg h, if_neg (fun z => h (hs.mp z)), if_neg h, if_neg (fun z => h (hs.mp z))]
    exact ⟨rfl, rfl, rfl⟩
theorem nf_abs {a b c : Int} (ha : a ≠ 0) : (nfA a b c).natAbs ≤ a.natAbs ∧ (nfB a b c).natAbs ≤ b.natAbs ∧ (nfC a b c).natAbs ≤ c.natAbs := by
  obtain ⟨k, hk, e1, e2, e3, _⟩ := nf_eq (b := b) (c := c) ha
  have h1 : 1 ≤ k.natAbs := by omega
  have key : ∀ x y : Int, x = y * k → y.natAbs ≤ x.natAbs := fun x y e => by
    rw [e, Int.natAbs_mul]
    exact Nat.le_mul_of_pos_right _ h1
  exact ⟨key _ _ e1, key _ _ e2, key _ _ e3⟩
end RR
/-! RRP: the promises of part_of, moved, turned, is_above and of the laws' draws. -/
namespace RR
open PySem PySem.Spec PyProof.Rows L2
/-- within three hundred bits -/
structure S3 (x : Int) : Prop where
  lt : x.natAbs < 2 ^ 300
theorem S3.sm {x : Int} (h : S3 x) : Sm x := ⟨nat_mono h.lt (by decide)⟩
theorem s3_of {x : Int} (h : x.natAbs < 2 ^ 60) : S3 x := ⟨nat_mono h (by decide)⟩
theorem s3_le {x y : Int} (h : x.natAbs ≤ y.natAbs) (hy : S3 y) : S3 x := ⟨Nat.lt_of_le_of_lt h hy.lt⟩
def sp_part_of : Sp := fun vs H Q _ => ∃ r : Addr, vs = [.ref r] ∧ ((∃ u l : Int, H r = some (tI [u, l]) ∧ 0 < l ∧ Big l ∧ Q (.int (u / l)) H) ∨
  ∃ a b c s : Int, H r = some (tI [a, b, c, s]) ∧ 0 < a ∧ 0 ≤ ht a b c ∧ Sm a ∧ Sm b ∧ Sm c ∧ Q (.int (partR a b c s)) H)
def sp_moved : Sp := fun vs H Q _ => ∃ (r : Addr) (a b c s n : Int), vs = [.ref r, .int n] ∧ H r = some (tI [a, b, c, s]) ∧ S3 a ∧ S3 b ∧ S3 c ∧ S3 n ∧ ∀ p, H p = none → Q (.ref p) (upd H p (tI [a, b + 2 * a * n, mvC a b c n, s]))
def sp_turned : Sp := fun vs H Q _ => ∃ (r : Addr) (a b c s n : Int), vs = [.ref r, .int n] ∧ H r = some (tI [a, b, c, s]) ∧ IsR a b c s ∧ S3 a ∧ S3 b ∧ S3 c ∧ S3 n ∧
  ∀ H' p, Same H H' → H p = none → H' p = some (tI [tnA a b c n, tnB a b c n, tnC a b c n, tnS a b c s n]) → Q (.ref p) H'
def sp_above : Sp := fun vs H Q _ => ∃ (r : Addr) (a b c s u l : Int), vs = [.ref r, .int u, .int l] ∧ H r = some (tI [a, b, c, s]) ∧ (s = 0 ∨ s = 1) ∧ Sm a ∧ Sm b ∧ Sm c ∧ Sm u ∧ Sm l ∧ Q (.bl (ab a b c s u l)) H
/-- a drawn root -/
def sp_root : Sp := fun vs H Q _ => ∃ c o w : Int, vs = [.int c, .int o, .int w] ∧ 2 ≤ w ∧ w ≤ 1000 ∧ ∀ a b c s H' p, IsR a b c s → a ≤ w → -w ≤ b → b ≤ w → -w ≤ c → c ≤ w → Same H H' → H p = none → H' p = some (tI [a, b, c, s]) → Q (.ref p) H'
theorem len3 {α : Type} {a b c : α} : [a, b, c].length ≤ sizeLine := small_le (show 3 ≤ 10000000 by decide)
theorem mix_rng {c p m : Int} (hm : 0 < m) : 0 ≤ mix c p m ∧ mix c p m < m := ⟨Int.emod_nonneg _ (by omega), Int.emod_lt_of_pos _ hm⟩
theorem mv_s3 {a b c n : Int} (ha : S3 a) (hb : S3 b) (hc : S3 c) (hn : S3 n) : Sm (b + 2 * a * n) ∧ Sm (mvC a b c n) := by
  have h1 := nat_mul_lt ha.lt hn.lt
  refine ⟨⟨?_⟩, ⟨?_⟩⟩
  · exact nat_mono (nat_add_lt (m := 603) (nat_mono hb.lt (by decide)) (nat_mono (nat_mul_lt (nat_mul_lt (m := 2) (by decide) ha.lt) hn.lt) (by decide))) (by decide)
  · exact nat_mono (nat_add_lt (m := 901) (nat_add_lt (m := 900) (nat_mono (nat_mul_lt h1 hn.lt) (by decide)) (nat_mono (nat_mul_lt hb.lt hn.lt) (by decide))) (nat_mono hc.lt (by decide))) (by decide)
theorem ht_rev (a b c : Int) : ht c b a = ht a b c := by
  unfold ht
  grind
theorem tn_nf {a b c s : Int} (n : Int) (R : IsR a b c s) : ¬ NoRoot (mvC a b c n) (b + 2 * a * n) a ∧ nfA (mvC a b c n) (b + 2 * a * n) a = tnA a b c n ∧ nfB (mvC a b c n) (b + 2 * a * n) a = tnB a b c n ∧ nfC (mvC a b c n) (b + 2 * a * n) a = tnC a b c n := by
  have h0 := mvC_ne (n := n) R.n
  have hg := mv_dv n R.g
  refine ⟨?_, ?_, ?_, ?_⟩
  · rw [noRoot_iff, ht_rev, mv_ht]
    rintro (h | h)
    · exact h R.n
    · exact h0 h
  all_goals
    first | unfold nfA tnA | unfold nfB tnB | unfold nfC tnC
    rw [hg, Int.ediv_one]
    by_cases h : 0 < mvC a b c n
    · rw [if_pos h, if_neg (by omega)]
    · rw [if_neg h, if_pos (by omega)]
end RR
/-! RRO: the row of a root: how it goes on; the promise of rounds_of. -/
namespace RR
open PySem PySem.Spec PyProof.Rows L2
/-- four numbers of a root -/
structure R4 where
  a : Int
  b : Int
  c : Int
  s : Int
deriving DecidableEq
def R4.l (r : R4) : List Int := [r.a, r.b, r.c, r.s]
def R4.k (r : R4) : List Key := [.inl r.a, .inl r.b, .inl r.c, .inl r.s]
theorem R4.k_inj {r t : R4} (h : r.k = t.k) : r = t := by
  obtain ⟨a, b, c, s⟩ := r
  obtain ⟨a', b', c', s'⟩ := t
  simp only [R4.k, List.cons.injEq, Sum.inl.injEq, and_true] at h
  obtain ⟨rfl, rfl, rfl, rfl⟩ := h
  rfl
def R4.Is (r : R4) : Prop := IsR r.a r.b r.c r.s
def R4.prt (r : R4) : Int := partR r.a r.b r.c r.s
def R4.tn (r : R4) (n : Int) : R4 := ⟨tnA r.a r.b r.c n, tnB r.a r.b r.c n, tnC r.a r.b r.c n, tnS r.a r.b r.c r.s n⟩
def R4.nx (r : R4) : R4 := r.tn r.prt
def orb (r : R4) : Nat → R4
  | 0 => r
  | k + 1 => (orb r k).nx
theorem orb_is {r : R4} (h : r.Is) : ∀ k, (orb r k).Is
  | 0 => h
  | k + 1 => tn_isR _ (orb_is h k)
theorem orb_add (r : R4) (i : Nat) : ∀ k, orb r (i + k) = orb (orb r i) k
  | 0 => rfl
  | k + 1 => congrArg R4.nx (orb_add r i k)
/-- the parts from the i-th on, n of them -/
def prts (r : R4) (i n : Nat) : List Int := (List.range' i n).map fun k => (orb r k).prt
/-- within three hundred bits, all of it -/
structure S4 (r : R4) : Prop where
  a : S3 r.a
  b : S3 r.b
  c : S3 r.c
  p : S3 r.prt
theorem valV_range {κ : Type} [DecidableEq κ] {f : Nat → κ} {x : κ} : ∀ n : Nat, (∀ m, m < n → f m ≠ x) → valV ((List.range n).map fun m => (f m, V.int m)) x = none
  | 0, _ => rfl
  | n + 1, h => by
    rw [List.range_succ, List.map_append, List.map_cons, List.map_nil]
    have ih := valV_range n fun m hm => h m (by omega)
    rw [valV]
    rw [List.find?_append]
    rw [valV, Option.map_eq_none_iff] at ih
    rw [ih]
    have : ¬ f n = x := h n (by omega)
    simp [this]
theorem valV_at {κ : Type} [DecidableEq κ] {f : Nat → κ} {x : κ} {i : Nat} : ∀ n : Nat, i < n → f i = x → (∀ m, m < n → f m = x → m = i) → valV ((List.range n).map fun m => (f m, V.int m)) x = some (.int i)
  | 0, h, _, _ => absurd h (Nat.not_lt_zero _)
  | n + 1, hi, hx, hu => by
    rw [List.range_succ, List.map_append, List.map_cons, List.map_nil]
    rw [valV, List.find?_append]
    by_cases h : i < n
    · have ih := valV_at n h hx fun m hm e => hu m (by omega) e
      rw [valV] at ih
      obtain ⟨p, hp, e⟩ := Option.map_eq_some_iff.mp ih
      rw [hp, Option.some_or, Option.map_some, e]
    · have e : i = n := by omega
      subst e
      have ih := valV_range i (f := f) (x := x) fun m hm e => by have := hu m (by omega) e; omega
      rw [valV, Option.map_eq_none_iff] at ih
      rw [ih]
      simp [hx]
theorem room1 {k : Nat} {A : Around} (r : Room k A) : A.units + 1 < cLine := by
  have := r.units
  omega
def sp_rounds_of : Sp := fun vs H Q _ => ∃ (t : Addr) (r : R4), vs = [.ref t] ∧ H t = some (tI r.l) ∧ r.Is ∧ ∃ i j : Nat, i < j ∧ j ≤ 1000000 ∧ orb r j = orb r i ∧ (∀ k m, k < m → m < j → orb r k ≠ orb r m) ∧ (∀ k, k < j → S4 (orb r k)) ∧
  ∀ H' p t1 t2, Same H H' → H p = none → H t1 = none → H t2 = none → H' p = some (.tup [.ref t1, .ref t2]) → H' t1 = some (tI (prts r 0 i)) → H' t2 = some (tI (prts r i (j - i))) → Q (.ref p) H'
end RR
/-! RRG: two unlike roots have a fraction between them; how the numbers of a row's roots grow. -/
namespace RR
theorem isSq_false_ne {n x : Int} (h : isSq n = false) : x * x ≠ n := fun z => by
  have h2 := isSq_of z
  rw [h] at h2
  cases h2
/-- z plus n times the root -/
theorem ps_upN {d z n : Int} (h : Ns d) (hn : 0 < n) (k : -(rt (n * n * d)) ≤ z) : Ps d z n := by
  have hs := (ns_mul (show n ≠ 0 by omega)).mpr h
  have h0 := rt_spec (Int.le_of_lt hs.pos)
  have e0 : d * (n * n) = n * n * d := Int.mul_comm _ _
  unfold Ps nm
  rw [e0]
  by_cases e : z * z < n * n * d
  · right; omega
  · left
    have e2 : z * z ≠ n * n * d := isSq_false_ne hs.no
    refine ⟨by omega, ?_⟩
    by_cases e3 : 0 < z
    · exact e3
    · have := Int.mul_self_le_mul_self (show 0 ≤ -z by omega) (show -z ≤ rt (n * n * d) by omega)
      rw [Int.neg_mul_neg] at this
      omega
theorem ps_dnN {d z n : Int} (h : Ns d) (hn : 0 < n) (k : rt (n * n * d) + 1 ≤ z) : Ps d z (-n) := by
  have hs := (ns_mul (show n ≠ 0 by omega)).mpr h
  have h0 := rt_spec (Int.le_of_lt hs.pos)
  have := Int.mul_self_le_mul_self (show 0 ≤ rt (n * n * d) + 1 by omega) k
  left
  unfold nm
  rw [Int.neg_mul_neg, show d * (n * n) = n * n * d from Int.mul_comm _ _]
  omega
/-- the whole part of n times a root -/
theorem floorN {a b c s n : Int} (R : IsR a b c s) (hn : 0 < n) : ∃ u, OvR a b c s u n ∧ BeR a b c s (u + 1) n := by
  have hd := R.n
  have ha := R.ha
  unfold OvR BeR Ov Be
  generalize ht a b c = d at *
  rcases R.hs with rfl | rfl
  · obtain ⟨h1, h2⟩ := fl (x := 0 - rt (n * n * d) - 1 - b * n) (y := 2 * a) (by omega)
    generalize (0 - rt (n * n * d) - 1 - b * n) / (2 * a) = z at *
    refine ⟨z, ?_, ?_⟩
    · rw [show sg 0 * n = -n by unfold sg; omega]
      exact ps_dnN hd hn (by rw [Int.neg_mul]; omega)
    · rw [show -(sg 0 * n) = n by unfold sg; omega]
      exact ps_upN hd hn (by rw [Int.neg_mul]; omega)
  · obtain ⟨h1, h2⟩ := fl (x := rt (n * n * d) - b * n) (y := 2 * a) (by omega)
    generalize (rt (n * n * d) - b * n) / (2 * a) = z at *
    refine ⟨z, ?_, ?_⟩
    · rw [show sg 1 * n = n by unfold sg; omega]
      exact ps_upN hd hn (by rw [Int.neg_mul]; omega)
    · rw [show -(sg 1 * n) = -n by unfold sg; omega]
      exact ps_dnN hd hn (by rw [Int.neg_mul]; omega)
theorem ab_sq (x : Int) : (x.natAbs : Int) * x.natAbs = x * x := by
  rcases Int.natAbs_eq x with h | h
  · rw [← h]
  · conv => rhs; rw [h]
    rw [Int.neg_mul_neg]
/-- how small a form is at the whole part -/
theorem form_small {a b c s u n : Int} (R : IsR a b c s) (hn : 0 < n) (h1 : OvR a b c s u n) (h2 : BeR a b c s (u + 1) n) :
    ((2 * a * u + b * n) * (2 * a * u + b * n) - ht a b c * (n * n)).natAbs ≤ 4 * a * (2 * a * u + b * n).natAbs + 4 * a * a := by
  have ha := R.ha
  have hsg := sg_sq R.hs
  unfold OvR Ov Ps at h1
  unfold BeR Be Ps at h2
  have e1 : nm (ht a b c) (-b * n - u * (2 * a)) (sg s * n) = (2 * a * u + b * n) * (2 * a * u + b * n) - ht a b c * (n * n) := by
    unfold nm
    have : sg s * n * (sg s * n) = sg s * sg s * (n * n) := by grind
    rw [this, hsg]
    grind
  have e2 : nm (ht a b c) ((u + 1) * (2 * a) - -b * n) (-(sg s * n)) = (2 * a * u + b * n) * (2 * a * u + b * n) - ht a b c * (n * n) + 4 * a * (2 * a * u + b * n) + 4 * a * a := by
    unfold nm
    have : -(sg s * n) * -(sg s * n) = sg s * sg s * (n * n) := by grind
    rw [this, hsg]
    grind
  rw [e1] at h1
  rw [e2] at h2
  have hdn : 0 ≤ ht a b c * (n * n) := Int.mul_nonneg (Int.le_of_lt R.n.pos) (sqn n)
  have hw1 : -b * n - u * (2 * a) = -(2 * a * u + b * n) := by grind
  have hw2 : (u + 1) * (2 * a) - -b * n = 2 * a * u + b * n + 2 * a := by grind
  rw [hw1] at h1
  rw [hw2] at h2
  generalize 2 * a * u + b * n = w at *
  have hsq : ∀ x : Int, -2 * a < x → x < 2 * a → x * x ≤ 4 * a * a := fun x k1 k2 => by
    have := Int.mul_self_le_mul_self (a := x.natAbs) (b := 2 * a) (by omega) (by omega)
    rw [ab_sq] at this
    have e : 2 * a * (2 * a) = 4 * a * a := by grind
    omega
  have hpos : 0 ≤ 4 * a * (w.natAbs : Int) := Int.mul_nonneg (by omega) (by omega)
  have haa : 0 ≤ 4 * a * a := Int.mul_nonneg (by omega) (by omega)
  have hwa : 4 * a * w ≤ 4 * a * (w.natAbs : Int) := Int.mul_le_mul_of_nonneg_left (by omega) (by omega)
  have hwb : -(4 * a * w) ≤ 4 * a * (w.natAbs : Int) := by
    have : 4 * a * (-w) ≤ 4 * a * (w.natAbs : Int) := Int.mul_le_mul_of_nonneg_left (by omega) (by omega)
    rw [Int.mul_neg] at this
    exact this
  generalize ht a b c * (n * n) = dn at *
  have hyn : (0 < sg s * n ∧ ¬ 0 < -(sg s * n)) ∨ (¬ 0 < sg s * n ∧ 0 < -(sg s * n)) := by
    rcases R.hs with rfl | rfl <;> (unfold sg; omega)
  have hs1 := hsq w
  generalize sg s * n = y at *
  omega
/-- and how great its slope -/
theorem slope_small {a b c s u n : Int} (R : IsR a b c s) (hn : 0 < n) (h1 : OvR a b c s u n) (h2 : BeR a b c s (u + 1) n) :
    ((2 * a * u + b * n).natAbs : Int) < ht a b c * n + 5 * a := by
  have h := form_small R hn h1 h2
  have ha := R.ha
  have hd := R.n.pos
  generalize 2 * a * u + b * n = w at *
  rw [← ab_sq w] at h
  generalize ht a b c = d at *
  have hw : 0 ≤ (w.natAbs : Int) := Int.natCast_nonneg _
  generalize hx : (w.natAbs : Int) = x at *
  by_cases k : x < d * n + 5 * a
  · exact k
  exfalso
  have k' : d * n + 5 * a ≤ x := by omega
  have hdn : 0 < d * n := Int.mul_pos hd hn
  have e1 : (d * n + 5 * a) * x ≤ x * x := Int.mul_le_mul_of_nonneg_right k' hw
  have e2 : (d * n + a) * (d * n + 5 * a) ≤ (d * n + a) * x := Int.mul_le_mul_of_nonneg_left k' (by omega)
  have e3 : (d * n + 5 * a) * x = 4 * a * x + (d * n + a) * x := by grind
  have e4 : (d * n + a) * (d * n + 5 * a) = d * n * (d * n) + 6 * a * (d * n) + 5 * a * a := by grind
  have e5 : d * (n * n) ≤ d * n * (d * n) := by
    have : d * n * (d * n) = d * (d * (n * n)) := by grind
    rw [this]
    have h3 : 1 * (d * (n * n)) ≤ d * (d * (n * n)) := Int.mul_le_mul_of_nonneg_right (by omega) (Int.mul_nonneg (by omega) (sqn n))
    omega
  have e6 : 0 < 6 * a * (d * n) := Int.mul_pos (by omega) hdn
  have e7 : 0 < a * a := Int.mul_pos ha ha
  have e8 : 4 * a * a = 4 * (a * a) := by grind
  have e9 : 5 * a * a = 5 * (a * a) := by grind
  omega
theorem natAbs_mul_pos {a x : Int} (ha : 0 < a) : ((a * x).natAbs : Int) = a * (x.natAbs : Int) := by
  rw [Int.natAbs_mul, Int.natCast_mul, Int.natAbs_of_nonneg (Int.le_of_lt ha)]
theorem fm_small {a b c s u n : Int} (R : IsR a b c s) (hn : 0 < n) (h1 : OvR a b c s u n) (h2 : BeR a b c s (u + 1) n) : ((fm a b c u n).natAbs : Int) ≤ (ht a b c + 6 * a) * n := by
  have h := form_small R hn h1 h2
  have hs := slope_small R hn h1 h2
  have ha := R.ha
  have e : (2 * a * u + b * n) * (2 * a * u + b * n) - ht a b c * (n * n) = 4 * a * fm a b c u n := by
    unfold ht fm
    grind
  rw [e, natAbs_mul_pos (show 0 < 4 * a by omega)] at h
  generalize ((2 * a * u + b * n).natAbs : Int) = x at *
  generalize ((fm a b c u n).natAbs : Int) = y at *
  have h3 : 4 * a * y ≤ 4 * a * (x + a) := by
    have : 4 * a * (x + a) = 4 * a * x + 4 * a * a := by grind
    omega
  have h4 := Int.le_of_mul_le_mul_left h3 (by omega)
  have h5 : a * 1 ≤ a * n := Int.mul_le_mul_of_nonneg_left (by omega) (Int.le_of_lt ha)
  have h6 : (ht a b c + 6 * a) * n = ht a b c * n + 6 * (a * n) := by grind
  omega
/-- two forms of one root's cut are one -/
theorem same_form {a b c s a' b' c' s' u n : Int} (R : IsR a b c s) (R' : IsR a' b' c' s') (hn : 0 < n) (h1 : OvR a b c s u n) (h2 : BeR a b c s (u + 1) n) (h1' : OvR a' b' c' s' u n) (h2' : BeR a' b' c' s' (u + 1) n)
    (hN : (a' * b - a * b') * (a' * b - a * b') * (ht a b c + 6 * a) + (a' * (ht a b c + 6 * a) + a * (ht a' b' c' + 6 * a')) * (b * (a' * b - a * b') - 2 * a * (a' * c - a * c')).natAbs + a * ((a' * (ht a b c + 6 * a) + a * (ht a' b' c' + 6 * a')) * (a' * (ht a b c + 6 * a) + a * (ht a' b' c' + 6 * a'))) < n) :
    a' * b = a * b' ∧ a' * c = a * c' := by
  have f1 := fm_small R hn h1 h2
  have f2 := fm_small R' hn h1' h2'
  have ha := R.ha
  have ha' := R'.ha
  have hd := R.n.pos
  have hd' := R'.n.pos
  have hns := R.n
  have hdd : ht a b c = b * b - 4 * a * c := rfl
  generalize hk1 : ht a b c + 6 * a = k1 at *
  generalize hk2 : ht a' b' c' + 6 * a' = k2 at *
  generalize hp : a' * b - a * b' = p at *
  generalize hq : a' * c - a * c' = q at *
  generalize hK : a' * k1 + a * k2 = K at *
  generalize hE : p * u + q * n = ε at *
  generalize hR : a * q * q - b * p * q + c * p * p = r at *
  -- the difference of the forms
  have e1 : a' * fm a b c u n - a * fm a' b' c' u n = n * ε := by
    unfold fm
    rw [← hE, ← hp, ← hq]
    grind
  have e2 : p * p * fm a b c u n = n * (n * r) + n * (ε * (b * p - 2 * a * q)) + a * (ε * ε) := by
    unfold fm
    rw [← hR, ← hE]
    grind
  generalize fm a b c u n = f at *
  generalize fm a' b' c' u n = g at *
  have hε : (ε.natAbs : Int) ≤ K := by
    have h3 : ((n * ε).natAbs : Int) ≤ a' * (k1 * n) + a * (k2 * n) := by
      rw [← e1]
      have h4 := Int.natAbs_sub_le (a' * f) (a * g)
      have h5 := natAbs_mul_pos (x := f) ha'
      have h6 := natAbs_mul_pos (x := g) ha
      have h7 : a' * (f.natAbs : Int) ≤ a' * (k1 * n) := Int.mul_le_mul_of_nonneg_left f1 (Int.le_of_lt ha')
      have h8 : a * (g.natAbs : Int) ≤ a * (k2 * n) := Int.mul_le_mul_of_nonneg_left f2 (Int.le_of_lt ha)
      omega
    rw [natAbs_mul_pos hn] at h3
    have h4 : n * (ε.natAbs : Int) ≤ n * K := by
      have : a' * (k1 * n) + a * (k2 * n) = n * K := by rw [← hK]; grind
      omega
    exact Int.le_of_mul_le_mul_left h4 hn
  have hK0 : 0 ≤ K := by have := Int.natCast_nonneg ε.natAbs; omega
  have hr : r = 0 := by
    have h3 : n * ((n : Int) * (r.natAbs : Int)) ≤ n * (p * p * k1 + K * (b * p - 2 * a * q).natAbs + a * (K * K)) := by
      have h4 : n * (n * r) = p * p * f - n * (ε * (b * p - 2 * a * q)) - a * (ε * ε) := by omega
      have h5 : ((n * (n * r)).natAbs : Int) = n * (n * (r.natAbs : Int)) := by rw [natAbs_mul_pos hn, natAbs_mul_pos hn]
      have h6 := Int.natAbs_sub_le (p * p * f - n * (ε * (b * p - 2 * a * q))) (a * (ε * ε))
      have h7 := Int.natAbs_sub_le (p * p * f) (n * (ε * (b * p - 2 * a * q)))
      have h8 : ((p * p * f).natAbs : Int) ≤ p * p * (k1 * n) := by
        rw [Int.natAbs_mul, Int.natCast_mul, Int.natAbs_of_nonneg (sqn p)]
        exact Int.mul_le_mul_of_nonneg_left f1 (sqn p)
      have h9 : ((n * (ε * (b * p - 2 * a * q))).natAbs : Int) ≤ n * (K * (b * p - 2 * a * q).natAbs) := by
        rw [natAbs_mul_pos hn, Int.natAbs_mul, Int.natCast_mul]
        exact Int.mul_le_mul_of_nonneg_left (Int.mul_le_mul_of_nonneg_right hε (Int.natCast_nonneg _)) (Int.le_of_lt hn)
      have h10 : ((a * (ε * ε)).natAbs : Int) ≤ n * (a * (K * K)) := by
        rw [natAbs_mul_pos ha, Int.natAbs_mul, Int.natCast_mul]
        have h11 : (ε.natAbs : Int) * ε.natAbs ≤ K * K := Int.mul_le_mul hε hε (Int.natCast_nonneg _) hK0
        have h12 : a * ((ε.natAbs : Int) * ε.natAbs) ≤ a * (K * K) := Int.mul_le_mul_of_nonneg_left h11 (Int.le_of_lt ha)
        have h13 : 1 * (a * (K * K)) ≤ n * (a * (K * K)) := Int.mul_le_mul_of_nonneg_right (by omega) (Int.mul_nonneg (Int.le_of_lt ha) (Int.mul_nonneg hK0 hK0))
        omega
      have h14 : n * (p * p * k1 + K * (b * p - 2 * a * q).natAbs + a * (K * K)) = p * p * (k1 * n) + n * (K * (b * p - 2 * a * q).natAbs) + n * (a * (K * K)) := by grind
      rw [h4] at h5
      omega
    have h4 := Int.le_of_mul_le_mul_left h3 hn
    have h5 : ¬ 1 ≤ (r.natAbs : Int) := fun z => by
      have : n * 1 ≤ n * (r.natAbs : Int) := Int.mul_le_mul_of_nonneg_left z (Int.le_of_lt hn)
      omega
    omega
  have hp0 : p = 0 := by
    have h3 : (2 * a * q - b * p) * (2 * a * q - b * p) = ht a b c * (p * p) := by
      rw [hdd]
      have : (2 * a * q - b * p) * (2 * a * q - b * p) = (b * b - 4 * a * c) * (p * p) + 4 * a * (a * q * q - b * p * q + c * p * p) := by grind
      rw [this, hR, hr]
      omega
    exact no_sq hns.no h3
  subst hp0
  have hq0 : q = 0 := by
    have h3 : a * q * q = 0 := by
      have : a * q * q - b * 0 * q + c * 0 * 0 = a * q * q := by grind
      omega
    rcases Int.mul_eq_zero.mp h3 with h4 | h4
    · rcases Int.mul_eq_zero.mp h4 with h5 | h5
      · omega
      · exact h5
    · exact h4
  omega
/-- the bound behind which two unlike forms are told apart -/
def sepN (a b c a' b' c' : Int) : Int := (a' * b - a * b') * (a' * b - a * b') * (ht a b c + 6 * a) + (a' * (ht a b c + 6 * a) + a * (ht a' b' c' + 6 * a')) * (b * (a' * b - a * b') - 2 * a * (a' * c - a * c')).natAbs + a * ((a' * (ht a b c + 6 * a) + a * (ht a' b' c' + 6 * a')) * (a' * (ht a b c + 6 * a) + a * (ht a' b' c' + 6 * a'))) + 1
theorem sepN_pos {a b c s a' b' c' s' : Int} (R : IsR a b c s) (R' : IsR a' b' c' s') : 0 < sepN a b c a' b' c' := by
  have ha := R.ha
  have ha' := R'.ha
  have hd := R.n.pos
  have hd' := R'.n.pos
  unfold sepN
  have h1 : 0 ≤ a' * (ht a b c + 6 * a) + a * (ht a' b' c' + 6 * a') := Int.add_nonneg (Int.mul_nonneg (by omega) (by omega)) (Int.mul_nonneg (by omega) (by omega))
  have h2 : 0 ≤ (a' * b - a * b') * (a' * b - a * b') * (ht a b c + 6 * a) := Int.mul_nonneg (sqn _) (by omega)
  have h3 : 0 ≤ (a' * (ht a b c + 6 * a) + a * (ht a' b' c' + 6 * a')) * (b * (a' * b - a * b') - 2 * a * (a' * c - a * c')).natAbs := Int.mul_nonneg h1 (Int.natCast_nonneg _)
  have h4 : 0 ≤ a * ((a' * (ht a b c + 6 * a) + a * (ht a' b' c' + 6 * a')) * (a' * (ht a b c + 6 * a) + a * (ht a' b' c' + 6 * a'))) := Int.mul_nonneg (by omega) (sqn _)
  omega
theorem same_prim {a b c a' b' c' : Int} (ha : 0 < a) (ha' : 0 < a') (g : dv (dv a b) c = 1) (g' : dv (dv a' b') c' = 1) (h1 : a' * b = a * b') (h2 : a' * c = a * c') : a = a' ∧ b = b' ∧ c = c' := by
  have d1 : a ∣ a' := by
    have h := dvd_dv (dvd_dv (show a ∣ a * a' from Int.dvd_mul_right a a') (show a ∣ b * a' from ⟨b', by rw [Int.mul_comm]; exact h1⟩)) (show a ∣ c * a' from ⟨c', by rw [Int.mul_comm]; exact h2⟩)
    rw [dv3_mul a b c a' (Int.le_of_lt ha'), g, Int.one_mul] at h
    exact h
  have d2 : a' ∣ a := by
    have h := dvd_dv (dvd_dv (show a' ∣ a' * a from Int.dvd_mul_right a' a) (show a' ∣ b' * a from ⟨b, by rw [Int.mul_comm]; exact h1.symm⟩)) (show a' ∣ c' * a from ⟨c, by rw [Int.mul_comm]; exact h2.symm⟩)
    rw [dv3_mul a' b' c' a (Int.le_of_lt ha), g', Int.one_mul] at h
    exact h
  have e : a = a' := Int.dvd_antisymm (Int.le_of_lt ha) (Int.le_of_lt ha') d1 d2
  subst e
  exact ⟨rfl, Int.eq_of_mul_eq_mul_left (by omega) h1, Int.eq_of_mul_eq_mul_left (by omega) h2⟩
/-- r is less than u / l, t greater -/
def Btw (r t : R4) (u l : Int) : Prop := BeR r.a r.b r.c r.s u l ∧ OvR t.a t.b t.c t.s u l
theorem sep {r t : R4} (R : r.Is) (T : t.Is) (hne : r ≠ t) : ∃ u l, 0 < l ∧ l ≤ 2 * r.a + sepN r.a r.b r.c t.a t.b t.c ∧ (Btw r t u l ∨ Btw t r u l) := by
  have ha := R.ha
  have hN := sepN_pos R T
  by_cases hf : r.a = t.a ∧ r.b = t.b ∧ r.c = t.c
  · obtain ⟨a, b, c, s⟩ := r
    obtain ⟨a', b', c', s'⟩ := t
    obtain ⟨h1, h2, h3⟩ := hf
    dsimp only at h1 h2 h3
    subst h1 h2 h3
    have hs : s ≠ s' := fun z => hne (by rw [z])
    have hd : 0 < ht a b c := R.n.pos
    have up : ∀ s, s = 1 → OvR a b c s (-b) (2 * a) := fun s hs => by
      subst hs
      unfold OvR Ov
      rw [show -b * (2 * a) - -b * (2 * a) = 0 by omega, show sg 1 * (2 * a) = 2 * a by unfold sg; omega]
      exact Ps.root hd (by have : 0 < a := ha; omega)
    have dn : ∀ s, s = 0 → BeR a b c s (-b) (2 * a) := fun s hs => by
      subst hs
      unfold BeR Be
      rw [show -b * (2 * a) - -b * (2 * a) = 0 by omega, show -(sg 0 * (2 * a)) = 2 * a by unfold sg; omega]
      exact Ps.root hd (by have : 0 < a := ha; omega)
    refine ⟨-b, 2 * a, by have : 0 < a := ha; omega, by show 2 * a ≤ 2 * a + _; omega, ?_⟩
    rcases R.hs with h | h <;> rcases T.hs with h' | h'
    · exact absurd (h.trans h'.symm) hs
    · exact .inl ⟨dn _ h, up _ h'⟩
    · exact .inr ⟨dn _ h', up _ h⟩
    · exact absurd (h.trans h'.symm) hs
  · obtain ⟨u, h1, h2⟩ := floorN R hN
    obtain ⟨v, h3, h4⟩ := floorN T hN
    have hr2 : (0 : Int) < 2 * r.a := by omega
    have ht2 : (0 : Int) < 2 * t.a := by have := T.ha; omega
    have hbound : sepN r.a r.b r.c t.a t.b t.c ≤ 2 * r.a + sepN r.a r.b r.c t.a t.b t.c := by omega
    by_cases e : u = v
    · subst e
      have h5 := same_form R T hN h1 h2 h3 h4 (by unfold sepN; omega)
      exact absurd (same_prim R.ha T.ha R.g T.g h5.1 h5.2) hf
    · by_cases h : u < v
      · exact ⟨v, _, hN, hbound, .inl ⟨Be.le R.n hr2 hN hN h2 (Int.mul_le_mul_of_nonneg_right (by omega) (Int.le_of_lt hN)), h3⟩⟩
      · exact ⟨u, _, hN, hbound, .inr ⟨Be.le T.n ht2 hN hN h4 (Int.mul_le_mul_of_nonneg_right (by omega) (Int.le_of_lt hN)), h1⟩⟩
/-! ### a common turn -/
theorem part_is {r : R4} (R : r.Is) : OvR r.a r.b r.c r.s r.prt 1 ∧ BeR r.a r.b r.c r.s (r.prt + 1) 1 := part_ov R
theorem btw_part {r t : R4} {u l : Int} (R : r.Is) (T : t.Is) (hl : 0 < l) (h : Btw r t u l) : r.prt ≤ t.prt := by
  obtain ⟨p1, p2⟩ := part_is R
  obtain ⟨q1, q2⟩ := part_is T
  have ha := R.ha
  have hb := T.ha
  have h1 := ov_be_lt R.n (by omega) (by decide) hl p1 h.1
  have h2 := ov_be_lt T.n (by omega) hl (by decide) h.2 q2
  have h3 : r.prt * l < (t.prt + 1) * l := by omega
  have := Int.lt_of_mul_lt_mul_right h3 (Int.le_of_lt hl)
  omega
theorem btw_turn {r t : R4} {u l : Int} (R : r.Is) (T : t.Is) (hl : 0 < l) (h : Btw r t u l) (he : r.prt = t.prt) : 0 < u - r.prt * l ∧ u - r.prt * l < l ∧ Btw t.nx r.nx l (u - r.prt * l) := by
  obtain ⟨p1, p2⟩ := part_is R
  obtain ⟨q1, q2⟩ := part_is T
  have ha := R.ha
  have hb := T.ha
  have h1 := ov_be_lt R.n (by omega) (by decide) hl p1 h.1
  have h2 := ov_be_lt T.n (by omega) hl (by decide) h.2 q2
  rw [← he, Int.add_mul] at h2
  have h3 : 0 < u - r.prt * l := by omega
  have e1 : r.prt * l + (u - r.prt * l) = u := by omega
  refine ⟨h3, by omega, ?_, ?_⟩
  · have h4 := tn_up (n := t.prt) (u := l) (l := u - r.prt * l) T h3 hl
    rcases root_tri (u := l) (tn_isR t.prt T) h3 with h5 | h5
    · have := (h4.mp h5).2
      rw [← he, e1] at this
      exact absurd this h.2.not
    · exact h5
  · have h4 := tn_up (n := r.prt) (u := l) (l := u - r.prt * l) R h3 hl
    refine h4.mpr ⟨p1, ?_⟩
    rw [e1]
    exact h.1
/-! ### how the numbers grow -/
structure Sz (B : Int) (r : R4) : Prop where
  a : r.a ≤ B
  b : (r.b.natAbs : Int) ≤ 2 * B + ht r.a r.b r.c
  c : (r.c.natAbs : Int) ≤ B
theorem nx_ht (r : R4) : ht r.nx.a r.nx.b r.nx.c = ht r.a r.b r.c := tn_ht _ _ _ _
theorem Sz.nx {B : Int} {r : R4} (R : r.Is) (h : Sz B r) : Sz (B + ht r.a r.b r.c) r.nx := by
  obtain ⟨p1, p2⟩ := part_is R
  have ha := R.ha
  have hd := R.n.pos
  have hns := R.n.no
  have hsg := sg_sq R.hs
  obtain ⟨h1, h2, h3⟩ := h
  have ec : ht r.nx.a r.nx.b r.nx.c = ht r.a r.b r.c := nx_ht r
  have eA : r.nx.a.natAbs = (mvC r.a r.b r.c r.prt).natAbs := by
    show (tnA r.a r.b r.c r.prt).natAbs = _
    unfold tnA
    split
    · rfl
    · exact Int.natAbs_neg _
  have eB : r.nx.b.natAbs = (2 * r.a * r.prt + r.b).natAbs := by
    show (tnB r.a r.b r.c r.prt).natAbs = _
    unfold tnB
    split
    · rw [Int.add_comm]
    · rw [Int.natAbs_neg, Int.add_comm]
  have eC : r.nx.c.natAbs = r.a.natAbs := by
    show (tnC r.a r.b r.c r.prt).natAbs = _
    unfold tnC
    split
    · rfl
    · exact Int.natAbs_neg _
  have hA0 := (tn_isR r.prt R).ha
  unfold OvR Ov Ps at p1
  unfold BeR Be Ps at p2
  have e1 : nm (ht r.a r.b r.c) (-r.b * 1 - r.prt * (2 * r.a)) (sg r.s * 1) = (2 * r.a * r.prt + r.b) * (2 * r.a * r.prt + r.b) - ht r.a r.b r.c := by
    unfold nm
    have : sg r.s * 1 * (sg r.s * 1) = sg r.s * sg r.s := by grind
    rw [this, hsg]
    grind
  have e2 : nm (ht r.a r.b r.c) ((r.prt + 1) * (2 * r.a) - -r.b * 1) (-(sg r.s * 1)) = (2 * r.a * r.prt + r.b + 2 * r.a) * (2 * r.a * r.prt + r.b + 2 * r.a) - ht r.a r.b r.c := by
    unfold nm
    have : -(sg r.s * 1) * -(sg r.s * 1) = sg r.s * sg r.s := by grind
    rw [this, hsg]
    grind
  rw [e1] at p1
  rw [e2] at p2
  have e3 : (2 * r.a * r.prt + r.b) * (2 * r.a * r.prt + r.b) - ht r.a r.b r.c = 4 * r.a * mvC r.a r.b r.c r.prt := by
    unfold ht mvC
    grind
  have hw1 : -r.b * 1 - r.prt * (2 * r.a) = -(2 * r.a * r.prt + r.b) := by grind
  have hw2 : (r.prt + 1) * (2 * r.a) - -r.b * 1 = 2 * r.a * r.prt + r.b + 2 * r.a := by grind
  rw [hw1] at p1
  rw [hw2] at p2
  have key : (mvC r.a r.b r.c r.prt).natAbs ≤ r.a + ht r.a r.b r.c ∧ ((2 * r.a * r.prt + r.b).natAbs : Int) ≤ 2 * r.a + ht r.a r.b r.c := by
    generalize 2 * r.a * r.prt + r.b = w at *
    generalize mvC r.a r.b r.c r.prt = f at *
    generalize ht r.a r.b r.c = d at *
    generalize r.a = a at *
    have hdd : d < d * d + 1 := by
      have : d * 1 ≤ d * d := Int.mul_le_mul_of_nonneg_left (by omega) (by omega)
      omega
    -- what lies below d in its square is below d
    have low : ∀ x : Int, x * x < d → -d < x ∧ x < d := fun x hx => by
      have hx2 : x * x < d * d := by omega
      exact ⟨sq_lt' (by omega) hx2, sq_lt (by omega) hx2⟩
    have hw2a : -2 * a < w → w < 2 * a → w * w ≤ 4 * a * a := fun k1 k2 => by
      have := Int.mul_self_le_mul_self (a := w.natAbs) (b := 2 * a) (by omega) (by omega)
      rw [ab_sq] at this
      have e : 2 * a * (2 * a) = 4 * a * a := by grind
      omega
    have fin : ∀ B : Int, 4 * a * f ≤ 4 * a * B → -(4 * a * B) ≤ 4 * a * f → (f.natAbs : Int) ≤ B := fun B k1 k2 => by
      have k3 := Int.le_of_mul_le_mul_left k1 (show 0 < 4 * a by omega)
      have k4 : 4 * a * (-B) ≤ 4 * a * f := by rw [Int.mul_neg]; exact k2
      have k5 := Int.le_of_mul_le_mul_left k4 (show 0 < 4 * a by omega)
      omega
    have had : 1 * d ≤ 4 * a * d := Int.mul_le_mul_of_nonneg_right (by omega) (by omega)
    have hpp : 4 * a * (a + d) = 4 * a * a + 4 * a * d := by grind
    have haa : 0 ≤ 4 * a * a := Int.mul_nonneg (by omega) (by omega)
    have hww := sqn w
    rcases R.hs with hs | hs
    · -- the lower one
      rw [hs] at p1 p2
      have h4 : 0 < w * w - d ∧ w < 0 := by
        rcases p1 with ⟨x, y⟩ | ⟨x, y⟩
        · exact ⟨x, by omega⟩
        · exact absurd y (by decide)
      have h5 : -(2 * a + d) ≤ w := by
        rcases p2 with ⟨x, y⟩ | ⟨x, y⟩
        · omega
        · have := low (w + 2 * a) (by omega)
          omega
      have h6 : w * w ≤ 4 * a * a + 4 * a * d + d := by
        rcases p2 with ⟨x, y⟩ | ⟨x, y⟩
        · have := hw2a (by omega) (by omega)
          omega
        · have e : (w + 2 * a) * (w + 2 * a) = w * w + 4 * a * w + 4 * a * a := by grind
          have h7 : 4 * a * (-w) ≤ 4 * a * (2 * a + d) := Int.mul_le_mul_of_nonneg_left (by omega) (by omega)
          have e2 : 4 * a * (2 * a + d) = 8 * a * a + 4 * a * d := by grind
          have e3 : 8 * a * a = 2 * (4 * a * a) := by grind
          rw [Int.mul_neg] at h7
          omega
      exact ⟨fin _ (by omega) (by omega), by omega⟩
    · -- the upper one
      rw [hs] at p1 p2
      have h4 : -2 * a < w := by
        rcases p2 with ⟨x, y⟩ | ⟨x, y⟩
        · omega
        · exact absurd y (by decide)
      rcases p1 with ⟨x, y⟩ | ⟨x, y⟩
      · have := hw2a (by omega) (by omega)
        exact ⟨fin _ (by omega) (by omega), by omega⟩
      · have := low w (by omega)
        exact ⟨fin _ (by omega) (by omega), by omega⟩
  exact ⟨by omega, by omega, by omega⟩
end RR
/-! RRH: numbers (fractions and roots) in order; the promises of compare and its kin, and of the laws' numbers. -/
namespace RR
open PySem PySem.Spec PyProof.Rows L2
/-- a number: a fraction or a root -/
inductive Nu where
  | fr (u l : Int)
  | ro (r : R4)
def Nu.l : Nu → List Int
  | .fr u l => [u, l]
  | .ro r => r.l
/-- numbers that a law draws -/
def Nu.Ok : Nu → Prop
  | .fr u l => 0 < l ∧ dv u l = 1 ∧ u.natAbs < 2 ^ 500 ∧ l.natAbs < 2 ^ 500
  | .ro r => r.Is ∧ r.a ≤ 64 ∧ r.b.natAbs ≤ 64 ∧ r.c.natAbs ≤ 64
def Nu.Ov : Nu → Int → Int → Prop
  | .fr p q, u, l => u * q < p * l
  | .ro r, u, l => OvR r.a r.b r.c r.s u l
def Nu.Be : Nu → Int → Int → Prop
  | .fr p q, u, l => p * l < u * q
  | .ro r, u, l => BeR r.a r.b r.c r.s u l
/-- in order -/
def Nu.lt : Nu → Nu → Prop
  | .fr p q, .fr u l => p * l < u * q
  | .fr p q, .ro r => OvR r.a r.b r.c r.s p q
  | .ro r, .fr u l => BeR r.a r.b r.c r.s u l
  | .ro r, .ro t => ∃ u l, 0 < l ∧ Btw r t u l
theorem Nu.tri {m n : Nu} (hm : m.Ok) (hn : n.Ok) : m = n ∨ m.lt n ∨ n.lt m := by
  cases m with
  | fr p q =>
    cases n with
    | fr u l =>
      by_cases h1 : p * l < u * q
      · exact .inr (.inl h1)
      · by_cases h2 : u * q < p * l
        · exact .inr (.inr h2)
        · obtain ⟨e1, e2⟩ := low_unique hm.1 hm.2.1 hn.1 hn.2.1 (show p * l = u * q by omega)
          exact .inl (by rw [e1, e2])
    | ro r => exact .inr (root_tri (u := p) hn.1 hm.1)
  | ro r =>
    cases n with
    | fr u l => exact .inr ((root_tri (u := u) hm.1 hn.1).symm)
    | ro t =>
      by_cases h : r = t
      · exact .inl (by rw [h])
      · obtain ⟨u, l, hl, _, h1 | h1⟩ := sep hm.1 hn.1 h
        · exact .inr (.inl ⟨u, l, hl, h1⟩)
        · exact .inr (.inr ⟨u, l, hl, h1⟩)
theorem Nu.asym {m n : Nu} (hm : m.Ok) (hn : n.Ok) (h : m.lt n) : ¬ n.lt m := by
  cases m with
  | fr p q =>
    cases n with
    | fr u l => intro k; have h1 : p * l < u * q := h; have h2 : u * q < p * l := k; omega
    | ro r => exact Ov.not h
  | ro r =>
    cases n with
    | fr u l => exact fun k => Ov.not k h
    | ro t =>
      rintro ⟨v, m, hm2, k1, k2⟩
      obtain ⟨u, l, hl, h1, h2⟩ := h
      have ha := hm.1.ha
      have hb := hn.1.ha
      have x1 := ov_be_lt hm.1.n (by omega) hm2 hl k2 h1
      have x2 := ov_be_lt hn.1.n (by omega) hl hm2 h2 k1
      omega
theorem Nu.lt_ne {m n : Nu} (hm : m.Ok) (h : m.lt n) : m ≠ n := by
  intro e
  subst e
  exact Nu.asym hm hm h h
/-- a fraction between tells the order -/
theorem Nu.lt_of {m n : Nu} (hm : m.Ok) (hn : n.Ok) {u l : Int} (hl : 0 < l) (h1 : m.Be u l) (h2 : ¬ n.Be u l) : m.lt n := by
  cases m with
  | fr p q =>
    have hq := hm.1
    have h1' : p * l < u * q := h1
    cases n with
    | fr p' q' =>
      have hq' := hn.1
      have h2' : u * q' ≤ p' * l := by
        have : ¬ p' * l < u * q' := h2
        omega
      show p * q' < p' * q
      have x1 : p * l * q' < u * q * q' := Int.mul_lt_mul_of_pos_right h1' hq'
      have x2 : u * q' * q ≤ p' * l * q := Int.mul_le_mul_of_nonneg_right h2' (Int.le_of_lt hq)
      have x3 : p * q' * l < p' * q * l := by
        have e1 : p * q' * l = p * l * q' := by grind
        have e2 : u * q * q' = u * q' * q := by grind
        have e3 : p' * q * l = p' * l * q := by grind
        omega
      exact Int.lt_of_mul_lt_mul_right x3 (Int.le_of_lt hl)
    | ro r =>
      have ha := hn.1.ha
      have h3 : OvR r.a r.b r.c r.s u l := (root_tri hn.1 hl).elim id fun z => absurd z h2
      exact Ov.le hn.1.n (by omega) hl hq h3 (by omega)
  | ro r =>
    have ha := hm.1.ha
    cases n with
    | fr p' q' =>
      have h2' : u * q' ≤ p' * l := by
        have : ¬ p' * l < u * q' := h2
        omega
      exact Be.le hm.1.n (by omega) hl hn.1 h1 h2'
    | ro t => exact ⟨u, l, hl, h1, (root_tri hn.1 hl).elim id fun z => absurd z h2⟩
theorem prt_abs {r : R4} (ha : 0 < r.a) (hd : 0 ≤ ht r.a r.b r.c) : r.prt.natAbs ≤ (ht r.a r.b r.c).natAbs + r.b.natAbs + 1 := by
  have h0 := (rt_spec hd).1
  have h1 := rt_le hd
  show (partR r.a r.b r.c r.s).natAbs ≤ _
  unfold partR
  split
  · have := ediv_abs (u := 0 - rt (ht r.a r.b r.c) - 1 - r.b) (l := 2 * r.a) (by omega)
    omega
  · have := ediv_abs (u := rt (ht r.a r.b r.c) - r.b) (l := 2 * r.a) (by omega)
    omega
/-- the numbers of a root, from how they grow -/
theorem Sz.s4 {B : Int} {r : R4} (R : r.Is) (h : Sz B r) (hB : B + ht r.a r.b r.c ≤ 2 ^ 290) : S4 r := by
  have ha := R.ha
  have hd := R.n.pos
  have hp := prt_abs ha (Int.le_of_lt hd)
  obtain ⟨h1, h2, h3⟩ := h
  have e1 : (2 : Int) ^ 290 = 1989292945639146568621528992587283360401824603189390869761855907572637988050133502132224 := by decide
  have e2 : (2 : Nat) ^ 300 = 2037035976334486086268445688409378161051468393665936250636140449354381299763336706183397376 := by decide
  exact ⟨⟨by omega⟩, ⟨by omega⟩, ⟨by omega⟩, ⟨by omega⟩⟩
theorem tiny_ht {r : R4} (R : r.Is) (ha : r.a ≤ 64) (hb : r.b.natAbs ≤ 64) (hc : r.c.natAbs ≤ 64) : ht r.a r.b r.c < 2 ^ 15 := by
  have h0 := R.ha
  have h1 := Int.natAbs_mul r.b r.b
  have h2 := Int.natAbs_mul (4 * r.a) r.c
  have h3 : r.b.natAbs * r.b.natAbs ≤ 64 * 64 := Nat.mul_le_mul hb hb
  have h4 : (4 * r.a).natAbs * r.c.natAbs ≤ 256 * 64 := Nat.mul_le_mul (by omega) hc
  have h5 := Int.natAbs_sub_le (r.b * r.b) (4 * r.a * r.c)
  unfold ht
  have : (2 : Int) ^ 15 = 32768 := by decide
  omega
theorem tiny_sep {r t : R4} (R : r.Is) (T : t.Is) (ha : r.a ≤ 64) (hb : r.b.natAbs ≤ 64) (hc : r.c.natAbs ≤ 64) (ha' : t.a ≤ 64) (hb' : t.b.natAbs ≤ 64) (hc' : t.c.natAbs ≤ 64) : (sepN r.a r.b r.c t.a t.b t.c).natAbs < 2 ^ 80 := by
  have d1 := tiny_ht R ha hb hc
  have d2 := tiny_ht T ha' hb' hc'
  have p1 := R.n.pos
  have p2 := T.n.pos
  have q1 := R.ha
  have q2 := T.ha
  have e15 : (2 : Int) ^ 15 = 32768 := by decide
  have A : r.a.natAbs < 2 ^ 7 := by omega
  have B : r.b.natAbs < 2 ^ 7 := by omega
  have C : r.c.natAbs < 2 ^ 7 := by omega
  have A' : t.a.natAbs < 2 ^ 7 := by omega
  have B' : t.b.natAbs < 2 ^ 7 := by omega
  have C' : t.c.natAbs < 2 ^ 7 := by omega
  have K1 : (ht r.a r.b r.c + 6 * r.a).natAbs < 2 ^ 16 := by omega
  have K2 : (ht t.a t.b t.c + 6 * t.a).natAbs < 2 ^ 16 := by omega
  have Pp : (t.a * r.b - r.a * t.b).natAbs < 2 ^ 15 := nat_sub_lt (nat_mul_lt A' B) (nat_mul_lt A B')
  have Qq : (t.a * r.c - r.a * t.c).natAbs < 2 ^ 15 := nat_sub_lt (nat_mul_lt A' C) (nat_mul_lt A C')
  have Kk : (t.a * (ht r.a r.b r.c + 6 * r.a) + r.a * (ht t.a t.b t.c + 6 * t.a)).natAbs < 2 ^ 24 := nat_add_lt (nat_mul_lt A' K1) (nat_mul_lt A K2)
  have L : (r.b * (t.a * r.b - r.a * t.b) - 2 * r.a * (t.a * r.c - r.a * t.c)).natAbs < 2 ^ 25 := nat_mono (nat_sub_lt (m := 24) (nat_mono (nat_mul_lt B Pp) (by decide)) (nat_mul_lt (nat_mul_lt (m := 2) (by decide) A) Qq)) (by decide)
  have L2 : (((r.b * (t.a * r.b - r.a * t.b) - 2 * r.a * (t.a * r.c - r.a * t.c)).natAbs : Int)).natAbs < 2 ^ 25 := by
    rw [Int.natAbs_natCast]
    exact L
  unfold sepN
  have x1 := nat_mul_lt (nat_mul_lt Pp Pp) K1
  have x2 := nat_mul_lt Kk L2
  have x3 := nat_mul_lt A (nat_mul_lt Kk Kk)
  exact nat_mono (nat_add_lt (m := 58) (nat_add_lt (m := 57) (nat_add_lt (m := 56) (nat_mono x1 (by decide)) (nat_mono x2 (by decide))) (nat_mono x3 (by decide))) (by decide)) (by decide)
/-- how a root stands to a fraction -/
def sp_is_above : Sp := sp_above
def sp_by_fraction : Sp := fun vs H Q _ => ∃ (t f : Addr) (a b c s u l : Int), vs = [.ref t, .ref f] ∧ H t = some (tI [a, b, c, s]) ∧ H f = some (tI [u, l]) ∧ (s = 0 ∨ s = 1) ∧ Sm a ∧ Sm b ∧ Sm c ∧ Sm u ∧ Sm l ∧ Q (.int (if ab a b c s u l = true then 1 else -1)) H
def sp_by_rows : Sp := fun vs H Q _ => ∃ (x y : Addr) (r t : R4), vs = [.ref x, .ref y] ∧ H x = some (tI r.l) ∧ H y = some (tI t.l) ∧ (Nu.ro r).Ok ∧ (Nu.ro t).Ok ∧ r ≠ t ∧
  ((∃ u l, 0 < l ∧ Btw r t u l) → ∀ H', Same H H' → Q (.int (-1)) H') ∧ ((∃ u l, 0 < l ∧ Btw t r u l) → ∀ H', Same H H' → Q (.int 1) H')
def sp_compare : Sp := fun vs H Q _ => ∃ (x y : Addr) (m n : Nu), vs = [.ref x, .ref y] ∧ H x = some (tI m.l) ∧ H y = some (tI n.l) ∧ m.Ok ∧ n.Ok ∧
  (m = n → ∀ H', Same H H' → Q (.int 0) H') ∧ (m.lt n → ∀ H', Same H H' → Q (.int (-1)) H') ∧ (n.lt m → ∀ H', Same H H' → Q (.int 1) H')
/-- a drawn number -/
def Nu.In (w : Int) : Nu → Prop
  | .fr u l => 0 < l ∧ l ≤ w ∧ -w ≤ u ∧ u ≤ w ∧ dv u l = 1
  | .ro r => r.Is ∧ r.a ≤ w ∧ -w ≤ r.b ∧ r.b ≤ w ∧ -w ≤ r.c ∧ r.c ≤ w
theorem Nu.In.ok {w : Int} (hw : w ≤ 64) {n : Nu} (h : n.In w) : n.Ok := by
  cases n with
  | fr u l =>
    obtain ⟨h1, h2, h3, h4, h5⟩ := h
    have e : (2 : Nat) ^ 500 = 2 ^ 60 * 2 ^ 440 := by decide
    have e60 : (2 : Nat) ^ 60 = 1152921504606846976 := by decide
    exact ⟨h1, h5, nat_mono (m := 60) (by omega) (by decide), nat_mono (m := 60) (by omega) (by decide)⟩
  | ro r =>
    obtain ⟨h1, h2, h3, h4, h5, h6⟩ := h
    exact ⟨h1, by omega, by omega, by omega⟩
def sp_number (K : PySem.W.Frag) : Sp := fun vs H Q _ => ∃ (a : Addr) (ns : List Int) (k : Nat) (w : Int), vs = [.ref a, .int k, .int w] ∧ SqL K H a (ns.map V.int) ∧ k < 900 ∧ 2 ≤ w ∧ w ≤ 1000 ∧ ∀ (n : Nu) H' p, n.In w → Same H H' → H p = none → H' p = some (tI n.l) → Q (.ref p) H'
/-- whether the number is less than u / l -/
def Nu.be : Nu → Int → Int → Bool
  | .fr p q, u, l => decide (p * l < u * q)
  | .ro r, u, l => !ab r.a r.b r.c r.s u l
def Nu.ov : Nu → Int → Int → Bool
  | .fr p q, u, l => decide (u * q < p * l)
  | .ro r, u, l => ab r.a r.b r.c r.s u l
theorem Nu.be_iff {n : Nu} (h : n.Ok) {u l : Int} (hl : 0 < l) : n.be u l = true ↔ n.Be u l := by
  cases n with
  | fr p q => exact decide_eq_true_iff
  | ro r =>
    show (!ab r.a r.b r.c r.s u l) = true ↔ BeR r.a r.b r.c r.s u l
    rw [Bool.not_eq_true', ab_be h.1 hl]
theorem Nu.ov_iff {n : Nu} (h : n.Ok) {u l : Int} (hl : 0 < l) : n.ov u l = true ↔ n.Ov u l := by
  cases n with
  | fr p q => exact decide_eq_true_iff
  | ro r => exact ab_ov h.1 hl
def sp_below : Sp := fun vs H Q _ => ∃ (t : Addr) (n : Nu) (u l : Int), vs = [.ref t, .int u, .int l] ∧ H t = some (tI n.l) ∧ n.Ok ∧ Sm u ∧ Sm l ∧ Q (.bl (n.be u l)) H
def sp_over : Sp := fun vs H Q _ => ∃ (t : Addr) (n : Nu) (u l : Int), vs = [.ref t, .int u, .int l] ∧ H t = some (tI n.l) ∧ n.Ok ∧ Sm u ∧ Sm l ∧ Q (.bl (n.ov u l)) H
theorem low_in {u l w : Int} (hl : 0 < l) (h1 : l ≤ w) (h2 : -w ≤ u) (h3 : u ≤ w) : (Nu.fr (low u l).1 (low u l).2).In w := by
  have h := low_is (u := u) (show l ≠ 0 by omega)
  have h4 := low_abs (u := u) (show l ≠ 0 by omega)
  have := h.pos
  exact ⟨h.pos, by omega, by omega, by omega, h.one⟩
theorem Nu.fr_sm {p q : Int} (h : (Nu.fr p q).Ok) : Sm p ∧ Sm q := ⟨⟨nat_mono h.2.2.1 (by decide)⟩, ⟨nat_mono h.2.2.2 (by decide)⟩⟩
theorem Nu.ro_sm {r : R4} (h : (Nu.ro r).Ok) : Sm r.a ∧ Sm r.b ∧ Sm r.c := by
  have ha := h.1.ha
  have h1 := h.2.1
  have h2 := h.2.2.1
  have h3 := h.2.2.2
  exact ⟨sm_of (by omega), sm_of (by omega), sm_of (by omega)⟩
theorem Nu.inj {m n : Nu} (h : m.l = n.l) : m = n := by
  cases m with
  | fr p q =>
    cases n with
    | fr u l =>
      simp only [Nu.l, List.cons.injEq, and_true] at h
      rw [h.1, h.2]
    | ro r => simp [Nu.l, R4.l] at h
  | ro r =>
    cases n with
    | fr u l => simp [Nu.l, R4.l] at h
    | ro t =>
      obtain ⟨a, b, c, s⟩ := r
      obtain ⟨a', b', c', s'⟩ := t
      simp only [Nu.l, R4.l, List.cons.injEq, and_true] at h
      obtain ⟨rfl, rfl, rfl, rfl⟩ := h
      rfl
end RR
/-! RRW: fractions in order, neighbours: plain mathematics and promises. -/
namespace RR
open PySem PySem.Spec PyProof.Rows L2
abbrev Fr := Int × Int
def flt (f g : Fr) : Prop := f.1 * g.2 < g.1 * f.2
theorem flt_trans {f g h : Fr} (hf : 0 < f.2) (hg : 0 < g.2) (hh : 0 < h.2) (a : flt f g) (b : flt g h) : flt f h := by
  unfold flt at *
  have x1 : f.1 * g.2 * h.2 < g.1 * f.2 * h.2 := Int.mul_lt_mul_of_pos_right a hh
  have x2 : g.1 * h.2 * f.2 < h.1 * g.2 * f.2 := Int.mul_lt_mul_of_pos_right b hf
  have x3 : f.1 * h.2 * g.2 < h.1 * f.2 * g.2 := by
    have e1 : f.1 * h.2 * g.2 = f.1 * g.2 * h.2 := by grind
    have e2 : g.1 * f.2 * h.2 = g.1 * h.2 * f.2 := by grind
    have e3 : h.1 * f.2 * g.2 = h.1 * g.2 * f.2 := by grind
    omega
  exact Int.lt_of_mul_lt_mul_right x3 (Int.le_of_lt hg)
/-- a fraction and where it lies -/
abbrev At := Addr × Fr
def AtOk (H : Hp) (x : At) : Prop := H x.1 = some (tI [x.2.1, x.2.2]) ∧ (Nu.fr x.2.1 x.2.2).Ok
def alt (x y : At) : Prop := flt x.2 y.2
def refs (xs : List At) : List V := xs.map fun x => V.ref x.1
/-- ordered -/
def sp_ordered (n : Nat) : Sp := fun vs H Q _ => ∃ (a : Addr) (xs : List At), vs = [.ref a] ∧ H a = some (.lst (refs xs)) ∧ (∀ x ∈ xs, AtOk H x) ∧ (xs.map (·.2)).Nodup ∧ xs.length ≤ 2 ^ n ∧ xs.length ≤ 1000000 ∧
  ∀ H' b ys, Same H H' → H' b = some (.lst (refs ys)) → ys.Perm xs → ys.Pairwise alt → Q (.ref b) H'
theorem alt_tri {H : Hp} {x y : At} (hx : AtOk H x) (hy : AtOk H y) (h : x.2 ≠ y.2) : alt x y ∨ alt y x := by
  rcases Nu.tri hx.2 hy.2 with h1 | h1 | h1
  · injection h1 with h2 h3
    exact absurd (Prod.ext h2 h3) h
  · exact .inl h1
  · exact .inr h1
/-- one step of a merge -/
theorem merge_step {F A B : List At} {a : At} (hp : ∀ x ∈ F ++ a :: A ++ B, 0 < x.2.2) (h1 : (F ++ a :: A).Pairwise alt) (h2 : (F ++ B).Pairwise alt) (hab : ∀ b ∈ B.head?, alt a b) : (F ++ [a] ++ A).Pairwise alt ∧ (F ++ [a] ++ B).Pairwise alt := by
  refine ⟨by rw [List.append_assoc]; exact h1, ?_⟩
  rw [List.append_assoc, List.pairwise_append] at *
  obtain ⟨p1, p2, p3⟩ := h1
  obtain ⟨q1, q2, q3⟩ := h2
  refine ⟨p1, ?_, fun x hx y hy => ?_⟩
  · rw [List.singleton_append, List.pairwise_cons]
    refine ⟨fun y hy => ?_, q2⟩
    cases B with
    | nil => cases hy
    | cons b B =>
      have hb := hab b rfl
      rcases List.mem_cons.mp hy with rfl | hy
      · exact hb
      · refine flt_trans (hp a (by simp)) (hp b (by simp)) (hp y (by simp [hy])) hb ?_
        exact (List.pairwise_cons.mp q2).1 y hy
  · rcases List.mem_append.mp hy with hy | hy
    · rw [List.mem_singleton.mp hy]
      exact p3 x hx a List.mem_cons_self
    · exact q3 x hx y hy
/-! ### Bezout, neighbours -/
theorem bezout : ∀ (n : Nat) (a b : Int), 0 < b → b.toNat ≤ n → dv a b = 1 → ∃ x y : Int, x * b - a * y = 1
  | 0, a, b, hb, hn, _ => by omega
  | n + 1, a, b, hb, hn, h => by
    have h1 := Int.emod_lt_of_pos a hb
    have h2 := Int.emod_nonneg a (show b ≠ 0 by omega)
    have h3 := Int.ediv_mul_add_emod a b
    by_cases hz : 0 < a % b
    · obtain ⟨x, y, e⟩ := bezout n b (a % b) hz (by omega) (by rw [dv_mod, h])
      -- x * r - b * y = 1
      refine ⟨-(y + a / b * x), -x, ?_⟩
      generalize a / b = q at *
      generalize a % b = r at *
      rw [← h3]
      grind
    · have hr : a % b = 0 := by omega
      have hb1 : b = 1 := by
        have h4 : dv b (a % b) = 1 := by rw [dv_mod, h]
        rw [hr, dv_zero (by omega)] at h4
        exact h4
      subst hb1
      exact ⟨1, 0, by omega⟩
/-- the next one after a/b among those with a lower number to m -/
theorem farey {a b c d m : Int} (hb : 0 < b) (hbm : b ≤ m) (hd : 0 < d) (hdm : d ≤ m) (h1 : dv a b = 1) (h2 : dv c d = 1) (hlt : a * d < c * b)
    (hno : ∀ x y : Int, 0 < y → y ≤ m → dv x y = 1 → a * y < x * b → ¬ x * d < c * y) : c * b - a * d = 1 := by
  obtain ⟨x0, y0, e0⟩ := bezout b.toNat a b hb (Nat.le_refl _) h1
  -- with y up to m, beyond m - b
  obtain ⟨x, y, e, hy1, hy2⟩ : ∃ x y : Int, x * b - a * y = 1 ∧ m - b < y ∧ y ≤ m := by
    have h3 := Int.emod_lt_of_pos (m - y0) hb
    have h4 := Int.emod_nonneg (m - y0) (show b ≠ 0 by omega)
    have h5 := Int.ediv_mul_add_emod (m - y0) b
    refine ⟨x0 + a * ((m - y0) / b), y0 + b * ((m - y0) / b), ?_, ?_, ?_⟩
    · generalize (m - y0) / b = k at *
      have : (x0 + a * k) * b - a * (y0 + b * k) = x0 * b - a * y0 := by grind
      omega
    · rw [Int.mul_comm b]
      omega
    · rw [Int.mul_comm b]
      omega
  have hy : 0 < y := by omega
  have hxy : dv x y = 1 := by
    have k1 := dv_dvd_left x y
    have k2 := dv_dvd_right x y
    have k3 : dv x y ∣ 1 := by
      rw [← e]
      exact Int.dvd_sub (Int.dvd_trans k1 (Int.dvd_mul_right x b)) (Int.dvd_trans k2 (Int.dvd_mul_left a y))
    exact Int.eq_one_of_dvd_one (dv_nonneg _ _) k3
  have hax : a * y < x * b := by omega
  have hge : ¬ x * d < c * y := hno x y hy hy2 hxy hax
  by_cases heq : x * d = c * y
  · obtain ⟨e1, e2⟩ := low_unique hy hxy hd h2 heq
    rw [← e1, ← e2]
    exact e
  · exfalso
    have hgt : c * y + 1 ≤ x * d := by omega
    have hlt' : a * d + 1 ≤ c * b := by omega
    -- d = d (x b - a y) = b (x d - c y) + y (c b - a d)
    have e3 : d = b * (x * d - c * y) + y * (c * b - a * d) := by
      have : b * (x * d - c * y) + y * (c * b - a * d) = d * (x * b - a * y) := by grind
      rw [this, e, Int.mul_one]
    have k1 : b * 1 ≤ b * (x * d - c * y) := Int.mul_le_mul_of_nonneg_left (by omega) (by omega)
    have k2 : y * 1 ≤ y * (c * b - a * d) := Int.mul_le_mul_of_nonneg_left (by omega) (by omega)
    omega
/-- a fraction among those from p/q to p'/q' with a lower number to m -/
def Inb (p q p' q' m : Int) (f : Fr) : Prop := 1 ≤ f.2 ∧ f.2 ≤ m ∧ dv f.1 f.2 = 1 ∧ p * f.2 ≤ f.1 * q ∧ f.1 * q' ≤ p' * f.2
theorem neighbours {p q p' q' m : Int} {ks : List Fr} (hq : 0 < q) (hq' : 0 < q') (hm : ∀ f, f ∈ ks ↔ Inb p q p' q' m f) (hs : ks.Pairwise flt) {i : Nat} {f g : Fr} (hf : ks[i]? = some f) (hg : ks[i + 1]? = some g) : g.1 * f.2 - f.1 * g.2 = 1 := by
  obtain ⟨hi, ef⟩ := List.getElem?_eq_some_iff.mp hf
  obtain ⟨hi', eg⟩ := List.getElem?_eq_some_iff.mp hg
  have F := (hm f).mp (List.mem_of_getElem? hf)
  have G := (hm g).mp (List.mem_of_getElem? hg)
  have hlt : flt f g := by
    rw [← ef, ← eg]
    exact List.pairwise_iff_getElem.mp hs _ _ hi hi' (by omega)
  obtain ⟨f1, f2, f3, f4, f5⟩ := F
  obtain ⟨g1, g2, g3, g4, g5⟩ := G
  have h := farey (a := f.1) (b := f.2) (c := g.1) (d := g.2) (m := m) (by omega) f2 (by omega) g2 f3 g3 hlt fun x y hy hym hxy h1 h2 => by
    -- it would be in the list, between
    have hx : Inb p q p' q' m (x, y) := by
      refine ⟨by show 1 ≤ y; omega, hym, hxy, ?_, ?_⟩
      · show p * y ≤ x * q
        have k1 : p * f.2 * y ≤ f.1 * q * y := Int.mul_le_mul_of_nonneg_right f4 (by omega)
        have k2 : f.1 * y * q < x * f.2 * q := Int.mul_lt_mul_of_pos_right h1 hq
        have k3 : p * y * f.2 < x * q * f.2 := by
          have e1 : p * y * f.2 = p * f.2 * y := by grind
          have e2 : f.1 * q * y = f.1 * y * q := by grind
          have e3 : x * q * f.2 = x * f.2 * q := by grind
          omega
        exact Int.le_of_lt (Int.lt_of_mul_lt_mul_right k3 (by omega))
      · show x * q' ≤ p' * y
        have k1 : g.1 * q' * y ≤ p' * g.2 * y := Int.mul_le_mul_of_nonneg_right g5 (by omega)
        have k2 : x * g.2 * q' < g.1 * y * q' := Int.mul_lt_mul_of_pos_right h2 hq'
        have k3 : x * q' * g.2 < p' * y * g.2 := by
          have e1 : x * q' * g.2 = x * g.2 * q' := by grind
          have e2 : g.1 * y * q' = g.1 * q' * y := by grind
          have e3 : p' * y * g.2 = p' * g.2 * y := by grind
          omega
        exact Int.le_of_lt (Int.lt_of_mul_lt_mul_right k3 (by omega))
    obtain ⟨j, hj⟩ := List.getElem?_of_mem ((hm _).mpr hx)
    obtain ⟨hjl, ej⟩ := List.getElem?_eq_some_iff.mp hj
    have P : ∀ s t (hs' : s < ks.length) (ht : t < ks.length), s < t → flt ks[s] ks[t] := fun s t a b c => List.pairwise_iff_getElem.mp hs _ _ a b c
    by_cases hji : j ≤ i
    · by_cases e : j = i
      · subst e
        rw [ef] at ej
        rw [ej] at h1
        exact absurd h1 (by show ¬ x * y < x * y; omega)
      · have := P j i hjl hi (by omega)
        rw [ej, ef] at this
        have h3 : x * f.2 < f.1 * y := this
        omega
    · by_cases e : j = i + 1
      · subst e
        rw [eg] at ej
        rw [ej] at h2
        exact absurd h2 (by show ¬ x * y < x * y; omega)
      · have := P (i + 1) j hi' hjl (by omega)
        rw [ej, eg] at this
        have h3 : g.1 * y < x * g.2 := this
        omega
  exact h
/-! ### the keys of a dict of fractions -/
def fk (f : Fr) : List Key := [.inl f.1, .inl f.2]
theorem fk_inj {f g : Fr} (h : fk f = fk g) : f = g := by
  simp only [fk, List.cons.injEq, Sum.inl.injEq, and_true] at h
  exact Prod.ext h.1 h.2
def kvs (ks : List Fr) : List (List Key × V) := ks.map fun f => (fk f, V.bl true)
theorem valV_kvs_none : ∀ {ks : List Fr} {f : Fr}, f ∉ ks → valV (kvs ks) (fk f) = none
  | [], f, _ => rfl
  | g :: ks, f, h => by
    have h1 : ¬ fk g = fk f := fun z => h (by rw [fk_inj z]; exact List.mem_cons_self)
    show valV ((fk g, V.bl true) :: kvs ks) (fk f) = none
    rw [valV_neg (p := (fk g, V.bl true)) h1]
    exact valV_kvs_none fun z => h (List.mem_cons_of_mem _ z)
theorem put_old {ks : List Fr} {f : Fr} (h : f ∈ ks) : putK (kvs ks) (fk f) (V.bl true) = kvs ks := by
  have hany : ((kvs ks).any fun kv => decide (kv.1 = fk f)) = true := by
    rw [List.any_eq_true]
    exact ⟨(fk f, V.bl true), List.mem_map.mpr ⟨f, h, rfl⟩, decide_eq_true rfl⟩
  unfold putK
  rw [if_pos hany]
  have : ∀ kv ∈ kvs ks, (fun kv : List Key × V => if kv.1 = fk f then (kv.1, V.bl true) else kv) kv = id kv := fun kv hkv => by
    obtain ⟨g, _, rfl⟩ := List.mem_map.mp hkv
    show (if fk g = fk f then (fk g, V.bl true) else (fk g, V.bl true)) = _
    split <;> rfl
  rw [List.map_congr_left this, List.map_id]
theorem put_new {ks : List Fr} {f : Fr} (h : f ∉ ks) : putK (kvs ks) (fk f) (V.bl true) = kvs (ks ++ [f]) := by
  rw [putK_new _ (valV_kvs_none h)]
  unfold kvs
  rw [List.map_append]
  rfl
/-- one key more, if it is not there -/
def addF (ks : List Fr) (f : Fr) : List Fr := if f ∈ ks then ks else ks ++ [f]
theorem put_add (ks : List Fr) (f : Fr) : putK (kvs ks) (fk f) (V.bl true) = kvs (addF ks f) := by
  unfold addF
  split
  · rename_i h
    exact put_old h
  · rename_i h
    exact put_new h
theorem addF_mem {ks : List Fr} {f g : Fr} : g ∈ addF ks f ↔ g ∈ ks ∨ g = f := by
  unfold addF
  split
  · rename_i h
    constructor
    · exact .inl
    · rintro (k | rfl)
      · exact k
      · exact h
  · rw [List.mem_append, List.mem_singleton]
theorem addF_nodup {ks : List Fr} {f : Fr} (h : ks.Nodup) : (addF ks f).Nodup := by
  unfold addF
  split
  · exact h
  · rename_i k
    refine List.nodup_append.mpr ⟨h, by simp, fun a ha b hb => ?_⟩
    rw [List.mem_singleton.mp hb]
    exact fun z => k (z ▸ ha)
theorem addF_len {ks : List Fr} {f : Fr} : (addF ks f).length ≤ ks.length + 1 := by
  unfold addF
  split
  · omega
  · rw [List.length_append]
    exact Nat.le_refl _
/-- the fractions from the one to the other with a lower number to l, the last row up to u -/
def Up (p q p' q' l u : Int) (f : Fr) : Prop := ∃ l' u', 1 ≤ l' ∧ (l' < l ∨ (l' = l ∧ u' < u)) ∧ p * l' ≤ u' * q ∧ u' * q' ≤ p' * l' ∧ f = low u' l'
theorem Up_inb {p q p' q' m : Int} (hq : 0 < q) (hq' : 0 < q') {f : Fr} {u : Int} (hu : ∀ u', u' * q' ≤ p' * (m + 1) → p * (m + 1) ≤ u' * q → u ≤ u') : Up p q p' q' (m + 1) u f ↔ Inb p q p' q' m f := by
  constructor
  · rintro ⟨l, v, h1, h2, h3, h4, rfl⟩
    have hlm : l ≤ m := by
      rcases h2 with h2 | ⟨h2, h5⟩
      · omega
      · subst h2
        have := hu v h4 h3
        omega
    have h := low_is (u := v) (show l ≠ 0 by omega)
    have hle := low_le (u := v) (show 0 < l by omega)
    have hp := h.pos
    have hc := h.cross
    refine ⟨by omega, by omega, h.one, ?_, ?_⟩
    · generalize (low v l).1 = a at *
      generalize (low v l).2 = b at *
      have k1 : p * l * b ≤ v * q * b := Int.mul_le_mul_of_nonneg_right h3 (by omega)
      have k2 : p * b * l ≤ a * q * l := by
        have e1 : p * b * l = p * l * b := by grind
        have e2 : a * q * l = v * q * b := by
          have : a * q * l = a * l * q := by grind
          rw [this, ← hc]
          grind
        omega
      exact Int.le_of_mul_le_mul_right k2 (by omega)
    · generalize (low v l).1 = a at *
      generalize (low v l).2 = b at *
      have k1 : v * q' * b ≤ p' * l * b := Int.mul_le_mul_of_nonneg_right h4 (by omega)
      have k2 : a * q' * l ≤ p' * b * l := by
        have e1 : p' * b * l = p' * l * b := by grind
        have e2 : a * q' * l = v * q' * b := by
          have : a * q' * l = a * l * q' := by grind
          rw [this, ← hc]
          grind
        omega
      exact Int.le_of_mul_le_mul_right k2 (by omega)
  · rintro ⟨h1, h2, h3, h4, h5⟩
    exact ⟨f.2, f.1, h1, .inl (by omega), h4, h5, (low_self (by omega) h3).symm⟩
def Pre (p q p' q' l : Int) (f : Fr) : Prop := ∃ l' u', 1 ≤ l' ∧ l' < l ∧ p * l' ≤ u' * q ∧ u' * q' ≤ p' * l' ∧ f = low u' l'
theorem pre_inb {p q p' q' m : Int} (hq : 0 < q) (hq' : 0 < q') {f : Fr} : Pre p q p' q' (m + 1) f ↔ Inb p q p' q' m f := by
  obtain ⟨u, hu⟩ : ∃ u, ∀ u', u' * q' ≤ p' * (m + 1) → p * (m + 1) ≤ u' * q → u ≤ u' := by
    refine ⟨0 - (0 - p * (m + 1)) / q, fun u' _ h => ?_⟩
    obtain ⟨f1, f2⟩ := fl (x := 0 - p * (m + 1)) hq
    generalize (0 - p * (m + 1)) / q = z at *
    have : (-u') * q < (z + 1) * q := by rw [Int.neg_mul]; omega
    have := Int.lt_of_mul_lt_mul_right this (Int.le_of_lt hq)
    omega
  rw [← Up_inb hq hq' hu]
  constructor
  · rintro ⟨l, v, h1, h2, h3, h4, h5⟩
    exact ⟨l, v, h1, .inl h2, h3, h4, h5⟩
  · rintro ⟨l, v, h1, h2, h3, h4, h5⟩
    rcases h2 with h2 | ⟨h2, h6⟩
    · exact ⟨l, v, h1, h2, h3, h4, h5⟩
    · subst h2
      have := hu v h4 h3
      omega
/-- the row of the lower number l -/
theorem row_lo {p q l u : Int} (hq : 0 < q) : 0 - (0 - p * l) / q ≤ u ↔ p * l ≤ u * q := by
  obtain ⟨f1, f2⟩ := fl (x := 0 - p * l) hq
  generalize (0 - p * l) / q = z at *
  constructor
  · intro h
    have : (-u) * q ≤ z * q := Int.mul_le_mul_of_nonneg_right (by omega) (Int.le_of_lt hq)
    rw [Int.neg_mul] at this
    omega
  · intro h
    have : (-u) * q < (z + 1) * q := by rw [Int.neg_mul]; omega
    have := Int.lt_of_mul_lt_mul_right this (Int.le_of_lt hq)
    omega
theorem row_hi {p q l u : Int} (hq : 0 < q) : u < p * l / q + 1 ↔ u * q ≤ p * l := by
  obtain ⟨f1, f2⟩ := fl (x := p * l) hq
  generalize p * l / q = z at *
  constructor
  · intro h
    have : u * q ≤ z * q := Int.mul_le_mul_of_nonneg_right (by omega) (Int.le_of_lt hq)
    omega
  · intro h
    have : u * q < (z + 1) * q := by omega
    have := Int.lt_of_mul_lt_mul_right this (Int.le_of_lt hq)
    omega
theorem up_start {p q p' q' l : Int} (hq : 0 < q) {f : Fr} : Up p q p' q' l (0 - (0 - p * l) / q) f ↔ Pre p q p' q' l f := by
  constructor
  · rintro ⟨l', v, h1, h2, h3, h4, h5⟩
    rcases h2 with h2 | ⟨h2, h6⟩
    · exact ⟨l', v, h1, h2, h3, h4, h5⟩
    · subst h2
      have := (row_lo hq).mpr h3
      omega
  · rintro ⟨l', v, h1, h2, h3, h4, h5⟩
    exact ⟨l', v, h1, .inl h2, h3, h4, h5⟩
theorem up_step {p q p' q' l u : Int} (hl : 1 ≤ l) {f : Fr} (h1 : p * l ≤ u * q) (h2 : u * q' ≤ p' * l) : Up p q p' q' l (u + 1) f ↔ Up p q p' q' l u f ∨ f = low u l := by
  constructor
  · rintro ⟨l', v, k1, k2, k3, k4, k5⟩
    rcases k2 with k2 | ⟨k2, k6⟩
    · exact .inl ⟨l', v, k1, .inl k2, k3, k4, k5⟩
    · subst k2
      by_cases e : v = u
      · subst e
        exact .inr k5
      · exact .inl ⟨l', v, k1, .inr ⟨rfl, by omega⟩, k3, k4, k5⟩
  · rintro (⟨l', v, k1, k2, k3, k4, k5⟩ | rfl)
    · exact ⟨l', v, k1, by omega, k3, k4, k5⟩
    · exact ⟨l, u, hl, .inr ⟨rfl, by omega⟩, h1, h2, rfl⟩
theorem up_end {p q p' q' l u : Int} (hq' : 0 < q') {f : Fr} (hu : p' * l / q' + 1 ≤ u) : Up p q p' q' l u f ↔ Pre p q p' q' (l + 1) f := by
  constructor
  · rintro ⟨l', v, k1, k2, k3, k4, k5⟩
    exact ⟨l', v, k1, by omega, k3, k4, k5⟩
  · rintro ⟨l', v, k1, k2, k3, k4, k5⟩
    refine ⟨l', v, k1, ?_, k3, k4, k5⟩
    by_cases e : l' < l
    · exact .inl e
    · have e2 : l' = l := by omega
      subst e2
      have := (row_hi hq').mpr k4
      exact .inr ⟨rfl, by omega⟩
def sp_between : Sp := fun vs H Q _ => ∃ (x y : Addr) (p q p' q' m : Int), vs = [.ref x, .ref y, .int m] ∧ H x = some (tI [p, q]) ∧ H y = some (tI [p', q']) ∧ 0 < q ∧ q ≤ 12 ∧ 0 < q' ∧ q' ≤ 12 ∧ -12 ≤ p ∧ p ≤ 12 ∧ -12 ≤ p' ∧ p' ≤ 12 ∧ 1 ≤ m ∧ m ≤ 9 ∧
  ∀ (ys : List At) H' t, (∀ z ∈ ys, AtOk H' z) → (∀ f, f ∈ ys.map (·.2) ↔ Inb p q p' q' m f) → (ys.map (·.2)).Pairwise flt → ys.length ≤ 2000 → Same H H' → H t = none → H' t = some (.tup (refs ys)) → Q (.ref t) H'
end RR
/-! RRI: enumerate of a tuple. -/
namespace RR
open PySem PySem.Spec PyProof.Rows L2
open AutoSeq1 (wpAny_loadPart')
theorem meets_enumT {v : Value} {o : Obj} {H : Heap → Prop} (B : Begins v o H) :
    Meets (Builtin.«enumerate.__new__» ⟨[.type "enumerate", v], []⟩) (fun _ R s => H s.heap ∧
      R (.ok (.ret (.ref (s.heap.push o).objs.size))) { s with heap := (s.heap.push o).push { cls := .type "enumerate", data := .fields #[.none, .bool false, .ref s.heap.objs.size, rawInt 0, .none, .none] } }) :=
  .of_wp fun prog w A R s h => by
    obtain ⟨hp, g, d, tk, os⟩ := s; obtain ⟨h1, h⟩ := h
    have hsub := sub_enumerate
    have q1 : ∀ {A' : Around} {E : Value → Shared → Prop} {Q : Value → Shared → Prop}, Q (.ref hp.objs.size) ⟨hp.push o, g, d, tk, os⟩ → wpAny (model prog w) A' (pyIter v) Q E ⟨hp, g, d, tk, os⟩ :=
      fun q => B.iter prog w _ _ ⟨hp, g, d, tk, os⟩ _ h1 q
    wp_walk using q1
    refine wpAny_stack_any fun st => wpAny_pure ?_
    split
    · rename_i c _ _ _ _ _
      cases (c == Value.type "enumerate")
      · wp_walk using q1
        exact ⟨_, rfl, h⟩
      · wp_walk using q1
        exact ⟨_, rfl, h⟩
    · wp_walk using q1
      exact ⟨_, rfl, h⟩
theorem call_enumT {prog : Program} {w : World} {A : Around} {E : Value → Shared → Prop} {s : Shared} {v : Value} {o : Obj} {H : Heap → Prop} {Q : Value → Shared → Prop} (B : Begins v o H) (h1 : H s.heap)
    (h : ∀ h', IsEnum h' (s.heap.objs.size + 1) s.heap.objs.size 0 .none → h'.get? s.heap.objs.size = some o → h'.objs.size = s.heap.objs.size + 2 →
      (∀ b o, s.heap.get? b = some o → h'.get? b = some o) → Q (.ref (s.heap.objs.size + 1)) { s with heap := h' }) :
    wpAny (model prog w) A (call (.type "enumerate") [v]) Q E s := by
  refine callType_new F.called_enumerate (by decide) (F.typeCall_enumerate_1 _) (F.newCall_enumerate_1 _) (fun obj => F.args_object_init_2 obj _) F.entry_enumerate_new
    (meets_enumT B) ⟨h1, ?_⟩
  have hz : (s.heap.push o).objs.size = s.heap.objs.size + 1 := Heap.size_push ..
  show _ ∧ _
  rw [hz]
  have he : IsEnum ((s.heap.push o).push { cls := .type "enumerate", data := .fields #[.none, .bool false, .ref s.heap.objs.size, rawInt 0, .none, .none] }) (s.heap.objs.size + 1) s.heap.objs.size 0 .none := by
    have := Heap.get?_push_size (s.heap.push o) (o := { cls := .type "enumerate", data := .fields #[.none, .bool false, .ref s.heap.objs.size, rawInt 0, .none, .none] }) rfl
    rw [hz] at this; exact this
  refine ⟨⟨_, he, rfl⟩, h _ he (Heap.get?_push_of_some _ (Heap.get?_push_size _ B.free)) (by rw [Heap.size_push, hz]) fun b o x => Heap.get?_push_of_some _ (Heap.get?_push_of_some _ x)⟩
/-- the tuple at a, each item in a new pair -/
def IteT (K : PySem.W.Frag) (a : Addr) : It :=
  ⟨fun i H => ∃ (xs : List V) (x : V), SqT K H a xs ∧ xs[i]? = some x, fun i H v H' => ∃ T x, v = .ref T ∧ H T = none ∧ H' = upd H T (.tup [.int (i : Nat), x]) ∧ ∀ xs, SqT K H a xs → xs[i]? = some x, fun i H => ∃ xs : List V, SqT K H a xs ∧ xs.length = i⟩
theorem turn_enumT {P : Program} {w : World} {K : PySem.W.Frag} {elts : List Expr} {kk : Nat} {tpos : Pos} (a e it : Addr) :
    Turn P w K (.Tuple elts kk tpos) (IteT K a) [e, it] e (fun i h => (∃ old, IsEnum h e it ((i : Nat) : Int) old) ∧ h.IsTupleIter it a i ∧ e ≠ it) where
  mem := by simp
  obj := fun i h st b hb => by
    obtain ⟨⟨old, he⟩, ⟨o, ho, hc, hd⟩, _⟩ := st
    have e' : b = e ∨ b = it := by simpa using hb
    rcases e' with z | z
    · rw [z]; exact ⟨_, he, fun v q => nomatch q⟩
    · rw [z]; exact ⟨o, ho, fun v q => by rw [hd] at q; cases q⟩
  keep := fun i h h' st k => let ⟨⟨old, he⟩, hi, hne⟩ := st; ⟨⟨old, k e (by simp) _ he⟩, hi.at fun o q => k it (by simp) o q, hne⟩
  item := by
    intro X hP hw hK hc i pins s σ H E I hf st hg
    subst hP hw hK
    obtain ⟨⟨old, he⟩, hit, hne⟩ := st
    obtain ⟨xs, x, hq, hx⟩ := hg
    obtain ⟨its, rv, p, hz⟩ := I.tuple hq
    obtain ⟨u, hu, ru⟩ := rv.get hx
    have hel : e < s.heap.objs.size := Heap.lt_size he
    have hil : it < s.heap.objs.size := by obtain ⟨_, q, _⟩ := hit; exact Heap.lt_size q
    have hai : a ≠ it := by
      rintro rfl
      obtain ⟨o, q1, q2, _⟩ := p
      obtain ⟨o', q3, q4, _⟩ := hit
      rw [q1] at q3
      cases q3
      rw [q2] at q4
      exact absurd q4 (by decide)
    have hea : e ≠ a := by
      rintro rfl
      obtain ⟨o, q1, q2, _⟩ := p
      have q3 : s.heap.get? e = some _ := he
      rw [q1] at q3
      cases q3
      exact absurd (show Value.type "enumerate" = Value.type "tuple" from q2) (by decide)
    have hi : i < its.toArray.size := by
      have := (List.getElem?_eq_some_iff.mp hu).1
      simpa using this
    have D := Draws.tuple (prog := X.prog) (w := X.w) (A := X.A.in1) (I.ok.hd hc) it a hai its.toArray
    refine wpAny_pyNext_enum_itemD D he ⟨hit, p⟩ hi hne (by simp [hne, hea]) fun v h' tk hv ho hit' hT hsz hk => ?_
    have ev : v = u := by
      have h1 : its.toArray[i]? = some u := by simpa using hu
      rw [h1] at hv
      cases hv
      rfl
    subst ev
    refine ⟨_, rfl, wpAny_letOwnedTupleGo_enum (s := { s with heap := h', toks := tk + 1 }) ho fun h'' he' sb => ?_⟩
    have hT2 : h''.get? s.heap.objs.size = some { cls := .type "tuple", data := .seq #[.int i tk, v] } := (sb.2 _ (Nat.ne_of_gt hel)).trans hT
    have new : ObjOk X.prog X.w (upd H s.heap.objs.size (.tup [.int (i : Nat), x])) h'' s.heap.objs.size (.tup [.int (i : Nat), x]) :=
      ⟨by show 2 ≤ sizeLine; decide, [.int i tk, v], .cons ⟨_, rfl⟩ (.cons ru .nil), ⟨_, hT2, rfl, _, rfl⟩⟩
    have I1 : Inv X pins σ (upd H s.heap.objs.size (.tup [.int (i : Nat), x])) { s with heap := h'', toks := tk + 1 } :=
      I.turnedNew (ch := [e, it]) (fun b ob hb q => (sb.2 b (fun z => hb (by simp [z]))).trans (hk b ob (fun z => hb (by simp [z])) (fun z => hb (by simp [z])) q)) hf (Nat.le_refl _) new
    refine ⟨.ref s.heap.objs.size, _, I1, rfl, ⟨_, x, rfl, I.hok.fresh (Nat.le_refl _), rfl, fun ys hy => by rw [I.tuple_inj hy hq]; exact hx⟩, ⟨⟨v, ?_⟩, hit'.1.at fun o q => (sb.2 it (Ne.symm hne)).trans q, hne⟩, fun b hb => ?_⟩
    · have e1 : ((i + 1 : Nat) : Int) = (i : Int) + 1 := by omega
      rw [e1]; exact he'
    · have hb' : b < s.heap.objs.size := by
        have e' : b = e ∨ b = it := by simpa using hb
        rcases e' with z | z
        · rw [z]; exact hel
        · rw [z]; exact hil
      rw [upd_ne (Nat.ne_of_lt hb')]
      exact (hf b hb).1
  done := by
    intro X hP hw hK hc i pins s σ H E I hf st hg
    subst hP hw hK
    obtain ⟨⟨old, he⟩, hit, hne⟩ := st
    obtain ⟨xs, hq, hx⟩ := hg
    obtain ⟨its, rv, p, hz⟩ := I.tuple hq
    obtain ⟨f0, f1, f2, f3, f4, f5⟩ := hf it (by simp)
    have hl := rv.length
    have hai : a ≠ it := by
      rintro rfl
      obtain ⟨o, q1, q2, _⟩ := p
      obtain ⟨o', q3, q4, _⟩ := hit
      rw [q1] at q3
      cases q3
      rw [q2] at q4
      exact absurd q4 (by decide)
    have D := Draws.tuple (prog := X.prog) (w := X.w) (A := X.A.in1) (I.ok.hd hc) it a hai its.toArray
    have hn : i = its.toArray.size := by simp; omega
    subst hn
    exact wpAny_pyNext_enum_endD D he ⟨hit, p⟩ fun h' eb => ⟨rfl, I.turned (t' := s.toks) (fun b o hb q => eb b o hb q) f0 f1 f3 f4 f5⟩
  self := fun A i s Q E st h => let ⟨⟨_, he⟩, _⟩ := st; wpAny_pyIter_enum he h
def iEnumT (K : PySem.W.Frag) (ta : TA) : TI := fun σ H R => ta σ H fun vs H1 => ∃ a xs, vs = [.ref a] ∧ SqT K H1 a xs ∧ R (IteT K a) H1
theorem pi_enumT {X : Cx} {e : Expr} {ta : TA} {p pos tpos : Pos} {elts : List Expr} {kk : Nat} (hg : Gl X "enumerate") (hm : X.mg "enumerate" = none) (ha : PA X [e] ta) (hs : starEach [e] X.env = [(false, eval e X.env)] := by rfl) :
    PI X (.Tuple elts kk tpos) (.Call (.Name "enumerate" p) [e] [] pos) (iEnumT X.K ta) := by
  refine ⟨fun pins s σ H R I h => ?_⟩
  refine Call_ (ld_blt I hg hm boot_enumerate (PyProof.Rows.callWith_type1 (thn (ha.run pos pins s σ H _ I h) fun us s1 ⟨vs, H1, I1, r1, q1⟩ => ?_) hs rfl))
  obtain ⟨a, xs, ex, hq, q⟩ := q1
  subst ex
  cases r1 with
  | cons r rr =>
    cases rr
    cases r
    obtain ⟨its, rv, p', hz⟩ := I1.tuple hq
    have B : Begins (.ref a) { cls := .type "tuple_iterator", data := .fields #[.ref a, .int 0 0] } (fun h => h.IsTuple a its.toArray) := begins_tuple a its.toArray
    refine call_enumT B (show s1.heap.IsTuple a its.toArray from p') fun h' he hit hsz hk => wpAny_pyIter_enum he ?_
    have I2 : Inv X pins σ H1 { s1 with heap := h' } := I1.kept (t' := s1.toks) hk
    refine ⟨s1.heap.objs.size + 1, [s1.heap.objs.size + 1, s1.heap.objs.size], _, _, H1, rfl, I2, turn_enumT a (s1.heap.objs.size + 1) s1.heap.objs.size, ⟨⟨.none, he⟩, ⟨_, hit, rfl, rfl⟩, Nat.succ_ne_self _⟩, fun b hb => ?_, q⟩
    have e' : b = s1.heap.objs.size + 1 ∨ b = s1.heap.objs.size := by simpa using hb
    have hle : s1.heap.objs.size ≤ b := by
      rcases e' with z | z
      · rw [z]; exact Nat.le_add_right _ _
      · rw [z]; exact Nat.le_refl _
    exact I1.fpOk hle (I1.hok.fresh hle)
theorem walk_enumT {K : PySem.W.Frag} {a : Addr} {xs : List V} : Walk (IteT K a) xs.length (fun H => SqT K H a xs) (YPair (fun i => some (.int (i : Nat))) (fun i => xs[i]?)) :=
  ⟨fun i _ hi q => ⟨xs, xs[i], q, by simp [hi]⟩, fun _ q => ⟨xs, q, rfl⟩, fun i _ _ _ _ q y => by
    obtain ⟨T, x, e1, e2, e3, e4⟩ := y
    exact ⟨T, _, x, e1, e2, e3, rfl, e4 xs q⟩⟩
end RR
namespace RR
open PySem PySem.Spec PyProof.Rows L2
/-! ### the text by places -/
def topS (i : Nat) : Stmt := PySem.Challenge.pw_rootrow_k09_whole_neighbours.main.body.getD i (.Pass ⟨0, 0, 0, 0⟩)
abbrev s_divisor : Stmt := topS 4
abbrev n_divisor : List Str := ["one", "other"]
abbrev p_divisor : List Str := ["one", "other"]
theorem sc_divisor : FnScope n_divisor p_divisor (defScope s_divisor) := ⟨rfl, rfl, rfl, by decide +kernel, rfl, by decide +kernel, by decide +kernel⟩
abbrev s_lowest : Stmt := topS 5
abbrev n_lowest : List Str := ["upper", "lower", "by"]
abbrev p_lowest : List Str := ["upper", "lower"]
theorem sc_lowest : FnScope n_lowest p_lowest (defScope s_lowest) := ⟨rfl, rfl, rfl, by decide +kernel, rfl, by decide +kernel, by decide +kernel⟩
abbrev s_least_square : Stmt := topS 6
abbrev n_least_square : List Str := ["n", "found", "other"]
abbrev p_least_square : List Str := ["n"]
theorem sc_least_square : FnScope n_least_square p_least_square (defScope s_least_square) := ⟨rfl, rfl, rfl, by decide +kernel, rfl, by decide +kernel, by decide +kernel⟩
abbrev s_heart : Stmt := topS 8
abbrev n_heart : List Str := ["a", "b", "c"]
abbrev p_heart : List Str := ["a", "b", "c"]
theorem sc_heart : FnScope n_heart p_heart (defScope s_heart) := ⟨rfl, rfl, rfl, by decide +kernel, rfl, by decide +kernel, by decide +kernel⟩
abbrev s_is_square : Stmt := topS 9
abbrev n_is_square : List Str := ["n"]
abbrev p_is_square : List Str := ["n"]
theorem sc_is_square : FnScope n_is_square p_is_square (defScope s_is_square) := ⟨rfl, rfl, rfl, by decide +kernel, rfl, by decide +kernel, by decide +kernel⟩
abbrev s_root_of : Stmt := topS 10
abbrev n_root_of : List Str := ["a", "b", "c", "side", "by"]
abbrev p_root_of : List Str := ["a", "b", "c", "side"]
theorem sc_root_of : FnScope n_root_of p_root_of (defScope s_root_of) := ⟨rfl, rfl, rfl, by decide +kernel, rfl, by decide +kernel, by decide +kernel⟩
abbrev s_is_above : Stmt := topS 11
abbrev n_is_above : List Str := ["root", "upper", "lower", "a", "b", "c", "side", "found", "beyond"]
abbrev p_is_above : List Str := ["root", "upper", "lower"]
theorem sc_is_above : FnScope n_is_above p_is_above (defScope s_is_above) := ⟨rfl, rfl, rfl, by decide +kernel, rfl, by decide +kernel, by decide +kernel⟩
abbrev s_part_of : Stmt := topS 12
abbrev n_part_of : List Str := ["number", "a", "b", "c", "side", "wide", "found"]
abbrev p_part_of : List Str := ["number"]
theorem sc_part_of : FnScope n_part_of p_part_of (defScope s_part_of) := ⟨rfl, rfl, rfl, by decide +kernel, rfl, by decide +kernel, by decide +kernel⟩
abbrev s_moved : Stmt := topS 13
abbrev n_moved : List Str := ["root", "n", "a", "b", "c", "side"]
abbrev p_moved : List Str := ["root", "n"]
theorem sc_moved : FnScope n_moved p_moved (defScope s_moved) := ⟨rfl, rfl, rfl, by decide +kernel, rfl, by decide +kernel, by decide +kernel⟩
abbrev s_turned : Stmt := topS 14
abbrev n_turned : List Str := ["root", "n", "a", "b", "c", "side", "other"]
abbrev p_turned : List Str := ["root", "n"]
theorem sc_turned : FnScope n_turned p_turned (defScope s_turned) := ⟨rfl, rfl, rfl, by decide +kernel, rfl, by decide +kernel, by decide +kernel⟩
abbrev s_by_fraction : Stmt := topS 16
abbrev n_by_fraction : List Str := ["root", "fraction"]
abbrev p_by_fraction : List Str := ["root", "fraction"]
theorem sc_by_fraction : FnScope n_by_fraction p_by_fraction (defScope s_by_fraction) := ⟨rfl, rfl, rfl, by decide +kernel, rfl, by decide +kernel, by decide +kernel⟩
abbrev s_by_rows : Stmt := topS 17
abbrev n_by_rows : List Str := ["one", "other", "sign"]
abbrev p_by_rows : List Str := ["one", "other"]
theorem sc_by_rows : FnScope n_by_rows p_by_rows (defScope s_by_rows) := ⟨rfl, rfl, rfl, by decide +kernel, rfl, by decide +kernel, by decide +kernel⟩
abbrev s_compare : Stmt := topS 18
abbrev n_compare : List Str := ["one", "other"]
abbrev p_compare : List Str := ["one", "other"]
theorem sc_compare : FnScope n_compare p_compare (defScope s_compare) := ⟨rfl, rfl, rfl, by decide +kernel, rfl, by decide +kernel, by decide +kernel⟩
abbrev s_between : Stmt := topS 20
abbrev n_between : List Str := ["low", "high", "most", "found", "lower", "upper"]
abbrev p_between : List Str := ["low", "high", "most"]
theorem sc_between : FnScope n_between p_between (defScope s_between) := ⟨rfl, rfl, rfl, by decide +kernel, rfl, by decide +kernel, by decide +kernel⟩
abbrev s_ordered : Stmt := topS 21
abbrev n_ordered : List Str := ["some", "cut", "one", "other", "found"]
abbrev p_ordered : List Str := ["some"]
theorem sc_ordered : FnScope n_ordered p_ordered (defScope s_ordered) := ⟨rfl, rfl, rfl, by decide +kernel, rfl, by decide +kernel, by decide +kernel⟩
abbrev s__law_cell : Stmt := topS 23
abbrev n__law_cell : List Str := ["_law_script", "_law_k"]
abbrev p__law_cell : List Str := ["_law_script", "_law_k"]
theorem sc__law_cell : FnScope n__law_cell p__law_cell (defScope s__law_cell) := ⟨rfl, rfl, rfl, by decide +kernel, rfl, by decide +kernel, by decide +kernel⟩
abbrev s__law_mix : Stmt := topS 24
abbrev n__law_mix : List Str := ["_law_cell_here", "_law_prime", "_law_many"]
abbrev p__law_mix : List Str := ["_law_cell_here", "_law_prime", "_law_many"]
theorem sc__law_mix : FnScope n__law_mix p__law_mix (defScope s__law_mix) := ⟨rfl, rfl, rfl, by decide +kernel, rfl, by decide +kernel, by decide +kernel⟩
abbrev s__law_whole : Stmt := topS 25
abbrev n__law_whole : List Str := ["_law_found"]
abbrev p__law_whole : List Str := ["_law_found"]
theorem sc__law_whole : FnScope n__law_whole p__law_whole (defScope s__law_whole) := ⟨rfl, rfl, rfl, by decide +kernel, rfl, by decide +kernel, by decide +kernel⟩
abbrev s__law_divisor : Stmt := topS 26
abbrev n__law_divisor : List Str := ["_law_one", "_law_other"]
abbrev p__law_divisor : List Str := ["_law_one", "_law_other"]
theorem sc__law_divisor : FnScope n__law_divisor p__law_divisor (defScope s__law_divisor) := ⟨rfl, rfl, rfl, by decide +kernel, rfl, by decide +kernel, by decide +kernel⟩
abbrev s__law_lowest : Stmt := topS 27
abbrev n__law_lowest : List Str := ["_law_upper", "_law_lower", "_law_by"]
abbrev p__law_lowest : List Str := ["_law_upper", "_law_lower"]
theorem sc__law_lowest : FnScope n__law_lowest p__law_lowest (defScope s__law_lowest) := ⟨rfl, rfl, rfl, by decide +kernel, rfl, by decide +kernel, by decide +kernel⟩
abbrev s__law_fraction : Stmt := topS 28
abbrev n__law_fraction : List Str := ["_law_cell_here", "_law_other", "_law_wide", "_law_upper"]
abbrev p__law_fraction : List Str := ["_law_cell_here", "_law_other", "_law_wide"]
theorem sc__law_fraction : FnScope n__law_fraction p__law_fraction (defScope s__law_fraction) := ⟨rfl, rfl, rfl, by decide +kernel, rfl, by decide +kernel, by decide +kernel⟩
abbrev s__law_less : Stmt := topS 29
abbrev n__law_less : List Str := ["_law_one", "_law_other"]
abbrev p__law_less : List Str := ["_law_one", "_law_other"]
theorem sc__law_less : FnScope n__law_less p__law_less (defScope s__law_less) := ⟨rfl, rfl, rfl, by decide +kernel, rfl, by decide +kernel, by decide +kernel⟩
abbrev s_law : Stmt := topS 30
abbrev n_law : List Str := ["_law_script", "_law_low", "_law_high", "_law_most", "_law_found", "_law_k", "_law_one", "_law_many", "_law_lower", "_law_upper"]
abbrev p_law : List Str := ["_law_script"]
theorem sc_law : FnScope n_law p_law (defScope s_law) := ⟨rfl, rfl, rfl, by decide +kernel, rfl, by decide +kernel, by decide +kernel⟩
section
variable {P : Program} {w : World} {K : PySem.W.Frag} {mg : Str → Option Value} {base : Heap}
theorem ok_divisor (D : Df K mg "divisor" p_divisor s_divisor) (B : Bl mg) : Cal P w K mg base CX0 1 "divisor" p_divisor sp_divisor := D.cal fun f fd F => by
  refine F.ok sc_divisor (fun vs H Q E h => ?_) (fun cdv A outer s H vs Q E hr h => ?_)
  · obtain ⟨a, b, rfl, _⟩ := h
    rfl
  obtain ⟨a, b, rfl, q⟩ := h
  refine ⟨_, pss_cons (ps_set (i := 0) sc_divisor.nd rfl (.inl rfl) (pe_callB call_abs (by rfl) B.abs (by decide +kernel) (pa_cons (pv 0) pa_nil)))
    (pss_cons (ps_set (i := 1) sc_divisor.nd rfl (.inl rfl) (pe_callB call_abs (by rfl) B.abs (by decide +kernel) (pa_cons (pv 1) pa_nil)))
    (pss_cons (ps_while PassesOwn.never (pt_cmpR op_gt (pv 1) pe_int (nomark _)) (pss_one (ps_par (i := 0) (j := 1) (by rfl) sc_divisor.nd rfl rfl (by decide) rfl rfl (pa_cons (pv 1) (pa_cons (pe_op op_mod (pv 0) (pv 1)) pa_nil)) (by rfl))))
    (pss_one (ps_ret (pv 0))))), ?_⟩
  refine ⟨_, rfl, a, rfl, _, rfl, b, rfl, ?_⟩
  refine ⟨fun m σ H' => ∃ x y : Int, σ = [some (.int x), some (.int y)] ∧ 0 ≤ x ∧ 0 ≤ y ∧ Int.gcd x y = Int.gcd a b ∧ H' = H ∧ m = y.toNat, ⟨_, _, _, rfl, by split <;> omega, by split <;> omega, gcd_abs a b, rfl, rfl⟩, ?_⟩
  rintro m σ H' ⟨x, y, rfl, hx, hy, hg, rfl, rfl⟩
  refine ⟨_, rfl, _, _, rfl, rfl, _, rfl, ite2 (fun c => ?_) (fun c => ?_)⟩
  · have c' : 0 < y := of_decide_eq_true c
    have h1 := Int.emod_nonneg x (show y ≠ 0 by omega)
    have h2 := Int.emod_lt_of_pos x c'
    refine ⟨fun σ' H2 => σ' = [some (.int y), some (.int (x % y))] ∧ H2 = H', fun σ' H2 ⟨e1, e2⟩ => ⟨(x % y).toNat, by omega, y, x % y, e1, hy, h1, by rw [gcd_step hx c', hg], e2, rfl⟩, ?_⟩
    exact ⟨_, rfl, _, rfl, _, rfl, _, _, rfl, rfl, c', _, _, rfl, rfl, rfl⟩
  · have c' : ¬ 0 < y := of_decide_eq_false (Bool.eq_false_iff.mpr c)
    refine ⟨_, rfl, ?_⟩
    have e : x = dv a b := by
      rw [gcd_end hx c' hy, hg]
      rfl
    rw [e]
    exact q
end
section
variable {P : Program} {w : World} {K : PySem.W.Frag} {mg : Str → Option Value} {base : Heap} {C R : Addr}
theorem ok_lowest (D : Df K mg "lowest" p_lowest s_lowest) (N : NoN K mg C R) (C_div : Cal P w K mg base CX0 1 "divisor" p_divisor sp_divisor) : Cal P w K mg base (L2.CX P w) 2 "lowest" p_lowest (sp_lowest C) := D.cal fun f fd F => by
  refine F.okX sc_lowest (fun vs H Q E h => ?_) (fun cdv A outer s H vs Q E hr h => ?_)
  · obtain ⟨a, b, rfl, _⟩ := h
    rfl
  obtain ⟨u, l, rfl, hu, hl, q0, q⟩ := h
  refine ⟨_, pss_cons (ps_if (pt_cmpR op_eq (pv 1) pe_int (nomark _)) (pss_one (ps_no N rfl (takes_of rfl rfl rfl rfl) (by rfl))) pss_nil)
    <| pss_mid (ps_if (pt_cmpR op_lt (pv 1) pe_int (nomark _)) (pss_cons (ps_set (i := 0) sc_lowest.nd rfl (.inl rfl) (pe_op op_sub pe_int (pv 0))) (pss_one (ps_set (i := 1) sc_lowest.nd rfl (.inl rfl) (pe_op op_sub pe_int (pv 1))))) pss_nil)
    <| pss_cons (ps_set (i := 2) sc_lowest.nd rfl (.inl rfl) (pe_cal C_div hr (by decide) (by rfl) pass0 (pa_cons (pv 0) (pa_cons (pv 1) pa_nil))))
    (pss_one (ps_ret (pe_tup (pa_cons (pe_op op_fdivWN (pv 0) (pv 2)) (pa_cons (pe_op op_fdivWN (pv 1) (pv 2)) pa_nil))))), ?_⟩
  refine ⟨_, rfl, rfl, _, rfl, ite2 (fun c => ?_) (fun c => ?_)⟩
  · have c' : l = 0 := V.int.inj (of_decide_eq_true c)
    exact q0 c'
  have h0 : l ≠ 0 := fun z => c (decide_eq_true (congrArg V.int z))
  refine ⟨fun σ H' => H' = H ∧ ∃ u' l', σ = [some (.int u'), some (.int l'), none] ∧ 0 < l' ∧ Big l' ∧ low u l = (u' / dv u' l', l' / dv u' l'), ?_, ?_⟩
  · refine ⟨_, rfl, _, _, rfl, rfl, _, rfl, ite2 (fun c => ?_) (fun c => ?_)⟩
    · have c' : l < 0 := of_decide_eq_true c
      refine ⟨_, rfl, _, _, rfl, rfl, _, rfl, _, _, rfl, rfl, rfl, 0 - u, 0 - l, rfl, by omega, big_le (by omega) hl, ?_⟩
      unfold low
      rw [if_pos c', show 0 - u = -u by omega, show 0 - l = -l by omega, dv_neg_left, dv_neg_right]
    · have c' : ¬ l < 0 := of_decide_eq_false (Bool.eq_false_iff.mpr c)
      refine ⟨rfl, u, l, rfl, by omega, hl, ?_⟩
      unfold low
      rw [if_neg c']
  rintro σ H' ⟨rfl, u', l', rfl, hp, hb', e⟩
  have hg := dv_pos_right (a := u') (show l' ≠ 0 by omega)
  have hb : dv u' l' ≠ 0 ∧ (dv u' l').natAbs.log2 < 9000 := by
    refine ⟨by omega, Nat.lt_of_lt_of_le (PySem.Flt.log2_lt_of (by decide) (Nat.lt_of_le_of_lt ?_ hb'.lt)) (by decide : 4000 ≤ 9000)⟩
    obtain ⟨k, hk⟩ := dv_dvd_right u' l'
    conv => rhs; rw [hk]
    rw [Int.natAbs_mul]
    refine Nat.le_mul_of_pos_right _ ?_
    have : k ≠ 0 := fun z => by
      rw [z, Int.mul_zero] at hk
      omega
    omega
  have q2 := q h0
  rw [e] at q2
  refine ⟨_, rfl, _, rfl, u', l', rfl, _, rfl, _, rfl, _, _, rfl, rfl, hb, _, rfl, _, rfl, _, _, rfl, rfl, hb, len2, fun p np => ?_⟩
  have := q2 p np
  rw [← Int.fdiv_eq_ediv_of_nonneg u' (by omega), ← Int.fdiv_eq_ediv_of_nonneg l' (by omega)] at this
  exact this
end
section
variable {P : Program} {w : World} {K : PySem.W.Frag} {mg : Str → Option Value} {base : Heap}
theorem ok_least_square (D : Df K mg "least_square" p_least_square s_least_square) : Cal P w K mg base CX0 1 "least_square" p_least_square sp_least_square := D.cal fun f fd F => by
  refine F.ok sc_least_square (fun vs H Q E h => ?_) (fun cdv A outer s H vs Q E hr h => ?_)
  · obtain ⟨a, rfl, _⟩ := h
    rfl
  obtain ⟨n, rfl, h0, hb, q⟩ := h
  refine ⟨_, pss_cons (ps_if (pt_cmpR op_lt (pv 0) pe_int (nomark _)) (pss_one (ps_ret (pv 0))) pss_nil)
    <| pss_cons (ps_set (i := 1) sc_least_square.nd rfl (.inl rfl) (pv 0))
    <| pss_cons (ps_set (i := 2) sc_least_square.nd rfl (.inl rfl) (pe_op op_fdiv (pe_op op_add (pv 1) (pe_op op_fdivW (pv 0) (pv 1))) pe_int))
    <| pss_cons (ps_while PassesOwn.never (pt_cmpR op_lt (pv 2) (pv 1) (nomark _)) (pss_cons (ps_set (i := 1) sc_least_square.nd rfl (.inl rfl) (pv 2))
      (pss_one (ps_set (i := 2) sc_least_square.nd rfl (.inl rfl) (pe_op op_fdiv (pe_op op_add (pv 1) (pe_op op_fdivW (pv 0) (pv 1))) pe_int)))))
    <| pss_one (ps_ret (pv 1)), ?_⟩
  refine ⟨_, rfl, _, _, rfl, rfl, _, rfl, ite2 (fun c => ?_) (fun c => ?_)⟩
  · have c' : n < 2 := of_decide_eq_true c
    have e : rt n = n := by
      rcases (show n = 0 ∨ n = 1 by omega) with rfl | rfl <;> exact rt_unique (by decide) (by decide) (by decide)
    rw [e] at q
    exact ⟨_, rfl, q⟩
  have c' : ¬ n < 2 := of_decide_eq_false (Bool.eq_false_iff.mpr c)
  have hdv : ∀ f : Int, 1 ≤ f → f ≤ n → 0 < f ∧ f.natAbs.log2 < 9000 := fun f h1 h2 => ⟨by omega, Nat.lt_trans (big_le (x := f) (by omega) hb).log (by decide)⟩
  have st : ∀ f : Int, 1 ≤ f → (f + n / f) / 2 ≤ (f + n / f) / 2 := fun f _ => Int.le_refl _
  refine ⟨_, rfl, _, rfl, _, rfl, _, rfl, _, _, rfl, rfl, hdv n (by omega) (by omega), _, _, rfl, rfl, _, _, rfl, rfl, ⟨by decide, by decide⟩, ?_⟩
  refine ⟨fun m σ H' => ∃ f : Int, σ = [some (.int n), some (.int f), some (.int ((f + n / f) / 2))] ∧ 1 ≤ f ∧ f ≤ n ∧ n < (f + 1) * (f + 1) ∧ H' = H ∧ m = f.toNat, ⟨_, n, rfl, by omega, by omega, ?_, rfl, rfl⟩, ?_⟩
  · have : (n + 1) * (n + 1) = n * n + 2 * n + 1 := by grind
    have := sqn n
    omega
  rintro m σ H' ⟨f, rfl, h1, h2, h3, rfl, rfl⟩
  obtain ⟨k1, k2, k3⟩ := newton (n := n) (by omega) h1
  refine ⟨_, rfl, _, rfl, _, _, rfl, rfl, _, rfl, ite2 (fun c => ?_) (fun c => ?_)⟩
  · have c2 : (f + n / f) / 2 < f := of_decide_eq_true c
    refine ⟨fun σ' H2 => σ' = [some (.int n), some (.int ((f + n / f) / 2)), some (.int (((f + n / f) / 2 + n / ((f + n / f) / 2)) / 2))] ∧ H2 = H', fun σ' H2 ⟨e1, e2⟩ => ⟨_, ?_, _, e1, k1, ?_, k2, e2, rfl⟩, ?_⟩
    · omega
    · omega
    · exact ⟨_, rfl, _, rfl, _, rfl, _, rfl, _, _, rfl, rfl, hdv _ k1 (by omega), _, _, rfl, rfl, _, _, rfl, rfl, ⟨by decide, by decide⟩, rfl, rfl⟩
  · have c2 : ¬ (f + n / f) / 2 < f := of_decide_eq_false (Bool.eq_false_iff.mpr c)
    have e : rt n = f := rt_unique (by omega) (k3 (by omega)) h3
    rw [e] at q
    exact ⟨_, rfl, q⟩
end
section
variable {P : Program} {w : World} {K : PySem.W.Frag} {mg : Str → Option Value} {base : Heap}
theorem ok_heart (D : Df K mg "heart" p_heart s_heart) : Cal P w K mg base CX0 1 "heart" p_heart sp_heart := D.cal fun f fd F => by
  refine F.ok sc_heart (fun vs H Q E h => ?_) (fun cdv A outer s H vs Q E hr h => ?_)
  · obtain ⟨a, b, c, rfl, _⟩ := h
    rfl
  obtain ⟨a, b, c, rfl, ha, hb, hc, q⟩ := h
  refine ⟨_, pss_one (ps_ret (pe_op op_sub (pe_op op_mulW (pv 1) (pv 1)) (pe_op op_mulW (pe_op op_mulW pe_int (pv 0)) (pv 2)))), ?_⟩
  exact ⟨_, rfl, _, rfl, _, _, rfl, rfl, mulW_of hb.lt hb.lt, _, rfl, _, _, rfl, rfl, mulW_of (m := 3) (by decide) ha.lt, _, rfl, _, _, rfl, rfl, mulW_of (m := 1003) (nat_mul_lt (m := 3) (by decide) ha.lt) hc.lt, _, _, rfl, rfl, q⟩
end
section
variable {P : Program} {w : World} {K : PySem.W.Frag} {mg : Str → Option Value} {base : Heap}
theorem ok_is_square (D : Df K mg "is_square" p_is_square s_is_square) (Cs : Cal P w K mg base CX0 1 "least_square" p_least_square sp_least_square) : Cal P w K mg base CX0 2 "is_square" p_is_square sp_is_square := D.cal fun f fd F => by
  refine F.ok sc_is_square (fun vs H Q E h => ?_) (fun cdv A outer s H vs Q E hr h => ?_)
  · obtain ⟨n, rfl, _⟩ := h
    rfl
  obtain ⟨n, rfl, h0, hb, q⟩ := h
  refine ⟨_, pss_one (ps_ret (pe_cmpR op_eq (pe_op op_mulW (pe_cal Cs hr (by decide) (by rfl) pass0 (pa_cons (pv 0) pa_nil)) (pe_cal Cs hr (by decide) (by rfl) pass0 (pa_cons (pv 0) pa_nil))) (pv 0) (nomark _))), ?_⟩
  have hr1 : Big (rt n) := big_le (by have := rt_le h0; have := (rt_spec h0).1; omega) hb
  refine ⟨_, rfl, n, rfl, h0, hb, _, rfl, n, rfl, h0, hb, _, _, rfl, rfl, hr1.mul hr1, _, rfl, rfl, ?_⟩
  have e : decide (V.int (rt n * rt n) = V.int n) = isSq n := by
    unfold isSq
    exact decide_eq_decide.mpr ⟨fun z => V.int.inj z, fun z => congrArg V.int z⟩
  dsimp only
  rw [e]
  exact q
end
section
variable {P : Program} {w : World} {K : PySem.W.Frag} {mg : Str → Option Value} {base : Heap} {C R : Addr}
theorem ok_root_of (D : Df K mg "root_of" p_root_of s_root_of) (N : NoN K mg C R) (Ch : Cal P w K mg base CX0 1 "heart" p_heart sp_heart) (Cs : Cal P w K mg base CX0 2 "is_square" p_is_square sp_is_square) (Cd : Cal P w K mg base CX0 1 "divisor" p_divisor sp_divisor) : Cal P w K mg base (L2.CX P w) 3 "root_of" p_root_of (sp_root_of C) := D.cal fun f fd F => by
  refine F.okX sc_root_of (fun vs H Q E h => ?_) (fun cdv A outer s H vs Q E hr h => ?_)
  · obtain ⟨a, b, c, s, rfl, _⟩ := h
    rfl
  obtain ⟨a, b, c, sd, rfl, ha, hb, hc, q0, q⟩ := h
  refine ⟨_, pss_mid (ps_if (PW.pt (pw_or (pt_cmpR op_eq (pv 0) pe_int (nomark _)) (pw_or (pt_cmpR op_lt (pe_cal Ch hr (by decide) (by rfl) pass0 (pa_cons (pv 0) (pa_cons (pv 1) (pa_cons (pv 2) pa_nil)))) pe_int (nomark _))
      (pw_or1 (pt_val (pe_cal Cs hr (by decide) (by rfl) pass0 (pa_cons (pe_cal Ch hr (by decide) (by rfl) pass0 (pa_cons (pv 0) (pa_cons (pv 1) (pa_cons (pv 2) pa_nil)))) pa_nil)))))))
      (pss_one (ps_no N rfl (takes_of rfl rfl rfl rfl) (by rfl))) pss_nil)
    <| pss_cons (ps_set (i := 4) sc_root_of.nd rfl (.inl rfl) (pe_cal Cd hr (by decide) (by rfl) pass0 (pa_cons (pe_cal Cd hr (by decide) (by rfl) pass0 (pa_cons (pv 0) (pa_cons (pv 1) pa_nil))) (pa_cons (pv 2) pa_nil))))
    <| pss_cons (ps_if (pt_cmpR op_lt (pv 0) pe_int (nomark _)) (pss_one (ps_set (i := 4) sc_root_of.nd rfl (.inl rfl) (pe_op op_sub pe_int (pv 4)))) pss_nil)
    (pss_one (ps_ret (pe_tup (pa_cons (pe_op op_fdivWN (pv 0) (pv 4)) (pa_cons (pe_op op_fdivWN (pv 1) (pv 4)) (pa_cons (pe_op op_fdivWN (pv 2) (pv 4)) (pa_cons (pv 3) pa_nil))))))), ?_⟩
  refine ⟨fun σ H' => H' = H ∧ σ = [some (.int a), some (.int b), some (.int c), some (.int sd), none] ∧ ¬ NoRoot a b c, ?_, ?_⟩
  · refine ⟨_, rfl, rfl, _, rfl, ite2 (fun k => ?_) (fun k => ?_)⟩
    · exact iteT (q0 (.inl (V.int.inj (of_decide_eq_true k))))
    have h0 : a ≠ 0 := fun z => k (decide_eq_true (congrArg V.int z))
    refine ⟨_, rfl, _, rfl, _, rfl, a, b, c, rfl, ha, hb, hc, _, _, rfl, rfl, _, rfl, ite2 (fun k => ?_) (fun k => ?_)⟩
    · exact iteT (q0 (.inr (.inl (of_decide_eq_true k))))
    have h1 : ¬ ht a b c < 0 := of_decide_eq_false (Bool.eq_false_iff.mpr k)
    refine ⟨_, rfl, _, rfl, _, rfl, a, b, c, rfl, ha, hb, hc, ht a b c, rfl, by omega, ht_big ha hb hc, _, rfl, ?_⟩
    cases e : isSq (ht a b c) with
    | true => exact iteT (q0 (.inr (.inr e)))
    | false => exact iteF ⟨rfl, rfl, fun z => z.elim h0 fun z => z.elim h1 fun z => by rw [e] at z; cases z⟩
  rintro σ H' ⟨rfl, rfl, hno⟩
  have h0 : a ≠ 0 := fun z => hno (.inl z)
  have hg : 0 < dv (dv a b) c := dv_pos_left (by have := dv_pos_left (b := b) h0; omega)
  obtain ⟨d1, d2, d3⟩ := dv3_dvd a b c
  have hgb : (dv (dv a b) c).natAbs.log2 < 9000 := by
    refine Nat.lt_of_lt_of_le (PySem.Flt.log2_lt_of (by decide) (Nat.lt_of_le_of_lt ?_ ha.lt)) (by decide : 1000 ≤ 9000)
    obtain ⟨k, hk⟩ := d1
    conv => rhs; rw [hk]
    rw [Int.natAbs_mul]
    refine Nat.le_mul_of_pos_right _ ?_
    have : k ≠ 0 := fun z => by
      rw [z, Int.mul_zero] at hk
      exact h0 hk
    omega
  have q2 := q hno
  unfold nfA nfB nfC at q2
  refine ⟨_, rfl, _, rfl, a, b, rfl, _, rfl, _, c, rfl, ?_⟩
  generalize dv (dv a b) c = g at *
  refine ⟨_, rfl, _, _, rfl, rfl, _, rfl, ite2 (fun k => ?_) (fun k => ?_)⟩
  · have k' : a < 0 := of_decide_eq_true k
    have hb1 : (0 - g) ≠ 0 ∧ (0 - g).natAbs.log2 < 9000 := ⟨by omega, by rw [show (0 - g).natAbs = g.natAbs by omega]; exact hgb⟩
    refine ⟨_, rfl, _, _, rfl, rfl, _, rfl, _, rfl, _, _, rfl, rfl, hb1, _, rfl, _, rfl, _, _, rfl, rfl, hb1, _, rfl, _, rfl, _, _, rfl, rfl, hb1, _, rfl, len4, fun p np => ?_⟩
    have q3 := q2 p np
    rw [if_pos k', if_pos k', if_pos k', ← fdiv_neg_dvd d1 (by omega), ← fdiv_neg_dvd d2 (by omega), ← fdiv_neg_dvd d3 (by omega), ← show (0 : Int) - g = -g by omega] at q3
    exact q3
  · have k' : ¬ a < 0 := of_decide_eq_false (Bool.eq_false_iff.mpr k)
    have hb1 : g ≠ 0 ∧ g.natAbs.log2 < 9000 := ⟨by omega, hgb⟩
    refine ⟨_, rfl, _, rfl, _, _, rfl, rfl, hb1, _, rfl, _, rfl, _, _, rfl, rfl, hb1, _, rfl, _, rfl, _, _, rfl, rfl, hb1, _, rfl, len4, fun p np => ?_⟩
    have q3 := q2 p np
    rw [if_neg k', if_neg k', if_neg k', ← Int.fdiv_eq_ediv_of_nonneg a (by omega), ← Int.fdiv_eq_ediv_of_nonneg b (by omega), ← Int.fdiv_eq_ediv_of_nonneg c (by omega)] at q3
    exact q3
end
section
variable {P : Program} {w : World} {K : PySem.W.Frag} {mg : Str → Option Value} {base : Heap}
theorem ok_is_above (D : Df K mg "is_above" p_is_above s_is_above) : Cal P w K mg base CX0 1 "is_above" p_is_above sp_is_above := D.cal fun f fd F => by
  refine F.ok sc_is_above (fun vs H Q E h => ?_) (fun cdv A outer s H vs Q E hr h => ?_)
  · obtain ⟨r, a, b, c, sd, u, l, rfl, _⟩ := h
    rfl
  obtain ⟨r, a, b, c, sd, u, l, rfl, e, hs, ha, hb, hc, hu, hl, q⟩ := h
  refine ⟨_, pss_cons (ps_asg (pv 0) (pg_tup (by rfl) (pgs_cons (pg_name (i := 3) sc_is_above.nd rfl (.inl rfl)) (pgs_cons (pg_name (i := 4) sc_is_above.nd rfl (.inl rfl)) (pgs_cons (pg_name (i := 5) sc_is_above.nd rfl (.inl rfl)) (pgs_cons (pg_name (i := 6) sc_is_above.nd rfl (.inl rfl)) pgs_nil))))))
    <| pss_cons (ps_set (i := 7) sc_is_above.nd rfl (.inl rfl) (pe_op op_add (pe_op op_add (pe_op op_mulW (pe_op op_mulW (pv 3) (pv 1)) (pv 1)) (pe_op op_mulW (pe_op op_mulW (pv 4) (pv 1)) (pv 2))) (pe_op op_mulW (pe_op op_mulW (pv 5) (pv 2)) (pv 2))))
    <| pss_cons (ps_set (i := 8) sc_is_above.nd rfl (.inl rfl) (pe_cmpR op_gt (pe_op op_add (pe_op op_mulW (pe_op op_mulW pe_int (pv 3)) (pv 1)) (pe_op op_mulW (pv 4) (pv 2))) pe_int (nomark _)))
    <| pss_cons (ps_if (pt_cmpR op_eq (pv 6) pe_int (nomark _)) (pss_one (ps_ret (pe_or (pe_not (pv 8)) (pe_one (pe_cmpR op_lt (pv 7) pe_int (nomark _)))))) pss_nil)
    <| pss_one (ps_ret (pe_and (pe_not (pv 8)) (pe_one (pe_cmpR op_gt (pv 7) pe_int (nomark _))))), ?_⟩
  have w1 := nat_mul_lt ha.lt hu.lt
  have w2 := nat_mul_lt hb.lt hu.lt
  have w3 := nat_mul_lt hc.lt hl.lt
  refine ⟨_, rfl, r, _, rfl, SqT.of e, rfl, _, _, rfl, _, _, rfl, _, _, rfl, _, _, rfl, rfl, ?_⟩
  refine ⟨_, rfl, _, rfl, _, _, rfl, rfl, mulW_of ha.lt hu.lt, _, rfl, _, _, rfl, rfl, mulW_of w1 hu.lt, _, rfl, _, rfl, _, _, rfl, rfl, mulW_of hb.lt hu.lt, _, rfl, _, _, rfl, rfl, mulW_of w2 hl.lt, _, _, rfl, rfl,
    _, rfl, _, rfl, _, _, rfl, rfl, mulW_of hc.lt hl.lt, _, rfl, _, _, rfl, rfl, mulW_of w3 hl.lt, _, _, rfl, rfl, ?_⟩
  refine ⟨_, rfl, _, _, rfl, rfl, mulW_of (m := 2) (by decide) ha.lt, _, rfl, _, _, rfl, rfl, mulW_of (m := 1002) (nat_mul_lt (m := 2) (by decide) ha.lt) hu.lt, _, rfl, _, rfl, _, _, rfl, rfl, mulW_of hb.lt hl.lt, _, _, rfl, rfl, _, _, rfl, rfl, ?_⟩
  unfold ab fm at q
  dsimp only
  refine ⟨_, rfl, rfl, _, rfl, ite2 (fun k => ?_) (fun k => ?_)⟩
  · have k' : sd = 1 := V.int.inj (of_decide_eq_true k)
    rw [if_pos k'] at q
    refine ⟨_, rfl, _, rfl, ?_⟩
    cases h : decide (0 < 2 * a * u + b * l) with
    | true =>
      rw [h, Bool.not_true, Bool.false_or] at q
      exact ⟨false, rfl, iteF ⟨_, rfl, _, _, rfl, rfl, q⟩⟩
    | false =>
      rw [h, Bool.not_false, Bool.true_or] at q
      exact ⟨true, rfl, iteT q⟩
  · have k' : ¬ sd = 1 := fun z => k (decide_eq_true (congrArg V.int z))
    rw [if_neg k'] at q
    refine ⟨_, rfl, _, rfl, ?_⟩
    cases h : decide (0 < 2 * a * u + b * l) with
    | true =>
      rw [h, Bool.not_true, Bool.false_and] at q
      exact ⟨false, rfl, iteF q⟩
    | false =>
      rw [h, Bool.not_false, Bool.true_and] at q
      exact ⟨true, rfl, iteT ⟨_, rfl, _, _, rfl, rfl, q⟩⟩
end
section
variable {P : Program} {w : World} {K : PySem.W.Frag} {mg : Str → Option Value} {base : Heap}
theorem ok_part_of (D : Df K mg "part_of" p_part_of s_part_of) (B : Bl mg) (Ch : Cal P w K mg base CX0 1 "heart" p_heart sp_heart) (Cs : Cal P w K mg base CX0 1 "least_square" p_least_square sp_least_square) : Cal P w K mg base CX0 2 "part_of" p_part_of sp_part_of := D.cal fun f fd F => by
  refine F.ok sc_part_of (fun vs H Q E h => ?_) (fun cdv A outer s H vs Q E hr h => ?_)
  · obtain ⟨r, rfl, _⟩ := h
    rfl
  obtain ⟨r, rfl, h⟩ := h
  refine ⟨_, pss_cons (ps_if (pt_cmpR op_eq (pe_callB call_len_seq (by rfl) B.len PySem.boot_len (pa_cons (pv 0) pa_nil)) pe_int (nomark _))
        (pss_one (ps_ret (pe_op op_fdivW (pe_ix ix_tup (pv 0) pe_int (fun _ _ => rfl)) (pe_ix ix_tup (pv 0) pe_int (fun _ _ => rfl))))) pss_nil)
    <| pss_cons (ps_asg (pv 0) (pg_tup (by rfl) (pgs_cons (pg_name (i := 1) sc_part_of.nd rfl (.inl rfl)) (pgs_cons (pg_name (i := 2) sc_part_of.nd rfl (.inl rfl)) (pgs_cons (pg_name (i := 3) sc_part_of.nd rfl (.inl rfl)) (pgs_cons (pg_name (i := 4) sc_part_of.nd rfl (.inl rfl)) pgs_nil))))))
    <| pss_cons (ps_set (i := 5) sc_part_of.nd rfl (.inl rfl) (pe_cal Cs hr (by decide) (by rfl) pass0 (pa_cons (pe_cal Ch hr (by decide) (by rfl) pass0 (pa_cons (pv 1) (pa_cons (pv 2) (pa_cons (pv 3) pa_nil)))) pa_nil)))
    <| pss_cons (ps_set (i := 6) sc_part_of.nd rfl (.inl rfl) (pe_op op_fdivW (pe_op op_sub (pv 5) (pv 2)) (pe_op op_mulW pe_int (pv 1))))
    <| pss_cons (ps_if (pt_cmpR op_eq (pv 4) pe_int (nomark _)) (pss_one (ps_set (i := 6) sc_part_of.nd rfl (.inl rfl) (pe_op op_fdivW (pe_op op_sub (pe_op op_sub (pe_op op_sub pe_int (pv 5)) pe_int) (pv 2)) (pe_op op_mulW pe_int (pv 1))))) pss_nil)
    <| pss_one (ps_ret (pv 6)), ?_⟩
  rcases h with ⟨u, l, e, hl, hb, q⟩ | ⟨a, b, c, sd, e, ha, hh, sa, sb, sc, q⟩
  · refine ⟨_, rfl, r, _, rfl, .inr (SqT.of e), rfl, true, rfl, iteT ?_⟩
    exact ⟨_, rfl, r, _, 0, .int u, rfl, rfl, SqT.of e, atI_nat (j := 0) rfl, _, rfl, r, _, 1, .int l, rfl, rfl, SqT.of e, atI_nat (j := 1) rfl, _, _, rfl, rfl, ⟨hl, Nat.lt_trans hb.log (by decide)⟩, q⟩
  · refine ⟨_, rfl, r, _, rfl, .inr (SqT.of e), rfl, false, rfl, iteF ?_⟩
    have hd : CDivW (rt (ht a b c) - b) (2 * a) := ⟨by omega, Nat.lt_of_lt_of_le (PySem.Flt.log2_lt_of (k := 1002) (by decide) (nat_mul_lt (m := 2) (by decide) sa.lt)) (by decide)⟩
    have hm : CMulW 2 a := mulW_of (m := 2) (by decide) sa.lt
    refine ⟨_, rfl, r, _, rfl, SqT.of e, rfl, _, _, rfl, _, _, rfl, _, _, rfl, _, _, rfl, rfl, ?_⟩
    refine ⟨_, rfl, _, rfl, _, rfl, a, b, c, rfl, sa, sb, sc, _, rfl, hh, ht_big sa sb sc, ?_⟩
    refine ⟨_, rfl, _, rfl, _, _, rfl, rfl, _, rfl, _, _, rfl, rfl, hm, _, _, rfl, rfl, hd, ?_⟩
    refine ⟨_, rfl, rfl, _, rfl, ite2 (fun k => ?_) (fun k => ?_)⟩
    · have k' : sd = 0 := V.int.inj (of_decide_eq_true k)
      refine ⟨_, rfl, _, _, rfl, rfl, _, _, rfl, rfl, _, rfl, _, _, rfl, rfl, _, rfl, _, _, rfl, rfl, hm, _, _, rfl, rfl, hd, _, rfl, ?_⟩
      unfold partR at q
      rw [if_pos k'] at q
      exact q
    · have k' : ¬ sd = 0 := fun z => k (decide_eq_true (congrArg V.int z))
      unfold partR at q
      rw [if_neg k'] at q
      exact ⟨_, rfl, q⟩
end
section
variable {P : Program} {w : World} {K : PySem.W.Frag} {mg : Str → Option Value} {base : Heap}
theorem ok_moved (D : Df K mg "moved" p_moved s_moved) : Cal P w K mg base CX0 1 "moved" p_moved sp_moved := D.cal fun f fd F => by
  refine F.ok sc_moved (fun vs H Q E h => ?_) (fun cdv A outer s H vs Q E hr h => ?_)
  · obtain ⟨r, a, b, c, sd, n, rfl, _⟩ := h
    rfl
  obtain ⟨r, a, b, c, sd, n, rfl, e, ha, hb, hc, hn, q⟩ := h
  refine ⟨_, pss_cons (ps_asg (pv 0) (pg_tup (by rfl) (pgs_cons (pg_name (i := 2) sc_moved.nd rfl (.inl rfl)) (pgs_cons (pg_name (i := 3) sc_moved.nd rfl (.inl rfl)) (pgs_cons (pg_name (i := 4) sc_moved.nd rfl (.inl rfl)) (pgs_cons (pg_name (i := 5) sc_moved.nd rfl (.inl rfl)) pgs_nil))))))
    <| pss_one (ps_ret (pe_tup (pa_cons (pv 2) (pa_cons (pe_op op_add (pv 3) (pe_op op_mulW (pe_op op_mulW pe_int (pv 2)) (pv 1)))
      (pa_cons (pe_op op_add (pe_op op_add (pe_op op_mulW (pe_op op_mulW (pv 2) (pv 1)) (pv 1)) (pe_op op_mulW (pv 3) (pv 1))) (pv 4)) (pa_cons (pv 5) pa_nil)))))), ?_⟩
  refine ⟨_, rfl, r, _, rfl, SqT.of e, rfl, _, _, rfl, _, _, rfl, _, _, rfl, _, _, rfl, rfl, ?_⟩
  refine ⟨_, rfl, _, rfl, _, rfl, _, _, rfl, rfl, mulW_of (m := 2) (by decide) ha.lt, _, rfl, _, _, rfl, rfl, mulW_of (m := 302) (nat_mul_lt (m := 2) (by decide) ha.lt) hn.lt, _, _, rfl, rfl, ?_⟩
  exact ⟨_, rfl, _, rfl, _, _, rfl, rfl, mulW_of ha.lt hn.lt, _, rfl, _, _, rfl, rfl, mulW_of (m := 600) (nat_mul_lt ha.lt hn.lt) hn.lt, _, rfl, _, rfl, _, _, rfl, rfl, mulW_of hb.lt hn.lt, _, _, rfl, rfl, _, rfl, _, _, rfl, rfl, _, rfl, len4, q⟩
end
section
variable {P : Program} {w : World} {K : PySem.W.Frag} {mg : Str → Option Value} {base : Heap} {C : Addr}
theorem ok_turned (D : Df K mg "turned" p_turned s_turned) (Cm : Cal P w K mg base CX0 1 "moved" p_moved sp_moved) (Cr : Cal P w K mg base (L2.CX P w) 3 "root_of" p_root_of (sp_root_of C)) : Cal P w K mg base CX0 4 "turned" p_turned sp_turned := D.cal fun f fd F => by
  refine F.ok sc_turned (fun vs H Q E h => ?_) (fun cdv A outer s H vs Q E hr h => ?_)
  · obtain ⟨r, a, b, c, sd, n, rfl, _⟩ := h
    rfl
  obtain ⟨r, a, b, c, sd, n, rfl, e, R, ha, hb, hc, hn, q⟩ := h
  refine ⟨_, pss_cons (ps_asg (pe_cal Cm hr (by decide) (by rfl) pass0 (pa_cons (pv 0) (pa_cons (pv 1) pa_nil))) (pg_tup (by rfl) (pgs_cons (pg_name (i := 2) sc_turned.nd rfl (.inl rfl)) (pgs_cons (pg_name (i := 3) sc_turned.nd rfl (.inl rfl)) (pgs_cons (pg_name (i := 4) sc_turned.nd rfl (.inl rfl)) (pgs_cons (pg_name (i := 5) sc_turned.nd rfl (.inl rfl)) pgs_nil))))))
    <| pss_cons (ps_set (i := 6) sc_turned.nd rfl (.inl rfl) (pv 5))
    <| pss_cons (ps_if (pt_cmpR op_gt (pv 4) pe_int (nomark _)) (pss_one (ps_set (i := 6) sc_turned.nd rfl (.inl rfl) (pe_op op_sub pe_int (pv 5)))) pss_nil)
    <| pss_one (ps_ret (pe_cal Cr hr (by decide) (by rfl) passL (pa_cons (pv 4) (pa_cons (pv 3) (pa_cons (pv 2) (pa_cons (pv 6) pa_nil)))))), ?_⟩
  obtain ⟨m1, m2⟩ := mv_s3 ha hb hc hn
  obtain ⟨t0, t1, t2, t3⟩ := tn_nf n R
  refine ⟨_, rfl, _, rfl, r, a, b, c, sd, n, rfl, e, ha, hb, hc, hn, fun p np => ?_⟩
  refine ⟨p, _, rfl, SqT.of upd_same, rfl, _, _, rfl, _, _, rfl, _, _, rfl, _, _, rfl, rfl, ?_⟩
  have s1 := same_upd np (o := tI [a, b + 2 * a * n, mvC a b c n, sd])
  refine ⟨_, rfl, _, rfl, _, _, rfl, rfl, _, rfl, ite2 (fun k => ?_) (fun k => ?_)⟩
  · have k' : 0 < mvC a b c n := of_decide_eq_true k
    refine ⟨_, rfl, _, _, rfl, rfl, _, rfl, _, rfl, _, rfl, _, rfl, mvC a b c n, b + 2 * a * n, a, 1 - sd, rfl, m2, m1, ha.sm, fun z => absurd z t0, fun _ p2 np2 => ?_⟩
    rw [t1, t2, t3]
    refine q _ p2 (same_updO s1 (s1.free np2)) (s1.free np2) ?_
    unfold tnS
    rw [if_pos k']
    exact upd_same
  · have k' : ¬ 0 < mvC a b c n := of_decide_eq_false (Bool.eq_false_iff.mpr k)
    refine ⟨_, rfl, _, rfl, _, rfl, _, rfl, mvC a b c n, b + 2 * a * n, a, sd, rfl, m2, m1, ha.sm, fun z => absurd z t0, fun _ p2 np2 => ?_⟩
    rw [t1, t2, t3]
    refine q _ p2 (same_updO s1 (s1.free np2)) (s1.free np2) ?_
    unfold tnS
    rw [if_neg k']
    exact upd_same
end
section
variable {P : Program} {w : World} {K : PySem.W.Frag} {mg : Str → Option Value} {base : Heap}
theorem ok_by_fraction (D : Df K mg "by_fraction" p_by_fraction s_by_fraction) (Ca : Cal P w K mg base CX0 1 "is_above" p_is_above sp_is_above) : Cal P w K mg base CX0 2 "by_fraction" p_by_fraction sp_by_fraction := D.cal fun f fd F => by
  refine F.ok sc_by_fraction (fun vs H Q E h => ?_) (fun cdv A outer s H vs Q E hr h => ?_)
  · obtain ⟨t, f, a, b, c, sd, u, l, rfl, _⟩ := h
    rfl
  obtain ⟨t, fr, a, b, c, sd, u, l, rfl, et, ef, hs, ha, hb, hc, hu, hl, q⟩ := h
  refine ⟨_, pss_cons (ps_if (pt_val (pe_cal Ca hr (by decide) (by rfl) pass0 (pa_cons (pv 0) (pa_cons (pe_ix ix_tup (pv 1) pe_int (fun _ _ => rfl)) (pa_cons (pe_ix ix_tup (pv 1) pe_int (fun _ _ => rfl)) pa_nil))))) (pss_one (ps_ret pe_int)) pss_nil)
    <| pss_one (ps_ret (pe_un un_neg pe_int)), ?_⟩
  refine ⟨_, rfl, _, rfl, fr, _, 0, .int u, rfl, rfl, SqT.of ef, atI_nat (j := 0) rfl, _, rfl, fr, _, 1, .int l, rfl, rfl, SqT.of ef, atI_nat (j := 1) rfl, t, a, b, c, sd, u, l, rfl, et, hs, ha, hb, hc, hu, hl, _, rfl, ?_⟩
  cases h : ab a b c sd u l with
  | true =>
    rw [h, if_pos rfl] at q
    exact iteT q
  | false =>
    rw [h, if_neg (by decide)] at q
    exact iteF ⟨1, rfl, q⟩
end
section
variable {P : Program} {w : World} {K : PySem.W.Frag} {mg : Str → Option Value} {base : Heap}
theorem ok_by_rows (D : Df K mg "by_rows" p_by_rows s_by_rows) (Cp : Cal P w K mg base CX0 2 "part_of" p_part_of sp_part_of) (Ct : Cal P w K mg base CX0 4 "turned" p_turned sp_turned) : Cal P w K mg base CX0 5 "by_rows" p_by_rows sp_by_rows := D.cal fun f fd F => by
  refine F.ok sc_by_rows (fun vs H Q E h => ?_) (fun cdv A outer s H vs Q E hr h => ?_)
  · obtain ⟨x, y, r, t, rfl, _⟩ := h
    rfl
  obtain ⟨x, y, r, t, rfl, ex, ey, hr0, ht0, hne, q1, q2⟩ := h
  refine ⟨_, pss_cons (ps_set (i := 2) sc_by_rows.nd rfl (.inl rfl) pe_int)
    <| pss_cons (ps_while PassesOwn.never (pt_cmpR op_eq (pe_cal Cp hr (by decide) (by rfl) pass0 (pa_cons (pv 0) pa_nil)) (pe_cal Cp hr (by decide) (by rfl) pass0 (pa_cons (pv 1) pa_nil)) (nomark _))
        (pss_cons (ps_par (i := 0) (j := 1) (by rfl) sc_by_rows.nd rfl rfl (by decide) rfl rfl (pa_cons (pe_cal Ct hr (by decide) (by rfl) pass0 (pa_cons (pv 0) (pa_cons (pe_cal Cp hr (by decide) (by rfl) pass0 (pa_cons (pv 0) pa_nil)) pa_nil)))
            (pa_cons (pe_cal Ct hr (by decide) (by rfl) pass0 (pa_cons (pv 1) (pa_cons (pe_cal Cp hr (by decide) (by rfl) pass0 (pa_cons (pv 1) pa_nil)) pa_nil))) pa_nil)) (by rfl))
        <| pss_one (ps_set (i := 2) sc_by_rows.nd rfl (.inl rfl) (pe_op op_sub pe_int (pv 2)))))
    <| pss_cons (ps_if (pt_cmpR op_lt (pe_cal Cp hr (by decide) (by rfl) pass0 (pa_cons (pv 0) pa_nil)) (pe_cal Cp hr (by decide) (by rfl) pass0 (pa_cons (pv 1) pa_nil)) (nomark _)) (pss_one (ps_ret (pe_op op_sub pe_int (pv 2)))) pss_nil)
    <| pss_one (ps_ret (pv 2)), ?_⟩
  -- what is told at last
  obtain ⟨z0, hz0, qz⟩ : ∃ z0 : Int, ((∃ u l, 0 < l ∧ l ≤ 2 * r.a + sepN r.a r.b r.c t.a t.b t.c ∧ Btw r t u l ∧ z0 = -1) ∨ (∃ u l, 0 < l ∧ l ≤ 2 * r.a + sepN r.a r.b r.c t.a t.b t.c ∧ Btw t r u l ∧ z0 = 1)) ∧ ∀ H', Same H H' → Q (.int z0) H' := by
    obtain ⟨u, l, hl, hb, h | h⟩ := sep hr0.1 ht0.1 hne
    · exact ⟨-1, .inl ⟨u, l, hl, hb, h, rfl⟩, q1 ⟨u, l, hl, h⟩⟩
    · exact ⟨1, .inr ⟨u, l, hl, hb, h, rfl⟩, q2 ⟨u, l, hl, h⟩⟩
  have hd1 := tiny_ht hr0.1 hr0.2.1 hr0.2.2.1 hr0.2.2.2
  have hd2 := tiny_ht ht0.1 ht0.2.1 ht0.2.2.1 ht0.2.2.2
  have hsep := tiny_sep hr0.1 ht0.1 hr0.2.1 hr0.2.2.1 hr0.2.2.2 ht0.2.1 ht0.2.2.1 ht0.2.2.2
  have hp1 := hr0.1.n.pos
  have hp2 := ht0.1.n.pos
  have e15 : (2 : Int) ^ 15 = 32768 := by decide
  have e80 : (2 : Nat) ^ 80 = 1208925819614629174706176 := by decide
  have e290 : (2 : Int) ^ 290 = 1989292945639146568621528992587283360401824603189390869761855907572637988050133502132224 := by decide
  have hra := hr0.2.1
  have hrb := hr0.2.2.1
  have hrc := hr0.2.2.2
  have hta := ht0.2.1
  have htb := ht0.2.2.1
  have htc := ht0.2.2.2
  have hmul : ∀ l d : Int, 0 < l → 0 < d → l ≤ 2 ^ 81 → d < 2 ^ 15 → 64 + l * d ≤ 2 ^ 100 := fun l d h1 h2 h3 h4 => by
    have k1 : l * d ≤ 2 ^ 81 * 2 ^ 15 := Int.mul_le_mul h3 (by omega) (by omega) (by decide)
    have k2 : (2 : Int) ^ 81 * 2 ^ 15 = 79228162514264337593543950336 := by decide
    have k3 : (2 : Int) ^ 100 = 1267650600228229401496703205376 := by decide
    omega
  have e81 : (2 : Int) ^ 81 = 2417851639229258349412352 := by decide
  have e100 : (2 : Int) ^ 100 = 1267650600228229401496703205376 := by decide
  refine ⟨fun m σ H' => ∃ (x y : Addr) (a b : R4) (sgn B : Int) (u l : Int), σ = [some (.ref x), some (.ref y), some (.int sgn)] ∧ Same H H' ∧ H' x = some (tI a.l) ∧ H' y = some (tI b.l) ∧ a.Is ∧ b.Is ∧ ht a.a a.b a.c = ht r.a r.b r.c ∧ ht b.a b.b b.c = ht t.a t.b t.c ∧
      0 < l ∧ m = l.toNat ∧ (∃ B, Sz B a ∧ B + l * ht r.a r.b r.c ≤ 2 ^ 100) ∧ (∃ B, Sz B b ∧ B + l * ht t.a t.b t.c ≤ 2 ^ 100) ∧ ((Btw a b u l ∧ z0 = -sgn) ∨ (Btw b a u l ∧ z0 = sgn)), ?_, ?_⟩
  · rcases hz0 with ⟨u, l, hl, hb, h, rfl⟩ | ⟨u, l, hl, hb, h, rfl⟩
    · exact ⟨_, x, y, r, t, 1, 0, u, l, rfl, Same.refl _, ex, ey, hr0.1, ht0.1, rfl, rfl, hl, rfl, ⟨64, ⟨by omega, by omega, by omega⟩, hmul l _ hl hp1 (by omega) hd1⟩, ⟨64, ⟨by omega, by omega, by omega⟩, hmul l _ hl hp2 (by omega) hd2⟩, .inl ⟨h, rfl⟩⟩
    · exact ⟨_, x, y, r, t, 1, 0, u, l, rfl, Same.refl _, ex, ey, hr0.1, ht0.1, rfl, rfl, hl, rfl, ⟨64, ⟨by omega, by omega, by omega⟩, hmul l _ hl hp1 (by omega) hd1⟩, ⟨64, ⟨by omega, by omega, by omega⟩, hmul l _ hl hp2 (by omega) hd2⟩, .inr ⟨h, rfl⟩⟩
  rintro m σ H' ⟨x, y, a, b, sgn, _, u, l, rfl, s1, ex, ey, Ra, Rb, hda, hdb, hl, rfl, ⟨B1, hB1, hB1'⟩, ⟨B2, hB2, hB2'⟩, hor⟩
  have hl1 : ht r.a r.b r.c ≤ l * ht r.a r.b r.c := by
    have : 1 * ht r.a r.b r.c ≤ l * ht r.a r.b r.c := Int.mul_le_mul_of_nonneg_right (by omega) (by omega)
    omega
  have hl2 : ht t.a t.b t.c ≤ l * ht t.a t.b t.c := by
    have : 1 * ht t.a t.b t.c ≤ l * ht t.a t.b t.c := Int.mul_le_mul_of_nonneg_right (by omega) (by omega)
    omega
  obtain ⟨sa1, sa2, sa3, sa4⟩ := hB1.s4 Ra (by rw [hda]; omega)
  obtain ⟨sb1, sb2, sb3, sb4⟩ := hB2.s4 Rb (by rw [hdb]; omega)
  have Ra' : IsR a.a a.b a.c a.s := Ra
  have Rb' : IsR b.a b.b b.c b.s := Rb
  refine ⟨_, rfl, x, rfl, .inr ⟨a.a, a.b, a.c, a.s, ex, Ra'.ha, Int.le_of_lt Ra'.n.pos, sa1.sm, sa2.sm, sa3.sm, _, rfl, y, rfl, .inr ⟨b.a, b.b, b.c, b.s, ey, Rb'.ha, Int.le_of_lt Rb'.n.pos, sb1.sm, sb2.sm, sb3.sm, rfl, _, rfl, ite2 (fun c => ?_) (fun c => ?_)⟩⟩⟩
  · -- like parts
    have hpp : a.prt = b.prt := V.int.inj (of_decide_eq_true c)
    refine ⟨fun σ' H2 => ∃ (x' y' : Addr), σ' = [some (.ref x'), some (.ref y'), some (.int (0 - sgn))] ∧ Same H H2 ∧ H2 x' = some (tI a.nx.l) ∧ H2 y' = some (tI b.nx.l), ?_, ?_⟩
    · rintro σ' H2 ⟨x', y', rfl, s2, ex2, ey2⟩
      have step : ∀ l' : Int, 0 < l' → l' < l → ∀ d B : Int, 0 < d → B + l * d ≤ 2 ^ 100 → B + d + l' * d ≤ 2 ^ 100 := fun l' h1 h2 d B hd hB => by
        have : (l' + 1) * d ≤ l * d := Int.mul_le_mul_of_nonneg_right (by omega) (Int.le_of_lt hd)
        rw [Int.add_mul] at this
        omega
      have z1 := hB1.nx Ra
      have z2 := hB2.nx Rb
      rw [hda] at z1
      rw [hdb] at z2
      rcases hor with ⟨h, hz⟩ | ⟨h, hz⟩
      · obtain ⟨k1, k2, k3⟩ := btw_turn Ra Rb hl h hpp
        exact ⟨(u - a.prt * l).toNat, by omega, x', y', a.nx, b.nx, _, 0, l, u - a.prt * l, rfl, s2, ex2, ey2, tn_isR _ Ra, tn_isR _ Rb, (nx_ht a).trans hda, (nx_ht b).trans hdb, k1, rfl, ⟨_, z1, step _ k1 k2 _ _ hp1 hB1'⟩, ⟨_, z2, step _ k1 k2 _ _ hp2 hB2'⟩, .inr ⟨k3, by omega⟩⟩
      · obtain ⟨k1, k2, k3⟩ := btw_turn Rb Ra hl h hpp.symm
        exact ⟨(u - b.prt * l).toNat, by omega, x', y', a.nx, b.nx, _, 0, l, u - b.prt * l, rfl, s2, ex2, ey2, tn_isR _ Ra, tn_isR _ Rb, (nx_ht a).trans hda, (nx_ht b).trans hdb, k1, rfl, ⟨_, z1, step _ k1 k2 _ _ hp1 hB1'⟩, ⟨_, z2, step _ k1 k2 _ _ hp2 hB2'⟩, .inl ⟨k3, by omega⟩⟩
    · refine ⟨_, rfl, _, rfl, x, rfl, .inr ⟨a.a, a.b, a.c, a.s, ex, Ra'.ha, Int.le_of_lt Ra'.n.pos, sa1.sm, sa2.sm, sa3.sm, x, a.a, a.b, a.c, a.s, a.prt, rfl, ex, Ra', sa1, sa2, sa3, sa4, fun H2 x' s2 _ ex2 => ?_⟩⟩
      have ey2 := s2 _ _ ey
      refine ⟨_, rfl, _, rfl, y, rfl, .inr ⟨b.a, b.b, b.c, b.s, ey2, Rb'.ha, Int.le_of_lt Rb'.n.pos, sb1.sm, sb2.sm, sb3.sm, y, b.a, b.b, b.c, b.s, b.prt, rfl, ey2, Rb', sb1, sb2, sb3, sb4, fun H3 y' s3 _ ey3 => ?_⟩⟩
      exact ⟨_, _, rfl, _, rfl, _, _, rfl, rfl, x', y', rfl, (s1.trans s2).trans s3, s3 _ _ ex2, ey3⟩
  · -- unlike parts
    have hpp : ¬ a.prt = b.prt := fun z => c (decide_eq_true (congrArg V.int z))
    refine ⟨_, rfl, x, rfl, .inr ⟨a.a, a.b, a.c, a.s, ex, Ra'.ha, Int.le_of_lt Ra'.n.pos, sa1.sm, sa2.sm, sa3.sm, _, rfl, y, rfl, .inr ⟨b.a, b.b, b.c, b.s, ey, Rb'.ha, Int.le_of_lt Rb'.n.pos, sb1.sm, sb2.sm, sb3.sm, _, _, rfl, rfl, _, rfl, ite2 (fun c2 => ?_) (fun c2 => ?_)⟩⟩⟩
    · have c3 : a.prt < b.prt := of_decide_eq_true c2
      rcases hor with ⟨h, hz⟩ | ⟨h, hz⟩
      · refine ⟨_, rfl, _, _, rfl, rfl, ?_⟩
        dsimp only
        rw [show 0 - sgn = z0 by omega]
        exact qz _ s1
      · have := btw_part Rb Ra hl h
        omega
    · have c3 : ¬ a.prt < b.prt := of_decide_eq_false (Bool.eq_false_iff.mpr c2)
      rcases hor with ⟨h, hz⟩ | ⟨h, hz⟩
      · have := btw_part Ra Rb hl h
        omega
      · refine ⟨_, rfl, ?_⟩
        rw [← hz]
        exact qz _ s1
end
section
variable {P : Program} {w : World} {K : PySem.W.Frag} {mg : Str → Option Value} {base : Heap}
theorem ok_compare (D : Df K mg "compare" p_compare s_compare) (B : Bl mg) (Cr : Cal P w K mg base CX0 5 "by_rows" p_by_rows sp_by_rows) (Cf : Cal P w K mg base CX0 2 "by_fraction" p_by_fraction sp_by_fraction) : Cal P w K mg base CX0 6 "compare" p_compare sp_compare := D.cal fun f fd F => by
  refine F.ok sc_compare (fun vs H Q E h => ?_) (fun cdv A outer s H vs Q E hr h => ?_)
  · obtain ⟨x, y, m, n, rfl, _⟩ := h
    rfl
  obtain ⟨x, y, m, n, rfl, ex, ey, hm, hn, q0, q1, q2⟩ := h
  refine ⟨_, pss_cons (ps_if (pt_cmpR (op_eqT hr) (pv 0) (pv 1) (nomark _)) (pss_one (ps_ret pe_int)) pss_nil)
    <| pss_cons (ps_if (PW.pt (pw_and (pt_cmpR op_eq (pe_callB call_len_seq (by rfl) B.len PySem.boot_len (pa_cons (pv 0) pa_nil)) pe_int (nomark _)) (pw_and1 (pt_cmpR op_eq (pe_callB call_len_seq (by rfl) B.len PySem.boot_len (pa_cons (pv 1) pa_nil)) pe_int (nomark _)))))
        (pss_one (ps_ret (pe_cal Cr hr (by decide) (by rfl) pass0 (pa_cons (pv 0) (pa_cons (pv 1) pa_nil))))) pss_nil)
    <| pss_cons (ps_if (pt_cmpR op_eq (pe_callB call_len_seq (by rfl) B.len PySem.boot_len (pa_cons (pv 0) pa_nil)) pe_int (nomark _)) (pss_one (ps_ret (pe_cal Cf hr (by decide) (by rfl) pass0 (pa_cons (pv 0) (pa_cons (pv 1) pa_nil))))) pss_nil)
    <| pss_cons (ps_if (pt_cmpR op_eq (pe_callB call_len_seq (by rfl) B.len PySem.boot_len (pa_cons (pv 1) pa_nil)) pe_int (nomark _)) (pss_one (ps_ret (pe_op op_sub pe_int (pe_cal Cf hr (by decide) (by rfl) pass0 (pa_cons (pv 1) (pa_cons (pv 0) pa_nil)))))) pss_nil)
    <| pss_cons (ps_if (pt_cmpR op_lt (pe_op op_mulW (pe_ix ix_tup (pv 0) pe_int (fun _ _ => rfl)) (pe_ix ix_tup (pv 1) pe_int (fun _ _ => rfl))) (pe_op op_mulW (pe_ix ix_tup (pv 1) pe_int (fun _ _ => rfl)) (pe_ix ix_tup (pv 0) pe_int (fun _ _ => rfl))) (nomark _)) (pss_one (ps_ret (pe_un un_neg pe_int))) pss_nil)
    <| pss_one (ps_ret pe_int), ?_⟩
  refine ⟨_, rfl, _, rfl, x, y, m.l, n.l, rfl, rfl, SqT.of ex, SqT.of ey, _, rfl, ite2 (fun c => ?_) (fun c => ?_)⟩
  · exact q0 (Nu.inj (of_decide_eq_true c)) _ (Same.refl _)
  have hne : m ≠ n := fun z => c (decide_eq_true (congrArg Nu.l z))
  have hlt := (Nu.tri hm hn).elim (fun z => absurd z hne) id
  cases m with
  | fr p q =>
    obtain ⟨sp, sq⟩ := Nu.fr_sm hm
    have gp : atI ([p, q].map V.int) 0 = some (.int p) := atI_nat (j := 0) rfl
    have gq : atI ([p, q].map V.int) 1 = some (.int q) := atI_nat (j := 1) rfl
    refine ⟨_, rfl, x, _, rfl, .inr (SqT.of ex), rfl, false, rfl, iteF (iteF ?_)⟩
    refine ⟨_, rfl, x, _, rfl, .inr (SqT.of ex), rfl, false, rfl, iteF ?_⟩
    cases n with
    | fr u l =>
      obtain ⟨su, sl⟩ := Nu.fr_sm hn
      have gu : atI ([u, l].map V.int) 0 = some (.int u) := atI_nat (j := 0) rfl
      have gl : atI ([u, l].map V.int) 1 = some (.int l) := atI_nat (j := 1) rfl
      refine ⟨_, rfl, y, _, rfl, .inr (SqT.of ey), rfl, false, rfl, iteF ?_⟩
      refine ⟨_, rfl, x, _, 0, _, rfl, rfl, SqT.of ex, gp, _, rfl, y, _, 1, _, rfl, rfl, SqT.of ey, gl, _, _, rfl, rfl, mulW_of sp.lt sl.lt, _, rfl, y, _, 0, _, rfl, rfl, SqT.of ey, gu, _, rfl, x, _, 1, _, rfl, rfl, SqT.of ex, gq, _, _, rfl, rfl, mulW_of su.lt sq.lt, _, _, rfl, rfl, _, rfl, ite2 (fun c2 => ?_) (fun c2 => ?_)⟩
      · exact ⟨1, rfl, q1 (show p * l < u * q from of_decide_eq_true c2) _ (Same.refl _)⟩
      · have c3 : ¬ p * l < u * q := of_decide_eq_false (Bool.eq_false_iff.mpr c2)
        exact q2 (hlt.elim (fun z => absurd z c3) id) _ (Same.refl _)
    | ro r =>
      obtain ⟨s1, s2, s3⟩ := Nu.ro_sm hn
      refine ⟨_, rfl, y, _, rfl, .inr (SqT.of ey), rfl, true, rfl, iteT ?_⟩
      refine ⟨_, rfl, _, rfl, y, x, r.a, r.b, r.c, r.s, p, q, rfl, ey, ex, hn.1.hs, s1, s2, s3, sp, sq, _, _, rfl, rfl, ?_⟩
      dsimp only
      cases h : ab r.a r.b r.c r.s p q with
      | true => exact q1 ((ab_ov hn.1 hm.1).mp h) _ (Same.refl _)
      | false => exact q2 ((ab_be hn.1 hm.1).mp h) _ (Same.refl _)
  | ro r =>
    obtain ⟨s1, s2, s3⟩ := Nu.ro_sm hm
    refine ⟨_, rfl, x, _, rfl, .inr (SqT.of ex), rfl, true, rfl, iteT ?_⟩
    cases n with
    | fr u l =>
      obtain ⟨su, sl⟩ := Nu.fr_sm hn
      refine ⟨_, rfl, y, _, rfl, .inr (SqT.of ey), rfl, false, rfl, iteF ?_⟩
      refine ⟨_, rfl, x, _, rfl, .inr (SqT.of ex), rfl, true, rfl, iteT ?_⟩
      refine ⟨_, rfl, _, rfl, x, y, r.a, r.b, r.c, r.s, u, l, rfl, ex, ey, hm.1.hs, s1, s2, s3, su, sl, ?_⟩
      cases h : ab r.a r.b r.c r.s u l with
      | true => exact q2 ((ab_ov hm.1 hn.1).mp h) _ (Same.refl _)
      | false => exact q1 ((ab_be hm.1 hn.1).mp h) _ (Same.refl _)
    | ro t =>
      refine ⟨_, rfl, y, _, rfl, .inr (SqT.of ey), rfl, true, rfl, iteT ?_⟩
      exact ⟨_, rfl, _, rfl, x, y, r, t, rfl, ex, ey, hm, hn, fun z => hne (congrArg Nu.ro z), fun z => q1 z, fun z => q2 z⟩
end
section
variable {P : Program} {w : World} {K : PySem.W.Frag} {mg : Str → Option Value} {base : Heap}
theorem refs_len {xs : List At} : (refs xs).length = xs.length := by
  unfold refs
  rw [List.length_map]
theorem ok_ordered (D : Df K mg "ordered" p_ordered s_ordered) (B : Bl mg) (Co : Cal P w K mg base CX0 6 "compare" p_compare sp_compare) : ∀ n : Nat, Cal P w K mg base CX0 (7 + n) "ordered" p_ordered (sp_ordered n) := fun n => by
  induction n with
  | zero =>
    refine D.cal fun f fd F => ?_
    refine F.ok sc_ordered (fun vs H Q E h => ?_) (fun cdv A outer s H vs Q E hr h => ?_)
    · obtain ⟨a, xs, rfl, _⟩ := h
      rfl
    obtain ⟨a, xs, rfl, ea, hx, hnd, hl, hl2, q⟩ := h
    refine ⟨_, pss_cons (ps_if (pt_cmpR op_lt (pe_callB call_len_seq (by rfl) B.len PySem.boot_len (pa_cons (pv 0) pa_nil)) pe_int (nomark _)) (pss_one (ps_ret (pv 0))) pss_nil) pss_never, ?_⟩
    have hl1 : xs.length ≤ 1 := hl
    refine ⟨_, rfl, a, _, rfl, .inl (SqL.of ea), _, _, rfl, rfl, _, rfl, ite2 (fun c => ?_) (fun c => absurd (decide_eq_true (by rw [refs_len]; omega)) c)⟩
    refine ⟨_, rfl, q _ a xs (Same.refl _) ea (List.Perm.refl _) ?_⟩
    match xs, hl1 with
    | [], _ => exact List.Pairwise.nil
    | [x], _ => exact List.pairwise_singleton _ _
  | succ n ih =>
    refine D.cal fun f fd F => ?_
    refine F.ok sc_ordered (fun vs H Q E h => ?_) (fun cdv A outer s H vs Q E hr h => ?_)
    · obtain ⟨a, xs, rfl, _⟩ := h
      rfl
    obtain ⟨a, xs, rfl, ea, hx, hnd, hl, hl2, q⟩ := h
    refine ⟨_, pss_cons (ps_if (pt_cmpR op_lt (pe_callB call_len_seq (by rfl) B.len PySem.boot_len (pa_cons (pv 0) pa_nil)) pe_int (nomark _)) (pss_one (ps_ret (pv 0))) pss_nil)
      <| pss_cons (ps_set (i := 1) sc_ordered.nd rfl (.inl rfl) (pe_op op_fdiv (pe_callB call_len_seq (by rfl) B.len PySem.boot_len (pa_cons (pv 0) pa_nil)) pe_int))
      <| pss_cons (ps_set (i := 2) sc_ordered.nd rfl (.inl rfl) (pe_cal ih hr (Nat.le_refl _) (by rfl) pass0 (pa_cons (pe_slice sl_list (pv 0) po_none (po_some (pv 1))) pa_nil)))
      <| pss_cons (ps_set (i := 3) sc_ordered.nd rfl (.inl rfl) (pe_cal ih hr (Nat.le_refl _) (by rfl) pass0 (pa_cons (pe_slice sl_list (pv 0) (po_some (pv 1)) po_none) pa_nil)))
      <| pss_cons (ps_set (i := 4) sc_ordered.nd rfl (.inl rfl) (pe_lst pa_nil))
      <| pss_cons (ps_while PassesOwn.never (PW.pt (pw_and (pt_truth (pv 2) (fun _ => rfl)) (pw_and1 (pt_truth (pv 3) (fun _ => rfl)))))
          (pss_one (ps_if (pt_cmpR op_lt (pe_cal Co hr (show 6 ≤ 7 + n by omega) (by rfl) pass0 (pa_cons (pe_ix ix_list (pv 2) pe_int (fun _ _ => rfl)) (pa_cons (pe_ix ix_list (pv 3) pe_int (fun _ _ => rfl)) pa_nil))) pe_int (nomark _))
            (pss_cons (ps_expr (pe_bm PySem.F.plainAttrs_list PySem.F.slot_list_append PySem.F.type_list_append mt_append (pv 4) (pa_cons (pe_ix ix_list (pv 2) pe_int (fun _ _ => rfl)) pa_nil)))
              (pss_one (ps_set (i := 2) sc_ordered.nd rfl (.inl rfl) (pe_slice sl_list (pv 2) (po_some pe_int) po_none))))
            (pss_cons (ps_expr (pe_bm PySem.F.plainAttrs_list PySem.F.slot_list_append PySem.F.type_list_append mt_append (pv 4) (pa_cons (pe_ix ix_list (pv 3) pe_int (fun _ _ => rfl)) pa_nil)))
              (pss_one (ps_set (i := 3) sc_ordered.nd rfl (.inl rfl) (pe_slice sl_list (pv 3) (po_some pe_int) po_none)))))))
      <| pss_one (ps_ret (pe_op op_cat (pe_op op_cat (pv 4) (pv 2)) (pv 3))), ?_⟩
    refine ⟨_, rfl, a, _, rfl, .inl (SqL.of ea), _, _, rfl, rfl, _, rfl, ite2 (fun c => ?_) (fun c => ?_)⟩
    · have h1 : ((refs xs).length : Int) < 2 := of_decide_eq_true c
      rw [refs_len] at h1
      refine ⟨_, rfl, q _ a xs (Same.refl _) ea (List.Perm.refl _) ?_⟩
      match xs, (show xs.length ≤ 1 by omega) with
      | [], _ => exact List.Pairwise.nil
      | [x], _ => exact List.pairwise_singleton _ _
    have h1 : ¬ ((refs xs).length : Int) < 2 := of_decide_eq_false (Bool.eq_false_iff.mpr c)
    rw [refs_len] at h1
    refine ⟨_, rfl, a, _, rfl, .inl (SqL.of ea), _, _, rfl, rfl, ⟨by decide, by decide⟩, ?_⟩
    rw [refs_len]
    obtain ⟨cut, hcut⟩ : ∃ cut : Nat, (xs.length : Int) / 2 = cut := ⟨xs.length / 2, by omega⟩
    dsimp only
    rw [hcut]
    have hc1 : cut * 2 ≤ xs.length ∧ xs.length ≤ cut * 2 + 1 := by omega
    have hp2 : 2 ^ (n + 1) = 2 ^ n + 2 ^ n := by rw [Nat.pow_succ]; omega
    have hposn : 0 < 2 ^ n := Nat.pow_pos (by decide)
    have cA : cutV (refs xs) none (some (cut : Int)) = refs (xs.take cut) := by
      rw [cutV_to]
      unfold refs
      rw [List.map_take]
    have cB : cutV (refs xs) (some (cut : Int)) none = refs (xs.drop cut) := by
      rw [cutV_from]
      unfold refs
      rw [List.map_drop]
    refine ⟨_, rfl, _, rfl, cut, rfl, a, _, rfl, SqL.of ea, fun l1 nl1 => ?_⟩
    rw [cA]
    have s1 := same_upd nl1 (o := HO.lst (refs (xs.take cut)))
    have ok1 : ∀ x ∈ xs, AtOk (upd H l1 (HO.lst (refs (xs.take cut)))) x := fun x hx' => ⟨s1 _ _ (hx x hx').1, (hx x hx').2⟩
    refine ⟨l1, xs.take cut, rfl, upd_same, fun x hx' => ok1 x (List.mem_of_mem_take hx'), by rw [List.map_take]; exact hnd.sublist (List.take_sublist _ _), by rw [List.length_take]; omega, by rw [List.length_take]; omega, fun H2 o1 A0 s2 e1 pA sA => ?_⟩
    have s3 := s1.trans s2
    refine ⟨_, rfl, _, rfl, cut, rfl, a, _, rfl, SqL.of (s3 _ _ ea), fun l2 nl2 => ?_⟩
    rw [cB]
    have s4 := s3.trans (same_upd nl2 (o := HO.lst (refs (xs.drop cut))))
    refine ⟨l2, xs.drop cut, rfl, upd_same, fun x hx' => ⟨s4 _ _ (hx x (List.mem_of_mem_drop hx')).1, (hx x (List.mem_of_mem_drop hx')).2⟩, by rw [List.map_drop]; exact hnd.sublist (List.drop_sublist _ _), by rw [List.length_drop]; omega, by rw [List.length_drop]; omega, fun H3 o2 B0 s5 e2 pB sB => ?_⟩
    have s6 := s4.trans s5
    have e1' := s5 _ _ (same_upd nl2 (o := HO.lst (refs (xs.drop cut))) _ _ e1)
    have hperm : (A0 ++ B0).Perm xs := by
      have := pA.append pB
      rw [List.take_append_drop] at this
      exact this
    have hall : ∀ H', Same H3 H' → ∀ x ∈ xs, AtOk H' x := fun H' s x hx' => ⟨s _ _ (s6 _ _ (hx x hx').1), (hx x hx').2⟩
    refine ⟨Nat.zero_le _, fun fo nfo => ?_⟩
    refine ⟨fun m σ H' => ∃ (o1 o2 : Addr) (Fd A B' : List At), σ = [some (.ref a), some (.int (cut : Int)), some (.ref o1), some (.ref o2), some (.ref fo)] ∧ Same H3 H' ∧ H' o1 = some (.lst (refs A)) ∧ H' o2 = some (.lst (refs B')) ∧ H' fo = some (.lst (refs Fd)) ∧ o1 ≠ fo ∧ o2 ≠ fo ∧
        (Fd ++ A).Pairwise alt ∧ (Fd ++ B').Pairwise alt ∧ (Fd ++ A ++ B').Perm xs ∧ m = A.length + B'.length,
      ⟨_, o1, o2, [], A0, B0, rfl, same_upd nfo, same_upd nfo _ _ e1', same_upd nfo _ _ e2, upd_same, fun z => (by subst z; rw [nfo] at e1'; cases e1'), fun z => (by subst z; rw [nfo] at e2; cases e2), sA, sB, hperm, rfl⟩, ?_⟩
    rintro m σ H' ⟨o1, o2, Fd, A, B', rfl, s7, x1, x2, x3, n1, n2, hA, hB, hP, rfl⟩
    have hlen : Fd.length + A.length + B'.length = xs.length := by
      have := hP.length_eq
      rw [List.length_append, List.length_append] at this
      exact this
    have fin : A = [] ∨ B' = [] → (Fd ++ A ++ B').Pairwise alt := fun h => by
      rcases h with rfl | rfl
      · rw [List.append_nil]
        exact hB
      · rw [List.append_nil]
        exact hA
    have lst : (A = [] ∨ B' = []) → ∀ p, H' p = none → ∀ p2, (upd H' p (HO.lst (refs Fd ++ refs A))) p2 = none → Q (.ref p2) (upd (upd H' p (HO.lst (refs Fd ++ refs A))) p2 (HO.lst (refs Fd ++ refs A ++ refs B'))) := fun h p np p2 np2 => by
      refine q _ p2 (Fd ++ A ++ B') (((s6.trans s7).trans (same_upd np)).trans (same_upd np2)) ?_ hP (fin h)
      rw [upd_same]
      unfold refs
      rw [List.map_append, List.map_append]
    cases A with
    | nil =>
      refine ⟨_, rfl, false, .inl ⟨_, SqL.of x1, rfl⟩, iteF (iteF ?_)⟩
      exact ⟨_, rfl, _, rfl, fo, o1, _, _, rfl, rfl, x3, x1, by have h0 : (refs ([] : List At)).length = 0 := rfl; rw [h0, refs_len]; exact small_le (by omega), fun p np => ⟨_, rfl, p, o2, _, _, rfl, rfl, upd_same, same_upd np _ _ x2, by have h0 : (refs ([] : List At)).length = 0 := rfl; rw [List.length_append, h0, refs_len, refs_len]; exact small_le (by omega), fun p2 np2 => lst (.inl rfl) p np p2 np2⟩⟩
    | cons x A =>
      refine ⟨_, rfl, true, .inl ⟨_, SqL.of x1, rfl⟩, iteT ?_⟩
      cases B' with
      | nil =>
        refine ⟨_, rfl, false, .inl ⟨_, SqL.of x2, rfl⟩, iteF ?_⟩
        exact ⟨_, rfl, _, rfl, fo, o1, _, _, rfl, rfl, x3, x1, by rw [refs_len, refs_len]; exact small_le (by omega), fun p np => ⟨_, rfl, p, o2, _, _, rfl, rfl, upd_same, same_upd np _ _ x2, by rw [List.length_append, refs_len, refs_len, refs_len]; exact small_le (by omega), fun p2 np2 => lst (.inr rfl) p np p2 np2⟩⟩
      | cons y B'' =>
        refine ⟨_, rfl, true, .inl ⟨_, SqL.of x2, rfl⟩, iteT ?_⟩
        have hxm : x ∈ xs := hP.mem_iff.mp (by simp)
        have hym : y ∈ xs := hP.mem_iff.mp (by simp)
        obtain ⟨ax, okx⟩ := hall _ s7 x hxm
        obtain ⟨ay, oky⟩ := hall _ s7 y hym
        have hxy : x.2 ≠ y.2 := fun z => by
          have h2 := (hP.map (·.2)).nodup_iff.mpr hnd
          rw [List.map_append, List.map_append, List.map_cons, List.map_cons, List.append_assoc] at h2
          have h3 := (List.nodup_append.mp h2).2.1
          have h4 := (List.nodup_append.mp h3).2.2 x.2 List.mem_cons_self y.2 List.mem_cons_self
          exact h4 z
        have hpos : ∀ z ∈ Fd ++ x :: A ++ y :: B'', 0 < z.2.2 := fun z hz => (hx z (hP.mem_iff.mp hz)).2.1
        have hcutA : cutV (refs (x :: A)) (some 1) none = refs A := cutV_from (xs := refs (x :: A)) (k := 1)
        have hcutB : cutV (refs (y :: B'')) (some 1) none = refs B'' := cutV_from (xs := refs (y :: B'')) (k := 1)
        have s8 := s6.trans s7
        refine ⟨fun σ' H7 => ∃ (o1 o2 : Addr) (Fd A2 B2 : List At), σ' = [some (.ref a), some (.int (cut : Int)), some (.ref o1), some (.ref o2), some (.ref fo)] ∧ Same H3 H7 ∧ H7 o1 = some (.lst (refs A2)) ∧ H7 o2 = some (.lst (refs B2)) ∧ H7 fo = some (.lst (refs Fd)) ∧ o1 ≠ fo ∧ o2 ≠ fo ∧
            (Fd ++ A2).Pairwise alt ∧ (Fd ++ B2).Pairwise alt ∧ (Fd ++ A2 ++ B2).Perm xs ∧ A2.length + B2.length < (x :: A).length + (y :: B'').length,
          fun σ' H7 ⟨p1, p2, F2, A2, B2, g1, g2, g3, g4, g5, g6, g7, g8, g9, g10, g11⟩ => ⟨_, g11, p1, p2, F2, A2, B2, g1, g2, g3, g4, g5, g6, g7, g8, g9, g10, rfl⟩, ?_⟩
        refine ⟨_, rfl, o1, _, 0, _, rfl, rfl, SqL.of x1, atI_nat (j := 0) rfl, _, rfl, o2, _, 0, _, rfl, rfl, SqL.of x2, atI_nat (j := 0) rfl, x.1, y.1, .fr x.2.1 x.2.2, .fr y.2.1 y.2.2, rfl, ax, ay, okx, oky, fun h => ?_, fun h H6 s9 => ?_, fun h H6 s9 => ?_⟩
        · injection h with h2 h3
          exact absurd (Prod.ext h2 h3) hxy
        · have hlt : alt x y := h
          refine ⟨-1, 0, rfl, rfl, true, rfl, iteT ?_⟩
          have ms := merge_step hpos hA hB (fun b hb => by cases hb; exact hlt)
          have y1 := s9 _ _ x1
          have y2 := s9 _ _ x2
          have y3 := s9 _ _ x3
          refine ⟨_, rfl, .inl ⟨rfl, _, SqL.of y3⟩, _, rfl, o1, _, 0, _, rfl, rfl, SqL.of y1, atI_nat (j := 0) rfl, fo, _, _, rfl, rfl, y3, by rw [refs_len]; exact small_of (by omega), ?_⟩
          have s10 := same_updO (o := HO.lst (refs Fd ++ [V.ref x.1])) (s7.trans s9) nfo
          have w1 : (upd H6 fo (HO.lst (refs Fd ++ [V.ref x.1]))) o1 = _ := (upd_ne n1).trans y1
          have w2 : (upd H6 fo (HO.lst (refs Fd ++ [V.ref x.1]))) o2 = _ := (upd_ne n2).trans y2
          have w3 : (upd H6 fo (HO.lst (refs Fd ++ [V.ref x.1]))) fo = _ := upd_same
          refine ⟨_, rfl, 1, rfl, o1, _, rfl, SqL.of w1, fun p np => ⟨p, o2, Fd ++ [x], A, y :: B'', rfl, s10.trans (same_upd np), by rw [hcutA]; exact upd_same, same_upd np _ _ w2, ?_, fun z => ?_, n2, ms.1, ms.2, by rw [List.append_assoc Fd [x] A]; exact hP, by simp only [List.length_cons]; omega⟩⟩
          · rw [same_upd np _ _ w3]
            unfold refs
            rw [List.map_append]
            rfl
          · subst z
            rw [w3] at np
            cases np
        · have hlt : alt y x := h
          refine ⟨1, 0, rfl, rfl, false, rfl, iteF ?_⟩
          have hpos2 : ∀ z ∈ Fd ++ y :: B'' ++ x :: A, 0 < z.2.2 := fun z hz => hpos z (by
            simp only [List.mem_append, List.mem_cons] at hz ⊢
            rcases hz with (h | h | h) | h | h <;> simp [h])
          have ms := merge_step hpos2 hB hA (fun b hb => by cases hb; exact hlt)
          have hpm : (Fd ++ [y] ++ (x :: A) ++ B'').Perm xs := by
            refine List.Perm.trans ?_ hP
            rw [List.append_assoc, List.append_assoc, List.append_assoc]
            refine List.Perm.append_left Fd ?_
            show (y :: (x :: A ++ B'')).Perm _
            exact List.perm_middle.symm
          have y1 := s9 _ _ x1
          have y2 := s9 _ _ x2
          have y3 := s9 _ _ x3
          refine ⟨_, rfl, .inl ⟨rfl, _, SqL.of y3⟩, _, rfl, o2, _, 0, _, rfl, rfl, SqL.of y2, atI_nat (j := 0) rfl, fo, _, _, rfl, rfl, y3, by rw [refs_len]; exact small_of (by omega), ?_⟩
          have s10 := same_updO (o := HO.lst (refs Fd ++ [V.ref y.1])) (s7.trans s9) nfo
          have w1 : (upd H6 fo (HO.lst (refs Fd ++ [V.ref y.1]))) o1 = _ := (upd_ne n1).trans y1
          have w2 : (upd H6 fo (HO.lst (refs Fd ++ [V.ref y.1]))) o2 = _ := (upd_ne n2).trans y2
          have w3 : (upd H6 fo (HO.lst (refs Fd ++ [V.ref y.1]))) fo = _ := upd_same
          refine ⟨_, rfl, 1, rfl, o2, _, rfl, SqL.of w2, fun p np => ⟨o1, p, Fd ++ [y], x :: A, B'', rfl, s10.trans (same_upd np), same_upd np _ _ w1, by rw [hcutB]; exact upd_same, ?_, n1, fun z => ?_, ms.2, ms.1, hpm, by simp only [List.length_cons]; omega⟩⟩
          · rw [same_upd np _ _ w3]
            unfold refs
            rw [List.map_append]
            rfl
          · subst z
            rw [w3] at np
            cases np
end
section
variable {P : Program} {w : World} {K : PySem.W.Frag} {mg : Str → Option Value} {base : Heap} {C : Addr}
theorem paired_get {α β : Type} {R : α → β → Prop} : ∀ {xs : List α} {ys : List β}, Paired R xs ys → xs.length = ys.length ∧ ∀ i (h1 : i < xs.length) (h2 : i < ys.length), R xs[i] ys[i]
  | _, _, .nil => ⟨rfl, fun i h => absurd h (Nat.not_lt_zero _)⟩
  | _, _, .cons h t => by
    obtain ⟨e, k⟩ := paired_get t
    refine ⟨by simp only [List.length_cons, e], fun i h1 h2 => ?_⟩
    cases i with
    | zero => exact h
    | succ i => exact k i _ _
/-- the keys' places -/
theorem keys_at {H : Hp} {ks : List Fr} {bs : List Addr} (h : IsKeys H (kvs ks) bs) (hok : ∀ f ∈ ks, (Nu.fr f.1 f.2).Ok) : ∃ xs : List At, refs xs = bs.map V.ref ∧ xs.map (·.2) = ks ∧ ∀ x ∈ xs, AtOk H x := by
  obtain ⟨e, k⟩ := paired_get h
  have e' : bs.length = ks.length := by
    rw [← e]
    unfold kvs
    rw [List.length_map]
  refine ⟨bs.zip ks, ?_, ?_, fun x hx => ?_⟩
  · unfold refs
    have : (bs.zip ks).map (fun x => V.ref x.1) = ((bs.zip ks).map (·.1)).map V.ref := by rw [List.map_map]; rfl
    rw [this]
    congr 1
    exact List.map_fst_zip (by omega)
  · exact List.map_snd_zip (by omega)
  · obtain ⟨i, hi⟩ := List.getElem?_of_mem hx
    obtain ⟨hil, ei⟩ := List.getElem?_eq_some_iff.mp hi
    rw [List.length_zip] at hil
    have hz : (bs.zip ks)[i] = (bs[i], ks[i]) := List.getElem_zip
    rw [hz] at ei
    have hk := k i (by unfold kvs; rw [List.length_map]; omega) (by omega)
    have hkv : (kvs ks)[i]'(by unfold kvs; rw [List.length_map]; omega) = (fk ks[i], V.bl true) := by
      unfold kvs
      rw [List.getElem_map]
    rw [hkv] at hk
    rw [← ei]
    exact ⟨hk, hok _ (List.getElem_mem _)⟩
theorem ok_between (D : Df K mg "between" p_between s_between) (B : Bl mg) (Cl : Cal P w K mg base (L2.CX P w) 2 "lowest" p_lowest (sp_lowest C)) (Co : Cal P w K mg base CX0 18 "ordered" p_ordered (sp_ordered 11)) : Cal P w K mg base CX0 19 "between" p_between sp_between := D.cal fun f fd F => by
  refine F.ok sc_between (fun vs H Q E h => ?_) (fun cdv A outer s H vs Q E hr h => ?_)
  · obtain ⟨x, y, p, q, p', q', m, rfl, _⟩ := h
    rfl
  obtain ⟨x, y, p, q', p2, q2, m, rfl, ex, ey, hq0, hq1, hr0, hr1, hp0, hp1, hs0, hs1, hm0, hm1, q⟩ := h
  refine ⟨_, pss_cons (ps_set (i := 3) sc_between.nd rfl (.inl rfl) pe_dnewT)
    <| pss_cons (ps_for PassesOwn.never rfl (pi_range2 (by rfl) B.range (pa_cons pe_int (pa_cons (pe_op op_add (pv 2) pe_int) pa_nil))) (pg_name (i := 4) sc_between.nd rfl (.inl rfl))
        (pss_one (ps_for PassesOwn.never rfl (pi_range2 (by rfl) B.range (pa_cons (pe_op op_sub pe_int (pe_op op_fdiv (pe_op op_sub pe_int (pe_op op_mul (pe_ix ix_tup (pv 0) pe_int (fun _ _ => rfl)) (pv 4))) (pe_ix ix_tup (pv 0) pe_int (fun _ _ => rfl)))) (pa_cons (pe_op op_add (pe_op op_fdiv (pe_op op_mul (pe_ix ix_tup (pv 1) pe_int (fun _ _ => rfl)) (pv 4)) (pe_ix ix_tup (pv 1) pe_int (fun _ _ => rfl))) pe_int) pa_nil))) (pg_name (i := 5) sc_between.nd rfl (.inl rfl))
          (pss_one (ps_dput (room1 hr) (pv 3) (pe_cal Cl hr (by decide) (by rfl) passL (pa_cons (pv 5) (pa_cons (pv 4) pa_nil))) pe_bl rfl)))))
    <| pss_one (ps_ret (pe_callTy call_tuple_of (by rfl) B.tuple (by decide +kernel) (pa_cons (pe_cal Co hr (by decide) (by rfl) pass0 (pa_cons (pe_callTy (call_list_dT rfl) (by rfl) B.list (by decide +kernel) (pa_cons (pv 3) pa_nil)) pa_nil)) pa_nil))), ?_⟩
  intro d nd
  refine ⟨_, rfl, _, _, rfl, rfl, 1, m + 1, rfl, ⟨by decide, by decide, by omega, by omega⟩, for_range (fun i σ H' => ∃ (ks : List Fr) (y4 y5 : Option V), σ = [some (.ref x), some (.ref y), some (.int m), some (.ref d), y4, y5] ∧ Same H H' ∧ H' d = some (.dT (kvs ks)) ∧ ks.Nodup ∧ ks.length ≤ 217 * i ∧ ∀ f, f ∈ ks ↔ Pre p q' p2 q2 (1 + (i : Int)) f)
    ⟨[], none, none, rfl, same_upd nd, upd_same, List.nodup_nil, Nat.zero_le _, fun f => ⟨fun z => (by cases z), fun ⟨l, _, h1, h2, _⟩ => by omega⟩⟩ (fun i σ H1 hi hP => ?_) (fun σ H1 hP => ?_)⟩
  · obtain ⟨ks, y4, y5, rfl, s1, ed, hnd, hlen, hks⟩ := hP
    have hil : 1 + (i : Int) ≤ m := by omega
    have hi9 : i < 9 := by omega
    have hnx : 1 + ((i + 1 : Nat) : Int) = (1 + (i : Int)) + 1 := by omega
    have hl1 : 1 ≤ 1 + (i : Int) := by omega
    have hpb : ∀ z : Int, -12 ≤ z → z ≤ 12 → (z * (1 + (i : Int))).natAbs ≤ 108 := fun z h1 h2 => by
      rw [Int.natAbs_mul]
      exact Nat.mul_le_mul (show z.natAbs ≤ 12 by omega) (show (1 + (i : Int)).natAbs ≤ 9 by omega)
    have hb1 := hpb p hp0 hp1
    have hb2 := hpb p2 hs0 hs1
    have ed1 := ediv_abs (u := 0 - p * (1 + (i : Int))) hq0
    have ed2 := ediv_abs (u := p2 * (1 + (i : Int))) hr0
    have us := fun f => up_start (p := p) (q := q') (p' := p2) (q' := q2) (l := 1 + (i : Int)) hq0 (f := f)
    have ue := fun f u hu => up_end (p := p) (q := q') (p' := p2) (q' := q2) (l := 1 + (i : Int)) (u := u) hr0 (f := f) hu
    have gp : atI ([p, q'].map V.int) 0 = some (.int p) := atI_nat (j := 0) rfl
    have gq : atI ([p, q'].map V.int) 1 = some (.int q') := atI_nat (j := 1) rfl
    have gp2 : atI ([p2, q2].map V.int) 0 = some (.int p2) := atI_nat (j := 0) rfl
    have gq2 : atI ([p2, q2].map V.int) 1 = some (.int q2) := atI_nat (j := 1) rfl
    have ex1 := s1 _ _ ex
    have ey1 := s1 _ _ ey
    refine ⟨_, rfl, x, _, 0, _, rfl, rfl, SqT.of ex1, gp, _, rfl, _, _, rfl, rfl, .inl (by omega), _, _, rfl, rfl, _, rfl, x, _, 1, _, rfl, rfl, SqT.of ex1, gq, _, _, rfl, rfl, ⟨hq0, by omega⟩, _, _, rfl, rfl,
      _, rfl, y, _, 0, _, rfl, rfl, SqT.of ey1, gp2, _, rfl, _, _, rfl, rfl, .inl (by omega), _, rfl, y, _, 1, _, rfl, rfl, SqT.of ey1, gq2, _, _, rfl, rfl, ⟨hr0, by omega⟩, _, _, rfl, rfl, 0 - (0 - p * (1 + (i : Int))) / q', p2 * (1 + (i : Int)) / q2 + 1, rfl, ⟨by omega, by omega, by omega, by omega⟩,
      for_range (fun j σ H' => ∃ (ks : List Fr) (y5 : Option V), σ = [some (.ref x), some (.ref y), some (.int m), some (.ref d), some (.int (1 + (i : Int))), y5] ∧ Same H H' ∧ H' d = some (.dT (kvs ks)) ∧ ks.Nodup ∧ ks.length ≤ 217 * i + j ∧ ∀ f, f ∈ ks ↔ Up p q' p2 q2 (1 + (i : Int)) (0 - (0 - p * (1 + (i : Int))) / q' + (j : Int)) f)
        ⟨ks, y5, rfl, s1, ed, hnd, hlen, fun f => by rw [hks, ← us, show ((0 : Nat) : Int) = 0 from rfl, Int.add_zero]⟩ (fun j σ H2 hj hP => ?_) (fun σ H2 hP => ?_)⟩
    · obtain ⟨ks, y5, rfl, s2, ed2', hnd, hlen, hks⟩ := hP
      have hj1 : 0 - (0 - p * (1 + (i : Int))) / q' + (j : Int) < p2 * (1 + (i : Int)) / q2 + 1 := by omega
      have u1 := (row_lo (p := p) (l := 1 + (i : Int)) (u := 0 - (0 - p * (1 + (i : Int))) / q' + (j : Int)) hq0).mp (by omega)
      have u2 := (row_hi (p := p2) (l := 1 + (i : Int)) (u := 0 - (0 - p * (1 + (i : Int))) / q' + (j : Int)) hr0).mp hj1
      have ub : (0 - (0 - p * (1 + (i : Int))) / q' + (j : Int)).natAbs ≤ 400 := by omega
      have hstep := fun f => up_step (p := p) (q := q') (p' := p2) (q' := q2) (l := 1 + (i : Int)) (u := 0 - (0 - p * (1 + (i : Int))) / q' + (j : Int)) (f := f) hl1 u1 u2
      have hjn : 0 - (0 - p * (1 + (i : Int))) / q' + ((j + 1 : Nat) : Int) = 0 - (0 - p * (1 + (i : Int))) / q' + (j : Int) + 1 := by omega
      rw [hjn]
      have hj2 : j < 217 := by omega
      generalize 0 - (0 - p * (1 + (i : Int))) / q' + (j : Int) = u at *
      refine ⟨_, rfl, _, rfl, _, rfl, u, 1 + (i : Int), rfl, big_of (by omega), big_of (by omega), fun z => by omega, fun _ c nc => ?_⟩
      have s3 := same_updO (o := tI [(low u (1 + (i : Int))).1, (low u (1 + (i : Int))).2]) s2 (s2.free nc)
      have ed3 := same_upd nc (o := tI [(low u (1 + (i : Int))).1, (low u (1 + (i : Int))).2]) _ _ ed2'
      have hput := DPut.t (v := V.bl true) (k := fk (low u (1 + (i : Int)))) (b := c) ed3 upd_same (by unfold kvs; rw [List.length_map]; exact small_of (by omega))
      rw [put_add] at hput
      refine ⟨d, _, rfl, hput, addF ks (low u (1 + (i : Int))), some (.int u), rfl, same_updO s3 nd, upd_same, addF_nodup hnd, ?_, fun f => ?_⟩
      · have := addF_len (ks := ks) (f := low u (1 + (i : Int)))
        omega
      · rw [addF_mem, hks, hstep]
    · obtain ⟨ks, y5, rfl, s2, ed2', hnd, hlen, hks⟩ := hP
      refine ⟨ks, _, _, rfl, s2, ed2', hnd, ?_, fun f => ?_⟩
      · omega
      · rw [hks, hnx]
        exact ue f _ (by omega)
  · obtain ⟨ks, y4, y5, rfl, s1, ed, hnd, hlen, hks⟩ := hP
    have em : 1 + (((m + 1 - 1).toNat : Nat) : Int) = m + 1 := by omega
    rw [em] at hks
    have hin : ∀ f, f ∈ ks ↔ Inb p q' p2 q2 m f := fun f => (hks f).trans (pre_inb hq0 hr0)
    have hok : ∀ f ∈ ks, (Nu.fr f.1 f.2).Ok := fun f hf => by
      obtain ⟨h1, h2, h3, h4, h5⟩ := (hin f).mp hf
      have hub : f.1.natAbs ≤ 200 := by
        have k1 : f.1 < 200 := by
          by_cases z : f.1 < 200
          · exact z
          · exfalso
            have : 200 * 1 ≤ f.1 * q2 := Int.mul_le_mul (by omega) (by omega) (by decide) (by omega)
            have h6 : p2 * f.2 ≤ 12 * f.2 := Int.mul_le_mul_of_nonneg_right hs1 (by omega)
            omega
        have k2 : -200 < f.1 := by
          by_cases z : -200 < f.1
          · exact z
          · exfalso
            have : 200 * 1 ≤ (-f.1) * q' := Int.mul_le_mul (by omega) (by omega) (by decide) (by omega)
            rw [Int.neg_mul] at this
            have h6 : (-12) * f.2 ≤ p * f.2 := Int.mul_le_mul_of_nonneg_right hp0 (by omega)
            omega
        omega
      exact ⟨by omega, h3, nat_mono (m := 60) (by omega) (by decide), nat_mono (m := 60) (by omega) (by decide)⟩
    refine ⟨_, rfl, d, kvs ks, rfl, .inl ed, fun l1 bs nl1 hbs => ?_⟩
    obtain ⟨xs, hx1, hx2, hx3⟩ := keys_at hbs hok
    rw [← hx1]
    have s2 := s1.trans (same_upd nl1 (o := HO.lst (refs xs)))
    have hxl : xs.length = ks.length := by rw [← hx2, List.length_map]
    have h2048 : 2 ^ 11 = 2048 := by decide
    refine ⟨l1, xs, rfl, upd_same, fun z hz => ⟨same_upd nl1 _ _ (hx3 z hz).1, (hx3 z hz).2⟩, by rw [hx2]; exact hnd, by rw [hxl, h2048]; omega, by omega, fun H3 b ys s3 eb hp hs => ?_⟩
    refine ⟨b, _, rfl, .inl ⟨SqL.of eb, fun t nt => ?_⟩⟩
    have s4 := s2.trans s3
    refine q ys _ t (fun z hz => ?_) (fun f => ?_) ?_ (by rw [hp.length_eq, hxl]; omega) (same_updO s4 (s4.free nt)) (s4.free nt) upd_same
    · have := hx3 z (hp.mem_iff.mp hz)
      exact ⟨same_upd nt _ _ (s3 _ _ (same_upd nl1 _ _ this.1)), this.2⟩
    · rw [(hp.map (·.2)).mem_iff, hx2, hin]
    · rw [List.pairwise_map]
      exact hs
end
section
variable {P : Program} {w : World} {K : PySem.W.Frag} {mg : Str → Option Value} {base : Heap}
theorem ok__law_cell (D : Df K mg "_law_cell" p__law_cell s__law_cell) (B : Bl mg) : Cal P w K mg base CX0 1 "_law_cell" p__law_cell (sp_cell K) := D.cal fun f fd F => by
  refine F.ok sc__law_cell (fun vs H Q E h => ?_) (fun cdv A outer s H vs Q E hr h => ?_)
  · obtain ⟨a, ns, k, rfl, _⟩ := h
    rfl
  obtain ⟨a, ns, k, rfl, hS, hk, q⟩ := h
  refine ⟨_, pss_cons (ps_if (pt_cmpR op_lt (pv 1) (pe_callB call_len_seq (by rfl) B.len PySem.boot_len (pa_cons (pv 0) pa_nil)) (nomark _)) (pss_one (ps_ret (pe_ix ix_list (pv 0) (pv 1) (fun _ _ => rfl)))) pss_nil)
    (pss_one (ps_ret pe_int)), ?_⟩
  refine ⟨_, rfl, _, rfl, a, _, rfl, .inl hS, _, _, rfl, rfl, _, rfl, ite2 (fun c => ?_) (fun c => ?_)⟩
  · have c' : (k : Int) < (((ns.map V.int).length : Nat) : Int) := of_decide_eq_true c
    rw [List.length_map] at c'
    have hl : k < ns.length := by omega
    refine ⟨_, rfl, _, rfl, a, _, _, _, rfl, rfl, hS, atI_nat (j := k) (v := .int (cellOf ns k)) ?_, q⟩
    rw [List.getElem?_map, List.getElem?_eq_getElem hl]
    show some (V.int ns[k]) = some (V.int (ns.getD k 0))
    rw [List.getD_eq_getElem?_getD, List.getElem?_eq_getElem hl]
    rfl
  · have c' : ¬ (k : Int) < (((ns.map V.int).length : Nat) : Int) := of_decide_eq_false (Bool.eq_false_iff.mpr c)
    rw [List.length_map] at c'
    have e : cellOf ns k = 0 := by
      unfold cellOf
      rw [List.getD_eq_getElem?_getD, List.getElem?_eq_none (by omega)]
      rfl
    rw [e] at q
    exact q
end
section
variable {P : Program} {w : World} {K : PySem.W.Frag} {mg : Str → Option Value} {base : Heap}
theorem ok__law_mix (D : Df K mg "_law_mix" p__law_mix s__law_mix) : Cal P w K mg base CX0 1 "_law_mix" p__law_mix sp_mix := D.cal fun f fd F => by
  refine F.ok sc__law_mix (fun vs H Q E h => ?_) (fun cdv A outer s H vs Q E hr h => ?_)
  · obtain ⟨c, p, m, rfl, _⟩ := h
    rfl
  obtain ⟨c, p, m, rfl, hp, hm, q⟩ := h
  refine ⟨_, pss_one (ps_ret (pe_op op_mod (pe_op op_mod (pe_op op_mul (pv 0) pe_int) (pv 1)) (pv 2))), ?_⟩
  exact ⟨_, rfl, _, _, rfl, rfl, .inr (by decide), _, rfl, _, _, rfl, rfl, hp, _, rfl, _, _, rfl, rfl, hm, q⟩
end
section
variable {P : Program} {w : World} {K : PySem.W.Frag} {mg : Str → Option Value} {base : Heap}
theorem ok__law_whole (D : Df K mg "_law_whole" p__law_whole s__law_whole) (B : Bl mg) : Cal P w K mg base CX0 1 "_law_whole" p__law_whole sp_whole := D.cal fun f fd F => by
  refine F.ok sc__law_whole (fun vs H Q E h => ?_) (fun cdv A outer s H vs Q E hr h => ?_)
  · obtain ⟨z, rfl, _⟩ := h
    rfl
  obtain ⟨z, rfl, q⟩ := h
  refine ⟨_, pss_one (ps_ret (pe_and (pe_callB call_isi (by rfl) B.isinstance PyProof.Rows.boot_isinstance (pa_cons (pv 0) (pa_cons (pe_bltn (v := .ty "int") (by rfl) B.int (by decide +kernel) rfl) pa_nil)))
    (pe_one (pe_not (pe_callB call_isi (by rfl) B.isinstance PyProof.Rows.boot_isinstance (pa_cons (pv 0) (pa_cons (pe_bltn (v := .ty "bool") (by rfl) B.bool (by decide +kernel) rfl) pa_nil))))))), ?_⟩
  refine ⟨_, rfl, .int z, .ty "int", _, _, true, rfl, .ty "int", .base (.int z), isT_self, true, rfl, iteT ?_⟩
  exact ⟨_, rfl, .int z, .ty "bool", _, _, false, rfl, .ty "bool", .base (.int z), kit_ty (by decide +kernel), false, rfl, q⟩
end
section
variable {P : Program} {w : World} {K : PySem.W.Frag} {mg : Str → Option Value} {base : Heap}
theorem ok__law_divisor (D : Df K mg "_law_divisor" p__law_divisor s__law_divisor) (B : Bl mg) : Cal P w K mg base CX0 1 "_law_divisor" p__law_divisor sp_divisor := D.cal fun f fd F => by
  refine F.ok sc__law_divisor (fun vs H Q E h => ?_) (fun cdv A outer s H vs Q E hr h => ?_)
  · obtain ⟨a, b, rfl, _⟩ := h
    rfl
  obtain ⟨a, b, rfl, q⟩ := h
  refine ⟨_, pss_cons (ps_set (i := 0) sc__law_divisor.nd rfl (.inl rfl) (pe_callB call_abs (by rfl) B.abs (by decide +kernel) (pa_cons (pv 0) pa_nil)))
    (pss_cons (ps_set (i := 1) sc__law_divisor.nd rfl (.inl rfl) (pe_callB call_abs (by rfl) B.abs (by decide +kernel) (pa_cons (pv 1) pa_nil)))
    (pss_cons (ps_while PassesOwn.never (pt_cmpR op_gt (pv 1) pe_int (nomark _)) (pss_one (ps_par (i := 0) (j := 1) (by rfl) sc__law_divisor.nd rfl rfl (by decide) rfl rfl (pa_cons (pv 1) (pa_cons (pe_op op_mod (pv 0) (pv 1)) pa_nil)) (by rfl))))
    (pss_one (ps_ret (pv 0))))), ?_⟩
  refine ⟨_, rfl, a, rfl, _, rfl, b, rfl, ?_⟩
  refine ⟨fun m σ H' => ∃ x y : Int, σ = [some (.int x), some (.int y)] ∧ 0 ≤ x ∧ 0 ≤ y ∧ Int.gcd x y = Int.gcd a b ∧ H' = H ∧ m = y.toNat, ⟨_, _, _, rfl, by split <;> omega, by split <;> omega, gcd_abs a b, rfl, rfl⟩, ?_⟩
  rintro m σ H' ⟨x, y, rfl, hx, hy, hg, rfl, rfl⟩
  refine ⟨_, rfl, _, _, rfl, rfl, _, rfl, ite2 (fun c => ?_) (fun c => ?_)⟩
  · have c' : 0 < y := of_decide_eq_true c
    have h1 := Int.emod_nonneg x (show y ≠ 0 by omega)
    have h2 := Int.emod_lt_of_pos x c'
    refine ⟨fun σ' H2 => σ' = [some (.int y), some (.int (x % y))] ∧ H2 = H', fun σ' H2 ⟨e1, e2⟩ => ⟨(x % y).toNat, by omega, y, x % y, e1, hy, h1, by rw [gcd_step hx c', hg], e2, rfl⟩, ?_⟩
    exact ⟨_, rfl, _, rfl, _, rfl, _, _, rfl, rfl, c', _, _, rfl, rfl, rfl⟩
  · have c' : ¬ 0 < y := of_decide_eq_false (Bool.eq_false_iff.mpr c)
    refine ⟨_, rfl, ?_⟩
    have e : x = dv a b := by
      rw [gcd_end hx c' hy, hg]
      rfl
    rw [e]
    exact q
end
section
variable {P : Program} {w : World} {K : PySem.W.Frag} {mg : Str → Option Value} {base : Heap}
theorem ok__law_lowest (D : Df K mg "_law_lowest" p__law_lowest s__law_lowest) (C_div : Cal P w K mg base CX0 1 "_law_divisor" p__law_divisor sp_divisor) : Cal P w K mg base CX0 2 "_law_lowest" p__law_lowest sp_lowH := D.cal fun f fd F => by
  refine F.ok sc__law_lowest (fun vs H Q E h => ?_) (fun cdv A outer s H vs Q E hr h => ?_)
  · obtain ⟨a, b, rfl, _⟩ := h
    rfl
  obtain ⟨u, l, rfl, h0, hu, hl, q⟩ := h
  refine ⟨_, pss_cons (ps_set (i := 2) sc__law_lowest.nd rfl (.inl rfl) (pe_cal C_div hr (by decide) (by rfl) pass0 (pa_cons (pv 0) (pa_cons (pv 1) pa_nil))))
    (pss_cons (ps_if (pt_cmpR op_lt (pv 1) pe_int (nomark _)) (pss_one (ps_set (i := 2) sc__law_lowest.nd rfl (.inl rfl) (pe_op op_sub pe_int (pv 2)))) pss_nil)
    (pss_one (ps_ret (pe_tup (pa_cons (pe_op op_fdivWN (pv 0) (pv 2)) (pa_cons (pe_op op_fdivWN (pv 1) (pv 2)) pa_nil)))))), ?_⟩
  have hg := dv_pos_right (a := u) h0
  have hb : dv u l ≠ 0 ∧ (dv u l).natAbs.log2 < 9000 := by
    refine ⟨by omega, Nat.lt_of_lt_of_le (PySem.Flt.log2_lt_of (by decide) (Nat.lt_of_le_of_lt ?_ hl.lt)) (by decide : 4000 ≤ 9000)⟩
    obtain ⟨k, hk⟩ := dv_dvd_right u l
    conv => rhs; rw [hk]
    rw [Int.natAbs_mul]
    refine Nat.le_mul_of_pos_right _ ?_
    have : k ≠ 0 := fun z => by
      rw [z, Int.mul_zero] at hk
      exact h0 hk
    omega
  refine ⟨_, rfl, _, rfl, u, l, rfl, _, rfl, _, _, rfl, rfl, _, rfl, ite2 (fun c => ?_) (fun c => ?_)⟩
  · have c' : l < 0 := of_decide_eq_true c
    have e0 : (0 : Int) - dv u l = -dv u l := by omega
    have hb' : (0 - dv u l) ≠ 0 ∧ (0 - dv u l).natAbs.log2 < 9000 := by
      rw [e0, Int.natAbs_neg]
      exact ⟨by omega, hb.2⟩
    refine ⟨_, rfl, _, _, rfl, rfl, _, rfl, _, rfl, _, _, rfl, rfl, hb', _, rfl, _, rfl, _, _, rfl, rfl, hb', len2, fun p np => ?_⟩
    have := q p np
    unfold low at this
    rw [if_pos c', neg_ediv_dvd (dv_dvd_left u l), neg_ediv_dvd (dv_dvd_right u l), ← fdiv_neg_dvd (dv_dvd_left u l) hb.1, ← fdiv_neg_dvd (dv_dvd_right u l) hb.1, ← e0] at this
    exact this
  · have c' : ¬ l < 0 := of_decide_eq_false (Bool.eq_false_iff.mpr c)
    refine ⟨_, rfl, _, rfl, _, _, rfl, rfl, hb, _, rfl, _, rfl, _, _, rfl, rfl, hb, len2, fun p np => ?_⟩
    have := q p np
    unfold low at this
    rw [if_neg c', ← Int.fdiv_eq_ediv_of_nonneg u (by omega), ← Int.fdiv_eq_ediv_of_nonneg l (by omega)] at this
    exact this
end
theorem mix_range {c p m : Int} (hm : 0 < m) : 0 ≤ mix c p m ∧ mix c p m < m := ⟨Int.emod_nonneg _ (by omega), Int.emod_lt_of_pos _ hm⟩
section
variable {P : Program} {w : World} {K : PySem.W.Frag} {mg : Str → Option Value} {base : Heap}
theorem ok__law_fraction (D : Df K mg "_law_fraction" p__law_fraction s__law_fraction) (C_mix : Cal P w K mg base CX0 1 "_law_mix" p__law_mix sp_mix) (C_low : Cal P w K mg base CX0 2 "_law_lowest" p__law_lowest sp_lowH) : Cal P w K mg base CX0 3 "_law_fraction" p__law_fraction sp_fraction := D.cal fun f fd F => by
  refine F.ok sc__law_fraction (fun vs H Q E h => ?_) (fun cdv A outer s H vs Q E hr h => ?_)
  · obtain ⟨c, o, wd, rfl, _⟩ := h
    rfl
  obtain ⟨c, o, wd, rfl, h0, h1, q⟩ := h
  refine ⟨_, pss_cons (ps_set (i := 3) sc__law_fraction.nd rfl (.inl rfl) (pe_op op_sub (pe_cal C_mix hr (by decide) (by rfl) pass0 (pa_cons (pv 0) (pa_cons pe_int (pa_cons (pe_op op_add (pe_op op_mul pe_int (pv 2)) pe_int) pa_nil)))) (pv 2)))
    (pss_one (ps_ret (pe_cal C_low hr (by decide) (by rfl) pass0 (pa_cons (pv 3) (pa_cons (pe_op op_add pe_int (pe_cal C_mix hr (by decide) (by rfl) pass0 (pa_cons (pv 1) (pa_cons pe_int (pa_cons (pv 2) pa_nil))))) pa_nil))))), ?_⟩
  refine ⟨_, rfl, _, rfl, _, _, rfl, rfl, .inl (by decide), _, _, rfl, rfl, c, 1000003, 2 * wd + 1, rfl, by decide, by omega, _, rfl, _, _, rfl, rfl, ?_⟩
  have r1 := mix_range (c := c) (p := 1000003) (m := 2 * wd + 1) (by omega)
  have r2 := mix_range (c := o) (p := 999983) (m := wd) h0
  refine ⟨_, rfl, _, rfl, _, rfl, o, 999983, wd, rfl, by decide, h0, _, _, rfl, rfl, _, _, rfl, by omega, big_of ?_, big_of ?_, q⟩
  · have : (2 : Nat) ^ 60 = 1152921504606846976 := by decide
    omega
  · have : (2 : Nat) ^ 60 = 1152921504606846976 := by decide
    omega
end
/-! ### the law: neighbours -/
def sp_less : Sp := fun vs H Q _ => ∃ (x y : Addr) (a b c d : Int), vs = [.ref x, .ref y] ∧ H x = some (tI [a, b]) ∧ H y = some (tI [c, d]) ∧ a.natAbs < 2 ^ 60 ∧ b.natAbs < 2 ^ 60 ∧ c.natAbs < 2 ^ 60 ∧ d.natAbs < 2 ^ 60 ∧ Q (.bl (decide (a * d < c * b))) H
theorem low_eq {u l : Int} (hl : 0 < l) (h : (low u l).2 = l) : low u l = (u, l) := by
  have h1 := low_is (u := u) (show l ≠ 0 by omega)
  have h2 := h1.cross
  rw [h] at h2
  have h3 := Int.eq_of_mul_eq_mul_right (show l ≠ 0 by omega) h2
  exact Prod.ext h3.symm h
theorem flt_nodup {ks : List Fr} (h : ks.Pairwise flt) : ks.Nodup := h.imp fun {a b} h e => by
  subst e
  exact absurd h (by unfold flt; omega)
/-- the bounds of a fraction between -/
theorem inb_bounds {p q p' q' m : Int} {f : Fr} (h : Inb p q p' q' m f) (hq : 0 < q) (hq' : 0 < q') (hp0 : -12 ≤ p) (hp1 : p' ≤ 12) : -12 * f.2 ≤ f.1 ∧ f.1 ≤ 12 * f.2 := by
  obtain ⟨h1, h2, h3, h4, h5⟩ := h
  constructor
  · by_cases z : -12 * f.2 ≤ f.1
    · exact z
    · exfalso
      have k1 : f.1 * q ≤ (-12 * f.2 - 1) * q := Int.mul_le_mul_of_nonneg_right (by omega) (by omega)
      have k2 : -12 * f.2 ≤ p * f.2 := Int.mul_le_mul_of_nonneg_right hp0 (by omega)
      have k3 : (12 * f.2 + 1) * 1 ≤ (12 * f.2 + 1) * q := Int.mul_le_mul_of_nonneg_left (by omega) (by omega)
      have k4 : (-12 * f.2 - 1) * q = -((12 * f.2 + 1) * q) := by grind
      omega
  · by_cases z : f.1 ≤ 12 * f.2
    · exact z
    · exfalso
      have k1 : (12 * f.2 + 1) * q' ≤ f.1 * q' := Int.mul_le_mul_of_nonneg_right (by omega) (by omega)
      have k2 : p' * f.2 ≤ 12 * f.2 := Int.mul_le_mul_of_nonneg_right hp1 (by omega)
      have k3 : (12 * f.2 + 1) * 1 ≤ (12 * f.2 + 1) * q' := Int.mul_le_mul_of_nonneg_left (by omega) (by omega)
      omega
/-- nothing from the greater to the lesser one -/
theorem inb_none {p q p' q' m : Int} {f : Fr} (hq : 0 < q) (hq' : 0 < q') (hlt : p' * q < p * q') : ¬ Inb p q p' q' m f := by
  rintro ⟨h1, h2, h3, h4, h5⟩
  have k1 : p * f.2 * q' ≤ f.1 * q * q' := Int.mul_le_mul_of_nonneg_right h4 (by omega)
  have k2 : f.1 * q' * q ≤ p' * f.2 * q := Int.mul_le_mul_of_nonneg_right h5 (by omega)
  have k3 : p' * q * f.2 < p * q' * f.2 := Int.mul_lt_mul_of_pos_right hlt (by omega)
  have e1 : p * f.2 * q' = p * q' * f.2 := by grind
  have e2 : p' * f.2 * q = p' * q * f.2 := by grind
  have e3 : f.1 * q * q' = f.1 * q' * q := by grind
  omega
section
variable {P : Program} {w : World} {K : PySem.W.Frag} {mg : Str → Option Value} {base : Heap} {C R : Addr}
theorem ok_less (D : Df K mg "_law_less" p__law_less s__law_less) : Cal P w K mg base CX0 1 "_law_less" p__law_less sp_less := D.cal fun f fd F => by
  refine F.ok sc__law_less (fun vs H Q E h => ?_) (fun cdv A outer s H vs Q E hr h => ?_)
  · obtain ⟨x, y, a, b, c, d, rfl, _⟩ := h
    rfl
  obtain ⟨x, y, a, b, c, d, rfl, ex, ey, ha, hb, hc, hd, q⟩ := h
  refine ⟨_, pss_one (ps_ret (pe_cmpR op_lt (pe_op op_mulW (pe_ix ix_tup (pv 0) pe_int (fun _ _ => rfl)) (pe_ix ix_tup (pv 1) pe_int (fun _ _ => rfl))) (pe_op op_mulW (pe_ix ix_tup (pv 1) pe_int (fun _ _ => rfl)) (pe_ix ix_tup (pv 0) pe_int (fun _ _ => rfl))) (nomark _))), ?_⟩
  have g0 : atI ([a, b].map V.int) 0 = some (.int a) := atI_nat (j := 0) rfl
  have g1 : atI ([a, b].map V.int) 1 = some (.int b) := atI_nat (j := 1) rfl
  have k0 : atI ([c, d].map V.int) 0 = some (.int c) := atI_nat (j := 0) rfl
  have k1 : atI ([c, d].map V.int) 1 = some (.int d) := atI_nat (j := 1) rfl
  exact ⟨_, rfl, x, _, 0, _, rfl, rfl, SqT.of ex, g0, _, rfl, y, _, 1, _, rfl, rfl, SqT.of ey, k1, _, _, rfl, rfl, mulW_of ha hd, _, rfl, y, _, 0, _, rfl, rfl, SqT.of ey, k0, _, rfl, x, _, 1, _, rfl, rfl, SqT.of ex, g1, _, _, rfl, rfl, mulW_of hc hb, _, _, rfl, rfl, q⟩
theorem ok_law {f : Addr} {fd : FuncData} (F : Fun K "law" "law" s_law f fd) (B : Bl mg) (Cc : Cal P w K mg base CX0 1 "_law_cell" p__law_cell (sp_cell K)) (Cf : Cal P w K mg base CX0 3 "_law_fraction" p__law_fraction sp_fraction)
    (Cw : Cal P w K mg base CX0 1 "_law_whole" p__law_whole sp_whole) (Clo : Cal P w K mg base CX0 2 "_law_lowest" p__law_lowest sp_lowH) (Cl : Cal P w K mg base CX0 1 "_law_less" p__law_less sp_less) (Cb : Cal P w K mg base CX0 19 "between" p_between sp_between) : FnOk P w K mg base CX0 40 f fd ["_law_script"] (sp_law K) := by
  refine F.ok sc_law (fun vs H Q E h => ?_) (fun cdv A outer s H vs Q E hr h => ?_)
  · obtain ⟨a, ns, rfl, _⟩ := h
    rfl
  obtain ⟨la, ns, rfl, hS, h63, q⟩ := h
  refine ⟨_, pss_cons (ps_set (i := 1) sc_law.nd rfl (.inl rfl) (pe_cal Cf hr (by decide) (by rfl) pass0 (pa_cons (pe_cal Cc hr (by decide) (by rfl) pass0 (pa_cons (pv 0) (pa_cons pe_int pa_nil))) (pa_cons (pe_cal Cc hr (by decide) (by rfl) pass0 (pa_cons (pv 0) (pa_cons pe_int pa_nil))) (pa_cons pe_int pa_nil)))))
    <| pss_cons (ps_set (i := 2) sc_law.nd rfl (.inl rfl) (pe_cal Cf hr (by decide) (by rfl) pass0 (pa_cons (pe_cal Cc hr (by decide) (by rfl) pass0 (pa_cons (pv 0) (pa_cons pe_int pa_nil))) (pa_cons (pe_cal Cc hr (by decide) (by rfl) pass0 (pa_cons (pv 0) (pa_cons pe_int pa_nil))) (pa_cons pe_int pa_nil)))))
    <| pss_mid (ps_if (pt_val (pe_cal Cl hr (by decide) (by rfl) pass0 (pa_cons (pv 2) (pa_cons (pv 1) pa_nil)))) (pss_one (ps_par (i := 1) (j := 2) (by rfl) sc_law.nd rfl rfl (by decide) rfl rfl (pa_cons (pv 2) (pa_cons (pv 1) pa_nil)) (by rfl))) pss_nil)
    <| pss_cons (ps_set (i := 3) sc_law.nd rfl (.inl rfl) (pe_op op_add pe_int (pe_op op_mod (pe_cal Cc hr (by decide) (by rfl) pass0 (pa_cons (pv 0) (pa_cons pe_int pa_nil))) pe_int)))
    <| pss_cons (ps_set (i := 4) sc_law.nd rfl (.inl rfl) (pe_cal Cb hr (by decide) (by rfl) pass0 (pa_cons (pv 1) (pa_cons (pv 2) (pa_cons (pv 3) pa_nil)))))
    <| pss_cons (ps_if (pt_not (pt_val (pe_callB call_isi (by rfl) B.isinstance PyProof.Rows.boot_isinstance (pa_cons (pv 4) (pa_cons (pe_bltn (v := .ty "tuple") (by rfl) B.tuple (by decide +kernel) rfl) pa_nil))))) (pss_one (ps_ret pe_bl)) pss_nil)
    <| pss_mid (ps_for PassesOwn.never rfl (pi_enumT (by rfl) B.enumerate (pa_cons (pv 4) pa_nil)) (pg_tup (by rfl) (pgs_cons (pg_name (i := 5) sc_law.nd rfl (.inl rfl)) (pgs_cons (pg_name (i := 6) sc_law.nd rfl (.inl rfl)) pgs_nil)))
        (pss_cons (ps_if (PW.pt (pw_or (pt_not (pt_val (pe_callB call_isi (by rfl) B.isinstance PyProof.Rows.boot_isinstance (pa_cons (pv 6) (pa_cons (pe_bltn (v := .ty "tuple") (by rfl) B.tuple (by decide +kernel) rfl) pa_nil)))))
            (pw_or (pt_cmpR op_ne (pe_callB call_len_seq (by rfl) B.len PySem.boot_len (pa_cons (pv 6) pa_nil)) pe_int (nomark _))
            (pw_or (pt_not (pt_val (pe_cal Cw hr (by decide) (by rfl) pass0 (pa_cons (pe_ix ix_tup (pv 6) pe_int (fun _ _ => rfl)) pa_nil))))
            (pw_or1 (pt_not (pt_chain op_le op_le pe_int (pe_ix ix_tup (pv 6) pe_int (fun _ _ => rfl)) (pv 3))))))))
            (pss_one (ps_ret pe_bl)) pss_nil)
        <| pss_cons (ps_if (PW.pt (pw_or (pt_cmpR (op_neT hr) (pe_cal Clo hr (by decide) (by rfl) pass0 (pa_cons (pe_ix ix_tup (pv 6) pe_int (fun _ _ => rfl)) (pa_cons (pe_ix ix_tup (pv 6) pe_int (fun _ _ => rfl)) pa_nil))) (pv 6) (nomark _))
            (pw_or (pt_val (pe_cal Cl hr (by decide) (by rfl) pass0 (pa_cons (pv 6) (pa_cons (pv 1) pa_nil))))
            (pw_or1 (pt_val (pe_cal Cl hr (by decide) (by rfl) pass0 (pa_cons (pv 2) (pa_cons (pv 6) pa_nil))))))))
            (pss_one (ps_ret pe_bl)) pss_nil)
        <| pss_one (ps_if (PW.pt (pw_and (pt_cmpR op_gt (pv 5) pe_int (nomark _)) (pw_and1 (pt_cmpR op_ne (pe_op op_sub (pe_op op_mulW (pe_ix ix_tup (pv 6) pe_int (fun _ _ => rfl)) (pe_ix ix_tup (pe_ix ix_tup (pv 4) (pe_op op_sub (pv 5) pe_int) (fun _ _ => rfl)) pe_int (fun _ _ => rfl)))
              (pe_op op_mulW (pe_ix ix_tup (pe_ix ix_tup (pv 4) (pe_op op_sub (pv 5) pe_int) (fun _ _ => rfl)) pe_int (fun _ _ => rfl)) (pe_ix ix_tup (pv 6) pe_int (fun _ _ => rfl)))) pe_int (nomark _)))))
            (pss_one (ps_ret pe_bl)) pss_nil)))
    <| pss_mid (ps_if (PW.pt (pw_and (pt_val (pe_cal Cl hr (by decide) (by rfl) pass0 (pa_cons (pv 1) (pa_cons (pv 2) pa_nil)))) (pw_and1 (pt_cmpR (op_neT hr) (pe_cal Cb hr (by decide) (by rfl) pass0 (pa_cons (pv 2) (pa_cons (pv 1) (pa_cons (pv 3) pa_nil)))) (pe_tup pa_nil) (nomark _)))))
        (pss_one (ps_ret pe_bl)) pss_nil)
    <| pss_cons (ps_set (i := 7) sc_law.nd rfl (.inl rfl) pe_int)
    <| pss_mid (ps_for PassesOwn.never rfl (pi_range2 (by rfl) B.range (pa_cons pe_int (pa_cons (pe_op op_add (pv 3) pe_int) pa_nil))) (pg_name (i := 8) sc_law.nd rfl (.inl rfl))
        (pss_one (ps_for PassesOwn.never rfl (pi_range2 (by rfl) B.range (pa_cons (pe_op op_sub pe_int (pe_op op_mul pe_int (pv 8))) (pa_cons (pe_op op_add (pe_op op_mul pe_int (pv 8)) pe_int) pa_nil))) (pg_name (i := 9) sc_law.nd rfl (.inl rfl))
          (pss_cons (ps_set (i := 6) sc_law.nd rfl (.inl rfl) (pe_cal Clo hr (by decide) (by rfl) pass0 (pa_cons (pv 9) (pa_cons (pv 8) pa_nil))))
          <| pss_one (ps_if (PW.pt (pw_and (pt_cmpR op_eq (pe_ix ix_tup (pv 6) pe_int (fun _ _ => rfl)) (pv 8) (nomark _)) (pw_and (pt_not (pt_val (pe_cal Cl hr (by decide) (by rfl) pass0 (pa_cons (pv 6) (pa_cons (pv 1) pa_nil)))))
              (pw_and1 (pt_not (pt_val (pe_cal Cl hr (by decide) (by rfl) pass0 (pa_cons (pv 2) (pa_cons (pv 6) pa_nil)))))))))
              (pss_one (ps_set (i := 7) sc_law.nd rfl (.inl rfl) (pe_op op_add (pv 7) pe_int))) pss_nil)))))
    <| pss_one (ps_ret (pe_cmpR op_eq (pv 7) (pe_callB call_len_seq (by rfl) B.len PySem.boot_len (pa_cons (pv 4) pa_nil)) (nomark _))), ?_⟩
  have e60 : (2 : Nat) ^ 60 = 1152921504606846976 := by decide
  have hfr : ∀ c o : Int, 0 < (frac c o 12).2 ∧ (frac c o 12).2 ≤ 12 ∧ -12 ≤ (frac c o 12).1 ∧ (frac c o 12).1 ≤ 12 := fun c o => by
    have r1 := mix_rng (c := c) (p := 1000003) (m := 2 * 12 + 1) (by decide)
    have r2 := mix_rng (c := o) (p := 999983) (m := 12) (by decide)
    obtain ⟨g1, g2, g3, g4, g5⟩ := low_in (u := mix c 1000003 (2 * 12 + 1) - 12) (l := 1 + mix o 999983 12) (w := 12) (by omega) (by omega) (by omega) (by omega)
    exact ⟨g1, g2, g3, g4⟩
  refine ⟨_, rfl, la, ns, 0, rfl, hS, by decide, _, rfl, la, ns, 1, rfl, hS, by decide, _, _, 12, rfl, by decide, by decide, fun x0 nx0 => ?_⟩
  obtain ⟨a1, a2, a3, a4⟩ := hfr (cellOf ns 0) (cellOf ns 1)
  generalize (frac (cellOf ns 0) (cellOf ns 1) 12).1 = p0 at *
  generalize (frac (cellOf ns 0) (cellOf ns 1) 12).2 = q0 at *
  have s1 := same_upd nx0 (o := tI [p0, q0])
  have ex0 : upd H x0 (tI [p0, q0]) x0 = some (tI [p0, q0]) := upd_same
  generalize upd H x0 (tI [p0, q0]) = H1 at *
  refine ⟨_, rfl, la, ns, 2, rfl, s1.seq hS, by decide, _, rfl, la, ns, 3, rfl, s1.seq hS, by decide, _, _, 12, rfl, by decide, by decide, fun y0 ny0 => ?_⟩
  obtain ⟨b1, b2, b3, b4⟩ := hfr (cellOf ns 2) (cellOf ns 3)
  generalize (frac (cellOf ns 2) (cellOf ns 3) 12).1 = p1 at *
  generalize (frac (cellOf ns 2) (cellOf ns 3) 12).2 = q1 at *
  have s2' := same_upd ny0 (o := tI [p1, q1])
  have s2 := s1.trans s2'
  have ex0 := s2' _ _ ex0
  have ey0 : upd H1 y0 (tI [p1, q1]) y0 = some (tI [p1, q1]) := upd_same
  generalize upd H1 y0 (tI [p1, q1]) = H2 at *
  refine ⟨fun σ H' => ∃ (x y : Addr) (p q' p2 q2 : Int), σ = [some (.ref la), some (.ref x), some (.ref y), none, none, none, none, none, none, none] ∧ H' = H2 ∧ H2 x = some (tI [p, q']) ∧ H2 y = some (tI [p2, q2]) ∧ 0 < q' ∧ q' ≤ 12 ∧ 0 < q2 ∧ q2 ≤ 12 ∧ -12 ≤ p ∧ p ≤ 12 ∧ -12 ≤ p2 ∧ p2 ≤ 12, ?_, ?_⟩
  · refine ⟨_, rfl, _, rfl, y0, x0, p1, q1, p0, q0, rfl, ey0, ex0, by omega, by omega, by omega, by omega, _, rfl, ite2 (fun c => ?_) (fun c => ?_)⟩
    · exact ⟨_, rfl, _, rfl, _, _, rfl, y0, x0, p1, q1, p0, q0, rfl, rfl, ey0, ex0, b1, b2, a1, a2, b3, b4, a3, a4⟩
    · exact ⟨x0, y0, p0, q0, p1, q1, rfl, rfl, ex0, ey0, a1, a2, b1, b2, a3, a4, b3, b4⟩
  clear ex0 ey0
  rintro σ H' ⟨x, y, p, q', p2, q2, rfl, rfl, ex, ey, hq0, hq1, hr0, hr1, hp0, hp1, hs0, hs1⟩
  have t0 := Int.emod_nonneg (cellOf ns 4) (show (9 : Int) ≠ 0 by decide)
  have t1 := Int.emod_lt_of_pos (cellOf ns 4) (show (0 : Int) < 9 by decide)
  refine ⟨_, rfl, la, ns, 4, rfl, s2.seq hS, by decide, _, _, rfl, rfl, (by show (0 : Int) < 9; decide), _, _, rfl, rfl, ?_⟩
  dsimp only
  generalize hmost : 1 + cellOf ns 4 % 9 = m
  have hm0 : 1 ≤ m := by omega
  have hm1 : m ≤ 9 := by omega
  refine ⟨_, rfl, _, rfl, _, rfl, x, y, p, q', p2, q2, m, rfl, ex, ey, hq0, hq1, hr0, hr1, hp0, hp1, hs0, hs1, hm0, hm1, fun ys H3 t hys hin hord hlen s3 nt et => ?_⟩
  refine ⟨_, rfl, .ref t, .ty "tuple", _, _, true, rfl, .ty "tuple", isT_tup et, isT_self, true, rfl, iteF ?_⟩
  -- what each one is
  have hone : ∀ z ∈ ys, H3 z.1 = some (tI [z.2.1, z.2.2]) ∧ Inb p q' p2 q2 m z.2 ∧ z.2.1.natAbs ≤ 108 ∧ z.2.2.natAbs ≤ 9 := fun z hz => by
    have h1 := (hin z.2).mp (List.mem_map.mpr ⟨z, hz, rfl⟩)
    have h2 := inb_bounds h1 hq0 hr0 hp0 hs1
    have h3 := h1.1
    have h4 := h1.2.1
    exact ⟨(hys z hz).1, h1, by omega, by omega⟩
  refine ⟨fun σ H' => Same H3 H' ∧ ∃ y5 y6, σ = [some (.ref la), some (.ref x), some (.ref y), some (.int m), some (.ref t), y5, y6, none, none, none], ?_, ?_⟩
  · refine ⟨_, rfl, t, refs ys, rfl, SqT.of et, for_it (walk_enumT (xs := refs ys)) (fun i σ H' => Same H3 H' ∧ ∃ y5 y6, σ = [some (.ref la), some (.ref x), some (.ref y), some (.int m), some (.ref t), y5, y6, none, none, none]) ⟨Same.refl _, none, none, rfl⟩ (fun i σ H' hi hP => SqT.of (hP.1 _ _ et)) (fun i v σ H4 H5 hi hP hY => ?_) (fun σ H' hP => hP)⟩
    obtain ⟨s4, y5, y6, rfl⟩ := hP
    obtain ⟨T, kx, ox, rfl, nT, rfl, ek, eo⟩ := hY
    obtain rfl := Option.some.inj ek
    have hiy : i < ys.length := by
      have : (refs ys).length = ys.length := List.length_map _
      omega
    have hoz : ox = .ref ys[i].1 := by
      have eo : (refs ys)[i]? = some ox := eo
      unfold refs at eo
      rw [List.getElem?_map, List.getElem?_eq_getElem hiy] at eo
      exact (Option.some.inj eo).symm
    subst hoz
    obtain ⟨ez, hz, hz1, hz2⟩ := hone _ (List.getElem_mem hiy)
    obtain ⟨hz3, hz4, hz5, hz6, hz7⟩ := hz
    have s5 := s4.trans (same_upd nT (o := HO.tup [V.int (i : Nat), V.ref ys[i].1]))
    refine ⟨T, _, rfl, SqT.of upd_same, rfl, _, _, rfl, _, _, rfl, rfl, ?_⟩
    generalize upd H4 T (HO.tup [V.int (i : Nat), V.ref ys[i].1]) = H5 at *
    generalize hZ : ys[i] = z at *
    have gu : atI ([z.2.1, z.2.2].map V.int) 0 = some (.int z.2.1) := atI_nat (j := 0) rfl
    have gl : atI ([z.2.1, z.2.2].map V.int) 1 = some (.int z.2.2) := atI_nat (j := 1) rfl
    have ez5 := s5 _ _ ez
    refine ⟨_, rfl, .ref z.1, .ty "tuple", _, _, true, rfl, .ty "tuple", isT_tup ez5, isT_self, true, rfl, iteF ?_⟩
    refine ⟨_, rfl, z.1, _, rfl, .inr (SqT.of ez5), rfl, false, rfl, iteF ?_⟩
    refine ⟨_, rfl, z.1, _, 0, _, rfl, rfl, SqT.of ez5, gu, _, rfl, true, rfl, iteF ?_⟩
    refine ⟨_, rfl, z.1, _, 1, _, rfl, rfl, SqT.of ez5, gl, _, _, rfl, rfl, true, congrArg V.bl (decide_eq_true hz3), iteT ⟨_, rfl, _, _, rfl, rfl, true, congrArg V.bl (decide_eq_true hz4), iteF ?_⟩⟩
    refine ⟨_, rfl, z.1, _, 0, _, rfl, rfl, SqT.of ez5, gu, _, rfl, z.1, _, 1, _, rfl, rfl, SqT.of ez5, gl, z.2.1, z.2.2, rfl, by omega, big_of (by omega), big_of (by omega), fun p5 np5 => ?_⟩
    rw [low_self (by omega) hz5]
    have s6 := s5.trans (same_upd np5 (o := tI [z.2.1, z.2.2]))
    have ez6 := s6 _ _ ez
    have ex6 := s6 _ _ (s3 _ _ ex)
    have ey6 := s6 _ _ (s3 _ _ ey)
    refine ⟨_, rfl, p5, z.1, _, _, rfl, rfl, SqT.of upd_same, SqT.of ez6, false, congrArg V.bl (by simp), iteF ?_⟩
    refine ⟨_, rfl, _, rfl, z.1, x, _, _, _, _, rfl, ez6, ex6, by omega, by omega, by omega, by omega, false, congrArg V.bl (decide_eq_false (by omega)), iteF ?_⟩
    refine ⟨_, rfl, _, rfl, y, z.1, _, _, _, _, rfl, ey6, ez6, by omega, by omega, by omega, by omega, false, congrArg V.bl (decide_eq_false (by omega)), iteF ?_⟩
    have fin : Same H3 (upd H5 p5 (tI [z.2.1, z.2.2])) ∧ ∃ y5 y6, [some (V.ref la), some (V.ref x), some (V.ref y), some (V.int m), some (V.ref t), some (V.int (i : Nat)), some (V.ref z.1), none, none, none] = [some (V.ref la), some (V.ref x), some (V.ref y), some (V.int m), some (V.ref t), y5, y6, none, none, none] := ⟨s6, _, _, rfl⟩
    refine ⟨_, rfl, _, _, rfl, rfl, _, rfl, ite2 (fun c => ?_) (fun c => iteF fin)⟩
    have hi0 : (0 : Int) < (i : Nat) := of_decide_eq_true c
    have hi1 : i - 1 < ys.length := by omega
    have g5 : atI (refs ys) (((i : Nat) : Int) - 1) = some (.ref ys[i - 1].1) := by
      have : ((i : Nat) : Int) - 1 = ((i - 1 : Nat) : Int) := by omega
      rw [this]
      refine atI_nat ?_
      unfold refs
      rw [List.getElem?_map, List.getElem?_eq_getElem hi1]
      rfl
    obtain ⟨ew, hw, hw1, hw2⟩ := hone _ (List.getElem_mem hi1)
    have hnb : z.2.1 * ys[i - 1].2.2 - ys[i - 1].2.1 * z.2.2 = 1 := by
      have h1 : (ys.map (·.2))[i - 1]? = some ys[i - 1].2 := by rw [List.getElem?_map, List.getElem?_eq_getElem hi1]; rfl
      have h2 : (ys.map (·.2))[i - 1 + 1]? = some z.2 := by
        rw [show i - 1 + 1 = i by omega, List.getElem?_map, List.getElem?_eq_getElem hiy, hZ]; rfl
      exact neighbours hq0 hr0 hin hord h1 h2
    generalize ys[i - 1] = v at *
    have gv : atI ([v.2.1, v.2.2].map V.int) 0 = some (.int v.2.1) := atI_nat (j := 0) rfl
    have gw : atI ([v.2.1, v.2.2].map V.int) 1 = some (.int v.2.2) := atI_nat (j := 1) rfl
    have ew6 := s6 _ _ ew
    have et6 := s6 _ _ et
    have p60 : ∀ n : Int, n.natAbs ≤ 108 → n.natAbs < 2 ^ 60 := fun n h => by omega
    refine ⟨_, rfl, z.1, _, 0, _, rfl, rfl, SqT.of ez6, gu, _, rfl, _, rfl, _, _, rfl, rfl, t, _, _, _, rfl, rfl, SqT.of et6, g5, v.1, _, 1, _, rfl, rfl, SqT.of ew6, gw, _, _, rfl, rfl, mulW_of (p60 _ hz1) (p60 _ (by omega)),
      _, rfl, _, rfl, _, _, rfl, rfl, t, _, _, _, rfl, rfl, SqT.of et6, g5, v.1, _, 0, _, rfl, rfl, SqT.of ew6, gv, _, rfl, z.1, _, 1, _, rfl, rfl, SqT.of ez6, gl, _, _, rfl, rfl, mulW_of (p60 _ hw1) (p60 _ (by omega)), _, _, rfl, rfl, rfl, false, congrArg V.bl ?_, iteF fin⟩
    show (!decide (V.int (z.2.1 * v.2.2 - v.2.1 * z.2.2) = V.int 1)) = false
    rw [hnb]
    rfl
  rintro σ H4 ⟨s4, y5, y6, rfl⟩
  have et4 := s4 _ _ et
  have ex4 := s4 _ _ (s3 _ _ ex)
  have ey4 := s4 _ _ (s3 _ _ ey)
  refine ⟨fun σ H' => Same H4 H' ∧ σ = [some (.ref la), some (.ref x), some (.ref y), some (.int m), some (.ref t), y5, y6, none, none, none], ?_, ?_⟩
  · refine ⟨_, rfl, _, rfl, x, y, _, _, _, _, rfl, ex4, ey4, by omega, by omega, by omega, by omega, _, rfl, ite2 (fun c => ?_) (fun c => iteF ⟨Same.refl _, rfl⟩)⟩
    have c' : p * q2 < p2 * q' := of_decide_eq_true c
    refine ⟨_, rfl, _, rfl, _, rfl, y, x, p2, q2, p, q', m, rfl, ey4, ex4, hr0, hr1, hq0, hq1, hs0, hs1, hp0, hp1, hm0, hm1, fun zs H5 t2 hzs hin2 _ _ s5 nt2 et2 => ?_⟩
    have hz : zs = [] := by
      cases zs with
      | nil => rfl
      | cons z zs => exact absurd ((hin2 z.2).mp (List.mem_map.mpr ⟨z, List.mem_cons_self, rfl⟩)) (inb_none hr0 hq0 c')
    subst hz
    refine ⟨Nat.zero_le _, fun t3 nt3 => ⟨t2, t3, [], [], rfl, rfl, SqT.of (same_upd nt3 _ _ et2), SqT.of upd_same, false, rfl, iteF ⟨s5.trans (same_upd nt3), rfl⟩⟩⟩
  rintro σ H5 ⟨s5, rfl⟩
  have et5 := s5 _ _ et4
  have ex5 := s5 _ _ ex4
  have ey5 := s5 _ _ ey4
  refine ⟨fun σ H' => Same H5 H' ∧ ∃ (C : List Fr) (y6 y8 y9 : Option V), σ = [some (.ref la), some (.ref x), some (.ref y), some (.int m), some (.ref t), y5, y6, some (.int C.length), y8, y9] ∧ C.Nodup ∧ ∀ f, f ∈ C ↔ Inb p q' p2 q2 m f, ?_, ?_⟩
  · refine ⟨_, rfl, _, _, rfl, rfl, 1, m + 1, rfl, ⟨by decide, by decide, by omega, by omega⟩, for_range (fun i σ H' => Same H5 H' ∧ ∃ (C : List Fr) (y6 y8 y9 : Option V), σ = [some (.ref la), some (.ref x), some (.ref y), some (.int m), some (.ref t), y5, y6, some (.int C.length), y8, y9] ∧ C.Nodup ∧ ∀ f, f ∈ C ↔ Inb p q' p2 q2 m f ∧ f.2 < 1 + (i : Int))
      ⟨Same.refl _, [], y6, none, none, rfl, List.nodup_nil, fun f => ⟨fun z => (by cases z), fun ⟨⟨h, _⟩, h2⟩ => (by omega)⟩⟩ (fun i σ H6 hi hP => ?_) (fun σ H6 hP => ?_)⟩
    · obtain ⟨s6, C, y6, y8, y9, rfl, hnd, hC⟩ := hP
      have hl1 : 1 ≤ 1 + (i : Int) := by omega
      have hlm : 1 + (i : Int) ≤ m := by omega
      have hnx : 1 + ((i + 1 : Nat) : Int) = (1 + (i : Int)) + 1 := by omega
      rw [hnx]
      generalize 1 + (i : Int) = l at *
      refine ⟨_, rfl, _, _, rfl, rfl, .inr (by omega), _, _, rfl, rfl, _, rfl, _, _, rfl, rfl, .inr (by omega), _, _, rfl, rfl, 0 - 12 * l, 12 * l + 1, rfl, ⟨by omega, by omega, by omega, by omega⟩,
        for_range (fun j σ H' => Same H5 H' ∧ ∃ (C : List Fr) (y6 y9 : Option V), σ = [some (.ref la), some (.ref x), some (.ref y), some (.int m), some (.ref t), y5, y6, some (.int C.length), some (.int l), y9] ∧ C.Nodup ∧ ∀ f, f ∈ C ↔ Inb p q' p2 q2 m f ∧ (f.2 < l ∨ (f.2 = l ∧ f.1 < 0 - 12 * l + (j : Int))))
        ⟨s6, C, y6, y9, rfl, hnd, fun f => ?_⟩ (fun j σ H7 hj hP => ?_) (fun σ H7 hP => ?_)⟩
      · rw [hC]
        refine and_congr_right fun h => ⟨.inl, fun h2 => ?_⟩
        rcases h2 with h2 | ⟨h2, h3⟩
        · exact h2
        · have := (inb_bounds h hq0 hr0 hp0 hs1).1
          rw [h2] at this
          omega
      · obtain ⟨s7, C, y6, y9, rfl, hnd, hC⟩ := hP
        have hub : (0 - 12 * l + (j : Int)).natAbs ≤ 108 := by omega
        have hjn : 0 - 12 * l + ((j + 1 : Nat) : Int) = 0 - 12 * l + (j : Int) + 1 := by omega
        rw [hjn]
        generalize 0 - 12 * l + (j : Int) = u at *
        refine ⟨_, rfl, _, rfl, u, l, rfl, by omega, big_of (by omega), big_of (by omega), fun o no => ?_⟩
        have s8 := s7.trans (same_upd no (o := tI [(low u l).1, (low u l).2]))
        have eo : upd H7 o (tI [(low u l).1, (low u l).2]) o = some (tI [(low u l).1, (low u l).2]) := upd_same
        have gl : atI ([(low u l).1, (low u l).2].map V.int) 1 = some (.int (low u l).2) := atI_nat (j := 1) rfl
        have hla := low_abs (u := u) (show l ≠ 0 by omega)
        have hlo := low_is (u := u) (show l ≠ 0 by omega)
        have ex8 := s8 _ _ ex5
        have ey8 := s8 _ _ ey5
        -- if this one is none of them, nothing changes
        have stay : ¬ Inb p q' p2 q2 m (u, l) → ∀ f, f ∈ C ↔ Inb p q' p2 q2 m f ∧ (f.2 < l ∨ (f.2 = l ∧ f.1 < u + 1)) := fun hno f => by
          rw [hC]
          refine and_congr_right fun h => ⟨fun h2 => by omega, fun h2 => ?_⟩
          rcases h2 with h2 | ⟨h2, h3⟩
          · exact .inl h2
          · by_cases hfu : f.1 = u
            · exact absurd (show Inb p q' p2 q2 m (u, l) from hfu ▸ h2 ▸ h) hno
            · exact .inr ⟨h2, by omega⟩
        have skip : ¬ Inb p q' p2 q2 m (u, l) → Same H5 (upd H7 o (tI [(low u l).1, (low u l).2])) ∧ ∃ (C' : List Fr) (y6 y9 : Option V), [some (V.ref la), some (V.ref x), some (V.ref y), some (V.int m), some (V.ref t), y5, some (V.ref o), some (V.int C.length), some (V.int l), some (V.int u)] = [some (V.ref la), some (V.ref x), some (V.ref y), some (V.int m), some (V.ref t), y5, y6, some (V.int C'.length), some (V.int l), y9] ∧ C'.Nodup ∧ ∀ f, f ∈ C' ↔ Inb p q' p2 q2 m f ∧ (f.2 < l ∨ (f.2 = l ∧ f.1 < u + 1)) :=
          fun hno => ⟨s8, C, _, _, rfl, hnd, stay hno⟩
        refine ⟨_, rfl, o, _, 1, _, rfl, rfl, SqT.of eo, gl, _, rfl, rfl, _, rfl, ite2 (fun c => ?_) (fun c => iteF (skip fun hI => c (decide_eq_true ?_)))⟩
        rotate_left
        · obtain ⟨i1, i2, i3, i4, i5⟩ := hI
          have i3 : dv u l = 1 := i3
          rw [low_self (by omega) i3]
        have hlow : low u l = (u, l) := low_eq (by omega) (V.int.inj (of_decide_eq_true c))
        have hone2 : dv u l = 1 := by
          have := hlo.one
          rw [hlow] at this
          exact this
        rw [hlow] at eo
        rw [hlow] at skip ex8 ey8 s8
        rw [hlow]
        refine ⟨_, rfl, _, rfl, o, x, _, _, _, _, rfl, eo, ex8, by show u.natAbs < _; omega, by show l.natAbs < _; omega, by omega, by omega, _, rfl, ?_⟩
        by_cases c1 : u * q' < p * l
        · rw [decide_eq_true c1]
          refine iteF (iteF (skip fun hI => ?_))
          have := hI.2.2.2.1
          exact absurd (show p * l ≤ u * q' from this) (by omega)
        rw [decide_eq_false c1]
        refine iteT ⟨_, rfl, _, rfl, y, o, _, _, _, _, rfl, ey8, eo, by omega, by omega, by show u.natAbs < _; omega, by show l.natAbs < _; omega, _, rfl, ?_⟩
        by_cases c2 : p2 * l < u * q2
        · rw [decide_eq_true c2]
          refine iteF (skip fun hI => ?_)
          have := hI.2.2.2.2
          exact absurd (show u * q2 ≤ p2 * l from this) (by omega)
        rw [decide_eq_false c2]
        have hI : Inb p q' p2 q2 m (u, l) := ⟨hl1, hlm, hone2, by show p * l ≤ u * q'; omega, by show u * q2 ≤ p2 * l; omega⟩
        refine iteT ⟨_, rfl, _, _, rfl, rfl, ?_⟩
        refine ⟨s8, C ++ [(u, l)], some (.ref o), some (.int u), ?_, List.nodup_append.mpr ⟨hnd, by simp, fun a ha b hb e => ?_⟩, fun f => ?_⟩
        · rw [List.length_append]
          rfl
        · rw [List.mem_singleton.mp hb] at e
          subst e
          rcases ((hC _).mp ha).2 with h | ⟨_, h⟩
          · exact absurd (show l < l from h) (by omega)
          · exact absurd (show u < u from h) (by omega)
        · rw [List.mem_append, List.mem_singleton, hC]
          constructor
          · rintro (⟨h1, h2⟩ | rfl)
            · exact ⟨h1, by omega⟩
            · exact ⟨hI, .inr ⟨rfl, by show u < u + 1; omega⟩⟩
          · rintro ⟨h1, h2⟩
            rcases h2 with h2 | ⟨h2, h3⟩
            · exact .inl ⟨h1, .inl h2⟩
            · by_cases hfu : f.1 = u
              · exact .inr (Prod.ext hfu h2)
              · exact .inl ⟨h1, .inr ⟨h2, by omega⟩⟩
      · obtain ⟨s7, C, y6, y9, rfl, hnd, hC⟩ := hP
        refine ⟨s7, C, _, _, _, rfl, hnd, fun f => ?_⟩
        rw [hC]
        refine and_congr_right fun h => ⟨fun h2 => by omega, fun h2 => ?_⟩
        by_cases hfl : f.2 = l
        · refine .inr ⟨hfl, ?_⟩
          have := (inb_bounds h hq0 hr0 hp0 hs1).2
          rw [hfl] at this
          omega
        · exact .inl (by omega)
    · obtain ⟨s6, C, y6, y8, y9, rfl, hnd, hC⟩ := hP
      refine ⟨s6, C, _, _, _, rfl, hnd, fun f => ?_⟩
      rw [hC]
      exact ⟨fun h => h.1, fun h => ⟨h, by have := h.2.1; omega⟩⟩
  rintro σ H6 ⟨s6, C, y6, y8, y9, rfl, hnd, hC⟩
  have hlenC : C.length = ys.length := by
    have h1 : C.Perm (ys.map (·.2)) := (List.perm_ext_iff_of_nodup hnd (flt_nodup hord)).mpr fun f => by rw [hC, hin]
    rw [h1.length_eq, List.length_map]
  refine ⟨_, rfl, _, rfl, t, _, rfl, .inr (SqT.of (s6 _ _ et5)), rfl, ?_⟩
  show Q (V.bl (decide (V.int (C.length : Int) = V.int ((refs ys).length : Int)))) H6
  have : V.bl (decide (V.int (C.length : Int) = V.int ((refs ys).length : Int))) = V.bl true := congrArg V.bl (decide_eq_true (by rw [hlenC]; unfold refs; rw [List.length_map]))
  rw [this]
  exact q H6
end
/-! ### what the top has written -/
theorem all_mk {l : PySem.W.OpenLaw} {w : World} {K : PySem.W.Frag} {h : Heap} {mg : Str → Option Value} {fa : Addr} (X : K.In h) (G : h.Ns mainGlobals mg) (hfa : mg "law" = some (.ref fa))
    {f0 : Addr} {od0 an0 : Option Addr} {sl0 : Array (Option Value)} {oc0 kV0 dc0 pm0 cd0 ct0 : Value}
    {f1 : Addr} {od1 an1 : Option Addr} {sl1 : Array (Option Value)} {oc1 kV1 dc1 pm1 cd1 ct1 : Value}
    {f2 : Addr} {od2 an2 : Option Addr} {sl2 : Array (Option Value)} {oc2 kV2 dc2 pm2 cd2 ct2 : Value}
    {f3 : Addr} {od3 an3 : Option Addr} {sl3 : Array (Option Value)} {oc3 kV3 dc3 pm3 cd3 ct3 : Value}
    {f4 : Addr} {od4 an4 : Option Addr} {sl4 : Array (Option Value)} {oc4 kV4 dc4 pm4 cd4 ct4 : Value}
    {f5 : Addr} {od5 an5 : Option Addr} {sl5 : Array (Option Value)} {oc5 kV5 dc5 pm5 cd5 ct5 : Value}
    {f6 : Addr} {od6 an6 : Option Addr} {sl6 : Array (Option Value)} {oc6 kV6 dc6 pm6 cd6 ct6 : Value}
    {f7 : Addr} {od7 an7 : Option Addr} {sl7 : Array (Option Value)} {oc7 kV7 dc7 pm7 cd7 ct7 : Value}
    {f8 : Addr} {od8 an8 : Option Addr} {sl8 : Array (Option Value)} {oc8 kV8 dc8 pm8 cd8 ct8 : Value}
    {f9 : Addr} {od9 an9 : Option Addr} {sl9 : Array (Option Value)} {oc9 kV9 dc9 pm9 cd9 ct9 : Value}
    {f10 : Addr} {od10 an10 : Option Addr} {sl10 : Array (Option Value)} {oc10 kV10 dc10 pm10 cd10 ct10 : Value}
    {f11 : Addr} {od11 an11 : Option Addr} {sl11 : Array (Option Value)} {oc11 kV11 dc11 pm11 cd11 ct11 : Value}
    {f12 : Addr} {od12 an12 : Option Addr} {sl12 : Array (Option Value)} {oc12 kV12 dc12 pm12 cd12 ct12 : Value}
    {f13 : Addr} {od13 an13 : Option Addr} {sl13 : Array (Option Value)} {oc13 kV13 dc13 pm13 cd13 ct13 : Value}
    {f14 : Addr} {od14 an14 : Option Addr} {sl14 : Array (Option Value)} {oc14 kV14 dc14 pm14 cd14 ct14 : Value}
    {f15 : Addr} {od15 an15 : Option Addr} {sl15 : Array (Option Value)} {oc15 kV15 dc15 pm15 cd15 ct15 : Value}
    {f16 : Addr} {od16 an16 : Option Addr} {sl16 : Array (Option Value)} {oc16 kV16 dc16 pm16 cd16 ct16 : Value}
    {f17 : Addr} {od17 an17 : Option Addr} {sl17 : Array (Option Value)} {oc17 kV17 dc17 pm17 cd17 ct17 : Value}
    {f18 : Addr} {od18 an18 : Option Addr} {sl18 : Array (Option Value)} {oc18 kV18 dc18 pm18 cd18 ct18 : Value}
    {f19 : Addr} {od19 an19 : Option Addr} {sl19 : Array (Option Value)} {oc19 kV19 dc19 pm19 cd19 ct19 : Value}
    {f20 : Addr} {od20 an20 : Option Addr} {sl20 : Array (Option Value)} {oc20 kV20 dc20 pm20 cd20 ct20 : Value}
    {f21 : Addr} {od21 an21 : Option Addr} {sl21 : Array (Option Value)} {oc21 kV21 dc21 pm21 cd21 ct21 : Value}
    {f22 : Addr} {od22 an22 : Option Addr} {sl22 : Array (Option Value)} {oc22 kV22 dc22 pm22 cd22 ct22 : Value}
    {C R : Addr}
    (a0 : PySem.W.nsIn K mainGlobals "divisor" = some (some (.ref f0)))
    (l0 : K.lookup f0 = some ⟨oc0, od0, .func (PySem.W.fnOf "divisor" "divisor" (defArgs s_divisor) (defBody s_divisor) (defScope s_divisor) .none kV0 dc0 pm0 an0 cd0 ct0), sl0⟩)
    (c0 : PySem.W.codeIn K cd0 "divisor" = true)
    (k0 : PySem.W.keepIn K (.ref f0) = true)
    (a1 : PySem.W.nsIn K mainGlobals "lowest" = some (some (.ref f1)))
    (l1 : K.lookup f1 = some ⟨oc1, od1, .func (PySem.W.fnOf "lowest" "lowest" (defArgs s_lowest) (defBody s_lowest) (defScope s_lowest) .none kV1 dc1 pm1 an1 cd1 ct1), sl1⟩)
    (c1 : PySem.W.codeIn K cd1 "lowest" = true)
    (k1 : PySem.W.keepIn K (.ref f1) = true)
    (a2 : PySem.W.nsIn K mainGlobals "least_square" = some (some (.ref f2)))
    (l2 : K.lookup f2 = some ⟨oc2, od2, .func (PySem.W.fnOf "least_square" "least_square" (defArgs s_least_square) (defBody s_least_square) (defScope s_least_square) .none kV2 dc2 pm2 an2 cd2 ct2), sl2⟩)
    (c2 : PySem.W.codeIn K cd2 "least_square" = true)
    (k2 : PySem.W.keepIn K (.ref f2) = true)
    (a3 : PySem.W.nsIn K mainGlobals "heart" = some (some (.ref f3)))
    (l3 : K.lookup f3 = some ⟨oc3, od3, .func (PySem.W.fnOf "heart" "heart" (defArgs s_heart) (defBody s_heart) (defScope s_heart) .none kV3 dc3 pm3 an3 cd3 ct3), sl3⟩)
    (c3 : PySem.W.codeIn K cd3 "heart" = true)
    (k3 : PySem.W.keepIn K (.ref f3) = true)
    (a4 : PySem.W.nsIn K mainGlobals "is_square" = some (some (.ref f4)))
    (l4 : K.lookup f4 = some ⟨oc4, od4, .func (PySem.W.fnOf "is_square" "is_square" (defArgs s_is_square) (defBody s_is_square) (defScope s_is_square) .none kV4 dc4 pm4 an4 cd4 ct4), sl4⟩)
    (c4 : PySem.W.codeIn K cd4 "is_square" = true)
    (k4 : PySem.W.keepIn K (.ref f4) = true)
    (a5 : PySem.W.nsIn K mainGlobals "root_of" = some (some (.ref f5)))
    (l5 : K.lookup f5 = some ⟨oc5, od5, .func (PySem.W.fnOf "root_of" "root_of" (defArgs s_root_of) (defBody s_root_of) (defScope s_root_of) .none kV5 dc5 pm5 an5 cd5 ct5), sl5⟩)
    (c5 : PySem.W.codeIn K cd5 "root_of" = true)
    (k5 : PySem.W.keepIn K (.ref f5) = true)
    (a6 : PySem.W.nsIn K mainGlobals "is_above" = some (some (.ref f6)))
    (l6 : K.lookup f6 = some ⟨oc6, od6, .func (PySem.W.fnOf "is_above" "is_above" (defArgs s_is_above) (defBody s_is_above) (defScope s_is_above) .none kV6 dc6 pm6 an6 cd6 ct6), sl6⟩)
    (c6 : PySem.W.codeIn K cd6 "is_above" = true)
    (k6 : PySem.W.keepIn K (.ref f6) = true)
    (a7 : PySem.W.nsIn K mainGlobals "part_of" = some (some (.ref f7)))
    (l7 : K.lookup f7 = some ⟨oc7, od7, .func (PySem.W.fnOf "part_of" "part_of" (defArgs s_part_of) (defBody s_part_of) (defScope s_part_of) .none kV7 dc7 pm7 an7 cd7 ct7), sl7⟩)
    (c7 : PySem.W.codeIn K cd7 "part_of" = true)
    (k7 : PySem.W.keepIn K (.ref f7) = true)
    (a8 : PySem.W.nsIn K mainGlobals "moved" = some (some (.ref f8)))
    (l8 : K.lookup f8 = some ⟨oc8, od8, .func (PySem.W.fnOf "moved" "moved" (defArgs s_moved) (defBody s_moved) (defScope s_moved) .none kV8 dc8 pm8 an8 cd8 ct8), sl8⟩)
    (c8 : PySem.W.codeIn K cd8 "moved" = true)
    (k8 : PySem.W.keepIn K (.ref f8) = true)
    (a9 : PySem.W.nsIn K mainGlobals "turned" = some (some (.ref f9)))
    (l9 : K.lookup f9 = some ⟨oc9, od9, .func (PySem.W.fnOf "turned" "turned" (defArgs s_turned) (defBody s_turned) (defScope s_turned) .none kV9 dc9 pm9 an9 cd9 ct9), sl9⟩)
    (c9 : PySem.W.codeIn K cd9 "turned" = true)
    (k9 : PySem.W.keepIn K (.ref f9) = true)
    (a10 : PySem.W.nsIn K mainGlobals "by_fraction" = some (some (.ref f10)))
    (l10 : K.lookup f10 = some ⟨oc10, od10, .func (PySem.W.fnOf "by_fraction" "by_fraction" (defArgs s_by_fraction) (defBody s_by_fraction) (defScope s_by_fraction) .none kV10 dc10 pm10 an10 cd10 ct10), sl10⟩)
    (c10 : PySem.W.codeIn K cd10 "by_fraction" = true)
    (k10 : PySem.W.keepIn K (.ref f10) = true)
    (a11 : PySem.W.nsIn K mainGlobals "by_rows" = some (some (.ref f11)))
    (l11 : K.lookup f11 = some ⟨oc11, od11, .func (PySem.W.fnOf "by_rows" "by_rows" (defArgs s_by_rows) (defBody s_by_rows) (defScope s_by_rows) .none kV11 dc11 pm11 an11 cd11 ct11), sl11⟩)
    (c11 : PySem.W.codeIn K cd11 "by_rows" = true)
    (k11 : PySem.W.keepIn K (.ref f11) = true)
    (a12 : PySem.W.nsIn K mainGlobals "compare" = some (some (.ref f12)))
    (l12 : K.lookup f12 = some ⟨oc12, od12, .func (PySem.W.fnOf "compare" "compare" (defArgs s_compare) (defBody s_compare) (defScope s_compare) .none kV12 dc12 pm12 an12 cd12 ct12), sl12⟩)
    (c12 : PySem.W.codeIn K cd12 "compare" = true)
    (k12 : PySem.W.keepIn K (.ref f12) = true)
    (a13 : PySem.W.nsIn K mainGlobals "between" = some (some (.ref f13)))
    (l13 : K.lookup f13 = some ⟨oc13, od13, .func (PySem.W.fnOf "between" "between" (defArgs s_between) (defBody s_between) (defScope s_between) .none kV13 dc13 pm13 an13 cd13 ct13), sl13⟩)
    (c13 : PySem.W.codeIn K cd13 "between" = true)
    (k13 : PySem.W.keepIn K (.ref f13) = true)
    (a14 : PySem.W.nsIn K mainGlobals "ordered" = some (some (.ref f14)))
    (l14 : K.lookup f14 = some ⟨oc14, od14, .func (PySem.W.fnOf "ordered" "ordered" (defArgs s_ordered) (defBody s_ordered) (defScope s_ordered) .none kV14 dc14 pm14 an14 cd14 ct14), sl14⟩)
    (c14 : PySem.W.codeIn K cd14 "ordered" = true)
    (k14 : PySem.W.keepIn K (.ref f14) = true)
    (a15 : PySem.W.nsIn K mainGlobals "_law_cell" = some (some (.ref f15)))
    (l15 : K.lookup f15 = some ⟨oc15, od15, .func (PySem.W.fnOf "_law_cell" "_law_cell" (defArgs s__law_cell) (defBody s__law_cell) (defScope s__law_cell) .none kV15 dc15 pm15 an15 cd15 ct15), sl15⟩)
    (c15 : PySem.W.codeIn K cd15 "_law_cell" = true)
    (k15 : PySem.W.keepIn K (.ref f15) = true)
    (a16 : PySem.W.nsIn K mainGlobals "_law_mix" = some (some (.ref f16)))
    (l16 : K.lookup f16 = some ⟨oc16, od16, .func (PySem.W.fnOf "_law_mix" "_law_mix" (defArgs s__law_mix) (defBody s__law_mix) (defScope s__law_mix) .none kV16 dc16 pm16 an16 cd16 ct16), sl16⟩)
    (c16 : PySem.W.codeIn K cd16 "_law_mix" = true)
    (k16 : PySem.W.keepIn K (.ref f16) = true)
    (a17 : PySem.W.nsIn K mainGlobals "_law_whole" = some (some (.ref f17)))
    (l17 : K.lookup f17 = some ⟨oc17, od17, .func (PySem.W.fnOf "_law_whole" "_law_whole" (defArgs s__law_whole) (defBody s__law_whole) (defScope s__law_whole) .none kV17 dc17 pm17 an17 cd17 ct17), sl17⟩)
    (c17 : PySem.W.codeIn K cd17 "_law_whole" = true)
    (k17 : PySem.W.keepIn K (.ref f17) = true)
    (a18 : PySem.W.nsIn K mainGlobals "_law_divisor" = some (some (.ref f18)))
    (l18 : K.lookup f18 = some ⟨oc18, od18, .func (PySem.W.fnOf "_law_divisor" "_law_divisor" (defArgs s__law_divisor) (defBody s__law_divisor) (defScope s__law_divisor) .none kV18 dc18 pm18 an18 cd18 ct18), sl18⟩)
    (c18 : PySem.W.codeIn K cd18 "_law_divisor" = true)
    (k18 : PySem.W.keepIn K (.ref f18) = true)
    (a19 : PySem.W.nsIn K mainGlobals "_law_lowest" = some (some (.ref f19)))
    (l19 : K.lookup f19 = some ⟨oc19, od19, .func (PySem.W.fnOf "_law_lowest" "_law_lowest" (defArgs s__law_lowest) (defBody s__law_lowest) (defScope s__law_lowest) .none kV19 dc19 pm19 an19 cd19 ct19), sl19⟩)
    (c19 : PySem.W.codeIn K cd19 "_law_lowest" = true)
    (k19 : PySem.W.keepIn K (.ref f19) = true)
    (a20 : PySem.W.nsIn K mainGlobals "_law_fraction" = some (some (.ref f20)))
    (l20 : K.lookup f20 = some ⟨oc20, od20, .func (PySem.W.fnOf "_law_fraction" "_law_fraction" (defArgs s__law_fraction) (defBody s__law_fraction) (defScope s__law_fraction) .none kV20 dc20 pm20 an20 cd20 ct20), sl20⟩)
    (c20 : PySem.W.codeIn K cd20 "_law_fraction" = true)
    (k20 : PySem.W.keepIn K (.ref f20) = true)
    (a21 : PySem.W.nsIn K mainGlobals "_law_less" = some (some (.ref f21)))
    (l21 : K.lookup f21 = some ⟨oc21, od21, .func (PySem.W.fnOf "_law_less" "_law_less" (defArgs s__law_less) (defBody s__law_less) (defScope s__law_less) .none kV21 dc21 pm21 an21 cd21 ct21), sl21⟩)
    (c21 : PySem.W.codeIn K cd21 "_law_less" = true)
    (k21 : PySem.W.keepIn K (.ref f21) = true)
    (a22 : PySem.W.nsIn K mainGlobals "law" = some (some (.ref f22)))
    (l22 : K.lookup f22 = some ⟨oc22, od22, .func (PySem.W.fnOf "law" "law" (defArgs s_law) (defBody s_law) (defScope s_law) .none kV22 dc22 pm22 an22 cd22 ct22), sl22⟩)
    (c22 : PySem.W.codeIn K cd22 "law" = true)
    (k22 : PySem.W.keepIn K (.ref f22) = true)
    (z_len : PySem.W.nsIn K mainGlobals "len" = some none)
    (z_all : PySem.W.nsIn K mainGlobals "all" = some none)
    (z_reversed : PySem.W.nsIn K mainGlobals "reversed" = some none)
    (z_tuple : PySem.W.nsIn K mainGlobals "tuple" = some none)
    (z_abs : PySem.W.nsIn K mainGlobals "abs" = some none)
    (z_range : PySem.W.nsIn K mainGlobals "range" = some none)
    (z_isinstance : PySem.W.nsIn K mainGlobals "isinstance" = some none)
    (z_int : PySem.W.nsIn K mainGlobals "int" = some none)
    (z_bool : PySem.W.nsIn K mainGlobals "bool" = some none)
    (z_ValueError : PySem.W.nsIn K mainGlobals "ValueError" = some none)
    (z_list : PySem.W.nsIn K mainGlobals "list" = some none)
    (z_sum : PySem.W.nsIn K mainGlobals "sum" = some none)
    (z_min : PySem.W.nsIn K mainGlobals "min" = some none)
    (z_enumerate : PySem.W.nsIn K mainGlobals "enumerate" = some none)
    (gC : PySem.W.nsIn K mainGlobals "NoNumber" = some (some (.ref C)))
    (gR : PySem.W.nsIn K mainGlobals "RowError" = some (some (.ref R)))
    (xC : PySem.W.excIn K C [.type "ValueError", .type "Exception", .type "BaseException", .type "object"] "ValueError.__new__" = true)
    (kC : PySem.W.keepIn K (.ref C) = true)
    (bC : PySem.W.subIn K (.ref C) (.type "BaseException") = some true)
    (tC : PySem.W.typeIn K (.ref C) = some (.type "type"))
    (bR : PySem.W.subIn K (.ref R) (.type "BaseException") = some true)
    (dR : PySem.W.hasDictIn K R = true)
    (tR : PySem.W.typeIn K (.ref R) = some (.type "type"))
    (sR : PySem.W.subIn K (.ref C) (.ref R) = some true)
    (e1 : PySem.W.findIn K (.ref C) "__getattribute__" = some (some (.builtin "BaseException.__getattribute__")))
    (e2 : PySem.W.findIn K (.ref C) "__getattr__" = some none)
    (e4 : PySem.W.hasDictIn K C = true)
    (e5 : PySem.W.findIn K (.ref C) "__class__" = some (some (.builtin "object.__class__")))
    (e6 : PySem.W.specialIn K (.builtin "object.__class__") "__get__" = some (some (.builtin "getset_descriptor.__get__")))
    (e7 : PySem.W.takesIn K (.builtin "object.__class__") = some true)
    (e8 : PySem.W.mroIn K C (.type "object") = some true)
    (iV : PySem.W.subIn K (.ref C) (.type "ValueError") = some true) :
    ∃ fd : FuncData, (∀ (s : Shared) (v : Value), BindsTo s fd ⟨[v], []⟩ [("_law_script", v)]) ∧ ∀ base : Heap, K.In base → base.Ns mainGlobals mg → FnOk l.prog w K mg base CX0 40 fa fd ["_law_script"] (sp_law K) := by
  have e := hfa.symm.trans (PySem.W.mg_of X G a22)
  cases e
  have D_divisor : Df K mg "divisor" p_divisor s_divisor := df_mk X G a0 l0 c0 k0 fun _ _ _ _ _ _ us hl => match us, hl with | [_, _], _ => rfl
  have D_lowest : Df K mg "lowest" p_lowest s_lowest := df_mk X G a1 l1 c1 k1 fun _ _ _ _ _ _ us hl => match us, hl with | [_, _], _ => rfl
  have D_least_square : Df K mg "least_square" p_least_square s_least_square := df_mk X G a2 l2 c2 k2 fun _ _ _ _ _ _ us hl => match us, hl with | [_], _ => rfl
  have D_heart : Df K mg "heart" p_heart s_heart := df_mk X G a3 l3 c3 k3 fun _ _ _ _ _ _ us hl => match us, hl with | [_, _, _], _ => rfl
  have D_is_square : Df K mg "is_square" p_is_square s_is_square := df_mk X G a4 l4 c4 k4 fun _ _ _ _ _ _ us hl => match us, hl with | [_], _ => rfl
  have D_root_of : Df K mg "root_of" p_root_of s_root_of := df_mk X G a5 l5 c5 k5 fun _ _ _ _ _ _ us hl => match us, hl with | [_, _, _, _], _ => rfl
  have D_is_above : Df K mg "is_above" p_is_above s_is_above := df_mk X G a6 l6 c6 k6 fun _ _ _ _ _ _ us hl => match us, hl with | [_, _, _], _ => rfl
  have D_part_of : Df K mg "part_of" p_part_of s_part_of := df_mk X G a7 l7 c7 k7 fun _ _ _ _ _ _ us hl => match us, hl with | [_], _ => rfl
  have D_moved : Df K mg "moved" p_moved s_moved := df_mk X G a8 l8 c8 k8 fun _ _ _ _ _ _ us hl => match us, hl with | [_, _], _ => rfl
  have D_turned : Df K mg "turned" p_turned s_turned := df_mk X G a9 l9 c9 k9 fun _ _ _ _ _ _ us hl => match us, hl with | [_, _], _ => rfl
  have D_by_fraction : Df K mg "by_fraction" p_by_fraction s_by_fraction := df_mk X G a10 l10 c10 k10 fun _ _ _ _ _ _ us hl => match us, hl with | [_, _], _ => rfl
  have D_by_rows : Df K mg "by_rows" p_by_rows s_by_rows := df_mk X G a11 l11 c11 k11 fun _ _ _ _ _ _ us hl => match us, hl with | [_, _], _ => rfl
  have D_compare : Df K mg "compare" p_compare s_compare := df_mk X G a12 l12 c12 k12 fun _ _ _ _ _ _ us hl => match us, hl with | [_, _], _ => rfl
  have D_between : Df K mg "between" p_between s_between := df_mk X G a13 l13 c13 k13 fun _ _ _ _ _ _ us hl => match us, hl with | [_, _, _], _ => rfl
  have D_ordered : Df K mg "ordered" p_ordered s_ordered := df_mk X G a14 l14 c14 k14 fun _ _ _ _ _ _ us hl => match us, hl with | [_], _ => rfl
  have D__law_cell : Df K mg "_law_cell" p__law_cell s__law_cell := df_mk X G a15 l15 c15 k15 fun _ _ _ _ _ _ us hl => match us, hl with | [_, _], _ => rfl
  have D__law_mix : Df K mg "_law_mix" p__law_mix s__law_mix := df_mk X G a16 l16 c16 k16 fun _ _ _ _ _ _ us hl => match us, hl with | [_, _, _], _ => rfl
  have D__law_whole : Df K mg "_law_whole" p__law_whole s__law_whole := df_mk X G a17 l17 c17 k17 fun _ _ _ _ _ _ us hl => match us, hl with | [_], _ => rfl
  have D__law_divisor : Df K mg "_law_divisor" p__law_divisor s__law_divisor := df_mk X G a18 l18 c18 k18 fun _ _ _ _ _ _ us hl => match us, hl with | [_, _], _ => rfl
  have D__law_lowest : Df K mg "_law_lowest" p__law_lowest s__law_lowest := df_mk X G a19 l19 c19 k19 fun _ _ _ _ _ _ us hl => match us, hl with | [_, _], _ => rfl
  have D__law_fraction : Df K mg "_law_fraction" p__law_fraction s__law_fraction := df_mk X G a20 l20 c20 k20 fun _ _ _ _ _ _ us hl => match us, hl with | [_, _, _], _ => rfl
  have D__law_less : Df K mg "_law_less" p__law_less s__law_less := df_mk X G a21 l21 c21 k21 fun _ _ _ _ _ _ us hl => match us, hl with | [_, _], _ => rfl
  have B : Bl mg := ⟨PySem.W.mg_none_of X G z_len, PySem.W.mg_none_of X G z_all, PySem.W.mg_none_of X G z_reversed, PySem.W.mg_none_of X G z_tuple, PySem.W.mg_none_of X G z_abs, PySem.W.mg_none_of X G z_range, PySem.W.mg_none_of X G z_isinstance, PySem.W.mg_none_of X G z_int, PySem.W.mg_none_of X G z_bool, PySem.W.mg_none_of X G z_ValueError, PySem.W.mg_none_of X G z_list, PySem.W.mg_none_of X G z_sum, PySem.W.mg_none_of X G z_min, PySem.W.mg_none_of X G z_enumerate⟩
  have N : NoN K mg C R := ⟨PySem.W.mg_of X G gC, PySem.W.mg_of X G gR, xC, kC, bC, tC, bR, dR, tR, sR, ⟨e1, e2, bC, e4, e5, e6, e7, e8⟩, kit_vt (by decide +kernel) iV, PySem.W.mg_none_of X G z_ValueError, PySem.W.mg_none_of X G z_isinstance⟩
  have F := fun_mk (st := s_law) l22 c22 k22
  refine ⟨PySem.W.fnOf "law" "law" (defArgs s_law) (defBody s_law) (defScope s_law) .none kV22 dc22 pm22 an22 cd22 ct22, fun s v => .of_eq rfl, fun base _ _ => ?_⟩
  have Cd0 := ok_divisor (P := l.prog) (w := w) (base := base) D_divisor B
  have Clw := ok_lowest D_lowest N Cd0
  have Cls := ok_least_square (P := l.prog) (w := w) (base := base) D_least_square
  have Ch := ok_heart (P := l.prog) (w := w) (base := base) D_heart
  have Cs0 := ok_is_square D_is_square Cls
  have Cro := ok_root_of D_root_of N Ch Cs0 Cd0
  have Cia := ok_is_above (P := l.prog) (w := w) (base := base) D_is_above
  have Cp := ok_part_of D_part_of B Ch Cls
  have Cmo := ok_moved (P := l.prog) (w := w) (base := base) D_moved
  have Ct := ok_turned D_turned Cmo Cro
  have Cbf := ok_by_fraction D_by_fraction Cia
  have Cbr := ok_by_rows D_by_rows Cp Ct
  have Co := ok_compare D_compare B Cbr Cbf
  have Cor := ok_ordered D_ordered B Co
  have Cbt := ok_between D_between B Clw (Cor 11)
  have Cc := ok__law_cell (P := l.prog) (w := w) (base := base) D__law_cell B
  have Cm := ok__law_mix (P := l.prog) (w := w) (base := base) D__law_mix
  have Cw := ok__law_whole (P := l.prog) (w := w) (base := base) D__law_whole B
  have Cd := ok__law_divisor (P := l.prog) (w := w) (base := base) D__law_divisor B
  have Cl := ok__law_lowest D__law_lowest Cd
  have Cf := ok__law_fraction D__law_fraction Cm Cl
  have Cle := ok_less (P := l.prog) (w := w) (base := base) D__law_less
  exact ok_law F B Cc Cf Cw Cl Cle Cbt
end RR
open PySem PySem.W PyProof.Rows
set_option maxHeartbeats 0 in
theorem PySem.Challenge.cw_rootrow_k09_whole_neighbours_holds : PySem.Challenge.rw_rootrow_k09_whole_neighbours.Holds := by
  w_on; o_law; k_head; (case hw => w_witness2)
  k_fill
  refine L2.walk_of (l := PySem.Challenge.rw_rootrow_k09_whole_neighbours) (n := 63) (k := 40) (x := "_law_script") (CX := fun _ => L2.CX0) (sp := fun w => RR.sp_law _) rfl (by decide) rfl ⟨rfl, by decide, by decide⟩ (fun w h Y => PySem.W.kIn_of Y) ?F (fun _ _ a ns hl _ hS => ⟨a, ns, rfl, hS, hl, fun _ => rfl⟩) (fun _ _ _ _ _ h => h)
  case F =>
    intro w mg fa h KX G hmg
    refine' RR.all_mk KX G hmg ?a0 ?l0 ?c0 ?k0 ?a1 ?l1 ?c1 ?k1 ?a2 ?l2 ?c2 ?k2 ?a3 ?l3 ?c3 ?k3 ?a4 ?l4 ?c4 ?k4 ?a5 ?l5 ?c5 ?k5 ?a6 ?l6 ?c6 ?k6 ?a7 ?l7 ?c7 ?k7 ?a8 ?l8 ?c8 ?k8 ?a9 ?l9 ?c9 ?k9 ?a10 ?l10 ?c10 ?k10 ?a11 ?l11 ?c11 ?k11 ?a12 ?l12 ?c12 ?k12 ?a13 ?l13 ?c13 ?k13 ?a14 ?l14 ?c14 ?k14 ?a15 ?l15 ?c15 ?k15 ?a16 ?l16 ?c16 ?k16 ?a17 ?l17 ?c17 ?k17 ?a18 ?l18 ?c18 ?k18 ?a19 ?l19 ?c19 ?k19 ?a20 ?l20 ?c20 ?k20 ?a21 ?l21 ?c21 ?k21 ?a22 ?l22 ?c22 ?k22 ?z_len ?z_all ?z_reversed ?z_tuple ?z_abs ?z_range ?z_isinstance ?z_int ?z_bool ?z_ValueError ?z_list ?z_sum ?z_min ?z_enumerate ?gC ?gR ?xC ?kC ?bC ?tC ?bR ?dR ?tR ?sR ?e1 ?e2 ?e4 ?e5 ?e6 ?e7 ?e8 ?iV
    (case a0 => k_is)
    (case l0 => k_is)
    (case c0 => k_is)
    (case k0 => k_is)
    (case a1 => k_is)
    (case l1 => k_is)
    (case c1 => k_is)
    (case k1 => k_is)
    (case a2 => k_is)
    (case l2 => k_is)
    (case c2 => k_is)
    (case k2 => k_is)
    (case a3 => k_is)
    (case l3 => k_is)
    (case c3 => k_is)
    (case k3 => k_is)
    (case a4 => k_is)
    (case l4 => k_is)
    (case c4 => k_is)
    (case k4 => k_is)
    (case a5 => k_is)
    (case l5 => k_is)
    (case c5 => k_is)
    (case k5 => k_is)
    (case a6 => k_is)
    (case l6 => k_is)
    (case c6 => k_is)
    (case k6 => k_is)
    (case a7 => k_is)
    (case l7 => k_is)
    (case c7 => k_is)
    (case k7 => k_is)
    (case a8 => k_is)
    (case l8 => k_is)
    (case c8 => k_is)
    (case k8 => k_is)
    (case a9 => k_is)
    (case l9 => k_is)
    (case c9 => k_is)
    (case k9 => k_is)
    (case a10 => k_is)
    (case l10 => k_is)
    (case c10 => k_is)
    (case k10 => k_is)
    (case a11 => k_is)
    (case l11 => k_is)
    (case c11 => k_is)
    (case k11 => k_is)
    (case a12 => k_is)
    (case l12 => k_is)
    (case c12 => k_is)
    (case k12 => k_is)
    (case a13 => k_is)
    (case l13 => k_is)
    (case c13 => k_is)
    (case k13 => k_is)
    (case a14 => k_is)
    (case l14 => k_is)
    (case c14 => k_is)
    (case k14 => k_is)
    (case a15 => k_is)
    (case l15 => k_is)
    (case c15 => k_is)
    (case k15 => k_is)
    (case a16 => k_is)
    (case l16 => k_is)
    (case c16 => k_is)
    (case k16 => k_is)
    (case a17 => k_is)
    (case l17 => k_is)
    (case c17 => k_is)
    (case k17 => k_is)
    (case a18 => k_is)
    (case l18 => k_is)
    (case c18 => k_is)
    (case k18 => k_is)
    (case a19 => k_is)
    (case l19 => k_is)
    (case c19 => k_is)
    (case k19 => k_is)
    (case a20 => k_is)
    (case l20 => k_is)
    (case c20 => k_is)
    (case k20 => k_is)
    (case a21 => k_is)
    (case l21 => k_is)
    (case c21 => k_is)
    (case k21 => k_is)
    (case a22 => k_is)
    (case l22 => k_is)
    (case c22 => k_is)
    (case k22 => k_is)
    (case z_len => k_is)
    (case z_all => k_is)
    (case z_reversed => k_is)
    (case z_tuple => k_is)
    (case z_abs => k_is)
    (case z_range => k_is)
    (case z_isinstance => k_is)
    (case z_int => k_is)
    (case z_bool => k_is)
    (case z_ValueError => k_is)
    (case z_list => k_is)
    (case z_sum => k_is)
    (case z_min => k_is)
    (case z_enumerate => k_is)
    (case gC => k_is)
    (case gR => k_is)
    (case xC => first | k_exc | k_is)
    (case kC => k_is)
    (case bC => k_is)
    (case tC => k_is)
    (case bR => k_is)
    (case dR => k_is)
    (case tR => k_is)
    (case sR => k_is)
    (case e1 => k_is)
    (case e2 => k_is)
    (case e4 => k_is)
    (case e5 => k_is)
    (case e6 => k_is)
    (case e7 => k_is)
    (case e8 => k_is)
    (case iV => k_is)
