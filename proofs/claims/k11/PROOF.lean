import PyProof.Rows.All
import Wide.All
import OpenK.AllK
import Wide.FinOn
import HandS.ForMost
import HandS.ForExc
import HandS.Wide
import HandS.Rev
import HandS.IsInst
import HandS.ExcIs
import HandS.TupAny
import HandS.More
import HandS.Style
import PySem.Challenge.RW_rootrow_k11_whole_rows_go_round
set_option Elab.async false
set_option linter.all false
set_option maxRecDepth 100000
set_option maxHeartbeats 4000000
/-! RRK: what all laws share: a callee by name, a def by name, loops and comprehensions in short. -/
namespace RR
open PySem PySem.Spec PyProof.Rows L2

/-! ### defs by name -/
/-- a def that stands at the top, by its name -/
structure Df (K : PySem.W.Frag) (mg : Str → Option Value) (x : Str) (ps : List Str) (st : Stmt) : Prop where
  ex : ∃ f fd, Fun K x x st f fd ∧ Binds K fd ps [] ∧ mg x = some (.ref f)
/-- a callee by its name: it keeps its promise -/
structure Cal (P : Program) (w : World) (K : PySem.W.Frag) (mg : Str → Option Value) (base : Heap) (CX : CXT) (k : Nat) (x : Str) (ps : List Str) (sp : Sp) : Prop where
  ex : ∃ f fd, FnOk P w K mg base CX k f fd ps sp ∧ PySem.W.keepIn K (.ref f) = true ∧ Binds K fd ps [] ∧ mg x = some (.ref f)
theorem Df.cal {P : Program} {w : World} {K : PySem.W.Frag} {mg : Str → Option Value} {base : Heap} {CX : CXT} {k : Nat} {x : Str} {ps : List Str} {st : Stmt} {sp : Sp} (D : Df K mg x ps st)
    (h : ∀ f fd, Fun K x x st f fd → FnOk P w K mg base CX k f fd ps sp) : Cal P w K mg base CX k x ps sp := by
  obtain ⟨f, fd, F, b, g⟩ := D.ex
  exact ⟨f, fd, h f fd F, F.kp, b, g⟩
theorem pe_cal {X : Cx} {CX : CXT} {k k' : Nat} {x : Str} {ps : List Str} {sp : Sp} {E : XK} {e : Expr} {es : List Expr} {t : TA} {p pos : Pos} (C : Cal X.prog X.w X.K X.mg X.base CX k x ps sp) (hr : Room k' X.A) (hk : k ≤ k') (hg : Gl X x) (hx : Passes CX X E)
    (ha : PA X (e :: es) t) (hdb : (x == ("__debug__" : Str)) = false := by decide) (he : starEach (e :: es) X.env = (false, eval e X.env) :: starEach es X.env := by rfl) (hpl : (backTo pos (starEach es X.env)).any (·.1) = false := by rfl) :
    PE X (.Call (.Name x p) (e :: es) [] pos) (tCall sp [] E t) := by
  obtain ⟨f, fd, F, kp, b, g⟩ := C.ex
  exact pe_call F (hr.mono hk) hg g kp b .nil hx ha hdb he hpl
theorem pe_calS {X : Cx} {CX : CXT} {k k' : Nat} {x : Str} {ps : List Str} {sp : Sp} {E : L2.St → XK} {e : Expr} {es : List Expr} {t : TA} {p pos : Pos} (C : Cal X.prog X.w X.K X.mg X.base CX k x ps sp) (hr : Room k' X.A) (hk : k ≤ k') (hg : Gl X x) (hx : ∀ σ, PassesAt CX X σ (E σ))
    (ha : PA X (e :: es) t) (hdb : (x == ("__debug__" : Str)) = false := by decide) (he : starEach (e :: es) X.env = (false, eval e X.env) :: starEach es X.env := by rfl) (hpl : (backTo pos (starEach es X.env)).any (·.1) = false := by rfl) :
    PE X (.Call (.Name x p) (e :: es) [] pos) (tCallS sp E t) := by
  obtain ⟨f, fd, F, kp, b, g⟩ := C.ex
  exact pe_callS F (hr.mono hk) hg g kp b hx ha hdb he hpl

theorem df_mk {K : PySem.W.Frag} {h : Heap} {mg : Str → Option Value} {x : Str} {ps : List Str} {st : Stmt} {f : Addr} {oc : Value} {od an : Option Addr} {osl : Array (Option Value)} {kV doc pm cdv ct : Value} (X : K.In h) (G : h.Ns mainGlobals mg)
    (a : PySem.W.nsIn K mainGlobals x = some (some (.ref f))) (l : K.lookup f = some ⟨oc, od, .func (PySem.W.fnOf x x (defArgs st) (defBody st) (defScope st) .none kV doc pm an cdv ct), osl⟩) (c : PySem.W.codeIn K cdv x = true) (k : PySem.W.keepIn K (.ref f) = true)
    (hb : ∀ (kV doc pm : Value) (an : Option Addr) (cdv ct : Value) (us : List Value), us.length = ps.length → bindArgs (PySem.W.fnOf x x (defArgs st) (defBody st) (defScope st) .none kV doc pm an cdv ct) ⟨us, []⟩ = pure (ps.zip us)) : Df K mg x ps st := by
  have F := fun_mk (st := st) l c k
  exact ⟨f, _, F, F.binds hb, PySem.W.mg_of X G a⟩
/-- the built-ins' names: none stands at the top -/
structure Bl (mg : Str → Option Value) : Prop where
  len : mg "len" = none
  all : mg "all" = none
  reversed : mg "reversed" = none
  tuple : mg "tuple" = none
  abs : mg "abs" = none
  range : mg "range" = none
  isinstance : mg "isinstance" = none
  int : mg "int" = none
  bool : mg "bool" = none
  ValueError : mg "ValueError" = none
  list : mg "list" = none
  sum : mg "sum" = none
  min : mg "min" = none
  enumerate : mg "enumerate" = none

/-! ### heaps -/
theorem same_upd {H : Hp} {p : Addr} {o : HO} (h : H p = none) : Same H (upd H p o) := fun b x e => by
  rw [upd_ne (ne_of_none e h)]
  exact e
theorem same_updO {H H' : Hp} {p : Addr} {o : HO} (s : Same H H') (h : H p = none) : Same H (upd H' p o) := fun b x e => by
  rw [upd_ne (ne_of_none e h)]
  exact s b x e
abbrev tI (ns : List Int) : HO := .tup (ns.map V.int)
abbrev lI (ns : List Int) : HO := .lst (ns.map V.int)
theorem small_of {n : Nat} (h : n ≤ 10000000) : n < sizeLine := by rw [sizeLine_eq]; omega
theorem small_le {n : Nat} (h : n ≤ 10000000) : n ≤ sizeLine := Nat.le_of_lt (small_of h)

/-! ### the error's class -/
/-- what the top says of NoNumber at C, under RowError at R -/
structure NoN (K : PySem.W.Frag) (mg : Str → Option Value) (C R : Addr) : Prop where
  g : mg "NoNumber" = some (.ref C)
  gR : mg "RowError" = some (.ref R)
  x : PySem.W.excIn K C [.type "ValueError", .type "Exception", .type "BaseException", .type "object"] "ValueError.__new__" = true
  k : PySem.W.keepIn K (.ref C) = true
  b : PySem.W.subIn K (.ref C) (.type "BaseException") = some true
  t : PySem.W.typeIn K (.ref C) = some (.type "type")
  bR : PySem.W.subIn K (.ref R) (.type "BaseException") = some true
  dR : PySem.W.hasDictIn K R = true
  tR : PySem.W.typeIn K (.ref R) = some (.type "type")
  sR : PySem.W.subIn K (.ref C) (.ref R) = some true
  ec : ExcC K C
  iV : PySem.W.kitOne K (.ref C) (.type "ValueError") = some true
  mV : mg "ValueError" = none
  mI : mg "isinstance" = none
theorem NoN.ex {K : PySem.W.Frag} {mg : Str → Option Value} {C R : Addr} (N : NoN K mg C R) : PySem.W.exmOne K (.ref C) (.ref R) = some true := PySem.W.exm_ref N.bR N.dR N.tR N.sR
theorem NoN.iC {K : PySem.W.Frag} {mg : Str → Option Value} {C R : Addr} (N : NoN K mg C R) : PySem.W.kitOne K (.ref C) (.ref C) = some true := by
  unfold PySem.W.kitOne
  rw [if_pos (by simp)]
theorem ps_no {X : Cx} {W : WX} {C R : Addr} {m : Str} {j : Nat} {p p2 pos pos' : Pos} (N : NoN X.K X.mg C R) (hc : X.calm = true) (tk : Takes X W) (hg : Gl X "NoNumber") :
    PS X (.Raise (some (.Call (.Name "NoNumber" p) [.Constant (.str m) j p2] [] pos)) none pos') (fun _ σ H => W (.ref C) none σ H) :=
  ps_raise hc tk (pmk_own PySem.F.excBase_ValueError N.x N.g N.k (raises_own N.b N.t) hg)

/-- isinstance(e, c) in a suite that holds an exception of any class -/
theorem pe_isE {X : Cx} {a C : Addr} {oe : Obj} {pn : List (Addr × Obj)} {cls : Value} {d : Option Addr} {x : Str} {e : Expr} {es : List Expr} {t : TA} {p pos : Pos} (EC : ExcC X.K C) (hz : Zc cls d oe) (hf : ∃ vs, oe.data = .fields vs)
    (hg : Gl (X.suite a ((a, oe) :: pn)) x) (hm : (X.suite a ((a, oe) :: pn)).mg x = none) (hv : bootBuiltins x = some (.builtin "isinstance")) (ha : PA (X.suite a ((a, oe) :: pn)) (e :: es) t) (hn : x ≠ "__name__" := by decide) (hdb : (x == ("__debug__" : Str)) = false := by decide)
    (he : starEach (e :: es) (X.suite a ((a, oe) :: pn)).env = (false, eval e (X.suite a ((a, oe) :: pn)).env) :: starEach es (X.suite a ((a, oe) :: pn)).env := by rfl) (hpl : (backTo pos (starEach es (X.suite a ((a, oe) :: pn)).env)).any (·.1) = false := by rfl) :
    PE (X.suite a ((a, oe) :: pn)) (.Call (.Name x p) (e :: es) [] pos) (fun σ H Q => cls = .ref C ∧ d = none ∧ tCB (rIsE X.K C a) t σ H Q) := by
  refine ⟨fun pins s σ H Q I h => ?_⟩
  obtain ⟨rfl, rfl, h⟩ := h
  exact (pe_callB (call_isE EC hz hf) hg hm hv ha hn hdb he hpl).run pins s σ H Q I h
theorem kit_vt {K : PySem.W.Frag} {C : Addr} {T : String} (m : PySem.W.kitMeta T = true) (h : PySem.W.subIn K (.ref C) (.type T) = some true) : PySem.W.kitOne K (.ref C) (.type T) = some true := by
  unfold PySem.W.kitOne
  split
  · rfl
  · show (if PySem.W.kitMeta T = true then PySem.W.subIn K (.ref C) (.type T) else none) = some true
    rw [if_pos m]
    exact h
theorem relV_ref {a : Addr} {u : Value} (h : RelV (.ref a) u) : u = .ref a := h
theorem relV_ty {n : String} {u : Value} (h : RelV (.ty n) u) : u = .type n := h

/-! ### numbers -/
/-- // of great numbers by any but 0 -/
def CDivWN (_ j : Int) : Prop := j ≠ 0 ∧ j.natAbs.log2 < 9000
theorem op_fdivWN {X : Cx} : OpR X (binaryOp .FloorDiv) (rI CDivWN fun i j => .int (i.fdiv j)) := opI fun _ _ _ _ _ _ _ hc q => floordiv_int hc.1 q (.inl (PyProof.noPylong_of_log2 hc.2))

/-! ### a statement, then the rest, with a word between them -/
def tMid (t u : TS) : TS := fun D σ H => ∃ Mid : L2.St → Hp → Prop, t { D with nx := Mid } σ H ∧ ∀ σ' H', Mid σ' H' → u D σ' H'
theorem pss_mid {X : Cx} {st : Stmt} {rest : List Stmt} {t u : TS} (h1 : PS X st t) (h2 : PSs X rest u) : PSs X (st :: rest) (tMid t u) := by
  refine ⟨fun pins s σ H D I h => ?_⟩
  obtain ⟨Mid, hm, hu⟩ := h
  refine wpAny_execs_cons (thn (h1.run pins s σ H { D with nx := Mid } I hm) fun f s1 q => ?_)
  cases f with
  | next =>
    obtain ⟨σ', H', I', q⟩ := q
    exact h2.run pins s1 σ' H' D I' (hu σ' H' q)
  | ret v => exact q
  | brk => exact q
  | cont => exact q

/-! ### slices -/
theorem cutV_from {xs : List V} {k : Nat} : cutV xs (some (k : Int)) none = xs.drop k := by
  unfold cutV
  rw [HT.sIx_nat xs.length 0 k, HT.sIx_none]
  by_cases h : k ≤ xs.length
  · rw [Nat.min_eq_left h]
    exact List.take_of_length_le (by rw [List.length_drop]; exact Nat.le_refl _)
  · rw [Nat.min_eq_right (by omega), Nat.sub_self, List.take_zero, List.drop_of_length_le (by omega)]
theorem cutV_to {xs : List V} {k : Nat} : cutV xs none (some (k : Int)) = xs.take k := by
  unfold cutV
  rw [HT.sIx_nat xs.length xs.length k, HT.sIx_none, List.drop_zero, Nat.sub_zero]
  by_cases h : k ≤ xs.length
  · rw [Nat.min_eq_left h]
  · rw [Nat.min_eq_right (by omega), List.take_of_length_le (Nat.le_refl _), List.take_of_length_le (by omega)]
theorem cutV_both {xs : List V} {j k : Nat} (h : j ≤ k) : cutV xs (some (j : Int)) (some (k : Int)) = (xs.drop j).take (k - j) := by
  unfold cutV
  rw [HT.sIx_nat xs.length xs.length k, HT.sIx_nat xs.length 0 j]
  by_cases h1 : k ≤ xs.length
  · rw [Nat.min_eq_left h1, Nat.min_eq_left (by omega)]
  · rw [Nat.min_eq_right (by omega)]
    by_cases h2 : j ≤ xs.length
    · rw [Nat.min_eq_left h2, List.take_of_length_le (by rw [List.length_drop]; exact Nat.le_refl _), List.take_of_length_le (by rw [List.length_drop]; omega)]
    · rw [Nat.min_eq_right (by omega), List.drop_of_length_le (Nat.le_refl _), List.drop_of_length_le (by omega), List.take_nil, List.take_nil]
theorem sIx_one {n d : Nat} : HT.sIx n d (some 1) = min 1 n := HT.sIx_nat n d 1
theorem sIx_neg {n d k : Nat} (h : 1 ≤ k) : HT.sIx n d (some (-(k : Int))) = n - k := by
  have h := HT.clip_eq (-(k : Int)) n d
  rw [if_pos (by omega)] at h
  omega
theorem cutV_but {xs : List V} {k : Nat} (h : 1 ≤ k) : cutV xs none (some (-(k : Int))) = xs.take (xs.length - k) := by
  unfold cutV
  rw [sIx_neg h, HT.sIx_none, List.drop_zero, Nat.sub_zero]
theorem atI_neg {xs : List V} {k : Nat} {v : V} (h : 1 ≤ k) (h2 : k ≤ xs.length) (e : xs[xs.length - k]? = some v) : atI xs (-(k : Int)) = some v := by
  unfold atI ixN
  rw [if_neg (by omega), if_pos (by omega)]
  show xs[(-(k : Int) + (xs.length : Int)).toNat]? = some v
  rw [show (-(k : Int) + (xs.length : Int)).toNat = xs.length - k by omega]
  exact e
theorem sIx_neg1 {n d : Nat} : HT.sIx n d (some (-1)) = n - 1 := by
  have h := HT.clip_eq (-1) n d
  rw [if_pos (by decide)] at h
  omega
theorem cutV_init {xs : List V} : cutV xs none (some (-1)) = xs.dropLast := by
  unfold cutV
  rw [sIx_neg1, HT.sIx_none, List.drop_zero, Nat.sub_zero, List.dropLast_eq_take]

/-! ### comprehensions that map -/
theorem yes_of {σ : L2.St} {H : Hp} {A B : Hp → Prop} (h : A H) : tYes σ H fun b H3 => if b = true then A H3 else B H3 := by
  show if true = true then A H else B H
  rw [if_pos rfl]
  exact h
theorem lc_mapL {K : PySem.W.Frag} {a : Addr} {xs ys : List V} {j : Nat} {te : TE} {vs : List Nat} {σ : L2.St} {H1 : Hp} {Qd : Addr → Hp → Prop} (hl : ys.length = xs.length) (hx : xs.length < sizeLine) (hA : SqL K H1 a xs) (hw : ∀ x, wipe ((wipe σ vs).set j (some x)) vs = wipe σ vs)
    (hs : ∀ (i : Nat) x y H Q, xs[i]? = some x → ys[i]? = some y → Same H1 H → (∀ H', Same H H' → Q y H') → te ((wipe σ vs).set j (some x)) H Q)
    (hd : ∀ D H, Same H1 H → H D = some (.lst ys) → H1 D = none → Qd D H) : ∀ D, H1 D = none →
    ∃ W : Nat → Nat → Hp → Prop, (∃ m, W 0 m (upd H1 D (.lst []))) ∧ ∀ i m H, W i m H →
      ((Itl K a).stop i H ∧ Qd D H) ∨ ((Itl K a).go i H ∧ ∃ Nx : Hp → Prop, (∀ H', Nx H' → ∃ m', m' < m ∧ W (i + 1) m' H') ∧ ∀ x H', (Itl K a).yld i H x H' → gName j x (wipe σ vs) H' fun σ2 H2 => wipe σ2 vs = wipe σ vs ∧ tYes σ2 H2 fun b H3 =>
        if b = true then te σ2 H3 fun y H4 => ∃ acc, H4 D = some (.lst acc) ∧ acc.length < sizeLine ∧ Nx (upd H4 D (.lst (acc ++ [y]))) else Nx H3) := fun D hD => by
  refine lc_list (K := K) (a := a) (xs := xs) (fun i H => Same H1 H ∧ H D = some (.lst (ys.take i))) ⟨same_upd hD, upd_same⟩ (fun i H _ h => h.1.seq hA) (fun i x H hi h => ?_) (fun H h => hd D H h.1 (by rw [h.2, ← hl, List.take_length]) hD)
  have hi' : i < ys.length := by
    rw [hl]
    exact (List.getElem?_eq_some_iff.mp hi).1
  refine ⟨hw x, yes_of (hs i x ys[i] H _ hi (List.getElem?_eq_getElem hi') h.1 fun H' s' => ⟨_, s' _ _ h.2, ?_, ?_, ?_⟩)⟩
  · rw [List.length_take]
    omega
  · exact same_updO (h.1.trans s') hD
  · rw [upd_same, List.take_add_one, List.getElem?_eq_getElem hi']
    rfl
theorem lc_mapT {K : PySem.W.Frag} {a : Addr} {xs ys : List V} {j : Nat} {te : TE} {vs : List Nat} {σ : L2.St} {H1 : Hp} {Qd : Addr → Hp → Prop} (hl : ys.length = xs.length) (hx : xs.length < sizeLine) (hA : H1 a = some (.tup xs)) (hw : ∀ x, wipe ((wipe σ vs).set j (some x)) vs = wipe σ vs)
    (hs : ∀ (i : Nat) x y H Q, xs[i]? = some x → ys[i]? = some y → Same H1 H → (∀ H', Same H H' → Q y H') → te ((wipe σ vs).set j (some x)) H Q)
    (hd : ∀ D H, Same H1 H → H D = some (.lst ys) → H1 D = none → Qd D H) : ∀ D, H1 D = none →
    ∃ W : Nat → Nat → Hp → Prop, (∃ m, W 0 m (upd H1 D (.lst []))) ∧ ∀ i m H, W i m H →
      ((Itt K a).stop i H ∧ Qd D H) ∨ ((Itt K a).go i H ∧ ∃ Nx : Hp → Prop, (∀ H', Nx H' → ∃ m', m' < m ∧ W (i + 1) m' H') ∧ ∀ x H', (Itt K a).yld i H x H' → gName j x (wipe σ vs) H' fun σ2 H2 => wipe σ2 vs = wipe σ vs ∧ tYes σ2 H2 fun b H3 =>
        if b = true then te σ2 H3 fun y H4 => ∃ acc, H4 D = some (.lst acc) ∧ acc.length < sizeLine ∧ Nx (upd H4 D (.lst (acc ++ [y]))) else Nx H3) := fun D hD => by
  refine lc_tup (K := K) (a := a) (xs := xs) (fun i H => Same H1 H ∧ H D = some (.lst (ys.take i))) ⟨same_upd hD, upd_same⟩ (fun i H _ h => .of (h.1 _ _ hA)) (fun i x H hi h => ?_) (fun H h => hd D H h.1 (by rw [h.2, ← hl, List.take_length]) hD)
  have hi' : i < ys.length := by
    rw [hl]
    exact (List.getElem?_eq_some_iff.mp hi).1
  refine ⟨hw x, yes_of (hs i x ys[i] H _ hi (List.getElem?_eq_getElem hi') h.1 fun H' s' => ⟨_, s' _ _ h.2, ?_, ?_, ?_⟩)⟩
  · rw [List.length_take]
    omega
  · exact same_updO (h.1.trans s') hD
  · rw [upd_same, List.take_add_one, List.getElem?_eq_getElem hi']
    rfl
/-! ### tuples and lists of ints: ==, !=, sum, in -/
theorem canAll_ints : ∀ ns : List Int, PyData.canLayAll0 (ns.map PyData.int) = true
  | [] => rfl
  | _ :: ns => by
    show (PyData.canLay0 (.int _) && PyData.canLayAll0 (ns.map PyData.int)) = true
    rw [canAll_ints ns]
    rfl
theorem depthAll_ints : ∀ ns : List Int, PyData.depthAll (ns.map PyData.int) = 0
  | [] => rfl
  | _ :: ns => by
    show max (PyData.depth (.int _)) (PyData.depthAll (ns.map PyData.int)) = 0
    rw [depthAll_ints ns]
    rfl
theorem sh_tup (ns : List Int) : SeqAt.shaped (.tuple (ns.map PyData.int)) = true := by
  unfold SeqAt.shaped
  rw [Bool.and_eq_true]
  refine ⟨canAll_ints ns, decide_eq_true ?_⟩
  show PyData.depthAll (ns.map PyData.int) + 1 ≤ 64
  rw [depthAll_ints]
  decide
theorem sh_lst (ns : List Int) : SeqAt.shaped (.list (ns.map PyData.int)) = true := by
  unfold SeqAt.shaped
  rw [Bool.and_eq_true]
  refine ⟨canAll_ints ns, decide_eq_true ?_⟩
  show PyData.depthAll (ns.map PyData.int) + 1 ≤ 64
  rw [depthAll_ints]
  decide
theorem eqvAll_ints : ∀ ns ms : List Int, PyData.eqvAll (ns.map PyData.int) (ms.map PyData.int) = decide (ns = ms)
  | [], [] => rfl
  | [], _ :: _ => rfl
  | _ :: _, [] => rfl
  | n :: ns, m :: ms => by
    show (n == m && PyData.eqvAll (ns.map PyData.int) (ms.map PyData.int)) = _
    rw [eqvAll_ints ns ms]
    by_cases h : n = m
    · subst h
      simp
    · simp [h]
theorem dp_ints {K : PySem.W.Frag} {H : Hp} : ∀ ns : List Int, DpAll K H (ns.map V.int) (ns.map PyData.int)
  | [] => .nil
  | n :: ns => .cons (.int n) (dp_ints ns)
def rEqT (K : PySem.W.Frag) : R2 := fun x y H Q => ∃ (a b : Addr) (ns ms : List Int), x = .ref a ∧ y = .ref b ∧ SqT K H a (ns.map V.int) ∧ SqT K H b (ms.map V.int) ∧ Q (.bl (decide (ns = ms))) H
def rNeT (K : PySem.W.Frag) : R2 := fun x y H Q => ∃ (a b : Addr) (ns ms : List Int), x = .ref a ∧ y = .ref b ∧ SqT K H a (ns.map V.int) ∧ SqT K H b (ms.map V.int) ∧ Q (.bl (!decide (ns = ms))) H
def rEqLI (K : PySem.W.Frag) : R2 := fun x y H Q => ∃ (a b : Addr) (ns ms : List Int), x = .ref a ∧ y = .ref b ∧ SqL K H a (ns.map V.int) ∧ SqL K H b (ms.map V.int) ∧ Q (.bl (decide (ns = ms))) H
def rNeLI (K : PySem.W.Frag) : R2 := fun x y H Q => ∃ (a b : Addr) (ns ms : List Int), x = .ref a ∧ y = .ref b ∧ SqL K H a (ns.map V.int) ∧ SqL K H b (ms.map V.int) ∧ Q (.bl (!decide (ns = ms))) H
section
variable {X : Cx} {k : Nat}
theorem op_eqT (hr : Room k X.A) : OpR X (compareOp .Eq) (rEqT X.K) := by
  intro pins s σ H x y v u Q I rx ry h
  obtain ⟨a, b, ns, ms, rfl, rfl, ha, hb, q⟩ := h
  refine op_eqD hr.units pins s σ H _ _ v u Q I rx ry ⟨_, _, .tup ha (dp_ints ns), .tup hb (dp_ints ms), sh_tup ns, sh_tup ms, ?_⟩
  show Q (.bl (PyData.eqvAll _ _)) H
  rw [eqvAll_ints]
  exact q
theorem op_neT (hr : Room k X.A) : OpR X (compareOp .NotEq) (rNeT X.K) := by
  intro pins s σ H x y v u Q I rx ry h
  obtain ⟨a, b, ns, ms, rfl, rfl, ha, hb, q⟩ := h
  refine op_neD hr.units pins s σ H _ _ v u Q I rx ry ⟨_, _, .tup ha (dp_ints ns), .tup hb (dp_ints ms), sh_tup ns, sh_tup ms, ?_⟩
  show Q (.bl (!PyData.eqvAll _ _)) H
  rw [eqvAll_ints]
  exact q
theorem op_eqLI (hr : Room k X.A) : OpR X (compareOp .Eq) (rEqLI X.K) := by
  intro pins s σ H x y v u Q I rx ry h
  obtain ⟨a, b, ns, ms, rfl, rfl, ha, hb, q⟩ := h
  refine op_eqD hr.units pins s σ H _ _ v u Q I rx ry ⟨_, _, .lst ha (dp_ints ns), .lst hb (dp_ints ms), sh_lst ns, sh_lst ms, ?_⟩
  show Q (.bl (PyData.eqvAll _ _)) H
  rw [eqvAll_ints]
  exact q
theorem op_neLI (hr : Room k X.A) : OpR X (compareOp .NotEq) (rNeLI X.K) := by
  intro pins s σ H x y v u Q I rx ry h
  obtain ⟨a, b, ns, ms, rfl, rfl, ha, hb, q⟩ := h
  refine op_neD hr.units pins s σ H _ _ v u Q I rx ry ⟨_, _, .lst ha (dp_ints ns), .lst hb (dp_ints ms), sh_lst ns, sh_lst ms, ?_⟩
  show Q (.bl (!PyData.eqvAll _ _)) H
  rw [eqvAll_ints]
  exact q
/-- sum(t) of a tuple of ints -/
def rSumT (K : PySem.W.Frag) : List V → Hp → VK → Prop := fun vs H Q => ∃ (a : Addr) (ns : List Int), vs = [V.ref a] ∧ SqT K H a (ns.map V.int) ∧ Q (.int ns.sum) H
theorem cr_sumT (hc : X.calm = true) : CallR X (.builtin "sum") (rSumT X.K) := by
  intro pins s σ H vs us Q I r h
  obtain ⟨a, ns, rfl, hs, q⟩ := h
  obtain ⟨its, rv, ht, _⟩ := I.tuple hs
  rw [Vals.ref1 r]
  have hi := rv.ints
  obtain ⟨xs, e⟩ := hi.allInts.items
  have hn : numsOf (intItems xs).toList = ns := by rw [← e]; exact hi.numsOf
  rw [nums_intItems] at hn
  rw [e] at ht
  refine PySem.W.ktm_sumG (I.ok.hd hc) ht fun h' tk t' hk => ⟨.int _, H, I.kept hk, ⟨_, rfl⟩, ?_⟩
  rw [preSum_eq, List.take_of_length_le (by simp), hn]
  exact q
end
/-- x in xs within a comprehension, the written part named -/
theorem op_inK {X : Cx} (K : PySem.W.Frag) (h : X.K = K := by rfl) : OpR X (compareOp .In) (rIn K false) := by
  subst h
  exact op_in_seq
theorem in01 (z : Int) : inV (.int z) [V.int 0, V.int 1] = decide (z = 0 ∨ z = 1) := by
  show ((0 : Int) == z || ((1 : Int) == z || false)) = _
  by_cases h0 : z = 0
  · subst h0
    rfl
  · by_cases h1 : z = 1
    · subst h1
      rfl
    · rw [decide_eq_false (by omega), Bool.or_false, Bool.or_eq_false_iff]
      exact ⟨beq_false_of_ne (fun e => h0 e.symm), beq_false_of_ne (fun e => h1 e.symm)⟩
/-- isinstance(t, tuple) -/
theorem isT_tup {K : PySem.W.Frag} {H : Hp} {a : Addr} {xs : List V} (e : H a = some (.tup xs)) : TyX K H (.ref a) (.type "tuple") := .base (.tup e)
theorem isT_self {K : PySem.W.Frag} {t : Value} : PySem.W.kitOne K t t = some true := by
  unfold PySem.W.kitOne
  rw [if_pos (by simp)]

/-- what every law promises -/
def sp_law (K : PySem.W.Frag) : Sp := fun vs H Q _ => ∃ (a : Addr) (ns : List Int), vs = [.ref a] ∧ SqL K H a (ns.map V.int) ∧ ns.length ≤ 63 ∧ ∀ H', Q (.bl true) H'
end RR
/-! RRM: fractions, rows, ways: plain mathematics. -/
namespace RR

/-! ### the greatest common divisor -/
def dv (a b : Int) : Int := (Int.gcd a b : Int)
theorem gcd_step {x y : Int} (hx : 0 ≤ x) (hy : 0 < y) : Int.gcd y (x % y) = Int.gcd x y := by
  have h1 := Int.emod_nonneg x (show y ≠ 0 by omega)
  obtain ⟨a, rfl⟩ := Int.eq_ofNat_of_zero_le hx
  obtain ⟨b, rfl⟩ := Int.eq_ofNat_of_zero_le (show 0 ≤ y by omega)
  rw [← Int.natCast_emod]
  show Nat.gcd b (a % b) = Nat.gcd a b
  rw [Nat.gcd_comm a b, Nat.gcd_rec b a, Nat.gcd_comm]
theorem gcd_abs (a b : Int) : Int.gcd (if a < 0 then -a else a) (if b < 0 then -b else b) = Int.gcd a b := by
  split <;> split <;> simp only [Int.gcd_neg, Int.neg_gcd]
theorem gcd_end {x y : Int} (hx : 0 ≤ x) (hy : ¬ 0 < y) (h0 : 0 ≤ y) : x = (Int.gcd x y : Int) := by
  have e : y = 0 := by omega
  subst e
  rw [Int.gcd_zero_right]
  omega
theorem dv_nonneg (a b : Int) : 0 ≤ dv a b := Int.natCast_nonneg _
theorem dv_dvd_left (a b : Int) : dv a b ∣ a := Int.gcd_dvd_left a b
theorem dv_dvd_right (a b : Int) : dv a b ∣ b := Int.gcd_dvd_right a b
theorem dv_pos_right {a b : Int} (h : b ≠ 0) : 0 < dv a b := by
  have h1 : 0 < Int.gcd a b := Int.gcd_pos_of_ne_zero_right a h
  unfold dv
  omega
theorem dv_pos_left {a b : Int} (h : a ≠ 0) : 0 < dv a b := by
  have h1 : 0 < Int.gcd a b := Int.gcd_pos_of_ne_zero_left b h
  unfold dv
  omega
theorem dv_comm (a b : Int) : dv a b = dv b a := by
  unfold dv
  rw [Int.gcd_comm]
theorem dvd_dv {k a b : Int} (h1 : k ∣ a) (h2 : k ∣ b) : k ∣ dv a b := Int.dvd_coe_gcd h1 h2
theorem fdiv_neg_dvd {a g : Int} (h : g ∣ a) (hg : g ≠ 0) : a.fdiv (-g) = -(a / g) := by
  obtain ⟨k, rfl⟩ := h
  rw [Int.mul_ediv_cancel_left _ hg, show g * k = (-g) * (-k) by rw [Int.neg_mul_neg], Int.mul_fdiv_cancel_left _ (by omega)]
theorem neg_ediv_dvd {a g : Int} (h : g ∣ a) : (-a) / g = -(a / g) := Int.neg_ediv_of_dvd h
/-- the fraction u divided by l -/
def low (u l : Int) : Int × Int := if l < 0 then ((-u) / dv u l, (-l) / dv u l) else (u / dv u l, l / dv u l)
theorem dv_div {a b : Int} (h : 0 < dv a b) : dv (a / dv a b) (b / dv a b) = 1 := by
  have h1 : 0 < Int.gcd a b := by
    unfold dv at h
    omega
  have h2 := Int.gcd_ediv_gcd_ediv_gcd h1
  unfold dv
  omega
theorem dv_neg_left (a b : Int) : dv (-a) b = dv a b := by
  unfold dv
  rw [Int.neg_gcd]
theorem dv_neg_right (a b : Int) : dv a (-b) = dv a b := by
  unfold dv
  rw [Int.gcd_neg]
/-- what lowest gives, by products: the fraction is lowest and stands for the same -/
structure IsLow (u l p q : Int) : Prop where
  pos : 0 < q
  one : dv p q = 1
  cross : u * q = p * l
theorem low_is {u l : Int} (h : l ≠ 0) : IsLow u l (low u l).1 (low u l).2 := by
  have hg := dv_pos_right (a := u) h
  obtain ⟨a, ha⟩ := dv_dvd_left u l
  obtain ⟨b, hb⟩ := dv_dvd_right u l
  have hg0 : dv u l ≠ 0 := by omega
  have e1 : u / dv u l = a := by conv => lhs; lhs; rw [ha]
                                 exact Int.mul_ediv_cancel_left _ hg0
  have e2 : l / dv u l = b := by conv => lhs; lhs; rw [hb]
                                 exact Int.mul_ediv_cancel_left _ hg0
  have h1 := dv_div hg
  rw [e1, e2] at h1
  unfold low
  split
  · rename_i hl
    rw [neg_ediv_dvd (dv_dvd_left u l), neg_ediv_dvd (dv_dvd_right u l), e1, e2]
    refine ⟨?_, ?_, ?_⟩
    · have : ¬ 0 ≤ b := fun hb0 => by
        have := Int.mul_nonneg (Int.le_of_lt hg) hb0
        omega
      show 0 < -b
      omega
    · show dv (-a) (-b) = 1
      rw [dv_neg_left, dv_neg_right, h1]
    · show u * -b = -a * l
      generalize dv u l = g at *
      subst ha hb
      grind
  · rename_i hl
    rw [e1, e2]
    refine ⟨?_, h1, ?_⟩
    · have : ¬ b ≤ 0 := fun hb0 => by
        have := Int.mul_nonneg (Int.le_of_lt hg) (show 0 ≤ -b by omega)
        rw [Int.mul_neg] at this
        omega
      show 0 < b
      omega
    · show u * b = a * l
      generalize dv u l = g at *
      subst ha hb
      grind
/-- coprime: a divisor of a product -/
theorem dvd_of_mul {k a b : Int} (h : dv k a = 1) (h2 : k ∣ a * b) : k ∣ b := by
  have h1 : Int.gcd k a = 1 := by
    unfold dv at h
    omega
  rw [← Int.natAbs_dvd_natAbs] at h2 ⊢
  rw [Int.natAbs_mul] at h2
  exact Nat.Coprime.dvd_of_dvd_mul_left h1 h2
theorem low_unique {p q r s : Int} (h1 : 0 < q) (h2 : dv p q = 1) (h3 : 0 < s) (h4 : dv r s = 1) (h : p * s = r * q) : p = r ∧ q = s := by
  have a1 : q ∣ s := by
    refine dvd_of_mul (a := p) (by rw [dv_comm]; exact h2) ⟨r, ?_⟩
    rw [h, Int.mul_comm]
  have a2 : s ∣ q := by
    refine dvd_of_mul (a := r) (by rw [dv_comm]; exact h4) ⟨p, ?_⟩
    rw [← h, Int.mul_comm]
  have e : q = s := Int.dvd_antisymm (by omega) (by omega) a1 a2
  subst e
  exact ⟨Int.eq_of_mul_eq_mul_right (by omega) h, rfl⟩
theorem IsLow.eq {u l p q : Int} (h : l ≠ 0) (x : IsLow u l p q) : low u l = (p, q) := by
  have y := low_is (u := u) h
  obtain ⟨x1, x2, x3⟩ := x
  obtain ⟨y1, y2, y3⟩ := y
  have e : p * (low u l).2 = (low u l).1 * q := by
    have : l * (p * (low u l).2) = l * ((low u l).1 * q) := by grind
    exact Int.eq_of_mul_eq_mul_left h this
  obtain ⟨e1, e2⟩ := low_unique x1 x2 y1 y2 e
  rw [e1, e2]
theorem low_self {p q : Int} (h : 0 < q) (h2 : dv p q = 1) : low p q = (p, q) := IsLow.eq (by omega) ⟨h, h2, rfl⟩
theorem low_le {u l : Int} (h : 0 < l) : (low u l).2 ≤ l := by
  have hg := dv_pos_right (a := u) (show l ≠ 0 by omega)
  unfold low
  rw [if_neg (by omega)]
  exact Int.ediv_le_self _ (by omega)
theorem low_abs {u l : Int} (h : l ≠ 0) : (low u l).1.natAbs ≤ u.natAbs ∧ (low u l).2.natAbs ≤ l.natAbs := by
  have hg := dv_pos_right (a := u) h
  have k : ∀ z : Int, dv u l ∣ z → (z / dv u l).natAbs ≤ z.natAbs := fun z hz => by
    obtain ⟨c, rfl⟩ := hz
    rw [Int.mul_ediv_cancel_left _ (by omega), Int.natAbs_mul]
    exact Nat.le_mul_of_pos_left _ (by omega)
  unfold low
  split
  · rw [neg_ediv_dvd (dv_dvd_left u l), neg_ediv_dvd (dv_dvd_right u l)]
    exact ⟨by rw [Int.natAbs_neg]; exact k _ (dv_dvd_left u l), by rw [Int.natAbs_neg]; exact k _ (dv_dvd_right u l)⟩
  · exact ⟨k _ (dv_dvd_left u l), k _ (dv_dvd_right u l)⟩

/-! ### rows -/
/-- what a row stands for -/
def st : List Int → Int × Int
  | [] => (1, 0)
  | x :: r => (x * (st r).1 + (st r).2, (st r).1)
/-- whether a tuple is a row for fraction_of -/
def isRow (xs : List Int) : Bool := !xs.isEmpty && (xs.drop 1).all fun y => decide (1 ≤ y)

/-! ### ways -/
/-- the way to u divided by l -/
def way (u l : Int) : List Int := if h : 1 ≤ u ∧ 1 ≤ l ∧ u ≠ l then (if u < l then 0 :: way u (l - u) else 1 :: way (u - l) l) else []
termination_by (u + l).toNat
decreasing_by all_goals omega
theorem way_eq (u : Int) : way u u = [] := by
  unfold way
  rw [dif_neg (fun h => h.2.2 rfl)]
theorem way_lo {u l : Int} (h1 : 1 ≤ u) (h2 : u < l) : way u l = 0 :: way u (l - u) := by
  conv => lhs; unfold way
  rw [dif_pos ⟨h1, by omega, by omega⟩, if_pos h2]
theorem way_hi {u l : Int} (h1 : 1 ≤ l) (h2 : l < u) : way u l = 1 :: way (u - l) l := by
  conv => lhs; unfold way
  rw [dif_pos ⟨by omega, h1, by omega⟩, if_neg (by omega)]
theorem way_len {u l : Int} (h1 : 1 ≤ u) (h2 : 1 ≤ l) : ((way u l).length : Int) + 2 ≤ u + l := by
  by_cases h : u = l
  · subst h
    rw [way_eq]
    show (0 : Int) + 2 ≤ _
    omega
  · by_cases h3 : u < l
    · have ih := way_len (u := u) (l := l - u) h1 (by omega)
      rw [way_lo h1 h3, List.length_cons]
      omega
    · have ih := way_len (u := u - l) (l := l) (by omega) h2
      rw [way_hi h2 (by omega), List.length_cons]
      omega
termination_by (u + l).toNat
decreasing_by all_goals omega
/-- where a way leads -/
def bw : List Int → Int × Int
  | [] => (1, 1)
  | s :: w => if s = 0 then ((bw w).1, (bw w).1 + (bw w).2) else ((bw w).1 + (bw w).2, (bw w).2)
theorem bw_pos : ∀ w : List Int, 1 ≤ (bw w).1 ∧ 1 ≤ (bw w).2
  | [] => ⟨Int.le_refl 1, Int.le_refl 1⟩
  | s :: w => by
    have ih := bw_pos w
    unfold bw
    split
    · exact ⟨ih.1, by show 1 ≤ (bw w).1 + (bw w).2; omega⟩
    · exact ⟨by show 1 ≤ (bw w).1 + (bw w).2; omega, ih.2⟩
theorem bw_big : ∀ w : List Int, (bw w).1 ≤ 2 ^ w.length ∧ (bw w).2 ≤ 2 ^ w.length
  | [] => ⟨Int.le_refl 1, Int.le_refl 1⟩
  | s :: w => by
    have ih := bw_big w
    have p := bw_pos w
    unfold bw
    rw [List.length_cons, Int.pow_succ]
    split
    · exact ⟨by show (bw w).1 ≤ _; omega, by show (bw w).1 + (bw w).2 ≤ _; omega⟩
    · exact ⟨by show (bw w).1 + (bw w).2 ≤ _; omega, by show (bw w).2 ≤ _; omega⟩
theorem bw_lo (w : List Int) : bw (0 :: w) = ((bw w).1, (bw w).1 + (bw w).2) := by
  conv => lhs; unfold bw
  rw [if_pos rfl]
theorem bw_hi (w : List Int) : bw (1 :: w) = ((bw w).1 + (bw w).2, (bw w).2) := by
  conv => lhs; unfold bw
  rw [if_neg (by decide)]
theorem way_bw : ∀ w : List Int, (∀ s ∈ w, s = 0 ∨ s = 1) → way (bw w).1 (bw w).2 = w
  | [], _ => way_eq 1
  | s :: w, h => by
    have ih := way_bw w fun x hx => h x (List.mem_cons_of_mem _ hx)
    have p := bw_pos w
    rcases h s List.mem_cons_self with rfl | rfl
    · rw [bw_lo]
      show way (bw w).1 ((bw w).1 + (bw w).2) = _
      rw [way_lo p.1 (by omega), show (bw w).1 + (bw w).2 - (bw w).1 = (bw w).2 by omega, ih]
    · rw [bw_hi]
      show way ((bw w).1 + (bw w).2) (bw w).2 = _
      rw [way_hi p.2 (by omega), show (bw w).1 + (bw w).2 - (bw w).2 = (bw w).1 by omega, ih]
theorem dv_sub_right {u l : Int} : dv u (l - u) = dv u l := by
  unfold dv
  rw [Int.gcd_sub_self_right]
theorem dv_add_right {u l : Int} : dv u (u + l) = dv u l := by
  unfold dv
  rw [Int.gcd_self_add_right]
theorem dv_sub_left {u l : Int} : dv (u - l) l = dv u l := by
  unfold dv
  rw [Int.gcd_sub_self_left]
theorem dv_add_left {u l : Int} : dv (u + l) l = dv u l := by
  unfold dv
  rw [Int.gcd_add_self_left]
theorem dv_self {u : Int} (h : 0 ≤ u) : dv u u = u := by
  unfold dv
  rw [Int.gcd_self]
  omega
theorem bw_low : ∀ w : List Int, dv (bw w).1 (bw w).2 = 1
  | [] => by decide
  | s :: w => by
    have ih := bw_low w
    unfold bw
    split
    · show dv (bw w).1 ((bw w).1 + (bw w).2) = 1
      rw [dv_add_right, ih]
    · show dv ((bw w).1 + (bw w).2) (bw w).2 = 1
      rw [dv_add_left, ih]
theorem bw_way {u l : Int} (h1 : 1 ≤ u) (h2 : 1 ≤ l) (h : dv u l = 1) : bw (way u l) = (u, l) := by
  by_cases e : u = l
  · subst e
    rw [dv_self (by omega)] at h
    subst h
    rw [way_eq]
    rfl
  · by_cases h3 : u < l
    · have ih := bw_way (u := u) (l := l - u) h1 (by omega) (by rw [dv_sub_right, h])
      rw [way_lo h1 h3, bw_lo, ih]
      show (u, u + (l - u)) = (u, l)
      rw [show u + (l - u) = l by omega]
    · have ih := bw_way (u := u - l) (l := l) (by omega) h2 (by rw [dv_sub_left, h])
      rw [way_hi h2 (by omega), bw_hi, ih]
      show (u - l + l, l) = (u, l)
      rw [show u - l + l = u by omega]
termination_by (u + l).toNat
decreasing_by all_goals omega
theorem way_01 {u l : Int} : ∀ s ∈ way u l, s = 0 ∨ s = 1 := by
  unfold way
  split
  · rename_i h
    obtain ⟨h1, h2, h3⟩ := h
    split
    · intro s hs
      rcases List.mem_cons.mp hs with rfl | hs
      · exact .inl rfl
      · exact way_01 s hs
    · intro s hs
      rcases List.mem_cons.mp hs with rfl | hs
      · exact .inr rfl
      · exact way_01 s hs
  · intro s hs
    cases hs
termination_by (u + l).toNat
decreasing_by all_goals omega
/-- two bounds, and the rest of the way between -/
theorem bw_step {w : List Int} {s a b c d X Y : Int} (h : X = a * (bw (s :: w)).2 + c * (bw (s :: w)).1) (h2 : Y = b * (bw (s :: w)).2 + d * (bw (s :: w)).1) :
    if s = 0 then X = a * (bw w).2 + (a + c) * (bw w).1 ∧ Y = b * (bw w).2 + (b + d) * (bw w).1 else X = (a + c) * (bw w).2 + c * (bw w).1 ∧ Y = (b + d) * (bw w).2 + d * (bw w).1 := by
  unfold bw at h h2
  split
  · rename_i e
    rw [if_pos e] at h h2
    exact ⟨by rw [h]; grind, by rw [h2]; grind⟩
  · rename_i e
    rw [if_neg e] at h h2
    exact ⟨by rw [h]; grind, by rw [h2]; grind⟩

/-! ### rows by division -/
/-- the row of u divided by l -/
def row (u l : Int) : List Int := if 0 < l then (u / l) :: row l (u % l) else []
termination_by l.toNat
decreasing_by
  have h1 := Int.emod_lt_of_pos u (show 0 < l by assumption)
  omega
theorem row_zero {u l : Int} (h : ¬ 0 < l) : row u l = [] := by
  unfold row
  rw [if_neg h]
theorem row_cons {u l : Int} (h : 0 < l) : row u l = (u / l) :: row l (u % l) := by
  conv => lhs; unfold row
  rw [if_pos h]
theorem row_len {u l : Int} (h : 0 ≤ l) : ((row u l).length : Int) ≤ l + 1 := by
  by_cases h0 : 0 < l
  · have h1 := Int.emod_lt_of_pos u h0
    have h2 := Int.emod_nonneg u (show l ≠ 0 by omega)
    have ih := row_len (u := l) (l := u % l) h2
    rw [row_cons h0, List.length_cons]
    omega
  · rw [row_zero h0]
    show (0 : Int) ≤ _
    omega
termination_by l.toNat
decreasing_by omega
theorem sum_swap {u l : Int} (h1 : 0 < u) (h2 : 0 < l) : (row u l).sum = (row l u).sum := by
  by_cases e : u = l
  · rw [e]
  · by_cases h : u < l
    · rw [row_cons h2, Int.ediv_eq_zero_of_lt (by omega) h, Int.emod_eq_of_lt (by omega) h, List.sum_cons, Int.zero_add]
    · rw [row_cons h1, Int.ediv_eq_zero_of_lt (by omega) (by omega), Int.emod_eq_of_lt (by omega) (by omega), List.sum_cons, Int.zero_add]
theorem sum_add {u l : Int} (h : 0 < l) : (row (u + l) l).sum = 1 + (row u l).sum := by
  rw [row_cons h, row_cons h, List.sum_cons, List.sum_cons, Int.add_emod_right, Int.add_ediv_of_dvd_right (Int.dvd_refl l), Int.ediv_self (by omega)]
  omega
theorem row_sum {u l : Int} (h1 : 1 ≤ u) (h2 : 1 ≤ l) (h : dv u l = 1) : (row u l).sum = ((way u l).length : Int) + 1 := by
  by_cases e : u = l
  · subst e
    rw [dv_self (by omega)] at h
    subst h
    rw [way_eq, row_cons (by decide), row_zero (by decide)]
    decide
  · by_cases h3 : u < l
    · have ih := row_sum (u := u) (l := l - u) h1 (by omega) (by rw [dv_sub_right, h])
      rw [way_lo h1 h3, List.length_cons, sum_swap (by omega) (by omega), show l = (l - u) + u by omega, sum_add (by omega), ← sum_swap (by omega) (by omega)]
      have e2 : l - u + u - u = l - u := by omega
      rw [e2, ih]
      omega
    · have ih := row_sum (u := u - l) (l := l) (by omega) h2 (by rw [dv_sub_left, h])
      have e2 : u = (u - l) + l := by omega
      rw [way_hi h2 (by omega), List.length_cons, e2, sum_add (by omega), ih]
      have e3 : u - l + l - l = u - l := by omega
      rw [e3]
      omega
termination_by (u + l).toNat
decreasing_by all_goals omega
/-! ### what a row stands for, and back -/
theorem dv_mod {u l : Int} : dv l (u % l) = dv u l := by
  have h := Int.emod_add_mul_ediv u l
  unfold dv
  conv => rhs; rw [← h]
  rw [Int.gcd_comm (u % l + l * (u / l)) l, Int.mul_comm, Int.gcd_add_mul_right_right]
theorem dv_zero {u : Int} (h : 0 ≤ u) : dv u 0 = u := by
  unfold dv
  rw [Int.gcd_zero_right]
  omega
theorem st_row {u l : Int} (h : 0 ≤ l) (h0 : 0 < l ∨ u = 1) (h1 : dv u l = 1) : st (row u l) = (u, l) := by
  by_cases hl : 0 < l
  · have h2 := Int.emod_lt_of_pos u hl
    have h3 := Int.emod_nonneg u (show l ≠ 0 by omega)
    have h4 : dv l (u % l) = 1 := by rw [dv_mod, h1]
    have ih := st_row (u := l) (l := u % l) h3 (by
      by_cases z : 0 < u % l
      · exact .inl z
      · right
        have e : u % l = 0 := by omega
        rw [e, dv_zero h] at h4
        exact h4) h4
    rw [row_cons hl]
    show ((u / l) * (st (row l (u % l))).1 + (st (row l (u % l))).2, (st (row l (u % l))).1) = _
    rw [ih]
    show ((u / l) * l + u % l, l) = (u, l)
    rw [Int.ediv_mul_add_emod]
  · rw [row_zero hl]
    rcases h0 with h0 | h0
    · exact absurd h0 hl
    · rw [h0, show l = 0 by omega]
      rfl
termination_by l.toNat
decreasing_by omega
theorem row_pos {u l : Int} (h : 0 ≤ l) (h1 : l < u) : ∀ y ∈ row u l, 1 ≤ y := by
  intro y hy
  by_cases hl : 0 < l
  · have h2 := Int.emod_lt_of_pos u hl
    have h3 := Int.emod_nonneg u (show l ≠ 0 by omega)
    rw [row_cons hl] at hy
    rcases List.mem_cons.mp hy with rfl | hy
    · exact (Int.le_ediv_iff_mul_le hl).mpr (by omega)
    · exact row_pos h3 h2 y hy
  · rw [row_zero hl] at hy
    cases hy
termination_by l.toNat
decreasing_by omega
theorem row_last {u l : Int} (h : 0 < l) (h1 : l < u) : ∀ y, (row u l).getLast? = some y → 2 ≤ y := by
  intro y hy
  have h2 := Int.emod_lt_of_pos u h
  have h3 := Int.emod_nonneg u (show l ≠ 0 by omega)
  rw [row_cons h] at hy
  by_cases hz : 0 < u % l
  · have e : row l (u % l) = (l / (u % l)) :: row (u % l) (l % (u % l)) := row_cons hz
    rw [e, List.getLast?_cons_cons, ← e] at hy
    exact row_last hz h2 y hy
  · rw [row_zero hz] at hy
    have e : u / l = y := Option.some.inj hy
    have h4 := Int.ediv_mul_add_emod u l
    rw [← e]
    by_cases h5 : 2 ≤ u / l
    · exact h5
    · exfalso
      have h6 : (u / l) * l ≤ 1 * l := Int.mul_le_mul_of_nonneg_right (by omega) (by omega)
      omega
termination_by l.toNat
decreasing_by omega
theorem row_ne {u l : Int} (h : 0 < l) : row u l ≠ [] := by
  rw [row_cons h]
  exact List.cons_ne_nil _ _
theorem row_tail {u l : Int} (h : 0 < l) : ∀ y ∈ (row u l).drop 1, 1 ≤ y := by
  rw [row_cons h]
  exact row_pos (Int.emod_nonneg u (by omega)) (Int.emod_lt_of_pos u h)
theorem row_last2 {u l : Int} (h : 0 < l) (h2 : 2 ≤ (row u l).length) : ∀ y, (row u l).getLast? = some y → 2 ≤ y := by
  intro y hy
  rw [row_cons h] at hy h2
  by_cases hz : 0 < u % l
  · have e : row l (u % l) = (l / (u % l)) :: row (u % l) (l % (u % l)) := row_cons hz
    rw [e, List.getLast?_cons_cons, ← e] at hy
    exact row_last hz (Int.emod_lt_of_pos u h) y hy
  · rw [row_zero hz] at h2
    simp at h2
theorem row_len2 {u l : Int} (n : Nat) (h : 0 ≤ l) (hn : l < 2 ^ n) : (row u l).length ≤ 2 * n + 1 := by
  induction n generalizing u l with
  | zero =>
    rw [row_zero (by simp at hn; omega)]
    exact Nat.zero_le _
  | succ n ih =>
    by_cases hl : 0 < l
    · have h2 := Int.emod_lt_of_pos u hl
      have h3 := Int.emod_nonneg u (show l ≠ 0 by omega)
      rw [row_cons hl, List.length_cons]
      by_cases hz : 0 < u % l
      · have h4 := Int.emod_lt_of_pos l hz
        have h5 := Int.emod_nonneg l (show u % l ≠ 0 by omega)
        have h6 := Int.ediv_mul_add_emod l (u % l)
        have h7 : 1 ≤ l / (u % l) := (Int.le_ediv_iff_mul_le hz).mpr (by omega)
        have h8 : 1 * (u % l) ≤ l / (u % l) * (u % l) := Int.mul_le_mul_of_nonneg_right h7 (by omega)
        have := ih (u := u % l) (l := l % (u % l)) h5 (by rw [Int.pow_succ] at hn; omega)
        rw [row_cons hz, List.length_cons]
        omega
      · rw [row_zero hz]
        show 0 + 1 ≤ _
        omega
    · rw [row_zero hl]
      exact Nat.zero_le _
/-- of a canonical rest -/
theorem row_st_rest : ∀ s : List Int, s ≠ [] → (∀ y ∈ s, 1 ≤ y) → (∀ y, s.getLast? = some y → 2 ≤ y) → 0 < (st s).2 ∧ (st s).2 < (st s).1 ∧ row (st s).1 (st s).2 = s
  | [], h, _, _ => absurd rfl h
  | [y], _, _, h2 => by
    have hy := h2 y rfl
    show 0 < (1 : Int) ∧ (1 : Int) < y * 1 + 0 ∧ row (y * 1 + 0) 1 = [y]
    refine ⟨by decide, by omega, ?_⟩
    rw [Int.mul_one, Int.add_zero, row_cons (by decide), Int.ediv_one, row_zero (by rw [Int.emod_one]; decide)]
  | y :: z :: s, _, h1, h2 => by
    obtain ⟨a, b, c⟩ := row_st_rest (z :: s) (List.cons_ne_nil _ _) (fun x hx => h1 x (List.mem_cons_of_mem _ hx)) (fun x hx => h2 x (by rw [List.getLast?_cons_cons]; exact hx))
    have hy := h1 y List.mem_cons_self
    generalize hst : st (z :: s) = ul at *
    obtain ⟨u, l⟩ := ul
    have e : st (y :: z :: s) = (y * u + l, u) := by
      show (y * (st (z :: s)).1 + (st (z :: s)).2, (st (z :: s)).1) = _
      rw [hst]
    rw [e]
    have a' : 0 < l := a
    have b' : l < u := b
    have c' : row u l = z :: s := c
    show 0 < u ∧ u < y * u + l ∧ row (y * u + l) u = y :: z :: s
    have h3 : 1 * u ≤ y * u := Int.mul_le_mul_of_nonneg_right hy (by omega)
    refine ⟨by omega, by omega, ?_⟩
    have e1 : (y * u + l) / u = y := by
      rw [Int.add_comm, Int.add_mul_ediv_right _ _ (by omega), Int.ediv_eq_zero_of_lt (by omega) b', Int.zero_add]
    have e2 : (y * u + l) % u = l := by
      rw [Int.add_comm, Int.add_mul_emod_self_right, Int.emod_eq_of_lt (by omega) b']
    rw [row_cons (by omega), e1, e2, c']
theorem row_st (x : Int) (s : List Int) (h1 : ∀ y ∈ s, 1 ≤ y) (h2 : s ≠ [] → ∀ y, s.getLast? = some y → 2 ≤ y) : 0 < (st (x :: s)).2 ∧ row (st (x :: s)).1 (st (x :: s)).2 = x :: s := by
  cases s with
  | nil =>
    show 0 < (1 : Int) ∧ row (x * 1 + 0) 1 = [x]
    refine ⟨by decide, ?_⟩
    rw [Int.mul_one, Int.add_zero, row_cons (by decide), Int.ediv_one, row_zero (by rw [Int.emod_one]; decide)]
  | cons z s =>
    obtain ⟨a, b, c⟩ := row_st_rest (z :: s) (List.cons_ne_nil _ _) h1 (h2 (List.cons_ne_nil _ _))
    generalize hst : st (z :: s) = ul at *
    obtain ⟨u, l⟩ := ul
    have e : st (x :: z :: s) = (x * u + l, u) := by
      show (x * (st (z :: s)).1 + (st (z :: s)).2, (st (z :: s)).1) = _
      rw [hst]
    rw [e]
    have a' : 0 < l := a
    have b' : l < u := b
    have c' : row u l = z :: s := c
    show 0 < u ∧ row (x * u + l) u = x :: z :: s
    have e1 : (x * u + l) / u = x := by
      rw [Int.add_comm, Int.add_mul_ediv_right _ _ (by omega), Int.ediv_eq_zero_of_lt (by omega) b', Int.zero_add]
    have e2 : (x * u + l) % u = l := by
      rw [Int.add_comm, Int.add_mul_emod_self_right, Int.emod_eq_of_lt (by omega) b']
    exact ⟨by omega, by rw [row_cons (by omega), e1, e2, c']⟩
/-- a last 1 goes into the one ahead -/
theorem st_merge : ∀ (s : List Int) (y : Int), st (s ++ [y, 1]) = st (s ++ [y + 1])
  | [], y => by
    show (y * (1 * 1 + 0) + 1, (1 * 1 + 0 : Int)) = ((y + 1) * 1 + 0, 1)
    rw [show (1 * 1 + 0 : Int) = 1 from rfl, Int.mul_one, Int.mul_one, Int.add_zero]
  | x :: s, y => by
    show (x * (st (s ++ [y, 1])).1 + (st (s ++ [y, 1])).2, (st (s ++ [y, 1])).1) = _
    rw [st_merge s y]
    rfl
theorem ediv_abs {u l : Int} (h : 0 < l) : (u / l).natAbs ≤ u.natAbs := by
  have h1 := Int.ediv_mul_add_emod u l
  have h2 := Int.emod_lt_of_pos u h
  have h3 := Int.emod_nonneg u (show l ≠ 0 by omega)
  by_cases hq : 0 ≤ u / l
  · have : (u / l) * 1 ≤ (u / l) * l := Int.mul_le_mul_of_nonneg_left (by omega) hq
    omega
  · have h4 : (u / l + 1) * l ≤ (u / l + 1) * 1 := by
      have h5 : (-(u / l + 1)) * 1 ≤ (-(u / l + 1)) * l := Int.mul_le_mul_of_nonneg_left (by omega) (by omega)
      rw [Int.neg_mul, Int.neg_mul] at h5
      omega
    rw [Int.add_mul, Int.one_mul] at h4
    omega
theorem row_mem {u l : Int} (h : 0 ≤ l) : ∀ y ∈ row u l, y.natAbs ≤ max u.natAbs l.natAbs := by
  intro y hy
  by_cases hl : 0 < l
  · have h2 := Int.emod_lt_of_pos u hl
    have h3 := Int.emod_nonneg u (show l ≠ 0 by omega)
    rw [row_cons hl] at hy
    rcases List.mem_cons.mp hy with rfl | hy
    · have := ediv_abs (u := u) hl
      omega
    · have := row_mem h3 y hy
      omega
  · rw [row_zero hl] at hy
    cases hy
termination_by l.toNat
decreasing_by omega
theorem row_drop {u l : Int} (h : 0 ≤ l) (h0 : 0 < l ∨ u = 1) (h1 : dv u l = 1) : ∀ j, (st ((row u l).drop j)).1.natAbs ≤ max u.natAbs (max l.natAbs 1) := by
  intro j
  cases j with
  | zero =>
    rw [List.drop_zero, st_row h h0 h1]
    show u.natAbs ≤ _
    omega
  | succ j =>
    by_cases hl : 0 < l
    · have h2 := Int.emod_lt_of_pos u hl
      have h3 := Int.emod_nonneg u (show l ≠ 0 by omega)
      have h4 : dv l (u % l) = 1 := by rw [dv_mod, h1]
      rw [row_cons hl, List.drop_succ_cons]
      have := row_drop (u := l) (l := u % l) h3 (by
        by_cases z : 0 < u % l
        · exact .inl z
        · right
          have e : u % l = 0 := by omega
          rw [e, dv_zero h] at h4
          exact h4) h4 j
      omega
    · rw [row_zero hl, List.drop_nil]
      show (1 : Int).natAbs ≤ _
      simp
      omega
termination_by l.toNat
decreasing_by omega
theorem st_abs : ∀ xs : List Int, (∀ y ∈ xs, y.natAbs ≤ 40) → (st xs).1.natAbs ≤ 41 ^ xs.length ∧ (st xs).2.natAbs ≤ 41 ^ xs.length
  | [], _ => ⟨Nat.le_refl 1, Nat.zero_le _⟩
  | x :: s, h => by
    obtain ⟨a, b⟩ := st_abs s fun y hy => h y (List.mem_cons_of_mem _ hy)
    have hx := h x List.mem_cons_self
    rw [List.length_cons, Nat.pow_succ]
    have h1 : (x * (st s).1).natAbs ≤ 40 * 41 ^ s.length := by
      rw [Int.natAbs_mul]
      exact Nat.mul_le_mul hx a
    exact ⟨by show (x * (st s).1 + (st s).2).natAbs ≤ _; omega, by show (st s).1.natAbs ≤ _; omega⟩
end RR
/-! RRS: the promises of the defs. -/
namespace RR
open PySem PySem.Spec PyProof.Rows L2
/-- within four thousand bits -/
structure Big (x : Int) : Prop where
  lt : x.natAbs < 2 ^ 4000
theorem big_of {x : Int} (h : x.natAbs < 2 ^ 60) : Big x := ⟨Nat.lt_of_lt_of_le h (Nat.pow_le_pow_right (by decide) (by decide))⟩
theorem big_le {x y : Int} (h : x.natAbs ≤ y.natAbs) (hy : Big y) : Big x := ⟨Nat.lt_of_le_of_lt h hy.lt⟩
theorem len1 {α : Type} {a : α} : [a].length ≤ sizeLine := small_le (show 1 ≤ 10000000 by decide)
theorem len2 {α : Type} {a b : α} : [a, b].length ≤ sizeLine := small_le (show 2 ≤ 10000000 by decide)
theorem len4 {α : Type} {a b c d : α} : [a, b, c, d].length ≤ sizeLine := small_le (show 4 ≤ 10000000 by decide)
theorem map_get {ns : List Int} {i : Nat} {x : V} (h : (ns.map V.int)[i]? = some x) : ∃ n, ns[i]? = some n ∧ x = .int n := by
  rw [List.getElem?_map] at h
  cases e : ns[i]? with
  | none =>
    rw [e] at h
    cases h
  | some n =>
    rw [e] at h
    exact ⟨n, rfl, (Option.some.inj h).symm⟩
theorem get_map {ns : List Int} {i : Nat} {n : Int} (h : ns[i]? = some n) : (ns.map V.int)[i]? = some (.int n) := by
  rw [List.getElem?_map, h]
  rfl
theorem Big.log {x : Int} (h : Big x) : x.natAbs.log2 < 4000 := PySem.Flt.log2_lt_of (by decide) h.lt
theorem Big.mul {x y : Int} (h : Big x) (h2 : Big y) : CMulW x y := by
  have h3 := h.log
  have h4 := h2.log
  unfold CMulW
  omega
/-- divisor -/
def sp_divisor : Sp := fun vs H Q _ => ∃ a b : Int, vs = [.int a, .int b] ∧ Q (.int (dv a b)) H
/-- lowest, as the laws have it (the lower one is not 0) -/
def sp_lowH : Sp := fun vs H Q _ => ∃ u l : Int, vs = [.int u, .int l] ∧ l ≠ 0 ∧ Big u ∧ Big l ∧ ∀ p, H p = none → Q (.ref p) (upd H p (tI [(low u l).1, (low u l).2]))
/-- lowest -/
def sp_lowest (C : Addr) : Sp := fun vs H Q E => ∃ u l : Int, vs = [.int u, .int l] ∧ Big u ∧ Big l ∧ (l = 0 → E (.ref C) none H) ∧ (l ≠ 0 → ∀ p, H p = none → Q (.ref p) (upd H p (tI [(low u l).1, (low u l).2])))
/-- a cell of the script -/
def cellOf (ns : List Int) (k : Nat) : Int := ns.getD k 0
def sp_cell (K : PySem.W.Frag) : Sp := fun vs H Q _ => ∃ (a : Addr) (ns : List Int) (k : Nat), vs = [.ref a, .int k] ∧ SqL K H a (ns.map V.int) ∧ k < 1000 ∧ Q (.int (cellOf ns k)) H
/-- a draw -/
def mix (c p m : Int) : Int := c * 48271 % p % m
def sp_mix : Sp := fun vs H Q _ => ∃ c p m : Int, vs = [.int c, .int p, .int m] ∧ 0 < p ∧ 0 < m ∧ Q (.int (mix c p m)) H
/-- a drawn fraction -/
def frac (c o w : Int) : Int × Int := low (mix c 1000003 (2 * w + 1) - w) (1 + mix o 999983 w)
def sp_fraction : Sp := fun vs H Q _ => ∃ c o w : Int, vs = [.int c, .int o, .int w] ∧ 0 < w ∧ w < 1000000 ∧ ∀ p, H p = none → Q (.ref p) (upd H p (tI [(frac c o w).1, (frac c o w).2]))
/-- fraction_of -/
def sp_fraction_of (C : Addr) : Sp := fun vs H Q E => ∃ (t : Addr) (xs : List Int), vs = [.ref t] ∧ H t = some (tI xs) ∧ xs.length ≤ 1000000 ∧
  (isRow xs = false → ∀ H', Same H H' → E (.ref C) none H') ∧
  (isRow xs = true → (∀ y ∈ xs, Big y) ∧ (∀ j, Big (st (xs.drop j)).1) ∧ ∀ H' p, Same H H' → H p = none → H' p = some (tI [(st xs).1, (st xs).2]) → Q (.ref p) H')
/-- way_to -/
def sp_way_to (C : Addr) : Sp := fun vs H Q E => ∃ (t : Addr) (u l : Int), vs = [.ref t] ∧ H t = some (tI [u, l]) ∧ (u < 1 → E (.ref C) none H) ∧
  (1 ≤ u → 1 ≤ l ∧ (way u l).length ≤ 1000000 ∧ ∀ H' p, Same H H' → H p = none → H' p = some (tI (way u l)) → Q (.ref p) H')
/-- middle -/
def sp_middle : Sp := fun vs H Q _ => ∃ (t u : Addr) (a b c d : Int), vs = [.ref t, .ref u] ∧ H t = some (tI [a, b]) ∧ H u = some (tI [c, d]) ∧ ∀ p, H p = none → Q (.ref p) (upd H p (tI [a + c, b + d]))
/-- where a way leads -/
def sp_walked : Sp := fun vs H Q _ => ∃ (t : Addr) (ws : List Int), vs = [.ref t] ∧ H t = some (tI ws) ∧ (∀ s ∈ ws, s = 0 ∨ s = 1) ∧ ∀ H' p, Same H H' → H p = none → H' p = some (tI [(bw ws).1, (bw ws).2]) → Q (.ref p) H'
/-- row_of -/
def sp_row_of : Sp := fun vs H Q _ => ∃ (t : Addr) (u l : Int), vs = [.ref t] ∧ H t = some (tI [u, l]) ∧ 0 < l ∧ Big l ∧ (row u l).length ≤ 1000000 ∧ ∀ H' p, Same H H' → H p = none → H' p = some (tI (row u l)) → Q (.ref p) H'
/-- a whole number -/
def sp_whole : Sp := fun vs H Q _ => ∃ z : Int, vs = [.int z] ∧ Q (.bl true) H
/-- a sequence of ints: a list or a tuple -/
def Sq (H : Hp) (t : Addr) (xs : List Int) : Prop := H t = some (tI xs) ∨ H t = some (lI xs)
theorem Sq.same {H H' : Hp} {t : Addr} {xs : List Int} (h : Sq H t xs) (s : Same H H') : Sq H' t xs := h.imp (s _ _) (s _ _)
/-- stands, by hand -/
def sp_stands : Sp := fun vs H Q _ => ∃ (t : Addr) (xs : List Int), vs = [.ref t] ∧ Sq H t xs ∧ xs ≠ [] ∧ xs.length ≤ 1000000 ∧ (∀ y ∈ xs, Big y) ∧ (∀ j, Big (st (xs.drop j)).1) ∧ ∀ H' p, Same H H' → H p = none → H' p = some (tI [(st xs).1, (st xs).2]) → Q (.ref p) H'
/-- first_parts of a fraction -/
def sp_first_parts0 : Sp := fun vs H Q _ => ∃ (t : Addr) (u l : Int) (k : Nat), vs = [.ref t, .int k] ∧ H t = some (tI [u, l]) ∧ 0 < l ∧ Big l ∧ (row u l).length ≤ 1000000 ∧ ∀ H' p, Same H H' → H p = none → H' p = some (tI ((row u l).take k)) → Q (.ref p) H'
end RR
/-! RRQ: squares, roots of square equations and their cuts: plain mathematics. -/
namespace RR

/-! ### square roots of whole numbers -/
def rtStep (r n : Nat) : Nat := if (2 * r + 1) * (2 * r + 1) ≤ n then 2 * r + 1 else 2 * r
def rtF : Nat → Nat → Nat
  | 0, _ => 0
  | k + 1, n => rtStep (rtF k (n / 4)) n
theorem rtF_spec : ∀ k n, n < 4 ^ k → rtF k n * rtF k n ≤ n ∧ n < (rtF k n + 1) * (rtF k n + 1)
  | 0, n, h => by
    have : n = 0 := by simpa using h
    subst this
    decide
  | k + 1, n, h => by
    have h4 : n / 4 < 4 ^ k := by
      rw [Nat.pow_succ] at h
      omega
    obtain ⟨a, b⟩ := rtF_spec k (n / 4) h4
    show rtStep (rtF k (n / 4)) n * rtStep (rtF k (n / 4)) n ≤ n ∧ n < (rtStep (rtF k (n / 4)) n + 1) * (rtStep (rtF k (n / 4)) n + 1)
    generalize rtF k (n / 4) = r at *
    unfold rtStep
    have e1 : (2 * r + 1) * (2 * r + 1) = 4 * (r * r) + 4 * r + 1 := by grind
    have e2 : 2 * r * (2 * r) = 4 * (r * r) := by grind
    have e3 : (r + 1) * (r + 1) = r * r + 2 * r + 1 := by grind
    have e4 : (2 * r + 1 + 1) * (2 * r + 1 + 1) = 4 * (r * r) + 8 * r + 4 := by grind
    split
    · rw [e4]
      omega
    · omega
/-- the whole root of n, for n from 0 on -/
def rt (n : Int) : Int := (rtF (n.toNat.log2 / 2 + 1) n.toNat : Nat)
theorem rt_spec {n : Int} (h : 0 ≤ n) : 0 ≤ rt n ∧ rt n * rt n ≤ n ∧ n < (rt n + 1) * (rt n + 1) := by
  have h1 : n.toNat < 4 ^ (n.toNat.log2 / 2 + 1) := by
    have h2 : n.toNat < 2 ^ (n.toNat.log2 + 1) := Nat.lt_log2_self
    refine Nat.lt_of_lt_of_le h2 ?_
    rw [show (4 : Nat) = 2 ^ 2 from rfl, ← Nat.pow_mul]
    exact Nat.pow_le_pow_right (by decide) (by omega)
  obtain ⟨a, b⟩ := rtF_spec _ _ h1
  unfold rt
  generalize rtF (n.toNat.log2 / 2 + 1) n.toNat = r at *
  refine ⟨Int.natCast_nonneg _, ?_, ?_⟩
  · have : (r : Int) * (r : Int) = ((r * r : Nat) : Int) := by simp
    omega
  · have : ((r : Int) + 1) * ((r : Int) + 1) = (((r + 1) * (r + 1) : Nat) : Int) := by simp
    omega
theorem sq_lt {a b : Int} (h : 0 ≤ b) (h2 : a * a < b * b) : a < b := by
  by_cases h3 : a < b
  · exact h3
  · have := Int.mul_self_le_mul_self h (show b ≤ a by omega)
    omega
theorem sq_le {a b : Int} (h : 0 ≤ b) (h2 : a * a ≤ b * b) : a ≤ b := by
  by_cases h3 : a ≤ b
  · exact h3
  · have := Int.mul_self_lt_mul_self h (show b < a by omega)
    omega
theorem sq_lt' {a b : Int} (h : 0 ≤ b) (h2 : a * a < b * b) : -b < a := by
  have := sq_lt (a := -a) h (by rw [Int.neg_mul_neg]; exact h2)
  omega
theorem rt_unique {n r : Int} (h : 0 ≤ r) (h1 : r * r ≤ n) (h2 : n < (r + 1) * (r + 1)) : rt n = r := by
  have h0 : 0 ≤ n := Int.le_trans (Int.mul_nonneg h h) h1
  obtain ⟨a, b, c⟩ := rt_spec h0
  have x1 := sq_lt (a := r) (b := rt n + 1) (by omega) (by omega)
  have x2 := sq_lt (a := rt n) (b := r + 1) (by omega) (by omega)
  omega
theorem rt_le {n : Int} (h : 0 ≤ n) : rt n ≤ n := by
  obtain ⟨a, b, c⟩ := rt_spec h
  by_cases h1 : rt n ≤ 0
  · omega
  · have : rt n * 1 ≤ rt n * rt n := Int.mul_le_mul_of_nonneg_left (by omega) a
    omega
/-- whether n is a square -/
def isSq (n : Int) : Bool := decide (rt n * rt n = n)
theorem isSq_of {n x : Int} (h : x * x = n) : isSq n = true := by
  have key : ∀ y : Int, 0 ≤ y → y * y = n → isSq n = true := fun y hy h => by
    have e : rt n = y := rt_unique hy (by omega) (by
      have : (y + 1) * (y + 1) = y * y + 2 * y + 1 := by grind
      omega)
    unfold isSq
    rw [e]
    exact decide_eq_true h
  by_cases h0 : 0 ≤ x
  · exact key x h0 h
  · exact key (-x) (by omega) (by rw [Int.neg_mul_neg]; exact h)
/-- Newton: one step down from above -/
theorem newton {n f : Int} (hn : 2 ≤ n) (hf : 1 ≤ f) : 1 ≤ (f + n / f) / 2 ∧ n < ((f + n / f) / 2 + 1) * ((f + n / f) / 2 + 1) ∧ (f ≤ (f + n / f) / 2 → f * f ≤ n) := by
  have h1 := Int.ediv_mul_add_emod n f
  have h2 := Int.emod_lt_of_pos n (show 0 < f by omega)
  have h3 := Int.emod_nonneg n (show f ≠ 0 by omega)
  have hq : 0 ≤ n / f := Int.ediv_nonneg (by omega) (by omega)
  have hq1 : f = 1 → n / f = n := fun e => by rw [e, Int.ediv_one]
  generalize n / f = q at *
  generalize n % f = r at *
  generalize hg : (f + q) / 2 = g at *
  have hg1 : f + q ≤ 2 * g + 1 := by omega
  have hg2 : 2 * g ≤ f + q := by omega
  refine ⟨by omega, ?_, fun h => ?_⟩
  · have x1 : 0 ≤ (f - (q + 1)) * (f - (q + 1)) := by
      by_cases hh : 0 ≤ f - (q + 1)
      · exact Int.mul_nonneg hh hh
      · have := Int.mul_nonneg (show 0 ≤ -(f - (q + 1)) by omega) (show 0 ≤ -(f - (q + 1)) by omega)
        rw [Int.neg_mul_neg] at this
        exact this
    have x2 : (f + q + 1) * (f + q + 1) ≤ (2 * g + 2) * (2 * g + 2) := Int.mul_self_le_mul_self (by omega) (by omega)
    have x3 : (2 * g + 2) * (2 * g + 2) = 4 * ((g + 1) * (g + 1)) := by grind
    have x4 : (f - (q + 1)) * (f - (q + 1)) = (f + q + 1) * (f + q + 1) - 4 * (q * f) - 4 * f := by grind
    omega
  · have x1 : f * f ≤ q * f := Int.mul_le_mul_of_nonneg_right (by omega) (by omega)
    omega
/-! ### no square is d times a square -/
theorem no_sq {d x y : Int} (h : isSq d = false) (e : x * x = d * (y * y)) : y = 0 := by
  by_cases hy : y = 0
  · exact hy
  exfalso
  have h1 : y * y ∣ x * x := ⟨d, by rw [e, Int.mul_comm]⟩
  have h2 : y ^ 2 ∣ x ^ 2 := by
    rw [Int.pow_succ, Int.pow_succ, Int.pow_succ, Int.pow_succ]
    simpa using h1
  obtain ⟨k, rfl⟩ := (Int.pow_dvd_pow_iff (by decide)).mp h2
  have h3 : (y * y) * (k * k) = (y * y) * d := by grind
  have h4 : y * y ≠ 0 := by
    intro z
    rcases Int.mul_eq_zero.mp z with z | z <;> exact hy z
  have h5 := Int.eq_of_mul_eq_mul_left h4 h3
  rw [isSq_of h5] at h
  cases h
/-! ### whole numbers and a root: x + y times the root of d, in order -/
/-- d is above 0 and no square -/
structure Ns (d : Int) : Prop where
  pos : 0 < d
  no : isSq d = false
def nm (d x y : Int) : Int := x * x - d * (y * y)
/-- x + y times the root of d is above 0 -/
def Ps (d x y : Int) : Prop := (0 < nm d x y ∧ 0 < x) ∨ (nm d x y < 0 ∧ 0 < y)
theorem nm_zero {d x y : Int} (h : Ns d) (e : nm d x y = 0) : x = 0 ∧ y = 0 := by
  have hy : y = 0 := no_sq (x := x) h.no (by unfold nm at e; omega)
  subst hy
  have : x * x = 0 := by unfold nm at e; omega
  rcases Int.mul_eq_zero.mp this with z | z <;> exact ⟨z, rfl⟩
theorem nm_mul (d x y z w : Int) : nm d (x * z + d * (y * w)) (x * w + y * z) = nm d x y * nm d z w := by
  unfold nm
  grind
theorem sqn (x : Int) : 0 ≤ x * x := by
  by_cases h : 0 ≤ x
  · exact Int.mul_nonneg h h
  · have := Int.mul_nonneg (show 0 ≤ -x by omega) (show 0 ≤ -x by omega)
    rw [Int.neg_mul_neg] at this
    exact this
theorem sqp {x : Int} (h : x ≠ 0) : 0 < x * x := by
  have h1 := sqn x
  have h2 : x * x ≠ 0 := fun z => by rcases Int.mul_eq_zero.mp z with z | z <;> exact h z
  omega
theorem Ps.ne {d x y : Int} (h : Ps d x y) : ¬ (x = 0 ∧ y = 0) := by
  rintro ⟨rfl, rfl⟩
  rcases h with ⟨_, h⟩ | ⟨_, h⟩ <;> exact absurd h (by decide)
theorem nm_neg (d x y : Int) : nm d (-x) (-y) = nm d x y := by
  unfold nm
  grind
theorem Ps.neg {d x y : Int} (h : Ps d x y) : ¬ Ps d (-x) (-y) := by
  intro k
  unfold Ps at h k
  rw [nm_neg] at k
  omega
theorem Ps.tri {d x y : Int} (h : Ns d) (h0 : ¬ (x = 0 ∧ y = 0)) : Ps d x y ∨ Ps d (-x) (-y) := by
  unfold Ps
  rw [nm_neg]
  have h1 : nm d x y ≠ 0 := fun z => h0 (nm_zero h z)
  by_cases hn : 0 < nm d x y
  · have : x ≠ 0 := by
      rintro rfl
      have h2 : 0 ≤ d * (y * y) := Int.mul_nonneg (Int.le_of_lt h.pos) (sqn y)
      unfold nm at hn
      omega
    omega
  · have : y ≠ 0 := by
      rintro rfl
      have h2 := sqn x
      have e0 : d * (0 * 0) = 0 := by simp
      unfold nm at hn h1
      rw [e0] at hn h1
      omega
    omega
theorem Ps.int {d n : Int} (h : 0 < n) : Ps d n 0 := by
  refine .inl ⟨?_, h⟩
  unfold nm
  have := Int.mul_pos h h
  simp
  exact this
theorem Ps.root {d n : Int} (hd : 0 < d) (h : 0 < n) : Ps d 0 n := by
  refine .inr ⟨?_, h⟩
  unfold nm
  have := Int.mul_pos hd (Int.mul_pos h h)
  omega
theorem abs_lt_of_sq {p q : Int} (hq : 0 < q) (h : p * p < q * q) : -q < p ∧ p < q := ⟨sq_lt' (Int.le_of_lt hq) h, sq_lt (Int.le_of_lt hq) h⟩
theorem Ps.mul {d x y z w : Int} (hd : Ns d) (h : Ps d x y) (k : Ps d z w) : Ps d (x * z + d * (y * w)) (x * w + y * z) := by
  have key : ∀ x y z w : Int, 0 < nm d x y → 0 < x → nm d z w < 0 → 0 < w → nm d (x * z + d * (y * w)) (x * w + y * z) < 0 ∧ 0 < x * w + y * z := by
    intro x y z w a b c e
    refine ⟨by rw [nm_mul]; exact Int.mul_neg_of_pos_of_neg a c, ?_⟩
    have h1 : (y * z) * (y * z) < (x * w) * (x * w) := by
      unfold nm at a c
      have c1 : z * z < d * (w * w) := by omega
      have a1 : d * (y * y) < x * x := by omega
      have k1 : (d * (y * y)) * (z * z) ≤ (x * x) * (z * z) := Int.mul_le_mul_of_nonneg_right (by omega) (sqn z)
      have k2 : (x * x) * (z * z) < (x * x) * (d * (w * w)) := Int.mul_lt_mul_of_pos_left c1 (Int.mul_pos b b)
      have k3 : d * ((y * z) * (y * z)) < d * ((x * w) * (x * w)) := by
        have e1 : d * ((y * z) * (y * z)) = (d * (y * y)) * (z * z) := by grind
        have e2 : d * ((x * w) * (x * w)) = (x * x) * (d * (w * w)) := by grind
        omega
      exact Int.lt_of_mul_lt_mul_left k3 (Int.le_of_lt hd.pos)
    have := abs_lt_of_sq (Int.mul_pos b e) h1
    omega
  rcases h with ⟨a, b⟩ | ⟨a, b⟩ <;> rcases k with ⟨c, e⟩ | ⟨c, e⟩
  · refine .inl ⟨by rw [nm_mul]; exact Int.mul_pos a c, ?_⟩
    have h1 : (d * (y * w)) * (d * (y * w)) < (x * z) * (x * z) := by
      unfold nm at a c
      have a1 : d * (y * y) < x * x := by omega
      have c1 : d * (w * w) < z * z := by omega
      have n1 : 0 ≤ d * (w * w) := Int.mul_nonneg (Int.le_of_lt hd.pos) (sqn w)
      have k1 : (d * (y * y)) * (d * (w * w)) ≤ (x * x) * (d * (w * w)) := Int.mul_le_mul_of_nonneg_right (by omega) n1
      have k2 : (x * x) * (d * (w * w)) < (x * x) * (z * z) := Int.mul_lt_mul_of_pos_left c1 (Int.mul_pos b b)
      have e1 : (d * (y * w)) * (d * (y * w)) = (d * (y * y)) * (d * (w * w)) := by grind
      have e2 : (x * z) * (x * z) = (x * x) * (z * z) := by grind
      omega
    have := abs_lt_of_sq (Int.mul_pos b e) h1
    omega
  · exact .inr (key x y z w a b c e)
  · have := key z w x y c e a b
    refine .inr ?_
    rw [show x * z + d * (y * w) = z * x + d * (w * y) by grind, show x * w + y * z = z * y + w * x by grind]
    exact this
  · refine .inl ⟨by rw [nm_mul]; exact Int.mul_pos_of_neg_of_neg a c, ?_⟩
    have h1 : (x * z) * (x * z) < (d * (y * w)) * (d * (y * w)) := by
      unfold nm at a c
      have a1 : x * x < d * (y * y) := by omega
      have c1 : z * z < d * (w * w) := by omega
      have n1 : 0 < d * (y * y) := Int.mul_pos hd.pos (Int.mul_pos b b)
      have k1 : (x * x) * (z * z) ≤ (d * (y * y)) * (z * z) := Int.mul_le_mul_of_nonneg_right (by omega) (sqn z)
      have k2 : (d * (y * y)) * (z * z) < (d * (y * y)) * (d * (w * w)) := Int.mul_lt_mul_of_pos_left c1 n1
      have e1 : (d * (y * w)) * (d * (y * w)) = (d * (y * y)) * (d * (w * w)) := by grind
      have e2 : (x * z) * (x * z) = (x * x) * (z * z) := by grind
      omega
    have := abs_lt_of_sq (Int.mul_pos hd.pos (Int.mul_pos b e)) h1
    omega
/-- divided by what is above 0 -/
theorem Ps.div {d x y z w : Int} (hd : Ns d) (h : Ps d (x * z + d * (y * w)) (x * w + y * z)) (k : Ps d z w) : Ps d x y := by
  by_cases h0 : x = 0 ∧ y = 0
  · obtain ⟨rfl, rfl⟩ := h0
    exact absurd ⟨by simp, by simp⟩ h.ne
  · rcases Ps.tri hd h0 with h1 | h1
    · exact h1
    · have h2 := Ps.mul hd h1 k
      rw [show -x * z + d * (-y * w) = -(x * z + d * (y * w)) by grind, show -x * w + -y * z = -(x * w + y * z) by grind] at h2
      exact absurd h2 h.neg
theorem Ps.addN {d x y n : Int} (hd : Ns d) (h : Ps d x y) (hn : 0 ≤ n) : Ps d (x + n) y := by
  rcases h with ⟨a, b⟩ | ⟨a, b⟩
  · refine .inl ⟨?_, by omega⟩
    have := Int.mul_self_le_mul_self (show 0 ≤ x by omega) (show x ≤ x + n by omega)
    unfold nm at *
    omega
  · by_cases h1 : nm d (x + n) y < 0
    · exact .inr ⟨h1, b⟩
    · have h2 : nm d (x + n) y ≠ 0 := fun z => by have := (nm_zero hd z).2; omega
      refine .inl ⟨by omega, ?_⟩
      have h3 : x * x < (x + n) * (x + n) := by
        unfold nm at *
        omega
      by_cases h4 : 0 < x + n
      · exact h4
      · exfalso
        have := Int.mul_self_le_mul_self (show 0 ≤ -(x + n) by omega) (show -(x + n) ≤ -x by omega)
        rw [Int.neg_mul_neg, Int.neg_mul_neg] at this
        omega
theorem Ps.add {d x y z w : Int} (hd : Ns d) (h : Ps d x y) (k : Ps d z w) : Ps d (x + z) (y + w) := by
  by_cases hn : 0 < nm d x y
  · have hx : 0 < x := by
      rcases h with ⟨a, b⟩ | ⟨a, b⟩ <;> omega
    have hc : Ps d x (-y) := .inl ⟨by unfold nm at *; rw [Int.neg_mul_neg]; exact hn, hx⟩
    have h1 := Ps.addN hd (Ps.mul hd k hc) (Int.le_of_lt hn)
    refine Ps.div hd (z := x) (w := -y) ?_ hc
    rw [show (x + z) * x + d * ((y + w) * -y) = z * x + d * (w * -y) + nm d x y by unfold nm; grind, show (x + z) * -y + (y + w) * x = z * -y + w * x by grind]
    exact h1
  · have h0 : nm d x y ≠ 0 := fun z => h.ne (nm_zero hd z)
    have hy : 0 < y := by
      rcases h with ⟨a, b⟩ | ⟨a, b⟩ <;> omega
    have hc : Ps d (-x) y := .inr ⟨by unfold nm at *; rw [Int.neg_mul_neg]; omega, hy⟩
    have h1 := Ps.addN hd (Ps.mul hd k hc) (n := -nm d x y) (by omega)
    refine Ps.div hd (z := -x) (w := y) ?_ hc
    rw [show (x + z) * -x + d * ((y + w) * y) = z * -x + d * (w * y) + -nm d x y by unfold nm; grind, show (x + z) * y + (y + w) * -x = z * y + w * -x by grind]
    exact h1
theorem Ps.smul {d x y n : Int} (hd : Ns d) (h : Ps d x y) (hn : 0 < n) : Ps d (n * x) (n * y) := by
  have := Ps.mul hd (Ps.int hn) h
  rw [show n * x + d * (0 * y) = n * x by grind, show n * y + 0 * x = n * y by grind] at this
  exact this
theorem Ps.sdiv {d x y n : Int} (hd : Ns d) (h : Ps d (n * x) (n * y)) (hn : 0 < n) : Ps d x y := by
  refine Ps.div hd (z := n) (w := 0) ?_ (Ps.int hn)
  rw [show x * n + d * (y * 0) = n * x by grind, show x * 0 + y * n = n * y by grind]
  exact h
end RR
/-! RRC: numbers as (p + q times the root of d) divided by r, and how fractions lie to them: plain mathematics. -/
namespace RR
def fm (a b c u l : Int) : Int := a * u * u + b * u * l + c * l * l
def ht (a b c : Int) : Int := b * b - 4 * a * c
/-- whether a root is greater than u divided by l, as both the program and the laws have it -/
def ab (a b c s u l : Int) : Bool := if s = 1 then !decide (0 < 2 * a * u + b * l) || decide (fm a b c u l < 0) else !decide (0 < 2 * a * u + b * l) && decide (0 < fm a b c u l)
def sg (s : Int) : Int := 2 * s - 1
structure IsR (a b c s : Int) : Prop where
  ha : 0 < a
  hs : s = 0 ∨ s = 1
  g : dv (dv a b) c = 1
  n : Ns (ht a b c)
theorem fm_nm (a b c u l s : Int) (hs : s = 0 ∨ s = 1) : nm (ht a b c) (-(2 * a * u + b * l)) (sg s * l) = 4 * a * fm a b c u l := by
  unfold nm ht fm sg
  rcases hs with rfl | rfl <;> grind
theorem ab_ps {a b c s u l : Int} (ha : 0 < a) (hs : s = 0 ∨ s = 1) (hn : Ns (ht a b c)) (hl : 0 < l) : ab a b c s u l = true ↔ Ps (ht a b c) (-(2 * a * u + b * l)) (sg s * l) := by
  unfold Ps
  rw [fm_nm a b c u l s hs]
  have hd : 0 < ht a b c * (l * l) := Int.mul_pos hn.pos (Int.mul_pos hl hl)
  have e : 4 * a * fm a b c u l = (2 * a * u + b * l) * (2 * a * u + b * l) - ht a b c * (l * l) := by
    unfold fm ht
    grind
  have hf : 0 < fm a b c u l → 0 < 4 * a * fm a b c u l := fun h => Int.mul_pos (by omega) h
  have hf2 : fm a b c u l < 0 → 4 * a * fm a b c u l < 0 := fun h => Int.mul_neg_of_pos_of_neg (by omega) h
  have hf3 : fm a b c u l = 0 → False := fun h => by
    have h2 : nm (ht a b c) (-(2 * a * u + b * l)) (sg s * l) = 0 := by rw [fm_nm a b c u l s hs, h, Int.mul_zero]
    have := (nm_zero hn h2).2
    rcases hs with rfl | rfl <;> (unfold sg at this; omega)
  have hw : 2 * a * u + b * l = 0 → 4 * a * fm a b c u l < 0 := fun h => by
    rw [e, h]
    omega
  have hc : (0 < fm a b c u l ∧ 0 < 4 * a * fm a b c u l) ∨ (fm a b c u l < 0 ∧ 4 * a * fm a b c u l < 0) := by
    by_cases h1 : 0 < fm a b c u l
    · exact .inl ⟨h1, hf h1⟩
    · by_cases h2 : fm a b c u l = 0
      · exact (hf3 h2).elim
      · exact .inr ⟨by omega, hf2 (by omega)⟩
  have hw2 : 2 * a * u + b * l ≠ 0 ∨ 4 * a * fm a b c u l < 0 := by
    by_cases h1 : 2 * a * u + b * l = 0
    · exact .inr (hw h1)
    · exact .inl h1
  clear hf hf2 hf3 hw
  unfold ab
  generalize 4 * a * fm a b c u l = g at *
  generalize 2 * a * u + b * l = w at *
  generalize fm a b c u l = f at *
  rcases hs with rfl | rfl
  · rw [if_neg (by decide)]
    simp [sg]
    omega
  · rw [if_pos rfl]
    simp [sg]
    omega
/-- u divided by l is less than the number -/
def Ov (d p q r u l : Int) : Prop := Ps d (p * l - u * r) (q * l)
/-- u divided by l is greater than the number -/
def Be (d p q r u l : Int) : Prop := Ps d (u * r - p * l) (-(q * l))
theorem ab_ov {a b c s u l : Int} (R : IsR a b c s) (hl : 0 < l) : ab a b c s u l = true ↔ Ov (ht a b c) (-b) (sg s) (2 * a) u l := by
  rw [ab_ps R.ha R.hs R.n hl]
  unfold Ov
  rw [show -b * l - u * (2 * a) = -(2 * a * u + b * l) by grind]
theorem sg_ne {s : Int} (h : s = 0 ∨ s = 1) : sg s ≠ 0 := by
  rcases h with rfl | rfl <;> decide
theorem ab_be {a b c s u l : Int} (R : IsR a b c s) (hl : 0 < l) : ab a b c s u l = false ↔ Be (ht a b c) (-b) (sg s) (2 * a) u l := by
  have h1 := ab_ov (u := u) R hl
  unfold Ov at h1
  unfold Be
  rw [show u * (2 * a) - -b * l = -(-b * l - u * (2 * a)) by grind]
  constructor
  · intro h
    have h2 : ¬ (-b * l - u * (2 * a) = 0 ∧ sg s * l = 0) := fun z => by
      rcases Int.mul_eq_zero.mp z.2 with z | z
      · exact sg_ne R.hs z
      · omega
    rcases Ps.tri R.n h2 with h3 | h3
    · rw [h1.mpr h3] at h
      cases h
    · exact h3
  · intro h
    cases e : ab a b c s u l with
    | false => rfl
    | true => exact absurd h (h1.mp e).neg
section
variable {d p q r : Int}
theorem Ov.not {u l : Int} (h : Ov d p q r u l) : ¬ Be d p q r u l := by
  unfold Ov at h
  unfold Be
  rw [show u * r - p * l = -(p * l - u * r) by grind]
  exact h.neg
/-- what is less than a lower one is lower -/
theorem Ov.le {u l v m : Int} (hd : Ns d) (hr : 0 < r) (hl : 0 < l) (hm : 0 < m) (h : Ov d p q r u l) (k : v * l ≤ u * m) : Ov d p q r v m := by
  unfold Ov at *
  have h1 := Ps.addN hd (Ps.smul hd h hm) (n := r * (u * m - v * l)) (Int.mul_nonneg (Int.le_of_lt hr) (by omega))
  refine Ps.sdiv hd (n := l) ?_ hl
  rw [show l * (p * m - v * r) = m * (p * l - u * r) + r * (u * m - v * l) by grind, show l * (q * m) = m * (q * l) by grind]
  exact h1
theorem Be.le {u l v m : Int} (hd : Ns d) (hr : 0 < r) (hl : 0 < l) (hm : 0 < m) (h : Be d p q r u l) (k : u * m ≤ v * l) : Be d p q r v m := by
  unfold Be at *
  have h1 := Ps.addN hd (Ps.smul hd h hm) (n := r * (v * l - u * m)) (Int.mul_nonneg (Int.le_of_lt hr) (by omega))
  refine Ps.sdiv hd (n := l) ?_ hl
  rw [show l * (v * r - p * m) = m * (u * r - p * l) + r * (v * l - u * m) by grind, show l * -(q * m) = m * -(q * l) by grind]
  exact h1
/-- of one above and one below -/
theorem ov_be_lt {u l v m : Int} (hd : Ns d) (hr : 0 < r) (hl : 0 < l) (hm : 0 < m) (h : Ov d p q r u l) (k : Be d p q r v m) : u * m < v * l := by
  by_cases e : u * m < v * l
  · exact e
  · exact absurd k (Ov.le hd hr hl hm h (by omega)).not
end
/-- the part of a root -/
def partR (a b c s : Int) : Int := if s = 0 then (0 - rt (ht a b c) - 1 - b) / (2 * a) else (rt (ht a b c) - b) / (2 * a)
theorem fl {x y : Int} (h : 0 < y) : x / y * y ≤ x ∧ x < (x / y + 1) * y := by
  have h1 := Int.ediv_mul_add_emod x y
  have h2 := Int.emod_lt_of_pos x h
  have h3 := Int.emod_nonneg x (show y ≠ 0 by omega)
  rw [Int.add_mul]
  omega
theorem rt_lt {d : Int} (h : Ns d) : rt d * rt d < d := by
  obtain ⟨a, b, c⟩ := rt_spec (Int.le_of_lt h.pos)
  have : rt d * rt d ≠ d := fun z => by
    have h2 := isSq_of z
    rw [h.no] at h2
    cases h2
  omega
/-- z plus the root -/
theorem ps_up {d z : Int} (h : Ns d) (k : -(rt d) ≤ z) : Ps d z 1 := by
  have h1 := rt_lt h
  have h0 := (rt_spec (Int.le_of_lt h.pos)).1
  unfold Ps nm
  rw [show d * (1 * 1) = d by simp]
  by_cases e : z * z < d
  · right; omega
  · left
    have e2 : z * z ≠ d := fun y => by
      have h2 := isSq_of y
      rw [h.no] at h2
      cases h2
    refine ⟨by omega, ?_⟩
    by_cases e3 : 0 < z
    · exact e3
    · have := Int.mul_self_le_mul_self (show 0 ≤ -z by omega) (show -z ≤ rt d by omega)
      rw [Int.neg_mul_neg] at this
      omega
theorem ps_dn {d z : Int} (h : Ns d) (k : rt d + 1 ≤ z) : Ps d z (-1) := by
  have h0 := (rt_spec (Int.le_of_lt h.pos))
  have := Int.mul_self_le_mul_self (show 0 ≤ rt d + 1 by omega) k
  left
  unfold nm
  rw [show d * (-1 * -1) = d by simp]
  omega
theorem part_ov {a b c s : Int} (R : IsR a b c s) : Ov (ht a b c) (-b) (sg s) (2 * a) (partR a b c s) 1 ∧ Be (ht a b c) (-b) (sg s) (2 * a) (partR a b c s + 1) 1 := by
  have hd := R.n
  have ha := R.ha
  unfold partR Ov Be
  generalize ht a b c = d at *
  rcases R.hs with rfl | rfl
  · rw [if_pos rfl]
    obtain ⟨h1, h2⟩ := fl (x := 0 - rt d - 1 - b) (y := 2 * a) (by omega)
    generalize (0 - rt d - 1 - b) / (2 * a) = z at *
    exact ⟨ps_dn hd (by omega), ps_up hd (by omega)⟩
  · rw [if_neg (by decide)]
    obtain ⟨h1, h2⟩ := fl (x := rt d - b) (y := 2 * a) (by omega)
    generalize (rt d - b) / (2 * a) = z at *
    exact ⟨ps_up hd (by omega), ps_dn hd (by omega)⟩
/-! ### 1 divided by a root less a whole number -/
def mvC (a b c n : Int) : Int := a * n * n + b * n + c
def tnA (a b c n : Int) : Int := if 0 < mvC a b c n then mvC a b c n else -mvC a b c n
def tnB (a b c n : Int) : Int := if 0 < mvC a b c n then b + 2 * a * n else -(b + 2 * a * n)
def tnC (a b c n : Int) : Int := if 0 < mvC a b c n then a else -a
def tnS (a b c s n : Int) : Int := if 0 < mvC a b c n then 1 - s else s
theorem mv_ht (a b c n : Int) : ht a (b + 2 * a * n) (mvC a b c n) = ht a b c := by
  unfold ht mvC
  grind
theorem mvC_ne {a b c n : Int} (h : Ns (ht a b c)) : mvC a b c n ≠ 0 := fun z => by
  have e := mv_ht a b c n
  rw [z] at e
  have h2 := h.no
  rw [isSq_of (x := b + 2 * a * n) (by rw [← e]; unfold ht; simp)] at h2
  cases h2
theorem dv3 {a b c k : Int} (h : dv (dv a b) c = 1) (h1 : k ∣ a) (h2 : k ∣ b) (h3 : k ∣ c) (h0 : 0 ≤ k) : k = 1 := by
  have h4 : k ∣ 1 := by
    rw [← h]
    exact dvd_dv (dvd_dv h1 h2) h3
  exact Int.eq_one_of_dvd_one h0 h4
theorem dv3_dvd (a b c : Int) : dv (dv a b) c ∣ a ∧ dv (dv a b) c ∣ b ∧ dv (dv a b) c ∣ c :=
  ⟨Int.dvd_trans (dv_dvd_left _ _) (dv_dvd_left _ _), Int.dvd_trans (dv_dvd_left _ _) (dv_dvd_right _ _), dv_dvd_right _ _⟩
theorem mv_dv {a b c : Int} (n : Int) (h : dv (dv a b) c = 1) : dv (dv (mvC a b c n) (b + 2 * a * n)) a = 1 := by
  obtain ⟨h1, h2, h3⟩ := dv3_dvd (mvC a b c n) (b + 2 * a * n) a
  have h0 := dv_nonneg (dv (mvC a b c n) (b + 2 * a * n)) a
  generalize dv (dv (mvC a b c n) (b + 2 * a * n)) a = k at *
  have k2 : k ∣ b := by
    have := Int.dvd_sub h2 (Int.dvd_trans h3 (Int.dvd_mul_right a (2 * n)))
    rw [show b + 2 * a * n - a * (2 * n) = b by grind] at this
    exact this
  have k3 : k ∣ c := by
    have := Int.dvd_sub (Int.dvd_sub h1 (Int.dvd_trans h3 (Int.dvd_mul_right a (n * n)))) (Int.dvd_trans k2 (Int.dvd_mul_right b n))
    rw [show mvC a b c n - a * (n * n) - b * n = c by unfold mvC; grind] at this
    exact this
  exact dv3 h h3 k2 k3 h0
theorem tn_ht (a b c n : Int) : ht (tnA a b c n) (tnB a b c n) (tnC a b c n) = ht a b c := by
  rw [← mv_ht a b c n]
  unfold tnA tnB tnC ht
  split <;> grind
theorem tn_isR {a b c s : Int} (n : Int) (R : IsR a b c s) : IsR (tnA a b c n) (tnB a b c n) (tnC a b c n) (tnS a b c s n) := by
  have h0 := mvC_ne (n := n) R.n
  have hg := mv_dv n R.g
  refine ⟨?_, ?_, ?_, by rw [tn_ht]; exact R.n⟩
  · unfold tnA
    split <;> omega
  · have := R.hs
    unfold tnS
    split <;> omega
  · unfold tnA tnB tnC
    split
    · exact hg
    · rw [dv_neg_left, dv_neg_right, dv_neg_right]
      exact hg
theorem sg_inv {s : Int} (h : s = 0 ∨ s = 1) : sg (1 - s) = -sg s := by
  rcases h with rfl | rfl <;> decide
theorem sg_sq {s : Int} (h : s = 0 ∨ s = 1) : sg s * sg s = 1 := by
  rcases h with rfl | rfl <;> decide
/-- the signs of a product -/
theorem ps_sign {d x y z w v t : Int} (hd : Ns d) (e1 : v = x * z + d * (y * w)) (e2 : t = x * w + y * z) (k : Ps d z w) : Ps d v t ↔ Ps d x y := by
  constructor
  · intro h
    rw [e1, e2] at h
    exact Ps.div hd h k
  · intro h
    rw [e1, e2]
    exact Ps.mul hd h k
/-- what the turned one is greater than, by products: t (the turned one less u / l), a (the root less n), m (what is left) -/
theorem tn_key {a b c s n u l : Int} (R : IsR a b c s) : ∃ k : Int, 0 < k ∧
    k * (2 * a * l + (b + 2 * a * n) * u) = (-tnB a b c n * l - u * (2 * tnA a b c n)) * (-b - n * (2 * a)) + ht a b c * (sg (tnS a b c s n) * l * sg s) ∧
    k * -(sg s * u) = (-tnB a b c n * l - u * (2 * tnA a b c n)) * sg s + sg (tnS a b c s n) * l * (-b - n * (2 * a)) := by
  have h0 := mvC_ne (n := n) R.n
  have hs := sg_sq R.hs
  have e : ht a b c = (b + 2 * a * n) * (b + 2 * a * n) - 4 * a * mvC a b c n := by
    rw [← mv_ht a b c n]
    rfl
  rw [e, show -b - n * (2 * a) = -(b + 2 * a * n) by grind]
  unfold tnA tnB tnS
  generalize mvC a b c n = C at *
  generalize b + 2 * a * n = B at *
  split
  · rename_i hC
    rw [sg_inv R.hs]
    generalize sg s = σ at *
    refine ⟨2 * C, by omega, ?_, ?_⟩ <;> grind
  · rename_i hC
    generalize sg s = σ at *
    refine ⟨2 * -C, by omega, ?_, ?_⟩ <;> grind
/-- Ov of a root, in short -/
abbrev OvR (a b c s u l : Int) : Prop := Ov (ht a b c) (-b) (sg s) (2 * a) u l
abbrev BeR (a b c s u l : Int) : Prop := Be (ht a b c) (-b) (sg s) (2 * a) u l
theorem root_tri {a b c s u l : Int} (R : IsR a b c s) (hl : 0 < l) : OvR a b c s u l ∨ BeR a b c s u l := by
  cases e : ab a b c s u l with
  | true => exact .inl ((ab_ov R hl).mp e)
  | false => exact .inr ((ab_be R hl).mp e)
/-- the turned one's signs: with t, a, m as in tn_key -/
theorem tn_sign {a b c s n u l : Int} (R : IsR a b c s) (hl : 0 < l) :
    (OvR a b c s n 1 → (OvR (tnA a b c n) (tnB a b c n) (tnC a b c n) (tnS a b c s n) u l ↔ Ps (ht a b c) (2 * a * l + (b + 2 * a * n) * u) (-(sg s * u)))) ∧
    (BeR a b c s n 1 → (BeR (tnA a b c n) (tnB a b c n) (tnC a b c n) (tnS a b c s n) u l ↔ Ps (ht a b c) (2 * a * l + (b + 2 * a * n) * u) (-(sg s * u)))) := by
  obtain ⟨k, hk, e1, e2⟩ := tn_key (n := n) (u := u) (l := l) R
  have hm : ∀ x y : Int, Ps (ht a b c) (k * x) (k * y) ↔ Ps (ht a b c) x y := fun x y => ⟨fun h => Ps.sdiv R.n h hk, fun h => Ps.smul R.n h hk⟩
  constructor
  · intro h
    unfold OvR Ov at *
    rw [tn_ht, ← hm (2 * a * l + (b + 2 * a * n) * u) (-(sg s * u)), e1, e2]
    rw [Int.mul_one, Int.mul_one] at h
    exact (ps_sign R.n (by grind) (by grind) h).symm
  · intro h
    unfold BeR Be at *
    rw [tn_ht, ← hm (2 * a * l + (b + 2 * a * n) * u) (-(sg s * u)), e1, e2]
    rw [Int.mul_one, Int.mul_one] at h
    refine (ps_sign R.n ?_ ?_ h).symm
    · grind
    · grind
theorem tn_up {a b c s n u l : Int} (R : IsR a b c s) (hl : 0 < l) (hu : 0 < u) :
    OvR (tnA a b c n) (tnB a b c n) (tnC a b c n) (tnS a b c s n) u l ↔ (OvR a b c s n 1 ∧ BeR a b c s (n * u + l) u) := by
  obtain ⟨h1, h2⟩ := tn_sign (n := n) (u := u) R hl
  have e : Ps (ht a b c) (2 * a * l + (b + 2 * a * n) * u) (-(sg s * u)) ↔ BeR a b c s (n * u + l) u := by
    unfold BeR Be
    rw [show (n * u + l) * (2 * a) - -b * u = 2 * a * l + (b + 2 * a * n) * u by grind]
  have h3 := tn_isR n R
  rcases root_tri (u := n) R (show (0 : Int) < 1 by decide) with h | h
  · rw [h1 h, e]
    exact ⟨fun x => ⟨h, x⟩, fun x => x.2⟩
  · have h4 : BeR a b c s (n * u + l) u := Be.le R.n (by have := R.ha; omega) (by decide) hu h (by omega)
    have h5 := (h2 h).mpr (e.mpr h4)
    exact ⟨fun x => absurd h5 x.not, fun x => absurd h x.1.not⟩
theorem tn_zero {a b c s n l : Int} (R : IsR a b c s) (hl : 0 < l) :
    OvR (tnA a b c n) (tnB a b c n) (tnC a b c n) (tnS a b c s n) 0 l ↔ OvR a b c s n 1 := by
  obtain ⟨h1, h2⟩ := tn_sign (n := n) (u := 0) R hl
  have e : Ps (ht a b c) (2 * a * l + (b + 2 * a * n) * 0) (-(sg s * 0)) := by
    rw [Int.mul_zero, Int.mul_zero, Int.add_zero]
    exact Ps.int (Int.mul_pos (by have := R.ha; omega) hl)
  rcases root_tri (u := n) R (show (0 : Int) < 1 by decide) with h | h
  · exact ⟨fun _ => h, fun _ => (h1 h).mpr e⟩
  · exact ⟨fun x => absurd ((h2 h).mpr e) x.not, fun x => absurd h x.not⟩
theorem tn_dn {a b c s n u l : Int} (R : IsR a b c s) (hl : 0 < l) (hu : u < 0) :
    OvR (tnA a b c n) (tnB a b c n) (tnC a b c n) (tnS a b c s n) u l ↔ (OvR a b c s n 1 ∨ BeR a b c s (n * (0 - u) - l) (0 - u)) := by
  obtain ⟨h1, h2⟩ := tn_sign (n := n) (u := u) R hl
  have e : Ps (ht a b c) (2 * a * l + (b + 2 * a * n) * u) (-(sg s * u)) ↔ OvR a b c s (n * (0 - u) - l) (0 - u) := by
    unfold OvR Ov
    rw [show -b * (0 - u) - (n * (0 - u) - l) * (2 * a) = 2 * a * l + (b + 2 * a * n) * u by grind, show sg s * (0 - u) = -(sg s * u) by grind]
  rcases root_tri (u := n) R (show (0 : Int) < 1 by decide) with h | h
  · have h4 : OvR a b c s (n * (0 - u) - l) (0 - u) := Ov.le R.n (by have := R.ha; omega) (by decide) (show 0 < 0 - u by omega) h (by omega)
    exact ⟨fun _ => .inl h, fun _ => (h1 h).mpr (e.mpr h4)⟩
  · rcases root_tri (u := n * (0 - u) - l) R (show 0 < 0 - u by omega) with h4 | h4
    · have h5 := (h2 h).mpr (e.mpr h4)
      exact ⟨fun x => absurd h5 x.not, fun x => x.elim (fun y => absurd h y.not) (fun y => absurd y h4.not)⟩
    · refine ⟨fun _ => .inr h4, fun _ => ?_⟩
      rcases root_tri (u := u) (tn_isR n R) hl with h6 | h6
      · exact h6
      · exact absurd h4 (e.mp ((h2 h).mp h6)).not
end RR
/-! RRT: the promises of the defs over roots, and of the defs that take any thing. -/
namespace RR
open PySem PySem.Spec PyProof.Rows L2
/-- what is no whole number -/
def NotWh (x : V) : Prop := (∃ b, x = .bl b) ∨ ∃ z, x = .str z
def sp_isw : Sp := fun vs H Q _ => ∃ x, vs = [x] ∧ ((∃ z, x = .int z ∧ Q (.bl true) H) ∨ (NotWh x ∧ Q (.bl false) H))
def BadT (xs : List V) : Prop := xs.length ≠ 2 ∨ (∃ y z, xs = [y, z] ∧ NotWh y) ∨ (∃ y z, xs = [.int y, z] ∧ NotWh z) ∨ ∃ y z, xs = [.int y, .int z] ∧ (z < 1 ∨ dv y z ≠ 1)
def NotTup (K : PySem.W.Frag) (H : Hp) (x : V) : Prop := ∃ t, TyX K H x t ∧ PySem.W.kitOne K t (.type "tuple") = some false
def NotFr (K : PySem.W.Frag) (H : Hp) (x : V) : Prop := NotTup K H x ∨ ∃ a xs, x = .ref a ∧ H a = some (.tup xs) ∧ BadT xs
def sp_is_fraction (K : PySem.W.Frag) : Sp := fun vs H Q _ => ∃ x, vs = [x] ∧ ((NotFr K H x ∧ Q (.bl false) H) ∨ ∃ a y z, x = .ref a ∧ H a = some (tI [y, z]) ∧ 1 ≤ z ∧ dv y z = 1 ∧ Q (.bl true) H)
theorem notTup_non {K : PySem.W.Frag} {H : Hp} : NotTup K H .non := ⟨_, .base .non, kit_ty (by decide +kernel)⟩
theorem notTup_int {K : PySem.W.Frag} {H : Hp} (n : Int) : NotTup K H (.int n) := ⟨_, .base (.int n), kit_ty (by decide +kernel)⟩
theorem notTup_lst {K : PySem.W.Frag} {H : Hp} {a : Addr} {xs : List V} (e : H a = some (.lst xs)) : NotTup K H (.ref a) := ⟨_, .base (.lst e), kit_ty (by decide +kernel)⟩
/-- least_square -/
def sp_least_square : Sp := fun vs H Q _ => ∃ n : Int, vs = [.int n] ∧ 0 ≤ n ∧ Big n ∧ Q (.int (rt n)) H
/-- within a thousand bits -/
structure Sm (x : Int) : Prop where
  lt : x.natAbs < 2 ^ 1000
theorem Sm.big {x : Int} (h : Sm x) : Big x := ⟨Nat.lt_of_lt_of_le h.lt (Nat.pow_le_pow_right (by decide) (by decide))⟩
theorem sm_of {x : Int} (h : x.natAbs < 2 ^ 60) : Sm x := ⟨Nat.lt_of_lt_of_le h (Nat.pow_le_pow_right (by decide) (by decide))⟩
theorem sm_le {x y : Int} (h : x.natAbs ≤ y.natAbs) (hy : Sm y) : Sm x := ⟨Nat.lt_of_le_of_lt h hy.lt⟩
theorem nat_mul_lt {x y : Int} {m n : Nat} (h : x.natAbs < 2 ^ m) (k : y.natAbs < 2 ^ n) : (x * y).natAbs < 2 ^ (m + n) := by
  rw [Int.natAbs_mul, Nat.pow_add]
  exact Nat.mul_lt_mul'' h k
theorem nat_add_lt {x y : Int} {m : Nat} (h : x.natAbs < 2 ^ m) (k : y.natAbs < 2 ^ m) : (x + y).natAbs < 2 ^ (m + 1) := by
  have := Int.natAbs_add_le x y
  rw [Nat.pow_succ]
  omega
theorem nat_sub_lt {x y : Int} {m : Nat} (h : x.natAbs < 2 ^ m) (k : y.natAbs < 2 ^ m) : (x - y).natAbs < 2 ^ (m + 1) := by
  rw [Int.sub_eq_add_neg]
  exact nat_add_lt h (by rw [Int.natAbs_neg]; exact k)
theorem nat_mono {x : Int} {m n : Nat} (h : x.natAbs < 2 ^ m) (k : m ≤ n) : x.natAbs < 2 ^ n := Nat.lt_of_lt_of_le h (Nat.pow_le_pow_right (by decide) k)
/-- products of numbers within a hundred thousand bits each -/
theorem mulW_of {x y : Int} {m n : Nat} (h : x.natAbs < 2 ^ m) (k : y.natAbs < 2 ^ n) (hm : m ≤ 100000 := by decide) (hn : n ≤ 100000 := by decide) : CMulW x y := by
  have h3 := PySem.Flt.log2_lt_of (n := x.natAbs) (k := m + 1) (by omega) (nat_mono h (by omega))
  have h4 := PySem.Flt.log2_lt_of (n := y.natAbs) (k := n + 1) (by omega) (nat_mono k (by omega))
  unfold CMulW
  omega
theorem ht_big {a b c : Int} (ha : Sm a) (hb : Sm b) (hc : Sm c) : Big (ht a b c) := by
  refine ⟨nat_mono (m := 2004) (nat_sub_lt (m := 2003) (nat_mono (nat_mul_lt hb.lt hb.lt) (by decide)) (nat_mono (nat_mul_lt (m := 1003) (nat_mul_lt (m := 3) (by decide) ha.lt) hc.lt) (by decide))) (by decide)⟩
/-- heart -/
def sp_heart : Sp := fun vs H Q _ => ∃ a b c : Int, vs = [.int a, .int b, .int c] ∧ Sm a ∧ Sm b ∧ Sm c ∧ Q (.int (ht a b c)) H
/-- is_square -/
def sp_is_square : Sp := fun vs H Q _ => ∃ n : Int, vs = [.int n] ∧ 0 ≤ n ∧ Big n ∧ Q (.bl (isSq n)) H
/-- three whole numbers made lowest, the first above 0 -/
def nfA (a b c : Int) : Int := if a < 0 then -(a / dv (dv a b) c) else a / dv (dv a b) c
def nfB (a b c : Int) : Int := if a < 0 then -(b / dv (dv a b) c) else b / dv (dv a b) c
def nfC (a b c : Int) : Int := if a < 0 then -(c / dv (dv a b) c) else c / dv (dv a b) c
def NoRoot (a b c : Int) : Prop := a = 0 ∨ ht a b c < 0 ∨ isSq (ht a b c) = true
theorem not_noRoot {a b c : Int} (h : Ns (ht a b c)) : ¬ NoRoot a b c := by
  rintro (rfl | z | z)
  · have := h.no
    rw [isSq_of (x := b) (by unfold ht; simp)] at this
    cases this
  · have := h.pos
    omega
  · rw [h.no] at z
    cases z
theorem ns_of {a b c : Int} (h : ¬ NoRoot a b c) : Ns (ht a b c) := by
  have h2 : isSq (ht a b c) = false := by
    cases e : isSq (ht a b c) with
    | false => rfl
    | true => exact absurd (.inr (.inr e)) h
  refine ⟨?_, h2⟩
  have h3 : ¬ ht a b c < 0 := fun z => h (.inr (.inl z))
  have h4 : ht a b c ≠ 0 := fun z => by
    rw [z, show isSq 0 = true from isSq_of (x := 0) rfl] at h2
    cases h2
  omega
def sp_root_of (C : Addr) : Sp := fun vs H Q E => ∃ a b c s : Int, vs = [.int a, .int b, .int c, .int s] ∧ Sm a ∧ Sm b ∧ Sm c ∧ (NoRoot a b c → E (.ref C) none H) ∧
  (¬ NoRoot a b c → ∀ p, H p = none → Q (.ref p) (upd H p (tI [nfA a b c, nfB a b c, nfC a b c, s])))
def NotR4 (a b c s : Int) : Prop := a < 1 ∨ ¬ (s = 0 ∨ s = 1) ∨ dv (dv a b) c ≠ 1 ∨ ht a b c ≤ 0 ∨ isSq (ht a b c) = true
def BadR (xs : List V) : Prop := xs.length ≠ 4 ∨ ((∀ x ∈ xs, NotWh x ∨ ∃ n, x = .int n) ∧ xs.length = 4 ∧ ∃ x ∈ xs, NotWh x) ∨ ∃ a b c s, xs = [.int a, .int b, .int c, .int s] ∧ Sm a ∧ Sm b ∧ Sm c ∧ NotR4 a b c s
def NotRoot (K : PySem.W.Frag) (H : Hp) (x : V) : Prop := NotTup K H x ∨ ∃ r xs, x = .ref r ∧ H r = some (.tup xs) ∧ BadR xs
def sp_is_root (K : PySem.W.Frag) : Sp := fun vs H Q _ => ∃ x, vs = [x] ∧ ((NotRoot K H x ∧ ∀ H', Same H H' → Q (.bl false) H') ∨ ∃ r a b c s, x = .ref r ∧ H r = some (tI [a, b, c, s]) ∧ IsR a b c s ∧ Sm a ∧ Sm b ∧ Sm c ∧ ∀ H', Same H H' → Q (.bl true) H')
def sp_other_root : Sp := fun vs H Q _ => ∃ (r : Addr) (a b c s : Int), vs = [.ref r] ∧ H r = some (tI [a, b, c, s]) ∧ ∀ H' p, Same H H' → H p = none → H' p = some (tI [a, b, c, 1 - s]) → Q (.ref p) H'
/-- whether it is a whole number -/
def isI : V → Bool
  | .int _ => true
  | _ => false
/-- root_of, or "none" -/
def sp_said : Sp := fun vs H Q _ => ∃ a b c s : Int, vs = [.int a, .int b, .int c, .int s] ∧ Sm a ∧ Sm b ∧ Sm c ∧ (NoRoot a b c → ∀ H', Same H H' → Q (.str "none") H') ∧
  (¬ NoRoot a b c → ∀ H' p, Same H H' → H p = none → H' p = some (tI [nfA a b c, nfB a b c, nfC a b c, s]) → Q (.ref p) H')
end RR
/-! RRN: three whole numbers made lowest: plain mathematics. -/
namespace RR
theorem dv_mul (a b k : Int) (hk : 0 ≤ k) : dv (a * k) (b * k) = dv a b * k := by
  unfold dv
  rw [Int.gcd_mul_right]
  rw [Int.natCast_mul, Int.natAbs_of_nonneg hk]
theorem dv3_mul (a b c k : Int) (hk : 0 ≤ k) : dv (dv (a * k) (b * k)) (c * k) = dv (dv a b) c * k := by
  rw [dv_mul a b k hk, dv_mul _ _ k hk]
theorem ht_mul (a b c k : Int) : ht (a * k) (b * k) (c * k) = (k * k) * ht a b c := by
  unfold ht
  grind
theorem dv3_pos {a b c : Int} (h : a ≠ 0) : 0 < dv (dv a b) c := dv_pos_left (by have := dv_pos_left (b := b) h; omega)
/-- a root's numbers out of others: what is divided away -/
theorem nf_eq {a b c : Int} (h : a ≠ 0) : ∃ k : Int, k ≠ 0 ∧ a = nfA a b c * k ∧ b = nfB a b c * k ∧ c = nfC a b c * k ∧ 0 < nfA a b c ∧ dv (dv (nfA a b c) (nfB a b c)) (nfC a b c) = 1 ∧ k.natAbs = (dv (dv a b) c).natAbs ∧ (0 < a → 0 < k) ∧ (a < 0 → k < 0) := by
  have hg := dv3_pos (b := b) (c := c) h
  obtain ⟨d1, d2, d3⟩ := dv3_dvd a b c
  have h1 : dv (dv (a / dv (dv a b) c) (b / dv (dv a b) c)) (c / dv (dv a b) c) = 1 := by
    have e := dv3_mul (a / dv (dv a b) c) (b / dv (dv a b) c) (c / dv (dv a b) c) (dv (dv a b) c) (by omega)
    rw [Int.ediv_mul_cancel d1, Int.ediv_mul_cancel d2, Int.ediv_mul_cancel d3] at e
    have e2 : 1 * dv (dv a b) c = dv (dv (a / dv (dv a b) c) (b / dv (dv a b) c)) (c / dv (dv a b) c) * dv (dv a b) c := by
      rw [Int.one_mul]
      exact e
    exact (Int.eq_of_mul_eq_mul_right (by omega) e2).symm
  have e1 := Int.ediv_mul_cancel d1
  have e2 := Int.ediv_mul_cancel d2
  have e3 := Int.ediv_mul_cancel d3
  unfold nfA nfB nfC
  generalize dv (dv a b) c = g at *
  generalize a / g = x at *
  generalize b / g = y at *
  generalize c / g = z at *
  split
  · rename_i ha
    refine ⟨-g, by omega, by rw [Int.neg_mul_neg]; exact e1.symm, by rw [Int.neg_mul_neg]; exact e2.symm, by rw [Int.neg_mul_neg]; exact e3.symm, ?_, by rw [dv_neg_left, dv_neg_right, dv_neg_right]; exact h1, by omega, by omega, by omega⟩
    have : ¬ 0 ≤ x := fun hx => by
      have := Int.mul_nonneg hx (show 0 ≤ g by omega)
      omega
    omega
  · rename_i ha
    refine ⟨g, by omega, e1.symm, e2.symm, e3.symm, ?_, h1, by omega, by omega, by omega⟩
    have : ¬ x ≤ 0 := fun hx => by
      have := Int.mul_nonneg (show 0 ≤ -x by omega) (show 0 ≤ g by omega)
      rw [Int.neg_mul] at this
      omega
    omega
theorem ns_mul {d k : Int} (hk : k ≠ 0) : Ns (k * k * d) ↔ Ns d := by
  have hp := sqp hk
  constructor
  · rintro ⟨h1, h2⟩
    refine ⟨?_, ?_⟩
    · by_cases h : 0 < d
      · exact h
      · exfalso
        have := Int.mul_nonneg (Int.le_of_lt hp) (show 0 ≤ -d by omega)
        rw [Int.mul_neg] at this
        omega
    · cases e : isSq d with
      | false => rfl
      | true =>
        have e2 : rt d * rt d = d := of_decide_eq_true e
        have h3 := isSq_of (n := k * k * d) (x := k * rt d) (by
          have : k * rt d * (k * rt d) = k * k * (rt d * rt d) := by grind
          rw [this, e2])
        rw [h2] at h3
        cases h3
  · rintro ⟨h1, h2⟩
    refine ⟨Int.mul_pos hp h1, ?_⟩
    cases e : isSq (k * k * d) with
    | false => rfl
    | true =>
      have e2 : rt (k * k * d) * rt (k * k * d) = k * k * d := of_decide_eq_true e
      exact absurd (no_sq h2 (x := rt (k * k * d)) (y := k) (by rw [e2, Int.mul_comm])) hk
theorem noRoot_iff (a b c : Int) : NoRoot a b c ↔ ¬ Ns (ht a b c) ∨ a = 0 := by
  constructor
  · rintro (h | h | h)
    · exact .inr h
    · exact .inl fun z => by have := z.pos; omega
    · exact .inl fun z => by rw [z.no] at h; cases h
  · rintro (h | h)
    · by_cases h1 : NoRoot a b c
      · exact h1
      · exact absurd (ns_of h1) h
    · exact .inl h
theorem noRoot_mul {a b c k : Int} (hk : k ≠ 0) : NoRoot (a * k) (b * k) (c * k) ↔ NoRoot a b c := by
  rw [noRoot_iff, noRoot_iff, ht_mul, ns_mul hk, Int.mul_eq_zero]
  constructor
  · rintro (h | h | h)
    · exact .inl h
    · exact .inr h
    · exact absurd h hk
  · rintro (h | h)
    · exact .inl h
    · exact .inr (.inl h)
theorem nf_isR {a b c s : Int} (h : ¬ NoRoot a b c) (hs : s = 0 ∨ s = 1) : IsR (nfA a b c) (nfB a b c) (nfC a b c) s := by
  have ha : a ≠ 0 := fun z => h (.inl z)
  obtain ⟨k, hk, e1, e2, e3, hp, hd, _⟩ := nf_eq (b := b) (c := c) ha
  refine ⟨hp, hs, hd, ?_⟩
  have hn := ns_of h
  have e : ht a b c = (k * k) * ht (nfA a b c) (nfB a b c) (nfC a b c) := by
    have h2 := ht_mul (nfA a b c) (nfB a b c) (nfC a b c) k
    rw [← e1, ← e2, ← e3] at h2
    exact h2
  rw [e] at hn
  exact (ns_mul hk).mp hn
theorem nf_mul {a b c k : Int} (ha : a ≠ 0) (hk : 0 < k) : nfA (a * k) (b * k) (c * k) = nfA a b c ∧ nfB (a * k) (b * k) (c * k) = nfB a b c ∧ nfC (a * k) (b * k) (c * k) = nfC a b c := by
  have hg := dv3_pos (b := b) (c := c) ha
  have hs : (a * k < 0) ↔ a < 0 := by
    constructor
    · intro h
      by_cases h2 : a < 0
      · exact h2
      · have := Int.mul_nonneg (show 0 ≤ a by omega) (Int.le_of_lt hk)
        omega
    · intro h
      exact Int.mul_neg_of_neg_of_pos h hk
  have hd : ∀ x : Int, x * k / (dv (dv a b) c * k) = x / dv (dv a b) c := fun x => Int.mul_ediv_mul_of_pos_left x _ hk
  unfold nfA nfB nfC
  rw [dv3_mul a b c k (Int.le_of_lt hk), hd, hd, hd]
  by_cases h : a < 0
  · rw [if_pos h, if_pos (hs.mpr h), if_pos h, if_pos (hs.mpr h), if_pos h, if_pos (hs.mpr h)]
    exact ⟨rfl, rfl, rfl⟩
  · rw [if_neg h, if_neg (fun z => h (hs.mp z)), if_neg h, if_neg (fun z => h (hs.mp z)), if_neg h, if_neg (fun z => h (hs.mp z))]
    exact ⟨rfl, rfl, rfl⟩
theorem nf_abs {a b c : Int} (ha : a ≠ 0) : (nfA a b c).natAbs ≤ a.natAbs ∧ (nfB a b c).natAbs ≤ b.natAbs ∧ (nfC a b c).natAbs ≤ c.natAbs := by
  obtain ⟨k, hk, e1, e2, e3, _⟩ := nf_eq (b := b) (c := c) ha
  have h1 : 1 ≤ k.natAbs := by omega
  have key : ∀ x y : Int, x = y * k → y.natAbs ≤ x.natAbs := fun x y e => by
    rw [e, Int.natAbs_mul]
    exact Nat.le_mul_of_pos_right _ h1
  exact ⟨key _ _ e1, key _ _ e2, key _ _ e3⟩
end RR
/-! RRP: the promises of part_of, moved, turned, is_above and of the laws' draws. -/
namespace RR
open PySem PySem.Spec PyProof.Rows L2
/-- within three hundred bits -/
structure S3 (x : Int) : Prop where
  lt : x.natAbs < 2 ^ 300
theorem S3.sm {x : Int} (h : S3 x) : Sm x := ⟨nat_mono h.lt (by decide)⟩
theorem s3_of {x : Int} (h : x.natAbs < 2 ^ 60) : S3 x := ⟨nat_mono h (by decide)⟩
theorem s3_le {x y : Int} (h : x.natAbs ≤ y.natAbs) (hy : S3 y) : S3 x := ⟨Nat.lt_of_le_of_lt h hy.lt⟩
def sp_part_of : Sp := fun vs H Q _ => ∃ r : Addr, vs = [.ref r] ∧ ((∃ u l : Int, H r = some (tI [u, l]) ∧ 0 < l ∧ Big l ∧ Q (.int (u / l)) H) ∨
  ∃ a b c s : Int, H r = some (tI [a, b, c, s]) ∧ 0 < a ∧ 0 ≤ ht a b c ∧ Sm a ∧ Sm b ∧ Sm c ∧ Q (.int (partR a b c s)) H)
def sp_moved : Sp := fun vs H Q _ => ∃ (r : Addr) (a b c s n : Int), vs = [.ref r, .int n] ∧ H r = some (tI [a, b, c, s]) ∧ S3 a ∧ S3 b ∧ S3 c ∧ S3 n ∧ ∀ p, H p = none → Q (.ref p) (upd H p (tI [a, b + 2 * a * n, mvC a b c n, s]))
def sp_turned : Sp := fun vs H Q _ => ∃ (r : Addr) (a b c s n : Int), vs = [.ref r, .int n] ∧ H r = some (tI [a, b, c, s]) ∧ IsR a b c s ∧ S3 a ∧ S3 b ∧ S3 c ∧ S3 n ∧
  ∀ H' p, Same H H' → H p = none → H' p = some (tI [tnA a b c n, tnB a b c n, tnC a b c n, tnS a b c s n]) → Q (.ref p) H'
def sp_above : Sp := fun vs H Q _ => ∃ (r : Addr) (a b c s u l : Int), vs = [.ref r, .int u, .int l] ∧ H r = some (tI [a, b, c, s]) ∧ (s = 0 ∨ s = 1) ∧ Sm a ∧ Sm b ∧ Sm c ∧ Sm u ∧ Sm l ∧ Q (.bl (ab a b c s u l)) H
/-- a drawn root -/
def sp_root : Sp := fun vs H Q _ => ∃ c o w : Int, vs = [.int c, .int o, .int w] ∧ 2 ≤ w ∧ w ≤ 1000 ∧ ∀ a b c s H' p, IsR a b c s → a ≤ w → -w ≤ b → b ≤ w → -w ≤ c → c ≤ w → Same H H' → H p = none → H' p = some (tI [a, b, c, s]) → Q (.ref p) H'
theorem len3 {α : Type} {a b c : α} : [a, b, c].length ≤ sizeLine := small_le (show 3 ≤ 10000000 by decide)
theorem mix_rng {c p m : Int} (hm : 0 < m) : 0 ≤ mix c p m ∧ mix c p m < m := ⟨Int.emod_nonneg _ (by omega), Int.emod_lt_of_pos _ hm⟩
theorem mv_s3 {a b c n : Int} (ha : S3 a) (hb : S3 b) (hc : S3 c) (hn : S3 n) : Sm (b + 2 * a * n) ∧ Sm (mvC a b c n) := by
  have h1 := nat_mul_lt ha.lt hn.lt
  refine ⟨⟨?_⟩, ⟨?_⟩⟩
  · exact nat_mono (nat_add_lt (m := 603) (nat_mono hb.lt (by decide)) (nat_mono (nat_mul_lt (nat_mul_lt (m := 2) (by decide) ha.lt) hn.lt) (by decide))) (by decide)
  · exact nat_mono (nat_add_lt (m := 901) (nat_add_lt (m := 900) (nat_mono (nat_mul_lt h1 hn.lt) (by decide)) (nat_mono (nat_mul_lt hb.lt hn.lt) (by decide))) (nat_mono hc.lt (by decide))) (by decide)
theorem ht_rev (a b c : Int) : ht c b a = ht a b c := by
  unfold ht
  grind
theorem tn_nf {a b c s : Int} (n : Int) (R : IsR a b c s) : ¬ NoRoot (mvC a b c n) (b + 2 * a * n) a ∧ nfA (mvC a b c n) (b + 2 * a * n) a = tnA a b c n ∧ nfB (mvC a b c n) (b + 2 * a * n) a = tnB a b c n ∧ nfC (mvC a b c n) (b + 2 * a * n) a = tnC a b c n := by
  have h0 := mvC_ne (n := n) R.n
  have hg := mv_dv n R.g
  refine ⟨?_, ?_, ?_, ?_⟩
  · rw [noRoot_iff, ht_rev, mv_ht]
    rintro (h | h)
    · exact h R.n
    · exact h0 h
  all_goals
    first | unfold nfA tnA | unfold nfB tnB | unfold nfC tnC
    rw [hg, Int.ediv_one]
    by_cases h : 0 < mvC a b c n
    · rw [if_pos h, if_neg (by omega)]
    · rw [if_neg h, if_pos (by omega)]
end RR
/-! RRO: the row of a root: how it goes on; the promise of rounds_of. -/
namespace RR
open PySem PySem.Spec PyProof.Rows L2
/-- four numbers of a root -/
structure R4 where
  a : Int
  b : Int
  c : Int
  s : Int
deriving DecidableEq
def R4.l (r : R4) : List Int := [r.a, r.b, r.c, r.s]
def R4.k (r : R4) : List Key := [.inl r.a, .inl r.b, .inl r.c, .inl r.s]
theorem R4.k_inj {r t : R4} (h : r.k = t.k) : r = t := by
  obtain ⟨a, b, c, s⟩ := r
  obtain ⟨a', b', c', s'⟩ := t
  simp only [R4.k, List.cons.injEq, Sum.inl.injEq, and_true] at h
  obtain ⟨rfl, rfl, rfl, rfl⟩ := h
  rfl
def R4.Is (r : R4) : Prop := IsR r.a r.b r.c r.s
def R4.prt (r : R4) : Int := partR r.a r.b r.c r.s
def R4.tn (r : R4) (n : Int) : R4 := ⟨tnA r.a r.b r.c n, tnB r.a r.b r.c n, tnC r.a r.b r.c n, tnS r.a r.b r.c r.s n⟩
def R4.nx (r : R4) : R4 := r.tn r.prt
def orb (r : R4) : Nat → R4
  | 0 => r
  | k + 1 => (orb r k).nx
theorem orb_is {r : R4} (h : r.Is) : ∀ k, (orb r k).Is
  | 0 => h
  | k + 1 => tn_isR _ (orb_is h k)
theorem orb_add (r : R4) (i : Nat) : ∀ k, orb r (i + k) = orb (orb r i) k
  | 0 => rfl
  | k + 1 => congrArg R4.nx (orb_add r i k)
/-- the parts from the i-th on, n of them -/
def prts (r : R4) (i n : Nat) : List Int := (List.range' i n).map fun k => (orb r k).prt
/-- within three hundred bits, all of it -/
structure S4 (r : R4) : Prop where
  a : S3 r.a
  b : S3 r.b
  c : S3 r.c
  p : S3 r.prt
theorem valV_range {κ : Type} [DecidableEq κ] {f : Nat → κ} {x : κ} : ∀ n : Nat, (∀ m, m < n → f m ≠ x) → valV ((List.range n).map fun m => (f m, V.int m)) x = none
  | 0, _ => rfl
  | n + 1, h => by
    rw [List.range_succ, List.map_append, List.map_cons, List.map_nil]
    have ih := valV_range n fun m hm => h m (by omega)
    rw [valV]
    rw [List.find?_append]
    rw [valV, Option.map_eq_none_iff] at ih
    rw [ih]
    have : ¬ f n = x := h n (by omega)
    simp [this]
theorem valV_at {κ : Type} [DecidableEq κ] {f : Nat → κ} {x : κ} {i : Nat} : ∀ n : Nat, i < n → f i = x → (∀ m, m < n → f m = x → m = i) → valV ((List.range n).map fun m => (f m, V.int m)) x = some (.int i)
  | 0, h, _, _ => absurd h (Nat.not_lt_zero _)
  | n + 1, hi, hx, hu => by
    rw [List.range_succ, List.map_append, List.map_cons, List.map_nil]
    rw [valV, List.find?_append]
    by_cases h : i < n
    · have ih := valV_at n h hx fun m hm e => hu m (by omega) e
      rw [valV] at ih
      obtain ⟨p, hp, e⟩ := Option.map_eq_some_iff.mp ih
      rw [hp, Option.some_or, Option.map_some, e]
    · have e : i = n := by omega
      subst e
      have ih := valV_range i (f := f) (x := x) fun m hm e => by have := hu m (by omega) e; omega
      rw [valV, Option.map_eq_none_iff] at ih
      rw [ih]
      simp [hx]
theorem room1 {k : Nat} {A : Around} (r : Room k A) : A.units + 1 < cLine := by
  have := r.units
  omega
def sp_rounds_of : Sp := fun vs H Q _ => ∃ (t : Addr) (r : R4), vs = [.ref t] ∧ H t = some (tI r.l) ∧ r.Is ∧ ∃ i j : Nat, i < j ∧ j ≤ 1000000 ∧ orb r j = orb r i ∧ (∀ k m, k < m → m < j → orb r k ≠ orb r m) ∧ (∀ k, k < j → S4 (orb r k)) ∧
  ∀ H' p t1 t2, Same H H' → H p = none → H t1 = none → H t2 = none → H' p = some (.tup [.ref t1, .ref t2]) → H' t1 = some (tI (prts r 0 i)) → H' t2 = some (tI (prts r i (j - i))) → Q (.ref p) H'
end RR
/-! RRG: two unlike roots have a fraction between them; how the numbers of a row's roots grow. -/
namespace RR
theorem isSq_false_ne {n x : Int} (h : isSq n = false) : x * x ≠ n := fun z => by
  have h2 := isSq_of z
  rw [h] at h2
  cases h2
/-- z plus n times the root -/
theorem ps_upN {d z n : Int} (h : Ns d) (hn : 0 < n) (k : -(rt (n * n * d)) ≤ z) : Ps d z n := by
  have hs := (ns_mul (show n ≠ 0 by omega)).mpr h
  have h0 := rt_spec (Int.le_of_lt hs.pos)
  have e0 : d * (n * n) = n * n * d := Int.mul_comm _ _
  unfold Ps nm
  rw [e0]
  by_cases e : z * z < n * n * d
  · right; omega
  · left
    have e2 : z * z ≠ n * n * d := isSq_false_ne hs.no
    refine ⟨by omega, ?_⟩
    by_cases e3 : 0 < z
    · exact e3
    · have := Int.mul_self_le_mul_self (show 0 ≤ -z by omega) (show -z ≤ rt (n * n * d) by omega)
      rw [Int.neg_mul_neg] at this
      omega
theorem ps_dnN {d z n : Int} (h : Ns d) (hn : 0 < n) (k : rt (n * n * d) + 1 ≤ z) : Ps d z (-n) := by
  have hs := (ns_mul (show n ≠ 0 by omega)).mpr h
  have h0 := rt_spec (Int.le_of_lt hs.pos)
  have := Int.mul_self_le_mul_self (show 0 ≤ rt (n * n * d) + 1 by omega) k
  left
  unfold nm
  rw [Int.neg_mul_neg, show d * (n * n) = n * n * d from Int.mul_comm _ _]
  omega
/-- the whole part of n times a root -/
theorem floorN {a b c s n : Int} (R : IsR a b c s) (hn : 0 < n) : ∃ u, OvR a b c s u n ∧ BeR a b c s (u + 1) n := by
  have hd := R.n
  have ha := R.ha
  unfold OvR BeR Ov Be
  generalize ht a b c = d at *
  rcases R.hs with rfl | rfl
  · obtain ⟨h1, h2⟩ := fl (x := 0 - rt (n * n * d) - 1 - b * n) (y := 2 * a) (by omega)
    generalize (0 - rt (n * n * d) - 1 - b * n) / (2 * a) = z at *
    refine ⟨z, ?_, ?_⟩
    · rw [show sg 0 * n = -n by unfold sg; omega]
      exact ps_dnN hd hn (by rw [Int.neg_mul]; omega)
    · rw [show -(sg 0 * n) = n by unfold sg; omega]
      exact ps_upN hd hn (by rw [Int.neg_mul]; omega)
  · obtain ⟨h1, h2⟩ := fl (x := rt (n * n * d) - b * n) (y := 2 * a) (by omega)
    generalize (rt (n * n * d) - b * n) / (2 * a) = z at *
    refine ⟨z, ?_, ?_⟩
    · rw [show sg 1 * n = n by unfold sg; omega]
      exact ps_upN hd hn (by rw [Int.neg_mul]; omega)
    · rw [show -(sg 1 * n) = -n by unfold sg; omega]
      exact ps_dnN hd hn (by rw [Int.neg_mul]; omega)
theorem ab_sq (x : Int) : (x.natAbs : Int) * x.natAbs = x * x := by
  rcases Int.natAbs_eq x with h | h
  · rw [← h]
  · conv => rhs; rw [h]
    rw [Int.neg_mul_neg]
/-- how small a form is at the whole part -/
theorem form_small {a b c s u n : Int} (R : IsR a b c s) (hn : 0 < n) (h1 : OvR a b c s u n) (h2 : BeR a b c s (u + 1) n) :
    ((2 * a * u + b * n) * (2 * a * u + b * n) - ht a b c * (n * n)).natAbs ≤ 4 * a * (2 * a * u + b * n).natAbs + 4 * a * a := by
  have ha := R.ha
  have hsg := sg_sq R.hs
  unfold OvR Ov Ps at h1
  unfold BeR Be Ps at h2
  have e1 : nm (ht a b c) (-b * n - u * (2 * a)) (sg s * n) = (2 * a * u + b * n) * (2 * a * u + b * n) - ht a b c * (n * n) := by
    unfold nm
    have : sg s * n * (sg s * n) = sg s * sg s * (n * n) := by grind
    rw [this, hsg]
    grind
  have e2 : nm (ht a b c) ((u + 1) * (2 * a) - -b * n) (-(sg s * n)) = (2 * a * u + b * n) * (2 * a * u + b * n) - ht a b c * (n * n) + 4 * a * (2 * a * u + b * n) + 4 * a * a := by
    unfold nm
    have : -(sg s * n) * -(sg s * n) = sg s * sg s * (n * n) := by grind
    rw [this, hsg]
    grind
  rw [e1] at h1
  rw [e2] at h2
  have hdn : 0 ≤ ht a b c * (n * n) := Int.mul_nonneg (Int.le_of_lt R.n.pos) (sqn n)
  have hw1 : -b * n - u * (2 * a) = -(2 * a * u + b * n) := by grind
  have hw2 : (u + 1) * (2 * a) - -b * n = 2 * a * u + b * n + 2 * a := by grind
  rw [hw1] at h1
  rw [hw2] at h2
  generalize 2 * a * u + b * n = w at *
  have hsq : ∀ x : Int, -2 * a < x → x < 2 * a → x * x ≤ 4 * a * a := fun x k1 k2 => by
    have := Int.mul_self_le_mul_self (a := x.natAbs) (b := 2 * a) (by omega) (by omega)
    rw [ab_sq] at this
    have e : 2 * a * (2 * a) = 4 * a * a := by grind
    omega
  have hpos : 0 ≤ 4 * a * (w.natAbs : Int) := Int.mul_nonneg (by omega) (by omega)
  have haa : 0 ≤ 4 * a * a := Int.mul_nonneg (by omega) (by omega)
  have hwa : 4 * a * w ≤ 4 * a * (w.natAbs : Int) := Int.mul_le_mul_of_nonneg_left (by omega) (by omega)
  have hwb : -(4 * a * w) ≤ 4 * a * (w.natAbs : Int) := by
    have : 4 * a * (-w) ≤ 4 * a * (w.natAbs : Int) := Int.mul_le_mul_of_nonneg_left (by omega) (by omega)
    rw [Int.mul_neg] at this
    exact this
  generalize ht a b c * (n * n) = dn at *
  have hyn : (0 < sg s * n ∧ ¬ 0 < -(sg s * n)) ∨ (¬ 0 < sg s * n ∧ 0 < -(sg s * n)) := by
    rcases R.hs with rfl | rfl <;> (unfold sg; omega)
  have hs1 := hsq w
  generalize sg s * n = y at *
  omega
/-- and how great its slope -/
theorem slope_small {a b c s u n : Int} (R : IsR a b c s) (hn : 0 < n) (h1 : OvR a b c s u n) (h2 : BeR a b c s (u + 1) n) :
    ((2 * a * u + b * n).natAbs : Int) < ht a b c * n + 5 * a := by
  have h := form_small R hn h1 h2
  have ha := R.ha
  have hd := R.n.pos
  generalize 2 * a * u + b * n = w at *
  rw [← ab_sq w] at h
  generalize ht a b c = d at *
  have hw : 0 ≤ (w.natAbs : Int) := Int.natCast_nonneg _
  generalize hx : (w.natAbs : Int) = x at *
  by_cases k : x < d * n + 5 * a
  · exact k
  exfalso
  have k' : d * n + 5 * a ≤ x := by omega
  have hdn : 0 < d * n := Int.mul_pos hd hn
  have e1 : (d * n + 5 * a) * x ≤ x * x := Int.mul_le_mul_of_nonneg_right k' hw
  have e2 : (d * n + a) * (d * n + 5 * a) ≤ (d * n + a) * x := Int.mul_le_mul_of_nonneg_left k' (by omega)
  have e3 : (d * n + 5 * a) * x = 4 * a * x + (d * n + a) * x := by grind
  have e4 : (d * n + a) * (d * n + 5 * a) = d * n * (d * n) + 6 * a * (d * n) + 5 * a * a := by grind
  have e5 : d * (n * n) ≤ d * n * (d * n) := by
    have : d * n * (d * n) = d * (d * (n * n)) := by grind
    rw [this]
    have h3 : 1 * (d * (n * n)) ≤ d * (d * (n * n)) := Int.mul_le_mul_of_nonneg_right (by omega) (Int.mul_nonneg (by omega) (sqn n))
    omega
  have e6 : 0 < 6 * a * (d * n) := Int.mul_pos (by omega) hdn
  have e7 : 0 < a * a := Int.mul_pos ha ha
  have e8 : 4 * a * a = 4 * (a * a) := by grind
  have e9 : 5 * a * a = 5 * (a * a) := by grind
  omega
theorem natAbs_mul_pos {a x : Int} (ha : 0 < a) : ((a * x).natAbs : Int) = a * (x.natAbs : Int) := by
  rw [Int.natAbs_mul, Int.natCast_mul, Int.natAbs_of_nonneg (Int.le_of_lt ha)]
theorem fm_small {a b c s u n : Int} (R : IsR a b c s) (hn : 0 < n) (h1 : OvR a b c s u n) (h2 : BeR a b c s (u + 1) n) : ((fm a b c u n).natAbs : Int) ≤ (ht a b c + 6 * a) * n := by
  have h := form_small R hn h1 h2
  have hs := slope_small R hn h1 h2
  have ha := R.ha
  have e : (2 * a * u + b * n) * (2 * a * u + b * n) - ht a b c * (n * n) = 4 * a * fm a b c u n := by
    unfold ht fm
    grind
  rw [e, natAbs_mul_pos (show 0 < 4 * a by omega)] at h
  generalize ((2 * a * u + b * n).natAbs : Int) = x at *
  generalize ((fm a b c u n).natAbs : Int) = y at *
  have h3 : 4 * a * y ≤ 4 * a * (x + a) := by
    have : 4 * a * (x + a) = 4 * a * x + 4 * a * a := by grind
    omega
  have h4 := Int.le_of_mul_le_mul_left h3 (by omega)
  have h5 : a * 1 ≤ a * n := Int.mul_le_mul_of_nonneg_left (by omega) (Int.le_of_lt ha)
  have h6 : (ht a b c + 6 * a) * n = ht a b c * n + 6 * (a * n) := by grind
  omega
/-- two forms of one root's cut are one -/
theorem same_form {a b c s a' b' c' s' u n : Int} (R : IsR a b c s) (R' : IsR a' b' c' s') (hn : 0 < n) (h1 : OvR a b c s u n) (h2 : BeR a b c s (u + 1) n) (h1' : OvR a' b' c' s' u n) (h2' : BeR a' b' c' s' (u + 1) n)
    (hN : (a' * b - a * b') * (a' * b - a * b') * (ht a b c + 6 * a) + (a' * (ht a b c + 6 * a) + a * (ht a' b' c' + 6 * a')) * (b * (a' * b - a * b') - 2 * a * (a' * c - a * c')).natAbs + a * ((a' * (ht a b c + 6 * a) + a * (ht a' b' c' + 6 * a')) * (a' * (ht a b c + 6 * a) + a * (ht a' b' c' + 6 * a'))) < n) :
    a' * b = a * b' ∧ a' * c = a * c' := by
  have f1 := fm_small R hn h1 h2
  have f2 := fm_small R' hn h1' h2'
  have ha := R.ha
  have ha' := R'.ha
  have hd := R.n.pos
  have hd' := R'.n.pos
  have hns := R.n
  have hdd : ht a b c = b * b - 4 * a * c := rfl
  generalize hk1 : ht a b c + 6 * a = k1 at *
  generalize hk2 : ht a' b' c' + 6 * a' = k2 at *
  generalize hp : a' * b - a * b' = p at *
  generalize hq : a' * c - a * c' = q at *
  generalize hK : a' * k1 + a * k2 = K at *
  generalize hE : p * u + q * n = ε at *
  generalize hR : a * q * q - b * p * q + c * p * p = r at *
  -- the difference of the forms
  have e1 : a' * fm a b c u n - a * fm a' b' c' u n = n * ε := by
    unfold fm
    rw [← hE, ← hp, ← hq]
    grind
  have e2 : p * p * fm a b c u n = n * (n * r) + n * (ε * (b * p - 2 * a * q)) + a * (ε * ε) := by
    unfold fm
    rw [← hR, ← hE]
    grind
  generalize fm a b c u n = f at *
  generalize fm a' b' c' u n = g at *
  have hε : (ε.natAbs : Int) ≤ K := by
    have h3 : ((n * ε).natAbs : Int) ≤ a' * (k1 * n) + a * (k2 * n) := by
      rw [← e1]
      have h4 := Int.natAbs_sub_le (a' * f) (a * g)
      have h5 := natAbs_mul_pos (x := f) ha'
      have h6 := natAbs_mul_pos (x := g) ha
      have h7 : a' * (f.natAbs : Int) ≤ a' * (k1 * n) := Int.mul_le_mul_of_nonneg_left f1 (Int.le_of_lt ha')
      have h8 : a * (g.natAbs : Int) ≤ a * (k2 * n) := Int.mul_le_mul_of_nonneg_left f2 (Int.le_of_lt ha)
      omega
    rw [natAbs_mul_pos hn] at h3
    have h4 : n * (ε.natAbs : Int) ≤ n * K := by
      have : a' * (k1 * n) + a * (k2 * n) = n * K := by rw [← hK]; grind
      omega
    exact Int.le_of_mul_le_mul_left h4 hn
  have hK0 : 0 ≤ K := by have := Int.natCast_nonneg ε.natAbs; omega
  have hr : r = 0 := by
    have h3 : n * ((n : Int) * (r.natAbs : Int)) ≤ n * (p * p * k1 + K * (b * p - 2 * a * q).natAbs + a * (K * K)) := by
      have h4 : n * (n * r) = p * p * f - n * (ε * (b * p - 2 * a * q)) - a * (ε * ε) := by omega
      have h5 : ((n * (n * r)).natAbs : Int) = n * (n * (r.natAbs : Int)) := by rw [natAbs_mul_pos hn, natAbs_mul_pos hn]
      have h6 := Int.natAbs_sub_le (p * p * f - n * (ε * (b * p - 2 * a * q))) (a * (ε * ε))
      have h7 := Int.natAbs_sub_le (p * p * f) (n * (ε * (b * p - 2 * a * q)))
      have h8 : ((p * p * f).natAbs : Int) ≤ p * p * (k1 * n) := by
        rw [Int.natAbs_mul, Int.natCast_mul, Int.natAbs_of_nonneg (sqn p)]
        exact Int.mul_le_mul_of_nonneg_left f1 (sqn p)
      have h9 : ((n * (ε * (b * p - 2 * a * q))).natAbs : Int) ≤ n * (K * (b * p - 2 * a * q).natAbs) := by
        rw [natAbs_mul_pos hn, Int.natAbs_mul, Int.natCast_mul]
        exact Int.mul_le_mul_of_nonneg_left (Int.mul_le_mul_of_nonneg_right hε (Int.natCast_nonneg _)) (Int.le_of_lt hn)
      have h10 : ((a * (ε * ε)).natAbs : Int) ≤ n * (a * (K * K)) := by
        rw [natAbs_mul_pos ha, Int.natAbs_mul, Int.natCast_mul]
        have h11 : (ε.natAbs : Int) * ε.natAbs ≤ K * K := Int.mul_le_mul hε hε (Int.natCast_nonneg _) hK0
        have h12 : a * ((ε.natAbs : Int) * ε.natAbs) ≤ a * (K * K) := Int.mul_le_mul_of_nonneg_left h11 (Int.le_of_lt ha)
        have h13 : 1 * (a * (K * K)) ≤ n * (a * (K * K)) := Int.mul_le_mul_of_nonneg_right (by omega) (Int.mul_nonneg (Int.le_of_lt ha) (Int.mul_nonneg hK0 hK0))
        omega
      have h14 : n * (p * p * k1 + K * (b * p - 2 * a * q).natAbs + a * (K * K)) = p * p * (k1 * n) + n * (K * (b * p - 2 * a * q).natAbs) + n * (a * (K * K)) := by grind
      rw [h4] at h5
      omega
    have h4 := Int.le_of_mul_le_mul_left h3 hn
    have h5 : ¬ 1 ≤ (r.natAbs : Int) := fun z => by
      have : n * 1 ≤ n * (r.natAbs : Int) := Int.mul_le_mul_of_nonneg_left z (Int.le_of_lt hn)
      omega
    omega
  have hp0 : p = 0 := by
    have h3 : (2 * a * q - b * p) * (2 * a * q - b * p) = ht a b c * (p * p) := by
      rw [hdd]
      have : (2 * a * q - b * p) * (2 * a * q - b * p) = (b * b - 4 * a * c) * (p * p) + 4 * a * (a * q * q - b * p * q + c * p * p) := by grind
      rw [this, hR, hr]
      omega
    exact no_sq hns.no h3
  subst hp0
  have hq0 : q = 0 := by
    have h3 : a * q * q = 0 := by
      have : a * q * q - b * 0 * q + c * 0 * 0 = a * q * q := by grind
      omega
    rcases Int.mul_eq_zero.mp h3 with h4 | h4
    · rcases Int.mul_eq_zero.mp h4 with h5 | h5
      · omega
      · exact h5
    · exact h4
  omega
/-- the bound behind which two unlike forms are told apart -/
def sepN (a b c a' b' c' : Int) : Int := (a' * b - a * b') * (a' * b - a * b') * (ht a b c + 6 * a) + (a' * (ht a b c + 6 * a) + a * (ht a' b' c' + 6 * a')) * (b * (a' * b - a * b') - 2 * a * (a' * c - a * c')).natAbs + a * ((a' * (ht a b c + 6 * a) + a * (ht a' b' c' + 6 * a')) * (a' * (ht a b c + 6 * a) + a * (ht a' b' c' + 6 * a'))) + 1
theorem sepN_pos {a b c s a' b' c' s' : Int} (R : IsR a b c s) (R' : IsR a' b' c' s') : 0 < sepN a b c a' b' c' := by
  have ha := R.ha
  have ha' := R'.ha
  have hd := R.n.pos
  have hd' := R'.n.pos
  unfold sepN
  have h1 : 0 ≤ a' * (ht a b c + 6 * a) + a * (ht a' b' c' + 6 * a') := Int.add_nonneg (Int.mul_nonneg (by omega) (by omega)) (Int.mul_nonneg (by omega) (by omega))
  have h2 : 0 ≤ (a' * b - a * b') * (a' * b - a * b') * (ht a b c + 6 * a) := Int.mul_nonneg (sqn _) (by omega)
  have h3 : 0 ≤ (a' * (ht a b c + 6 * a) + a * (ht a' b' c' + 6 * a')) * (b * (a' * b - a * b') - 2 * a * (a' * c - a * c')).natAbs := Int.mul_nonneg h1 (Int.natCast_nonneg _)
  have h4 : 0 ≤ a * ((a' * (ht a b c + 6 * a) + a * (ht a' b' c' + 6 * a')) * (a' * (ht a b c + 6 * a) + a * (ht a' b' c' + 6 * a'))) := Int.mul_nonneg (by omega) (sqn _)
  omega
theorem same_prim {a b c a' b' c' : Int} (ha : 0 < a) (ha' : 0 < a') (g : dv (dv a b) c = 1) (g' : dv (dv a' b') c' = 1) (h1 : a' * b = a * b') (h2 : a' * c = a * c') : a = a' ∧ b = b' ∧ c = c' := by
  have d1 : a ∣ a' := by
    have h := dvd_dv (dvd_dv (show a ∣ a * a' from Int.dvd_mul_right a a') (show a ∣ b * a' from ⟨b', by rw [Int.mul_comm]; exact h1⟩)) (show a ∣ c * a' from ⟨c', by rw [Int.mul_comm]; exact h2⟩)
    rw [dv3_mul a b c a' (Int.le_of_lt ha'), g, Int.one_mul] at h
    exact h
  have d2 : a' ∣ a := by
    have h := dvd_dv (dvd_dv (show a' ∣ a' * a from Int.dvd_mul_right a' a) (show a' ∣ b' * a from ⟨b, by rw [Int.mul_comm]; exact h1.symm⟩)) (show a' ∣ c' * a from ⟨c, by rw [Int.mul_comm]; exact h2.symm⟩)
    rw [dv3_mul a' b' c' a (Int.le_of_lt ha), g', Int.one_mul] at h
    exact h
  have e : a = a' := Int.dvd_antisymm (Int.le_of_lt ha) (Int.le_of_lt ha') d1 d2
  subst e
  exact ⟨rfl, Int.eq_of_mul_eq_mul_left (by omega) h1, Int.eq_of_mul_eq_mul_left (by omega) h2⟩
/-- r is less than u / l, t greater -/
def Btw (r t : R4) (u l : Int) : Prop := BeR r.a r.b r.c r.s u l ∧ OvR t.a t.b t.c t.s u l
theorem sep {r t : R4} (R : r.Is) (T : t.Is) (hne : r ≠ t) : ∃ u l, 0 < l ∧ l ≤ 2 * r.a + sepN r.a r.b r.c t.a t.b t.c ∧ (Btw r t u l ∨ Btw t r u l) := by
  have ha := R.ha
  have hN := sepN_pos R T
  by_cases hf : r.a = t.a ∧ r.b = t.b ∧ r.c = t.c
  · obtain ⟨a, b, c, s⟩ := r
    obtain ⟨a', b', c', s'⟩ := t
    obtain ⟨h1, h2, h3⟩ := hf
    dsimp only at h1 h2 h3
    subst h1 h2 h3
    have hs : s ≠ s' := fun z => hne (by rw [z])
    have hd : 0 < ht a b c := R.n.pos
    have up : ∀ s, s = 1 → OvR a b c s (-b) (2 * a) := fun s hs => by
      subst hs
      unfold OvR Ov
      rw [show -b * (2 * a) - -b * (2 * a) = 0 by omega, show sg 1 * (2 * a) = 2 * a by unfold sg; omega]
      exact Ps.root hd (by have : 0 < a := ha; omega)
    have dn : ∀ s, s = 0 → BeR a b c s (-b) (2 * a) := fun s hs => by
      subst hs
      unfold BeR Be
      rw [show -b * (2 * a) - -b * (2 * a) = 0 by omega, show -(sg 0 * (2 * a)) = 2 * a by unfold sg; omega]
      exact Ps.root hd (by have : 0 < a := ha; omega)
    refine ⟨-b, 2 * a, by have : 0 < a := ha; omega, by show 2 * a ≤ 2 * a + _; omega, ?_⟩
    rcases R.hs with h | h <;> rcases T.hs with h' | h'
    · exact absurd (h.trans h'.symm) hs
    · exact .inl ⟨dn _ h, up _ h'⟩
    · exact .inr ⟨dn _ h', up _ h⟩
    · exact absurd (h.trans h'.symm) hs
  · obtain ⟨u, h1, h2⟩ := floorN R hN
    obtain ⟨v, h3, h4⟩ := floorN T hN
    have hr2 : (0 : Int) < 2 * r.a := by omega
    have ht2 : (0 : Int) < 2 * t.a := by have := T.ha; omega
    have hbound : sepN r.a r.b r.c t.a t.b t.c ≤ 2 * r.a + sepN r.a r.b r.c t.a t.b t.c := by omega
    by_cases e : u = v
    · subst e
      have h5 := same_form R T hN h1 h2 h3 h4 (by unfold sepN; omega)
      exact absurd (same_prim R.ha T.ha R.g T.g h5.1 h5.2) hf
    · by_cases h : u < v
      · exact ⟨v, _, hN, hbound, .inl ⟨Be.le R.n hr2 hN hN h2 (Int.mul_le_mul_of_nonneg_right (by omega) (Int.le_of_lt hN)), h3⟩⟩
      · exact ⟨u, _, hN, hbound, .inr ⟨Be.le T.n ht2 hN hN h4 (Int.mul_le_mul_of_nonneg_right (by omega) (Int.le_of_lt hN)), h1⟩⟩
/-! ### a common turn -/
theorem part_is {r : R4} (R : r.Is) : OvR r.a r.b r.c r.s r.prt 1 ∧ BeR r.a r.b r.c r.s (r.prt + 1) 1 := part_ov R
theorem btw_part {r t : R4} {u l : Int} (R : r.Is) (T : t.Is) (hl : 0 < l) (h : Btw r t u l) : r.prt ≤ t.prt := by
  obtain ⟨p1, p2⟩ := part_is R
  obtain ⟨q1, q2⟩ := part_is T
  have ha := R.ha
  have hb := T.ha
  have h1 := ov_be_lt R.n (by omega) (by decide) hl p1 h.1
  have h2 := ov_be_lt T.n (by omega) hl (by decide) h.2 q2
  have h3 : r.prt * l < (t.prt + 1) * l := by omega
  have := Int.lt_of_mul_lt_mul_right h3 (Int.le_of_lt hl)
  omega
theorem btw_turn {r t : R4} {u l : Int} (R : r.Is) (T : t.Is) (hl : 0 < l) (h : Btw r t u l) (he : r.prt = t.prt) : 0 < u - r.prt * l ∧ u - r.prt * l < l ∧ Btw t.nx r.nx l (u - r.prt * l) := by
  obtain ⟨p1, p2⟩ := part_is R
  obtain ⟨q1, q2⟩ := part_is T
  have ha := R.ha
  have hb := T.ha
  have h1 := ov_be_lt R.n (by omega) (by decide) hl p1 h.1
  have h2 := ov_be_lt T.n (by omega) hl (by decide) h.2 q2
  rw [← he, Int.add_mul] at h2
  have h3 : 0 < u - r.prt * l := by omega
  have e1 : r.prt * l + (u - r.prt * l) = u := by omega
  refine ⟨h3, by omega, ?_, ?_⟩
  · have h4 := tn_up (n := t.prt) (u := l) (l := u - r.prt * l) T h3 hl
    rcases root_tri (u := l) (tn_isR t.prt T) h3 with h5 | h5
    · have := (h4.mp h5).2
      rw [← he, e1] at this
      exact absurd this h.2.not
    · exact h5
  · have h4 := tn_up (n := r.prt) (u := l) (l := u - r.prt * l) R h3 hl
    refine h4.mpr ⟨p1, ?_⟩
    rw [e1]
    exact h.1
/-! ### how the numbers grow -/
structure Sz (B : Int) (r : R4) : Prop where
  a : r.a ≤ B
  b : (r.b.natAbs : Int) ≤ 2 * B + ht r.a r.b r.c
  c : (r.c.natAbs : Int) ≤ B
theorem nx_ht (r : R4) : ht r.nx.a r.nx.b r.nx.c = ht r.a r.b r.c := tn_ht _ _ _ _
theorem Sz.nx {B : Int} {r : R4} (R : r.Is) (h : Sz B r) : Sz (B + ht r.a r.b r.c) r.nx := by
  obtain ⟨p1, p2⟩ := part_is R
  have ha := R.ha
  have hd := R.n.pos
  have hns := R.n.no
  have hsg := sg_sq R.hs
  obtain ⟨h1, h2, h3⟩ := h
  have ec : ht r.nx.a r.nx.b r.nx.c = ht r.a r.b r.c := nx_ht r
  have eA : r.nx.a.natAbs = (mvC r.a r.b r.c r.prt).natAbs := by
    show (tnA r.a r.b r.c r.prt).natAbs = _
    unfold tnA
    split
    · rfl
    · exact Int.natAbs_neg _
  have eB : r.nx.b.natAbs = (2 * r.a * r.prt + r.b).natAbs := by
    show (tnB r.a r.b r.c r.prt).natAbs = _
    unfold tnB
    split
    · rw [Int.add_comm]
    · rw [Int.natAbs_neg, Int.add_comm]
  have eC : r.nx.c.natAbs = r.a.natAbs := by
    show (tnC r.a r.b r.c r.prt).natAbs = _
    unfold tnC
    split
    · rfl
    · exact Int.natAbs_neg _
  have hA0 := (tn_isR r.prt R).ha
  unfold OvR Ov Ps at p1
  unfold BeR Be Ps at p2
  have e1 : nm (ht r.a r.b r.c) (-r.b * 1 - r.prt * (2 * r.a)) (sg r.s * 1) = (2 * r.a * r.prt + r.b) * (2 * r.a * r.prt + r.b) - ht r.a r.b r.c := by
    unfold nm
    have : sg r.s * 1 * (sg r.s * 1) = sg r.s * sg r.s := by grind
    rw [this, hsg]
    grind
  have e2 : nm (ht r.a r.b r.c) ((r.prt + 1) * (2 * r.a) - -r.b * 1) (-(sg r.s * 1)) = (2 * r.a * r.prt + r.b + 2 * r.a) * (2 * r.a * r.prt + r.b + 2 * r.a) - ht r.a r.b r.c := by
    unfold nm
    have : -(sg r.s * 1) * -(sg r.s * 1) = sg r.s * sg r.s := by grind
    rw [this, hsg]
    grind
  rw [e1] at p1
  rw [e2] at p2
  have e3 : (2 * r.a * r.prt + r.b) * (2 * r.a * r.prt + r.b) - ht r.a r.b r.c = 4 * r.a * mvC r.a r.b r.c r.prt := by
    unfold ht mvC
    grind
  have hw1 : -r.b * 1 - r.prt * (2 * r.a) = -(2 * r.a * r.prt + r.b) := by grind
  have hw2 : (r.prt + 1) * (2 * r.a) - -r.b * 1 = 2 * r.a * r.prt + r.b + 2 * r.a := by grind
  rw [hw1] at p1
  rw [hw2] at p2
  have key : (mvC r.a r.b r.c r.prt).natAbs ≤ r.a + ht r.a r.b r.c ∧ ((2 * r.a * r.prt + r.b).natAbs : Int) ≤ 2 * r.a + ht r.a r.b r.c := by
    generalize 2 * r.a * r.prt + r.b = w at *
    generalize mvC r.a r.b r.c r.prt = f at *
    generalize ht r.a r.b r.c = d at *
    generalize r.a = a at *
    have hdd : d < d * d + 1 := by
      have : d * 1 ≤ d * d := Int.mul_le_mul_of_nonneg_left (by omega) (by omega)
      omega
    -- what lies below d in its square is below d
    have low : ∀ x : Int, x * x < d → -d < x ∧ x < d := fun x hx => by
      have hx2 : x * x < d * d := by omega
      exact ⟨sq_lt' (by omega) hx2, sq_lt (by omega) hx2⟩
    have hw2a : -2 * a < w → w < 2 * a → w * w ≤ 4 * a * a := fun k1 k2 => by
      have := Int.mul_self_le_mul_self (a := w.natAbs) (b := 2 * a) (by omega) (by omega)
      rw [ab_sq] at this
      have e : 2 * a * (2 * a) = 4 * a * a := by grind
      omega
    have fin : ∀ B : Int, 4 * a * f ≤ 4 * a * B → -(4 * a * B) ≤ 4 * a * f → (f.natAbs : Int) ≤ B := fun B k1 k2 => by
      have k3 := Int.le_of_mul_le_mul_left k1 (show 0 < 4 * a by omega)
      have k4 : 4 * a * (-B) ≤ 4 * a * f := by rw [Int.mul_neg]; exact k2
      have k5 := Int.le_of_mul_le_mul_left k4 (show 0 < 4 * a by omega)
      omega
    have had : 1 * d ≤ 4 * a * d := Int.mul_le_mul_of_nonneg_right (by omega) (by omega)
    have hpp : 4 * a * (a + d) = 4 * a * a + 4 * a * d := by grind
    have haa : 0 ≤ 4 * a * a := Int.mul_nonneg (by omega) (by omega)
    have hww := sqn w
    rcases R.hs with hs | hs
    · -- the lower one
      rw [hs] at p1 p2
      have h4 : 0 < w * w - d ∧ w < 0 := by
        rcases p1 with ⟨x, y⟩ | ⟨x, y⟩
        · exact ⟨x, by omega⟩
        · exact absurd y (by decide)
      have h5 : -(2 * a + d) ≤ w := by
        rcases p2 with ⟨x, y⟩ | ⟨x, y⟩
        · omega
        · have := low (w + 2 * a) (by omega)
          omega
      have h6 : w * w ≤ 4 * a * a + 4 * a * d + d := by
        rcases p2 with ⟨x, y⟩ | ⟨x, y⟩
        · have := hw2a (by omega) (by omega)
          omega
        · have e : (w + 2 * a) * (w + 2 * a) = w * w + 4 * a * w + 4 * a * a := by grind
          have h7 : 4 * a * (-w) ≤ 4 * a * (2 * a + d) := Int.mul_le_mul_of_nonneg_left (by omega) (by omega)
          have e2 : 4 * a * (2 * a + d) = 8 * a * a + 4 * a * d := by grind
          have e3 : 8 * a * a = 2 * (4 * a * a) := by grind
          rw [Int.mul_neg] at h7
          omega
      exact ⟨fin _ (by omega) (by omega), by omega⟩
    · -- the upper one
      rw [hs] at p1 p2
      have h4 : -2 * a < w := by
        rcases p2 with ⟨x, y⟩ | ⟨x, y⟩
        · omega
        · exact absurd y (by decide)
      rcases p1 with ⟨x, y⟩ | ⟨x, y⟩
      · have := hw2a (by omega) (by omega)
        exact ⟨fin _ (by omega) (by omega), by omega⟩
      · have := low w (by omega)
        exact ⟨fin _ (by omega) (by omega), by omega⟩
  exact ⟨by omega, by omega, by omega⟩
end RR
/-! RRH: numbers (fractions and roots) in order; the promises of compare and its kin, and of the laws' numbers. -/
namespace RR
open PySem PySem.Spec PyProof.Rows L2
/-- a number: a fraction or a root -/
inductive Nu where
  | fr (u l : Int)
  | ro (r : R4)
def Nu.l : Nu → List Int
  | .fr u l => [u, l]
  | .ro r => r.l
/-- numbers that a law draws -/
def Nu.Ok : Nu → Prop
  | .fr u l => 0 < l ∧ dv u l = 1 ∧ u.natAbs < 2 ^ 500 ∧ l.natAbs < 2 ^ 500
  | .ro r => r.Is ∧ r.a ≤ 64 ∧ r.b.natAbs ≤ 64 ∧ r.c.natAbs ≤ 64
def Nu.Ov : Nu → Int → Int → Prop
  | .fr p q, u, l => u * q < p * l
  | .ro r, u, l => OvR r.a r.b r.c r.s u l
def Nu.Be : Nu → Int → Int → Prop
  | .fr p q, u, l => p * l < u * q
  | .ro r, u, l => BeR r.a r.b r.c r.s u l
/-- in order -/
def Nu.lt : Nu → Nu → Prop
  | .fr p q, .fr u l => p * l < u * q
  | .fr p q, .ro r => OvR r.a r.b r.c r.s p q
  | .ro r, .fr u l => BeR r.a r.b r.c r.s u l
  | .ro r, .ro t => ∃ u l, 0 < l ∧ Btw r t u l
theorem Nu.tri {m n : Nu} (hm : m.Ok) (hn : n.Ok) : m = n ∨ m.lt n ∨ n.lt m := by
  cases m with
  | fr p q =>
    cases n with
    | fr u l =>
      by_cases h1 : p * l < u * q
      · exact .inr (.inl h1)
      · by_cases h2 : u * q < p * l
        · exact .inr (.inr h2)
        · obtain ⟨e1, e2⟩ := low_unique hm.1 hm.2.1 hn.1 hn.2.1 (show p * l = u * q by omega)
          exact .inl (by rw [e1, e2])
    | ro r => exact .inr (root_tri (u := p) hn.1 hm.1)
  | ro r =>
    cases n with
    | fr u l => exact .inr ((root_tri (u := u) hm.1 hn.1).symm)
    | ro t =>
      by_cases h : r = t
      · exact .inl (by rw [h])
      · obtain ⟨u, l, hl, _, h1 | h1⟩ := sep hm.1 hn.1 h
        · exact .inr (.inl ⟨u, l, hl, h1⟩)
        · exact .inr (.inr ⟨u, l, hl, h1⟩)
theorem Nu.asym {m n : Nu} (hm : m.Ok) (hn : n.Ok) (h : m.lt n) : ¬ n.lt m := by
  cases m with
  | fr p q =>
    cases n with
    | fr u l => intro k; have h1 : p * l < u * q := h; have h2 : u * q < p * l := k; omega
    | ro r => exact Ov.not h
  | ro r =>
    cases n with
    | fr u l => exact fun k => Ov.not k h
    | ro t =>
      rintro ⟨v, m, hm2, k1, k2⟩
      obtain ⟨u, l, hl, h1, h2⟩ := h
      have ha := hm.1.ha
      have hb := hn.1.ha
      have x1 := ov_be_lt hm.1.n (by omega) hm2 hl k2 h1
      have x2 := ov_be_lt hn.1.n (by omega) hl hm2 h2 k1
      omega
theorem Nu.lt_ne {m n : Nu} (hm : m.Ok) (h : m.lt n) : m ≠ n := by
  intro e
  subst e
  exact Nu.asym hm hm h h
/-- a fraction between tells the order -/
theorem Nu.lt_of {m n : Nu} (hm : m.Ok) (hn : n.Ok) {u l : Int} (hl : 0 < l) (h1 : m.Be u l) (h2 : ¬ n.Be u l) : m.lt n := by
  cases m with
  | fr p q =>
    have hq := hm.1
    have h1' : p * l < u * q := h1
    cases n with
    | fr p' q' =>
      have hq' := hn.1
      have h2' : u * q' ≤ p' * l := by
        have : ¬ p' * l < u * q' := h2
        omega
      show p * q' < p' * q
      have x1 : p * l * q' < u * q * q' := Int.mul_lt_mul_of_pos_right h1' hq'
      have x2 : u * q' * q ≤ p' * l * q := Int.mul_le_mul_of_nonneg_right h2' (Int.le_of_lt hq)
      have x3 : p * q' * l < p' * q * l := by
        have e1 : p * q' * l = p * l * q' := by grind
        have e2 : u * q * q' = u * q' * q := by grind
        have e3 : p' * q * l = p' * l * q := by grind
        omega
      exact Int.lt_of_mul_lt_mul_right x3 (Int.le_of_lt hl)
    | ro r =>
      have ha := hn.1.ha
      have h3 : OvR r.a r.b r.c r.s u l := (root_tri hn.1 hl).elim id fun z => absurd z h2
      exact Ov.le hn.1.n (by omega) hl hq h3 (by omega)
  | ro r =>
    have ha := hm.1.ha
    cases n with
    | fr p' q' =>
      have h2' : u * q' ≤ p' * l := by
        have : ¬ p' * l < u * q' := h2
        omega
      exact Be.le hm.1.n (by omega) hl hn.1 h1 h2'
    | ro t => exact ⟨u, l, hl, h1, (root_tri hn.1 hl).elim id fun z => absurd z h2⟩
theorem prt_abs {r : R4} (ha : 0 < r.a) (hd : 0 ≤ ht r.a r.b r.c) : r.prt.natAbs ≤ (ht r.a r.b r.c).natAbs + r.b.natAbs + 1 := by
  have h0 := (rt_spec hd).1
  have h1 := rt_le hd
  show (partR r.a r.b r.c r.s).natAbs ≤ _
  unfold partR
  split
  · have := ediv_abs (u := 0 - rt (ht r.a r.b r.c) - 1 - r.b) (l := 2 * r.a) (by omega)
    omega
  · have := ediv_abs (u := rt (ht r.a r.b r.c) - r.b) (l := 2 * r.a) (by omega)
    omega
/-- the numbers of a root, from how they grow -/
theorem Sz.s4 {B : Int} {r : R4} (R : r.Is) (h : Sz B r) (hB : B + ht r.a r.b r.c ≤ 2 ^ 290) : S4 r := by
  have ha := R.ha
  have hd := R.n.pos
  have hp := prt_abs ha (Int.le_of_lt hd)
  obtain ⟨h1, h2, h3⟩ := h
  have e1 : (2 : Int) ^ 290 = 1989292945639146568621528992587283360401824603189390869761855907572637988050133502132224 := by decide
  have e2 : (2 : Nat) ^ 300 = 2037035976334486086268445688409378161051468393665936250636140449354381299763336706183397376 := by decide
  exact ⟨⟨by omega⟩, ⟨by omega⟩, ⟨by omega⟩, ⟨by omega⟩⟩
theorem tiny_ht {r : R4} (R : r.Is) (ha : r.a ≤ 64) (hb : r.b.natAbs ≤ 64) (hc : r.c.natAbs ≤ 64) : ht r.a r.b r.c < 2 ^ 15 := by
  have h0 := R.ha
  have h1 := Int.natAbs_mul r.b r.b
  have h2 := Int.natAbs_mul (4 * r.a) r.c
  have h3 : r.b.natAbs * r.b.natAbs ≤ 64 * 64 := Nat.mul_le_mul hb hb
  have h4 : (4 * r.a).natAbs * r.c.natAbs ≤ 256 * 64 := Nat.mul_le_mul (by omega) hc
  have h5 := Int.natAbs_sub_le (r.b * r.b) (4 * r.a * r.c)
  unfold ht
  have : (2 : Int) ^ 15 = 32768 := by decide
  omega
theorem tiny_sep {r t : R4} (R : r.Is) (T : t.Is) (ha : r.a ≤ 64) (hb : r.b.natAbs ≤ 64) (hc : r.c.natAbs ≤ 64) (ha' : t.a ≤ 64) (hb' : t.b.natAbs ≤ 64) (hc' : t.c.natAbs ≤ 64) : (sepN r.a r.b r.c t.a t.b t.c).natAbs < 2 ^ 80 := by
  have d1 := tiny_ht R ha hb hc
  have d2 := tiny_ht T ha' hb' hc'
  have p1 := R.n.pos
  have p2 := T.n.pos
  have q1 := R.ha
  have q2 := T.ha
  have e15 : (2 : Int) ^ 15 = 32768 := by decide
  have A : r.a.natAbs < 2 ^ 7 := by omega
  have B : r.b.natAbs < 2 ^ 7 := by omega
  have C : r.c.natAbs < 2 ^ 7 := by omega
  have A' : t.a.natAbs < 2 ^ 7 := by omega
  have B' : t.b.natAbs < 2 ^ 7 := by omega
  have C' : t.c.natAbs < 2 ^ 7 := by omega
  have K1 : (ht r.a r.b r.c + 6 * r.a).natAbs < 2 ^ 16 := by omega
  have K2 : (ht t.a t.b t.c + 6 * t.a).natAbs < 2 ^ 16 := by omega
  have Pp : (t.a * r.b - r.a * t.b).natAbs < 2 ^ 15 := nat_sub_lt (nat_mul_lt A' B) (nat_mul_lt A B')
  have Qq : (t.a * r.c - r.a * t.c).natAbs < 2 ^ 15 := nat_sub_lt (nat_mul_lt A' C) (nat_mul_lt A C')
  have Kk : (t.a * (ht r.a r.b r.c + 6 * r.a) + r.a * (ht t.a t.b t.c + 6 * t.a)).natAbs < 2 ^ 24 := nat_add_lt (nat_mul_lt A' K1) (nat_mul_lt A K2)
  have L : (r.b * (t.a * r.b - r.a * t.b) - 2 * r.a * (t.a * r.c - r.a * t.c)).natAbs < 2 ^ 25 := nat_mono (nat_sub_lt (m := 24) (nat_mono (nat_mul_lt B Pp) (by decide)) (nat_mul_lt (nat_mul_lt (m := 2) (by decide) A) Qq)) (by decide)
  have L2 : (((r.b * (t.a * r.b - r.a * t.b) - 2 * r.a * (t.a * r.c - r.a * t.c)).natAbs : Int)).natAbs < 2 ^ 25 := by
    rw [Int.natAbs_natCast]
    exact L
  unfold sepN
  have x1 := nat_mul_lt (nat_mul_lt Pp Pp) K1
  have x2 := nat_mul_lt Kk L2
  have x3 := nat_mul_lt A (nat_mul_lt Kk Kk)
  exact nat_mono (nat_add_lt (m := 58) (nat_add_lt (m := 57) (nat_add_lt (m := 56) (nat_mono x1 (by decide)) (nat_mono x2 (by decide))) (nat_mono x3 (by decide))) (by decide)) (by decide)
/-- how a root stands to a fraction -/
def sp_is_above : Sp := sp_above
def sp_by_fraction : Sp := fun vs H Q _ => ∃ (t f : Addr) (a b c s u l : Int), vs = [.ref t, .ref f] ∧ H t = some (tI [a, b, c, s]) ∧ H f = some (tI [u, l]) ∧ (s = 0 ∨ s = 1) ∧ Sm a ∧ Sm b ∧ Sm c ∧ Sm u ∧ Sm l ∧ Q (.int (if ab a b c s u l = true then 1 else -1)) H
def sp_by_rows : Sp := fun vs H Q _ => ∃ (x y : Addr) (r t : R4), vs = [.ref x, .ref y] ∧ H x = some (tI r.l) ∧ H y = some (tI t.l) ∧ (Nu.ro r).Ok ∧ (Nu.ro t).Ok ∧ r ≠ t ∧
  ((∃ u l, 0 < l ∧ Btw r t u l) → ∀ H', Same H H' → Q (.int (-1)) H') ∧ ((∃ u l, 0 < l ∧ Btw t r u l) → ∀ H', Same H H' → Q (.int 1) H')
def sp_compare : Sp := fun vs H Q _ => ∃ (x y : Addr) (m n : Nu), vs = [.ref x, .ref y] ∧ H x = some (tI m.l) ∧ H y = some (tI n.l) ∧ m.Ok ∧ n.Ok ∧
  (m = n → ∀ H', Same H H' → Q (.int 0) H') ∧ (m.lt n → ∀ H', Same H H' → Q (.int (-1)) H') ∧ (n.lt m → ∀ H', Same H H' → Q (.int 1) H')
/-- a drawn number -/
def Nu.In (w : Int) : Nu → Prop
  | .fr u l => 0 < l ∧ l ≤ w ∧ -w ≤ u ∧ u ≤ w ∧ dv u l = 1
  | .ro r => r.Is ∧ r.a ≤ w ∧ -w ≤ r.b ∧ r.b ≤ w ∧ -w ≤ r.c ∧ r.c ≤ w
theorem Nu.In.ok {w : Int} (hw : w ≤ 64) {n : Nu} (h : n.In w) : n.Ok := by
  cases n with
  | fr u l =>
    obtain ⟨h1, h2, h3, h4, h5⟩ := h
    have e : (2 : Nat) ^ 500 = 2 ^ 60 * 2 ^ 440 := by decide
    have e60 : (2 : Nat) ^ 60 = 1152921504606846976 := by decide
    exact ⟨h1, h5, nat_mono (m := 60) (by omega) (by decide), nat_mono (m := 60) (by omega) (by decide)⟩
  | ro r =>
    obtain ⟨h1, h2, h3, h4, h5, h6⟩ := h
    exact ⟨h1, by omega, by omega, by omega⟩
def sp_number (K : PySem.W.Frag) : Sp := fun vs H Q _ => ∃ (a : Addr) (ns : List Int) (k : Nat) (w : Int), vs = [.ref a, .int k, .int w] ∧ SqL K H a (ns.map V.int) ∧ k < 900 ∧ 2 ≤ w ∧ w ≤ 1000 ∧ ∀ (n : Nu) H' p, n.In w → Same H H' → H p = none → H' p = some (tI n.l) → Q (.ref p) H'
/-- whether the number is less than u / l -/
def Nu.be : Nu → Int → Int → Bool
  | .fr p q, u, l => decide (p * l < u * q)
  | .ro r, u, l => !ab r.a r.b r.c r.s u l
def Nu.ov : Nu → Int → Int → Bool
  | .fr p q, u, l => decide (u * q < p * l)
  | .ro r, u, l => ab r.a r.b r.c r.s u l
theorem Nu.be_iff {n : Nu} (h : n.Ok) {u l : Int} (hl : 0 < l) : n.be u l = true ↔ n.Be u l := by
  cases n with
  | fr p q => exact decide_eq_true_iff
  | ro r =>
    show (!ab r.a r.b r.c r.s u l) = true ↔ BeR r.a r.b r.c r.s u l
    rw [Bool.not_eq_true', ab_be h.1 hl]
theorem Nu.ov_iff {n : Nu} (h : n.Ok) {u l : Int} (hl : 0 < l) : n.ov u l = true ↔ n.Ov u l := by
  cases n with
  | fr p q => exact decide_eq_true_iff
  | ro r => exact ab_ov h.1 hl
def sp_below : Sp := fun vs H Q _ => ∃ (t : Addr) (n : Nu) (u l : Int), vs = [.ref t, .int u, .int l] ∧ H t = some (tI n.l) ∧ n.Ok ∧ Sm u ∧ Sm l ∧ Q (.bl (n.be u l)) H
def sp_over : Sp := fun vs H Q _ => ∃ (t : Addr) (n : Nu) (u l : Int), vs = [.ref t, .int u, .int l] ∧ H t = some (tI n.l) ∧ n.Ok ∧ Sm u ∧ Sm l ∧ Q (.bl (n.ov u l)) H
theorem low_in {u l w : Int} (hl : 0 < l) (h1 : l ≤ w) (h2 : -w ≤ u) (h3 : u ≤ w) : (Nu.fr (low u l).1 (low u l).2).In w := by
  have h := low_is (u := u) (show l ≠ 0 by omega)
  have h4 := low_abs (u := u) (show l ≠ 0 by omega)
  have := h.pos
  exact ⟨h.pos, by omega, by omega, by omega, h.one⟩
theorem Nu.fr_sm {p q : Int} (h : (Nu.fr p q).Ok) : Sm p ∧ Sm q := ⟨⟨nat_mono h.2.2.1 (by decide)⟩, ⟨nat_mono h.2.2.2 (by decide)⟩⟩
theorem Nu.ro_sm {r : R4} (h : (Nu.ro r).Ok) : Sm r.a ∧ Sm r.b ∧ Sm r.c := by
  have ha := h.1.ha
  have h1 := h.2.1
  have h2 := h.2.2.1
  have h3 := h.2.2.2
  exact ⟨sm_of (by omega), sm_of (by omega), sm_of (by omega)⟩
theorem Nu.inj {m n : Nu} (h : m.l = n.l) : m = n := by
  cases m with
  | fr p q =>
    cases n with
    | fr u l =>
      simp only [Nu.l, List.cons.injEq, and_true] at h
      rw [h.1, h.2]
    | ro r => simp [Nu.l, R4.l] at h
  | ro r =>
    cases n with
    | fr u l => simp [Nu.l, R4.l] at h
    | ro t =>
      obtain ⟨a, b, c, s⟩ := r
      obtain ⟨a', b', c', s'⟩ := t
      simp only [Nu.l, R4.l, List.cons.injEq, and_true] at h
      obtain ⟨rfl, rfl, rfl, rfl⟩ := h
      rfl
end RR
/-! RRR: rows that go round: the root of a beginning and a round. -/
namespace RR
theorem orb_succ (r : R4) (k : Nat) : orb r.nx k = orb r (k + 1) := by
  have := orb_add r 1 k
  rw [Nat.add_comm k 1, this]
  rfl
theorem prts_len (r : R4) (i n : Nat) : (prts r i n).length = n := by
  unfold prts
  rw [List.length_map, List.length_range']
theorem prts_get (r : R4) {i n k : Nat} (h : k < n) : (prts r i n)[k]? = some (orb r (i + k)).prt := by
  unfold prts
  rw [List.getElem?_map, List.getElem?_range' h, Nat.one_mul]
  rfl
theorem prts_ext {r : R4} {i n : Nat} {l : List Int} (hl : l.length = n) (h : ∀ k, k < n → l[k]? = some (orb r (i + k)).prt) : prts r i n = l := by
  apply List.ext_getElem?
  intro k
  by_cases hk : k < n
  · rw [prts_get r hk, h k hk]
  · rw [List.getElem?_eq_none (by rw [prts_len]; omega), List.getElem?_eq_none (by omega)]
theorem prts_cons (r : R4) (n : Nat) : prts r 0 (n + 1) = r.prt :: prts r.nx 0 n := by
  refine prts_ext (by rw [List.length_cons, prts_len]) fun k hk => ?_
  cases k with
  | zero => rfl
  | succ k =>
    rw [List.getElem?_cons_succ, prts_get _ (by omega), orb_succ, Nat.zero_add, Nat.zero_add]
/-! ### products -/
structure M4 where
  p : Int
  q : Int
  r : Int
  s : Int
/-- times one part, from behind -/
def M4.x (m : M4) (y : Int) : M4 := ⟨m.p * y + m.q, m.p, m.r * y + m.s, m.r⟩
/-- one part ahead -/
def M4.c (m : M4) (y : Int) : M4 := ⟨y * m.p + m.r, y * m.q + m.s, m.p, m.q⟩
def mt : List Int → M4
  | [] => ⟨1, 0, 0, 1⟩
  | y :: l => (mt l).c y
theorem M4.cx (m : M4) (y z : Int) : (m.c y).x z = (m.x z).c y := by
  simp only [M4.c, M4.x, M4.mk.injEq, and_true, true_and]
  grind
theorem mt_snoc : ∀ (l : List Int) (y : Int), mt (l ++ [y]) = (mt l).x y
  | [], y => by
    simp only [List.nil_append, mt, M4.c, M4.x, M4.mk.injEq]
    refine ⟨by omega, by omega, by omega, trivial⟩
  | z :: l, y => by
    show (mt (l ++ [y])).c z = ((mt l).c z).x y
    rw [mt_snoc l y, M4.cx]
/-- what the product of a row of parts from 1 on keeps -/
structure Gd (m : M4) : Prop where
  p : 1 ≤ m.p
  q : 0 ≤ m.q
  r : 0 ≤ m.r
  s : 0 ≤ m.s
  rs : 1 ≤ m.r + m.s
  lt : (m.p = 1 ∧ m.q = 0 ∧ m.r = 0 ∧ m.s = 1) ∨ (m.r ≤ m.p ∧ m.s ≤ m.q ∧ m.r + m.s < m.p + m.q)
  dt : m.p * m.s - m.q * m.r = 1 ∨ m.p * m.s - m.q * m.r = -1
theorem mt_gd : ∀ l : List Int, (∀ y ∈ l, 1 ≤ y) → Gd (mt l)
  | [], _ => ⟨by decide, by decide, by decide, by decide, by decide, .inl ⟨rfl, rfl, rfl, rfl⟩, .inl (by decide)⟩
  | y :: l, h => by
    have ih := mt_gd l fun z hz => h z (List.mem_cons_of_mem _ hz)
    have hy := h y List.mem_cons_self
    obtain ⟨h1, h2, h3, h4, h5, h6, h7⟩ := ih
    have e1 : 1 * (mt l).p ≤ y * (mt l).p := Int.mul_le_mul_of_nonneg_right hy (by omega)
    have e2 : 1 * (mt l).q ≤ y * (mt l).q := Int.mul_le_mul_of_nonneg_right hy h2
    refine ⟨?_, ?_, ?_, ?_, ?_, .inr ⟨?_, ?_, ?_⟩, ?_⟩
    · show 1 ≤ y * (mt l).p + (mt l).r
      omega
    · show 0 ≤ y * (mt l).q + (mt l).s
      omega
    · show 0 ≤ (mt l).p
      omega
    · exact h2
    · show 1 ≤ (mt l).p + (mt l).q
      omega
    · show (mt l).p ≤ y * (mt l).p + (mt l).r
      omega
    · show (mt l).q ≤ y * (mt l).q + (mt l).s
      omega
    · show (mt l).p + (mt l).q < y * (mt l).p + (mt l).r + (y * (mt l).q + (mt l).s)
      omega
    · show (y * (mt l).p + (mt l).r) * (mt l).q - (y * (mt l).q + (mt l).s) * (mt l).p = 1 ∨ (y * (mt l).p + (mt l).r) * (mt l).q - (y * (mt l).q + (mt l).s) * (mt l).p = -1
      have e : (y * (mt l).p + (mt l).r) * (mt l).q - (y * (mt l).q + (mt l).s) * (mt l).p = -((mt l).p * (mt l).s - (mt l).q * (mt l).r) := by grind
      omega
/-- the form of a product -/
def M4.a (m : M4) : Int := m.r
def M4.b (m : M4) : Int := m.s - m.p
def M4.k (m : M4) : Int := 0 - m.q
/-- the root of a round -/
def tB (l : List Int) : R4 := ⟨nfA (mt l).a (mt l).b (mt l).k, nfB (mt l).a (mt l).b (mt l).k, nfC (mt l).a (mt l).b (mt l).k, 1⟩
theorem ns_round {t d : Int} (ht0 : 1 ≤ t) (h : d = -1 ∨ (d = 1 ∧ 3 ≤ t)) : Ns (t * t - 4 * d) := by
  have e1 : (t + 1) * (t + 1) = t * t + 2 * t + 1 := by grind
  have e2 : (t + 2) * (t + 2) = t * t + 4 * t + 4 := by grind
  have e3 : (t - 1) * (t - 1) = t * t - 2 * t + 1 := by grind
  have hp := sqn t
  have hne : ∀ x : Int, 0 ≤ x → x * x ≠ t * t - 4 * d := fun x hx e => by
    rcases h with rfl | ⟨rfl, h3⟩
    · have k1 := sq_lt (a := t) (b := x) hx (by omega)
      have k2 := sq_lt (a := x) (b := t + 2) (by omega) (by omega)
      have k3 : x = t + 1 := by omega
      subst k3
      omega
    · have k1 := sq_lt (a := x) (b := t) (by omega) (by omega)
      have k2 := sq_lt (a := t - 1) (b := x) hx (by omega)
      omega
  refine ⟨?_, ?_⟩
  · rcases h with rfl | ⟨rfl, h3⟩
    · omega
    · have := Int.mul_self_le_mul_self (show (0 : Int) ≤ 3 by decide) h3
      omega
  · cases e : isSq (t * t - 4 * d) with
    | false => rfl
    | true =>
      have e2 : rt (t * t - 4 * d) * rt (t * t - 4 * d) = t * t - 4 * d := of_decide_eq_true e
      by_cases hx : 0 ≤ rt (t * t - 4 * d)
      · exact absurd e2 (hne _ hx)
      · have e3 : -rt (t * t - 4 * d) * -rt (t * t - 4 * d) = t * t - 4 * d := by
          rw [Int.neg_mul_neg]
          exact e2
        exact absurd e3 (hne _ (by omega))
theorem form_no {x : Int} {m : M4} (hx : 1 ≤ x) (h : Gd m) : ¬ NoRoot (m.c x).a (m.c x).b (m.c x).k := by
  obtain ⟨h1, h2, h3, h4, h5, h6, h7⟩ := h
  have e1 : 1 * m.p ≤ x * m.p := Int.mul_le_mul_of_nonneg_right hx (by omega)
  have e : ht (m.c x).a (m.c x).b (m.c x).k = (x * m.p + m.r + m.q) * (x * m.p + m.r + m.q) - 4 * -(m.p * m.s - m.q * m.r) := by
    unfold ht M4.a M4.b M4.k M4.c
    grind
  refine not_noRoot (h := ?_)
  rw [e]
  refine ns_round (by omega) ?_
  rcases h7 with h7 | h7
  · exact .inl (by omega)
  · refine .inr ⟨by omega, ?_⟩
    have k1 : 1 ≤ m.q := by
      by_cases z : 1 ≤ m.q
      · exact z
      · have z0 : m.q = 0 := by omega
        rw [z0] at h7
        have := Int.mul_nonneg (show 0 ≤ m.p by omega) h4
        omega
    have k2 : 1 ≤ m.r := by
      by_cases z : 1 ≤ m.r
      · exact z
      · have z0 : m.r = 0 := by omega
        rw [z0] at h7
        have := Int.mul_nonneg (show 0 ≤ m.p by omega) h4
        omega
    omega
theorem tB_is {x : Int} {l : List Int} (hx : 1 ≤ x) (hl : ∀ y ∈ l, 1 ≤ y) : (tB (x :: l)).Is := nf_isR (form_no hx (mt_gd l hl)) (.inr rfl)
/-- a root's cut by a number it is a multiple of -/
theorem nf_scale {a b c A B C k : Int} (hk : 0 < k) (hA : 0 < A) (hd : dv (dv A B) C = 1) (e1 : a = A * k) (e2 : b = B * k) (e3 : c = C * k) : nfA a b c = A ∧ nfB a b c = B ∧ nfC a b c = C := by
  obtain ⟨n1, n2, n3⟩ := nf_mul (a := A) (b := B) (c := C) (by omega) hk
  rw [e1, e2, e3, n1, n2, n3]
  unfold nfA nfB nfC
  rw [if_neg (by omega), if_neg (by omega), if_neg (by omega), hd, Int.ediv_one, Int.ediv_one, Int.ediv_one]
  exact ⟨rfl, rfl, rfl⟩
/-- the part is the first of the round, and the round turns -/
theorem tB_turn {x : Int} {l : List Int} (hx : 1 ≤ x) (hl : ∀ y ∈ l, 1 ≤ y) : (tB (x :: l)).prt = x ∧ (tB (x :: l)).nx = tB (l ++ [x]) := by
  have hg := mt_gd l hl
  have R := tB_is hx hl
  have hno := form_no hx hg
  obtain ⟨k, hk, e1, e2, e3, hA, hdv, _, hkp, _⟩ := nf_eq (b := (mt (x :: l)).b) (c := (mt (x :: l)).k) (show (mt (x :: l)).a ≠ 0 from fun z => hno (.inl z))
  have hp1 := hg.p
  have hk0 : 0 < k := hkp (by show 0 < (mt l).p; omega)
  have ea : (mt l).p = (tB (x :: l)).a * k := e1
  have eb : (mt l).q - (x * (mt l).p + (mt l).r) = (tB (x :: l)).b * k := e2
  have ec : 0 - (x * (mt l).q + (mt l).s) = (tB (x :: l)).c * k := e3
  have hs : (tB (x :: l)).s = 1 := rfl
  generalize tB (x :: l) = t at *
  obtain ⟨h1, h2, h3, h4, h5, h6, h7⟩ := hg
  have hta : 0 < t.a := R.ha
  -- at x the form is below 0, at the next one above
  have f1 : mvC t.a t.b t.c x * k = -((mt l).r * x + (mt l).s) := by
    have : mvC t.a t.b t.c x * k = (t.a * k) * x * x + (t.b * k) * x + t.c * k := by unfold mvC; grind
    rw [this, ← ea, ← eb, ← ec]
    grind
  have hrx : 1 * (mt l).r ≤ x * (mt l).r := Int.mul_le_mul_of_nonneg_right hx h3
  have hneg : mvC t.a t.b t.c x < 0 := by
    by_cases z : mvC t.a t.b t.c x < 0
    · exact z
    · have := Int.mul_nonneg (show 0 ≤ mvC t.a t.b t.c x by omega) (Int.le_of_lt hk0)
      rw [Int.mul_comm (mt l).r x] at f1
      omega
  have f2 : mvC t.a t.b t.c (x + 1) * k = ((mt l).p - (mt l).r) * (x + 1) + ((mt l).q - (mt l).s) := by
    have : mvC t.a t.b t.c (x + 1) * k = (t.a * k) * (x + 1) * (x + 1) + (t.b * k) * (x + 1) + t.c * k := by unfold mvC; grind
    rw [this, ← ea, ← eb, ← ec]
    grind
  have hpos : 0 < mvC t.a t.b t.c (x + 1) := by
    by_cases z : 0 < mvC t.a t.b t.c (x + 1)
    · exact z
    · have k1 := Int.mul_nonneg (show 0 ≤ -mvC t.a t.b t.c (x + 1) by omega) (Int.le_of_lt hk0)
      rw [Int.neg_mul] at k1
      rcases h6 with ⟨g1, g2, g3, g4⟩ | ⟨g1, g2, g3⟩
      · rw [g1, g2, g3, g4] at f2
        omega
      · have k2 : ((mt l).p - (mt l).r) * 1 ≤ ((mt l).p - (mt l).r) * (x + 1) := Int.mul_le_mul_of_nonneg_left (by omega) (by omega)
        omega
  have htc : t.c ≤ 0 := by
    by_cases z : t.c ≤ 0
    · exact z
    · have k1 : 0 < t.c * k := Int.mul_pos (by omega) hk0
      have k2 := Int.mul_nonneg (show 0 ≤ x by omega) h2
      omega
  have o1 : OvR t.a t.b t.c t.s x 1 := by
    refine (ab_ov R (by decide)).mp ?_
    unfold ab
    rw [if_pos hs, Bool.or_eq_true]
    refine .inr (decide_eq_true ?_)
    have : fm t.a t.b t.c x 1 = mvC t.a t.b t.c x := by unfold fm mvC; grind
    omega
  have o2 : BeR t.a t.b t.c t.s (x + 1) 1 := by
    refine (ab_be R (by decide)).mp ?_
    unfold ab
    rw [if_pos hs, Bool.or_eq_false_iff, Bool.not_eq_false', decide_eq_true_iff, decide_eq_false_iff_not]
    have e4 : fm t.a t.b t.c (x + 1) 1 = mvC t.a t.b t.c (x + 1) := by unfold fm mvC; grind
    refine ⟨?_, by omega⟩
    have e5 : mvC t.a t.b t.c (x + 1) = (x + 1) * (t.a * (x + 1) + t.b) + t.c := by unfold mvC; grind
    have k1 : 0 < t.a * (x + 1) + t.b := by
      by_cases z : 0 < t.a * (x + 1) + t.b
      · exact z
      · have := Int.mul_nonneg (show 0 ≤ x + 1 by omega) (show 0 ≤ -(t.a * (x + 1) + t.b) by omega)
        rw [Int.mul_neg] at this
        omega
    have k2 : 0 < t.a * (x + 1) := Int.mul_pos hta (by omega)
    have e6 : 2 * t.a * (x + 1) + t.b * 1 = t.a * (x + 1) + (t.a * (x + 1) + t.b) := by grind
    omega
  have hprt : t.prt = x := by
    obtain ⟨p1, p2⟩ := part_is R
    have k1 := ov_be_lt R.n (by omega) (by decide) (by decide) p1 o2
    have k2 := ov_be_lt R.n (by omega) (by decide) (by decide) o1 p2
    omega
  refine ⟨hprt, ?_⟩
  have hn := tn_isR x R
  have tA : tnA t.a t.b t.c x = -mvC t.a t.b t.c x := if_neg (by omega)
  have tBb : tnB t.a t.b t.c x = -(t.b + 2 * t.a * x) := if_neg (by omega)
  have tC : tnC t.a t.b t.c x = -t.a := if_neg (by omega)
  have tS : tnS t.a t.b t.c t.s x = t.s := if_neg (by omega)
  have g1 : (mt (l ++ [x])).a = tnA t.a t.b t.c x * k := by
    rw [mt_snoc, tA, Int.neg_mul, f1]
    show (mt l).r * x + (mt l).s = _
    omega
  have g2 : (mt (l ++ [x])).b = tnB t.a t.b t.c x * k := by
    rw [mt_snoc, tBb]
    show (mt l).r - ((mt l).p * x + (mt l).q) = _
    have : -(t.b + 2 * t.a * x) * k = -(t.b * k) - 2 * (t.a * k) * x := by grind
    rw [this, ← ea, ← eb]
    grind
  have g3 : (mt (l ++ [x])).k = tnC t.a t.b t.c x * k := by
    rw [mt_snoc, tC, Int.neg_mul, ← ea]
    show 0 - (mt l).p = _
    omega
  obtain ⟨n1, n2, n3⟩ := nf_scale hk0 hn.ha hn.g g1 g2 g3
  show t.tn t.prt = _
  rw [hprt]
  unfold R4.tn tB
  rw [n1, n2, n3, tS, hs]
theorem tB_rot : ∀ (l1 l2 : List Int), (∀ y ∈ l1, 1 ≤ y) → (∀ y ∈ l2, 1 ≤ y) → orb (tB (l1 ++ l2)) l1.length = tB (l2 ++ l1) ∧ prts (tB (l1 ++ l2)) 0 l1.length = l1
  | [], l2, _, _ => by
    rw [List.append_nil, List.nil_append]
    exact ⟨rfl, rfl⟩
  | x :: l1, l2, h1, h2 => by
    have hx := h1 x List.mem_cons_self
    have hl1 : ∀ y ∈ l1, 1 ≤ y := fun y hy => h1 y (List.mem_cons_of_mem _ hy)
    have hl : ∀ y ∈ l1 ++ l2, 1 ≤ y := fun y hy => (List.mem_append.mp hy).elim (hl1 y) (h2 y)
    obtain ⟨e1, e2⟩ := tB_turn hx hl
    have h3 : ∀ y ∈ l2 ++ [x], 1 ≤ y := fun y hy => (List.mem_append.mp hy).elim (h2 y) fun z => by rw [List.mem_singleton.mp z]; exact hx
    obtain ⟨i1, i2⟩ := tB_rot l1 (l2 ++ [x]) hl1 h3
    have e3 : (tB (x :: (l1 ++ l2))).nx = tB (l1 ++ (l2 ++ [x])) := by rw [e2, List.append_assoc]
    have sh : ∀ k, orb (tB (l1 ++ (l2 ++ [x]))) k = orb (tB (x :: (l1 ++ l2))) (k + 1) := fun k => by
      have := orb_add (tB (x :: (l1 ++ l2))) 1 k
      rw [show orb (tB (x :: (l1 ++ l2))) 1 = tB (l1 ++ (l2 ++ [x])) from e3] at this
      rw [← this, Nat.add_comm]
    constructor
    · show orb (tB (x :: (l1 ++ l2))) (l1.length + 1) = _
      rw [← orb_succ, e3, i1, List.append_assoc]
      rfl
    · show prts (tB (x :: (l1 ++ l2))) 0 (l1.length + 1) = _
      rw [prts_cons, e1, e3, i2]
/-! ### a part ahead -/
/-- a part and 1 divided by a root -/
def led (t : R4) (p : Int) : R4 := ⟨tnA t.a t.b t.c 0, tnB t.a t.b t.c 0 - 2 * tnA t.a t.b t.c 0 * p, tnA t.a t.b t.c 0 * p * p - tnB t.a t.b t.c 0 * p + tnC t.a t.b t.c 0, tnS t.a t.b t.c t.s 0⟩
theorem shift_dv {a b c p : Int} (h : dv (dv a b) c = 1) : dv (dv a (b - 2 * a * p)) (a * p * p - b * p + c) = 1 := by
  obtain ⟨h1, h2, h3⟩ := dv3_dvd a (b - 2 * a * p) (a * p * p - b * p + c)
  have h0 := dv_nonneg (dv a (b - 2 * a * p)) (a * p * p - b * p + c)
  generalize dv (dv a (b - 2 * a * p)) (a * p * p - b * p + c) = k at *
  have k2 : k ∣ b := by
    have := Int.dvd_add h2 (Int.dvd_trans h1 (Int.dvd_mul_right a (2 * p)))
    rw [show b - 2 * a * p + a * (2 * p) = b by grind] at this
    exact this
  have k3 : k ∣ c := by
    have := Int.dvd_add (Int.dvd_sub h3 (Int.dvd_trans h1 (Int.dvd_mul_right a (p * p)))) (Int.dvd_trans k2 (Int.dvd_mul_right b p))
    rw [show a * p * p - b * p + c - a * (p * p) + b * p = c by grind] at this
    exact this
  exact dv3 h h1 k2 k3 h0
theorem shift_ht (a b c p : Int) : ht a (b - 2 * a * p) (a * p * p - b * p + c) = ht a b c := by
  unfold ht
  grind
theorem led_is {t : R4} (R : t.Is) (p : Int) : (led t p).Is := by
  have h := tn_isR 0 R
  exact ⟨h.ha, h.hs, shift_dv h.g, by
    show Ns (ht _ _ _)
    unfold led
    dsimp only
    rw [shift_ht]
    exact h.n⟩
theorem led_turn {t : R4} (R : t.Is) (h1 : OvR t.a t.b t.c t.s 1 1) (p : Int) : (led t p).prt = p ∧ (led t p).nx = t := by
  have ha := R.ha
  have RL := led_is R p
  have R0 := tn_isR 0 R
  have hr2 : (0 : Int) < 2 * t.a := by omega
  have h0 : OvR t.a t.b t.c t.s 0 1 := Ov.le R.n hr2 (by decide) (by decide) h1 (by decide)
  have u1 : OvR (tnA t.a t.b t.c 0) (tnB t.a t.b t.c 0) (tnC t.a t.b t.c 0) (tnS t.a t.b t.c t.s 0) 0 1 := (tn_zero R (by decide)).mpr h0
  have u2 : BeR (tnA t.a t.b t.c 0) (tnB t.a t.b t.c 0) (tnC t.a t.b t.c 0) (tnS t.a t.b t.c t.s 0) 1 1 := by
    rcases root_tri (u := 1) R0 (show (0 : Int) < 1 by decide) with k | k
    · have k2 := ((tn_up R (by decide) (by decide)).mp k).2
      rw [show (0 : Int) * 1 + 1 = 1 by decide] at k2
      exact absurd k2 h1.not
    · exact k
  -- moved by the part
  have sh : ∀ u : Int, ht (led t p).a (led t p).b (led t p).c = ht (tnA t.a t.b t.c 0) (tnB t.a t.b t.c 0) (tnC t.a t.b t.c 0) := fun _ => shift_ht _ _ _ p
  have o1 : OvR (led t p).a (led t p).b (led t p).c (led t p).s p 1 := by
    unfold OvR Ov at *
    rw [sh 0]
    have e : -(led t p).b * 1 - p * (2 * (led t p).a) = -tnB t.a t.b t.c 0 * 1 - 0 * (2 * tnA t.a t.b t.c 0) := by
      unfold led
      grind
    rw [e]
    exact u1
  have o2 : BeR (led t p).a (led t p).b (led t p).c (led t p).s (p + 1) 1 := by
    unfold BeR Be at *
    rw [sh 0]
    have e : (p + 1) * (2 * (led t p).a) - -(led t p).b * 1 = 1 * (2 * tnA t.a t.b t.c 0) - -tnB t.a t.b t.c 0 * 1 := by
      unfold led
      grind
    rw [e]
    exact u2
  have hLa := RL.ha
  have hprt : (led t p).prt = p := by
    obtain ⟨p1, p2⟩ := part_is RL
    have k1 := ov_be_lt RL.n (by omega) (by decide) (by decide) p1 o2
    have k2 := ov_be_lt RL.n (by omega) (by decide) (by decide) o1 p2
    omega
  refine ⟨hprt, ?_⟩
  show (led t p).tn (led t p).prt = t
  rw [hprt]
  have m0 : mvC t.a t.b t.c 0 = t.c := by unfold mvC; grind
  have mL : mvC (led t p).a (led t p).b (led t p).c p = tnC t.a t.b t.c 0 := by
    unfold mvC led
    dsimp only
    grind
  have bL : (led t p).b + 2 * (led t p).a * p = tnB t.a t.b t.c 0 := by
    unfold led
    dsimp only
    omega
  have aL : (led t p).a = tnA t.a t.b t.c 0 := rfl
  have sL : (led t p).s = tnS t.a t.b t.c t.s 0 := rfl
  have hc := mvC_ne (n := 0) R.n
  obtain ⟨a, b, c, s⟩ := t
  unfold R4.tn tnA tnB tnC tnS
  dsimp only at *
  rw [mL, bL, aL, sL]
  unfold tnA tnB tnC tnS
  rw [m0] at *
  by_cases hc0 : 0 < c
  · rw [if_pos hc0, if_pos hc0, if_pos hc0, if_pos hc0, if_pos ha, if_pos ha, if_pos ha, if_pos ha]
    congr 1
    · omega
    · omega
  · rw [if_neg hc0, if_neg hc0, if_neg hc0, if_neg hc0, if_neg (by omega), if_neg (by omega), if_neg (by omega), if_neg (by omega)]
    congr 1
    · omega
    · omega
    · omega
/-- the root of a beginning and a round -/
def rb (ah ag : List Int) : R4 := ah.foldr (fun p t => led t p) (tB ag)
/-- a beginning and a round -/
def isRound (ah ag : List Int) : Prop := ag ≠ [] ∧ (∀ y ∈ ag, 1 ≤ y) ∧ ∀ y ∈ ah.drop 1, 1 ≤ y
theorem above_one {r : R4} (R : r.Is) (h : 1 ≤ r.prt) : OvR r.a r.b r.c r.s 1 1 := Ov.le R.n (by have := R.ha; omega) (by decide) (by decide) (part_is R).1 (by omega)
theorem rb_is : ∀ (ah ag : List Int), isRound ah ag → (rb ah ag).Is ∧ prts (rb ah ag) 0 ah.length = ah ∧ orb (rb ah ag) ah.length = tB ag ∧ ((∀ y ∈ ah, 1 ≤ y) → OvR (rb ah ag).a (rb ah ag).b (rb ah ag).c (rb ah ag).s 1 1)
  | [], ag, h => by
    obtain ⟨h1, h2, _⟩ := h
    cases ag with
    | nil => exact absurd rfl h1
    | cons x l =>
      have hx := h2 x List.mem_cons_self
      have hl : ∀ y ∈ l, 1 ≤ y := fun y hy => h2 y (List.mem_cons_of_mem _ hy)
      have R := tB_is hx hl
      have ht := tB_turn hx hl
      exact ⟨R, rfl, rfl, fun _ => above_one R (show 1 ≤ (tB (x :: l)).prt by rw [ht.1]; exact hx)⟩
  | p :: ah, ag, h => by
    obtain ⟨h1, h2, h3⟩ := h
    have h3' : ∀ y ∈ ah, 1 ≤ y := h3
    obtain ⟨R, i1, i2, i3⟩ := rb_is ah ag ⟨h1, h2, fun y hy => h3' y (List.mem_of_mem_drop hy)⟩
    obtain ⟨l1, l2⟩ := led_turn R (i3 h3') p
    have RL := led_is R p
    refine ⟨RL, ?_, ?_, fun hy => above_one RL (show 1 ≤ (led (rb ah ag) p).prt by rw [l1]; exact hy p List.mem_cons_self)⟩
    · show prts (led (rb ah ag) p) 0 (ah.length + 1) = _
      rw [prts_cons, l1, l2, i1]
    · show orb (led (rb ah ag) p) (ah.length + 1) = _
      rw [← orb_succ, l2, i2]
/-- the row of it -/
theorem rb_row {ah ag : List Int} (h : isRound ah ag) : (rb ah ag).Is ∧ prts (rb ah ag) 0 ah.length = ah ∧ prts (rb ah ag) ah.length ag.length = ag ∧ orb (rb ah ag) (ah.length + ag.length) = orb (rb ah ag) ah.length := by
  obtain ⟨R, i1, i2, _⟩ := rb_is ah ag h
  have hr := tB_rot ag [] h.2.1 (fun y hy => by cases hy)
  rw [List.append_nil, List.nil_append] at hr
  refine ⟨R, i1, ?_, by rw [orb_add, i2, hr.1]⟩
  refine prts_ext rfl fun k hk => ?_
  rw [orb_add, i2, ← Nat.zero_add k, ← prts_get _ hk, hr.2, Nat.zero_add]
/-! ### like rows, like roots -/
theorem nx_is {r : R4} (R : r.Is) : r.nx.Is := tn_isR _ R
theorem same_parts_aux : ∀ (k : Nat) {r t : R4} {u l : Int}, r.Is → t.Is → 0 < l → l.toNat ≤ k → Btw r t u l → (∀ i, (orb r i).prt = (orb t i).prt) → False
  | 0, r, t, u, l, _, _, hl, hk, _, _ => by omega
  | k + 1, r, t, u, l, R, T, hl, hk, hb, hp => by
    obtain ⟨h1, h2, h3⟩ := btw_turn R T hl hb (hp 0)
    exact same_parts_aux k (nx_is T) (nx_is R) h1 (by omega) h3 fun i => by rw [orb_succ, orb_succ]; exact (hp (i + 1)).symm
theorem same_parts {r t : R4} (R : r.Is) (T : t.Is) (hp : ∀ i, (orb r i).prt = (orb t i).prt) : r = t := by
  by_cases h : r = t
  · exact h
  · obtain ⟨u, l, hl, _, h1 | h1⟩ := sep R T h
    · exact (same_parts_aux _ R T hl (Nat.le_refl _) h1 hp).elim
    · exact (same_parts_aux _ T R hl (Nat.le_refl _) h1 fun i => (hp i).symm).elim
end RR
/-! RRU: how a row goes round; the promises of root_by and its kin. -/
namespace RR
open PySem PySem.Spec PyProof.Rows L2
theorem nx_above {r : R4} (R : r.Is) : OvR r.nx.a r.nx.b r.nx.c r.nx.s 1 1 := by
  obtain ⟨p1, p2⟩ := part_is R
  refine (tn_up R (by decide) (by decide)).mpr ⟨p1, ?_⟩
  rw [Int.mul_one]
  exact p2
theorem prt_one {r : R4} (R : r.Is) (h : OvR r.a r.b r.c r.s 1 1) : 1 ≤ r.prt := by
  obtain ⟨p1, p2⟩ := part_is R
  have := ov_be_lt R.n (by have := R.ha; omega) (by decide) (by decide) h p2
  omega
theorem orb_prt {r : R4} (R : r.Is) {k : Nat} (h : 1 ≤ k) : 1 ≤ (orb r k).prt := by
  cases k with
  | zero => omega
  | succ k => exact prt_one (orb_is R (k + 1)) (nx_above (orb_is R k))
theorem first_repeat {r : R4} : ∀ N : Nat, (∃ i j, i < j ∧ j ≤ N ∧ orb r j = orb r i) → ∃ i j, i < j ∧ j ≤ N ∧ orb r j = orb r i ∧ ∀ k m, k < m → m < j → orb r k ≠ orb r m
  | 0, ⟨i, j, h1, h2, _⟩ => by omega
  | N + 1, ⟨i, j, h1, h2, h3⟩ => by
    by_cases h : ∃ i j, i < j ∧ j ≤ N ∧ orb r j = orb r i
    · obtain ⟨i, j, a, b, c, d⟩ := first_repeat N h
      exact ⟨i, j, a, by omega, c, d⟩
    · refine ⟨i, j, h1, h2, h3, fun k m hkm hm e => h ⟨k, m, hkm, by omega, e.symm⟩⟩
theorem orb_mod {r : R4} {i l : Nat} (hl : 0 < l) (h : orb r (i + l) = orb r i) (x : Nat) : orb r (i + x) = orb r (i + x % l) := by
  have step : ∀ x, orb r (i + (x + l)) = orb r (i + x) := fun x => by
    rw [show i + (x + l) = i + l + x by omega, orb_add, h, ← orb_add]
  have go : ∀ q y, orb r (i + (y + l * q)) = orb r (i + y) := fun q => by
    induction q with
    | zero => intro y; rfl
    | succ q ih =>
      intro y
      rw [Nat.mul_succ, show y + (l * q + l) = (y + l * q) + l by omega, step, ih]
  have e := go (x / l) (x % l)
  rw [Nat.mod_add_div] at e
  exact e
theorem cyc {r : R4} {i j a n : Nat} (hij : i < j) (h : orb r j = orb r i) (hd : ∀ k m, k < m → m < j → orb r k ≠ orb r m) (hn : 1 ≤ n) (ha : orb r (a + n) = orb r a) : i ≤ a ∧ j - i ≤ n := by
  have hl : 0 < j - i := by omega
  have hper : orb r (i + (j - i)) = orb r i := by rw [show i + (j - i) = j by omega]; exact h
  have hia : i ≤ a := by
    by_cases z : i ≤ a
    · exact z
    · exfalso
      by_cases h2 : a + n < j
      · exact hd a (a + n) (by omega) h2 ha.symm
      · have e := orb_mod hl hper (a + n - i)
        rw [show i + (a + n - i) = a + n by omega, ha] at e
        have hm := Nat.mod_lt (a + n - i) hl
        exact hd a _ (by omega) (by omega) e
  refine ⟨hia, ?_⟩
  by_cases z : j - i ≤ n
  · exact z
  · exfalso
    have e1 := orb_mod hl hper (a - i)
    have e2 := orb_mod hl hper (a + n - i)
    rw [show i + (a - i) = a by omega] at e1
    rw [show i + (a + n - i) = a + n by omega, ha] at e2
    have m1 := Nat.mod_lt (a - i) hl
    have m2 := Nat.mod_lt (a + n - i) hl
    have e3 : (a + n - i) % (j - i) = (a - i) % (j - i) := by
      by_cases h1 : (a + n - i) % (j - i) < (a - i) % (j - i)
      · exact absurd (e2.symm.trans e1) (hd _ _ (by omega) (by omega))
      · by_cases h2 : (a - i) % (j - i) < (a + n - i) % (j - i)
        · exact absurd (e1.symm.trans e2) (hd _ _ (by omega) (by omega))
        · omega
    have e4 := Nat.sub_mod_eq_zero_of_mod_eq e3
    rw [show a + n - i - (a - i) = n by omega, Nat.mod_eq_of_lt (by omega)] at e4
    omega
/-- a root is told by its beginning and its round -/
theorem rb_same {r : R4} (R : r.Is) {i j : Nat} (hij : i < j) (h : orb r j = orb r i) : isRound (prts r 0 i) (prts r i (j - i)) ∧ rb (prts r 0 i) (prts r i (j - i)) = r := by
  have hl : 0 < j - i := by omega
  have hper : orb r (i + (j - i)) = orb r i := by rw [show i + (j - i) = j by omega]; exact h
  have hR : isRound (prts r 0 i) (prts r i (j - i)) := by
    refine ⟨fun z => ?_, fun y hy => ?_, fun y hy => ?_⟩
    · have := congrArg List.length z
      rw [prts_len] at this
      simp at this
      omega
    · obtain ⟨k, hk⟩ := List.getElem?_of_mem hy
      have hkl : k < j - i := by
        by_cases z : k < j - i
        · exact z
        · rw [List.getElem?_eq_none (by rw [prts_len]; omega)] at hk
          cases hk
      rw [prts_get r hkl] at hk
      rw [← Option.some.inj hk]
      by_cases z : 1 ≤ i + k
      · exact orb_prt R z
      · have e1 : i = 0 := by omega
        have e2 : k = 0 := by omega
        subst e1 e2
        rw [show orb r (0 + 0) = orb r j from h.symm]
        exact orb_prt R (by omega)
    · obtain ⟨k, hk⟩ := List.getElem?_of_mem hy
      rw [List.getElem?_drop] at hk
      have hkl : 1 + k < i := by
        by_cases z : 1 + k < i
        · exact z
        · rw [List.getElem?_eq_none (by rw [prts_len]; omega)] at hk
          cases hk
      rw [prts_get r hkl] at hk
      rw [← Option.some.inj hk]
      exact orb_prt R (by omega)
  refine ⟨hR, ?_⟩
  obtain ⟨R2, p1, p2, p3⟩ := rb_row hR
  rw [prts_len] at p1 p2 p3
  rw [prts_len] at p2 p3
  refine same_parts R2 R fun k => ?_
  by_cases hk : k < i
  · have e1 := prts_get (rb (prts r 0 i) (prts r i (j - i))) (i := 0) hk
    rw [p1, prts_get r hk, Nat.zero_add] at e1
    exact (Option.some.inj e1).symm
  · obtain ⟨x, rfl⟩ : ∃ x, k = i + x := ⟨k - i, by omega⟩
    rw [orb_mod hl p3 x, orb_mod hl hper x]
    have hm := Nat.mod_lt x hl
    have e1 := prts_get (rb (prts r 0 i) (prts r i (j - i))) (i := i) hm
    rw [p2, prts_get r hm] at e1
    exact (Option.some.inj e1).symm
/-! ### sizes -/
structure MB (n : Nat) (m : M4) : Prop where
  p : m.p.natAbs < 2 ^ n
  q : m.q.natAbs < 2 ^ n
  r : m.r.natAbs < 2 ^ n
  s : m.s.natAbs < 2 ^ n
theorem mt_abs : ∀ l : List Int, (∀ y ∈ l, y.natAbs < 2 ^ 5) → MB (6 * l.length + 1) (mt l)
  | [], _ => ⟨by decide, by decide, by decide, by decide⟩
  | y :: l, h => by
    obtain ⟨a, b, c, d⟩ := mt_abs l fun z hz => h z (List.mem_cons_of_mem _ hz)
    have hy := h y List.mem_cons_self
    rw [List.length_cons]
    have e : 6 * (l.length + 1) + 1 = 5 + (6 * l.length + 1) + 1 := by omega
    rw [e]
    exact ⟨nat_add_lt (nat_mul_lt hy a) (nat_mono c (by omega)), nat_add_lt (nat_mul_lt hy b) (nat_mono d (by omega)), nat_mono a (by omega), nat_mono b (by omega)⟩
structure R4B (n : Nat) (r : R4) : Prop where
  a : r.a.natAbs < 2 ^ n
  b : r.b.natAbs < 2 ^ n
  c : r.c.natAbs < 2 ^ n
theorem tB_abs {x : Int} {l : List Int} (hx : 1 ≤ x) (hl : ∀ y ∈ l, 1 ≤ y) (h : ∀ y ∈ x :: l, y.natAbs < 2 ^ 5) : R4B (6 * (x :: l).length + 2) (tB (x :: l)) := by
  obtain ⟨a, b, c, d⟩ := mt_abs _ h
  have hno := form_no hx (mt_gd l hl)
  obtain ⟨n1, n2, n3⟩ := nf_abs (b := (mt (x :: l)).b) (c := (mt (x :: l)).k) (show (mt (x :: l)).a ≠ 0 from fun z => hno (.inl z))
  have e1 : ((mt (x :: l)).s - (mt (x :: l)).p).natAbs < 2 ^ (6 * (x :: l).length + 1 + 1) := nat_sub_lt d a
  refine ⟨Nat.lt_of_le_of_lt n1 (nat_mono c (by omega)), Nat.lt_of_le_of_lt n2 e1, Nat.lt_of_le_of_lt n3 ?_⟩
  show (0 - (mt (x :: l)).q).natAbs < _
  have := nat_mono b (show 6 * (x :: l).length + 1 ≤ 6 * (x :: l).length + 2 by omega)
  omega
theorem tn0_abs {n : Nat} {t : R4} (h : R4B n t) : (tnA t.a t.b t.c 0).natAbs < 2 ^ n ∧ (tnB t.a t.b t.c 0).natAbs < 2 ^ n ∧ (tnC t.a t.b t.c 0).natAbs < 2 ^ n := by
  obtain ⟨a, b, c⟩ := h
  have m0 : mvC t.a t.b t.c 0 = t.c := by unfold mvC; grind
  have b0 : t.b + 2 * t.a * 0 = t.b := by omega
  unfold tnA tnB tnC
  rw [m0, b0]
  split
  · exact ⟨c, b, a⟩
  · exact ⟨by rw [Int.natAbs_neg]; exact c, by rw [Int.natAbs_neg]; exact b, by rw [Int.natAbs_neg]; exact a⟩
theorem led_abs {n : Nat} {t : R4} {p : Int} (h : R4B n t) (hp : p.natAbs < 2 ^ 5) : R4B (n + 13) (led t p) := by
  obtain ⟨a, b, c⟩ := tn0_abs h
  have x1 := nat_mul_lt a hp
  refine ⟨nat_mono a (by omega), ?_, ?_⟩
  · exact nat_mono (nat_sub_lt (m := 2 + n + 5) (nat_mono b (by omega)) (nat_mul_lt (nat_mul_lt (m := 2) (by decide) a) hp)) (by omega)
  · exact nat_mono (nat_add_lt (m := n + 5 + 5 + 1) (nat_sub_lt (m := n + 5 + 5) (nat_mul_lt x1 hp) (nat_mono (nat_mul_lt b hp) (by omega))) (nat_mono c (by omega))) (by omega)
theorem rb_abs : ∀ (ah ag : List Int), isRound ah ag → (∀ y ∈ ah, y.natAbs < 2 ^ 5) → (∀ y ∈ ag, y.natAbs < 2 ^ 5) → R4B (6 * ag.length + 2 + 13 * ah.length) (rb ah ag)
  | [], ag, h, _, h2 => by
    obtain ⟨h1, h3, _⟩ := h
    cases ag with
    | nil => exact absurd rfl h1
    | cons x l => exact tB_abs (h3 x List.mem_cons_self) (fun y hy => h3 y (List.mem_cons_of_mem _ hy)) h2
  | p :: ah, ag, h, h1, h2 => by
    obtain ⟨g1, g2, g3⟩ := h
    have g3' : ∀ y ∈ ah, 1 ≤ y := g3
    have ih := rb_abs ah ag ⟨g1, g2, fun y hy => g3' y (List.mem_of_mem_drop hy)⟩ (fun y hy => h1 y (List.mem_cons_of_mem _ hy)) h2
    have := led_abs ih (h1 p List.mem_cons_self)
    rw [List.length_cons, show 6 * ag.length + 2 + 13 * (ah.length + 1) = 6 * ag.length + 2 + 13 * ah.length + 13 by omega]
    exact this
theorem Sz.orb {r : R4} (R : r.Is) {B : Int} (h : Sz B r) : ∀ k : Nat, Sz (B + k * ht r.a r.b r.c) (orb r k) ∧ ht (RR.orb r k).a (RR.orb r k).b (RR.orb r k).c = ht r.a r.b r.c
  | 0 => ⟨by rw [show ((0 : Nat) : Int) = 0 from rfl, Int.zero_mul, Int.add_zero]; exact h, rfl⟩
  | k + 1 => by
    obtain ⟨h1, h2⟩ := Sz.orb R h k
    have h3 := h1.nx (orb_is R k)
    rw [h2] at h3
    refine ⟨?_, (nx_ht _).trans h2⟩
    have e : B + ((k + 1 : Nat) : Int) * ht r.a r.b r.c = B + (k : Int) * ht r.a r.b r.c + ht r.a r.b r.c := by
      rw [show ((k + 1 : Nat) : Int) = (k : Int) + 1 by omega, Int.add_mul]
      omega
    rw [e]
    exact h3
/-- a row's roots, within three hundred bits -/
theorem orb_s4 {r : R4} (R : r.Is) (h : R4B 120 r) {k : Nat} (hk : k ≤ 1000) : S4 (orb r k) := by
  have ha := R.ha
  have hd := R.n.pos
  have e120 : (2 : Nat) ^ 120 = 1329227995784915872903807060280344576 := by decide
  have hsz : Sz (2 ^ 120) r := by
    have e : (2 : Int) ^ 120 = 1329227995784915872903807060280344576 := by decide
    obtain ⟨a, b, c⟩ := h
    exact ⟨by omega, by omega, by omega⟩
  obtain ⟨h1, h2⟩ := hsz.orb R k
  refine h1.s4 (orb_is R k) ?_
  rw [h2]
  have x1 := nat_mul_lt h.b h.b
  have x2 := nat_mul_lt (nat_mul_lt (m := 3) (x := 4) (by decide) h.a) h.c
  have hht : (ht r.a r.b r.c).natAbs < 2 ^ 244 := nat_sub_lt (m := 243) (nat_mono x1 (by decide)) (nat_mono x2 (by decide))
  have hkd : ((k : Int) * ht r.a r.b r.c).natAbs < 2 ^ 260 := nat_mono (nat_mul_lt (m := 10) (x := (k : Int)) (by omega) hht) (by decide)
  have e1 : (2 : Int) ^ 290 = 1989292945639146568621528992587283360401824603189390869761855907572637988050133502132224 := by decide
  have e2 : (2 : Nat) ^ 260 = 1852673427797059126777135760139006525652319754650249024631321344126610074238976 := by decide
  have e3 : (2 : Nat) ^ 244 = 28269553036454149273332760011886696253239742350009903329945699220681916416 := by decide
  have e4 : (2 : Int) ^ 120 = 1329227995784915872903807060280344576 := by decide
  omega
/-- a list of a row's parts -/
def sp_product : Sp := fun vs H Q _ => ∃ (t : Addr) (xs : List Int) (n : Nat), vs = [.ref t] ∧ H t = some (tI xs) ∧ n ≤ 90000 ∧ xs.length ≤ 1000000 ∧ (∀ k, MB n (mt (xs.take k))) ∧ (∀ y ∈ xs, y.natAbs < 2 ^ 300) ∧ ∀ H' p, Same H H' → H p = none → H' p = some (tI [(mt xs).p, (mt xs).q, (mt xs).r, (mt xs).s]) → Q (.ref p) H'
def sp_are_parts : Sp := fun vs H Q _ => ∃ (t u : Addr) (ah ag : List Int), vs = [.ref t, .ref u] ∧ H t = some (tI ah) ∧ H u = some (tI ag) ∧ ah.length ≤ 1000000 ∧ ag.length ≤ 1000000 ∧ (isRound ah ag → ∀ H', Same H H' → Q (.bl true) H') ∧ (¬ isRound ah ag → ∀ H', Same H H' → Q (.bl false) H')
def sp_led_from : Sp := fun vs H Q _ => ∃ (t : Addr) (r : R4) (p : Int), vs = [.ref t, .int p] ∧ H t = some (tI r.l) ∧ r.Is ∧ R4B 290 r ∧ S3 p ∧ ∀ H' x, Same H H' → H x = none → H' x = some (tI (led r p).l) → Q (.ref x) H'
def sp_root_by (C : Addr) : Sp := fun vs H Q E => ∃ (t u : Addr) (ah ag : List Int), vs = [.ref t, .ref u] ∧ H t = some (tI ah) ∧ H u = some (tI ag) ∧ ah.length ≤ 1000000 ∧ ag.length ≤ 1000000 ∧ (¬ isRound ah ag → ∀ H', Same H H' → E (.ref C) none H') ∧
  (isRound ah ag → (∀ k, MB 900 (mt (ag.take k))) ∧ (∀ y ∈ ag, y.natAbs < 2 ^ 300) ∧ (∀ k, R4B 290 (rb (ah.drop k) ag)) ∧ (∀ y ∈ ah, S3 y) ∧ ∀ H' x, Same H H' → H x = none → H' x = some (tI (rb ah ag).l) → Q (.ref x) H')
def sp_parts : Sp := fun vs H Q _ => ∃ (t : Addr) (r : R4) (n : Nat), vs = [.ref t, .int n] ∧ H t = some (tI r.l) ∧ r.Is ∧ n ≤ 1000000 ∧ (∀ k, k < n → S4 (orb r k)) ∧ ∀ H' p, Same H H' → H p = none → H' p = some (lI (prts r 0 n)) → Q (.ref p) H'
theorem round_iff {ah ag : List Int} : isRound ah ag ↔ ag ≠ [] ∧ 1 ≤ ag.getD 0 0 ∧ ∀ y ∈ (ah ++ ag).drop 1, 1 ≤ y := by
  cases ag with
  | nil => exact ⟨fun h => absurd rfl h.1, fun h => absurd rfl h.1⟩
  | cons x l =>
    constructor
    · rintro ⟨h1, h2, h3⟩
      refine ⟨h1, h2 x List.mem_cons_self, fun y hy => ?_⟩
      cases ah with
      | nil => exact h2 y (List.mem_cons_of_mem _ hy)
      | cons p ah =>
        rcases List.mem_append.mp (show y ∈ ah ++ x :: l from hy) with h | h
        · exact h3 y h
        · exact h2 y h
    · rintro ⟨h1, h2, h3⟩
      refine ⟨h1, fun y hy => ?_, fun y hy => ?_⟩
      · rcases List.mem_cons.mp hy with rfl | hy
        · exact h2
        · cases ah with
          | nil => exact h3 y hy
          | cons p ah => exact h3 y (List.mem_append_right ah (List.mem_cons_of_mem _ hy))
      · cases ah with
        | nil => cases hy
        | cons p ah => exact h3 y (List.mem_append_left _ hy)
/-- the round three times over -/
theorem rb_three {ah ag : List Int} (h : isRound ah ag) : prts (rb ah ag) 0 (ah ++ (ag ++ (ag ++ ag))).length = ah ++ (ag ++ (ag ++ ag)) := by
  obtain ⟨R, p1, p2, p3⟩ := rb_row h
  have hl : 0 < ag.length := List.length_pos_iff.mpr h.1
  have g1 : ∀ k, k < ah.length → ah[k]? = some (orb (rb ah ag) k).prt := fun k hk => by
    have := prts_get (rb ah ag) (i := 0) hk
    rw [p1, Nat.zero_add] at this
    exact this
  have g2 : ∀ x, ag[x % ag.length]? = some (orb (rb ah ag) (ah.length + x)).prt := fun x => by
    have := prts_get (rb ah ag) (i := ah.length) (Nat.mod_lt x hl)
    rw [p2, ← orb_mod hl p3] at this
    exact this
  refine prts_ext rfl fun k hk => ?_
  rw [Nat.zero_add]
  rw [List.length_append, List.length_append, List.length_append] at hk
  by_cases h1 : k < ah.length
  · rw [List.getElem?_append_left h1, g1 k h1]
  · obtain ⟨x, rfl⟩ : ∃ x, k = ah.length + x := ⟨k - ah.length, by omega⟩
    rw [List.getElem?_append_right (by omega), show ah.length + x - ah.length = x by omega, ← g2 x]
    by_cases h2 : x < ag.length
    · rw [List.getElem?_append_left h2, Nat.mod_eq_of_lt h2]
    · rw [List.getElem?_append_right (by omega)]
      obtain ⟨y, rfl⟩ : ∃ y, x = y + ag.length := ⟨x - ag.length, by omega⟩
      rw [show y + ag.length - ag.length = y by omega, Nat.add_mod_right]
      by_cases h3 : y < ag.length
      · rw [List.getElem?_append_left h3, Nat.mod_eq_of_lt h3]
      · rw [List.getElem?_append_right (by omega)]
        obtain ⟨z, rfl⟩ : ∃ z, y = z + ag.length := ⟨y - ag.length, by omega⟩
        rw [show z + ag.length - ag.length = z by omega, Nat.add_mod_right, Nat.mod_eq_of_lt (by omega)]
/-- what root_by asks of sizes -/
theorem rb_sizes {ah ag : List Int} (h : isRound ah ag) (h1 : ∀ y ∈ ah, y.natAbs < 2 ^ 5) (h2 : ∀ y ∈ ag, y.natAbs < 2 ^ 5) (l1 : ah.length ≤ 6) (l2 : ag.length ≤ 6) :
    (∀ k, MB 900 (mt (ag.take k))) ∧ (∀ y ∈ ag, y.natAbs < 2 ^ 300) ∧ (∀ k, R4B 290 (rb (ah.drop k) ag)) ∧ (∀ y ∈ ah, S3 y) ∧ R4B 120 (rb ah ag) := by
  refine ⟨fun k => ?_, fun y hy => nat_mono (h2 y hy) (by decide), fun k => ?_, fun y hy => ⟨nat_mono (h1 y hy) (by decide)⟩, ?_⟩
  · obtain ⟨a, b, c, d⟩ := mt_abs (ag.take k) fun y hy => h2 y (List.mem_of_mem_take hy)
    have hl : 6 * (ag.take k).length + 1 ≤ 900 := by
      rw [List.length_take]
      omega
    exact ⟨nat_mono a hl, nat_mono b hl, nat_mono c hl, nat_mono d hl⟩
  · have hr : isRound (ah.drop k) ag := ⟨h.1, h.2.1, fun y hy => by
      rw [List.drop_drop, Nat.add_comm, ← List.drop_drop] at hy
      exact h.2.2 y (List.mem_of_mem_drop hy)⟩
    obtain ⟨a, b, c⟩ := rb_abs (ah.drop k) ag hr (fun y hy => h1 y (List.mem_of_mem_drop hy)) h2
    have hl : 6 * ag.length + 2 + 13 * (ah.drop k).length ≤ 290 := by
      rw [List.length_drop]
      omega
    exact ⟨nat_mono a hl, nat_mono b hl, nat_mono c hl⟩
  · obtain ⟨a, b, c⟩ := rb_abs ah ag h h1 h2
    exact ⟨nat_mono a (by omega), nat_mono b (by omega), nat_mono c (by omega)⟩
end RR
/-! RRA: the rows of the roots of numbers to 9 go round: asked of each of them. -/
namespace RR
/-- a number, its value taken first -/
def fN {α : Type} (x : Nat) (f : Nat → α) : α := match x with | 0 => f 0 | n + 1 => f (n + 1)
theorem fN_eq {α : Type} (x : Nat) (f : Nat → α) : fN x f = f x := by cases x <;> rfl
def fI {α : Type} (x : Int) (f : Int → α) : α := match x with | .ofNat n => fN n fun m => f (.ofNat m) | .negSucc n => fN n fun m => f (.negSucc m)
theorem fI_eq {α : Type} (x : Int) (f : Int → α) : fI x f = f x := by
  cases x with
  | ofNat n => exact fN_eq n fun m => f (.ofNat m)
  | negSucc n => exact fN_eq n fun m => f (.negSucc m)
/-- one part, and on with the turned one -/
def stp (w a b c s : Int) (k : Int → Int → Int → Int → Bool) : Bool :=
  fI (if s = 0 then (0 - w - 1 - b) / (2 * a) else (w - b) / (2 * a)) fun p => decide (p.natAbs < 32) &&
    fI (a * p * p + b * p + c) fun m => fI (b + 2 * a * p) fun B =>
      if 0 < m then fI (1 - s) fun s' => k m B a s' else fI (-m) fun m' => fI (-B) fun B' => fI (-a) fun a' => k m' B' a' s
theorem stp_eq (r : R4) {w : Int} (h : w = rt (ht r.a r.b r.c)) (k : Int → Int → Int → Int → Bool) : stp w r.a r.b r.c r.s k = (decide (r.prt.natAbs < 32) && k r.nx.a r.nx.b r.nx.c r.nx.s) := by
  subst h
  unfold stp
  simp only [fI_eq]
  show (decide (r.prt.natAbs < 32) && if 0 < mvC r.a r.b r.c r.prt then k (mvC r.a r.b r.c r.prt) (r.b + 2 * r.a * r.prt) r.a (1 - r.s) else k (-mvC r.a r.b r.c r.prt) (-(r.b + 2 * r.a * r.prt)) (-r.a) r.s) = _
  unfold R4.nx R4.tn tnA tnB tnC tnS
  dsimp only
  split <;> rfl
/-- within n parts it is there again -/
def goR (w A B C S : Int) : Nat → Int → Int → Int → Int → Bool
  | 0, _, _, _, _ => false
  | n + 1, a, b, c, s => stp w a b c s fun a b c s => (decide (a = A) && decide (b = B) && decide (c = C) && decide (s = S)) || goR w A B C S n a b c s
def preR (w : Int) : Nat → Int → Int → Int → Int → Bool
  | 0, a, b, c, s => goR w a b c s 21 a b c s
  | n + 1, a, b, c, s => stp w a b c s fun a b c s => preR w n a b c s
theorem goR_is {w : Int} {t : R4} : ∀ (n : Nat) (r : R4), w = rt (ht r.a r.b r.c) → goR w t.a t.b t.c t.s n r.a r.b r.c r.s = true → ∃ l, 1 ≤ l ∧ l ≤ n ∧ orb r l = t ∧ ∀ k, k < l → (orb r k).prt.natAbs < 32
  | 0, r, _, h => by cases h
  | n + 1, r, hw, h => by
    unfold goR at h
    rw [stp_eq r hw, Bool.and_eq_true, Bool.or_eq_true] at h
    obtain ⟨h1, h2⟩ := h
    have h1 := of_decide_eq_true h1
    rcases h2 with h2 | h2
    · rw [Bool.and_eq_true, Bool.and_eq_true, Bool.and_eq_true] at h2
      obtain ⟨⟨⟨e1, e2⟩, e3⟩, e4⟩ := h2
      refine ⟨1, Nat.le_refl _, by omega, ?_, fun k hk => ?_⟩
      · show r.nx = t
        have e1 := of_decide_eq_true e1
        have e2 := of_decide_eq_true e2
        have e3 := of_decide_eq_true e3
        have e4 := of_decide_eq_true e4
        generalize r.nx = z at *
        obtain ⟨a, b, c, s⟩ := z
        obtain ⟨a', b', c', s'⟩ := t
        dsimp only at e1 e2 e3 e4
        rw [e1, e2, e3, e4]
      · have : k = 0 := by omega
        subst this
        exact h1
    · obtain ⟨l, l1, l2, l3, l4⟩ := goR_is n r.nx (by rw [nx_ht]; exact hw) h2
      refine ⟨l + 1, by omega, by omega, ?_, fun k hk => ?_⟩
      · rw [← orb_succ]
        exact l3
      · cases k with
        | zero => exact h1
        | succ k =>
          rw [← orb_succ]
          exact l4 k (by omega)
theorem preR_is {w : Int} : ∀ (n : Nat) (r : R4), w = rt (ht r.a r.b r.c) → preR w n r.a r.b r.c r.s = true → ∃ l, 1 ≤ l ∧ l ≤ 21 ∧ orb r (n + l) = orb r n ∧ ∀ k, k < n + l → (orb r k).prt.natAbs < 32
  | 0, r, hw, h => by
    obtain ⟨l, l1, l2, l3, l4⟩ := goR_is (t := r) 21 r hw h
    refine ⟨l, l1, l2, ?_, fun k hk => l4 k (by omega)⟩
    rw [Nat.zero_add]
    exact l3
  | n + 1, r, hw, h => by
    unfold preR at h
    rw [stp_eq r hw, Bool.and_eq_true] at h
    obtain ⟨h1, h2⟩ := h
    obtain ⟨l, l1, l2, l3, l4⟩ := preR_is n r.nx (by rw [nx_ht]; exact hw) h2
    refine ⟨l, l1, l2, ?_, fun k hk => ?_⟩
    · rw [show n + 1 + l = n + l + 1 by omega, ← orb_succ, ← orb_succ]
      exact l3
    · cases k with
      | zero => exact of_decide_eq_true h1
      | succ k =>
        rw [← orb_succ]
        exact l4 k (by omega)
def chkR (a b c s : Int) : Bool := fI (b * b - 4 * a * c) fun d => if d ≤ 0 then true else fI (rt d) fun w => if w * w = d then true else preR w 4 a b c s
def chkA (a : Nat) : Bool := (List.range 19).all fun b => (List.range 19).all fun c => fI ((a : Int) + 1) fun a => fI ((b : Int) - 9) fun b => fI ((c : Int) - 9) fun c => chkR a b c 0 && chkR a b c 1
theorem chk_all : (List.range 9).all chkA = true := by decide +kernel
theorem root9 {r : R4} (R : r.Is) (ha : r.a ≤ 9) (hb0 : -9 ≤ r.b) (hb1 : r.b ≤ 9) (hc0 : -9 ≤ r.c) (hc1 : r.c ≤ 9) : ∃ l, 1 ≤ l ∧ l ≤ 21 ∧ orb r (4 + l) = orb r 4 ∧ ∀ k, k < 4 + l → (orb r k).prt.natAbs < 32 := by
  have ha0 := R.ha
  have hd := R.n
  have hs := R.hs
  have hc : chkR r.a r.b r.c r.s = true := by
    have h := List.all_eq_true.mp chk_all (r.a - 1).toNat (List.mem_range.mpr (by omega))
    unfold chkA at h
    have h := List.all_eq_true.mp h (r.b + 9).toNat (List.mem_range.mpr (by omega))
    have h := List.all_eq_true.mp h (r.c + 9).toNat (List.mem_range.mpr (by omega))
    simp only [fI_eq] at h
    rw [show ((r.a - 1).toNat : Int) + 1 = r.a by omega, show ((r.b + 9).toNat : Int) - 9 = r.b by omega, show ((r.c + 9).toNat : Int) - 9 = r.c by omega, Bool.and_eq_true] at h
    rcases hs with hs | hs
    · rw [hs]
      exact h.1
    · rw [hs]
      exact h.2
  unfold chkR at hc
  simp only [fI_eq] at hc
  have e : r.b * r.b - 4 * r.a * r.c = ht r.a r.b r.c := rfl
  rw [e] at hc
  have hp := hd.pos
  rw [if_neg (by omega)] at hc
  have hne : ¬ rt (ht r.a r.b r.c) * rt (ht r.a r.b r.c) = ht r.a r.b r.c := fun z => by
    have h2 := isSq_of z
    rw [hd.no] at h2
    cases h2
  rw [if_neg hne] at hc
  exact preR_is 4 r rfl hc
end RR
/-! RRF: no shorter round, no shorter beginning; promises. -/
namespace RR
open PySem PySem.Spec PyProof.Rows L2
/-- a root of numbers to 9: where its row goes round -/
theorem row9 {r : R4} (R : r.Is) (ha : r.a ≤ 9) (hb0 : -9 ≤ r.b) (hb1 : r.b ≤ 9) (hc0 : -9 ≤ r.c) (hc1 : r.c ≤ 9) :
    ∃ i j, i < j ∧ i ≤ 4 ∧ j - i ≤ 21 ∧ orb r j = orb r i ∧ (∀ k m, k < m → m < j → orb r k ≠ orb r m) ∧ ∀ k, k < j → (orb r k).prt.natAbs < 2 ^ 5 := by
  obtain ⟨l, l1, l2, l3, l4⟩ := root9 R ha hb0 hb1 hc0 hc1
  obtain ⟨i, j, hij, hj, hrep, hdis⟩ := first_repeat (4 + l) ⟨4, 4 + l, by omega, Nat.le_refl _, l3⟩
  obtain ⟨c1, c2⟩ := cyc hij hrep hdis l1 l3
  exact ⟨i, j, hij, c1, by omega, hrep, hdis, fun k hk => l4 k (by omega)⟩
theorem flat_get {α : Type} {ys : List α} (hy : 0 < ys.length) : ∀ (m k : Nat), k < m * ys.length → (List.replicate m ys).flatten[k]? = ys[k % ys.length]?
  | 0, k, h => by omega
  | m + 1, k, h => by
    rw [List.replicate_succ, List.flatten_cons]
    by_cases hk : k < ys.length
    · rw [List.getElem?_append_left hk, Nat.mod_eq_of_lt hk]
    · rw [List.getElem?_append_right (by omega), flat_get hy m (k - ys.length) (by rw [Nat.add_mul] at h; omega)]
      rw [Nat.mod_eq_sub_mod (show k ≥ ys.length by omega)]
/-- a round is not a shorter one several times over -/
theorem no_shorter {r : R4} (R : r.Is) {i j : Nat} (hij : i < j) (hrep : orb r j = orb r i) (hdis : ∀ k m, k < m → m < j → orb r k ≠ orb r m) {z : Nat} (h1 : 1 ≤ z) (h2 : z < j - i) (h3 : (j - i) % z = 0) :
    prts r i (j - i) ≠ (List.replicate ((j - i) / z) ((prts r i (j - i)).take z)).flatten := fun e => by
  have hl : 0 < j - i := by omega
  have hper : orb r (i + (j - i)) = orb r i := by rw [show i + (j - i) = j by omega]; exact hrep
  have hdvd : z ∣ j - i := Nat.dvd_of_mod_eq_zero h3
  have htl : ((prts r i (j - i)).take z).length = z := by
    rw [List.length_take, prts_len]
    omega
  have hmz : (j - i) / z * z = j - i := Nat.div_mul_cancel hdvd
  have hk : ∀ k, k < j - i → (prts r i (j - i))[k]? = ((prts r i (j - i)).take z)[k % z]? := fun k hk => by
    have := flat_get (ys := (prts r i (j - i)).take z) (by rw [htl]; exact h1) ((j - i) / z) k (by rw [htl, hmz]; exact hk)
    rw [htl] at this
    rw [← this, ← e]
  have hf : ∀ x, some (orb r (i + x)).prt = ((prts r i (j - i)).take z)[x % z]? := fun x => by
    rw [orb_mod hl hper x]
    have hm := Nat.mod_lt x hl
    rw [← prts_get r hm, hk _ hm, Nat.mod_mod_of_dvd _ hdvd]
  have hs : orb r i = orb r (i + z) := same_parts (orb_is R i) (orb_is R (i + z)) fun x => by
    rw [← orb_add, ← orb_add]
    have a1 := hf x
    have a2 := hf (z + x)
    rw [Nat.add_mod_left, ← a1] at a2
    rw [show i + z + x = i + (z + x) by omega]
    exact (Option.some.inj a2).symm
  exact hdis i (i + z) (by omega) (by omega) hs
/-- the beginning's last part is not the round's -/
theorem last_ne {r : R4} (R : r.Is) {i j : Nat} (hij : i < j) (hi : 1 ≤ i) (hrep : orb r j = orb r i) (hdis : ∀ k m, k < m → m < j → orb r k ≠ orb r m) : (orb r (i - 1)).prt ≠ (orb r (j - 1)).prt := fun e => by
  refine hdis (i - 1) (j - 1) (by omega) (by omega) (same_parts (orb_is R _) (orb_is R _) fun x => ?_)
  rw [← orb_add, ← orb_add]
  cases x with
  | zero => exact e
  | succ y =>
    rw [show i - 1 + (y + 1) = i + y by omega, show j - 1 + (y + 1) = j + y by omega, orb_add, orb_add, hrep]
/-- sizes of a row's numbers -/
theorem rb_sizes2 {ah ag : List Int} (h : isRound ah ag) (h1 : ∀ y ∈ ah, y.natAbs < 2 ^ 5) (h2 : ∀ y ∈ ag, y.natAbs < 2 ^ 5) (l1 : ah.length ≤ 4) (l2 : ag.length ≤ 21) :
    (∀ k, MB 900 (mt (ag.take k))) ∧ (∀ y ∈ ag, y.natAbs < 2 ^ 300) ∧ (∀ k, R4B 290 (rb (ah.drop k) ag)) ∧ ∀ y ∈ ah, S3 y := by
  refine ⟨fun k => ?_, fun y hy => nat_mono (h2 y hy) (by decide), fun k => ?_, fun y hy => ⟨nat_mono (h1 y hy) (by decide)⟩⟩
  · obtain ⟨a, b, c, d⟩ := mt_abs (ag.take k) fun y hy => h2 y (List.mem_of_mem_take hy)
    have hl : 6 * (ag.take k).length + 1 ≤ 900 := by
      rw [List.length_take]
      omega
    exact ⟨nat_mono a hl, nat_mono b hl, nat_mono c hl, nat_mono d hl⟩
  · have hr : isRound (ah.drop k) ag := ⟨h.1, h.2.1, fun y hy => by
      rw [List.drop_drop, Nat.add_comm, ← List.drop_drop] at hy
      exact h.2.2 y (List.mem_of_mem_drop hy)⟩
    obtain ⟨a, b, c⟩ := rb_abs (ah.drop k) ag hr (fun y hy => h1 y (List.mem_of_mem_drop hy)) h2
    have hl : 6 * ag.length + 2 + 13 * (ah.drop k).length ≤ 290 := by
      rw [List.length_drop]
      omega
    exact ⟨nat_mono a hl, nat_mono b hl, nat_mono c hl⟩
theorem prts_take (r : R4) {k n : Nat} (h : k ≤ n) : (prts r 0 n).take k = prts r 0 k := by
  unfold prts
  have hsplit : List.range' 0 n = List.range' 0 k ++ List.range' (0 + k) (n - k) := by
    rw [List.range'_append_1, show k + (n - k) = n by omega]
  rw [← List.map_take, hsplit, List.take_left' (by rw [List.length_range'])]
theorem prts_mem {r : R4} {i n : Nat} {y : Int} (h : y ∈ prts r i n) : ∃ k, k < n ∧ y = (orb r (i + k)).prt := by
  obtain ⟨k, hk⟩ := List.getElem?_of_mem h
  have hkl : k < n := by
    by_cases z : k < n
    · exact z
    · rw [List.getElem?_eq_none (by rw [prts_len]; omega)] at hk
      cases hk
  rw [prts_get r hkl] at hk
  exact ⟨k, hkl, (Option.some.inj hk).symm⟩
/-- first_parts of a root -/
def sp_first_partsR : Sp := fun vs H Q _ => ∃ (t : Addr) (r : R4) (n : Nat), vs = [.ref t, .int n] ∧ H t = some (tI r.l) ∧ r.Is ∧ n ≤ 1000000 ∧ (∀ k, k < n → S4 (orb r k)) ∧ ∀ H' p, Same H H' → H p = none → H' p = some (tI (prts r 0 n)) → Q (.ref p) H'
/-- whether a round and a beginning are the shortest -/
def sp_short : Sp := fun vs H Q _ => ∃ (t u : Addr) (ah ag : List Int), vs = [.ref t, .ref u] ∧ H t = some (tI ah) ∧ H u = some (tI ag) ∧ ah.length ≤ 1000 ∧ ag.length ≤ 1000 ∧
  (∀ z, 1 ≤ z → z < ag.length → ag.length % z = 0 → ag ≠ (List.replicate (ag.length / z) (ag.take z)).flatten) ∧ (∀ x y, ah.getLast? = some x → ag.getLast? = some y → x ≠ y) ∧ ag ≠ [] ∧ ∀ H', Same H H' → Q (.bl true) H'
end RR
namespace RR
open PySem PySem.Spec PyProof.Rows L2
/-! ### the text by places -/
def topS (i : Nat) : Stmt := PySem.Challenge.pw_rootrow_k11_whole_rows_go_round.main.body.getD i (.Pass ⟨0, 0, 0, 0⟩)
abbrev s_divisor : Stmt := topS 4
abbrev n_divisor : List Str := ["one", "other"]
abbrev p_divisor : List Str := ["one", "other"]
theorem sc_divisor : FnScope n_divisor p_divisor (defScope s_divisor) := ⟨rfl, rfl, rfl, by decide +kernel, rfl, by decide +kernel, by decide +kernel⟩
abbrev s_least_square : Stmt := topS 5
abbrev n_least_square : List Str := ["n", "found", "other"]
abbrev p_least_square : List Str := ["n"]
theorem sc_least_square : FnScope n_least_square p_least_square (defScope s_least_square) := ⟨rfl, rfl, rfl, by decide +kernel, rfl, by decide +kernel, by decide +kernel⟩
abbrev s_heart : Stmt := topS 7
abbrev n_heart : List Str := ["a", "b", "c"]
abbrev p_heart : List Str := ["a", "b", "c"]
theorem sc_heart : FnScope n_heart p_heart (defScope s_heart) := ⟨rfl, rfl, rfl, by decide +kernel, rfl, by decide +kernel, by decide +kernel⟩
abbrev s_is_square : Stmt := topS 8
abbrev n_is_square : List Str := ["n"]
abbrev p_is_square : List Str := ["n"]
theorem sc_is_square : FnScope n_is_square p_is_square (defScope s_is_square) := ⟨rfl, rfl, rfl, by decide +kernel, rfl, by decide +kernel, by decide +kernel⟩
abbrev s_root_of : Stmt := topS 9
abbrev n_root_of : List Str := ["a", "b", "c", "side", "by"]
abbrev p_root_of : List Str := ["a", "b", "c", "side"]
theorem sc_root_of : FnScope n_root_of p_root_of (defScope s_root_of) := ⟨rfl, rfl, rfl, by decide +kernel, rfl, by decide +kernel, by decide +kernel⟩
abbrev s_part_of : Stmt := topS 10
abbrev n_part_of : List Str := ["number", "a", "b", "c", "side", "wide", "found"]
abbrev p_part_of : List Str := ["number"]
theorem sc_part_of : FnScope n_part_of p_part_of (defScope s_part_of) := ⟨rfl, rfl, rfl, by decide +kernel, rfl, by decide +kernel, by decide +kernel⟩
abbrev s_moved : Stmt := topS 11
abbrev n_moved : List Str := ["root", "n", "a", "b", "c", "side"]
abbrev p_moved : List Str := ["root", "n"]
theorem sc_moved : FnScope n_moved p_moved (defScope s_moved) := ⟨rfl, rfl, rfl, by decide +kernel, rfl, by decide +kernel, by decide +kernel⟩
abbrev s_turned : Stmt := topS 12
abbrev n_turned : List Str := ["root", "n", "a", "b", "c", "side", "other"]
abbrev p_turned : List Str := ["root", "n"]
theorem sc_turned : FnScope n_turned p_turned (defScope s_turned) := ⟨rfl, rfl, rfl, by decide +kernel, rfl, by decide +kernel, by decide +kernel⟩
abbrev s_row_of : Stmt := topS 14
abbrev n_row_of : List Str := ["fraction", "upper", "lower", "found"]
abbrev p_row_of : List Str := ["fraction"]
theorem sc_row_of : FnScope n_row_of p_row_of (defScope s_row_of) := ⟨rfl, rfl, rfl, by decide +kernel, rfl, by decide +kernel, by decide +kernel⟩
abbrev s_rounds_of : Stmt := topS 16
abbrev n_rounds_of : List Str := ["root", "places", "parts", "cut"]
abbrev p_rounds_of : List Str := ["root"]
theorem sc_rounds_of : FnScope n_rounds_of p_rounds_of (defScope s_rounds_of) := ⟨rfl, rfl, rfl, by decide +kernel, rfl, by decide +kernel, by decide +kernel⟩
abbrev s_product : Stmt := topS 17
abbrev n_product : List Str := ["parts", "p", "q", "r", "s", "part"]
abbrev p_product : List Str := ["parts"]
theorem sc_product : FnScope n_product p_product (defScope s_product) := ⟨rfl, rfl, rfl, by decide +kernel, rfl, by decide +kernel, by decide +kernel⟩
abbrev s_are_parts : Stmt := topS 18
abbrev n_are_parts : List Str := ["ahead", "again", "part"]
abbrev p_are_parts : List Str := ["ahead", "again"]
theorem sc_are_parts : FnScope n_are_parts p_are_parts (defScope s_are_parts) := ⟨rfl, rfl, rfl, by decide +kernel, rfl, by decide +kernel, by decide +kernel⟩
abbrev s_root_by : Stmt := topS 19
abbrev n_root_by : List Str := ["ahead", "again", "p", "q", "r", "s", "root", "part"]
abbrev p_root_by : List Str := ["ahead", "again"]
theorem sc_root_by : FnScope n_root_by p_root_by (defScope s_root_by) := ⟨rfl, rfl, rfl, by decide +kernel, rfl, by decide +kernel, by decide +kernel⟩
abbrev s_led_from : Stmt := topS 20
abbrev n_led_from : List Str := ["root", "part", "a", "b", "c", "side", "other"]
abbrev p_led_from : List Str := ["root", "part"]
theorem sc_led_from : FnScope n_led_from p_led_from (defScope s_led_from) := ⟨rfl, rfl, rfl, by decide +kernel, rfl, by decide +kernel, by decide +kernel⟩
abbrev s_first_parts : Stmt := topS 21
abbrev n_first_parts : List Str := ["number", "count", "found", "k"]
abbrev p_first_parts : List Str := ["number", "count"]
theorem sc_first_parts : FnScope n_first_parts p_first_parts (defScope s_first_parts) := ⟨rfl, rfl, rfl, by decide +kernel, rfl, by decide +kernel, by decide +kernel⟩
abbrev s__law_cell : Stmt := topS 23
abbrev n__law_cell : List Str := ["_law_script", "_law_k"]
abbrev p__law_cell : List Str := ["_law_script", "_law_k"]
theorem sc__law_cell : FnScope n__law_cell p__law_cell (defScope s__law_cell) := ⟨rfl, rfl, rfl, by decide +kernel, rfl, by decide +kernel, by decide +kernel⟩
abbrev s__law_mix : Stmt := topS 24
abbrev n__law_mix : List Str := ["_law_cell_here", "_law_prime", "_law_many"]
abbrev p__law_mix : List Str := ["_law_cell_here", "_law_prime", "_law_many"]
theorem sc__law_mix : FnScope n__law_mix p__law_mix (defScope s__law_mix) := ⟨rfl, rfl, rfl, by decide +kernel, rfl, by decide +kernel, by decide +kernel⟩
abbrev s__law_whole : Stmt := topS 25
abbrev n__law_whole : List Str := ["_law_found"]
abbrev p__law_whole : List Str := ["_law_found"]
theorem sc__law_whole : FnScope n__law_whole p__law_whole (defScope s__law_whole) := ⟨rfl, rfl, rfl, by decide +kernel, rfl, by decide +kernel, by decide +kernel⟩
abbrev s__law_divisor : Stmt := topS 26
abbrev n__law_divisor : List Str := ["_law_one", "_law_other"]
abbrev p__law_divisor : List Str := ["_law_one", "_law_other"]
theorem sc__law_divisor : FnScope n__law_divisor p__law_divisor (defScope s__law_divisor) := ⟨rfl, rfl, rfl, by decide +kernel, rfl, by decide +kernel, by decide +kernel⟩
abbrev s__law_lowest : Stmt := topS 27
abbrev n__law_lowest : List Str := ["_law_upper", "_law_lower", "_law_by"]
abbrev p__law_lowest : List Str := ["_law_upper", "_law_lower"]
theorem sc__law_lowest : FnScope n__law_lowest p__law_lowest (defScope s__law_lowest) := ⟨rfl, rfl, rfl, by decide +kernel, rfl, by decide +kernel, by decide +kernel⟩
abbrev s__law_fraction : Stmt := topS 28
abbrev n__law_fraction : List Str := ["_law_cell_here", "_law_other", "_law_wide", "_law_upper"]
abbrev p__law_fraction : List Str := ["_law_cell_here", "_law_other", "_law_wide"]
theorem sc__law_fraction : FnScope n__law_fraction p__law_fraction (defScope s__law_fraction) := ⟨rfl, rfl, rfl, by decide +kernel, rfl, by decide +kernel, by decide +kernel⟩
abbrev s__law_square : Stmt := topS 29
abbrev n__law_square : List Str := ["_law_n", "_law_low", "_law_high", "_law_half"]
abbrev p__law_square : List Str := ["_law_n"]
theorem sc__law_square : FnScope n__law_square p__law_square (defScope s__law_square) := ⟨rfl, rfl, rfl, by decide +kernel, rfl, by decide +kernel, by decide +kernel⟩
abbrev s__law_heart : Stmt := topS 30
abbrev n__law_heart : List Str := ["_law_root_here"]
abbrev p__law_heart : List Str := ["_law_root_here"]
theorem sc__law_heart : FnScope n__law_heart p__law_heart (defScope s__law_heart) := ⟨rfl, rfl, rfl, by decide +kernel, rfl, by decide +kernel, by decide +kernel⟩
abbrev s__law_root : Stmt := topS 31
abbrev n__law_root : List Str := ["_law_cell_here", "_law_other", "_law_wide", "_law_k", "_law_a", "_law_b", "_law_c", "_law_d", "_law_by"]
abbrev p__law_root : List Str := ["_law_cell_here", "_law_other", "_law_wide"]
theorem sc__law_root : FnScope n__law_root p__law_root (defScope s__law_root) := ⟨rfl, rfl, rfl, by decide +kernel, rfl, by decide +kernel, by decide +kernel⟩
abbrev s__law_parts : Stmt := topS 32
abbrev n__law_parts : List Str := ["_law_root_here", "_law_count", "_law_found", "_law_k"]
abbrev p__law_parts : List Str := ["_law_root_here", "_law_count"]
theorem sc__law_parts : FnScope n__law_parts p__law_parts (defScope s__law_parts) := ⟨rfl, rfl, rfl, by decide +kernel, rfl, by decide +kernel, by decide +kernel⟩
abbrev s__law_is_short : Stmt := topS 33
abbrev n__law_is_short : List Str := ["_law_ahead", "_law_again", "_law_size"]
abbrev p__law_is_short : List Str := ["_law_ahead", "_law_again"]
theorem sc__law_is_short : FnScope n__law_is_short p__law_is_short (defScope s__law_is_short) := ⟨rfl, rfl, rfl, by decide +kernel, rfl, by decide +kernel, by decide +kernel⟩
abbrev s_law : Stmt := topS 34
abbrev n_law : List Str := ["_law_script", "_law_root_here", "_law_ahead", "_law_again", "_law_whole_here", "_law_count", "_law_one"]
abbrev p_law : List Str := ["_law_script"]
theorem sc_law : FnScope n_law p_law (defScope s_law) := ⟨rfl, rfl, rfl, by decide +kernel, rfl, by decide +kernel, by decide +kernel⟩
section
variable {P : Program} {w : World} {K : PySem.W.Frag} {mg : Str → Option Value} {base : Heap}
theorem ok_divisor (D : Df K mg "divisor" p_divisor s_divisor) (B : Bl mg) : Cal P w K mg base CX0 1 "divisor" p_divisor sp_divisor := D.cal fun f fd F => by
  refine F.ok sc_divisor (fun vs H Q E h => ?_) (fun cdv A outer s H vs Q E hr h => ?_)
  · obtain ⟨a, b, rfl, _⟩ := h
    rfl
  obtain ⟨a, b, rfl, q⟩ := h
  refine ⟨_, pss_cons (ps_set (i := 0) sc_divisor.nd rfl (.inl rfl) (pe_callB call_abs (by rfl) B.abs (by decide +kernel) (pa_cons (pv 0) pa_nil)))
    (pss_cons (ps_set (i := 1) sc_divisor.nd rfl (.inl rfl) (pe_callB call_abs (by rfl) B.abs (by decide +kernel) (pa_cons (pv 1) pa_nil)))
    (pss_cons (ps_while PassesOwn.never (pt_cmpR op_gt (pv 1) pe_int (nomark _)) (pss_one (ps_par (i := 0) (j := 1) (by rfl) sc_divisor.nd rfl rfl (by decide) rfl rfl (pa_cons (pv 1) (pa_cons (pe_op op_mod (pv 0) (pv 1)) pa_nil)) (by rfl))))
    (pss_one (ps_ret (pv 0))))), ?_⟩
  refine ⟨_, rfl, a, rfl, _, rfl, b, rfl, ?_⟩
  refine ⟨fun m σ H' => ∃ x y : Int, σ = [some (.int x), some (.int y)] ∧ 0 ≤ x ∧ 0 ≤ y ∧ Int.gcd x y = Int.gcd a b ∧ H' = H ∧ m = y.toNat, ⟨_, _, _, rfl, by split <;> omega, by split <;> omega, gcd_abs a b, rfl, rfl⟩, ?_⟩
  rintro m σ H' ⟨x, y, rfl, hx, hy, hg, rfl, rfl⟩
  refine ⟨_, rfl, _, _, rfl, rfl, _, rfl, ite2 (fun c => ?_) (fun c => ?_)⟩
  · have c' : 0 < y := of_decide_eq_true c
    have h1 := Int.emod_nonneg x (show y ≠ 0 by omega)
    have h2 := Int.emod_lt_of_pos x c'
    refine ⟨fun σ' H2 => σ' = [some (.int y), some (.int (x % y))] ∧ H2 = H', fun σ' H2 ⟨e1, e2⟩ => ⟨(x % y).toNat, by omega, y, x % y, e1, hy, h1, by rw [gcd_step hx c', hg], e2, rfl⟩, ?_⟩
    exact ⟨_, rfl, _, rfl, _, rfl, _, _, rfl, rfl, c', _, _, rfl, rfl, rfl⟩
  · have c' : ¬ 0 < y := of_decide_eq_false (Bool.eq_false_iff.mpr c)
    refine ⟨_, rfl, ?_⟩
    have e : x = dv a b := by
      rw [gcd_end hx c' hy, hg]
      rfl
    rw [e]
    exact q
end
section
variable {P : Program} {w : World} {K : PySem.W.Frag} {mg : Str → Option Value} {base : Heap}
theorem ok_least_square (D : Df K mg "least_square" p_least_square s_least_square) : Cal P w K mg base CX0 1 "least_square" p_least_square sp_least_square := D.cal fun f fd F => by
  refine F.ok sc_least_square (fun vs H Q E h => ?_) (fun cdv A outer s H vs Q E hr h => ?_)
  · obtain ⟨a, rfl, _⟩ := h
    rfl
  obtain ⟨n, rfl, h0, hb, q⟩ := h
  refine ⟨_, pss_cons (ps_if (pt_cmpR op_lt (pv 0) pe_int (nomark _)) (pss_one (ps_ret (pv 0))) pss_nil)
    <| pss_cons (ps_set (i := 1) sc_least_square.nd rfl (.inl rfl) (pv 0))
    <| pss_cons (ps_set (i := 2) sc_least_square.nd rfl (.inl rfl) (pe_op op_fdiv (pe_op op_add (pv 1) (pe_op op_fdivW (pv 0) (pv 1))) pe_int))
    <| pss_cons (ps_while PassesOwn.never (pt_cmpR op_lt (pv 2) (pv 1) (nomark _)) (pss_cons (ps_set (i := 1) sc_least_square.nd rfl (.inl rfl) (pv 2))
      (pss_one (ps_set (i := 2) sc_least_square.nd rfl (.inl rfl) (pe_op op_fdiv (pe_op op_add (pv 1) (pe_op op_fdivW (pv 0) (pv 1))) pe_int)))))
    <| pss_one (ps_ret (pv 1)), ?_⟩
  refine ⟨_, rfl, _, _, rfl, rfl, _, rfl, ite2 (fun c => ?_) (fun c => ?_)⟩
  · have c' : n < 2 := of_decide_eq_true c
    have e : rt n = n := by
      rcases (show n = 0 ∨ n = 1 by omega) with rfl | rfl <;> exact rt_unique (by decide) (by decide) (by decide)
    rw [e] at q
    exact ⟨_, rfl, q⟩
  have c' : ¬ n < 2 := of_decide_eq_false (Bool.eq_false_iff.mpr c)
  have hdv : ∀ f : Int, 1 ≤ f → f ≤ n → 0 < f ∧ f.natAbs.log2 < 9000 := fun f h1 h2 => ⟨by omega, Nat.lt_trans (big_le (x := f) (by omega) hb).log (by decide)⟩
  have st : ∀ f : Int, 1 ≤ f → (f + n / f) / 2 ≤ (f + n / f) / 2 := fun f _ => Int.le_refl _
  refine ⟨_, rfl, _, rfl, _, rfl, _, rfl, _, _, rfl, rfl, hdv n (by omega) (by omega), _, _, rfl, rfl, _, _, rfl, rfl, ⟨by decide, by decide⟩, ?_⟩
  refine ⟨fun m σ H' => ∃ f : Int, σ = [some (.int n), some (.int f), some (.int ((f + n / f) / 2))] ∧ 1 ≤ f ∧ f ≤ n ∧ n < (f + 1) * (f + 1) ∧ H' = H ∧ m = f.toNat, ⟨_, n, rfl, by omega, by omega, ?_, rfl, rfl⟩, ?_⟩
  · have : (n + 1) * (n + 1) = n * n + 2 * n + 1 := by grind
    have := sqn n
    omega
  rintro m σ H' ⟨f, rfl, h1, h2, h3, rfl, rfl⟩
  obtain ⟨k1, k2, k3⟩ := newton (n := n) (by omega) h1
  refine ⟨_, rfl, _, rfl, _, _, rfl, rfl, _, rfl, ite2 (fun c => ?_) (fun c => ?_)⟩
  · have c2 : (f + n / f) / 2 < f := of_decide_eq_true c
    refine ⟨fun σ' H2 => σ' = [some (.int n), some (.int ((f + n / f) / 2)), some (.int (((f + n / f) / 2 + n / ((f + n / f) / 2)) / 2))] ∧ H2 = H', fun σ' H2 ⟨e1, e2⟩ => ⟨_, ?_, _, e1, k1, ?_, k2, e2, rfl⟩, ?_⟩
    · omega
    · omega
    · exact ⟨_, rfl, _, rfl, _, rfl, _, rfl, _, _, rfl, rfl, hdv _ k1 (by omega), _, _, rfl, rfl, _, _, rfl, rfl, ⟨by decide, by decide⟩, rfl, rfl⟩
  · have c2 : ¬ (f + n / f) / 2 < f := of_decide_eq_false (Bool.eq_false_iff.mpr c)
    have e : rt n = f := rt_unique (by omega) (k3 (by omega)) h3
    rw [e] at q
    exact ⟨_, rfl, q⟩
end
section
variable {P : Program} {w : World} {K : PySem.W.Frag} {mg : Str → Option Value} {base : Heap}
theorem ok_heart (D : Df K mg "heart" p_heart s_heart) : Cal P w K mg base CX0 1 "heart" p_heart sp_heart := D.cal fun f fd F => by
  refine F.ok sc_heart (fun vs H Q E h => ?_) (fun cdv A outer s H vs Q E hr h => ?_)
  · obtain ⟨a, b, c, rfl, _⟩ := h
    rfl
  obtain ⟨a, b, c, rfl, ha, hb, hc, q⟩ := h
  refine ⟨_, pss_one (ps_ret (pe_op op_sub (pe_op op_mulW (pv 1) (pv 1)) (pe_op op_mulW (pe_op op_mulW pe_int (pv 0)) (pv 2)))), ?_⟩
  exact ⟨_, rfl, _, rfl, _, _, rfl, rfl, mulW_of hb.lt hb.lt, _, rfl, _, _, rfl, rfl, mulW_of (m := 3) (by decide) ha.lt, _, rfl, _, _, rfl, rfl, mulW_of (m := 1003) (nat_mul_lt (m := 3) (by decide) ha.lt) hc.lt, _, _, rfl, rfl, q⟩
end
section
variable {P : Program} {w : World} {K : PySem.W.Frag} {mg : Str → Option Value} {base : Heap}
theorem ok_is_square (D : Df K mg "is_square" p_is_square s_is_square) (Cs : Cal P w K mg base CX0 1 "least_square" p_least_square sp_least_square) : Cal P w K mg base CX0 2 "is_square" p_is_square sp_is_square := D.cal fun f fd F => by
  refine F.ok sc_is_square (fun vs H Q E h => ?_) (fun cdv A outer s H vs Q E hr h => ?_)
  · obtain ⟨n, rfl, _⟩ := h
    rfl
  obtain ⟨n, rfl, h0, hb, q⟩ := h
  refine ⟨_, pss_one (ps_ret (pe_cmpR op_eq (pe_op op_mulW (pe_cal Cs hr (by decide) (by rfl) pass0 (pa_cons (pv 0) pa_nil)) (pe_cal Cs hr (by decide) (by rfl) pass0 (pa_cons (pv 0) pa_nil))) (pv 0) (nomark _))), ?_⟩
  have hr1 : Big (rt n) := big_le (by have := rt_le h0; have := (rt_spec h0).1; omega) hb
  refine ⟨_, rfl, n, rfl, h0, hb, _, rfl, n, rfl, h0, hb, _, _, rfl, rfl, hr1.mul hr1, _, rfl, rfl, ?_⟩
  have e : decide (V.int (rt n * rt n) = V.int n) = isSq n := by
    unfold isSq
    exact decide_eq_decide.mpr ⟨fun z => V.int.inj z, fun z => congrArg V.int z⟩
  dsimp only
  rw [e]
  exact q
end
section
variable {P : Program} {w : World} {K : PySem.W.Frag} {mg : Str → Option Value} {base : Heap} {C R : Addr}
theorem ok_root_of (D : Df K mg "root_of" p_root_of s_root_of) (N : NoN K mg C R) (Ch : Cal P w K mg base CX0 1 "heart" p_heart sp_heart) (Cs : Cal P w K mg base CX0 2 "is_square" p_is_square sp_is_square) (Cd : Cal P w K mg base CX0 1 "divisor" p_divisor sp_divisor) : Cal P w K mg base (L2.CX P w) 3 "root_of" p_root_of (sp_root_of C) := D.cal fun f fd F => by
  refine F.okX sc_root_of (fun vs H Q E h => ?_) (fun cdv A outer s H vs Q E hr h => ?_)
  · obtain ⟨a, b, c, s, rfl, _⟩ := h
    rfl
  obtain ⟨a, b, c, sd, rfl, ha, hb, hc, q0, q⟩ := h
  refine ⟨_, pss_mid (ps_if (PW.pt (pw_or (pt_cmpR op_eq (pv 0) pe_int (nomark _)) (pw_or (pt_cmpR op_lt (pe_cal Ch hr (by decide) (by rfl) pass0 (pa_cons (pv 0) (pa_cons (pv 1) (pa_cons (pv 2) pa_nil)))) pe_int (nomark _))
      (pw_or1 (pt_val (pe_cal Cs hr (by decide) (by rfl) pass0 (pa_cons (pe_cal Ch hr (by decide) (by rfl) pass0 (pa_cons (pv 0) (pa_cons (pv 1) (pa_cons (pv 2) pa_nil)))) pa_nil)))))))
      (pss_one (ps_no N rfl (takes_of rfl rfl rfl rfl) (by rfl))) pss_nil)
    <| pss_cons (ps_set (i := 4) sc_root_of.nd rfl (.inl rfl) (pe_cal Cd hr (by decide) (by rfl) pass0 (pa_cons (pe_cal Cd hr (by decide) (by rfl) pass0 (pa_cons (pv 0) (pa_cons (pv 1) pa_nil))) (pa_cons (pv 2) pa_nil))))
    <| pss_cons (ps_if (pt_cmpR op_lt (pv 0) pe_int (nomark _)) (pss_one (ps_set (i := 4) sc_root_of.nd rfl (.inl rfl) (pe_op op_sub pe_int (pv 4)))) pss_nil)
    (pss_one (ps_ret (pe_tup (pa_cons (pe_op op_fdivWN (pv 0) (pv 4)) (pa_cons (pe_op op_fdivWN (pv 1) (pv 4)) (pa_cons (pe_op op_fdivWN (pv 2) (pv 4)) (pa_cons (pv 3) pa_nil))))))), ?_⟩
  refine ⟨fun σ H' => H' = H ∧ σ = [some (.int a), some (.int b), some (.int c), some (.int sd), none] ∧ ¬ NoRoot a b c, ?_, ?_⟩
  · refine ⟨_, rfl, rfl, _, rfl, ite2 (fun k => ?_) (fun k => ?_)⟩
    · exact iteT (q0 (.inl (V.int.inj (of_decide_eq_true k))))
    have h0 : a ≠ 0 := fun z => k (decide_eq_true (congrArg V.int z))
    refine ⟨_, rfl, _, rfl, _, rfl, a, b, c, rfl, ha, hb, hc, _, _, rfl, rfl, _, rfl, ite2 (fun k => ?_) (fun k => ?_)⟩
    · exact iteT (q0 (.inr (.inl (of_decide_eq_true k))))
    have h1 : ¬ ht a b c < 0 := of_decide_eq_false (Bool.eq_false_iff.mpr k)
    refine ⟨_, rfl, _, rfl, _, rfl, a, b, c, rfl, ha, hb, hc, ht a b c, rfl, by omega, ht_big ha hb hc, _, rfl, ?_⟩
    cases e : isSq (ht a b c) with
    | true => exact iteT (q0 (.inr (.inr e)))
    | false => exact iteF ⟨rfl, rfl, fun z => z.elim h0 fun z => z.elim h1 fun z => by rw [e] at z; cases z⟩
  rintro σ H' ⟨rfl, rfl, hno⟩
  have h0 : a ≠ 0 := fun z => hno (.inl z)
  have hg : 0 < dv (dv a b) c := dv_pos_left (by have := dv_pos_left (b := b) h0; omega)
  obtain ⟨d1, d2, d3⟩ := dv3_dvd a b c
  have hgb : (dv (dv a b) c).natAbs.log2 < 9000 := by
    refine Nat.lt_of_lt_of_le (PySem.Flt.log2_lt_of (by decide) (Nat.lt_of_le_of_lt ?_ ha.lt)) (by decide : 1000 ≤ 9000)
    obtain ⟨k, hk⟩ := d1
    conv => rhs; rw [hk]
    rw [Int.natAbs_mul]
    refine Nat.le_mul_of_pos_right _ ?_
    have : k ≠ 0 := fun z => by
      rw [z, Int.mul_zero] at hk
      exact h0 hk
    omega
  have q2 := q hno
  unfold nfA nfB nfC at q2
  refine ⟨_, rfl, _, rfl, a, b, rfl, _, rfl, _, c, rfl, ?_⟩
  generalize dv (dv a b) c = g at *
  refine ⟨_, rfl, _, _, rfl, rfl, _, rfl, ite2 (fun k => ?_) (fun k => ?_)⟩
  · have k' : a < 0 := of_decide_eq_true k
    have hb1 : (0 - g) ≠ 0 ∧ (0 - g).natAbs.log2 < 9000 := ⟨by omega, by rw [show (0 - g).natAbs = g.natAbs by omega]; exact hgb⟩
    refine ⟨_, rfl, _, _, rfl, rfl, _, rfl, _, rfl, _, _, rfl, rfl, hb1, _, rfl, _, rfl, _, _, rfl, rfl, hb1, _, rfl, _, rfl, _, _, rfl, rfl, hb1, _, rfl, len4, fun p np => ?_⟩
    have q3 := q2 p np
    rw [if_pos k', if_pos k', if_pos k', ← fdiv_neg_dvd d1 (by omega), ← fdiv_neg_dvd d2 (by omega), ← fdiv_neg_dvd d3 (by omega), ← show (0 : Int) - g = -g by omega] at q3
    exact q3
  · have k' : ¬ a < 0 := of_decide_eq_false (Bool.eq_false_iff.mpr k)
    have hb1 : g ≠ 0 ∧ g.natAbs.log2 < 9000 := ⟨by omega, hgb⟩
    refine ⟨_, rfl, _, rfl, _, _, rfl, rfl, hb1, _, rfl, _, rfl, _, _, rfl, rfl, hb1, _, rfl, _, rfl, _, _, rfl, rfl, hb1, _, rfl, len4, fun p np => ?_⟩
    have q3 := q2 p np
    rw [if_neg k', if_neg k', if_neg k', ← Int.fdiv_eq_ediv_of_nonneg a (by omega), ← Int.fdiv_eq_ediv_of_nonneg b (by omega), ← Int.fdiv_eq_ediv_of_nonneg c (by omega)] at q3
    exact q3
end
section
variable {P : Program} {w : World} {K : PySem.W.Frag} {mg : Str → Option Value} {base : Heap}
theorem ok_part_of (D : Df K mg "part_of" p_part_of s_part_of) (B : Bl mg) (Ch : Cal P w K mg base CX0 1 "heart" p_heart sp_heart) (Cs : Cal P w K mg base CX0 1 "least_square" p_least_square sp_least_square) : Cal P w K mg base CX0 2 "part_of" p_part_of sp_part_of := D.cal fun f fd F => by
  refine F.ok sc_part_of (fun vs H Q E h => ?_) (fun cdv A outer s H vs Q E hr h => ?_)
  · obtain ⟨r, rfl, _⟩ := h
    rfl
  obtain ⟨r, rfl, h⟩ := h
  refine ⟨_, pss_cons (ps_if (pt_cmpR op_eq (pe_callB call_len_seq (by rfl) B.len PySem.boot_len (pa_cons (pv 0) pa_nil)) pe_int (nomark _))
        (pss_one (ps_ret (pe_op op_fdivW (pe_ix ix_tup (pv 0) pe_int (fun _ _ => rfl)) (pe_ix ix_tup (pv 0) pe_int (fun _ _ => rfl))))) pss_nil)
    <| pss_cons (ps_asg (pv 0) (pg_tup (by rfl) (pgs_cons (pg_name (i := 1) sc_part_of.nd rfl (.inl rfl)) (pgs_cons (pg_name (i := 2) sc_part_of.nd rfl (.inl rfl)) (pgs_cons (pg_name (i := 3) sc_part_of.nd rfl (.inl rfl)) (pgs_cons (pg_name (i := 4) sc_part_of.nd rfl (.inl rfl)) pgs_nil))))))
    <| pss_cons (ps_set (i := 5) sc_part_of.nd rfl (.inl rfl) (pe_cal Cs hr (by decide) (by rfl) pass0 (pa_cons (pe_cal Ch hr (by decide) (by rfl) pass0 (pa_cons (pv 1) (pa_cons (pv 2) (pa_cons (pv 3) pa_nil)))) pa_nil)))
    <| pss_cons (ps_set (i := 6) sc_part_of.nd rfl (.inl rfl) (pe_op op_fdivW (pe_op op_sub (pv 5) (pv 2)) (pe_op op_mulW pe_int (pv 1))))
    <| pss_cons (ps_if (pt_cmpR op_eq (pv 4) pe_int (nomark _)) (pss_one (ps_set (i := 6) sc_part_of.nd rfl (.inl rfl) (pe_op op_fdivW (pe_op op_sub (pe_op op_sub (pe_op op_sub pe_int (pv 5)) pe_int) (pv 2)) (pe_op op_mulW pe_int (pv 1))))) pss_nil)
    <| pss_one (ps_ret (pv 6)), ?_⟩
  rcases h with ⟨u, l, e, hl, hb, q⟩ | ⟨a, b, c, sd, e, ha, hh, sa, sb, sc, q⟩
  · refine ⟨_, rfl, r, _, rfl, .inr (SqT.of e), rfl, true, rfl, iteT ?_⟩
    exact ⟨_, rfl, r, _, 0, .int u, rfl, rfl, SqT.of e, atI_nat (j := 0) rfl, _, rfl, r, _, 1, .int l, rfl, rfl, SqT.of e, atI_nat (j := 1) rfl, _, _, rfl, rfl, ⟨hl, Nat.lt_trans hb.log (by decide)⟩, q⟩
  · refine ⟨_, rfl, r, _, rfl, .inr (SqT.of e), rfl, false, rfl, iteF ?_⟩
    have hd : CDivW (rt (ht a b c) - b) (2 * a) := ⟨by omega, Nat.lt_of_lt_of_le (PySem.Flt.log2_lt_of (k := 1002) (by decide) (nat_mul_lt (m := 2) (by decide) sa.lt)) (by decide)⟩
    have hm : CMulW 2 a := mulW_of (m := 2) (by decide) sa.lt
    refine ⟨_, rfl, r, _, rfl, SqT.of e, rfl, _, _, rfl, _, _, rfl, _, _, rfl, _, _, rfl, rfl, ?_⟩
    refine ⟨_, rfl, _, rfl, _, rfl, a, b, c, rfl, sa, sb, sc, _, rfl, hh, ht_big sa sb sc, ?_⟩
    refine ⟨_, rfl, _, rfl, _, _, rfl, rfl, _, rfl, _, _, rfl, rfl, hm, _, _, rfl, rfl, hd, ?_⟩
    refine ⟨_, rfl, rfl, _, rfl, ite2 (fun k => ?_) (fun k => ?_)⟩
    · have k' : sd = 0 := V.int.inj (of_decide_eq_true k)
      refine ⟨_, rfl, _, _, rfl, rfl, _, _, rfl, rfl, _, rfl, _, _, rfl, rfl, _, rfl, _, _, rfl, rfl, hm, _, _, rfl, rfl, hd, _, rfl, ?_⟩
      unfold partR at q
      rw [if_pos k'] at q
      exact q
    · have k' : ¬ sd = 0 := fun z => k (decide_eq_true (congrArg V.int z))
      unfold partR at q
      rw [if_neg k'] at q
      exact ⟨_, rfl, q⟩
end
section
variable {P : Program} {w : World} {K : PySem.W.Frag} {mg : Str → Option Value} {base : Heap}
theorem ok_moved (D : Df K mg "moved" p_moved s_moved) : Cal P w K mg base CX0 1 "moved" p_moved sp_moved := D.cal fun f fd F => by
  refine F.ok sc_moved (fun vs H Q E h => ?_) (fun cdv A outer s H vs Q E hr h => ?_)
  · obtain ⟨r, a, b, c, sd, n, rfl, _⟩ := h
    rfl
  obtain ⟨r, a, b, c, sd, n, rfl, e, ha, hb, hc, hn, q⟩ := h
  refine ⟨_, pss_cons (ps_asg (pv 0) (pg_tup (by rfl) (pgs_cons (pg_name (i := 2) sc_moved.nd rfl (.inl rfl)) (pgs_cons (pg_name (i := 3) sc_moved.nd rfl (.inl rfl)) (pgs_cons (pg_name (i := 4) sc_moved.nd rfl (.inl rfl)) (pgs_cons (pg_name (i := 5) sc_moved.nd rfl (.inl rfl)) pgs_nil))))))
    <| pss_one (ps_ret (pe_tup (pa_cons (pv 2) (pa_cons (pe_op op_add (pv 3) (pe_op op_mulW (pe_op op_mulW pe_int (pv 2)) (pv 1)))
      (pa_cons (pe_op op_add (pe_op op_add (pe_op op_mulW (pe_op op_mulW (pv 2) (pv 1)) (pv 1)) (pe_op op_mulW (pv 3) (pv 1))) (pv 4)) (pa_cons (pv 5) pa_nil)))))), ?_⟩
  refine ⟨_, rfl, r, _, rfl, SqT.of e, rfl, _, _, rfl, _, _, rfl, _, _, rfl, _, _, rfl, rfl, ?_⟩
  refine ⟨_, rfl, _, rfl, _, rfl, _, _, rfl, rfl, mulW_of (m := 2) (by decide) ha.lt, _, rfl, _, _, rfl, rfl, mulW_of (m := 302) (nat_mul_lt (m := 2) (by decide) ha.lt) hn.lt, _, _, rfl, rfl, ?_⟩
  exact ⟨_, rfl, _, rfl, _, _, rfl, rfl, mulW_of ha.lt hn.lt, _, rfl, _, _, rfl, rfl, mulW_of (m := 600) (nat_mul_lt ha.lt hn.lt) hn.lt, _, rfl, _, rfl, _, _, rfl, rfl, mulW_of hb.lt hn.lt, _, _, rfl, rfl, _, rfl, _, _, rfl, rfl, _, rfl, len4, q⟩
end
section
variable {P : Program} {w : World} {K : PySem.W.Frag} {mg : Str → Option Value} {base : Heap} {C : Addr}
theorem ok_turned (D : Df K mg "turned" p_turned s_turned) (Cm : Cal P w K mg base CX0 1 "moved" p_moved sp_moved) (Cr : Cal P w K mg base (L2.CX P w) 3 "root_of" p_root_of (sp_root_of C)) : Cal P w K mg base CX0 4 "turned" p_turned sp_turned := D.cal fun f fd F => by
  refine F.ok sc_turned (fun vs H Q E h => ?_) (fun cdv A outer s H vs Q E hr h => ?_)
  · obtain ⟨r, a, b, c, sd, n, rfl, _⟩ := h
    rfl
  obtain ⟨r, a, b, c, sd, n, rfl, e, R, ha, hb, hc, hn, q⟩ := h
  refine ⟨_, pss_cons (ps_asg (pe_cal Cm hr (by decide) (by rfl) pass0 (pa_cons (pv 0) (pa_cons (pv 1) pa_nil))) (pg_tup (by rfl) (pgs_cons (pg_name (i := 2) sc_turned.nd rfl (.inl rfl)) (pgs_cons (pg_name (i := 3) sc_turned.nd rfl (.inl rfl)) (pgs_cons (pg_name (i := 4) sc_turned.nd rfl (.inl rfl)) (pgs_cons (pg_name (i := 5) sc_turned.nd rfl (.inl rfl)) pgs_nil))))))
    <| pss_cons (ps_set (i := 6) sc_turned.nd rfl (.inl rfl) (pv 5))
    <| pss_cons (ps_if (pt_cmpR op_gt (pv 4) pe_int (nomark _)) (pss_one (ps_set (i := 6) sc_turned.nd rfl (.inl rfl) (pe_op op_sub pe_int (pv 5)))) pss_nil)
    <| pss_one (ps_ret (pe_cal Cr hr (by decide) (by rfl) passL (pa_cons (pv 4) (pa_cons (pv 3) (pa_cons (pv 2) (pa_cons (pv 6) pa_nil)))))), ?_⟩
  obtain ⟨m1, m2⟩ := mv_s3 ha hb hc hn
  obtain ⟨t0, t1, t2, t3⟩ := tn_nf n R
  refine ⟨_, rfl, _, rfl, r, a, b, c, sd, n, rfl, e, ha, hb, hc, hn, fun p np => ?_⟩
  refine ⟨p, _, rfl, SqT.of upd_same, rfl, _, _, rfl, _, _, rfl, _, _, rfl, _, _, rfl, rfl, ?_⟩
  have s1 := same_upd np (o := tI [a, b + 2 * a * n, mvC a b c n, sd])
  refine ⟨_, rfl, _, rfl, _, _, rfl, rfl, _, rfl, ite2 (fun k => ?_) (fun k => ?_)⟩
  · have k' : 0 < mvC a b c n := of_decide_eq_true k
    refine ⟨_, rfl, _, _, rfl, rfl, _, rfl, _, rfl, _, rfl, _, rfl, mvC a b c n, b + 2 * a * n, a, 1 - sd, rfl, m2, m1, ha.sm, fun z => absurd z t0, fun _ p2 np2 => ?_⟩
    rw [t1, t2, t3]
    refine q _ p2 (same_updO s1 (s1.free np2)) (s1.free np2) ?_
    unfold tnS
    rw [if_pos k']
    exact upd_same
  · have k' : ¬ 0 < mvC a b c n := of_decide_eq_false (Bool.eq_false_iff.mpr k)
    refine ⟨_, rfl, _, rfl, _, rfl, _, rfl, mvC a b c n, b + 2 * a * n, a, sd, rfl, m2, m1, ha.sm, fun z => absurd z t0, fun _ p2 np2 => ?_⟩
    rw [t1, t2, t3]
    refine q _ p2 (same_updO s1 (s1.free np2)) (s1.free np2) ?_
    unfold tnS
    rw [if_neg k']
    exact upd_same
end
section
variable {P : Program} {w : World} {K : PySem.W.Frag} {mg : Str → Option Value} {base : Heap}
theorem ok_rounds_of (D : Df K mg "rounds_of" p_rounds_of s_rounds_of) (B : Bl mg) (Cp : Cal P w K mg base CX0 2 "part_of" p_part_of sp_part_of) (Ct : Cal P w K mg base CX0 4 "turned" p_turned sp_turned) : Cal P w K mg base CX0 5 "rounds_of" p_rounds_of sp_rounds_of := D.cal fun f fd F => by
  refine F.ok sc_rounds_of (fun vs H Q E h => ?_) (fun cdv A outer s H vs Q E hr h => ?_)
  · obtain ⟨t, r, rfl, _⟩ := h
    rfl
  obtain ⟨t, r, rfl, e, R, i, j, hij, hj, hrep, hdis, hsm, q⟩ := h
  refine ⟨_, pss_cons (ps_set (i := 1) sc_rounds_of.nd rfl (.inl rfl) pe_dnewT)
    <| pss_cons (ps_set (i := 2) sc_rounds_of.nd rfl (.inl rfl) (pe_lst pa_nil))
    <| pss_cons (ps_while PassesOwn.never (pt_cmp (pc_dnotin (room1 hr) (pv 0) (pv 1)))
        (pss_cons (ps_dput (room1 hr) (pv 1) (pv 0) (pe_callB call_len_seq (by rfl) B.len PySem.boot_len (pa_cons (pv 2) pa_nil)) rfl)
        <| pss_cons (ps_expr (pe_bm PySem.F.plainAttrs_list PySem.F.slot_list_append PySem.F.type_list_append mt_append (pv 2) (pa_cons (pe_cal Cp hr (by decide) (by rfl) pass0 (pa_cons (pv 0) pa_nil)) pa_nil)))
        <| pss_one (ps_set (i := 0) sc_rounds_of.nd rfl (.inl rfl) (pe_cal Ct hr (by decide) (by rfl) pass0 (pa_cons (pv 0) (pa_cons (pe_ix ix_list (pv 2) (pe_un un_neg pe_int) (fun _ _ => rfl)) pa_nil))))))
    <| pss_cons (ps_set (i := 3) sc_rounds_of.nd rfl (.inl rfl) (pe_dget (room1 hr) (pv 1) (pv 0) (fun _ _ => rfl)))
    <| pss_one (ps_ret (pe_tup (pa_cons (pe_callTy call_tuple_of (by rfl) B.tuple (by decide +kernel) (pa_cons (pe_slice sl_list (pv 2) po_none (po_some (pv 3))) pa_nil))
        (pa_cons (pe_callTy call_tuple_of (by rfl) B.tuple (by decide +kernel) (pa_cons (pe_slice sl_list (pv 2) (po_some (pv 3)) po_none) pa_nil)) pa_nil)))), ?_⟩
  intro d nd
  dsimp only
  have sD := same_upd nd (o := HO.dT [])
  refine ⟨Nat.zero_le _, fun o no => ?_⟩
  have hdo : d ≠ o := fun z => by
    subst z
    rw [upd_same] at no
    cases no
  refine ⟨fun m σ H' => ∃ (k : Nat) (x : Addr), k ≤ j ∧ m = j - k ∧ σ = [some (.ref x), some (.ref d), some (.ref o), none] ∧ Same H H' ∧ H' x = some (tI (orb r k).l) ∧ H' d = some (.dT ((List.range k).map fun m => ((orb r m).k, V.int m))) ∧ H' o = some (lI (prts r 0 k)),
    ⟨_, 0, t, Nat.zero_le _, rfl, rfl, sD.trans (same_upd no), same_upd no _ _ (sD _ _ e), by rw [upd_ne hdo, upd_same] <;> rfl, upd_same⟩, ?_⟩
  rintro m σ H' ⟨k, x, hk, rfl, rfl, s1, ex, ed, eo⟩
  have hxd : x ≠ d := fun z => by
    subst z
    rw [ex] at ed
    cases ed
  have hxo : x ≠ o := fun z => by
    subst z
    rw [ex] at eo
    cases eo
  have hget := DGet.t (k := (orb r k).k) ed ex
  have hlen : (prts r 0 k).length = k := by
    unfold prts
    rw [List.length_map, List.length_range']
  by_cases hkj : k < j
  · -- one more
    have hv : valV ((List.range k).map fun m => ((orb r m).k, V.int m)) (orb r k).k = none := valV_range (f := fun m => (orb r m).k) k fun m hm e => hdis m k hm hkj (R4.k_inj e)
    rw [hv] at hget
    obtain ⟨z1, z2, z3, z4⟩ := hsm k hkj
    have Rk : IsR (orb r k).a (orb r k).b (orb r k).c (orb r k).s := orb_is R k
    refine ⟨_, rfl, _, rfl, d, none, rfl, hget, true, rfl, iteT ?_⟩
    refine ⟨fun σ' H2 => ∃ x' : Addr, σ' = [some (.ref x'), some (.ref d), some (.ref o), none] ∧ Same H H2 ∧ H2 x' = some (tI (orb r (k + 1)).l) ∧ H2 d = some (.dT ((List.range (k + 1)).map fun m => ((orb r m).k, V.int m))) ∧ H2 o = some (lI (prts r 0 (k + 1))),
      fun σ' H2 ⟨x', e1, e2, e3, e4, e5⟩ => ⟨j - (k + 1), by omega, k + 1, x', hkj, rfl, e1, e2, e3, e4, e5⟩, ?_⟩
    have hput := DPut.t (v := .int k) ed (k := (orb r k).k) (b := x) ex (by rw [List.length_map, List.length_range]; exact small_of (by omega))
    rw [putK_new _ hv] at hput
    have hkv : ((List.range k).map fun m => ((orb r m).k, V.int m)) ++ [((orb r k).k, V.int k)] = (List.range (k + 1)).map fun m => ((orb r m).k, V.int m) := by
      rw [List.range_succ, List.map_append]
      rfl
    rw [hkv] at hput
    refine ⟨_, rfl, o, _, rfl, .inl (SqL.of eo), _, rfl, _, rfl, d, _, rfl, by rw [List.length_map, hlen]; exact hput, ?_⟩
    have s2 := same_updO (o := HO.dT ((List.range (k + 1)).map fun m => ((orb r m).k, V.int m))) s1 nd
    have ex2 : (upd H' d (HO.dT ((List.range (k + 1)).map fun m => ((orb r m).k, V.int m)))) x = _ := (upd_ne hxd).trans ex
    have eo2 : (upd H' d (HO.dT ((List.range (k + 1)).map fun m => ((orb r m).k, V.int m)))) o = _ := (upd_ne hdo.symm).trans eo
    have ed2 : (upd H' d (HO.dT ((List.range (k + 1)).map fun m => ((orb r m).k, V.int m)))) d = _ := upd_same
    generalize upd H' d (HO.dT ((List.range (k + 1)).map fun m => ((orb r m).k, V.int m))) = H2 at *
    have hno : H o = none := by
      cases h : H o with
      | none => rfl
      | some y =>
        have := sD _ _ h
        rw [no] at this
        cases this
    refine ⟨_, rfl, .inl ⟨rfl, _, SqL.of eo2⟩, _, rfl, x, rfl, .inr ⟨(orb r k).a, (orb r k).b, (orb r k).c, (orb r k).s, ex2, Rk.ha, Int.le_of_lt Rk.n.pos, z1.sm, z2.sm, z3.sm, o, _, _, rfl, rfl, eo2, by rw [List.length_map, hlen]; exact small_of (by omega), ?_⟩⟩
    have hpp : (prts r 0 k).map V.int ++ [V.int (partR (orb r k).a (orb r k).b (orb r k).c (orb r k).s)] = (prts r 0 (k + 1)).map V.int := by
      unfold prts
      rw [List.range'_concat, List.map_append, List.map_append, Nat.one_mul, Nat.zero_add]
      rfl
    rw [hpp]
    have s3 := same_updO (o := HO.lst ((prts r 0 (k + 1)).map V.int)) s2 hno
    have ex3 : (upd H2 o (HO.lst ((prts r 0 (k + 1)).map V.int))) x = _ := (upd_ne hxo).trans ex2
    have ed3 : (upd H2 o (HO.lst ((prts r 0 (k + 1)).map V.int))) d = _ := (upd_ne hdo).trans ed2
    have eo3 : (upd H2 o (HO.lst ((prts r 0 (k + 1)).map V.int))) o = _ := upd_same
    generalize upd H2 o (HO.lst ((prts r 0 (k + 1)).map V.int)) = H3 at *
    have hl2 : (prts r 0 (k + 1)).length = k + 1 := by
      unfold prts
      rw [List.length_map, List.length_range']
    have glast : atI ((prts r 0 (k + 1)).map V.int) (-1) = some (.int (orb r k).prt) := atI_neg (k := 1) (by decide) (by rw [List.length_map, hl2]; omega) (by
      rw [List.length_map, hl2, Nat.add_sub_cancel, ← hpp, List.getElem?_append_right (by rw [List.length_map, hlen]; exact Nat.le_refl _), List.length_map, hlen, Nat.sub_self]
      rfl)
    refine ⟨_, rfl, _, rfl, 1, rfl, o, _, -1, _, rfl, rfl, SqL.of eo3, glast, x, (orb r k).a, (orb r k).b, (orb r k).c, (orb r k).s, (orb r k).prt, rfl, ex3, Rk, z1, z2, z3, z4, fun H4 p s4 _ ep => ?_⟩
    exact ⟨p, rfl, s3.trans s4, ep, s4 _ _ ed3, s4 _ _ eo3⟩
  · -- it was there
    have hkj2 : k = j := by omega
    subst hkj2
    have hv : valV ((List.range k).map fun m => ((orb r m).k, V.int m)) (orb r k).k = some (.int i) := valV_at (f := fun m => (orb r m).k) k hij (by show (orb r i).k = _; rw [hrep]) fun m hm e => by
      have e2 : orb r m = orb r i := (R4.k_inj e).trans hrep
      by_cases h1 : m < i
      · exact absurd e2 (hdis m i h1 hij)
      · by_cases h2 : i < m
        · exact absurd e2.symm (hdis i m h2 hm)
        · omega
    rw [hv] at hget
    refine ⟨_, rfl, _, rfl, d, some (.int i), rfl, hget, false, rfl, iteF ?_⟩
    refine ⟨_, rfl, _, rfl, d, .int i, rfl, hget, ?_⟩
    have c1 : cutV ((prts r 0 k).map V.int) none (some (i : Int)) = (prts r 0 i).map V.int := by
      rw [cutV_to, ← List.map_take]
      unfold prts
      have hsplit : List.range' 0 k = List.range' 0 i ++ List.range' (0 + i) (k - i) := by
        rw [List.range'_append_1, show i + (k - i) = k by omega]
      rw [← List.map_take, hsplit, List.take_left' (by rw [List.length_range'])]
    have c2 : cutV ((prts r 0 k).map V.int) (some (i : Int)) none = (prts r i (k - i)).map V.int := by
      rw [cutV_from, ← List.map_drop]
      unfold prts
      rw [← List.map_drop, List.drop_range', Nat.mul_one, Nat.zero_add]
    refine ⟨_, rfl, _, rfl, i, rfl, o, _, rfl, SqL.of eo, fun l1 nl1 => ?_⟩
    rw [c1]
    refine ⟨l1, _, rfl, .inl ⟨SqL.of upd_same, fun t1 nt1 => ?_⟩⟩
    have s2 := same_updO (o := HO.lst ((prts r 0 i).map V.int)) s1 (s1.free nl1)
    have s3 := same_updO (o := HO.tup ((prts r 0 i).map V.int)) s2 (s2.free nt1)
    have eo3 := same_upd nt1 (o := HO.tup ((prts r 0 i).map V.int)) _ _ (same_upd nl1 (o := HO.lst ((prts r 0 i).map V.int)) _ _ eo)
    have et1 : (upd (upd H' l1 (HO.lst ((prts r 0 i).map V.int))) t1 (HO.tup ((prts r 0 i).map V.int))) t1 = _ := upd_same
    have ft1 := s2.free nt1
    generalize upd (upd H' l1 (HO.lst ((prts r 0 i).map V.int))) t1 (HO.tup ((prts r 0 i).map V.int)) = H3 at *
    refine ⟨_, rfl, _, rfl, i, rfl, o, _, rfl, SqL.of eo3, fun l2 nl2 => ?_⟩
    rw [c2]
    refine ⟨l2, _, rfl, .inl ⟨SqL.of upd_same, fun t2 nt2 => ?_⟩⟩
    have s4 := same_updO (o := HO.lst ((prts r i (k - i)).map V.int)) s3 (s3.free nl2)
    have s5 := same_updO (o := HO.tup ((prts r i (k - i)).map V.int)) s4 (s4.free nt2)
    have et2 := same_upd nt2 (o := HO.tup ((prts r i (k - i)).map V.int)) _ _ (same_upd nl2 (o := HO.lst ((prts r i (k - i)).map V.int)) _ _ et1)
    have et3 : (upd (upd H3 l2 (HO.lst ((prts r i (k - i)).map V.int))) t2 (HO.tup ((prts r i (k - i)).map V.int))) t2 = _ := upd_same
    have ft2 := s4.free nt2
    generalize upd (upd H3 l2 (HO.lst ((prts r i (k - i)).map V.int))) t2 (HO.tup ((prts r i (k - i)).map V.int)) = H5 at *
    refine ⟨len2, fun p np => ?_⟩
    exact q _ p t1 t2 (same_updO s5 (s5.free np)) (s5.free np) ft1 ft2 upd_same (same_upd np _ _ et2) (same_upd np _ _ et3)
end
section
variable {P : Program} {w : World} {K : PySem.W.Frag} {mg : Str → Option Value} {base : Heap}
theorem ok_product (D : Df K mg "product" p_product s_product) : Cal P w K mg base CX0 1 "product" p_product sp_product := D.cal fun f fd F => by
  refine F.ok sc_product (fun vs H Q E h => ?_) (fun cdv A outer s H vs Q E hr h => ?_)
  · obtain ⟨t, xs, n, rfl, _⟩ := h
    rfl
  obtain ⟨t, xs, n, rfl, e, hn, hlen, hM, hy, q⟩ := h
  refine ⟨_, pss_cons (ps_asg (pe_tup (pa_cons pe_int (pa_cons pe_int (pa_cons pe_int (pa_cons pe_int pa_nil))))) (pg_tup (by rfl) (pgs_cons (pg_name (i := 1) sc_product.nd rfl (.inl rfl)) (pgs_cons (pg_name (i := 2) sc_product.nd rfl (.inl rfl)) (pgs_cons (pg_name (i := 3) sc_product.nd rfl (.inl rfl)) (pgs_cons (pg_name (i := 4) sc_product.nd rfl (.inl rfl)) pgs_nil))))))
    <| pss_cons (ps_for PassesOwn.never rfl (pi_tup (pv 0)) (pg_name (i := 5) sc_product.nd rfl (.inl rfl))
        (pss_one (ps_asg (pe_tup (pa_cons (pe_op op_add (pe_op op_mulW (pv 1) (pv 5)) (pv 2)) (pa_cons (pv 1) (pa_cons (pe_op op_add (pe_op op_mulW (pv 3) (pv 5)) (pv 4)) (pa_cons (pv 3) pa_nil))))) (pg_tup (by rfl) (pgs_cons (pg_name (i := 1) sc_product.nd rfl (.inl rfl)) (pgs_cons (pg_name (i := 2) sc_product.nd rfl (.inl rfl)) (pgs_cons (pg_name (i := 3) sc_product.nd rfl (.inl rfl)) (pgs_cons (pg_name (i := 4) sc_product.nd rfl (.inl rfl)) pgs_nil))))))))
    <| pss_one (ps_ret (pe_tup (pa_cons (pv 1) (pa_cons (pv 2) (pa_cons (pv 3) (pa_cons (pv 4) pa_nil)))))), ?_⟩
  refine ⟨len4, fun p0 np0 => ⟨p0, _, rfl, SqT.of upd_same, rfl, _, _, rfl, _, _, rfl, _, _, rfl, _, _, rfl, rfl, ?_⟩⟩
  have s1 := same_upd np0 (o := HO.tup [V.int 1, V.int 0, V.int 0, V.int 1])
  refine ⟨_, rfl, t, rfl, ⟨_, SqT.of (s1 _ _ e)⟩, for_tup (xs := xs.map V.int) (fun i σ H' => ∃ y5, σ = [some (.ref t), some (.int (mt (xs.take i)).p), some (.int (mt (xs.take i)).q), some (.int (mt (xs.take i)).r), some (.int (mt (xs.take i)).s), y5] ∧ Same H H')
    ⟨none, rfl, s1⟩ (fun i σ H' _ h => by obtain ⟨_, _, s⟩ := h; exact SqT.of (s _ _ e)) (fun i x σ H' hx h => ?_) (fun σ H' h => ?_)⟩
  · obtain ⟨y5, rfl, s2⟩ := h
    obtain ⟨z, hz, rfl⟩ := map_get hx
    obtain ⟨m1, m2, m3, m4⟩ := hM i
    have hzb := hy z (List.mem_of_getElem? hz)
    have m1' := nat_mono m1 hn
    have m3' := nat_mono m3 hn
    have htk : mt (xs.take (i + 1)) = (mt (xs.take i)).x z := by
      rw [List.take_add_one, hz]
      exact mt_snoc _ _
    refine ⟨_, rfl, _, rfl, _, _, rfl, rfl, mulW_of m1' hzb, _, rfl, _, _, rfl, rfl, _, rfl, _, rfl, _, rfl, _, _, rfl, rfl, mulW_of m3' hzb, _, rfl, _, _, rfl, rfl, _, rfl, len4, fun p1 np1 => ⟨p1, _, rfl, SqT.of upd_same, rfl, _, _, rfl, _, _, rfl, _, _, rfl, _, _, rfl, rfl, some (.int z), ?_, s2.trans (same_upd np1)⟩⟩
    rw [htk]
    rfl
  · obtain ⟨y5, rfl, s2⟩ := h
    rw [List.length_map, List.take_length]
    exact ⟨_, rfl, _, rfl, _, rfl, _, rfl, len4, fun p1 np1 => q _ p1 (same_updO s2 (s2.free np1)) (s2.free np1) upd_same⟩
end
section
variable {P : Program} {w : World} {K : PySem.W.Frag} {mg : Str → Option Value} {base : Heap}
theorem ok_are_parts (D : Df K mg "are_parts" p_are_parts s_are_parts) (B : Bl mg) : Cal P w K mg base CX0 1 "are_parts" p_are_parts sp_are_parts := D.cal fun f fd F => by
  refine F.ok sc_are_parts (fun vs H Q E h => ?_) (fun cdv A outer s H vs Q E hr h => ?_)
  · obtain ⟨t, u, ah, ag, rfl, _⟩ := h
    rfl
  obtain ⟨t, u, ah, ag, rfl, et, eu, hl1, hl2, q1, q0⟩ := h
  refine ⟨_, pss_cons (ps_if (PW.pt (pw_or (pt_cmpR op_eq (pe_callB call_len_seq (by rfl) B.len PySem.boot_len (pa_cons (pv 1) pa_nil)) pe_int (nomark _)) (pw_or1 (pt_cmpR op_lt (pe_ix ix_tup (pv 1) pe_int (fun _ _ => rfl)) pe_int (nomark _))))) (pss_one (ps_ret pe_bl)) pss_nil)
    <| pss_one (ps_ret (pe_callB (cr_all rfl) (by rfl) B.all (by decide +kernel) (pa_cons
        (pe_lc (own := [("part", 2)]) (g := gName 2) (tt := tYes) rfl sc_are_parts.nd (pi_tup (pe_slice sl_tupA (pe_op op_catA (pv 0) (pv 1)) (po_some pe_int) po_none)) (blkOk_by (N := n_are_parts) (sc := defScope s_are_parts) (by decide +kernel))
          (fun _ _ _ _ _ => pg_name (i := 2) sc_are_parts.nd rfl (Or.inl rfl)) (fun _ _ _ _ _ => pts_nil) (fun _ _ _ _ _ => pe_cmpR op_ge (pv 2) pe_int (nomark _))) pa_nil))), ?_⟩
  refine ⟨_, rfl, u, _, rfl, .inr (SqT.of eu), rfl, _, rfl, ite2 (fun c => iteT (q0 (fun z => ?_) _ (Same.refl _))) (fun c => ?_)⟩
  · have h1 := V.int.inj (of_decide_eq_true c)
    rw [List.length_map] at h1
    exact z.1 (List.eq_nil_of_length_eq_zero (by omega))
  have hne : ag ≠ [] := fun z => by
    subst z
    exact c (decide_eq_true rfl)
  have g0 : atI (ag.map V.int) 0 = some (.int (ag.getD 0 0)) := by
    cases ag with
    | nil => exact absurd rfl hne
    | cons x l => exact atI_nat (j := 0) rfl
  refine ⟨_, rfl, u, _, 0, _, rfl, rfl, SqT.of eu, g0, _, _, rfl, rfl, _, rfl, ite2 (fun c2 => q0 (fun z => ?_) _ (Same.refl _)) (fun c2 => ?_)⟩
  · have h1 := of_decide_eq_true c2
    have := (round_iff.mp z).2.1
    omega
  have c3 : ¬ ag.getD 0 0 < 1 := of_decide_eq_false (Bool.eq_false_iff.mpr c2)
  -- all but the first
  have fin : ∀ (H1 : Hp) (v : Addr), Same H H1 → H1 v = some (tI (ah ++ ag)) → ∀ D : VK, (∀ b H2, Same H H2 → (b = true ↔ isRound ah ag) → D (.bl b) H2) → True := fun _ _ _ _ _ _ => trivial
  have hiff : (((ah ++ ag).drop 1).map fun y => decide (1 ≤ y)).all id = true ↔ isRound ah ag := by
    rw [List.all_map, List.all_eq_true]
    constructor
    · intro h
      exact round_iff.mpr ⟨hne, by omega, fun y hy => of_decide_eq_true (h y hy)⟩
    · intro h y hy
      exact decide_eq_true ((round_iff.mp h).2.2 y hy)
  have hcut : cutV ((ah ++ ag).map V.int) (some 1) none = ((ah ++ ag).drop 1).map V.int := by
    rw [List.map_drop]
    exact cutV_from (k := 1)
  have hpos : 0 < (ah ++ ag).length := by
    rw [List.length_append]
    have := List.length_pos_iff.mpr hne
    omega
  have tail : ∀ (H1 : Hp) (v : Addr), Same H H1 → H1 v = some (tI (ah ++ ag)) → ∀ (σ : L2.St) (Q2 : VK), True := fun _ _ _ _ _ _ => trivial
  have last : ∀ (b : Bool) (H2 : Hp), Same H H2 → (b = true ↔ isRound ah ag) → Q (.bl b) H2 := fun b H2 s2 hb => by
    cases b with
    | true => exact q1 (hb.mp rfl) _ s2
    | false => exact q0 (fun z => by have := hb.mpr z; cases this) _ s2
  refine ⟨_, rfl, _, rfl, t, u, _, _, rfl, rfl, SqT.of et, SqT.of eu, by rw [List.length_map, List.length_map]; exact small_le (by omega), fun z => ?_, fun _ z => absurd (List.map_eq_nil_iff.mp z) hne, fun _ _ v nv => ?_⟩
  · have hz : ah = [] := List.map_eq_nil_iff.mp z
    subst hz
    rw [List.nil_append] at hcut hpos hiff
    refine ⟨1, rfl, u, _, rfl, SqT.of eu, fun hw => absurd hw.1 ?_, fun _ p np => ?_⟩
    · rw [sIx_one, List.length_map]
      omega
    rw [hcut]
    refine ⟨p, rfl, ⟨_, SqT.of upd_same⟩, lc_mapT (xs := (ag.drop 1).map V.int) (ys := ((ag.drop 1).map fun y => decide (1 ≤ y)).map V.bl) (by simp only [List.length_map]) (by rw [List.length_map, List.length_drop]; exact small_of (by omega)) upd_same (fun x => rfl) (fun i x y H4 Q4 hx hy sx4 q4 => ?_) (fun L4 H4 sx4 hL4 nL4 => ?_)⟩
    · obtain ⟨n, hn, rfl⟩ := map_get hx
      have ey : y = .bl (decide (1 ≤ n)) := by
        rw [List.getElem?_map, List.getElem?_map, hn] at hy
        exact (Option.some.inj hy).symm
      subst ey
      exact ⟨_, rfl, _, _, rfl, rfl, q4 _ (Same.refl _)⟩
    exact ⟨L4, _, rfl, .of hL4, last _ _ ((same_upd np).trans sx4) hiff⟩
  · rw [← List.map_append]
    have s1 := same_upd nv (o := tI (ah ++ ag))
    refine ⟨1, rfl, v, _, rfl, SqT.of upd_same, fun hw => absurd hw.1 ?_, fun _ p np => ?_⟩
    · rw [sIx_one, List.length_map]
      omega
    rw [hcut]
    refine ⟨p, rfl, ⟨_, SqT.of upd_same⟩, lc_mapT (xs := ((ah ++ ag).drop 1).map V.int) (ys := (((ah ++ ag).drop 1).map fun y => decide (1 ≤ y)).map V.bl) (by simp only [List.length_map]) (by rw [List.length_map, List.length_drop, List.length_append]; exact small_of (by omega)) upd_same (fun x => rfl) (fun i x y H4 Q4 hx hy sx4 q4 => ?_) (fun L4 H4 sx4 hL4 nL4 => ?_)⟩
    · obtain ⟨n, hn, rfl⟩ := map_get hx
      have ey : y = .bl (decide (1 ≤ n)) := by
        rw [List.getElem?_map, List.getElem?_map, hn] at hy
        exact (Option.some.inj hy).symm
      subst ey
      exact ⟨_, rfl, _, _, rfl, rfl, q4 _ (Same.refl _)⟩
    exact ⟨L4, _, rfl, .of hL4, last _ _ ((s1.trans (same_upd np)).trans sx4) hiff⟩
end
section
variable {P : Program} {w : World} {K : PySem.W.Frag} {mg : Str → Option Value} {base : Heap} {C : Addr}
theorem ok_led_from (D : Df K mg "led_from" p_led_from s_led_from) (Cr : Cal P w K mg base (L2.CX P w) 3 "root_of" p_root_of (sp_root_of C)) : Cal P w K mg base CX0 4 "led_from" p_led_from sp_led_from := D.cal fun f fd F => by
  refine F.ok sc_led_from (fun vs H Q E h => ?_) (fun cdv A outer s H vs Q E hr h => ?_)
  · obtain ⟨t, r, p, rfl, _⟩ := h
    rfl
  obtain ⟨t, r, p, rfl, e, R, hb, hp, q⟩ := h
  refine ⟨_, pss_cons (ps_asg (pv 0) (pg_tup (by rfl) (pgs_cons (pg_name (i := 2) sc_led_from.nd rfl (.inl rfl)) (pgs_cons (pg_name (i := 3) sc_led_from.nd rfl (.inl rfl)) (pgs_cons (pg_name (i := 4) sc_led_from.nd rfl (.inl rfl)) (pgs_cons (pg_name (i := 5) sc_led_from.nd rfl (.inl rfl)) pgs_nil))))))
    <| pss_cons (ps_set (i := 6) sc_led_from.nd rfl (.inl rfl) (pv 5))
    <| pss_mid (ps_if (pt_cmpR op_gt (pv 4) pe_int (nomark _)) (pss_one (ps_set (i := 6) sc_led_from.nd rfl (.inl rfl) (pe_op op_sub pe_int (pv 5)))) pss_nil)
    <| pss_cons (ps_asg (pe_cal Cr hr (by decide) (by rfl) passL (pa_cons (pv 4) (pa_cons (pv 3) (pa_cons (pv 2) (pa_cons (pv 6) pa_nil))))) (pg_tup (by rfl) (pgs_cons (pg_name (i := 2) sc_led_from.nd rfl (.inl rfl)) (pgs_cons (pg_name (i := 3) sc_led_from.nd rfl (.inl rfl)) (pgs_cons (pg_name (i := 4) sc_led_from.nd rfl (.inl rfl)) (pgs_cons (pg_name (i := 5) sc_led_from.nd rfl (.inl rfl)) pgs_nil))))))
    <| pss_one (ps_ret (pe_cal Cr hr (by decide) (by rfl) passL (pa_cons (pv 2) (pa_cons (pe_op op_sub (pv 3) (pe_op op_mulW (pe_op op_mulW pe_int (pv 2)) (pv 1)))
        (pa_cons (pe_op op_add (pe_op op_sub (pe_op op_mulW (pe_op op_mulW (pv 2) (pv 1)) (pv 1)) (pe_op op_mulW (pv 3) (pv 1))) (pv 4)) (pa_cons (pv 5) pa_nil)))))), ?_⟩
  have RL := led_is R p
  obtain ⟨a1, a2, a3⟩ := tn0_abs hb
  have m0 : mvC r.a r.b r.c 0 = r.c := by unfold mvC; grind
  have b0 : r.b + 2 * r.a * 0 = r.b := by omega
  obtain ⟨t0, t1, t2, t3⟩ := tn_nf 0 R
  rw [m0, b0] at t0 t1 t2 t3
  have hS : tnS r.a r.b r.c r.s 0 = if 0 < r.c then 1 - r.s else r.s := by
    unfold tnS
    rw [m0]
  refine ⟨_, rfl, t, _, rfl, SqT.of e, rfl, _, _, rfl, _, _, rfl, _, _, rfl, _, _, rfl, rfl, ?_⟩
  refine ⟨_, rfl, ?_⟩
  refine ⟨fun σ H' => H' = H ∧ σ = [some (.ref t), some (.int p), some (.int r.a), some (.int r.b), some (.int r.c), some (.int r.s), some (.int (tnS r.a r.b r.c r.s 0))], ?_, ?_⟩
  · refine ⟨_, rfl, _, _, rfl, rfl, _, rfl, ite2 (fun k => ?_) (fun k => ?_)⟩
    · have k' : 0 < r.c := of_decide_eq_true k
      rw [hS, if_pos k']
      exact ⟨_, rfl, _, _, rfl, rfl, rfl, rfl⟩
    · have k' : ¬ 0 < r.c := of_decide_eq_false (Bool.eq_false_iff.mpr k)
      rw [hS, if_neg k']
      exact ⟨rfl, rfl⟩
  rintro σ H' ⟨rfl, rfl⟩
  refine ⟨_, rfl, _, rfl, _, rfl, _, rfl, r.c, r.b, r.a, _, rfl, ⟨nat_mono hb.c (by decide)⟩, ⟨nat_mono hb.b (by decide)⟩, ⟨nat_mono hb.a (by decide)⟩, fun z => absurd z t0, fun _ x nx => ?_⟩
  rw [t1, t2, t3]
  have s1 := same_upd nx (o := tI [tnA r.a r.b r.c 0, tnB r.a r.b r.c 0, tnC r.a r.b r.c 0, tnS r.a r.b r.c r.s 0])
  refine ⟨x, _, rfl, SqT.of upd_same, rfl, _, _, rfl, _, _, rfl, _, _, rfl, _, _, rfl, rfl, ?_⟩
  have x1 := nat_mul_lt a1 hp.lt
  have x2 := nat_mul_lt x1 hp.lt
  have x3 := nat_mul_lt a2 hp.lt
  have x4 := nat_mul_lt (nat_mul_lt (m := 2) (x := 2) (by decide) a1) hp.lt
  have nfl : ¬ NoRoot (led r p).a (led r p).b (led r p).c := not_noRoot RL.n
  obtain ⟨n1, n2, n3⟩ := nf_scale (k := 1) (by decide) RL.ha RL.g (by omega : (led r p).a = (led r p).a * 1) (by omega : (led r p).b = (led r p).b * 1) (by omega : (led r p).c = (led r p).c * 1)
  have sA : Sm (led r p).a := ⟨nat_mono a1 (by decide)⟩
  have sB : Sm (led r p).b := ⟨nat_mono (nat_sub_lt (m := 592) (nat_mono a2 (by decide)) (nat_mono x4 (by decide))) (by decide)⟩
  have sC : Sm (led r p).c := ⟨nat_mono (nat_add_lt (m := 891) (nat_sub_lt (m := 890) (nat_mono x2 (by decide)) (nat_mono x3 (by decide))) (nat_mono a3 (by decide))) (by decide)⟩
  refine ⟨_, rfl, _, rfl, _, rfl, _, _, rfl, rfl, mulW_of (m := 2) (by decide) a1, _, rfl, _, _, rfl, rfl, mulW_of (m := 292) (nat_mul_lt (m := 2) (by decide) a1) hp.lt, _, _, rfl, rfl, _, rfl, _, rfl, _, _, rfl, rfl, mulW_of a1 hp.lt, _, rfl, _, _, rfl, rfl, mulW_of x1 hp.lt, _, rfl, _, rfl, _, _, rfl, rfl, mulW_of a2 hp.lt, _, _, rfl, rfl, _, rfl, _, _, rfl, rfl, _, rfl,
    (led r p).a, (led r p).b, (led r p).c, (led r p).s, rfl, sA, sB, sC, fun z => absurd z nfl, fun _ y ny => ?_⟩
  rw [n1, n2, n3]
  exact q _ y (same_updO s1 (s1.free ny)) (s1.free ny) upd_same
end
section
variable {P : Program} {w : World} {K : PySem.W.Frag} {mg : Str → Option Value} {base : Heap} {C R : Addr}
theorem ok_root_by (D : Df K mg "root_by" p_root_by s_root_by) (B : Bl mg) (N : NoN K mg C R) (Ca : Cal P w K mg base CX0 1 "are_parts" p_are_parts sp_are_parts) (Cp : Cal P w K mg base CX0 1 "product" p_product sp_product) (Cr : Cal P w K mg base (L2.CX P w) 3 "root_of" p_root_of (sp_root_of C))
    (Cl : Cal P w K mg base CX0 4 "led_from" p_led_from sp_led_from) : Cal P w K mg base (L2.CX P w) 5 "root_by" p_root_by (sp_root_by C) := D.cal fun f fd F => by
  refine F.okX sc_root_by (fun vs H Q E h => ?_) (fun cdv A outer s H vs Q E hr h => ?_)
  · obtain ⟨t, u, ah, ag, rfl, _⟩ := h
    rfl
  obtain ⟨t, u, ah, ag, rfl, et, eu, hl1, hl2, q0, q⟩ := h
  refine ⟨_, pss_mid (ps_if (pt_not (pt_val (pe_cal Ca hr (by decide) (by rfl) pass0 (pa_cons (pv 0) (pa_cons (pv 1) pa_nil))))) (pss_one (ps_no N rfl (takes_of rfl rfl rfl rfl) (by rfl))) pss_nil)
    <| pss_cons (ps_asg (pe_cal Cp hr (by decide) (by rfl) pass0 (pa_cons (pv 1) pa_nil)) (pg_tup (by rfl) (pgs_cons (pg_name (i := 2) sc_root_by.nd rfl (.inl rfl)) (pgs_cons (pg_name (i := 3) sc_root_by.nd rfl (.inl rfl)) (pgs_cons (pg_name (i := 4) sc_root_by.nd rfl (.inl rfl)) (pgs_cons (pg_name (i := 5) sc_root_by.nd rfl (.inl rfl)) pgs_nil))))))
    <| pss_cons (ps_set (i := 6) sc_root_by.nd rfl (.inl rfl) (pe_cal Cr hr (by decide) (by rfl) passL (pa_cons (pv 4) (pa_cons (pe_op op_sub (pv 5) (pv 2)) (pa_cons (pe_op op_sub pe_int (pv 3)) (pa_cons pe_int pa_nil))))))
    <| pss_cons (ps_for (passes_of rfl) rfl (RT.pi_revA (by rfl) B.reversed (pv 0)) (pg_name (i := 7) sc_root_by.nd rfl (.inl rfl))
        (pss_one (ps_set (i := 6) sc_root_by.nd rfl (.inl rfl) (pe_cal Cl hr (by decide) (by rfl) pass0 (pa_cons (pv 6) (pa_cons (pv 7) pa_nil))))))
    <| pss_one (ps_ret (pv 6)), ?_⟩
  refine ⟨fun σ H' => σ = [some (.ref t), some (.ref u), none, none, none, none, none, none] ∧ Same H H' ∧ isRound ah ag, ?_, ?_⟩
  · refine ⟨_, rfl, _, rfl, t, u, ah, ag, rfl, et, eu, hl1, hl2, fun h H' s => ⟨true, rfl, iteF ⟨rfl, s, h⟩⟩, fun h H' s => ⟨false, rfl, iteT (q0 h _ s)⟩⟩
  rintro σ H1 ⟨rfl, s1, hR⟩
  obtain ⟨hM, hag, hB, hah, q⟩ := q hR
  have hMw : MB 900 (mt ag) := by
    have := hM ag.length
    rw [List.take_length] at this
    exact this
  refine ⟨_, rfl, u, ag, 900, rfl, s1 _ _ eu, by decide, hl2, hM, hag, fun H2 p s2 _ ep => ?_⟩
  refine ⟨p, _, rfl, SqT.of ep, rfl, _, _, rfl, _, _, rfl, _, _, rfl, _, _, rfl, rfl, ?_⟩
  have hno : ¬ NoRoot (mt ag).a (mt ag).b (mt ag).k := by
    cases ag with
    | nil => exact absurd rfl hR.1
    | cons x l => exact form_no (hR.2.1 x List.mem_cons_self) (mt_gd l fun y hy => hR.2.1 y (List.mem_cons_of_mem _ hy))
  have s3 := s1.trans s2
  refine ⟨_, rfl, _, rfl, _, rfl, _, _, rfl, rfl, _, rfl, _, _, rfl, rfl, (mt ag).a, (mt ag).b, (mt ag).k, 1, rfl, ⟨nat_mono hMw.r (by decide)⟩, ⟨nat_mono (nat_sub_lt hMw.s hMw.p) (by decide)⟩, ⟨nat_mono (show (0 - (mt ag).q).natAbs < 2 ^ 900 by have := hMw.q; omega) (by decide)⟩, fun z => absurd z hno, fun _ x nx => ?_⟩
  have s4 := same_updO (o := tI [nfA (mt ag).a (mt ag).b (mt ag).k, nfB (mt ag).a (mt ag).b (mt ag).k, nfC (mt ag).a (mt ag).b (mt ag).k, 1]) s3 (s3.free nx)
  refine ⟨_, rfl, t, ah.map V.int, rfl, .inr ⟨SqT.of (s4 _ _ et), RT.for_ItvT (fun i σ H' => ∃ (x : Addr) (y7 : Option V), σ = [some (.ref t), some (.ref u), some (.int (mt ag).p), some (.int (mt ag).q), some (.int (mt ag).r), some (.int (mt ag).s), some (.ref x), y7] ∧ Same H H' ∧ H x = none ∧ H' x = some (tI (rb (ah.drop (ah.length - i)) ag).l))
    ⟨x, none, rfl, s4, s3.free nx, ?_⟩ (fun i σ H' hP => ?_) (fun i z σ H' hi hz hP => ?_) (fun σ H' hP => ?_)⟩⟩
  · rw [Nat.sub_zero, List.drop_length]
    exact upd_same
  · obtain ⟨_, _, _, s5, _⟩ := hP
    exact SqT.of (s5 _ _ et)
  · obtain ⟨x, y7, rfl, s5, nx, ex⟩ := hP
    rw [List.length_map] at hi hz
    obtain ⟨v, hv, rfl⟩ := map_get hz
    have hstep : ah.drop (ah.length - (i + 1)) = v :: ah.drop (ah.length - i) := by
      obtain ⟨h1, h2⟩ := List.getElem?_eq_some_iff.mp hv
      rw [show ah.length - (i + 1) = ah.length - 1 - i by omega, List.drop_eq_getElem_cons h1, h2, show ah.length - 1 - i + 1 = ah.length - i by omega]
    have hRr : isRound (ah.drop (ah.length - i)) ag := by
      refine ⟨hR.1, hR.2.1, fun y hy => ?_⟩
      rw [List.drop_drop] at hy
      refine hR.2.2 y ?_
      have : ah.drop (ah.length - i + 1) = (ah.drop 1).drop (ah.length - i) := by rw [List.drop_drop, Nat.add_comm]
      rw [this] at hy
      exact List.mem_of_mem_drop hy
    refine ⟨_, rfl, _, rfl, x, rb (ah.drop (ah.length - i)) ag, v, rfl, ex, (rb_is _ _ hRr).1, hB _, hah v (List.mem_of_getElem? hv), fun H6 x2 s6 nx2 ex2 => ?_⟩
    refine ⟨x2, some (.int v), rfl, s5.trans s6, s5.free nx2, ?_⟩
    rw [hstep]
    exact ex2
  · obtain ⟨x, y7, rfl, s5, nx, ex⟩ := hP
    rw [List.length_map, Nat.sub_self, List.drop_zero] at ex
    exact ⟨_, rfl, q _ x s5 nx ex⟩
end
section
variable {P : Program} {w : World} {K : PySem.W.Frag} {mg : Str → Option Value} {base : Heap}
theorem ok_first_parts (D : Df K mg "first_parts" p_first_parts s_first_parts) (B : Bl mg) (Cp : Cal P w K mg base CX0 2 "part_of" p_part_of sp_part_of) (Ct : Cal P w K mg base CX0 4 "turned" p_turned sp_turned) : Cal P w K mg base CX0 5 "first_parts" p_first_parts sp_first_partsR := D.cal fun f fd F => by
  refine F.ok sc_first_parts (fun vs H Q E h => ?_) (fun cdv A outer s H vs Q E hr h => ?_)
  · obtain ⟨t, r, n, rfl, _⟩ := h
    rfl
  obtain ⟨t, r, n, rfl, e, R, hn, hsm, q⟩ := h
  refine ⟨_, pss_cons (ps_if (pt_cmpR op_eq (pe_callB call_len_seq (by rfl) B.len PySem.boot_len (pa_cons (pv 0) pa_nil)) pe_int (nomark _)) pss_never pss_nil)
    <| pss_cons (ps_set (i := 2) sc_first_parts.nd rfl (.inl rfl) (pe_lst pa_nil))
    <| pss_cons (ps_for PassesOwn.never rfl (pi_range1 (by rfl) B.range (pa_cons (pv 1) pa_nil)) (pg_name (i := 3) sc_first_parts.nd rfl (.inl rfl))
        (pss_cons (ps_expr (pe_bm PySem.F.plainAttrs_list PySem.F.slot_list_append PySem.F.type_list_append mt_append (pv 2) (pa_cons (pe_cal Cp hr (by decide) (by rfl) pass0 (pa_cons (pv 0) pa_nil)) pa_nil)))
        <| pss_one (ps_set (i := 0) sc_first_parts.nd rfl (.inl rfl) (pe_cal Ct hr (by decide) (by rfl) pass0 (pa_cons (pv 0) (pa_cons (pe_ix ix_list (pv 2) (pe_un un_neg pe_int) (fun _ _ => rfl)) pa_nil))))))
    <| pss_one (ps_ret (pe_callTy call_tuple_of (by rfl) B.tuple (by decide +kernel) (pa_cons (pv 2) pa_nil))), ?_⟩
  refine ⟨_, rfl, t, _, rfl, .inr (SqT.of e), rfl, false, rfl, iteF ?_⟩
  refine ⟨Nat.zero_le _, fun o no => ?_⟩
  have s0 := same_upd no (o := HO.lst [])
  refine ⟨_, rfl, n, rfl, by omega, by omega, for_range (fun k σ H' => ∃ (x : Addr) (y3 : Option V), σ = [some (.ref x), some (.int n), some (.ref o), y3] ∧ Same H H' ∧ H' x = some (tI (orb r k).l) ∧ H' o = some (lI (prts r 0 k)))
    ⟨t, none, rfl, s0, s0 _ _ e, upd_same⟩ (fun k σ H' hk hP => ?_) (fun σ H' hP => ?_)⟩
  · obtain ⟨x, y3, rfl, s1, ex, eo⟩ := hP
    have hkn : k < n := by omega
    have hxo : x ≠ o := fun z => by
      subst z
      rw [ex] at eo
      cases eo
    obtain ⟨z1, z2, z3, z4⟩ := hsm k hkn
    have Rk : IsR (orb r k).a (orb r k).b (orb r k).c (orb r k).s := orb_is R k
    have hlen : (prts r 0 k).length = k := prts_len r 0 k
    refine ⟨_, rfl, .inl ⟨rfl, _, SqL.of eo⟩, _, rfl, x, rfl, .inr ⟨(orb r k).a, (orb r k).b, (orb r k).c, (orb r k).s, ex, Rk.ha, Int.le_of_lt Rk.n.pos, z1.sm, z2.sm, z3.sm, o, _, _, rfl, rfl, eo, by rw [List.length_map, hlen]; exact small_of (by omega), ?_⟩⟩
    have hpp : (prts r 0 k).map V.int ++ [V.int (partR (orb r k).a (orb r k).b (orb r k).c (orb r k).s)] = (prts r 0 (k + 1)).map V.int := by
      unfold prts
      rw [List.range'_concat, List.map_append, List.map_append, Nat.one_mul, Nat.zero_add]
      rfl
    rw [hpp]
    have s2 := same_updO (o := HO.lst ((prts r 0 (k + 1)).map V.int)) s1 no
    have ex2 : (upd H' o (HO.lst ((prts r 0 (k + 1)).map V.int))) x = _ := (upd_ne hxo).trans ex
    have eo2 : (upd H' o (HO.lst ((prts r 0 (k + 1)).map V.int))) o = _ := upd_same
    generalize upd H' o (HO.lst ((prts r 0 (k + 1)).map V.int)) = H2 at *
    have hl2 : (prts r 0 (k + 1)).length = k + 1 := prts_len r 0 (k + 1)
    have glast : atI ((prts r 0 (k + 1)).map V.int) (-1) = some (.int (orb r k).prt) := atI_neg (k := 1) (by decide) (by rw [List.length_map, hl2]; omega) (by
      rw [List.length_map, hl2, Nat.add_sub_cancel]
      have := prts_get r (i := 0) (show k < k + 1 by omega)
      rw [Nat.zero_add] at this
      exact get_map this)
    refine ⟨_, rfl, _, rfl, 1, rfl, o, _, -1, _, rfl, rfl, SqL.of eo2, glast, x, (orb r k).a, (orb r k).b, (orb r k).c, (orb r k).s, (orb r k).prt, rfl, ex2, Rk, z1, z2, z3, z4, fun H4 p s4 _ ep => ?_⟩
    exact ⟨p, _, rfl, s2.trans s4, ep, s4 _ _ eo2⟩
  · obtain ⟨x, y3, rfl, s1, ex, eo⟩ := hP
    exact ⟨_, rfl, o, _, rfl, .inl ⟨SqL.of eo, fun t2 nt2 => q _ t2 (same_updO s1 (s1.free nt2)) (s1.free nt2) upd_same⟩⟩
end
section
variable {P : Program} {w : World} {K : PySem.W.Frag} {mg : Str → Option Value} {base : Heap}
theorem ok__law_cell (D : Df K mg "_law_cell" p__law_cell s__law_cell) (B : Bl mg) : Cal P w K mg base CX0 1 "_law_cell" p__law_cell (sp_cell K) := D.cal fun f fd F => by
  refine F.ok sc__law_cell (fun vs H Q E h => ?_) (fun cdv A outer s H vs Q E hr h => ?_)
  · obtain ⟨a, ns, k, rfl, _⟩ := h
    rfl
  obtain ⟨a, ns, k, rfl, hS, hk, q⟩ := h
  refine ⟨_, pss_cons (ps_if (pt_cmpR op_lt (pv 1) (pe_callB call_len_seq (by rfl) B.len PySem.boot_len (pa_cons (pv 0) pa_nil)) (nomark _)) (pss_one (ps_ret (pe_ix ix_list (pv 0) (pv 1) (fun _ _ => rfl)))) pss_nil)
    (pss_one (ps_ret pe_int)), ?_⟩
  refine ⟨_, rfl, _, rfl, a, _, rfl, .inl hS, _, _, rfl, rfl, _, rfl, ite2 (fun c => ?_) (fun c => ?_)⟩
  · have c' : (k : Int) < (((ns.map V.int).length : Nat) : Int) := of_decide_eq_true c
    rw [List.length_map] at c'
    have hl : k < ns.length := by omega
    refine ⟨_, rfl, _, rfl, a, _, _, _, rfl, rfl, hS, atI_nat (j := k) (v := .int (cellOf ns k)) ?_, q⟩
    rw [List.getElem?_map, List.getElem?_eq_getElem hl]
    show some (V.int ns[k]) = some (V.int (ns.getD k 0))
    rw [List.getD_eq_getElem?_getD, List.getElem?_eq_getElem hl]
    rfl
  · have c' : ¬ (k : Int) < (((ns.map V.int).length : Nat) : Int) := of_decide_eq_false (Bool.eq_false_iff.mpr c)
    rw [List.length_map] at c'
    have e : cellOf ns k = 0 := by
      unfold cellOf
      rw [List.getD_eq_getElem?_getD, List.getElem?_eq_none (by omega)]
      rfl
    rw [e] at q
    exact q
end
section
variable {P : Program} {w : World} {K : PySem.W.Frag} {mg : Str → Option Value} {base : Heap}
theorem ok__law_mix (D : Df K mg "_law_mix" p__law_mix s__law_mix) : Cal P w K mg base CX0 1 "_law_mix" p__law_mix sp_mix := D.cal fun f fd F => by
  refine F.ok sc__law_mix (fun vs H Q E h => ?_) (fun cdv A outer s H vs Q E hr h => ?_)
  · obtain ⟨c, p, m, rfl, _⟩ := h
    rfl
  obtain ⟨c, p, m, rfl, hp, hm, q⟩ := h
  refine ⟨_, pss_one (ps_ret (pe_op op_mod (pe_op op_mod (pe_op op_mul (pv 0) pe_int) (pv 1)) (pv 2))), ?_⟩
  exact ⟨_, rfl, _, _, rfl, rfl, .inr (by decide), _, rfl, _, _, rfl, rfl, hp, _, rfl, _, _, rfl, rfl, hm, q⟩
end
section
variable {P : Program} {w : World} {K : PySem.W.Frag} {mg : Str → Option Value} {base : Heap}
theorem ok__law_whole (D : Df K mg "_law_whole" p__law_whole s__law_whole) (B : Bl mg) : Cal P w K mg base CX0 1 "_law_whole" p__law_whole sp_whole := D.cal fun f fd F => by
  refine F.ok sc__law_whole (fun vs H Q E h => ?_) (fun cdv A outer s H vs Q E hr h => ?_)
  · obtain ⟨z, rfl, _⟩ := h
    rfl
  obtain ⟨z, rfl, q⟩ := h
  refine ⟨_, pss_one (ps_ret (pe_and (pe_callB call_isi (by rfl) B.isinstance PyProof.Rows.boot_isinstance (pa_cons (pv 0) (pa_cons (pe_bltn (v := .ty "int") (by rfl) B.int (by decide +kernel) rfl) pa_nil)))
    (pe_one (pe_not (pe_callB call_isi (by rfl) B.isinstance PyProof.Rows.boot_isinstance (pa_cons (pv 0) (pa_cons (pe_bltn (v := .ty "bool") (by rfl) B.bool (by decide +kernel) rfl) pa_nil))))))), ?_⟩
  refine ⟨_, rfl, .int z, .ty "int", _, _, true, rfl, .ty "int", .base (.int z), isT_self, true, rfl, iteT ?_⟩
  exact ⟨_, rfl, .int z, .ty "bool", _, _, false, rfl, .ty "bool", .base (.int z), kit_ty (by decide +kernel), false, rfl, q⟩
end
section
variable {P : Program} {w : World} {K : PySem.W.Frag} {mg : Str → Option Value} {base : Heap}
theorem ok__law_divisor (D : Df K mg "_law_divisor" p__law_divisor s__law_divisor) (B : Bl mg) : Cal P w K mg base CX0 1 "_law_divisor" p__law_divisor sp_divisor := D.cal fun f fd F => by
  refine F.ok sc__law_divisor (fun vs H Q E h => ?_) (fun cdv A outer s H vs Q E hr h => ?_)
  · obtain ⟨a, b, rfl, _⟩ := h
    rfl
  obtain ⟨a, b, rfl, q⟩ := h
  refine ⟨_, pss_cons (ps_set (i := 0) sc__law_divisor.nd rfl (.inl rfl) (pe_callB call_abs (by rfl) B.abs (by decide +kernel) (pa_cons (pv 0) pa_nil)))
    (pss_cons (ps_set (i := 1) sc__law_divisor.nd rfl (.inl rfl) (pe_callB call_abs (by rfl) B.abs (by decide +kernel) (pa_cons (pv 1) pa_nil)))
    (pss_cons (ps_while PassesOwn.never (pt_cmpR op_gt (pv 1) pe_int (nomark _)) (pss_one (ps_par (i := 0) (j := 1) (by rfl) sc__law_divisor.nd rfl rfl (by decide) rfl rfl (pa_cons (pv 1) (pa_cons (pe_op op_mod (pv 0) (pv 1)) pa_nil)) (by rfl))))
    (pss_one (ps_ret (pv 0))))), ?_⟩
  refine ⟨_, rfl, a, rfl, _, rfl, b, rfl, ?_⟩
  refine ⟨fun m σ H' => ∃ x y : Int, σ = [some (.int x), some (.int y)] ∧ 0 ≤ x ∧ 0 ≤ y ∧ Int.gcd x y = Int.gcd a b ∧ H' = H ∧ m = y.toNat, ⟨_, _, _, rfl, by split <;> omega, by split <;> omega, gcd_abs a b, rfl, rfl⟩, ?_⟩
  rintro m σ H' ⟨x, y, rfl, hx, hy, hg, rfl, rfl⟩
  refine ⟨_, rfl, _, _, rfl, rfl, _, rfl, ite2 (fun c => ?_) (fun c => ?_)⟩
  · have c' : 0 < y := of_decide_eq_true c
    have h1 := Int.emod_nonneg x (show y ≠ 0 by omega)
    have h2 := Int.emod_lt_of_pos x c'
    refine ⟨fun σ' H2 => σ' = [some (.int y), some (.int (x % y))] ∧ H2 = H', fun σ' H2 ⟨e1, e2⟩ => ⟨(x % y).toNat, by omega, y, x % y, e1, hy, h1, by rw [gcd_step hx c', hg], e2, rfl⟩, ?_⟩
    exact ⟨_, rfl, _, rfl, _, rfl, _, _, rfl, rfl, c', _, _, rfl, rfl, rfl⟩
  · have c' : ¬ 0 < y := of_decide_eq_false (Bool.eq_false_iff.mpr c)
    refine ⟨_, rfl, ?_⟩
    have e : x = dv a b := by
      rw [gcd_end hx c' hy, hg]
      rfl
    rw [e]
    exact q
end
section
variable {P : Program} {w : World} {K : PySem.W.Frag} {mg : Str → Option Value} {base : Heap}
theorem ok__law_square (D : Df K mg "_law_square" p__law_square s__law_square) : Cal P w K mg base CX0 1 "_law_square" p__law_square sp_least_square := D.cal fun f fd F => by
  refine F.ok sc__law_square (fun vs H Q E h => ?_) (fun cdv A outer s H vs Q E hr h => ?_)
  · obtain ⟨n, rfl, _⟩ := h
    rfl
  obtain ⟨n, rfl, h0, hb, q⟩ := h
  refine ⟨_, pss_cons (ps_set (i := 1) sc__law_square.nd rfl (.inl rfl) pe_int)
    <| pss_cons (ps_set (i := 2) sc__law_square.nd rfl (.inl rfl) (pe_op op_add (pv 0) pe_int))
    <| pss_cons (ps_while PassesOwn.never (pt_cmpR op_gt (pe_op op_sub (pv 2) (pv 1)) pe_int (nomark _)) (pss_cons (ps_set (i := 3) sc__law_square.nd rfl (.inl rfl) (pe_op op_fdiv (pe_op op_add (pv 1) (pv 2)) pe_int))
      (pss_one (ps_if (pt_cmpR op_le (pe_op op_mulW (pv 3) (pv 3)) (pv 0) (nomark _)) (pss_one (ps_set (i := 1) sc__law_square.nd rfl (.inl rfl) (pv 3))) (pss_one (ps_set (i := 2) sc__law_square.nd rfl (.inl rfl) (pv 3)))))))
    <| pss_one (ps_ret (pv 1)), ?_⟩
  refine ⟨_, rfl, _, _, rfl, rfl, ?_⟩
  refine ⟨fun m σ H' => ∃ (lo hi : Int) (y : Option V), σ = [some (.int n), some (.int lo), some (.int hi), y] ∧ 0 ≤ lo ∧ lo < hi ∧ hi ≤ n + 1 ∧ lo * lo ≤ n ∧ n < hi * hi ∧ H' = H ∧ m = (hi - lo).toNat, ⟨_, 0, n + 1, none, rfl, by omega, by omega, by omega, by omega, ?_, rfl, rfl⟩, ?_⟩
  · have : (n + 1) * (n + 1) = n * n + 2 * n + 1 := by grind
    have := sqn n
    omega
  rintro m σ H' ⟨lo, hi, y, rfl, h1, h2, h3, h4, h5, rfl, rfl⟩
  refine ⟨_, rfl, _, rfl, _, _, rfl, rfl, _, _, rfl, rfl, _, rfl, ite2 (fun c => ?_) (fun c => ?_)⟩
  · have c' : 1 < hi - lo := of_decide_eq_true c
    refine ⟨fun σ' H2 => (∃ (lo' hi' : Int) (y : Option V), σ' = [some (.int n), some (.int lo'), some (.int hi'), y] ∧ 0 ≤ lo' ∧ lo' < hi' ∧ hi' ≤ n + 1 ∧ lo' * lo' ≤ n ∧ n < hi' * hi' ∧ hi' - lo' < hi - lo) ∧ H2 = H', fun σ' H2 ⟨⟨lo', hi', y', e1, k1, k2, k3, k4, k5, k6⟩, e2⟩ => ⟨_, ?_, lo', hi', y', e1, k1, k2, k3, k4, k5, e2, rfl⟩, ?_⟩
    · omega
    have hh : Big ((lo + hi) / 2) := ⟨Nat.lt_of_le_of_lt (show ((lo + hi) / 2).natAbs ≤ n.natAbs by omega) hb.lt⟩
    refine ⟨_, rfl, _, rfl, _, _, rfl, rfl, _, _, rfl, rfl, ⟨by decide, by decide⟩, ?_⟩
    dsimp only
    have g1 : lo < (lo + hi) / 2 := by omega
    have g2 : (lo + hi) / 2 < hi := by omega
    generalize (lo + hi) / 2 = hf at *
    refine ⟨_, rfl, _, rfl, _, _, rfl, rfl, hh.mul hh, _, rfl, _, _, rfl, rfl, _, rfl, ite2 (fun c2 => ?_) (fun c2 => ?_)⟩
    · have c3 : hf * hf ≤ n := of_decide_eq_true c2
      exact ⟨_, rfl, ⟨hf, hi, _, rfl, by omega, g2, h3, c3, h5, by omega⟩, rfl⟩
    · have c3 : ¬ hf * hf ≤ n := of_decide_eq_false (Bool.eq_false_iff.mpr c2)
      exact ⟨_, rfl, ⟨lo, hf, _, rfl, h1, g1, by omega, h4, by omega, by omega⟩, rfl⟩
  · have c' : ¬ 1 < hi - lo := of_decide_eq_false (Bool.eq_false_iff.mpr c)
    have e : rt n = lo := rt_unique h1 h4 (by rw [show lo + 1 = hi by omega]; exact h5)
    rw [e] at q
    exact ⟨_, rfl, q⟩
end
section
variable {P : Program} {w : World} {K : PySem.W.Frag} {mg : Str → Option Value} {base : Heap}
theorem ok__law_root (D : Df K mg "_law_root" p__law_root s__law_root) (B : Bl mg) (Cm : Cal P w K mg base CX0 1 "_law_mix" p__law_mix sp_mix) (Cq : Cal P w K mg base CX0 1 "_law_square" p__law_square sp_least_square) (Cd : Cal P w K mg base CX0 1 "_law_divisor" p__law_divisor sp_divisor) : Cal P w K mg base CX0 2 "_law_root" p__law_root sp_root := D.cal fun f fd F => by
  refine F.ok sc__law_root (fun vs H Q E h => ?_) (fun cdv A outer s H vs Q E hr h => ?_)
  · obtain ⟨c, o, w, rfl, _⟩ := h
    rfl
  obtain ⟨c, o, wd, rfl, hw0, hw1, q⟩ := h
  refine ⟨_, pss_cons (ps_for PassesOwn.never rfl (pi_range1 (by rfl) B.range (pa_cons pe_int pa_nil)) (pg_name (i := 3) sc__law_root.nd rfl (.inl rfl))
      (pss_cons (ps_set (i := 4) sc__law_root.nd rfl (.inl rfl) (pe_op op_add pe_int (pe_cal Cm hr (by decide) (by rfl) pass0 (pa_cons (pe_op op_add (pv 0) (pv 3)) (pa_cons pe_int (pa_cons (pv 2) pa_nil))))))
      <| pss_cons (ps_set (i := 5) sc__law_root.nd rfl (.inl rfl) (pe_op op_sub (pe_cal Cm hr (by decide) (by rfl) pass0 (pa_cons (pe_op op_add (pv 1) (pv 3)) (pa_cons pe_int (pa_cons (pe_op op_add (pe_op op_mul pe_int (pv 2)) pe_int) pa_nil)))) (pv 2)))
      <| pss_cons (ps_set (i := 6) sc__law_root.nd rfl (.inl rfl) (pe_op op_sub (pe_cal Cm hr (by decide) (by rfl) pass0 (pa_cons (pe_op op_add (pe_op op_add (pv 0) (pv 1)) (pe_op op_mul pe_int (pv 3))) (pa_cons pe_int (pa_cons (pe_op op_add (pe_op op_mul pe_int (pv 2)) pe_int) pa_nil)))) (pv 2)))
      <| pss_cons (ps_set (i := 7) sc__law_root.nd rfl (.inl rfl) (pe_op op_sub (pe_op op_mul (pv 5) (pv 5)) (pe_op op_mul (pe_op op_mul pe_int (pv 4)) (pv 6))))
      <| pss_one (ps_if (PW.pt (pw_and (pt_cmpR op_gt (pv 7) pe_int (nomark _)) (pw_and1 (pt_cmpR op_ne (pe_op op_mul (pe_cal Cq hr (by decide) (by rfl) pass0 (pa_cons (pv 7) pa_nil)) (pe_cal Cq hr (by decide) (by rfl) pass0 (pa_cons (pv 7) pa_nil))) (pv 7) (nomark _)))))
          (pss_cons (ps_set (i := 8) sc__law_root.nd rfl (.inl rfl) (pe_cal Cd hr (by decide) (by rfl) pass0 (pa_cons (pe_cal Cd hr (by decide) (by rfl) pass0 (pa_cons (pv 4) (pa_cons (pv 5) pa_nil))) (pa_cons (pv 6) pa_nil))))
          <| pss_one (ps_ret (pe_tup (pa_cons (pe_op op_fdivWN (pv 4) (pv 8)) (pa_cons (pe_op op_fdivWN (pv 5) (pv 8)) (pa_cons (pe_op op_fdivWN (pv 6) (pv 8)) (pa_cons (pe_op op_mod (pe_op op_add (pv 0) (pv 1)) pe_int) pa_nil))))))) pss_nil)))
    <| pss_one (ps_ret (pe_tup (pa_cons pe_int (pa_cons pe_int (pa_cons (pe_un un_neg pe_int) (pa_cons (pe_op op_mod (pe_op op_add (pv 0) (pv 1)) pe_int) pa_nil)))))), ?_⟩
  have hs0 := Int.emod_nonneg (c + o) (show (2 : Int) ≠ 0 by decide)
  have hs1 := Int.emod_lt_of_pos (c + o) (show (0 : Int) < 2 by decide)
  have hs : (c + o) % 2 = 0 ∨ (c + o) % 2 = 1 := by omega
  refine ⟨8, rfl, by decide, by decide, for_range (fun i σ H' => H' = H ∧ ∃ y3 y4 y5 y6 y7 y8, σ = [some (.int c), some (.int o), some (.int wd), y3, y4, y5, y6, y7, y8]) ⟨rfl, _, _, _, _, _, _, rfl⟩ (fun i σ H' hi hP => ?_) (fun σ H' hP => ?_)⟩
  · obtain ⟨rfl, y3, y4, y5, y6, y7, y8, rfl⟩ := hP
    have r1 := mix_rng (c := c + (0 + (i : Int))) (p := 99991) (m := wd) (by omega)
    have r2 := mix_rng (c := o + (0 + (i : Int))) (p := 99989) (m := 2 * wd + 1) (by omega)
    have r3 := mix_rng (c := c + o + 3 * (0 + (i : Int))) (p := 99971) (m := 2 * wd + 1) (by omega)
    refine ⟨_, rfl, _, rfl, _, _, rfl, rfl, _, rfl, _, 99991, wd, rfl, by decide, by omega, _, _, rfl, rfl, ?_⟩
    refine ⟨_, rfl, _, rfl, _, _, rfl, rfl, _, rfl, _, _, rfl, rfl, .inl (by decide), _, _, rfl, rfl, _, 99989, 2 * wd + 1, rfl, by decide, by omega, _, rfl, _, _, rfl, rfl, ?_⟩
    refine ⟨_, rfl, _, rfl, _, _, rfl, rfl, _, rfl, _, _, rfl, rfl, .inl (by decide), _, _, rfl, rfl, _, rfl, _, _, rfl, rfl, .inl (by decide), _, _, rfl, rfl, _, 99971, 2 * wd + 1, rfl, by decide, by omega, _, rfl, _, _, rfl, rfl, ?_⟩
    dsimp only
    generalize hA : (1 : Int) + mix (c + (0 + (i : Int))) 99991 wd = a
    generalize hB : mix (o + (0 + (i : Int))) 99989 (2 * wd + 1) - wd = b
    generalize hC : mix (c + o + 3 * (0 + (i : Int))) 99971 (2 * wd + 1) - wd = c'
    have ba : 1 ≤ a ∧ a ≤ wd := by omega
    have bb : -wd ≤ b ∧ b ≤ wd := by omega
    have bc : -wd ≤ c' ∧ c' ≤ wd := by omega
    have hd : b * b - 4 * a * c' = ht a b c' := rfl
    have sa : Sm a := sm_of (by omega)
    have sb : Sm b := sm_of (by omega)
    have sc : Sm c' := sm_of (by omega)
    refine ⟨_, rfl, _, rfl, _, _, rfl, rfl, .inl (by omega), _, rfl, _, _, rfl, rfl, .inl (by decide), _, rfl, _, _, rfl, rfl, .inr (by omega), _, _, rfl, rfl, ?_⟩
    dsimp only
    rw [hd]
    have hdb : (ht a b c').natAbs < 2 ^ 30 := by
      unfold ht
      have h1 := Int.natAbs_mul b b
      have h2 := Int.natAbs_mul (4 * a) c'
      have h3 : b.natAbs * b.natAbs ≤ 1000 * 1000 := Nat.mul_le_mul (by omega) (by omega)
      have h4 : (4 * a).natAbs * c'.natAbs ≤ 4000 * 1000 := Nat.mul_le_mul (by omega) (by omega)
      have h5 := Int.natAbs_sub_le (b * b) (4 * a * c')
      omega
    refine ⟨_, rfl, _, _, rfl, rfl, _, rfl, ite2 (fun k => ?_) (fun k => ?_)⟩
    rotate_left
    · exact ⟨rfl, _, _, _, _, _, _, rfl⟩
    have k0 : 0 < ht a b c' := of_decide_eq_true k
    have hr0 := (rt_spec (Int.le_of_lt k0)).1
    have hr1 := rt_le (Int.le_of_lt k0)
    refine ⟨_, rfl, _, rfl, by omega, big_of (by omega), _, rfl, _, rfl, by omega, big_of (by omega), _, _, rfl, rfl, .inl (by omega), _, rfl, rfl, _, rfl, ite2 (fun k2 => ?_) (fun k2 => ?_)⟩
    rotate_left
    · exact ⟨rfl, _, _, _, _, _, _, rfl⟩
    have k3 : ¬ NoRoot a b c' := by
      rintro (h | h | h)
      · omega
      · omega
      · have h2 : rt (ht a b c') * rt (ht a b c') = ht a b c' := of_decide_eq_true h
        rw [Bool.not_eq_true', decide_eq_false_iff_not] at k2
        exact k2 (congrArg V.int h2)
    have hg := dv3_pos (a := a) (b := b) (c := c') (by omega)
    have hgb : dv (dv a b) c' ≠ 0 ∧ (dv (dv a b) c').natAbs.log2 < 9000 := by
      refine ⟨by omega, Nat.lt_of_lt_of_le (PySem.Flt.log2_lt_of (by decide) (Nat.lt_of_le_of_lt ?_ sa.lt)) (by decide : 1000 ≤ 9000)⟩
      obtain ⟨k, hk⟩ := (dv3_dvd a b c').1
      conv => rhs; rw [hk]
      rw [Int.natAbs_mul]
      refine Nat.le_mul_of_pos_right _ ?_
      have : k ≠ 0 := fun z => by
        rw [z, Int.mul_zero] at hk
        omega
      omega
    refine ⟨_, rfl, _, rfl, a, b, rfl, _, rfl, _, c', rfl, ?_⟩
    refine ⟨_, rfl, _, rfl, _, _, rfl, rfl, hgb, _, rfl, _, rfl, _, _, rfl, rfl, hgb, _, rfl, _, rfl, _, _, rfl, rfl, hgb, _, rfl, _, rfl, _, _, rfl, rfl, _, _, rfl, rfl, (by show (0 : Int) < 2; decide), len4, fun p np => ?_⟩
    have hR := nf_isR k3 hs
    obtain ⟨ab1, ab2, ab3⟩ := nf_abs (b := b) (c := c') (show a ≠ 0 by omega)
    have eA : a.fdiv (dv (dv a b) c') = nfA a b c' := by
      unfold nfA
      rw [if_neg (by omega), Int.fdiv_eq_ediv_of_nonneg a (by omega)]
    have eB : b.fdiv (dv (dv a b) c') = nfB a b c' := by
      unfold nfB
      rw [if_neg (by omega), Int.fdiv_eq_ediv_of_nonneg b (by omega)]
    have eC : c'.fdiv (dv (dv a b) c') = nfC a b c' := by
      unfold nfC
      rw [if_neg (by omega), Int.fdiv_eq_ediv_of_nonneg c' (by omega)]
    dsimp only
    rw [eA, eB, eC]
    have := hR.ha
    exact q _ _ _ _ _ p hR (by omega) (by omega) (by omega) (by omega) (by omega) (same_upd np) np upd_same
  · obtain ⟨rfl, y3, y4, y5, y6, y7, y8, rfl⟩ := hP
    refine ⟨2, rfl, _, rfl, _, rfl, _, _, rfl, rfl, _, _, rfl, rfl, (by show (0 : Int) < 2; decide), len4, fun p np => ?_⟩
    have hR : IsR 1 0 (-2) ((c + o) % 2) := ⟨by decide, hs, by decide, ⟨by decide, by decide +kernel⟩⟩
    exact q _ _ _ _ _ p hR (by omega) (by omega) (by omega) (by omega) (by omega) (same_upd np) np upd_same
end
section
variable {P : Program} {w : World} {K : PySem.W.Frag} {mg : Str → Option Value} {base : Heap}
theorem ok__law_parts (D : Df K mg "_law_parts" p__law_parts s__law_parts) (B : Bl mg) (Cp : Cal P w K mg base CX0 2 "part_of" p_part_of sp_part_of) (Ct : Cal P w K mg base CX0 4 "turned" p_turned sp_turned) : Cal P w K mg base CX0 5 "_law_parts" p__law_parts sp_parts := D.cal fun f fd F => by
  refine F.ok sc__law_parts (fun vs H Q E h => ?_) (fun cdv A outer s H vs Q E hr h => ?_)
  · obtain ⟨t, r, n, rfl, _⟩ := h
    rfl
  obtain ⟨t, r, n, rfl, e, R, hn, hsm, q⟩ := h
  refine ⟨_, pss_cons (ps_set (i := 2) sc__law_parts.nd rfl (.inl rfl) (pe_lst pa_nil))
    <| pss_cons (ps_for PassesOwn.never rfl (pi_range1 (by rfl) B.range (pa_cons (pv 1) pa_nil)) (pg_name (i := 3) sc__law_parts.nd rfl (.inl rfl))
        (pss_cons (ps_expr (pe_bm PySem.F.plainAttrs_list PySem.F.slot_list_append PySem.F.type_list_append mt_append (pv 2) (pa_cons (pe_cal Cp hr (by decide) (by rfl) pass0 (pa_cons (pv 0) pa_nil)) pa_nil)))
        <| pss_one (ps_set (i := 0) sc__law_parts.nd rfl (.inl rfl) (pe_cal Ct hr (by decide) (by rfl) pass0 (pa_cons (pv 0) (pa_cons (pe_ix ix_list (pv 2) (pe_un un_neg pe_int) (fun _ _ => rfl)) pa_nil))))))
    <| pss_one (ps_ret (pv 2)), ?_⟩
  refine ⟨Nat.zero_le _, fun o no => ?_⟩
  have s0 := same_upd no (o := HO.lst [])
  refine ⟨_, rfl, n, rfl, by omega, by omega, for_range (fun k σ H' => ∃ (x : Addr) (y3 : Option V), σ = [some (.ref x), some (.int n), some (.ref o), y3] ∧ Same H H' ∧ H' x = some (tI (orb r k).l) ∧ H' o = some (lI (prts r 0 k)))
    ⟨t, none, rfl, s0, s0 _ _ e, upd_same⟩ (fun k σ H' hk hP => ?_) (fun σ H' hP => ?_)⟩
  · obtain ⟨x, y3, rfl, s1, ex, eo⟩ := hP
    have hkn : k < n := by omega
    have hxo : x ≠ o := fun z => by
      subst z
      rw [ex] at eo
      cases eo
    obtain ⟨z1, z2, z3, z4⟩ := hsm k hkn
    have Rk : IsR (orb r k).a (orb r k).b (orb r k).c (orb r k).s := orb_is R k
    have hlen : (prts r 0 k).length = k := prts_len r 0 k
    refine ⟨_, rfl, .inl ⟨rfl, _, SqL.of eo⟩, _, rfl, x, rfl, .inr ⟨(orb r k).a, (orb r k).b, (orb r k).c, (orb r k).s, ex, Rk.ha, Int.le_of_lt Rk.n.pos, z1.sm, z2.sm, z3.sm, o, _, _, rfl, rfl, eo, by rw [List.length_map, hlen]; exact small_of (by omega), ?_⟩⟩
    have hpp : (prts r 0 k).map V.int ++ [V.int (partR (orb r k).a (orb r k).b (orb r k).c (orb r k).s)] = (prts r 0 (k + 1)).map V.int := by
      unfold prts
      rw [List.range'_concat, List.map_append, List.map_append, Nat.one_mul, Nat.zero_add]
      rfl
    rw [hpp]
    have s2 := same_updO (o := HO.lst ((prts r 0 (k + 1)).map V.int)) s1 no
    have ex2 : (upd H' o (HO.lst ((prts r 0 (k + 1)).map V.int))) x = _ := (upd_ne hxo).trans ex
    have eo2 : (upd H' o (HO.lst ((prts r 0 (k + 1)).map V.int))) o = _ := upd_same
    generalize upd H' o (HO.lst ((prts r 0 (k + 1)).map V.int)) = H2 at *
    have hl2 : (prts r 0 (k + 1)).length = k + 1 := prts_len r 0 (k + 1)
    have glast : atI ((prts r 0 (k + 1)).map V.int) (-1) = some (.int (orb r k).prt) := atI_neg (k := 1) (by decide) (by rw [List.length_map, hl2]; omega) (by
      rw [List.length_map, hl2, Nat.add_sub_cancel]
      have := prts_get r (i := 0) (show k < k + 1 by omega)
      rw [Nat.zero_add] at this
      exact get_map this)
    refine ⟨_, rfl, _, rfl, 1, rfl, o, _, -1, _, rfl, rfl, SqL.of eo2, glast, x, (orb r k).a, (orb r k).b, (orb r k).c, (orb r k).s, (orb r k).prt, rfl, ex2, Rk, z1, z2, z3, z4, fun H4 p s4 _ ep => ?_⟩
    exact ⟨p, _, rfl, s2.trans s4, ep, s4 _ _ eo2⟩
  · obtain ⟨x, y3, rfl, s1, ex, eo⟩ := hP
    exact ⟨_, rfl, q _ o s1 no eo⟩
end
/-! ### the law: rows go round -/
section
variable {P : Program} {w : World} {K : PySem.W.Frag} {mg : Str → Option Value} {base : Heap} {C R : Addr}
theorem ok_is_short (D : Df K mg "_law_is_short" p__law_is_short s__law_is_short) (B : Bl mg) : Cal P w K mg base CX0 6 "_law_is_short" p__law_is_short sp_short := D.cal fun f fd F => by
  refine F.ok sc__law_is_short (fun vs H Q E h => ?_) (fun cdv A outer s H vs Q E hr h => ?_)
  · obtain ⟨t, u, ah, ag, rfl, _⟩ := h
    rfl
  obtain ⟨t, u, ah, ag, rfl, et, eu, h1, h2, hz, hl, hne, q⟩ := h
  refine ⟨_, pss_cons (ps_for PassesOwn.never rfl (pi_range2 (by rfl) B.range (pa_cons pe_int (pa_cons (pe_callB call_len_seq (by rfl) B.len PySem.boot_len (pa_cons (pv 1) pa_nil)) pa_nil))) (pg_name (i := 2) sc__law_is_short.nd rfl (.inl rfl))
        (pss_one (ps_if (PW.pt (pw_and (pt_cmpR op_eq (pe_op op_mod (pe_callB call_len_seq (by rfl) B.len PySem.boot_len (pa_cons (pv 1) pa_nil)) (pv 2)) pe_int (nomark _))
          (pw_and1 (pt_cmpR (op_eqLI hr) (pe_callTy call_list_of (by rfl) B.list (by decide +kernel) (pa_cons (pv 1) pa_nil))
            (pe_op op_rep (pe_callTy call_list_of (by rfl) B.list (by decide +kernel) (pa_cons (pe_slice sl_tupA (pv 1) po_none (po_some (pv 2))) pa_nil)) (pe_op op_fdiv (pe_callB call_len_seq (by rfl) B.len PySem.boot_len (pa_cons (pv 1) pa_nil)) (pv 2))) (nomark _)))))
          (pss_one (ps_ret pe_bl)) pss_nil)))
    <| pss_one (ps_ret (pe_or (pe_cmpR op_eq (pe_callB call_len_seq (by rfl) B.len PySem.boot_len (pa_cons (pv 0) pa_nil)) pe_int (nomark _))
        (pe_one (pe_cmpR op_ne (pe_ix ix_tup (pv 0) (pe_un un_neg pe_int) (fun _ _ => rfl)) (pe_ix ix_tup (pv 1) (pe_un un_neg pe_int) (fun _ _ => rfl)) (nomark _))))), ?_⟩
  have hlm : (ag.map V.int).length = ag.length := List.length_map _
  have hlm0 : (ah.map V.int).length = ah.length := List.length_map _
  have hpos : 0 < ag.length := List.length_pos_iff.mpr hne
  refine ⟨_, rfl, u, _, rfl, .inr (SqT.of eu), 1, _, rfl, ⟨by decide, by decide, by omega, by omega⟩, for_range (fun i σ H' => Same H H' ∧ ∃ y2, σ = [some (.ref t), some (.ref u), y2]) ⟨Same.refl _, none, rfl⟩ (fun i σ H' hi hP => ?_) (fun σ H' hP => ?_)⟩
  · obtain ⟨s1, y2, rfl⟩ := hP
    have eu1 := s1 _ _ eu
    have ez : 1 + (i : Int) = ((1 + i : Nat) : Int) := by omega
    have hzi : 1 + i < ag.length := by omega
    rw [ez]
    generalize hk : 1 + i = z at *
    have hz1 : 1 ≤ z := by omega
    refine ⟨_, rfl, u, _, rfl, .inr (SqT.of eu1), _, rfl, _, _, rfl, rfl, (by show (0 : Int) < (z : Int); omega), rfl, _, rfl, ite2 (fun c => ?_) (fun _ => ⟨s1, _, rfl⟩)⟩
    have hmod : ag.length % z = 0 := by
      have := V.int.inj (of_decide_eq_true c)
      rw [hlm] at this
      omega
    refine ⟨_, rfl, u, _, rfl, .inr (SqT.of eu1), fun l1 nl1 => ?_⟩
    have t1 := s1.trans (same_upd nl1 (o := HO.lst (ag.map V.int)))
    have el1 : (upd H' l1 (HO.lst (ag.map V.int))) l1 = some (lI ag) := upd_same
    have eu2 := t1 _ _ eu
    generalize upd H' l1 (HO.lst (ag.map V.int)) = H2 at *
    refine ⟨_, rfl, _, rfl, _, rfl, u, _, rfl, SqT.of eu2, fun hw => ?_, fun _ p np => ?_⟩
    · have h3 := hw.2
      rw [HT.sIx_nat, hlm] at h3
      omega
    rw [cutV_to, ← List.map_take]
    have t2 := t1.trans (same_upd np (o := HO.tup ((ag.take z).map V.int)))
    have el2 := same_upd np (o := HO.tup ((ag.take z).map V.int)) _ _ el1
    have ep : (upd H2 p (HO.tup ((ag.take z).map V.int))) p = some (tI (ag.take z)) := upd_same
    have eu3 := t2 _ _ eu
    generalize upd H2 p (HO.tup ((ag.take z).map V.int)) = H3 at *
    refine ⟨p, _, rfl, .inr (SqT.of ep), fun l2 nl2 => ?_⟩
    have t3 := t2.trans (same_upd nl2 (o := HO.lst ((ag.take z).map V.int)))
    have el3 := same_upd nl2 (o := HO.lst ((ag.take z).map V.int)) _ _ el2
    have em : (upd H3 l2 (HO.lst ((ag.take z).map V.int))) l2 = some (lI (ag.take z)) := upd_same
    have eu4 := t3 _ _ eu
    generalize upd H3 l2 (HO.lst ((ag.take z).map V.int)) = H4 at *
    have hdiv : ag.length / z ≤ ag.length := Nat.div_le_self _ _
    have hmz : ag.length / z * z = ag.length := Nat.div_mul_cancel (Nat.dvd_of_mod_eq_zero hmod)
    have edv : (((ag.map V.int).length : Nat) : Int) / (z : Int) = ((ag.length / z : Nat) : Int) := by
      rw [hlm]
      rfl
    refine ⟨_, rfl, u, _, rfl, .inr (SqT.of eu4), _, rfl, _, _, rfl, rfl, ⟨by show (0 : Int) < (z : Int); omega, by show (z : Int) < 1073741824; omega⟩, ?_⟩
    dsimp only
    rw [edv]
    have hno := hz z hz1 hzi hmod
    generalize ag.length / z = dv at *
    have htz : (ag.take z).length = z := by
      rw [List.length_take]
      omega
    refine ⟨l2, _, _, rfl, rfl, em, by omega, by omega, by rw [List.length_map, htz, Int.toNat_natCast, Nat.mul_comm, hmz]; exact small_le (by omega), fun l3 nl3 => ?_⟩
    rw [Int.toNat_natCast, show (List.replicate dv ((ag.take z).map V.int)).flatten = ((List.replicate dv (ag.take z)).flatten).map V.int by rw [List.map_flatten, List.map_replicate]]
    refine ⟨l1, l3, ag, _, rfl, rfl, SqL.of (same_upd nl3 _ _ el3), SqL.of upd_same, false, congrArg V.bl (decide_eq_false hno), iteF ?_⟩
    exact ⟨same_updO t3 (t3.free nl3), _, rfl⟩
  · obtain ⟨s1, y2, rfl⟩ := hP
    have et1 := s1 _ _ et
    have eu1 := s1 _ _ eu
    refine ⟨_, rfl, t, _, rfl, .inr (SqT.of et1), rfl, _, rfl, ite2 (fun c => q _ s1) (fun c => ?_)⟩
    have h0 : 0 < ah.length := by
      by_cases z : ah.length = 0
      · exact absurd (decide_eq_true (congrArg V.int (by rw [hlm0, z]; rfl))) c
      · omega
    have ga : ah[ah.length - 1]? = some (ah[ah.length - 1]'(by omega)) := List.getElem?_eq_getElem (by omega)
    have gg : ag[ag.length - 1]? = some (ag[ag.length - 1]'(by omega)) := List.getElem?_eq_getElem (by omega)
    have hd := hl _ _ (by rw [List.getLast?_eq_getElem?]; exact ga) (by rw [List.getLast?_eq_getElem?]; exact gg)
    generalize ah[ah.length - 1]'(by omega) = xa at *
    generalize ag[ag.length - 1]'(by omega) = xg at *
    have la : atI (ah.map V.int) (-1) = some (.int xa) := atI_neg (k := 1) (by decide) (by rw [hlm0]; omega) (by rw [hlm0]; exact get_map ga)
    have lg : atI (ag.map V.int) (-1) = some (.int xg) := atI_neg (k := 1) (by decide) (by rw [hlm]; omega) (by rw [hlm]; exact get_map gg)
    refine ⟨_, rfl, 1, rfl, t, _, -1, _, rfl, rfl, SqT.of et1, la, _, rfl, 1, rfl, u, _, -1, _, rfl, rfl, SqT.of eu1, lg, rfl, ?_⟩
    have hb : (!decide (V.int xa = V.int xg)) = true := by
      rw [Bool.not_eq_true', decide_eq_false_iff_not]
      exact fun z => hd (V.int.inj z)
    rw [hb]
    exact q _ s1
theorem ok_law {f : Addr} {fd : FuncData} (F : Fun K "law" "law" s_law f fd) (B : Bl mg) (Cc : Cal P w K mg base CX0 1 "_law_cell" p__law_cell (sp_cell K)) (Crd : Cal P w K mg base CX0 2 "_law_root" p__law_root sp_root) (Cr : Cal P w K mg base CX0 5 "rounds_of" p_rounds_of sp_rounds_of)
    (Cw : Cal P w K mg base CX0 1 "_law_whole" p__law_whole sp_whole) (Cp : Cal P w K mg base CX0 5 "_law_parts" p__law_parts sp_parts) (Csh : Cal P w K mg base CX0 6 "_law_is_short" p__law_is_short sp_short) (Cfp : Cal P w K mg base CX0 5 "first_parts" p_first_parts sp_first_partsR) (Cb : Cal P w K mg base (L2.CX P w) 5 "root_by" p_root_by (sp_root_by C)) : FnOk P w K mg base CX0 40 f fd ["_law_script"] (sp_law K) := by
  refine F.ok sc_law (fun vs H Q E h => ?_) (fun cdv A outer s H vs Q E hr h => ?_)
  · obtain ⟨a, ns, rfl, _⟩ := h
    rfl
  obtain ⟨la, ns, rfl, hS, h63, q⟩ := h
  refine ⟨_, pss_cons (ps_set (i := 1) sc_law.nd rfl (.inl rfl) (pe_cal Crd hr (by decide) (by rfl) pass0 (pa_cons (pe_cal Cc hr (by decide) (by rfl) pass0 (pa_cons (pv 0) (pa_cons pe_int pa_nil))) (pa_cons (pe_cal Cc hr (by decide) (by rfl) pass0 (pa_cons (pv 0) (pa_cons pe_int pa_nil))) (pa_cons pe_int pa_nil)))))
    <| pss_cons (ps_asg (pe_cal Cr hr (by decide) (by rfl) pass0 (pa_cons (pv 1) pa_nil)) (pg_tup (by rfl) (pgs_cons (pg_name (i := 2) sc_law.nd rfl (.inl rfl)) (pgs_cons (pg_name (i := 3) sc_law.nd rfl (.inl rfl)) pgs_nil))))
    <| pss_cons (ps_if (PW.pt (pw_or (pt_not (pt_val (pe_callB call_isi (by rfl) B.isinstance PyProof.Rows.boot_isinstance (pa_cons (pv 2) (pa_cons (pe_bltn (v := .ty "tuple") (by rfl) B.tuple (by decide +kernel) rfl) pa_nil)))))
        (pw_or (pt_not (pt_val (pe_callB call_isi (by rfl) B.isinstance PyProof.Rows.boot_isinstance (pa_cons (pv 3) (pa_cons (pe_bltn (v := .ty "tuple") (by rfl) B.tuple (by decide +kernel) rfl) pa_nil)))))
        (pw_or1 (pt_cmpR op_eq (pe_callB call_len_seq (by rfl) B.len PySem.boot_len (pa_cons (pv 3) pa_nil)) pe_int (nomark _)))))) (pss_one (ps_ret pe_bl)) pss_nil)
    <| pss_cons (ps_set (i := 4) sc_law.nd rfl (.inl rfl) (pe_op op_cat (pe_callTy call_list_of (by rfl) B.list (by decide +kernel) (pa_cons (pv 2) pa_nil)) (pe_op op_rep (pe_callTy call_list_of (by rfl) B.list (by decide +kernel) (pa_cons (pv 3) pa_nil)) pe_int)))
    <| pss_cons (ps_if (PW.pt (pw_or (pt_not (pt_val (pe_callB (cr_all rfl) (by rfl) B.all (by decide +kernel) (pa_cons
          (pe_lc (own := [("_law_one", 6)]) (g := gName 6) (tt := tYes) rfl sc_law.nd (pi_list (pv 4)) (blkOk_by (N := n_law) (sc := defScope s_law) (by decide +kernel))
            (fun _ _ _ _ _ => pg_name (i := 6) sc_law.nd rfl (Or.inl rfl)) (fun _ _ _ _ _ => pts_nil) (fun _ _ _ _ _ => pe_cal Cw hr (by decide) (by rfl) pass0 (pa_cons (pv 6) pa_nil))) pa_nil))))
        (pw_or1 (pt_not (pt_val (pe_callB (cr_all rfl) (by rfl) B.all (by decide +kernel) (pa_cons
          (pe_lc (own := [("_law_one", 6)]) (g := gName 6) (tt := tYes) rfl sc_law.nd (pi_list (pe_slice sl_list (pv 4) (po_some pe_int) po_none)) (blkOk_by (N := n_law) (sc := defScope s_law) (by decide +kernel))
            (fun _ _ _ _ _ => pg_name (i := 6) sc_law.nd rfl (Or.inl rfl)) (fun _ _ _ _ _ => pts_nil) (fun _ _ _ _ _ => pe_cmpR op_ge (pv 6) pe_int (nomark _))) pa_nil))))))) (pss_one (ps_ret pe_bl)) pss_nil)
    <| pss_cons (ps_if (PW.pt (pw_or (pt_cmpR (op_neLI hr) (pe_cal Cp hr (by decide) (by rfl) pass0 (pa_cons (pv 1) (pa_cons (pe_callB call_len_seq (by rfl) B.len PySem.boot_len (pa_cons (pv 4) pa_nil)) pa_nil))) (pv 4) (nomark _))
        (pw_or1 (pt_not (pt_val (pe_cal Csh hr (by decide) (by rfl) pass0 (pa_cons (pv 2) (pa_cons (pv 3) pa_nil)))))))) (pss_one (ps_ret pe_bl)) pss_nil)
    <| pss_cons (ps_set (i := 5) sc_law.nd rfl (.inl rfl) (pe_op op_mod (pe_cal Cc hr (by decide) (by rfl) pass0 (pa_cons (pv 0) (pa_cons pe_int pa_nil))) (pe_op op_add (pe_callB call_len_seq (by rfl) B.len PySem.boot_len (pa_cons (pv 4) pa_nil)) pe_int)))
    <| pss_one (ps_ret (pe_and (pe_cmpR (op_eqT hr) (pe_cal Cfp hr (by decide) (by rfl) pass0 (pa_cons (pv 1) (pa_cons (pv 5) pa_nil))) (pe_callTy call_tuple_of (by rfl) B.tuple (by decide +kernel) (pa_cons (pe_slice sl_list (pv 4) po_none (po_some (pv 5))) pa_nil)) (nomark _))
        (pe_one (pe_cmpR (op_eqT hr) (pe_cal Cb hr (by decide) (by rfl) passL (pa_cons (pv 2) (pa_cons (pv 3) pa_nil))) (pv 1) (nomark _))))), ?_⟩
  -- the root
  refine ⟨_, rfl, la, ns, 0, rfl, hS, by decide, _, rfl, la, ns, 1, rfl, hS, by decide, _, _, 9, rfl, by decide, by decide, fun ra rb' rc rs H1 r IR ha hb0 hb1 hc0 hc1 s1 _ er => ?_⟩
  generalize hr0 : (⟨ra, rb', rc, rs⟩ : R4) = r0
  have RR0 : r0.Is := by
    rw [← hr0]
    exact IR
  have er1 : H1 r = some (tI r0.l) := by
    rw [← hr0]
    exact er
  have hB : R4B 120 r0 := by
    rw [← hr0]
    have e120 : (2 : Nat) ^ 120 = 1329227995784915872903807060280344576 := by decide
    have h0 : 0 < ra := IR.ha
    refine ⟨?_, ?_, ?_⟩
    · show ra.natAbs < _
      omega
    · show rb'.natAbs < _
      omega
    · show rc.natAbs < _
      omega
  obtain ⟨i, j, hij, hi4, hj21, hrep, hdis, hpb⟩ := row9 RR0 (by rw [← hr0]; exact ha) (by rw [← hr0]; exact hb0) (by rw [← hr0]; exact hb1) (by rw [← hr0]; exact hc0) (by rw [← hr0]; exact hc1)
  have hS4 : ∀ k, k ≤ 1000 → S4 (orb r0 k) := fun k hk => orb_s4 RR0 hB hk
  obtain ⟨hR, hsame⟩ := rb_same RR0 hij hrep
  have hlast := fun h => last_ne RR0 hij h hrep hdis
  have hns := fun z h1 h2 h3 => no_shorter RR0 hij hrep hdis (z := z) h1 h2 h3
  -- rounds_of
  refine ⟨_, rfl, r, r0, rfl, er1, RR0, i, j, hij, by omega, hrep, hdis, fun k hk => hS4 k (by omega), fun H2 f t u s2 _ _ _ ef et eu => ?_⟩
  refine ⟨f, _, rfl, SqT.of ef, rfl, _, _, rfl, _, _, rfl, rfl, ?_⟩
  have er2 := s2 _ _ er1
  have s3 := s1.trans s2
  have hW3 := rb_three hR
  rw [hsame] at hW3
  have hab : ∀ y ∈ prts r0 0 i, y.natAbs < 2 ^ 5 := fun y hy => by
    obtain ⟨k, hk, rfl⟩ := prts_mem hy
    exact hpb _ (by omega)
  have hgb : ∀ y ∈ prts r0 i (j - i), y.natAbs < 2 ^ 5 := fun y hy => by
    obtain ⟨k, hk, rfl⟩ := prts_mem hy
    exact hpb _ (by omega)
  have hahl : (prts r0 0 i).length = i := prts_len _ _ _
  have hagl : (prts r0 i (j - i)).length = j - i := prts_len _ _ _
  have hlast2 : ∀ x y, (prts r0 0 i).getLast? = some x → (prts r0 i (j - i)).getLast? = some y → x ≠ y := fun x y hx hy => by
    rw [List.getLast?_eq_getElem?, hahl] at hx
    rw [List.getLast?_eq_getElem?, hagl, prts_get r0 (by omega)] at hy
    have hi1 : 1 ≤ i := by
      by_cases z : 1 ≤ i
      · exact z
      · rw [List.getElem?_eq_none (by rw [hahl]; omega)] at hx
        cases hx
    rw [prts_get r0 (by omega)] at hx
    rw [← Option.some.inj hx, ← Option.some.inj hy, Nat.zero_add, show i + (j - i - 1) = j - 1 by omega]
    exact hlast hi1
  generalize hah : prts r0 0 i = ah at *
  generalize hag : prts r0 i (j - i) = ag at *
  have hgne := hR.1
  have hgl0 : 0 < ag.length := List.length_pos_iff.mpr hgne
  obtain ⟨z1, z2, z3, z4⟩ := rb_sizes2 hR hab hgb (by omega) (by omega)
  refine ⟨_, rfl, .ref t, .ty "tuple", _, _, true, rfl, .ty "tuple", isT_tup et, isT_self, true, rfl, iteF ?_⟩
  refine ⟨_, rfl, .ref u, .ty "tuple", _, _, true, rfl, .ty "tuple", isT_tup eu, isT_self, true, rfl, iteF ?_⟩
  refine ⟨_, rfl, u, _, rfl, .inr (SqT.of eu), rfl, false, ?_, iteF ?_⟩
  · rw [List.length_map]
    exact congrArg V.bl (decide_eq_false (fun z => by have := V.int.inj z; omega))
  -- whole
  refine ⟨_, rfl, t, _, rfl, .inr (SqT.of et), fun l1 nl1 => ?_⟩
  have t1 := same_upd nl1 (o := HO.lst (ah.map V.int))
  refine ⟨_, rfl, u, _, rfl, .inr (SqT.of (t1 _ _ eu)), fun l2 nl2 => ?_⟩
  have t2 := t1.trans (same_upd nl2 (o := HO.lst (ag.map V.int)))
  have el1 := same_upd nl2 (o := HO.lst (ag.map V.int)) _ _ (upd_same (H := H2) (a := l1) (o := HO.lst (ah.map V.int)))
  refine ⟨l2, 3, _, rfl, rfl, upd_same, by decide, by decide, by rw [List.length_map]; exact small_le (by show ag.length * 3 ≤ _; omega), fun l3 nl3 => ?_⟩
  have hrep3 : (List.replicate (3 : Int).toNat (ag.map V.int)).flatten = (ag ++ (ag ++ ag)).map V.int := by
    show (List.replicate 3 (ag.map V.int)).flatten = _
    simp [List.replicate]
  rw [hrep3]
  have t3 := t2.trans (same_upd nl3 (o := HO.lst ((ag ++ (ag ++ ag)).map V.int)))
  have el1' := same_upd nl3 (o := HO.lst ((ag ++ (ag ++ ag)).map V.int)) _ _ el1
  refine ⟨l1, l3, _, _, rfl, rfl, el1', upd_same, by rw [List.length_map, List.length_map, List.length_append, List.length_append]; exact small_le (by omega), fun l4 nl4 => ?_⟩
  rw [← List.map_append]
  have t4 := t3.trans (same_upd nl4 (o := HO.lst ((ah ++ (ag ++ (ag ++ ag))).map V.int)))
  have el4 := upd_same (H := upd (upd (upd H2 l1 (HO.lst (ah.map V.int))) l2 (HO.lst (ag.map V.int))) l3 (HO.lst ((ag ++ (ag ++ ag)).map V.int))) (a := l4) (o := HO.lst ((ah ++ (ag ++ (ag ++ ag))).map V.int))
  generalize upd (upd (upd (upd H2 l1 (HO.lst (ah.map V.int))) l2 (HO.lst (ag.map V.int))) l3 (HO.lst ((ag ++ (ag ++ ag)).map V.int))) l4 (HO.lst ((ah ++ (ag ++ (ag ++ ag))).map V.int)) = H3 at *
  have hWl : (ah ++ (ag ++ (ag ++ ag))).length ≤ 70 := by
    rw [List.length_append, List.length_append, List.length_append]
    omega
  have hWt : ∀ y ∈ (ah ++ (ag ++ (ag ++ ag))).drop 1, 1 ≤ y := fun y hy => by
    have hg : ∀ y ∈ ag ++ (ag ++ ag), 1 ≤ y := fun y hy => by
      rw [List.mem_append, List.mem_append] at hy
      rcases hy with hy | hy | hy <;> exact hR.2.1 y hy
    rw [List.drop_append, List.mem_append] at hy
    rcases hy with hy | hy
    · exact hR.2.2 y hy
    · exact hg y (List.mem_of_mem_drop hy)
  generalize hW : ah ++ (ag ++ (ag ++ ag)) = W at *
  have s4 := s3.trans t4
  -- the parts are whole, all but the first from 1 on
  refine ⟨_, rfl, l4, rfl, ⟨_, SqL.of el4⟩, lc_mapL (xs := W.map V.int) (ys := (W.map fun _ => true).map V.bl) (by simp only [List.length_map]) (by rw [List.length_map]; exact small_of (by omega)) (SqL.of el4) (fun x => rfl) (fun i x y H5 Q5 hx hy sx q5 => ?_) (fun L5 H5 sx5 hL5 nL5 => ?_)⟩
  · obtain ⟨n, hn, rfl⟩ := map_get hx
    have ey : y = .bl true := by
      rw [List.getElem?_map, List.getElem?_map, hn] at hy
      exact (Option.some.inj hy).symm
    subst ey
    exact ⟨_, rfl, n, rfl, q5 _ (Same.refl _)⟩
  refine ⟨L5, _, rfl, .of hL5, true, ?_, iteF ?_⟩
  · rw [List.all_map]
    simp
  have el5 := sx5 _ _ el4
  have s5 := s4.trans sx5
  have hcut : cutV (W.map V.int) (some 1) none = (W.drop 1).map V.int := by
    rw [List.map_drop]
    exact cutV_from (k := 1)
  refine ⟨_, rfl, 1, rfl, l4, _, rfl, SqL.of el5, fun sl nsl => ?_⟩
  rw [hcut]
  have s6 := s5.trans (same_upd nsl (o := HO.lst ((W.drop 1).map V.int)))
  have el6 := same_upd nsl (o := HO.lst ((W.drop 1).map V.int)) _ _ el5
  have esl : (upd H5 sl (HO.lst ((W.drop 1).map V.int))) sl = some (lI (W.drop 1)) := upd_same
  have sx6 := sx5.trans (same_upd nsl (o := HO.lst ((W.drop 1).map V.int)))
  generalize upd H5 sl (HO.lst ((W.drop 1).map V.int)) = H6 at *
  refine ⟨sl, rfl, ⟨_, SqL.of esl⟩, lc_mapL (xs := (W.drop 1).map V.int) (ys := ((W.drop 1).map fun y => decide (1 ≤ y)).map V.bl) (by simp only [List.length_map]) (by rw [List.length_map, List.length_drop]; exact small_of (by omega)) (SqL.of esl) (fun x => rfl) (fun i x y H7 Q7 hx hy sx q7 => ?_) (fun L7 H7 sx7 hL7 nL7 => ?_)⟩
  · obtain ⟨n, hn, rfl⟩ := map_get hx
    have ey : y = .bl (decide (1 ≤ n)) := by
      rw [List.getElem?_map, List.getElem?_map, hn] at hy
      exact (Option.some.inj hy).symm
    subst ey
    exact ⟨_, rfl, _, _, rfl, rfl, q7 _ (Same.refl _)⟩
  refine ⟨L7, _, rfl, .of hL7, true, ?_, iteF ?_⟩
  · refine congrArg V.bl ?_
    rw [List.all_map, List.all_eq_true]
    exact fun y hy => decide_eq_true (hWt y hy)
  have s7 := s6.trans sx7
  have el7 := sx7 _ _ el6
  have sz := (t4.trans sx6).trans sx7
  have er7 := sz _ _ er2
  have et7 := sz _ _ et
  have eu7 := sz _ _ eu
  -- the parts by hand
  refine ⟨_, rfl, _, rfl, l4, _, rfl, .inl (SqL.of el7), r, r0, (W.map V.int).length, rfl, er7, RR0, by rw [List.length_map]; omega, fun k hk => hS4 k (by rw [List.length_map] at hk; omega), fun H8 p s8 _ ep => ?_⟩
  rw [List.length_map, hW3] at ep
  refine ⟨_, rfl, p, l4, _, _, rfl, rfl, SqL.of ep, SqL.of (s8 _ _ el7), false, congrArg V.bl (by simp), iteF ?_⟩
  refine ⟨_, rfl, _, rfl, t, u, ah, ag, rfl, s8 _ _ et7, s8 _ _ eu7, by omega, by omega, fun z h1 h2 h3 => ?_, hlast2, hgne, fun H9 s9 => ⟨true, rfl, iteF ?_⟩⟩
  · have := hns z h1 (by omega) (by rw [← hagl]; exact h3)
    rw [← hagl] at this
    exact this
  have s10 := (s7.trans s8).trans s9
  have sy := s8.trans s9
  have el9 := sy _ _ el7
  have er9 := sy _ _ er7
  have et9 := sy _ _ et7
  have eu9 := sy _ _ eu7
  have hlm : (W.map V.int).length = W.length := List.length_map _
  -- the first parts
  refine ⟨_, rfl, la, ns, 2, rfl, s10.seq hS, by decide, _, rfl, l4, _, rfl, .inl (SqL.of el9), _, _, rfl, rfl, _, _, rfl, rfl, (by show (0 : Int) < _ + 1; omega), ?_⟩
  dsimp only
  have c0 := Int.emod_nonneg (cellOf ns 2) (show (((W.map V.int).length : Nat) : Int) + 1 ≠ 0 by omega)
  have c1 := Int.emod_lt_of_pos (cellOf ns 2) (show (0 : Int) < (((W.map V.int).length : Nat) : Int) + 1 by omega)
  generalize cellOf ns 2 % ((((W.map V.int).length : Nat) : Int) + 1) = cnt at *
  obtain ⟨k, rfl⟩ := Int.eq_ofNat_of_zero_le c0
  have hkW : k ≤ W.length := by omega
  refine ⟨_, rfl, _, rfl, r, r0, k, rfl, er9, RR0, by omega, fun m hm => hS4 m (by omega), fun H10 p2 s11 _ ep2 => ?_⟩
  have el10 := s11 _ _ el9
  have hWk : prts r0 0 k = W.take k := by
    rw [← hW3, prts_take r0 hkW]
  rw [hWk] at ep2
  refine ⟨_, rfl, _, rfl, _, rfl, l4, _, rfl, SqL.of el10, fun sl2 nsl2 => ?_⟩
  rw [cutV_to, ← List.map_take]
  have s12 := s11.trans (same_upd nsl2 (o := HO.lst ((W.take k).map V.int)))
  have ep3 := same_upd nsl2 (o := HO.lst ((W.take k).map V.int)) _ _ ep2
  have esl2 : (upd H10 sl2 (HO.lst ((W.take k).map V.int))) sl2 = some (lI (W.take k)) := upd_same
  generalize upd H10 sl2 (HO.lst ((W.take k).map V.int)) = H11 at *
  refine ⟨sl2, _, rfl, .inl ⟨SqL.of esl2, fun tt ntt => ?_⟩⟩
  have s13 := s12.trans (same_upd ntt (o := HO.tup ((W.take k).map V.int)))
  have ep4 := same_upd ntt (o := HO.tup ((W.take k).map V.int)) _ _ ep3
  refine ⟨p2, tt, W.take k, W.take k, rfl, rfl, SqT.of ep4, SqT.of upd_same, true, congrArg V.bl (decide_eq_true rfl), iteT ?_⟩
  -- root_by
  refine ⟨_, rfl, _, rfl, t, u, ah, ag, rfl, s13 _ _ et9, s13 _ _ eu9, by omega, by omega, fun z => absurd hR z, fun _ => ⟨z1, z2, z3, z4, fun H14 x s14 _ ex => ?_⟩⟩
  rw [hsame] at ex
  refine ⟨_, rfl, x, r, r0.l, r0.l, rfl, rfl, SqT.of ex, SqT.of (s14 _ _ (s13 _ _ er9)), ?_⟩
  rw [decide_eq_true rfl]
  exact q _
end
/-! ### what the top has written -/
theorem all_mk {l : PySem.W.OpenLaw} {w : World} {K : PySem.W.Frag} {h : Heap} {mg : Str → Option Value} {fa : Addr} (X : K.In h) (G : h.Ns mainGlobals mg) (hfa : mg "law" = some (.ref fa))
    {f0 : Addr} {od0 an0 : Option Addr} {sl0 : Array (Option Value)} {oc0 kV0 dc0 pm0 cd0 ct0 : Value}
    {f1 : Addr} {od1 an1 : Option Addr} {sl1 : Array (Option Value)} {oc1 kV1 dc1 pm1 cd1 ct1 : Value}
    {f2 : Addr} {od2 an2 : Option Addr} {sl2 : Array (Option Value)} {oc2 kV2 dc2 pm2 cd2 ct2 : Value}
    {f3 : Addr} {od3 an3 : Option Addr} {sl3 : Array (Option Value)} {oc3 kV3 dc3 pm3 cd3 ct3 : Value}
    {f4 : Addr} {od4 an4 : Option Addr} {sl4 : Array (Option Value)} {oc4 kV4 dc4 pm4 cd4 ct4 : Value}
    {f5 : Addr} {od5 an5 : Option Addr} {sl5 : Array (Option Value)} {oc5 kV5 dc5 pm5 cd5 ct5 : Value}
    {f6 : Addr} {od6 an6 : Option Addr} {sl6 : Array (Option Value)} {oc6 kV6 dc6 pm6 cd6 ct6 : Value}
    {f7 : Addr} {od7 an7 : Option Addr} {sl7 : Array (Option Value)} {oc7 kV7 dc7 pm7 cd7 ct7 : Value}
    {f8 : Addr} {od8 an8 : Option Addr} {sl8 : Array (Option Value)} {oc8 kV8 dc8 pm8 cd8 ct8 : Value}
    {f9 : Addr} {od9 an9 : Option Addr} {sl9 : Array (Option Value)} {oc9 kV9 dc9 pm9 cd9 ct9 : Value}
    {f10 : Addr} {od10 an10 : Option Addr} {sl10 : Array (Option Value)} {oc10 kV10 dc10 pm10 cd10 ct10 : Value}
    {f11 : Addr} {od11 an11 : Option Addr} {sl11 : Array (Option Value)} {oc11 kV11 dc11 pm11 cd11 ct11 : Value}
    {f12 : Addr} {od12 an12 : Option Addr} {sl12 : Array (Option Value)} {oc12 kV12 dc12 pm12 cd12 ct12 : Value}
    {f13 : Addr} {od13 an13 : Option Addr} {sl13 : Array (Option Value)} {oc13 kV13 dc13 pm13 cd13 ct13 : Value}
    {f14 : Addr} {od14 an14 : Option Addr} {sl14 : Array (Option Value)} {oc14 kV14 dc14 pm14 cd14 ct14 : Value}
    {f15 : Addr} {od15 an15 : Option Addr} {sl15 : Array (Option Value)} {oc15 kV15 dc15 pm15 cd15 ct15 : Value}
    {f16 : Addr} {od16 an16 : Option Addr} {sl16 : Array (Option Value)} {oc16 kV16 dc16 pm16 cd16 ct16 : Value}
    {f17 : Addr} {od17 an17 : Option Addr} {sl17 : Array (Option Value)} {oc17 kV17 dc17 pm17 cd17 ct17 : Value}
    {f18 : Addr} {od18 an18 : Option Addr} {sl18 : Array (Option Value)} {oc18 kV18 dc18 pm18 cd18 ct18 : Value}
    {f21 : Addr} {od21 an21 : Option Addr} {sl21 : Array (Option Value)} {oc21 kV21 dc21 pm21 cd21 ct21 : Value}
    {f23 : Addr} {od23 an23 : Option Addr} {sl23 : Array (Option Value)} {oc23 kV23 dc23 pm23 cd23 ct23 : Value}
    {f24 : Addr} {od24 an24 : Option Addr} {sl24 : Array (Option Value)} {oc24 kV24 dc24 pm24 cd24 ct24 : Value}
    {f25 : Addr} {od25 an25 : Option Addr} {sl25 : Array (Option Value)} {oc25 kV25 dc25 pm25 cd25 ct25 : Value}
    {f26 : Addr} {od26 an26 : Option Addr} {sl26 : Array (Option Value)} {oc26 kV26 dc26 pm26 cd26 ct26 : Value}
    {C R : Addr}
    (a0 : PySem.W.nsIn K mainGlobals "divisor" = some (some (.ref f0)))
    (l0 : K.lookup f0 = some ⟨oc0, od0, .func (PySem.W.fnOf "divisor" "divisor" (defArgs s_divisor) (defBody s_divisor) (defScope s_divisor) .none kV0 dc0 pm0 an0 cd0 ct0), sl0⟩)
    (c0 : PySem.W.codeIn K cd0 "divisor" = true)
    (k0 : PySem.W.keepIn K (.ref f0) = true)
    (a1 : PySem.W.nsIn K mainGlobals "least_square" = some (some (.ref f1)))
    (l1 : K.lookup f1 = some ⟨oc1, od1, .func (PySem.W.fnOf "least_square" "least_square" (defArgs s_least_square) (defBody s_least_square) (defScope s_least_square) .none kV1 dc1 pm1 an1 cd1 ct1), sl1⟩)
    (c1 : PySem.W.codeIn K cd1 "least_square" = true)
    (k1 : PySem.W.keepIn K (.ref f1) = true)
    (a2 : PySem.W.nsIn K mainGlobals "heart" = some (some (.ref f2)))
    (l2 : K.lookup f2 = some ⟨oc2, od2, .func (PySem.W.fnOf "heart" "heart" (defArgs s_heart) (defBody s_heart) (defScope s_heart) .none kV2 dc2 pm2 an2 cd2 ct2), sl2⟩)
    (c2 : PySem.W.codeIn K cd2 "heart" = true)
    (k2 : PySem.W.keepIn K (.ref f2) = true)
    (a3 : PySem.W.nsIn K mainGlobals "is_square" = some (some (.ref f3)))
    (l3 : K.lookup f3 = some ⟨oc3, od3, .func (PySem.W.fnOf "is_square" "is_square" (defArgs s_is_square) (defBody s_is_square) (defScope s_is_square) .none kV3 dc3 pm3 an3 cd3 ct3), sl3⟩)
    (c3 : PySem.W.codeIn K cd3 "is_square" = true)
    (k3 : PySem.W.keepIn K (.ref f3) = true)
    (a4 : PySem.W.nsIn K mainGlobals "root_of" = some (some (.ref f4)))
    (l4 : K.lookup f4 = some ⟨oc4, od4, .func (PySem.W.fnOf "root_of" "root_of" (defArgs s_root_of) (defBody s_root_of) (defScope s_root_of) .none kV4 dc4 pm4 an4 cd4 ct4), sl4⟩)
    (c4 : PySem.W.codeIn K cd4 "root_of" = true)
    (k4 : PySem.W.keepIn K (.ref f4) = true)
    (a5 : PySem.W.nsIn K mainGlobals "part_of" = some (some (.ref f5)))
    (l5 : K.lookup f5 = some ⟨oc5, od5, .func (PySem.W.fnOf "part_of" "part_of" (defArgs s_part_of) (defBody s_part_of) (defScope s_part_of) .none kV5 dc5 pm5 an5 cd5 ct5), sl5⟩)
    (c5 : PySem.W.codeIn K cd5 "part_of" = true)
    (k5 : PySem.W.keepIn K (.ref f5) = true)
    (a6 : PySem.W.nsIn K mainGlobals "moved" = some (some (.ref f6)))
    (l6 : K.lookup f6 = some ⟨oc6, od6, .func (PySem.W.fnOf "moved" "moved" (defArgs s_moved) (defBody s_moved) (defScope s_moved) .none kV6 dc6 pm6 an6 cd6 ct6), sl6⟩)
    (c6 : PySem.W.codeIn K cd6 "moved" = true)
    (k6 : PySem.W.keepIn K (.ref f6) = true)
    (a7 : PySem.W.nsIn K mainGlobals "turned" = some (some (.ref f7)))
    (l7 : K.lookup f7 = some ⟨oc7, od7, .func (PySem.W.fnOf "turned" "turned" (defArgs s_turned) (defBody s_turned) (defScope s_turned) .none kV7 dc7 pm7 an7 cd7 ct7), sl7⟩)
    (c7 : PySem.W.codeIn K cd7 "turned" = true)
    (k7 : PySem.W.keepIn K (.ref f7) = true)
    (a8 : PySem.W.nsIn K mainGlobals "row_of" = some (some (.ref f8)))
    (l8 : K.lookup f8 = some ⟨oc8, od8, .func (PySem.W.fnOf "row_of" "row_of" (defArgs s_row_of) (defBody s_row_of) (defScope s_row_of) .none kV8 dc8 pm8 an8 cd8 ct8), sl8⟩)
    (c8 : PySem.W.codeIn K cd8 "row_of" = true)
    (k8 : PySem.W.keepIn K (.ref f8) = true)
    (a9 : PySem.W.nsIn K mainGlobals "rounds_of" = some (some (.ref f9)))
    (l9 : K.lookup f9 = some ⟨oc9, od9, .func (PySem.W.fnOf "rounds_of" "rounds_of" (defArgs s_rounds_of) (defBody s_rounds_of) (defScope s_rounds_of) .none kV9 dc9 pm9 an9 cd9 ct9), sl9⟩)
    (c9 : PySem.W.codeIn K cd9 "rounds_of" = true)
    (k9 : PySem.W.keepIn K (.ref f9) = true)
    (a10 : PySem.W.nsIn K mainGlobals "product" = some (some (.ref f10)))
    (l10 : K.lookup f10 = some ⟨oc10, od10, .func (PySem.W.fnOf "product" "product" (defArgs s_product) (defBody s_product) (defScope s_product) .none kV10 dc10 pm10 an10 cd10 ct10), sl10⟩)
    (c10 : PySem.W.codeIn K cd10 "product" = true)
    (k10 : PySem.W.keepIn K (.ref f10) = true)
    (a11 : PySem.W.nsIn K mainGlobals "are_parts" = some (some (.ref f11)))
    (l11 : K.lookup f11 = some ⟨oc11, od11, .func (PySem.W.fnOf "are_parts" "are_parts" (defArgs s_are_parts) (defBody s_are_parts) (defScope s_are_parts) .none kV11 dc11 pm11 an11 cd11 ct11), sl11⟩)
    (c11 : PySem.W.codeIn K cd11 "are_parts" = true)
    (k11 : PySem.W.keepIn K (.ref f11) = true)
    (a12 : PySem.W.nsIn K mainGlobals "root_by" = some (some (.ref f12)))
    (l12 : K.lookup f12 = some ⟨oc12, od12, .func (PySem.W.fnOf "root_by" "root_by" (defArgs s_root_by) (defBody s_root_by) (defScope s_root_by) .none kV12 dc12 pm12 an12 cd12 ct12), sl12⟩)
    (c12 : PySem.W.codeIn K cd12 "root_by" = true)
    (k12 : PySem.W.keepIn K (.ref f12) = true)
    (a13 : PySem.W.nsIn K mainGlobals "led_from" = some (some (.ref f13)))
    (l13 : K.lookup f13 = some ⟨oc13, od13, .func (PySem.W.fnOf "led_from" "led_from" (defArgs s_led_from) (defBody s_led_from) (defScope s_led_from) .none kV13 dc13 pm13 an13 cd13 ct13), sl13⟩)
    (c13 : PySem.W.codeIn K cd13 "led_from" = true)
    (k13 : PySem.W.keepIn K (.ref f13) = true)
    (a14 : PySem.W.nsIn K mainGlobals "first_parts" = some (some (.ref f14)))
    (l14 : K.lookup f14 = some ⟨oc14, od14, .func (PySem.W.fnOf "first_parts" "first_parts" (defArgs s_first_parts) (defBody s_first_parts) (defScope s_first_parts) .none kV14 dc14 pm14 an14 cd14 ct14), sl14⟩)
    (c14 : PySem.W.codeIn K cd14 "first_parts" = true)
    (k14 : PySem.W.keepIn K (.ref f14) = true)
    (a15 : PySem.W.nsIn K mainGlobals "_law_cell" = some (some (.ref f15)))
    (l15 : K.lookup f15 = some ⟨oc15, od15, .func (PySem.W.fnOf "_law_cell" "_law_cell" (defArgs s__law_cell) (defBody s__law_cell) (defScope s__law_cell) .none kV15 dc15 pm15 an15 cd15 ct15), sl15⟩)
    (c15 : PySem.W.codeIn K cd15 "_law_cell" = true)
    (k15 : PySem.W.keepIn K (.ref f15) = true)
    (a16 : PySem.W.nsIn K mainGlobals "_law_mix" = some (some (.ref f16)))
    (l16 : K.lookup f16 = some ⟨oc16, od16, .func (PySem.W.fnOf "_law_mix" "_law_mix" (defArgs s__law_mix) (defBody s__law_mix) (defScope s__law_mix) .none kV16 dc16 pm16 an16 cd16 ct16), sl16⟩)
    (c16 : PySem.W.codeIn K cd16 "_law_mix" = true)
    (k16 : PySem.W.keepIn K (.ref f16) = true)
    (a17 : PySem.W.nsIn K mainGlobals "_law_whole" = some (some (.ref f17)))
    (l17 : K.lookup f17 = some ⟨oc17, od17, .func (PySem.W.fnOf "_law_whole" "_law_whole" (defArgs s__law_whole) (defBody s__law_whole) (defScope s__law_whole) .none kV17 dc17 pm17 an17 cd17 ct17), sl17⟩)
    (c17 : PySem.W.codeIn K cd17 "_law_whole" = true)
    (k17 : PySem.W.keepIn K (.ref f17) = true)
    (a18 : PySem.W.nsIn K mainGlobals "_law_divisor" = some (some (.ref f18)))
    (l18 : K.lookup f18 = some ⟨oc18, od18, .func (PySem.W.fnOf "_law_divisor" "_law_divisor" (defArgs s__law_divisor) (defBody s__law_divisor) (defScope s__law_divisor) .none kV18 dc18 pm18 an18 cd18 ct18), sl18⟩)
    (c18 : PySem.W.codeIn K cd18 "_law_divisor" = true)
    (k18 : PySem.W.keepIn K (.ref f18) = true)
    (a21 : PySem.W.nsIn K mainGlobals "_law_square" = some (some (.ref f21)))
    (l21 : K.lookup f21 = some ⟨oc21, od21, .func (PySem.W.fnOf "_law_square" "_law_square" (defArgs s__law_square) (defBody s__law_square) (defScope s__law_square) .none kV21 dc21 pm21 an21 cd21 ct21), sl21⟩)
    (c21 : PySem.W.codeIn K cd21 "_law_square" = true)
    (k21 : PySem.W.keepIn K (.ref f21) = true)
    (a23 : PySem.W.nsIn K mainGlobals "_law_root" = some (some (.ref f23)))
    (l23 : K.lookup f23 = some ⟨oc23, od23, .func (PySem.W.fnOf "_law_root" "_law_root" (defArgs s__law_root) (defBody s__law_root) (defScope s__law_root) .none kV23 dc23 pm23 an23 cd23 ct23), sl23⟩)
    (c23 : PySem.W.codeIn K cd23 "_law_root" = true)
    (k23 : PySem.W.keepIn K (.ref f23) = true)
    (a24 : PySem.W.nsIn K mainGlobals "_law_parts" = some (some (.ref f24)))
    (l24 : K.lookup f24 = some ⟨oc24, od24, .func (PySem.W.fnOf "_law_parts" "_law_parts" (defArgs s__law_parts) (defBody s__law_parts) (defScope s__law_parts) .none kV24 dc24 pm24 an24 cd24 ct24), sl24⟩)
    (c24 : PySem.W.codeIn K cd24 "_law_parts" = true)
    (k24 : PySem.W.keepIn K (.ref f24) = true)
    (a25 : PySem.W.nsIn K mainGlobals "_law_is_short" = some (some (.ref f25)))
    (l25 : K.lookup f25 = some ⟨oc25, od25, .func (PySem.W.fnOf "_law_is_short" "_law_is_short" (defArgs s__law_is_short) (defBody s__law_is_short) (defScope s__law_is_short) .none kV25 dc25 pm25 an25 cd25 ct25), sl25⟩)
    (c25 : PySem.W.codeIn K cd25 "_law_is_short" = true)
    (k25 : PySem.W.keepIn K (.ref f25) = true)
    (a26 : PySem.W.nsIn K mainGlobals "law" = some (some (.ref f26)))
    (l26 : K.lookup f26 = some ⟨oc26, od26, .func (PySem.W.fnOf "law" "law" (defArgs s_law) (defBody s_law) (defScope s_law) .none kV26 dc26 pm26 an26 cd26 ct26), sl26⟩)
    (c26 : PySem.W.codeIn K cd26 "law" = true)
    (k26 : PySem.W.keepIn K (.ref f26) = true)
    (z_len : PySem.W.nsIn K mainGlobals "len" = some none)
    (z_all : PySem.W.nsIn K mainGlobals "all" = some none)
    (z_reversed : PySem.W.nsIn K mainGlobals "reversed" = some none)
    (z_tuple : PySem.W.nsIn K mainGlobals "tuple" = some none)
    (z_abs : PySem.W.nsIn K mainGlobals "abs" = some none)
    (z_range : PySem.W.nsIn K mainGlobals "range" = some none)
    (z_isinstance : PySem.W.nsIn K mainGlobals "isinstance" = some none)
    (z_int : PySem.W.nsIn K mainGlobals "int" = some none)
    (z_bool : PySem.W.nsIn K mainGlobals "bool" = some none)
    (z_ValueError : PySem.W.nsIn K mainGlobals "ValueError" = some none)
    (z_list : PySem.W.nsIn K mainGlobals "list" = some none)
    (z_sum : PySem.W.nsIn K mainGlobals "sum" = some none)
    (z_min : PySem.W.nsIn K mainGlobals "min" = some none)
    (z_enumerate : PySem.W.nsIn K mainGlobals "enumerate" = some none)
    (gC : PySem.W.nsIn K mainGlobals "NoNumber" = some (some (.ref C)))
    (gR : PySem.W.nsIn K mainGlobals "RowError" = some (some (.ref R)))
    (xC : PySem.W.excIn K C [.type "ValueError", .type "Exception", .type "BaseException", .type "object"] "ValueError.__new__" = true)
    (kC : PySem.W.keepIn K (.ref C) = true)
    (bC : PySem.W.subIn K (.ref C) (.type "BaseException") = some true)
    (tC : PySem.W.typeIn K (.ref C) = some (.type "type"))
    (bR : PySem.W.subIn K (.ref R) (.type "BaseException") = some true)
    (dR : PySem.W.hasDictIn K R = true)
    (tR : PySem.W.typeIn K (.ref R) = some (.type "type"))
    (sR : PySem.W.subIn K (.ref C) (.ref R) = some true)
    (e1 : PySem.W.findIn K (.ref C) "__getattribute__" = some (some (.builtin "BaseException.__getattribute__")))
    (e2 : PySem.W.findIn K (.ref C) "__getattr__" = some none)
    (e4 : PySem.W.hasDictIn K C = true)
    (e5 : PySem.W.findIn K (.ref C) "__class__" = some (some (.builtin "object.__class__")))
    (e6 : PySem.W.specialIn K (.builtin "object.__class__") "__get__" = some (some (.builtin "getset_descriptor.__get__")))
    (e7 : PySem.W.takesIn K (.builtin "object.__class__") = some true)
    (e8 : PySem.W.mroIn K C (.type "object") = some true)
    (iV : PySem.W.subIn K (.ref C) (.type "ValueError") = some true) :
    ∃ fd : FuncData, (∀ (s : Shared) (v : Value), BindsTo s fd ⟨[v], []⟩ [("_law_script", v)]) ∧ ∀ base : Heap, K.In base → base.Ns mainGlobals mg → FnOk l.prog w K mg base CX0 40 fa fd ["_law_script"] (sp_law K) := by
  have e := hfa.symm.trans (PySem.W.mg_of X G a26)
  cases e
  have D_divisor : Df K mg "divisor" p_divisor s_divisor := df_mk X G a0 l0 c0 k0 fun _ _ _ _ _ _ us hl => match us, hl with | [_, _], _ => rfl
  have D_least_square : Df K mg "least_square" p_least_square s_least_square := df_mk X G a1 l1 c1 k1 fun _ _ _ _ _ _ us hl => match us, hl with | [_], _ => rfl
  have D_heart : Df K mg "heart" p_heart s_heart := df_mk X G a2 l2 c2 k2 fun _ _ _ _ _ _ us hl => match us, hl with | [_, _, _], _ => rfl
  have D_is_square : Df K mg "is_square" p_is_square s_is_square := df_mk X G a3 l3 c3 k3 fun _ _ _ _ _ _ us hl => match us, hl with | [_], _ => rfl
  have D_root_of : Df K mg "root_of" p_root_of s_root_of := df_mk X G a4 l4 c4 k4 fun _ _ _ _ _ _ us hl => match us, hl with | [_, _, _, _], _ => rfl
  have D_part_of : Df K mg "part_of" p_part_of s_part_of := df_mk X G a5 l5 c5 k5 fun _ _ _ _ _ _ us hl => match us, hl with | [_], _ => rfl
  have D_moved : Df K mg "moved" p_moved s_moved := df_mk X G a6 l6 c6 k6 fun _ _ _ _ _ _ us hl => match us, hl with | [_, _], _ => rfl
  have D_turned : Df K mg "turned" p_turned s_turned := df_mk X G a7 l7 c7 k7 fun _ _ _ _ _ _ us hl => match us, hl with | [_, _], _ => rfl
  have D_row_of : Df K mg "row_of" p_row_of s_row_of := df_mk X G a8 l8 c8 k8 fun _ _ _ _ _ _ us hl => match us, hl with | [_], _ => rfl
  have D_rounds_of : Df K mg "rounds_of" p_rounds_of s_rounds_of := df_mk X G a9 l9 c9 k9 fun _ _ _ _ _ _ us hl => match us, hl with | [_], _ => rfl
  have D_product : Df K mg "product" p_product s_product := df_mk X G a10 l10 c10 k10 fun _ _ _ _ _ _ us hl => match us, hl with | [_], _ => rfl
  have D_are_parts : Df K mg "are_parts" p_are_parts s_are_parts := df_mk X G a11 l11 c11 k11 fun _ _ _ _ _ _ us hl => match us, hl with | [_, _], _ => rfl
  have D_root_by : Df K mg "root_by" p_root_by s_root_by := df_mk X G a12 l12 c12 k12 fun _ _ _ _ _ _ us hl => match us, hl with | [_, _], _ => rfl
  have D_led_from : Df K mg "led_from" p_led_from s_led_from := df_mk X G a13 l13 c13 k13 fun _ _ _ _ _ _ us hl => match us, hl with | [_, _], _ => rfl
  have D_first_parts : Df K mg "first_parts" p_first_parts s_first_parts := df_mk X G a14 l14 c14 k14 fun _ _ _ _ _ _ us hl => match us, hl with | [_, _], _ => rfl
  have D__law_cell : Df K mg "_law_cell" p__law_cell s__law_cell := df_mk X G a15 l15 c15 k15 fun _ _ _ _ _ _ us hl => match us, hl with | [_, _], _ => rfl
  have D__law_mix : Df K mg "_law_mix" p__law_mix s__law_mix := df_mk X G a16 l16 c16 k16 fun _ _ _ _ _ _ us hl => match us, hl with | [_, _, _], _ => rfl
  have D__law_whole : Df K mg "_law_whole" p__law_whole s__law_whole := df_mk X G a17 l17 c17 k17 fun _ _ _ _ _ _ us hl => match us, hl with | [_], _ => rfl
  have D__law_divisor : Df K mg "_law_divisor" p__law_divisor s__law_divisor := df_mk X G a18 l18 c18 k18 fun _ _ _ _ _ _ us hl => match us, hl with | [_, _], _ => rfl
  have D__law_square : Df K mg "_law_square" p__law_square s__law_square := df_mk X G a21 l21 c21 k21 fun _ _ _ _ _ _ us hl => match us, hl with | [_], _ => rfl
  have D__law_root : Df K mg "_law_root" p__law_root s__law_root := df_mk X G a23 l23 c23 k23 fun _ _ _ _ _ _ us hl => match us, hl with | [_, _, _], _ => rfl
  have D__law_parts : Df K mg "_law_parts" p__law_parts s__law_parts := df_mk X G a24 l24 c24 k24 fun _ _ _ _ _ _ us hl => match us, hl with | [_, _], _ => rfl
  have D__law_is_short : Df K mg "_law_is_short" p__law_is_short s__law_is_short := df_mk X G a25 l25 c25 k25 fun _ _ _ _ _ _ us hl => match us, hl with | [_, _], _ => rfl
  have B : Bl mg := ⟨PySem.W.mg_none_of X G z_len, PySem.W.mg_none_of X G z_all, PySem.W.mg_none_of X G z_reversed, PySem.W.mg_none_of X G z_tuple, PySem.W.mg_none_of X G z_abs, PySem.W.mg_none_of X G z_range, PySem.W.mg_none_of X G z_isinstance, PySem.W.mg_none_of X G z_int, PySem.W.mg_none_of X G z_bool, PySem.W.mg_none_of X G z_ValueError, PySem.W.mg_none_of X G z_list, PySem.W.mg_none_of X G z_sum, PySem.W.mg_none_of X G z_min, PySem.W.mg_none_of X G z_enumerate⟩
  have N : NoN K mg C R := ⟨PySem.W.mg_of X G gC, PySem.W.mg_of X G gR, xC, kC, bC, tC, bR, dR, tR, sR, ⟨e1, e2, bC, e4, e5, e6, e7, e8⟩, kit_vt (by decide +kernel) iV, PySem.W.mg_none_of X G z_ValueError, PySem.W.mg_none_of X G z_isinstance⟩
  have F := fun_mk (st := s_law) l26 c26 k26
  refine ⟨PySem.W.fnOf "law" "law" (defArgs s_law) (defBody s_law) (defScope s_law) .none kV26 dc26 pm26 an26 cd26 ct26, fun s v => .of_eq rfl, fun base _ _ => ?_⟩
  have Cd0 := ok_divisor (P := l.prog) (w := w) (base := base) D_divisor B
  have Cls := ok_least_square (P := l.prog) (w := w) (base := base) D_least_square
  have Ch := ok_heart (P := l.prog) (w := w) (base := base) D_heart
  have Cs0 := ok_is_square D_is_square Cls
  have Cro := ok_root_of D_root_of N Ch Cs0 Cd0
  have Cpo := ok_part_of D_part_of B Ch Cls
  have Cmo := ok_moved (P := l.prog) (w := w) (base := base) D_moved
  have Ct := ok_turned D_turned Cmo Cro
  have Cr := ok_rounds_of D_rounds_of B Cpo Ct
  have Cpr := ok_product (P := l.prog) (w := w) (base := base) D_product
  have Cap := ok_are_parts (P := l.prog) (w := w) (base := base) D_are_parts B
  have Clf := ok_led_from D_led_from Cro
  have Cb := ok_root_by D_root_by B N Cap Cpr Cro Clf
  have Cc := ok__law_cell (P := l.prog) (w := w) (base := base) D__law_cell B
  have Cm := ok__law_mix (P := l.prog) (w := w) (base := base) D__law_mix
  have Cw := ok__law_whole (P := l.prog) (w := w) (base := base) D__law_whole B
  have Cd := ok__law_divisor (P := l.prog) (w := w) (base := base) D__law_divisor B
  have Cq := ok__law_square (P := l.prog) (w := w) (base := base) D__law_square
  have Crd := ok__law_root D__law_root B Cm Cq Cd
  have Cp := ok__law_parts D__law_parts B Cpo Ct
  have Csh := ok_is_short (P := l.prog) (w := w) (base := base) D__law_is_short B
  have Cfp := ok_first_parts D_first_parts B Cpo Ct
  exact ok_law F B Cc Crd Cr Cw Cp Csh Cfp Cb
end RR
open PySem PySem.W PyProof.Rows
set_option maxHeartbeats 0 in
theorem PySem.Challenge.cw_rootrow_k11_whole_rows_go_round_holds : PySem.Challenge.rw_rootrow_k11_whole_rows_go_round.Holds := by
  w_on; o_law; k_head; (case hw => w_witness2)
  k_fill
  refine L2.walk_of (l := PySem.Challenge.rw_rootrow_k11_whole_rows_go_round) (n := 63) (k := 40) (x := "_law_script") (CX := fun _ => L2.CX0) (sp := fun w => RR.sp_law _) rfl (by decide) rfl ⟨rfl, by decide, by decide⟩ (fun w h Y => PySem.W.kIn_of Y) ?F (fun _ _ a ns hl _ hS => ⟨a, ns, rfl, hS, hl, fun _ => rfl⟩) (fun _ _ _ _ _ h => h)
  case F =>
    intro w mg fa h KX G hmg
    refine' RR.all_mk KX G hmg ?a0 ?l0 ?c0 ?k0 ?a1 ?l1 ?c1 ?k1 ?a2 ?l2 ?c2 ?k2 ?a3 ?l3 ?c3 ?k3 ?a4 ?l4 ?c4 ?k4 ?a5 ?l5 ?c5 ?k5 ?a6 ?l6 ?c6 ?k6 ?a7 ?l7 ?c7 ?k7 ?a8 ?l8 ?c8 ?k8 ?a9 ?l9 ?c9 ?k9 ?a10 ?l10 ?c10 ?k10 ?a11 ?l11 ?c11 ?k11 ?a12 ?l12 ?c12 ?k12 ?a13 ?l13 ?c13 ?k13 ?a14 ?l14 ?c14 ?k14 ?a15 ?l15 ?c15 ?k15 ?a16 ?l16 ?c16 ?k16 ?a17 ?l17 ?c17 ?k17 ?a18 ?l18 ?c18 ?k18 ?a21 ?l21 ?c21 ?k21 ?a23 ?l23 ?c23 ?k23 ?a24 ?l24 ?c24 ?k24 ?a25 ?l25 ?c25 ?k25 ?a26 ?l26 ?c26 ?k26 ?z_len ?z_all ?z_reversed ?z_tuple ?z_abs ?z_range ?z_isinstance ?z_int ?z_bool ?z_ValueError ?z_list ?z_sum ?z_min ?z_enumerate ?gC ?gR ?xC ?kC ?bC ?tC ?bR ?dR ?tR ?sR ?e1 ?e2 ?e4 ?e5 ?e6 ?e7 ?e8 ?iV
    (case a0 => k_is)
    (case l0 => k_is)
    (case c0 => k_is)
    (case k0 => k_is)
    (case a1 => k_is)
    (case l1 => k_is)
    (case c1 => k_is)
    (case k1 => k_is)
    (case a2 => k_is)
    (case l2 => k_is)
    (case c2 => k_is)
    (case k2 => k_is)
    (case a3 => k_is)
    (case l3 => k_is)
    (case c3 => k_is)
    (case k3 => k_is)
    (case a4 => k_is)
    (case l4 => k_is)
    (case c4 => k_is)
    (case k4 => k_is)
    (case a5 => k_is)
    (case l5 => k_is)
    (case c5 => k_is)
    (case k5 => k_is)
    (case a6 => k_is)
    (case l6 => k_is)
    (case c6 => k_is)
    (case k6 => k_is)
    (case a7 => k_is)
    (case l7 => k_is)
    (case c7 => k_is)
    (case k7 => k_is)
    (case a8 => k_is)
    (case l8 => k_is)
    (case c8 => k_is)
    (case k8 => k_is)
    (case a9 => k_is)
    (case l9 => k_is)
    (case c9 => k_is)
    (case k9 => k_is)
    (case a10 => k_is)
    (case l10 => k_is)
    (case c10 => k_is)
    (case k10 => k_is)
    (case a11 => k_is)
    (case l11 => k_is)
    (case c11 => k_is)
    (case k11 => k_is)
    (case a12 => k_is)
    (case l12 => k_is)
    (case c12 => k_is)
    (case k12 => k_is)
    (case a13 => k_is)
    (case l13 => k_is)
    (case c13 => k_is)
    (case k13 => k_is)
    (case a14 => k_is)
    (case l14 => k_is)
    (case c14 => k_is)
    (case k14 => k_is)
    (case a15 => k_is)
    (case l15 => k_is)
    (case c15 => k_is)
    (case k15 => k_is)
    (case a16 => k_is)
    (case l16 => k_is)
    (case c16 => k_is)
    (case k16 => k_is)
    (case a17 => k_is)
    (case l17 => k_is)
    (case c17 => k_is)
    (case k17 => k_is)
    (case a18 => k_is)
    (case l18 => k_is)
    (case c18 => k_is)
    (case k18 => k_is)
    (case a21 => k_is)
    (case l21 => k_is)
    (case c21 => k_is)
    (case k21 => k_is)
    (case a23 => k_is)
    (case l23 => k_is)
    (case c23 => k_is)
    (case k23 => k_is)
    (case a24 => k_is)
    (case l24 => k_is)
    (case c24 => k_is)
    (case k24 => k_is)
    (case a25 => k_is)
    (case l25 => k_is)
    (case c25 => k_is)
    (case k25 => k_is)
    (case a26 => k_is)
    (case l26 => k_is)
    (case c26 => k_is)
    (case k26 => k_is)
    (case z_len => k_is)
    (case z_all => k_is)
    (case z_reversed => k_is)
    (case z_tuple => k_is)
    (case z_abs => k_is)
    (case z_range => k_is)
    (case z_isinstance => k_is)
    (case z_int => k_is)
    (case z_bool => k_is)
    (case z_ValueError => k_is)
    (case z_list => k_is)
    (case z_sum => k_is)
    (case z_min => k_is)
    (case z_enumerate => k_is)
    (case gC => k_is)
    (case gR => k_is)
    (case xC => first | k_exc | k_is)
    (case kC => k_is)
    (case bC => k_is)
    (case tC => k_is)
    (case bR => k_is)
    (case dR => k_is)
    (case tR => k_is)
    (case sR => k_is)
    (case e1 => k_is)
    (case e2 => k_is)
    (case e4 => k_is)
    (case e5 => k_is)
    (case e6 => k_is)
    (case e7 => k_is)
    (case e8 => k_is)
    (case iV => k_is)
