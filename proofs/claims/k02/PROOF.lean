import PyProof.Rows.All
import Wide.All
import OpenK.AllK
import Wide.FinOn
import HandS.ForMost
import HandS.ForExc
import HandS.Wide
import HandS.Rev
import HandS.IsInst
import HandS.ExcIs
import HandS.TupAny
import HandS.More
import PySem.Challenge.RW_rootrow_k02_whole_rows_of_fractions
set_option Elab.async false
set_option linter.all false
set_option maxRecDepth 100000
set_option maxHeartbeats 4000000
/-! RRK: what all laws share: a callee by name, a def by name, loops and comprehensions in short. -/
namespace RR
open PySem PySem.Spec PyProof.Rows L2

/-! ### defs by name -/
/-- a def that stands at the top, by its name -/
structure Df (K : PySem.W.Frag) (mg : Str → Option Value) (x : Str) (ps : List Str) (st : Stmt) : Prop where
  ex : ∃ f fd, Fun K x x st f fd ∧ Binds K fd ps [] ∧ mg x = some (.ref f)
/-- a callee by its name: it keeps its promise -/
structure Cal (P : Program) (w : World) (K : PySem.W.Frag) (mg : Str → Option Value) (base : Heap) (CX : CXT) (k : Nat) (x : Str) (ps : List Str) (sp : Sp) : Prop where
  ex : ∃ f fd, FnOk P w K mg base CX k f fd ps sp ∧ PySem.W.keepIn K (.ref f) = true ∧ Binds K fd ps [] ∧ mg x = some (.ref f)
theorem Df.cal {P : Program} {w : World} {K : PySem.W.Frag} {mg : Str → Option Value} {base : Heap} {CX : CXT} {k : Nat} {x : Str} {ps : List Str} {st : Stmt} {sp : Sp} (D : Df K mg x ps st)
    (h : ∀ f fd, Fun K x x st f fd → FnOk P w K mg base CX k f fd ps sp) : Cal P w K mg base CX k x ps sp := by
  obtain ⟨f, fd, F, b, g⟩ := D.ex
  exact ⟨f, fd, h f fd F, F.kp, b, g⟩
theorem pe_cal {X : Cx} {CX : CXT} {k k' : Nat} {x : Str} {ps : List Str} {sp : Sp} {E : XK} {e : Expr} {es : List Expr} {t : TA} {p pos : Pos} (C : Cal X.prog X.w X.K X.mg X.base CX k x ps sp) (hr : Room k' X.A) (hk : k ≤ k') (hg : Gl X x) (hx : Passes CX X E)
    (ha : PA X (e :: es) t) (hdb : (x == ("__debug__" : Str)) = false := by decide) (he : starEach (e :: es) X.env = (false, eval e X.env) :: starEach es X.env := by rfl) (hpl : (backTo pos (starEach es X.env)).any (·.1) = false := by rfl) :
    PE X (.Call (.Name x p) (e :: es) [] pos) (tCall sp [] E t) := by
  obtain ⟨f, fd, F, kp, b, g⟩ := C.ex
  exact pe_call F (hr.mono hk) hg g kp b .nil hx ha hdb he hpl
theorem pe_calS {X : Cx} {CX : CXT} {k k' : Nat} {x : Str} {ps : List Str} {sp : Sp} {E : L2.St → XK} {e : Expr} {es : List Expr} {t : TA} {p pos : Pos} (C : Cal X.prog X.w X.K X.mg X.base CX k x ps sp) (hr : Room k' X.A) (hk : k ≤ k') (hg : Gl X x) (hx : ∀ σ, PassesAt CX X σ (E σ))
    (ha : PA X (e :: es) t) (hdb : (x == ("__debug__" : Str)) = false := by decide) (he : starEach (e :: es) X.env = (false, eval e X.env) :: starEach es X.env := by rfl) (hpl : (backTo pos (starEach es X.env)).any (·.1) = false := by rfl) :
    PE X (.Call (.Name x p) (e :: es) [] pos) (tCallS sp E t) := by
  obtain ⟨f, fd, F, kp, b, g⟩ := C.ex
  exact pe_callS F (hr.mono hk) hg g kp b hx ha hdb he hpl

theorem df_mk {K : PySem.W.Frag} {h : Heap} {mg : Str → Option Value} {x : Str} {ps : List Str} {st : Stmt} {f : Addr} {oc : Value} {od an : Option Addr} {osl : Array (Option Value)} {kV doc pm cdv ct : Value} (X : K.In h) (G : h.Ns mainGlobals mg)
    (a : PySem.W.nsIn K mainGlobals x = some (some (.ref f))) (l : K.lookup f = some ⟨oc, od, .func (PySem.W.fnOf x x (defArgs st) (defBody st) (defScope st) .none kV doc pm an cdv ct), osl⟩) (c : PySem.W.codeIn K cdv x = true) (k : PySem.W.keepIn K (.ref f) = true)
    (hb : ∀ (kV doc pm : Value) (an : Option Addr) (cdv ct : Value) (us : List Value), us.length = ps.length → bindArgs (PySem.W.fnOf x x (defArgs st) (defBody st) (defScope st) .none kV doc pm an cdv ct) ⟨us, []⟩ = pure (ps.zip us)) : Df K mg x ps st := by
  have F := fun_mk (st := st) l c k
  exact ⟨f, _, F, F.binds hb, PySem.W.mg_of X G a⟩
/-- the built-ins' names: none stands at the top -/
structure Bl (mg : Str → Option Value) : Prop where
  len : mg "len" = none
  all : mg "all" = none
  reversed : mg "reversed" = none
  tuple : mg "tuple" = none
  abs : mg "abs" = none
  range : mg "range" = none
  isinstance : mg "isinstance" = none
  int : mg "int" = none
  bool : mg "bool" = none
  ValueError : mg "ValueError" = none
  list : mg "list" = none
  sum : mg "sum" = none
  min : mg "min" = none
  enumerate : mg "enumerate" = none

/-! ### heaps -/
theorem same_upd {H : Hp} {p : Addr} {o : HO} (h : H p = none) : Same H (upd H p o) := fun b x e => by
  rw [upd_ne (ne_of_none e h)]
  exact e
theorem same_updO {H H' : Hp} {p : Addr} {o : HO} (s : Same H H') (h : H p = none) : Same H (upd H' p o) := fun b x e => by
  rw [upd_ne (ne_of_none e h)]
  exact s b x e
abbrev tI (ns : List Int) : HO := .tup (ns.map V.int)
abbrev lI (ns : List Int) : HO := .lst (ns.map V.int)
theorem small_of {n : Nat} (h : n ≤ 10000000) : n < sizeLine := by rw [sizeLine_eq]; omega
theorem small_le {n : Nat} (h : n ≤ 10000000) : n ≤ sizeLine := Nat.le_of_lt (small_of h)

/-! ### the error's class -/
/-- what the top says of NoNumber at C, under RowError at R -/
structure NoN (K : PySem.W.Frag) (mg : Str → Option Value) (C R : Addr) : Prop where
  g : mg "NoNumber" = some (.ref C)
  gR : mg "RowError" = some (.ref R)
  x : PySem.W.excIn K C [.type "ValueError", .type "Exception", .type "BaseException", .type "object"] "ValueError.__new__" = true
  k : PySem.W.keepIn K (.ref C) = true
  b : PySem.W.subIn K (.ref C) (.type "BaseException") = some true
  t : PySem.W.typeIn K (.ref C) = some (.type "type")
  bR : PySem.W.subIn K (.ref R) (.type "BaseException") = some true
  dR : PySem.W.hasDictIn K R = true
  tR : PySem.W.typeIn K (.ref R) = some (.type "type")
  sR : PySem.W.subIn K (.ref C) (.ref R) = some true
  ec : ExcC K C
  iV : PySem.W.kitOne K (.ref C) (.type "ValueError") = some true
  mV : mg "ValueError" = none
  mI : mg "isinstance" = none
theorem NoN.ex {K : PySem.W.Frag} {mg : Str → Option Value} {C R : Addr} (N : NoN K mg C R) : PySem.W.exmOne K (.ref C) (.ref R) = some true := PySem.W.exm_ref N.bR N.dR N.tR N.sR
theorem NoN.iC {K : PySem.W.Frag} {mg : Str → Option Value} {C R : Addr} (N : NoN K mg C R) : PySem.W.kitOne K (.ref C) (.ref C) = some true := by
  unfold PySem.W.kitOne
  rw [if_pos (by simp)]
theorem ps_no {X : Cx} {W : WX} {C R : Addr} {m : Str} {j : Nat} {p p2 pos pos' : Pos} (N : NoN X.K X.mg C R) (hc : X.calm = true) (tk : Takes X W) (hg : Gl X "NoNumber") :
    PS X (.Raise (some (.Call (.Name "NoNumber" p) [.Constant (.str m) j p2] [] pos)) none pos') (fun _ σ H => W (.ref C) none σ H) :=
  ps_raise hc tk (pmk_own PySem.F.excBase_ValueError N.x N.g N.k (raises_own N.b N.t) hg)

/-- isinstance(e, c) in a suite that holds an exception of any class -/
theorem pe_isE {X : Cx} {a C : Addr} {oe : Obj} {pn : List (Addr × Obj)} {cls : Value} {d : Option Addr} {x : Str} {e : Expr} {es : List Expr} {t : TA} {p pos : Pos} (EC : ExcC X.K C) (hz : Zc cls d oe) (hf : ∃ vs, oe.data = .fields vs)
    (hg : Gl (X.suite a ((a, oe) :: pn)) x) (hm : (X.suite a ((a, oe) :: pn)).mg x = none) (hv : bootBuiltins x = some (.builtin "isinstance")) (ha : PA (X.suite a ((a, oe) :: pn)) (e :: es) t) (hn : x ≠ "__name__" := by decide) (hdb : (x == ("__debug__" : Str)) = false := by decide)
    (he : starEach (e :: es) (X.suite a ((a, oe) :: pn)).env = (false, eval e (X.suite a ((a, oe) :: pn)).env) :: starEach es (X.suite a ((a, oe) :: pn)).env := by rfl) (hpl : (backTo pos (starEach es (X.suite a ((a, oe) :: pn)).env)).any (·.1) = false := by rfl) :
    PE (X.suite a ((a, oe) :: pn)) (.Call (.Name x p) (e :: es) [] pos) (fun σ H Q => cls = .ref C ∧ d = none ∧ tCB (rIsE X.K C a) t σ H Q) := by
  refine ⟨fun pins s σ H Q I h => ?_⟩
  obtain ⟨rfl, rfl, h⟩ := h
  exact (pe_callB (call_isE EC hz hf) hg hm hv ha hn hdb he hpl).run pins s σ H Q I h
theorem kit_vt {K : PySem.W.Frag} {C : Addr} {T : String} (m : PySem.W.kitMeta T = true) (h : PySem.W.subIn K (.ref C) (.type T) = some true) : PySem.W.kitOne K (.ref C) (.type T) = some true := by
  unfold PySem.W.kitOne
  split
  · rfl
  · show (if PySem.W.kitMeta T = true then PySem.W.subIn K (.ref C) (.type T) else none) = some true
    rw [if_pos m]
    exact h
theorem relV_ref {a : Addr} {u : Value} (h : RelV (.ref a) u) : u = .ref a := h
theorem relV_ty {n : String} {u : Value} (h : RelV (.ty n) u) : u = .type n := h

/-! ### numbers -/
/-- // of great numbers by any but 0 -/
def CDivWN (_ j : Int) : Prop := j ≠ 0 ∧ j.natAbs.log2 < 9000
theorem op_fdivWN {X : Cx} : OpR X (binaryOp .FloorDiv) (rI CDivWN fun i j => .int (i.fdiv j)) := opI fun _ _ _ _ _ _ _ hc q => floordiv_int hc.1 q (.inl (PyProof.noPylong_of_log2 hc.2))

/-! ### a statement, then the rest, with a word between them -/
def tMid (t u : TS) : TS := fun D σ H => ∃ Mid : L2.St → Hp → Prop, t { D with nx := Mid } σ H ∧ ∀ σ' H', Mid σ' H' → u D σ' H'
theorem pss_mid {X : Cx} {st : Stmt} {rest : List Stmt} {t u : TS} (h1 : PS X st t) (h2 : PSs X rest u) : PSs X (st :: rest) (tMid t u) := by
  refine ⟨fun pins s σ H D I h => ?_⟩
  obtain ⟨Mid, hm, hu⟩ := h
  refine wpAny_execs_cons (thn (h1.run pins s σ H { D with nx := Mid } I hm) fun f s1 q => ?_)
  cases f with
  | next =>
    obtain ⟨σ', H', I', q⟩ := q
    exact h2.run pins s1 σ' H' D I' (hu σ' H' q)
  | ret v => exact q
  | brk => exact q
  | cont => exact q

/-! ### slices -/
theorem cutV_from {xs : List V} {k : Nat} : cutV xs (some (k : Int)) none = xs.drop k := by
  unfold cutV
  rw [HT.sIx_nat xs.length 0 k, HT.sIx_none]
  by_cases h : k ≤ xs.length
  · rw [Nat.min_eq_left h]
    exact List.take_of_length_le (by rw [List.length_drop]; exact Nat.le_refl _)
  · rw [Nat.min_eq_right (by omega), Nat.sub_self, List.take_zero, List.drop_of_length_le (by omega)]
theorem cutV_to {xs : List V} {k : Nat} : cutV xs none (some (k : Int)) = xs.take k := by
  unfold cutV
  rw [HT.sIx_nat xs.length xs.length k, HT.sIx_none, List.drop_zero, Nat.sub_zero]
  by_cases h : k ≤ xs.length
  · rw [Nat.min_eq_left h]
  · rw [Nat.min_eq_right (by omega), List.take_of_length_le (Nat.le_refl _), List.take_of_length_le (by omega)]
theorem cutV_both {xs : List V} {j k : Nat} (h : j ≤ k) : cutV xs (some (j : Int)) (some (k : Int)) = (xs.drop j).take (k - j) := by
  unfold cutV
  rw [HT.sIx_nat xs.length xs.length k, HT.sIx_nat xs.length 0 j]
  by_cases h1 : k ≤ xs.length
  · rw [Nat.min_eq_left h1, Nat.min_eq_left (by omega)]
  · rw [Nat.min_eq_right (by omega)]
    by_cases h2 : j ≤ xs.length
    · rw [Nat.min_eq_left h2, List.take_of_length_le (by rw [List.length_drop]; exact Nat.le_refl _), List.take_of_length_le (by rw [List.length_drop]; omega)]
    · rw [Nat.min_eq_right (by omega), List.drop_of_length_le (Nat.le_refl _), List.drop_of_length_le (by omega), List.take_nil, List.take_nil]
theorem sIx_one {n d : Nat} : HT.sIx n d (some 1) = min 1 n := HT.sIx_nat n d 1
theorem sIx_neg {n d k : Nat} (h : 1 ≤ k) : HT.sIx n d (some (-(k : Int))) = n - k := by
  have h := HT.clip_eq (-(k : Int)) n d
  rw [if_pos (by omega)] at h
  omega
theorem cutV_but {xs : List V} {k : Nat} (h : 1 ≤ k) : cutV xs none (some (-(k : Int))) = xs.take (xs.length - k) := by
  unfold cutV
  rw [sIx_neg h, HT.sIx_none, List.drop_zero, Nat.sub_zero]
theorem atI_neg {xs : List V} {k : Nat} {v : V} (h : 1 ≤ k) (h2 : k ≤ xs.length) (e : xs[xs.length - k]? = some v) : atI xs (-(k : Int)) = some v := by
  unfold atI ixN
  rw [if_neg (by omega), if_pos (by omega)]
  show xs[(-(k : Int) + (xs.length : Int)).toNat]? = some v
  rw [show (-(k : Int) + (xs.length : Int)).toNat = xs.length - k by omega]
  exact e
theorem sIx_neg1 {n d : Nat} : HT.sIx n d (some (-1)) = n - 1 := by
  have h := HT.clip_eq (-1) n d
  rw [if_pos (by decide)] at h
  omega
theorem cutV_init {xs : List V} : cutV xs none (some (-1)) = xs.dropLast := by
  unfold cutV
  rw [sIx_neg1, HT.sIx_none, List.drop_zero, Nat.sub_zero, List.dropLast_eq_take]

/-! ### comprehensions that map -/
theorem yes_of {σ : L2.St} {H : Hp} {A B : Hp → Prop} (h : A H) : tYes σ H fun b H3 => if b = true then A H3 else B H3 := by
  show if true = true then A H else B H
  rw [if_pos rfl]
  exact h
theorem lc_mapL {K : PySem.W.Frag} {a : Addr} {xs ys : List V} {j : Nat} {te : TE} {vs : List Nat} {σ : L2.St} {H1 : Hp} {Qd : Addr → Hp → Prop} (hl : ys.length = xs.length) (hx : xs.length < sizeLine) (hA : SqL K H1 a xs) (hw : ∀ x, wipe ((wipe σ vs).set j (some x)) vs = wipe σ vs)
    (hs : ∀ (i : Nat) x y H Q, xs[i]? = some x → ys[i]? = some y → Same H1 H → (∀ H', Same H H' → Q y H') → te ((wipe σ vs).set j (some x)) H Q)
    (hd : ∀ D H, Same H1 H → H D = some (.lst ys) → H1 D = none → Qd D H) : ∀ D, H1 D = none →
    ∃ W : Nat → Nat → Hp → Prop, (∃ m, W 0 m (upd H1 D (.lst []))) ∧ ∀ i m H, W i m H →
      ((Itl K a).stop i H ∧ Qd D H) ∨ ((Itl K a).go i H ∧ ∃ Nx : Hp → Prop, (∀ H', Nx H' → ∃ m', m' < m ∧ W (i + 1) m' H') ∧ ∀ x H', (Itl K a).yld i H x H' → gName j x (wipe σ vs) H' fun σ2 H2 => wipe σ2 vs = wipe σ vs ∧ tYes σ2 H2 fun b H3 =>
        if b = true then te σ2 H3 fun y H4 => ∃ acc, H4 D = some (.lst acc) ∧ acc.length < sizeLine ∧ Nx (upd H4 D (.lst (acc ++ [y]))) else Nx H3) := fun D hD => by
  refine lc_list (K := K) (a := a) (xs := xs) (fun i H => Same H1 H ∧ H D = some (.lst (ys.take i))) ⟨same_upd hD, upd_same⟩ (fun i H _ h => h.1.seq hA) (fun i x H hi h => ?_) (fun H h => hd D H h.1 (by rw [h.2, ← hl, List.take_length]) hD)
  have hi' : i < ys.length := by
    rw [hl]
    exact (List.getElem?_eq_some_iff.mp hi).1
  refine ⟨hw x, yes_of (hs i x ys[i] H _ hi (List.getElem?_eq_getElem hi') h.1 fun H' s' => ⟨_, s' _ _ h.2, ?_, ?_, ?_⟩)⟩
  · rw [List.length_take]
    omega
  · exact same_updO (h.1.trans s') hD
  · rw [upd_same, List.take_add_one, List.getElem?_eq_getElem hi']
    rfl
theorem lc_mapT {K : PySem.W.Frag} {a : Addr} {xs ys : List V} {j : Nat} {te : TE} {vs : List Nat} {σ : L2.St} {H1 : Hp} {Qd : Addr → Hp → Prop} (hl : ys.length = xs.length) (hx : xs.length < sizeLine) (hA : H1 a = some (.tup xs)) (hw : ∀ x, wipe ((wipe σ vs).set j (some x)) vs = wipe σ vs)
    (hs : ∀ (i : Nat) x y H Q, xs[i]? = some x → ys[i]? = some y → Same H1 H → (∀ H', Same H H' → Q y H') → te ((wipe σ vs).set j (some x)) H Q)
    (hd : ∀ D H, Same H1 H → H D = some (.lst ys) → H1 D = none → Qd D H) : ∀ D, H1 D = none →
    ∃ W : Nat → Nat → Hp → Prop, (∃ m, W 0 m (upd H1 D (.lst []))) ∧ ∀ i m H, W i m H →
      ((Itt K a).stop i H ∧ Qd D H) ∨ ((Itt K a).go i H ∧ ∃ Nx : Hp → Prop, (∀ H', Nx H' → ∃ m', m' < m ∧ W (i + 1) m' H') ∧ ∀ x H', (Itt K a).yld i H x H' → gName j x (wipe σ vs) H' fun σ2 H2 => wipe σ2 vs = wipe σ vs ∧ tYes σ2 H2 fun b H3 =>
        if b = true then te σ2 H3 fun y H4 => ∃ acc, H4 D = some (.lst acc) ∧ acc.length < sizeLine ∧ Nx (upd H4 D (.lst (acc ++ [y]))) else Nx H3) := fun D hD => by
  refine lc_tup (K := K) (a := a) (xs := xs) (fun i H => Same H1 H ∧ H D = some (.lst (ys.take i))) ⟨same_upd hD, upd_same⟩ (fun i H _ h => .of (h.1 _ _ hA)) (fun i x H hi h => ?_) (fun H h => hd D H h.1 (by rw [h.2, ← hl, List.take_length]) hD)
  have hi' : i < ys.length := by
    rw [hl]
    exact (List.getElem?_eq_some_iff.mp hi).1
  refine ⟨hw x, yes_of (hs i x ys[i] H _ hi (List.getElem?_eq_getElem hi') h.1 fun H' s' => ⟨_, s' _ _ h.2, ?_, ?_, ?_⟩)⟩
  · rw [List.length_take]
    omega
  · exact same_updO (h.1.trans s') hD
  · rw [upd_same, List.take_add_one, List.getElem?_eq_getElem hi']
    rfl
/-! ### tuples and lists of ints: ==, !=, sum, in -/
theorem canAll_ints : ∀ ns : List Int, PyData.canLayAll0 (ns.map PyData.int) = true
  | [] => rfl
  | _ :: ns => by
    show (PyData.canLay0 (.int _) && PyData.canLayAll0 (ns.map PyData.int)) = true
    rw [canAll_ints ns]
    rfl
theorem depthAll_ints : ∀ ns : List Int, PyData.depthAll (ns.map PyData.int) = 0
  | [] => rfl
  | _ :: ns => by
    show max (PyData.depth (.int _)) (PyData.depthAll (ns.map PyData.int)) = 0
    rw [depthAll_ints ns]
    rfl
theorem sh_tup (ns : List Int) : SeqAt.shaped (.tuple (ns.map PyData.int)) = true := by
  unfold SeqAt.shaped
  rw [Bool.and_eq_true]
  refine ⟨canAll_ints ns, decide_eq_true ?_⟩
  show PyData.depthAll (ns.map PyData.int) + 1 ≤ 64
  rw [depthAll_ints]
  decide
theorem sh_lst (ns : List Int) : SeqAt.shaped (.list (ns.map PyData.int)) = true := by
  unfold SeqAt.shaped
  rw [Bool.and_eq_true]
  refine ⟨canAll_ints ns, decide_eq_true ?_⟩
  show PyData.depthAll (ns.map PyData.int) + 1 ≤ 64
  rw [depthAll_ints]
  decide
theorem eqvAll_ints : ∀ ns ms : List Int, PyData.eqvAll (ns.map PyData.int) (ms.map PyData.int) = decide (ns = ms)
  | [], [] => rfl
  | [], _ :: _ => rfl
  | _ :: _, [] => rfl
  | n :: ns, m :: ms => by
    show (n == m && PyData.eqvAll (ns.map PyData.int) (ms.map PyData.int)) = _
    rw [eqvAll_ints ns ms]
    by_cases h : n = m
    · subst h
      simp
    · simp [h]
theorem dp_ints {K : PySem.W.Frag} {H : Hp} : ∀ ns : List Int, DpAll K H (ns.map V.int) (ns.map PyData.int)
  | [] => .nil
  | n :: ns => .cons (.int n) (dp_ints ns)
def rEqT (K : PySem.W.Frag) : R2 := fun x y H Q => ∃ (a b : Addr) (ns ms : List Int), x = .ref a ∧ y = .ref b ∧ SqT K H a (ns.map V.int) ∧ SqT K H b (ms.map V.int) ∧ Q (.bl (decide (ns = ms))) H
def rNeT (K : PySem.W.Frag) : R2 := fun x y H Q => ∃ (a b : Addr) (ns ms : List Int), x = .ref a ∧ y = .ref b ∧ SqT K H a (ns.map V.int) ∧ SqT K H b (ms.map V.int) ∧ Q (.bl (!decide (ns = ms))) H
def rEqLI (K : PySem.W.Frag) : R2 := fun x y H Q => ∃ (a b : Addr) (ns ms : List Int), x = .ref a ∧ y = .ref b ∧ SqL K H a (ns.map V.int) ∧ SqL K H b (ms.map V.int) ∧ Q (.bl (decide (ns = ms))) H
def rNeLI (K : PySem.W.Frag) : R2 := fun x y H Q => ∃ (a b : Addr) (ns ms : List Int), x = .ref a ∧ y = .ref b ∧ SqL K H a (ns.map V.int) ∧ SqL K H b (ms.map V.int) ∧ Q (.bl (!decide (ns = ms))) H
section
variable {X : Cx} {k : Nat}
theorem op_eqT (hr : Room k X.A) : OpR X (compareOp .Eq) (rEqT X.K) := by
  intro pins s σ H x y v u Q I rx ry h
  obtain ⟨a, b, ns, ms, rfl, rfl, ha, hb, q⟩ := h
  refine op_eqD hr.units pins s σ H _ _ v u Q I rx ry ⟨_, _, .tup ha (dp_ints ns), .tup hb (dp_ints ms), sh_tup ns, sh_tup ms, ?_⟩
  show Q (.bl (PyData.eqvAll _ _)) H
  rw [eqvAll_ints]
  exact q
theorem op_neT (hr : Room k X.A) : OpR X (compareOp .NotEq) (rNeT X.K) := by
  intro pins s σ H x y v u Q I rx ry h
  obtain ⟨a, b, ns, ms, rfl, rfl, ha, hb, q⟩ := h
  refine op_neD hr.units pins s σ H _ _ v u Q I rx ry ⟨_, _, .tup ha (dp_ints ns), .tup hb (dp_ints ms), sh_tup ns, sh_tup ms, ?_⟩
  show Q (.bl (!PyData.eqvAll _ _)) H
  rw [eqvAll_ints]
  exact q
theorem op_eqLI (hr : Room k X.A) : OpR X (compareOp .Eq) (rEqLI X.K) := by
  intro pins s σ H x y v u Q I rx ry h
  obtain ⟨a, b, ns, ms, rfl, rfl, ha, hb, q⟩ := h
  refine op_eqD hr.units pins s σ H _ _ v u Q I rx ry ⟨_, _, .lst ha (dp_ints ns), .lst hb (dp_ints ms), sh_lst ns, sh_lst ms, ?_⟩
  show Q (.bl (PyData.eqvAll _ _)) H
  rw [eqvAll_ints]
  exact q
theorem op_neLI (hr : Room k X.A) : OpR X (compareOp .NotEq) (rNeLI X.K) := by
  intro pins s σ H x y v u Q I rx ry h
  obtain ⟨a, b, ns, ms, rfl, rfl, ha, hb, q⟩ := h
  refine op_neD hr.units pins s σ H _ _ v u Q I rx ry ⟨_, _, .lst ha (dp_ints ns), .lst hb (dp_ints ms), sh_lst ns, sh_lst ms, ?_⟩
  show Q (.bl (!PyData.eqvAll _ _)) H
  rw [eqvAll_ints]
  exact q
/-- sum(t) of a tuple of ints -/
def rSumT (K : PySem.W.Frag) : List V → Hp → VK → Prop := fun vs H Q => ∃ (a : Addr) (ns : List Int), vs = [V.ref a] ∧ SqT K H a (ns.map V.int) ∧ Q (.int ns.sum) H
theorem cr_sumT (hc : X.calm = true) : CallR X (.builtin "sum") (rSumT X.K) := by
  intro pins s σ H vs us Q I r h
  obtain ⟨a, ns, rfl, hs, q⟩ := h
  obtain ⟨its, rv, ht, _⟩ := I.tuple hs
  rw [Vals.ref1 r]
  have hi := rv.ints
  obtain ⟨xs, e⟩ := hi.allInts.items
  have hn : numsOf (intItems xs).toList = ns := by rw [← e]; exact hi.numsOf
  rw [nums_intItems] at hn
  rw [e] at ht
  refine PySem.W.ktm_sumG (I.ok.hd hc) ht fun h' tk t' hk => ⟨.int _, H, I.kept hk, ⟨_, rfl⟩, ?_⟩
  rw [preSum_eq, List.take_of_length_le (by simp), hn]
  exact q
end
/-- x in xs within a comprehension, the written part named -/
theorem op_inK {X : Cx} (K : PySem.W.Frag) (h : X.K = K := by rfl) : OpR X (compareOp .In) (rIn K false) := by
  subst h
  exact op_in_seq
theorem in01 (z : Int) : inV (.int z) [V.int 0, V.int 1] = decide (z = 0 ∨ z = 1) := by
  show ((0 : Int) == z || ((1 : Int) == z || false)) = _
  by_cases h0 : z = 0
  · subst h0
    rfl
  · by_cases h1 : z = 1
    · subst h1
      rfl
    · rw [decide_eq_false (by omega), Bool.or_false, Bool.or_eq_false_iff]
      exact ⟨beq_false_of_ne (fun e => h0 e.symm), beq_false_of_ne (fun e => h1 e.symm)⟩
/-- isinstance(t, tuple) -/
theorem isT_tup {K : PySem.W.Frag} {H : Hp} {a : Addr} {xs : List V} (e : H a = some (.tup xs)) : TyX K H (.ref a) (.type "tuple") := .base (.tup e)
theorem isT_self {K : PySem.W.Frag} {t : Value} : PySem.W.kitOne K t t = some true := by
  unfold PySem.W.kitOne
  rw [if_pos (by simp)]

/-- what every law promises -/
def sp_law (K : PySem.W.Frag) : Sp := fun vs H Q _ => ∃ (a : Addr) (ns : List Int), vs = [.ref a] ∧ SqL K H a (ns.map V.int) ∧ ns.length ≤ 63 ∧ ∀ H', Q (.bl true) H'
end RR
/-! RRM: fractions, rows, ways: plain mathematics. -/
namespace RR

/-! ### the greatest common divisor -/
def dv (a b : Int) : Int := (Int.gcd a b : Int)
theorem gcd_step {x y : Int} (hx : 0 ≤ x) (hy : 0 < y) : Int.gcd y (x % y) = Int.gcd x y := by
  have h1 := Int.emod_nonneg x (show y ≠ 0 by omega)
  obtain ⟨a, rfl⟩ := Int.eq_ofNat_of_zero_le hx
  obtain ⟨b, rfl⟩ := Int.eq_ofNat_of_zero_le (show 0 ≤ y by omega)
  rw [← Int.natCast_emod]
  show Nat.gcd b (a % b) = Nat.gcd a b
  rw [Nat.gcd_comm a b, Nat.gcd_rec b a, Nat.gcd_comm]
theorem gcd_abs (a b : Int) : Int.gcd (if a < 0 then -a else a) (if b < 0 then -b else b) = Int.gcd a b := by
  split <;> split <;> simp only [Int.gcd_neg, Int.neg_gcd]
theorem gcd_end {x y : Int} (hx : 0 ≤ x) (hy : ¬ 0 < y) (h0 : 0 ≤ y) : x = (Int.gcd x y : Int) := by
  have e : y = 0 := by omega
  subst e
  rw [Int.gcd_zero_right]
  omega
theorem dv_nonneg (a b : Int) : 0 ≤ dv a b := Int.natCast_nonneg _
theorem dv_dvd_left (a b : Int) : dv a b ∣ a := Int.gcd_dvd_left a b
theorem dv_dvd_right (a b : Int) : dv a b ∣ b := Int.gcd_dvd_right a b
theorem dv_pos_right {a b : Int} (h : b ≠ 0) : 0 < dv a b := by
  have h1 : 0 < Int.gcd a b := Int.gcd_pos_of_ne_zero_right a h
  unfold dv
  omega
theorem dv_pos_left {a b : Int} (h : a ≠ 0) : 0 < dv a b := by
  have h1 : 0 < Int.gcd a b := Int.gcd_pos_of_ne_zero_left b h
  unfold dv
  omega
theorem dv_comm (a b : Int) : dv a b = dv b a := by
  unfold dv
  rw [Int.gcd_comm]
theorem dvd_dv {k a b : Int} (h1 : k ∣ a) (h2 : k ∣ b) : k ∣ dv a b := Int.dvd_coe_gcd h1 h2
theorem fdiv_neg_dvd {a g : Int} (h : g ∣ a) (hg : g ≠ 0) : a.fdiv (-g) = -(a / g) := by
  obtain ⟨k, rfl⟩ := h
  rw [Int.mul_ediv_cancel_left _ hg, show g * k = (-g) * (-k) by rw [Int.neg_mul_neg], Int.mul_fdiv_cancel_left _ (by omega)]
theorem neg_ediv_dvd {a g : Int} (h : g ∣ a) : (-a) / g = -(a / g) := Int.neg_ediv_of_dvd h
/-- the fraction u divided by l -/
def low (u l : Int) : Int × Int := if l < 0 then ((-u) / dv u l, (-l) / dv u l) else (u / dv u l, l / dv u l)
theorem dv_div {a b : Int} (h : 0 < dv a b) : dv (a / dv a b) (b / dv a b) = 1 := by
  have h1 : 0 < Int.gcd a b := by
    unfold dv at h
    omega
  have h2 := Int.gcd_ediv_gcd_ediv_gcd h1
  unfold dv
  omega
theorem dv_neg_left (a b : Int) : dv (-a) b = dv a b := by
  unfold dv
  rw [Int.neg_gcd]
theorem dv_neg_right (a b : Int) : dv a (-b) = dv a b := by
  unfold dv
  rw [Int.gcd_neg]
/-- what lowest gives, by products: the fraction is lowest and stands for the same -/
structure IsLow (u l p q : Int) : Prop where
  pos : 0 < q
  one : dv p q = 1
  cross : u * q = p * l
theorem low_is {u l : Int} (h : l ≠ 0) : IsLow u l (low u l).1 (low u l).2 := by
  have hg := dv_pos_right (a := u) h
  obtain ⟨a, ha⟩ := dv_dvd_left u l
  obtain ⟨b, hb⟩ := dv_dvd_right u l
  have hg0 : dv u l ≠ 0 := by omega
  have e1 : u / dv u l = a := by conv => lhs; lhs; rw [ha]
                                 exact Int.mul_ediv_cancel_left _ hg0
  have e2 : l / dv u l = b := by conv => lhs; lhs; rw [hb]
                                 exact Int.mul_ediv_cancel_left _ hg0
  have h1 := dv_div hg
  rw [e1, e2] at h1
  unfold low
  split
  · rename_i hl
    rw [neg_ediv_dvd (dv_dvd_left u l), neg_ediv_dvd (dv_dvd_right u l), e1, e2]
    refine ⟨?_, ?_, ?_⟩
    · have : ¬ 0 ≤ b := fun hb0 => by
        have := Int.mul_nonneg (Int.le_of_lt hg) hb0
        omega
      show 0 < -b
      omega
    · show dv (-a) (-b) = 1
      rw [dv_neg_left, dv_neg_right, h1]
    · show u * -b = -a * l
      generalize dv u l = g at *
      subst ha hb
      grind
  · rename_i hl
    rw [e1, e2]
    refine ⟨?_, h1, ?_⟩
    · have : ¬ b ≤ 0 := fun hb0 => by
        have := Int.mul_nonneg (Int.le_of_lt hg) (show 0 ≤ -b by omega)
        rw [Int.mul_neg] at this
        omega
      show 0 < b
      omega
    · show u * b = a * l
      generalize dv u l = g at *
      subst ha hb
      grind
/-- coprime: a divisor of a product -/
theorem dvd_of_mul {k a b : Int} (h : dv k a = 1) (h2 : k ∣ a * b) : k ∣ b := by
  have h1 : Int.gcd k a = 1 := by
    unfold dv at h
    omega
  rw [← Int.natAbs_dvd_natAbs] at h2 ⊢
  rw [Int.natAbs_mul] at h2
  exact Nat.Coprime.dvd_of_dvd_mul_left h1 h2
theorem low_unique {p q r s : Int} (h1 : 0 < q) (h2 : dv p q = 1) (h3 : 0 < s) (h4 : dv r s = 1) (h : p * s = r * q) : p = r ∧ q = s := by
  have a1 : q ∣ s := by
    refine dvd_of_mul (a := p) (by rw [dv_comm]; exact h2) ⟨r, ?_⟩
    rw [h, Int.mul_comm]
  have a2 : s ∣ q := by
    refine dvd_of_mul (a := r) (by rw [dv_comm]; exact h4) ⟨p, ?_⟩
    rw [← h, Int.mul_comm]
  have e : q = s := Int.dvd_antisymm (by omega) (by omega) a1 a2
  subst e
  exact ⟨Int.eq_of_mul_eq_mul_right (by omega) h, rfl⟩
theorem IsLow.eq {u l p q : Int} (h : l ≠ 0) (x : IsLow u l p q) : low u l = (p, q) := by
  have y := low_is (u := u) h
  obtain ⟨x1, x2, x3⟩ := x
  obtain ⟨y1, y2, y3⟩ := y
  have e : p * (low u l).2 = (low u l).1 * q := by
    have : l * (p * (low u l).2) = l * ((low u l).1 * q) := by grind
    exact Int.eq_of_mul_eq_mul_left h this
  obtain ⟨e1, e2⟩ := low_unique x1 x2 y1 y2 e
  rw [e1, e2]
theorem low_self {p q : Int} (h : 0 < q) (h2 : dv p q = 1) : low p q = (p, q) := IsLow.eq (by omega) ⟨h, h2, rfl⟩
theorem low_le {u l : Int} (h : 0 < l) : (low u l).2 ≤ l := by
  have hg := dv_pos_right (a := u) (show l ≠ 0 by omega)
  unfold low
  rw [if_neg (by omega)]
  exact Int.ediv_le_self _ (by omega)
theorem low_abs {u l : Int} (h : l ≠ 0) : (low u l).1.natAbs ≤ u.natAbs ∧ (low u l).2.natAbs ≤ l.natAbs := by
  have hg := dv_pos_right (a := u) h
  have k : ∀ z : Int, dv u l ∣ z → (z / dv u l).natAbs ≤ z.natAbs := fun z hz => by
    obtain ⟨c, rfl⟩ := hz
    rw [Int.mul_ediv_cancel_left _ (by omega), Int.natAbs_mul]
    exact Nat.le_mul_of_pos_left _ (by omega)
  unfold low
  split
  · rw [neg_ediv_dvd (dv_dvd_left u l), neg_ediv_dvd (dv_dvd_right u l)]
    exact ⟨by rw [Int.natAbs_neg]; exact k _ (dv_dvd_left u l), by rw [Int.natAbs_neg]; exact k _ (dv_dvd_right u l)⟩
  · exact ⟨k _ (dv_dvd_left u l), k _ (dv_dvd_right u l)⟩

/-! ### rows -/
/-- what a row stands for -/
def st : List Int → Int × Int
  | [] => (1, 0)
  | x :: r => (x * (st r).1 + (st r).2, (st r).1)
/-- whether a tuple is a row for fraction_of -/
def isRow (xs : List Int) : Bool := !xs.isEmpty && (xs.drop 1).all fun y => decide (1 ≤ y)

/-! ### ways -/
/-- the way to u divided by l -/
def way (u l : Int) : List Int := if h : 1 ≤ u ∧ 1 ≤ l ∧ u ≠ l then (if u < l then 0 :: way u (l - u) else 1 :: way (u - l) l) else []
termination_by (u + l).toNat
decreasing_by all_goals omega
theorem way_eq (u : Int) : way u u = [] := by
  unfold way
  rw [dif_neg (fun h => h.2.2 rfl)]
theorem way_lo {u l : Int} (h1 : 1 ≤ u) (h2 : u < l) : way u l = 0 :: way u (l - u) := by
  conv => lhs; unfold way
  rw [dif_pos ⟨h1, by omega, by omega⟩, if_pos h2]
theorem way_hi {u l : Int} (h1 : 1 ≤ l) (h2 : l < u) : way u l = 1 :: way (u - l) l := by
  conv => lhs; unfold way
  rw [dif_pos ⟨by omega, h1, by omega⟩, if_neg (by omega)]
theorem way_len {u l : Int} (h1 : 1 ≤ u) (h2 : 1 ≤ l) : ((way u l).length : Int) + 2 ≤ u + l := by
  by_cases h : u = l
  · subst h
    rw [way_eq]
    show (0 : Int) + 2 ≤ _
    omega
  · by_cases h3 : u < l
    · have ih := way_len (u := u) (l := l - u) h1 (by omega)
      rw [way_lo h1 h3, List.length_cons]
      omega
    · have ih := way_len (u := u - l) (l := l) (by omega) h2
      rw [way_hi h2 (by omega), List.length_cons]
      omega
termination_by (u + l).toNat
decreasing_by all_goals omega
/-- where a way leads -/
def bw : List Int → Int × Int
  | [] => (1, 1)
  | s :: w => if s = 0 then ((bw w).1, (bw w).1 + (bw w).2) else ((bw w).1 + (bw w).2, (bw w).2)
theorem bw_pos : ∀ w : List Int, 1 ≤ (bw w).1 ∧ 1 ≤ (bw w).2
  | [] => ⟨Int.le_refl 1, Int.le_refl 1⟩
  | s :: w => by
    have ih := bw_pos w
    unfold bw
    split
    · exact ⟨ih.1, by show 1 ≤ (bw w).1 + (bw w).2; omega⟩
    · exact ⟨by show 1 ≤ (bw w).1 + (bw w).2; omega, ih.2⟩
theorem bw_big : ∀ w : List Int, (bw w).1 ≤ 2 ^ w.length ∧ (bw w).2 ≤ 2 ^ w.length
  | [] => ⟨Int.le_refl 1, Int.le_refl 1⟩
  | s :: w => by
    have ih := bw_big w
    have p := bw_pos w
    unfold bw
    rw [List.length_cons, Int.pow_succ]
    split
    · exact ⟨by show (bw w).1 ≤ _; omega, by show (bw w).1 + (bw w).2 ≤ _; omega⟩
    · exact ⟨by show (bw w).1 + (bw w).2 ≤ _; omega, by show (bw w).2 ≤ _; omega⟩
theorem bw_lo (w : List Int) : bw (0 :: w) = ((bw w).1, (bw w).1 + (bw w).2) := by
  conv => lhs; unfold bw
  rw [if_pos rfl]
theorem bw_hi (w : List Int) : bw (1 :: w) = ((bw w).1 + (bw w).2, (bw w).2) := by
  conv => lhs; unfold bw
  rw [if_neg (by decide)]
theorem way_bw : ∀ w : List Int, (∀ s ∈ w, s = 0 ∨ s = 1) → way (bw w).1 (bw w).2 = w
  | [], _ => way_eq 1
  | s :: w, h => by
    have ih := way_bw w fun x hx => h x (List.mem_cons_of_mem _ hx)
    have p := bw_pos w
    rcases h s List.mem_cons_self with rfl | rfl
    · rw [bw_lo]
      show way (bw w).1 ((bw w).1 + (bw w).2) = _
      rw [way_lo p.1 (by omega), show (bw w).1 + (bw w).2 - (bw w).1 = (bw w).2 by omega, ih]
    · rw [bw_hi]
      show way ((bw w).1 + (bw w).2) (bw w).2 = _
      rw [way_hi p.2 (by omega), show (bw w).1 + (bw w).2 - (bw w).2 = (bw w).1 by omega, ih]
theorem dv_sub_right {u l : Int} : dv u (l - u) = dv u l := by
  unfold dv
  rw [Int.gcd_sub_self_right]
theorem dv_add_right {u l : Int} : dv u (u + l) = dv u l := by
  unfold dv
  rw [Int.gcd_self_add_right]
theorem dv_sub_left {u l : Int} : dv (u - l) l = dv u l := by
  unfold dv
  rw [Int.gcd_sub_self_left]
theorem dv_add_left {u l : Int} : dv (u + l) l = dv u l := by
  unfold dv
  rw [Int.gcd_add_self_left]
theorem dv_self {u : Int} (h : 0 ≤ u) : dv u u = u := by
  unfold dv
  rw [Int.gcd_self]
  omega
theorem bw_low : ∀ w : List Int, dv (bw w).1 (bw w).2 = 1
  | [] => by decide
  | s :: w => by
    have ih := bw_low w
    unfold bw
    split
    · show dv (bw w).1 ((bw w).1 + (bw w).2) = 1
      rw [dv_add_right, ih]
    · show dv ((bw w).1 + (bw w).2) (bw w).2 = 1
      rw [dv_add_left, ih]
theorem bw_way {u l : Int} (h1 : 1 ≤ u) (h2 : 1 ≤ l) (h : dv u l = 1) : bw (way u l) = (u, l) := by
  by_cases e : u = l
  · subst e
    rw [dv_self (by omega)] at h
    subst h
    rw [way_eq]
    rfl
  · by_cases h3 : u < l
    · have ih := bw_way (u := u) (l := l - u) h1 (by omega) (by rw [dv_sub_right, h])
      rw [way_lo h1 h3, bw_lo, ih]
      show (u, u + (l - u)) = (u, l)
      rw [show u + (l - u) = l by omega]
    · have ih := bw_way (u := u - l) (l := l) (by omega) h2 (by rw [dv_sub_left, h])
      rw [way_hi h2 (by omega), bw_hi, ih]
      show (u - l + l, l) = (u, l)
      rw [show u - l + l = u by omega]
termination_by (u + l).toNat
decreasing_by all_goals omega
theorem way_01 {u l : Int} : ∀ s ∈ way u l, s = 0 ∨ s = 1 := by
  unfold way
  split
  · rename_i h
    obtain ⟨h1, h2, h3⟩ := h
    split
    · intro s hs
      rcases List.mem_cons.mp hs with rfl | hs
      · exact .inl rfl
      · exact way_01 s hs
    · intro s hs
      rcases List.mem_cons.mp hs with rfl | hs
      · exact .inr rfl
      · exact way_01 s hs
  · intro s hs
    cases hs
termination_by (u + l).toNat
decreasing_by all_goals omega
/-- two bounds, and the rest of the way between -/
theorem bw_step {w : List Int} {s a b c d X Y : Int} (h : X = a * (bw (s :: w)).2 + c * (bw (s :: w)).1) (h2 : Y = b * (bw (s :: w)).2 + d * (bw (s :: w)).1) :
    if s = 0 then X = a * (bw w).2 + (a + c) * (bw w).1 ∧ Y = b * (bw w).2 + (b + d) * (bw w).1 else X = (a + c) * (bw w).2 + c * (bw w).1 ∧ Y = (b + d) * (bw w).2 + d * (bw w).1 := by
  unfold bw at h h2
  split
  · rename_i e
    rw [if_pos e] at h h2
    exact ⟨by rw [h]; grind, by rw [h2]; grind⟩
  · rename_i e
    rw [if_neg e] at h h2
    exact ⟨by rw [h]; grind, by rw [h2]; grind⟩

/-! ### rows by division -/
/-- the row of u divided by l -/
def row (u l : Int) : List Int := if 0 < l then (u / l) :: row l (u % l) else []
termination_by l.toNat
decreasing_by
  have h1 := Int.emod_lt_of_pos u (show 0 < l by assumption)
  omega
theorem row_zero {u l : Int} (h : ¬ 0 < l) : row u l = [] := by
  unfold row
  rw [if_neg h]
theorem row_cons {u l : Int} (h : 0 < l) : row u l = (u / l) :: row l (u % l) := by
  conv => lhs; unfold row
  rw [if_pos h]
theorem row_len {u l : Int} (h : 0 ≤ l) : ((row u l).length : Int) ≤ l + 1 := by
  by_cases h0 : 0 < l
  · have h1 := Int.emod_lt_of_pos u h0
    have h2 := Int.emod_nonneg u (show l ≠ 0 by omega)
    have ih := row_len (u := l) (l := u % l) h2
    rw [row_cons h0, List.length_cons]
    omega
  · rw [row_zero h0]
    show (0 : Int) ≤ _
    omega
termination_by l.toNat
decreasing_by omega
theorem sum_swap {u l : Int} (h1 : 0 < u) (h2 : 0 < l) : (row u l).sum = (row l u).sum := by
  by_cases e : u = l
  · rw [e]
  · by_cases h : u < l
    · rw [row_cons h2, Int.ediv_eq_zero_of_lt (by omega) h, Int.emod_eq_of_lt (by omega) h, List.sum_cons, Int.zero_add]
    · rw [row_cons h1, Int.ediv_eq_zero_of_lt (by omega) (by omega), Int.emod_eq_of_lt (by omega) (by omega), List.sum_cons, Int.zero_add]
theorem sum_add {u l : Int} (h : 0 < l) : (row (u + l) l).sum = 1 + (row u l).sum := by
  rw [row_cons h, row_cons h, List.sum_cons, List.sum_cons, Int.add_emod_right, Int.add_ediv_of_dvd_right (Int.dvd_refl l), Int.ediv_self (by omega)]
  omega
theorem row_sum {u l : Int} (h1 : 1 ≤ u) (h2 : 1 ≤ l) (h : dv u l = 1) : (row u l).sum = ((way u l).length : Int) + 1 := by
  by_cases e : u = l
  · subst e
    rw [dv_self (by omega)] at h
    subst h
    rw [way_eq, row_cons (by decide), row_zero (by decide)]
    decide
  · by_cases h3 : u < l
    · have ih := row_sum (u := u) (l := l - u) h1 (by omega) (by rw [dv_sub_right, h])
      rw [way_lo h1 h3, List.length_cons, sum_swap (by omega) (by omega), show l = (l - u) + u by omega, sum_add (by omega), ← sum_swap (by omega) (by omega)]
      have e2 : l - u + u - u = l - u := by omega
      rw [e2, ih]
      omega
    · have ih := row_sum (u := u - l) (l := l) (by omega) h2 (by rw [dv_sub_left, h])
      have e2 : u = (u - l) + l := by omega
      rw [way_hi h2 (by omega), List.length_cons, e2, sum_add (by omega), ih]
      have e3 : u - l + l - l = u - l := by omega
      rw [e3]
      omega
termination_by (u + l).toNat
decreasing_by all_goals omega
/-! ### what a row stands for, and back -/
theorem dv_mod {u l : Int} : dv l (u % l) = dv u l := by
  have h := Int.emod_add_mul_ediv u l
  unfold dv
  conv => rhs; rw [← h]
  rw [Int.gcd_comm (u % l + l * (u / l)) l, Int.mul_comm, Int.gcd_add_mul_right_right]
theorem dv_zero {u : Int} (h : 0 ≤ u) : dv u 0 = u := by
  unfold dv
  rw [Int.gcd_zero_right]
  omega
theorem st_row {u l : Int} (h : 0 ≤ l) (h0 : 0 < l ∨ u = 1) (h1 : dv u l = 1) : st (row u l) = (u, l) := by
  by_cases hl : 0 < l
  · have h2 := Int.emod_lt_of_pos u hl
    have h3 := Int.emod_nonneg u (show l ≠ 0 by omega)
    have h4 : dv l (u % l) = 1 := by rw [dv_mod, h1]
    have ih := st_row (u := l) (l := u % l) h3 (by
      by_cases z : 0 < u % l
      · exact .inl z
      · right
        have e : u % l = 0 := by omega
        rw [e, dv_zero h] at h4
        exact h4) h4
    rw [row_cons hl]
    show ((u / l) * (st (row l (u % l))).1 + (st (row l (u % l))).2, (st (row l (u % l))).1) = _
    rw [ih]
    show ((u / l) * l + u % l, l) = (u, l)
    rw [Int.ediv_mul_add_emod]
  · rw [row_zero hl]
    rcases h0 with h0 | h0
    · exact absurd h0 hl
    · rw [h0, show l = 0 by omega]
      rfl
termination_by l.toNat
decreasing_by omega
theorem row_pos {u l : Int} (h : 0 ≤ l) (h1 : l < u) : ∀ y ∈ row u l, 1 ≤ y := by
  intro y hy
  by_cases hl : 0 < l
  · have h2 := Int.emod_lt_of_pos u hl
    have h3 := Int.emod_nonneg u (show l ≠ 0 by omega)
    rw [row_cons hl] at hy
    rcases List.mem_cons.mp hy with rfl | hy
    · exact (Int.le_ediv_iff_mul_le hl).mpr (by omega)
    · exact row_pos h3 h2 y hy
  · rw [row_zero hl] at hy
    cases hy
termination_by l.toNat
decreasing_by omega
theorem row_last {u l : Int} (h : 0 < l) (h1 : l < u) : ∀ y, (row u l).getLast? = some y → 2 ≤ y := by
  intro y hy
  have h2 := Int.emod_lt_of_pos u h
  have h3 := Int.emod_nonneg u (show l ≠ 0 by omega)
  rw [row_cons h] at hy
  by_cases hz : 0 < u % l
  · have e : row l (u % l) = (l / (u % l)) :: row (u % l) (l % (u % l)) := row_cons hz
    rw [e, List.getLast?_cons_cons, ← e] at hy
    exact row_last hz h2 y hy
  · rw [row_zero hz] at hy
    have e : u / l = y := Option.some.inj hy
    have h4 := Int.ediv_mul_add_emod u l
    rw [← e]
    by_cases h5 : 2 ≤ u / l
    · exact h5
    · exfalso
      have h6 : (u / l) * l ≤ 1 * l := Int.mul_le_mul_of_nonneg_right (by omega) (by omega)
      omega
termination_by l.toNat
decreasing_by omega
theorem row_ne {u l : Int} (h : 0 < l) : row u l ≠ [] := by
  rw [row_cons h]
  exact List.cons_ne_nil _ _
theorem row_tail {u l : Int} (h : 0 < l) : ∀ y ∈ (row u l).drop 1, 1 ≤ y := by
  rw [row_cons h]
  exact row_pos (Int.emod_nonneg u (by omega)) (Int.emod_lt_of_pos u h)
theorem row_last2 {u l : Int} (h : 0 < l) (h2 : 2 ≤ (row u l).length) : ∀ y, (row u l).getLast? = some y → 2 ≤ y := by
  intro y hy
  rw [row_cons h] at hy h2
  by_cases hz : 0 < u % l
  · have e : row l (u % l) = (l / (u % l)) :: row (u % l) (l % (u % l)) := row_cons hz
    rw [e, List.getLast?_cons_cons, ← e] at hy
    exact row_last hz (Int.emod_lt_of_pos u h) y hy
  · rw [row_zero hz] at h2
    simp at h2
theorem row_len2 {u l : Int} (n : Nat) (h : 0 ≤ l) (hn : l < 2 ^ n) : (row u l).length ≤ 2 * n + 1 := by
  induction n generalizing u l with
  | zero =>
    rw [row_zero (by simp at hn; omega)]
    exact Nat.zero_le _
  | succ n ih =>
    by_cases hl : 0 < l
    · have h2 := Int.emod_lt_of_pos u hl
      have h3 := Int.emod_nonneg u (show l ≠ 0 by omega)
      rw [row_cons hl, List.length_cons]
      by_cases hz : 0 < u % l
      · have h4 := Int.emod_lt_of_pos l hz
        have h5 := Int.emod_nonneg l (show u % l ≠ 0 by omega)
        have h6 := Int.ediv_mul_add_emod l (u % l)
        have h7 : 1 ≤ l / (u % l) := (Int.le_ediv_iff_mul_le hz).mpr (by omega)
        have h8 : 1 * (u % l) ≤ l / (u % l) * (u % l) := Int.mul_le_mul_of_nonneg_right h7 (by omega)
        have := ih (u := u % l) (l := l % (u % l)) h5 (by rw [Int.pow_succ] at hn; omega)
        rw [row_cons hz, List.length_cons]
        omega
      · rw [row_zero hz]
        show 0 + 1 ≤ _
        omega
    · rw [row_zero hl]
      exact Nat.zero_le _
/-- of a canonical rest -/
theorem row_st_rest : ∀ s : List Int, s ≠ [] → (∀ y ∈ s, 1 ≤ y) → (∀ y, s.getLast? = some y → 2 ≤ y) → 0 < (st s).2 ∧ (st s).2 < (st s).1 ∧ row (st s).1 (st s).2 = s
  | [], h, _, _ => absurd rfl h
  | [y], _, _, h2 => by
    have hy := h2 y rfl
    show 0 < (1 : Int) ∧ (1 : Int) < y * 1 + 0 ∧ row (y * 1 + 0) 1 = [y]
    refine ⟨by decide, by omega, ?_⟩
    rw [Int.mul_one, Int.add_zero, row_cons (by decide), Int.ediv_one, row_zero (by rw [Int.emod_one]; decide)]
  | y :: z :: s, _, h1, h2 => by
    obtain ⟨a, b, c⟩ := row_st_rest (z :: s) (List.cons_ne_nil _ _) (fun x hx => h1 x (List.mem_cons_of_mem _ hx)) (fun x hx => h2 x (by rw [List.getLast?_cons_cons]; exact hx))
    have hy := h1 y List.mem_cons_self
    generalize hst : st (z :: s) = ul at *
    obtain ⟨u, l⟩ := ul
    have e : st (y :: z :: s) = (y * u + l, u) := by
      show (y * (st (z :: s)).1 + (st (z :: s)).2, (st (z :: s)).1) = _
      rw [hst]
    rw [e]
    have a' : 0 < l := a
    have b' : l < u := b
    have c' : row u l = z :: s := c
    show 0 < u ∧ u < y * u + l ∧ row (y * u + l) u = y :: z :: s
    have h3 : 1 * u ≤ y * u := Int.mul_le_mul_of_nonneg_right hy (by omega)
    refine ⟨by omega, by omega, ?_⟩
    have e1 : (y * u + l) / u = y := by
      rw [Int.add_comm, Int.add_mul_ediv_right _ _ (by omega), Int.ediv_eq_zero_of_lt (by omega) b', Int.zero_add]
    have e2 : (y * u + l) % u = l := by
      rw [Int.add_comm, Int.add_mul_emod_self_right, Int.emod_eq_of_lt (by omega) b']
    rw [row_cons (by omega), e1, e2, c']
theorem row_st (x : Int) (s : List Int) (h1 : ∀ y ∈ s, 1 ≤ y) (h2 : s ≠ [] → ∀ y, s.getLast? = some y → 2 ≤ y) : 0 < (st (x :: s)).2 ∧ row (st (x :: s)).1 (st (x :: s)).2 = x :: s := by
  cases s with
  | nil =>
    show 0 < (1 : Int) ∧ row (x * 1 + 0) 1 = [x]
    refine ⟨by decide, ?_⟩
    rw [Int.mul_one, Int.add_zero, row_cons (by decide), Int.ediv_one, row_zero (by rw [Int.emod_one]; decide)]
  | cons z s =>
    obtain ⟨a, b, c⟩ := row_st_rest (z :: s) (List.cons_ne_nil _ _) h1 (h2 (List.cons_ne_nil _ _))
    generalize hst : st (z :: s) = ul at *
    obtain ⟨u, l⟩ := ul
    have e : st (x :: z :: s) = (x * u + l, u) := by
      show (x * (st (z :: s)).1 + (st (z :: s)).2, (st (z :: s)).1) = _
      rw [hst]
    rw [e]
    have a' : 0 < l := a
    have b' : l < u := b
    have c' : row u l = z :: s := c
    show 0 < u ∧ row (x * u + l) u = x :: z :: s
    have e1 : (x * u + l) / u = x := by
      rw [Int.add_comm, Int.add_mul_ediv_right _ _ (by omega), Int.ediv_eq_zero_of_lt (by omega) b', Int.zero_add]
    have e2 : (x * u + l) % u = l := by
      rw [Int.add_comm, Int.add_mul_emod_self_right, Int.emod_eq_of_lt (by omega) b']
    exact ⟨by omega, by rw [row_cons (by omega), e1, e2, c']⟩
/-- a last 1 goes into the one ahead -/
theorem st_merge : ∀ (s : List Int) (y : Int), st (s ++ [y, 1]) = st (s ++ [y + 1])
  | [], y => by
    show (y * (1 * 1 + 0) + 1, (1 * 1 + 0 : Int)) = ((y + 1) * 1 + 0, 1)
    rw [show (1 * 1 + 0 : Int) = 1 from rfl, Int.mul_one, Int.mul_one, Int.add_zero]
  | x :: s, y => by
    show (x * (st (s ++ [y, 1])).1 + (st (s ++ [y, 1])).2, (st (s ++ [y, 1])).1) = _
    rw [st_merge s y]
    rfl
theorem ediv_abs {u l : Int} (h : 0 < l) : (u / l).natAbs ≤ u.natAbs := by
  have h1 := Int.ediv_mul_add_emod u l
  have h2 := Int.emod_lt_of_pos u h
  have h3 := Int.emod_nonneg u (show l ≠ 0 by omega)
  by_cases hq : 0 ≤ u / l
  · have : (u / l) * 1 ≤ (u / l) * l := Int.mul_le_mul_of_nonneg_left (by omega) hq
    omega
  · have h4 : (u / l + 1) * l ≤ (u / l + 1) * 1 := by
      have h5 : (-(u / l + 1)) * 1 ≤ (-(u / l + 1)) * l := Int.mul_le_mul_of_nonneg_left (by omega) (by omega)
      rw [Int.neg_mul, Int.neg_mul] at h5
      omega
    rw [Int.add_mul, Int.one_mul] at h4
    omega
theorem row_mem {u l : Int} (h : 0 ≤ l) : ∀ y ∈ row u l, y.natAbs ≤ max u.natAbs l.natAbs := by
  intro y hy
  by_cases hl : 0 < l
  · have h2 := Int.emod_lt_of_pos u hl
    have h3 := Int.emod_nonneg u (show l ≠ 0 by omega)
    rw [row_cons hl] at hy
    rcases List.mem_cons.mp hy with rfl | hy
    · have := ediv_abs (u := u) hl
      omega
    · have := row_mem h3 y hy
      omega
  · rw [row_zero hl] at hy
    cases hy
termination_by l.toNat
decreasing_by omega
theorem row_drop {u l : Int} (h : 0 ≤ l) (h0 : 0 < l ∨ u = 1) (h1 : dv u l = 1) : ∀ j, (st ((row u l).drop j)).1.natAbs ≤ max u.natAbs (max l.natAbs 1) := by
  intro j
  cases j with
  | zero =>
    rw [List.drop_zero, st_row h h0 h1]
    show u.natAbs ≤ _
    omega
  | succ j =>
    by_cases hl : 0 < l
    · have h2 := Int.emod_lt_of_pos u hl
      have h3 := Int.emod_nonneg u (show l ≠ 0 by omega)
      have h4 : dv l (u % l) = 1 := by rw [dv_mod, h1]
      rw [row_cons hl, List.drop_succ_cons]
      have := row_drop (u := l) (l := u % l) h3 (by
        by_cases z : 0 < u % l
        · exact .inl z
        · right
          have e : u % l = 0 := by omega
          rw [e, dv_zero h] at h4
          exact h4) h4 j
      omega
    · rw [row_zero hl, List.drop_nil]
      show (1 : Int).natAbs ≤ _
      simp
      omega
termination_by l.toNat
decreasing_by omega
theorem st_abs : ∀ xs : List Int, (∀ y ∈ xs, y.natAbs ≤ 40) → (st xs).1.natAbs ≤ 41 ^ xs.length ∧ (st xs).2.natAbs ≤ 41 ^ xs.length
  | [], _ => ⟨Nat.le_refl 1, Nat.zero_le _⟩
  | x :: s, h => by
    obtain ⟨a, b⟩ := st_abs s fun y hy => h y (List.mem_cons_of_mem _ hy)
    have hx := h x List.mem_cons_self
    rw [List.length_cons, Nat.pow_succ]
    have h1 : (x * (st s).1).natAbs ≤ 40 * 41 ^ s.length := by
      rw [Int.natAbs_mul]
      exact Nat.mul_le_mul hx a
    exact ⟨by show (x * (st s).1 + (st s).2).natAbs ≤ _; omega, by show (st s).1.natAbs ≤ _; omega⟩
end RR
/-! RRS: the promises of the defs. -/
namespace RR
open PySem PySem.Spec PyProof.Rows L2
/-- within four thousand bits -/
structure Big (x : Int) : Prop where
  lt : x.natAbs < 2 ^ 4000
theorem big_of {x : Int} (h : x.natAbs < 2 ^ 60) : Big x := ⟨Nat.lt_of_lt_of_le h (Nat.pow_le_pow_right (by decide) (by decide))⟩
theorem big_le {x y : Int} (h : x.natAbs ≤ y.natAbs) (hy : Big y) : Big x := ⟨Nat.lt_of_le_of_lt h hy.lt⟩
theorem len1 {α : Type} {a : α} : [a].length ≤ sizeLine := small_le (show 1 ≤ 10000000 by decide)
theorem len2 {α : Type} {a b : α} : [a, b].length ≤ sizeLine := small_le (show 2 ≤ 10000000 by decide)
theorem len4 {α : Type} {a b c d : α} : [a, b, c, d].length ≤ sizeLine := small_le (show 4 ≤ 10000000 by decide)
theorem map_get {ns : List Int} {i : Nat} {x : V} (h : (ns.map V.int)[i]? = some x) : ∃ n, ns[i]? = some n ∧ x = .int n := by
  rw [List.getElem?_map] at h
  cases e : ns[i]? with
  | none =>
    rw [e] at h
    cases h
  | some n =>
    rw [e] at h
    exact ⟨n, rfl, (Option.some.inj h).symm⟩
theorem get_map {ns : List Int} {i : Nat} {n : Int} (h : ns[i]? = some n) : (ns.map V.int)[i]? = some (.int n) := by
  rw [List.getElem?_map, h]
  rfl
theorem Big.log {x : Int} (h : Big x) : x.natAbs.log2 < 4000 := PySem.Flt.log2_lt_of (by decide) h.lt
theorem Big.mul {x y : Int} (h : Big x) (h2 : Big y) : CMulW x y := by
  have h3 := h.log
  have h4 := h2.log
  unfold CMulW
  omega
/-- divisor -/
def sp_divisor : Sp := fun vs H Q _ => ∃ a b : Int, vs = [.int a, .int b] ∧ Q (.int (dv a b)) H
/-- lowest, as the laws have it (the lower one is not 0) -/
def sp_lowH : Sp := fun vs H Q _ => ∃ u l : Int, vs = [.int u, .int l] ∧ l ≠ 0 ∧ Big u ∧ Big l ∧ ∀ p, H p = none → Q (.ref p) (upd H p (tI [(low u l).1, (low u l).2]))
/-- lowest -/
def sp_lowest (C : Addr) : Sp := fun vs H Q E => ∃ u l : Int, vs = [.int u, .int l] ∧ Big u ∧ Big l ∧ (l = 0 → E (.ref C) none H) ∧ (l ≠ 0 → ∀ p, H p = none → Q (.ref p) (upd H p (tI [(low u l).1, (low u l).2])))
/-- a cell of the script -/
def cellOf (ns : List Int) (k : Nat) : Int := ns.getD k 0
def sp_cell (K : PySem.W.Frag) : Sp := fun vs H Q _ => ∃ (a : Addr) (ns : List Int) (k : Nat), vs = [.ref a, .int k] ∧ SqL K H a (ns.map V.int) ∧ k < 1000 ∧ Q (.int (cellOf ns k)) H
/-- a draw -/
def mix (c p m : Int) : Int := c * 48271 % p % m
def sp_mix : Sp := fun vs H Q _ => ∃ c p m : Int, vs = [.int c, .int p, .int m] ∧ 0 < p ∧ 0 < m ∧ Q (.int (mix c p m)) H
/-- a drawn fraction -/
def frac (c o w : Int) : Int × Int := low (mix c 1000003 (2 * w + 1) - w) (1 + mix o 999983 w)
def sp_fraction : Sp := fun vs H Q _ => ∃ c o w : Int, vs = [.int c, .int o, .int w] ∧ 0 < w ∧ w < 1000000 ∧ ∀ p, H p = none → Q (.ref p) (upd H p (tI [(frac c o w).1, (frac c o w).2]))
/-- fraction_of -/
def sp_fraction_of (C : Addr) : Sp := fun vs H Q E => ∃ (t : Addr) (xs : List Int), vs = [.ref t] ∧ H t = some (tI xs) ∧ xs.length ≤ 1000000 ∧
  (isRow xs = false → ∀ H', Same H H' → E (.ref C) none H') ∧
  (isRow xs = true → (∀ y ∈ xs, Big y) ∧ (∀ j, Big (st (xs.drop j)).1) ∧ ∀ H' p, Same H H' → H p = none → H' p = some (tI [(st xs).1, (st xs).2]) → Q (.ref p) H')
/-- way_to -/
def sp_way_to (C : Addr) : Sp := fun vs H Q E => ∃ (t : Addr) (u l : Int), vs = [.ref t] ∧ H t = some (tI [u, l]) ∧ (u < 1 → E (.ref C) none H) ∧
  (1 ≤ u → 1 ≤ l ∧ (way u l).length ≤ 1000000 ∧ ∀ H' p, Same H H' → H p = none → H' p = some (tI (way u l)) → Q (.ref p) H')
/-- middle -/
def sp_middle : Sp := fun vs H Q _ => ∃ (t u : Addr) (a b c d : Int), vs = [.ref t, .ref u] ∧ H t = some (tI [a, b]) ∧ H u = some (tI [c, d]) ∧ ∀ p, H p = none → Q (.ref p) (upd H p (tI [a + c, b + d]))
/-- where a way leads -/
def sp_walked : Sp := fun vs H Q _ => ∃ (t : Addr) (ws : List Int), vs = [.ref t] ∧ H t = some (tI ws) ∧ (∀ s ∈ ws, s = 0 ∨ s = 1) ∧ ∀ H' p, Same H H' → H p = none → H' p = some (tI [(bw ws).1, (bw ws).2]) → Q (.ref p) H'
/-- row_of -/
def sp_row_of : Sp := fun vs H Q _ => ∃ (t : Addr) (u l : Int), vs = [.ref t] ∧ H t = some (tI [u, l]) ∧ 0 < l ∧ Big l ∧ (row u l).length ≤ 1000000 ∧ ∀ H' p, Same H H' → H p = none → H' p = some (tI (row u l)) → Q (.ref p) H'
/-- a whole number -/
def sp_whole : Sp := fun vs H Q _ => ∃ z : Int, vs = [.int z] ∧ Q (.bl true) H
/-- a sequence of ints: a list or a tuple -/
def Sq (H : Hp) (t : Addr) (xs : List Int) : Prop := H t = some (tI xs) ∨ H t = some (lI xs)
theorem Sq.same {H H' : Hp} {t : Addr} {xs : List Int} (h : Sq H t xs) (s : Same H H') : Sq H' t xs := h.imp (s _ _) (s _ _)
/-- stands, by hand -/
def sp_stands : Sp := fun vs H Q _ => ∃ (t : Addr) (xs : List Int), vs = [.ref t] ∧ Sq H t xs ∧ xs ≠ [] ∧ xs.length ≤ 1000000 ∧ (∀ y ∈ xs, Big y) ∧ (∀ j, Big (st (xs.drop j)).1) ∧ ∀ H' p, Same H H' → H p = none → H' p = some (tI [(st xs).1, (st xs).2]) → Q (.ref p) H'
/-- first_parts of a fraction -/
def sp_first_parts0 : Sp := fun vs H Q _ => ∃ (t : Addr) (u l : Int) (k : Nat), vs = [.ref t, .int k] ∧ H t = some (tI [u, l]) ∧ 0 < l ∧ Big l ∧ (row u l).length ≤ 1000000 ∧ ∀ H' p, Same H H' → H p = none → H' p = some (tI ((row u l).take k)) → Q (.ref p) H'
end RR
namespace RR
open PySem PySem.Spec PyProof.Rows L2
/-! ### the text by places -/
def topS (i : Nat) : Stmt := PySem.Challenge.pw_rootrow_k02_whole_rows_of_fractions.main.body.getD i (.Pass ⟨0, 0, 0, 0⟩)
abbrev s_row_of : Stmt := topS 4
abbrev n_row_of : List Str := ["fraction", "upper", "lower", "found"]
abbrev p_row_of : List Str := ["fraction"]
theorem sc_row_of : FnScope n_row_of p_row_of (defScope s_row_of) := ⟨rfl, rfl, rfl, by decide +kernel, rfl, by decide +kernel, by decide +kernel⟩
abbrev s_fraction_of : Stmt := topS 5
abbrev n_fraction_of : List Str := ["row", "part", "upper", "lower"]
abbrev p_fraction_of : List Str := ["row"]
theorem sc_fraction_of : FnScope n_fraction_of p_fraction_of (defScope s_fraction_of) := ⟨rfl, rfl, rfl, by decide +kernel, rfl, by decide +kernel, by decide +kernel⟩
abbrev s_divisor : Stmt := topS 7
abbrev n_divisor : List Str := ["one", "other"]
abbrev p_divisor : List Str := ["one", "other"]
theorem sc_divisor : FnScope n_divisor p_divisor (defScope s_divisor) := ⟨rfl, rfl, rfl, by decide +kernel, rfl, by decide +kernel, by decide +kernel⟩
abbrev s_least_square : Stmt := topS 8
abbrev n_least_square : List Str := ["n", "found", "other"]
abbrev p_least_square : List Str := ["n"]
theorem sc_least_square : FnScope n_least_square p_least_square (defScope s_least_square) := ⟨rfl, rfl, rfl, by decide +kernel, rfl, by decide +kernel, by decide +kernel⟩
abbrev s_heart : Stmt := topS 10
abbrev n_heart : List Str := ["a", "b", "c"]
abbrev p_heart : List Str := ["a", "b", "c"]
theorem sc_heart : FnScope n_heart p_heart (defScope s_heart) := ⟨rfl, rfl, rfl, by decide +kernel, rfl, by decide +kernel, by decide +kernel⟩
abbrev s_is_square : Stmt := topS 11
abbrev n_is_square : List Str := ["n"]
abbrev p_is_square : List Str := ["n"]
theorem sc_is_square : FnScope n_is_square p_is_square (defScope s_is_square) := ⟨rfl, rfl, rfl, by decide +kernel, rfl, by decide +kernel, by decide +kernel⟩
abbrev s_root_of : Stmt := topS 12
abbrev n_root_of : List Str := ["a", "b", "c", "side", "by"]
abbrev p_root_of : List Str := ["a", "b", "c", "side"]
theorem sc_root_of : FnScope n_root_of p_root_of (defScope s_root_of) := ⟨rfl, rfl, rfl, by decide +kernel, rfl, by decide +kernel, by decide +kernel⟩
abbrev s_part_of : Stmt := topS 13
abbrev n_part_of : List Str := ["number", "a", "b", "c", "side", "wide", "found"]
abbrev p_part_of : List Str := ["number"]
theorem sc_part_of : FnScope n_part_of p_part_of (defScope s_part_of) := ⟨rfl, rfl, rfl, by decide +kernel, rfl, by decide +kernel, by decide +kernel⟩
abbrev s_moved : Stmt := topS 14
abbrev n_moved : List Str := ["root", "n", "a", "b", "c", "side"]
abbrev p_moved : List Str := ["root", "n"]
theorem sc_moved : FnScope n_moved p_moved (defScope s_moved) := ⟨rfl, rfl, rfl, by decide +kernel, rfl, by decide +kernel, by decide +kernel⟩
abbrev s_turned : Stmt := topS 15
abbrev n_turned : List Str := ["root", "n", "a", "b", "c", "side", "other"]
abbrev p_turned : List Str := ["root", "n"]
theorem sc_turned : FnScope n_turned p_turned (defScope s_turned) := ⟨rfl, rfl, rfl, by decide +kernel, rfl, by decide +kernel, by decide +kernel⟩
abbrev s_first_parts : Stmt := topS 17
abbrev n_first_parts : List Str := ["number", "count", "found", "k"]
abbrev p_first_parts : List Str := ["number", "count"]
theorem sc_first_parts : FnScope n_first_parts p_first_parts (defScope s_first_parts) := ⟨rfl, rfl, rfl, by decide +kernel, rfl, by decide +kernel, by decide +kernel⟩
abbrev s__law_cell : Stmt := topS 19
abbrev n__law_cell : List Str := ["_law_script", "_law_k"]
abbrev p__law_cell : List Str := ["_law_script", "_law_k"]
theorem sc__law_cell : FnScope n__law_cell p__law_cell (defScope s__law_cell) := ⟨rfl, rfl, rfl, by decide +kernel, rfl, by decide +kernel, by decide +kernel⟩
abbrev s__law_mix : Stmt := topS 20
abbrev n__law_mix : List Str := ["_law_cell_here", "_law_prime", "_law_many"]
abbrev p__law_mix : List Str := ["_law_cell_here", "_law_prime", "_law_many"]
theorem sc__law_mix : FnScope n__law_mix p__law_mix (defScope s__law_mix) := ⟨rfl, rfl, rfl, by decide +kernel, rfl, by decide +kernel, by decide +kernel⟩
abbrev s__law_whole : Stmt := topS 21
abbrev n__law_whole : List Str := ["_law_found"]
abbrev p__law_whole : List Str := ["_law_found"]
theorem sc__law_whole : FnScope n__law_whole p__law_whole (defScope s__law_whole) := ⟨rfl, rfl, rfl, by decide +kernel, rfl, by decide +kernel, by decide +kernel⟩
abbrev s__law_divisor : Stmt := topS 22
abbrev n__law_divisor : List Str := ["_law_one", "_law_other"]
abbrev p__law_divisor : List Str := ["_law_one", "_law_other"]
theorem sc__law_divisor : FnScope n__law_divisor p__law_divisor (defScope s__law_divisor) := ⟨rfl, rfl, rfl, by decide +kernel, rfl, by decide +kernel, by decide +kernel⟩
abbrev s__law_lowest : Stmt := topS 23
abbrev n__law_lowest : List Str := ["_law_upper", "_law_lower", "_law_by"]
abbrev p__law_lowest : List Str := ["_law_upper", "_law_lower"]
theorem sc__law_lowest : FnScope n__law_lowest p__law_lowest (defScope s__law_lowest) := ⟨rfl, rfl, rfl, by decide +kernel, rfl, by decide +kernel, by decide +kernel⟩
abbrev s__law_fraction : Stmt := topS 24
abbrev n__law_fraction : List Str := ["_law_cell_here", "_law_other", "_law_wide", "_law_upper"]
abbrev p__law_fraction : List Str := ["_law_cell_here", "_law_other", "_law_wide"]
theorem sc__law_fraction : FnScope n__law_fraction p__law_fraction (defScope s__law_fraction) := ⟨rfl, rfl, rfl, by decide +kernel, rfl, by decide +kernel, by decide +kernel⟩
abbrev s__law_stands : Stmt := topS 25
abbrev n__law_stands : List Str := ["_law_row", "_law_upper", "_law_lower", "_law_part"]
abbrev p__law_stands : List Str := ["_law_row"]
theorem sc__law_stands : FnScope n__law_stands p__law_stands (defScope s__law_stands) := ⟨rfl, rfl, rfl, by decide +kernel, rfl, by decide +kernel, by decide +kernel⟩
abbrev s__law_any_row : Stmt := topS 26
abbrev n__law_any_row : List Str := ["_law_script", "_law_row", "_law_cell_here"]
abbrev p__law_any_row : List Str := ["_law_script"]
theorem sc__law_any_row : FnScope n__law_any_row p__law_any_row (defScope s__law_any_row) := ⟨rfl, rfl, rfl, by decide +kernel, rfl, by decide +kernel, by decide +kernel⟩
abbrev s_law : Stmt := topS 27
abbrev n_law : List Str := ["_law_script", "_law_fraction_here", "_law_found", "_law_count", "_law_row", "_law_told", "_law_one"]
abbrev p_law : List Str := ["_law_script"]
theorem sc_law : FnScope n_law p_law (defScope s_law) := ⟨rfl, rfl, rfl, by decide +kernel, rfl, by decide +kernel, by decide +kernel⟩
section
variable {P : Program} {w : World} {K : PySem.W.Frag} {mg : Str → Option Value} {base : Heap}
theorem ok_row_of (D : Df K mg "row_of" p_row_of s_row_of) (B : Bl mg) : Cal P w K mg base CX0 1 "row_of" p_row_of sp_row_of := D.cal fun f fd F => by
  refine F.ok sc_row_of (fun vs H Q E h => ?_) (fun cdv A outer s H vs Q E hr h => ?_)
  · obtain ⟨t, u, l, rfl, _⟩ := h
    rfl
  obtain ⟨t, u, l, rfl, hT, hl0, hbig, hlen, q⟩ := h
  refine ⟨_, pss_cons (ps_asg (pv 0) (pg_tup (by rfl) (pgs_cons (pg_name (i := 1) sc_row_of.nd rfl (.inl rfl)) (pgs_cons (pg_name (i := 2) sc_row_of.nd rfl (.inl rfl)) pgs_nil))))
    <| pss_cons (ps_set (i := 3) sc_row_of.nd rfl (.inl rfl) (pe_lst pa_nil))
    <| pss_cons (ps_while PassesOwn.never (pt_cmpR op_gt (pv 2) pe_int (nomark _))
        (pss_cons (ps_expr (pe_bm PySem.F.plainAttrs_list PySem.F.slot_list_append PySem.F.type_list_append mt_append (pv 3) (pa_cons (pe_op op_fdivW (pv 1) (pv 2)) pa_nil)))
          (pss_one (ps_par (i := 1) (j := 2) (by rfl) sc_row_of.nd rfl rfl (by decide) rfl rfl (pa_cons (pv 2) (pa_cons (pe_op op_mod (pv 1) (pv 2)) pa_nil)) (by rfl)))))
    <| pss_one (ps_ret (pe_callTy call_tuple_of (by rfl) B.tuple (by decide +kernel) (pa_cons (pv 3) pa_nil))), ?_⟩
  refine ⟨_, rfl, t, _, rfl, SqT.of hT, rfl, _, _, rfl, _, _, rfl, rfl, Nat.zero_le _, fun o no => ?_⟩
  refine ⟨fun m σ H' => ∃ (x y : Int) (acc : List Int), σ = [some (.ref t), some (.int x), some (.int y), some (.ref o)] ∧ 0 ≤ y ∧ y ≤ l ∧ acc ++ row x y = row u l ∧ Same H H' ∧ H' o = some (lI acc) ∧ m = y.toNat,
    ⟨_, u, l, [], rfl, by omega, Int.le_refl l, rfl, same_upd no, upd_same, rfl⟩, ?_⟩
  rintro m σ H' ⟨x, y, acc, rfl, hy, hyl, hacc, s1, e1, rfl⟩
  have hal : acc.length ≤ 1000000 := by
    have := congrArg List.length hacc
    rw [List.length_append] at this
    omega
  have app : ∀ z : Int, acc.map V.int ++ [.int z] = (acc ++ [z]).map V.int := fun z => by rw [List.map_append] <;> rfl
  refine ⟨_, rfl, _, _, rfl, rfl, _, rfl, ite2 (fun c2 => ?_) (fun c2 => ?_)⟩
  · have c' : 0 < y := of_decide_eq_true c2
    have h1 := Int.emod_nonneg x (show y ≠ 0 by omega)
    have h2 := Int.emod_lt_of_pos x c'
    have hb : 0 < y ∧ y.natAbs.log2 < 9000 := ⟨c', Nat.lt_of_lt_of_le (big_le (x := y) (y := l) (by omega) hbig).log (by decide : 4000 ≤ 9000)⟩
    refine ⟨fun σ' H2 => σ' = [some (.ref t), some (.int y), some (.int (x % y)), some (.ref o)] ∧ Same H H2 ∧ H2 o = some (lI (acc ++ [x / y])), ?_, ?_⟩
    · rintro σ' H2 ⟨rfl, h5, h6⟩
      exact ⟨(x % y).toNat, by omega, y, x % y, acc ++ [x / y], rfl, h1, by omega, by rw [← hacc, row_cons c', List.append_assoc] <;> rfl, h5, h6, rfl⟩
    refine ⟨_, rfl, .inl ⟨rfl, _, SqL.of e1⟩, _, rfl, _, rfl, _, _, rfl, rfl, hb, o, _, _, rfl, rfl, e1, by rw [List.length_map]; exact small_of (by omega), ?_⟩
    rw [app]
    exact ⟨_, rfl, _, rfl, _, rfl, _, _, rfl, rfl, c', _, _, rfl, rfl, same_updO s1 no, upd_same⟩
  · have c' : ¬ 0 < y := of_decide_eq_false (Bool.eq_false_iff.mpr c2)
    rw [row_zero c', List.append_nil] at hacc
    subst hacc
    exact ⟨_, rfl, o, _, rfl, .inl ⟨SqL.of e1, fun p np => q _ p (same_updO s1 (s1.free np)) (s1.free np) upd_same⟩⟩
end
theorem st_drop {xs : List Int} {j : Nat} {x : Int} (h : xs[j]? = some x) : st (xs.drop j) = (x * (st (xs.drop (j + 1))).1 + (st (xs.drop (j + 1))).2, (st (xs.drop (j + 1))).1) := by
  obtain ⟨hl, e⟩ := List.getElem?_eq_some_iff.mp h
  rw [List.drop_eq_getElem_cons hl, e]
  rfl
theorem st_last {xs : List Int} {j : Nat} {x : Int} (h : xs[j]? = some x) (hl : j + 1 = xs.length) : st (xs.drop j) = (x, 1) := by
  rw [st_drop h, List.drop_of_length_le (by omega)]
  show (x * 1 + 0, (1 : Int)) = _
  rw [Int.mul_one, Int.add_zero]
section
variable {P : Program} {w : World} {K : PySem.W.Frag} {mg : Str → Option Value} {base : Heap} {C R : Addr}
theorem ok_fraction_of (D : Df K mg "fraction_of" p_fraction_of s_fraction_of) (B : Bl mg) (N : NoN K mg C R) : Cal P w K mg base (L2.CX P w) 1 "fraction_of" p_fraction_of (sp_fraction_of C) := D.cal fun f fd F => by
  refine F.okX sc_fraction_of (fun vs H Q E h => ?_) (fun cdv A outer s H vs Q E hr h => ?_)
  · obtain ⟨t, xs, rfl, _⟩ := h
    rfl
  obtain ⟨t, xs, rfl, hT, hlen, hbad, hgood⟩ := h
  refine ⟨_, pss_cons (ps_if (PW.pt (pw_or (pt_cmpR op_eq (pe_callB call_len_seq (by rfl) B.len PySem.boot_len (pa_cons (pv 0) pa_nil)) pe_int (nomark _))
      (pw_or1 (pt_not (pt_val (pe_callB (cr_all rfl) (by rfl) B.all (by decide +kernel) (pa_cons
        (pe_lc (own := [("part", 1)]) (g := gName 1) (tt := tYes) rfl sc_fraction_of.nd (pi_tup (pe_slice sl_tupA (pv 0) (po_some pe_int) po_none)) (blkOk_by (N := n_fraction_of) (sc := defScope s_fraction_of) (by decide +kernel))
          (fun _ _ _ _ _ => pg_name (i := 1) sc_fraction_of.nd rfl (Or.inl rfl)) (fun _ _ _ _ _ => pts_nil) (fun _ _ _ _ _ => pe_cmpR op_ge (pv 1) pe_int (nomark _))) pa_nil)))))))
      (pss_one (ps_no N rfl (takes_of rfl rfl rfl rfl) (by rfl))) pss_nil)
    <| pss_cons (ps_set (i := 2) sc_fraction_of.nd rfl (.inl rfl) (pe_ix ix_tup (pv 0) (pe_un un_neg pe_int) (fun _ _ => rfl)))
    <| pss_cons (ps_set (i := 3) sc_fraction_of.nd rfl (.inl rfl) pe_int)
    <| pss_cons (ps_for (passes_of rfl) rfl (RT.pi_revA (by rfl) B.reversed (pe_slice sl_tupA (pv 0) po_none (po_some (pe_un un_neg pe_int)))) (pg_name (i := 1) sc_fraction_of.nd rfl (.inl rfl))
      (pss_one (ps_par (i := 2) (j := 3) (by rfl) sc_fraction_of.nd rfl rfl (by decide) rfl rfl (pa_cons (pe_op op_add (pe_op op_mulW (pv 1) (pv 2)) (pv 3)) (pa_cons (pv 2) pa_nil)) (by rfl))))
    <| pss_one (ps_ret (pe_tup (pa_cons (pv 2) (pa_cons (pv 3) pa_nil)))), ?_⟩
  refine ⟨_, rfl, t, _, rfl, .inr (SqT.of hT), rfl, _, rfl, ite2 (fun c => ?_) (fun c => ?_)⟩
  · have c' : (((xs.map V.int).length : Nat) : Int) = 0 := V.int.inj (of_decide_eq_true c)
    rw [List.length_map] at c'
    have e : xs = [] := List.eq_nil_of_length_eq_zero (by omega)
    subst e
    exact iteT (hbad rfl _ (Same.refl H))
  have c' : ¬ (((xs.map V.int).length : Nat) : Int) = 0 := fun z => c (decide_eq_true (congrArg V.int z))
  rw [List.length_map] at c'
  have hne : xs ≠ [] := fun z => by
    subst z
    exact c' rfl
  -- row[1:]
  have hcut : cutV (xs.map V.int) (some 1) none = (xs.drop 1).map V.int := by
    rw [List.map_drop]
    exact cutV_from (k := 1)
  refine ⟨_, rfl, 1, rfl, t, _, rfl, SqT.of hT, fun hw => absurd hw.1 ?_, fun _ p np => ?_⟩
  · rw [sIx_one, List.length_map]
    omega
  rw [hcut]
  have s1 : Same H (upd H p (tI (xs.drop 1))) := same_upd np
  refine ⟨p, rfl, ⟨_, SqT.of upd_same⟩, lc_mapT (xs := (xs.drop 1).map V.int) (ys := ((xs.drop 1).map fun y => decide (1 ≤ y)).map V.bl) (by simp only [List.length_map]) (by rw [List.length_map, List.length_drop]; exact small_of (by omega)) upd_same (fun x => rfl) (fun i x y H2 Q2 hx hy s2 q2 => ?_) (fun L H2 s2 hL nL => ?_)⟩
  · obtain ⟨n, hn, rfl⟩ := map_get hx
    have ey : y = .bl (decide (1 ≤ n)) := by
      rw [List.getElem?_map, List.getElem?_map, hn] at hy
      exact (Option.some.inj hy).symm
    subst ey
    exact ⟨_, rfl, _, _, rfl, rfl, q2 _ (Same.refl _)⟩
  have s3 : Same H H2 := s1.trans s2
  refine ⟨L, _, rfl, .of hL, _, rfl, ?_⟩
  have er : isRow xs = ((xs.drop 1).map fun y => decide (1 ≤ y)).all id := by
    unfold isRow
    rw [List.all_map]
    cases xs with
    | nil => exact absurd rfl hne
    | cons a r => rfl
  rw [← er]
  cases hrow : isRow xs with
  | false => exact iteT (hbad hrow _ s3)
  | true =>
    obtain ⟨hb, hbs, q⟩ := hgood hrow
    refine iteF ?_
    -- upper = row[-1], lower = 1
    have hn : xs.length - 1 < xs.length := by omega
    have gl : xs[xs.length - 1]? = some xs[xs.length - 1] := List.getElem?_eq_getElem hn
    have glast : atI (xs.map V.int) (-1) = some (.int xs[xs.length - 1]) := by
      have e1 : xs.map V.int = xs.dropLast.map V.int ++ [.int xs[xs.length - 1]] := by
        have e2 : xs = xs.dropLast ++ [xs[xs.length - 1]] := by
          have e3 := List.dropLast_concat_getLast hne
          rw [List.getLast_eq_getElem hne] at e3
          exact e3.symm
        conv => lhs; rw [e2]
        rw [List.map_append]
        rfl
      rw [e1]
      exact atI_last _ _
    refine ⟨_, rfl, 1, rfl, t, _, -1, _, rfl, rfl, SqT.of (s3 _ _ hT), glast, ?_⟩
    -- the loop
    refine ⟨_, rfl, 1, rfl, -1, rfl, t, _, rfl, SqT.of (s3 _ _ hT), fun hw => absurd hw.2 ?_, fun _ p2 np2 => ?_⟩
    · rw [sIx_neg1, List.length_map]
      omega
    have hcut2 : cutV (xs.map V.int) none (some (-1)) = xs.dropLast.map V.int := by
      rw [cutV_init, List.map_dropLast]
    rw [hcut2]
    have s4 : Same H (upd H2 p2 (tI xs.dropLast)) := s3.trans (same_upd np2)
    have hdl : (xs.dropLast.map V.int).length = xs.length - 1 := by rw [List.length_map, List.length_dropLast]
    refine ⟨p2, xs.dropLast.map V.int, rfl, .inr ⟨SqT.of upd_same, RT.for_ItvT (fun i σ H' => ∃ y1, σ = [some (.ref t), y1, some (.int (st (xs.drop (xs.length - 1 - i))).1), some (.int (st (xs.drop (xs.length - 1 - i))).2)] ∧ Same H H' ∧ H' p2 = some (tI xs.dropLast))
      ⟨none, ?_, s4, upd_same⟩ (fun i σ H' hP => ?_) (fun i x σ H' hi hx hP => ?_) (fun σ H' hP => ?_)⟩⟩
    · rw [Nat.sub_zero, st_last gl (by omega)]
      rfl
    · obtain ⟨_, _, _, e⟩ := hP
      exact SqT.of e
    · obtain ⟨y1, rfl, s5, e5⟩ := hP
      rw [hdl] at hi hx
      obtain ⟨z, hz, rfl⟩ := map_get hx
      have hz2 : xs[xs.length - 1 - 1 - i]? = some z := by
        rw [List.getElem?_dropLast, if_pos (by omega)] at hz
        exact hz
      have hz3 : xs[xs.length - 1 - (i + 1)]? = some z := by
        rw [show xs.length - 1 - (i + 1) = xs.length - 1 - 1 - i by omega]
        exact hz2
      have hst := st_drop hz3
      rw [show xs.length - 1 - (i + 1) + 1 = xs.length - 1 - i by omega] at hst
      have hzb : Big z := hb z (List.mem_of_getElem? hz2)
      refine ⟨_, rfl, _, rfl, _, _, rfl, rfl, hzb.mul (hbs _), _, rfl, _, _, rfl, rfl, _, rfl, _, _, rfl, some (.int z), ?_, s5, e5⟩
      rw [hst]
      rfl
    · obtain ⟨y1, rfl, s5, _⟩ := hP
      rw [hdl, Nat.sub_self, List.drop_zero]
      refine ⟨_, rfl, _, rfl, len2, fun r nr => q _ r (same_updO s5 (s5.free nr)) (s5.free nr) upd_same⟩
end
section
variable {P : Program} {w : World} {K : PySem.W.Frag} {mg : Str → Option Value} {base : Heap}
theorem ok_first_parts (D : Df K mg "first_parts" p_first_parts s_first_parts) (B : Bl mg) (Cr : Cal P w K mg base CX0 1 "row_of" p_row_of sp_row_of) : Cal P w K mg base CX0 2 "first_parts" p_first_parts sp_first_parts0 := D.cal fun f fd F => by
  refine F.ok sc_first_parts (fun vs H Q E h => ?_) (fun cdv A outer s H vs Q E hr h => ?_)
  · obtain ⟨t, u, l, k, rfl, _⟩ := h
    rfl
  obtain ⟨t, u, l, k, rfl, hT, hl, hb, hlen, q⟩ := h
  refine ⟨_, pss_cons (ps_if (pt_cmpR op_eq (pe_callB call_len_seq (by rfl) B.len PySem.boot_len (pa_cons (pv 0) pa_nil)) pe_int (nomark _))
      (pss_one (ps_ret (pe_slice sl_tupA (pe_cal Cr hr (by decide) (by rfl) pass0 (pa_cons (pv 0) pa_nil)) po_none (po_some (pv 1))))) pss_nil)
    pss_never, ?_⟩
  refine ⟨_, rfl, t, _, rfl, .inr (SqT.of hT), rfl, _, rfl, ite2 (fun c => ?_) (fun c => absurd (decide_eq_true rfl) c)⟩
  refine ⟨_, rfl, t, u, l, rfl, hT, hl, hb, hlen, fun H1 r s1 nr er => ?_⟩
  refine ⟨_, rfl, _, rfl, r, _, rfl, SqT.of er, fun hw => ?_, fun _ p np => ?_⟩
  · refine q _ r s1 nr ?_
    rw [er]
    have h2 := hw.2
    rw [HT.sIx_nat, List.length_map] at h2
    rw [List.take_of_length_le (by omega)]
  · rw [cutV_to, ← List.map_take]
    exact q _ p (same_updO s1 (s1.free np)) (s1.free np) upd_same
end
section
variable {P : Program} {w : World} {K : PySem.W.Frag} {mg : Str → Option Value} {base : Heap}
theorem ok__law_divisor (D : Df K mg "_law_divisor" p__law_divisor s__law_divisor) (B : Bl mg) : Cal P w K mg base CX0 1 "_law_divisor" p__law_divisor sp_divisor := D.cal fun f fd F => by
  refine F.ok sc__law_divisor (fun vs H Q E h => ?_) (fun cdv A outer s H vs Q E hr h => ?_)
  · obtain ⟨a, b, rfl, _⟩ := h
    rfl
  obtain ⟨a, b, rfl, q⟩ := h
  refine ⟨_, pss_cons (ps_set (i := 0) sc__law_divisor.nd rfl (.inl rfl) (pe_callB call_abs (by rfl) B.abs (by decide +kernel) (pa_cons (pv 0) pa_nil)))
    (pss_cons (ps_set (i := 1) sc__law_divisor.nd rfl (.inl rfl) (pe_callB call_abs (by rfl) B.abs (by decide +kernel) (pa_cons (pv 1) pa_nil)))
    (pss_cons (ps_while PassesOwn.never (pt_cmpR op_gt (pv 1) pe_int (nomark _)) (pss_one (ps_par (i := 0) (j := 1) (by rfl) sc__law_divisor.nd rfl rfl (by decide) rfl rfl (pa_cons (pv 1) (pa_cons (pe_op op_mod (pv 0) (pv 1)) pa_nil)) (by rfl))))
    (pss_one (ps_ret (pv 0))))), ?_⟩
  refine ⟨_, rfl, a, rfl, _, rfl, b, rfl, ?_⟩
  refine ⟨fun m σ H' => ∃ x y : Int, σ = [some (.int x), some (.int y)] ∧ 0 ≤ x ∧ 0 ≤ y ∧ Int.gcd x y = Int.gcd a b ∧ H' = H ∧ m = y.toNat, ⟨_, _, _, rfl, by split <;> omega, by split <;> omega, gcd_abs a b, rfl, rfl⟩, ?_⟩
  rintro m σ H' ⟨x, y, rfl, hx, hy, hg, rfl, rfl⟩
  refine ⟨_, rfl, _, _, rfl, rfl, _, rfl, ite2 (fun c => ?_) (fun c => ?_)⟩
  · have c' : 0 < y := of_decide_eq_true c
    have h1 := Int.emod_nonneg x (show y ≠ 0 by omega)
    have h2 := Int.emod_lt_of_pos x c'
    refine ⟨fun σ' H2 => σ' = [some (.int y), some (.int (x % y))] ∧ H2 = H', fun σ' H2 ⟨e1, e2⟩ => ⟨(x % y).toNat, by omega, y, x % y, e1, hy, h1, by rw [gcd_step hx c', hg], e2, rfl⟩, ?_⟩
    exact ⟨_, rfl, _, rfl, _, rfl, _, _, rfl, rfl, c', _, _, rfl, rfl, rfl⟩
  · have c' : ¬ 0 < y := of_decide_eq_false (Bool.eq_false_iff.mpr c)
    refine ⟨_, rfl, ?_⟩
    have e : x = dv a b := by
      rw [gcd_end hx c' hy, hg]
      rfl
    rw [e]
    exact q
end
section
variable {P : Program} {w : World} {K : PySem.W.Frag} {mg : Str → Option Value} {base : Heap}
theorem ok__law_lowest (D : Df K mg "_law_lowest" p__law_lowest s__law_lowest) (C_div : Cal P w K mg base CX0 1 "_law_divisor" p__law_divisor sp_divisor) : Cal P w K mg base CX0 2 "_law_lowest" p__law_lowest sp_lowH := D.cal fun f fd F => by
  refine F.ok sc__law_lowest (fun vs H Q E h => ?_) (fun cdv A outer s H vs Q E hr h => ?_)
  · obtain ⟨a, b, rfl, _⟩ := h
    rfl
  obtain ⟨u, l, rfl, h0, hu, hl, q⟩ := h
  refine ⟨_, pss_cons (ps_set (i := 2) sc__law_lowest.nd rfl (.inl rfl) (pe_cal C_div hr (by decide) (by rfl) pass0 (pa_cons (pv 0) (pa_cons (pv 1) pa_nil))))
    (pss_cons (ps_if (pt_cmpR op_lt (pv 1) pe_int (nomark _)) (pss_one (ps_set (i := 2) sc__law_lowest.nd rfl (.inl rfl) (pe_op op_sub pe_int (pv 2)))) pss_nil)
    (pss_one (ps_ret (pe_tup (pa_cons (pe_op op_fdivWN (pv 0) (pv 2)) (pa_cons (pe_op op_fdivWN (pv 1) (pv 2)) pa_nil)))))), ?_⟩
  have hg := dv_pos_right (a := u) h0
  have hb : dv u l ≠ 0 ∧ (dv u l).natAbs.log2 < 9000 := by
    refine ⟨by omega, Nat.lt_of_lt_of_le (PySem.Flt.log2_lt_of (by decide) (Nat.lt_of_le_of_lt ?_ hl.lt)) (by decide : 4000 ≤ 9000)⟩
    obtain ⟨k, hk⟩ := dv_dvd_right u l
    conv => rhs; rw [hk]
    rw [Int.natAbs_mul]
    refine Nat.le_mul_of_pos_right _ ?_
    have : k ≠ 0 := fun z => by
      rw [z, Int.mul_zero] at hk
      exact h0 hk
    omega
  refine ⟨_, rfl, _, rfl, u, l, rfl, _, rfl, _, _, rfl, rfl, _, rfl, ite2 (fun c => ?_) (fun c => ?_)⟩
  · have c' : l < 0 := of_decide_eq_true c
    have e0 : (0 : Int) - dv u l = -dv u l := by omega
    have hb' : (0 - dv u l) ≠ 0 ∧ (0 - dv u l).natAbs.log2 < 9000 := by
      rw [e0, Int.natAbs_neg]
      exact ⟨by omega, hb.2⟩
    refine ⟨_, rfl, _, _, rfl, rfl, _, rfl, _, rfl, _, _, rfl, rfl, hb', _, rfl, _, rfl, _, _, rfl, rfl, hb', len2, fun p np => ?_⟩
    have := q p np
    unfold low at this
    rw [if_pos c', neg_ediv_dvd (dv_dvd_left u l), neg_ediv_dvd (dv_dvd_right u l), ← fdiv_neg_dvd (dv_dvd_left u l) hb.1, ← fdiv_neg_dvd (dv_dvd_right u l) hb.1, ← e0] at this
    exact this
  · have c' : ¬ l < 0 := of_decide_eq_false (Bool.eq_false_iff.mpr c)
    refine ⟨_, rfl, _, rfl, _, _, rfl, rfl, hb, _, rfl, _, rfl, _, _, rfl, rfl, hb, len2, fun p np => ?_⟩
    have := q p np
    unfold low at this
    rw [if_neg c', ← Int.fdiv_eq_ediv_of_nonneg u (by omega), ← Int.fdiv_eq_ediv_of_nonneg l (by omega)] at this
    exact this
end
section
variable {P : Program} {w : World} {K : PySem.W.Frag} {mg : Str → Option Value} {base : Heap}
theorem ok__law_cell (D : Df K mg "_law_cell" p__law_cell s__law_cell) (B : Bl mg) : Cal P w K mg base CX0 1 "_law_cell" p__law_cell (sp_cell K) := D.cal fun f fd F => by
  refine F.ok sc__law_cell (fun vs H Q E h => ?_) (fun cdv A outer s H vs Q E hr h => ?_)
  · obtain ⟨a, ns, k, rfl, _⟩ := h
    rfl
  obtain ⟨a, ns, k, rfl, hS, hk, q⟩ := h
  refine ⟨_, pss_cons (ps_if (pt_cmpR op_lt (pv 1) (pe_callB call_len_seq (by rfl) B.len PySem.boot_len (pa_cons (pv 0) pa_nil)) (nomark _)) (pss_one (ps_ret (pe_ix ix_list (pv 0) (pv 1) (fun _ _ => rfl)))) pss_nil)
    (pss_one (ps_ret pe_int)), ?_⟩
  refine ⟨_, rfl, _, rfl, a, _, rfl, .inl hS, _, _, rfl, rfl, _, rfl, ite2 (fun c => ?_) (fun c => ?_)⟩
  · have c' : (k : Int) < (((ns.map V.int).length : Nat) : Int) := of_decide_eq_true c
    rw [List.length_map] at c'
    have hl : k < ns.length := by omega
    refine ⟨_, rfl, _, rfl, a, _, _, _, rfl, rfl, hS, atI_nat (j := k) (v := .int (cellOf ns k)) ?_, q⟩
    rw [List.getElem?_map, List.getElem?_eq_getElem hl]
    show some (V.int ns[k]) = some (V.int (ns.getD k 0))
    rw [List.getD_eq_getElem?_getD, List.getElem?_eq_getElem hl]
    rfl
  · have c' : ¬ (k : Int) < (((ns.map V.int).length : Nat) : Int) := of_decide_eq_false (Bool.eq_false_iff.mpr c)
    rw [List.length_map] at c'
    have e : cellOf ns k = 0 := by
      unfold cellOf
      rw [List.getD_eq_getElem?_getD, List.getElem?_eq_none (by omega)]
      rfl
    rw [e] at q
    exact q
end
section
variable {P : Program} {w : World} {K : PySem.W.Frag} {mg : Str → Option Value} {base : Heap}
theorem ok__law_mix (D : Df K mg "_law_mix" p__law_mix s__law_mix) : Cal P w K mg base CX0 1 "_law_mix" p__law_mix sp_mix := D.cal fun f fd F => by
  refine F.ok sc__law_mix (fun vs H Q E h => ?_) (fun cdv A outer s H vs Q E hr h => ?_)
  · obtain ⟨c, p, m, rfl, _⟩ := h
    rfl
  obtain ⟨c, p, m, rfl, hp, hm, q⟩ := h
  refine ⟨_, pss_one (ps_ret (pe_op op_mod (pe_op op_mod (pe_op op_mul (pv 0) pe_int) (pv 1)) (pv 2))), ?_⟩
  exact ⟨_, rfl, _, _, rfl, rfl, .inr (by decide), _, rfl, _, _, rfl, rfl, hp, _, rfl, _, _, rfl, rfl, hm, q⟩
end
theorem mix_range {c p m : Int} (hm : 0 < m) : 0 ≤ mix c p m ∧ mix c p m < m := ⟨Int.emod_nonneg _ (by omega), Int.emod_lt_of_pos _ hm⟩
section
variable {P : Program} {w : World} {K : PySem.W.Frag} {mg : Str → Option Value} {base : Heap}
theorem ok__law_fraction (D : Df K mg "_law_fraction" p__law_fraction s__law_fraction) (C_mix : Cal P w K mg base CX0 1 "_law_mix" p__law_mix sp_mix) (C_low : Cal P w K mg base CX0 2 "_law_lowest" p__law_lowest sp_lowH) : Cal P w K mg base CX0 3 "_law_fraction" p__law_fraction sp_fraction := D.cal fun f fd F => by
  refine F.ok sc__law_fraction (fun vs H Q E h => ?_) (fun cdv A outer s H vs Q E hr h => ?_)
  · obtain ⟨c, o, wd, rfl, _⟩ := h
    rfl
  obtain ⟨c, o, wd, rfl, h0, h1, q⟩ := h
  refine ⟨_, pss_cons (ps_set (i := 3) sc__law_fraction.nd rfl (.inl rfl) (pe_op op_sub (pe_cal C_mix hr (by decide) (by rfl) pass0 (pa_cons (pv 0) (pa_cons pe_int (pa_cons (pe_op op_add (pe_op op_mul pe_int (pv 2)) pe_int) pa_nil)))) (pv 2)))
    (pss_one (ps_ret (pe_cal C_low hr (by decide) (by rfl) pass0 (pa_cons (pv 3) (pa_cons (pe_op op_add pe_int (pe_cal C_mix hr (by decide) (by rfl) pass0 (pa_cons (pv 1) (pa_cons pe_int (pa_cons (pv 2) pa_nil))))) pa_nil))))), ?_⟩
  refine ⟨_, rfl, _, rfl, _, _, rfl, rfl, .inl (by decide), _, _, rfl, rfl, c, 1000003, 2 * wd + 1, rfl, by decide, by omega, _, rfl, _, _, rfl, rfl, ?_⟩
  have r1 := mix_range (c := c) (p := 1000003) (m := 2 * wd + 1) (by omega)
  have r2 := mix_range (c := o) (p := 999983) (m := wd) h0
  refine ⟨_, rfl, _, rfl, _, rfl, o, 999983, wd, rfl, by decide, h0, _, _, rfl, rfl, _, _, rfl, by omega, big_of ?_, big_of ?_, q⟩
  · have : (2 : Nat) ^ 60 = 1152921504606846976 := by decide
    omega
  · have : (2 : Nat) ^ 60 = 1152921504606846976 := by decide
    omega
end
section
variable {P : Program} {w : World} {K : PySem.W.Frag} {mg : Str → Option Value} {base : Heap}
theorem ok__law_whole (D : Df K mg "_law_whole" p__law_whole s__law_whole) (B : Bl mg) : Cal P w K mg base CX0 1 "_law_whole" p__law_whole sp_whole := D.cal fun f fd F => by
  refine F.ok sc__law_whole (fun vs H Q E h => ?_) (fun cdv A outer s H vs Q E hr h => ?_)
  · obtain ⟨z, rfl, _⟩ := h
    rfl
  obtain ⟨z, rfl, q⟩ := h
  refine ⟨_, pss_one (ps_ret (pe_and (pe_callB call_isi (by rfl) B.isinstance PyProof.Rows.boot_isinstance (pa_cons (pv 0) (pa_cons (pe_bltn (v := .ty "int") (by rfl) B.int (by decide +kernel) rfl) pa_nil)))
    (pe_one (pe_not (pe_callB call_isi (by rfl) B.isinstance PyProof.Rows.boot_isinstance (pa_cons (pv 0) (pa_cons (pe_bltn (v := .ty "bool") (by rfl) B.bool (by decide +kernel) rfl) pa_nil))))))), ?_⟩
  refine ⟨_, rfl, .int z, .ty "int", _, _, true, rfl, .ty "int", .base (.int z), isT_self, true, rfl, iteT ?_⟩
  exact ⟨_, rfl, .int z, .ty "bool", _, _, false, rfl, .ty "bool", .base (.int z), kit_ty (by decide +kernel), false, rfl, q⟩
end
section
variable {P : Program} {w : World} {K : PySem.W.Frag} {mg : Str → Option Value} {base : Heap}
theorem ok__law_stands (D : Df K mg "_law_stands" p__law_stands s__law_stands) (B : Bl mg) : Cal P w K mg base CX0 1 "_law_stands" p__law_stands sp_stands := D.cal fun f fd F => by
  refine F.ok sc__law_stands (fun vs H Q E h => ?_) (fun cdv A outer s H vs Q E hr h => ?_)
  · obtain ⟨t, xs, rfl, _⟩ := h
    rfl
  obtain ⟨t, xs, rfl, hT, hne, hlen, hb, hbs, q⟩ := h
  refine ⟨_, pss_cons (ps_set (i := 1) sc__law_stands.nd rfl (.inl rfl) (pe_ix ix_seq (pv 0) (pe_un un_neg pe_int) (fun _ _ => rfl)))
    <| pss_cons (ps_set (i := 2) sc__law_stands.nd rfl (.inl rfl) pe_int)
    <| pss_cons (ps_for PassesOwn.never rfl (RT.pi_revA (by rfl) B.reversed (pe_slice (sl_list.or sl_tupA) (pv 0) po_none (po_some (pe_un un_neg pe_int)))) (pg_name (i := 3) sc__law_stands.nd rfl (.inl rfl))
      (pss_one (ps_par (i := 1) (j := 2) (by rfl) sc__law_stands.nd rfl rfl (by decide) rfl rfl (pa_cons (pe_op op_add (pe_op op_mulW (pv 3) (pv 1)) (pv 2)) (pa_cons (pv 1) pa_nil)) (by rfl))))
    <| pss_one (ps_ret (pe_tup (pa_cons (pv 1) (pa_cons (pv 2) pa_nil)))), ?_⟩
  have c' : 0 < xs.length := List.length_pos_iff.mpr hne
  have hn : xs.length - 1 < xs.length := by omega
  have gl : xs[xs.length - 1]? = some xs[xs.length - 1] := List.getElem?_eq_getElem hn
  have glast : atI (xs.map V.int) (-1) = some (.int xs[xs.length - 1]) := atI_neg (k := 1) (by decide) (by rw [List.length_map]; omega) (by rw [List.length_map]; exact get_map gl)
  have hcut2 : cutV (xs.map V.int) none (some (-1)) = xs.dropLast.map V.int := by
    rw [cutV_init, List.map_dropLast]
  have hdl : (xs.dropLast.map V.int).length = xs.length - 1 := by rw [List.length_map, List.length_dropLast]
  have step : ∀ i z, i < xs.length - 1 → xs.dropLast[xs.length - 1 - 1 - i]? = some z → Big z ∧ st (xs.drop (xs.length - 1 - (i + 1))) = (z * (st (xs.drop (xs.length - 1 - i))).1 + (st (xs.drop (xs.length - 1 - i))).2, (st (xs.drop (xs.length - 1 - i))).1) := fun i z hi hz => by
    have hz2 : xs[xs.length - 1 - 1 - i]? = some z := by
      rw [List.getElem?_dropLast, if_pos (by omega)] at hz
      exact hz
    have hz3 : xs[xs.length - 1 - (i + 1)]? = some z := by
      rw [show xs.length - 1 - (i + 1) = xs.length - 1 - 1 - i by omega]
      exact hz2
    have hst := st_drop hz3
    rw [show xs.length - 1 - (i + 1) + 1 = xs.length - 1 - i by omega] at hst
    exact ⟨hb z (List.mem_of_getElem? hz2), hst⟩
  have hlast := st_last gl (by omega)
  have fin : ∀ (H' : Hp), Same H H' → ∀ r, H' r = none → Q (.ref r) (upd H' r (tI [(st xs).1, (st xs).2])) := fun H' s5 r nr => q _ r (same_updO s5 (s5.free nr)) (s5.free nr) upd_same
  rcases hT with hT | hT
  · refine ⟨_, rfl, 1, rfl, .inr (.inl ⟨t, _, -1, _, rfl, rfl, SqT.of hT, glast, ?_⟩)⟩
    refine ⟨_, rfl, 1, rfl, -1, rfl, .inr ⟨t, _, rfl, SqT.of hT, fun hw => absurd hw.2 ?_, fun _ p2 np2 => ?_⟩⟩
    · rw [sIx_neg1, List.length_map]
      omega
    rw [hcut2]
    have s4 : Same H (upd H p2 (tI xs.dropLast)) := same_upd np2
    refine ⟨p2, xs.dropLast.map V.int, rfl, .inr ⟨SqT.of upd_same, RT.for_ItvT (fun i σ H' => ∃ y1, σ = [some (.ref t), some (.int (st (xs.drop (xs.length - 1 - i))).1), some (.int (st (xs.drop (xs.length - 1 - i))).2), y1] ∧ Same H H' ∧ H' p2 = some (tI xs.dropLast))
      ⟨none, ?_, s4, upd_same⟩ (fun i σ H' hP => ?_) (fun i x σ H' hi hx hP => ?_) (fun σ H' hP => ?_)⟩⟩
    · rw [Nat.sub_zero, hlast]
      rfl
    · obtain ⟨_, _, _, e⟩ := hP
      exact SqT.of e
    · obtain ⟨y1, rfl, s5, e5⟩ := hP
      rw [hdl] at hi hx
      obtain ⟨z, hz, rfl⟩ := map_get hx
      obtain ⟨hzb, hst⟩ := step i z hi hz
      refine ⟨_, rfl, _, rfl, _, _, rfl, rfl, hzb.mul (hbs _), _, rfl, _, _, rfl, rfl, _, rfl, _, _, rfl, some (.int z), ?_, s5, e5⟩
      rw [hst]
      rfl
    · obtain ⟨y1, rfl, s5, _⟩ := hP
      rw [hdl, Nat.sub_self, List.drop_zero]
      exact ⟨_, rfl, _, rfl, len2, fin _ s5⟩
  · refine ⟨_, rfl, 1, rfl, .inl ⟨t, _, -1, _, rfl, rfl, SqL.of hT, glast, ?_⟩⟩
    refine ⟨_, rfl, 1, rfl, -1, rfl, .inl ⟨t, _, rfl, SqL.of hT, fun p2 np2 => ?_⟩⟩
    rw [hcut2]
    have s4 : Same H (upd H p2 (lI xs.dropLast)) := same_upd np2
    refine ⟨p2, xs.dropLast.map V.int, rfl, .inl ⟨SqL.of upd_same, RT.for_Itv (fun i σ H' => ∃ y1, σ = [some (.ref t), some (.int (st (xs.drop (xs.length - 1 - i))).1), some (.int (st (xs.drop (xs.length - 1 - i))).2), y1] ∧ Same H H' ∧ H' p2 = some (lI xs.dropLast))
      ⟨none, ?_, s4, upd_same⟩ (fun i σ H' hP => ?_) (fun i x σ H' hi hx hP => ?_) (fun σ H' hP => ?_)⟩⟩
    · rw [Nat.sub_zero, hlast]
      rfl
    · obtain ⟨_, _, _, e⟩ := hP
      exact SqL.of e
    · obtain ⟨y1, rfl, s5, e5⟩ := hP
      rw [hdl] at hi hx
      obtain ⟨z, hz, rfl⟩ := map_get hx
      obtain ⟨hzb, hst⟩ := step i z hi hz
      refine ⟨_, rfl, _, rfl, _, _, rfl, rfl, hzb.mul (hbs _), _, rfl, _, _, rfl, rfl, _, rfl, _, _, rfl, some (.int z), ?_, s5, e5⟩
      rw [hst]
      rfl
    · obtain ⟨y1, rfl, s5, _⟩ := hP
      rw [hdl, Nat.sub_self, List.drop_zero]
      exact ⟨_, rfl, _, rfl, len2, fin _ s5⟩
end
/-! ### the law: rows of fractions -/
/-- a drawn row -/
def anyRow (ns : List Int) : List Int := (cellOf ns 3 % 41 - 20) :: ((ns.drop 4).take (cellOf ns 2 % 12).toNat).map fun c => 1 + c % 40
theorem anyRow_len (ns : List Int) : (anyRow ns).length ≤ 12 := by
  have h1 := Int.emod_nonneg (cellOf ns 2) (show (12 : Int) ≠ 0 by decide)
  have h2 := Int.emod_lt_of_pos (cellOf ns 2) (show (0 : Int) < 12 by decide)
  unfold anyRow
  rw [List.length_cons, List.length_map, List.length_take]
  omega
theorem anyRow_tail (ns : List Int) : ∀ y ∈ (anyRow ns).drop 1, 1 ≤ y ∧ y ≤ 40 := by
  intro y hy
  obtain ⟨c, _, rfl⟩ := List.mem_map.mp hy
  have h1 := Int.emod_nonneg c (show (40 : Int) ≠ 0 by decide)
  have h2 := Int.emod_lt_of_pos c (show (0 : Int) < 40 by decide)
  show 1 ≤ 1 + c % 40 ∧ 1 + c % 40 ≤ 40
  omega
theorem anyRow_abs (ns : List Int) : ∀ y ∈ anyRow ns, y.natAbs ≤ 40 := by
  intro y hy
  rcases List.mem_cons.mp hy with rfl | hy
  · have h1 := Int.emod_nonneg (cellOf ns 3) (show (41 : Int) ≠ 0 by decide)
    have h2 := Int.emod_lt_of_pos (cellOf ns 3) (show (0 : Int) < 41 by decide)
    omega
  · have := anyRow_tail ns y hy
    omega
theorem big_pow {x : Int} {n : Nat} (h : x.natAbs ≤ 41 ^ n) (hn : n ≤ 12) : Big x := by
  refine ⟨Nat.lt_of_le_of_lt h (Nat.lt_of_le_of_lt (Nat.pow_le_pow_right (by decide) hn) ?_)⟩
  exact Nat.lt_of_lt_of_le (show 41 ^ 12 < 2 ^ 100 by decide) (Nat.pow_le_pow_right (by decide) (by decide))
theorem st_big {xs : List Int} (h : ∀ y ∈ xs, y.natAbs ≤ 40) (hl : xs.length ≤ 12) (j : Nat) : Big (st (xs.drop j)).1 ∧ Big (st (xs.drop j)).2 := by
  have h2 := st_abs (xs.drop j) fun y hy => h y (List.mem_of_mem_drop hy)
  exact ⟨big_pow h2.1 (by rw [List.length_drop]; omega), big_pow h2.2 (by rw [List.length_drop]; omega)⟩
/-- a row whose last 1 went into the one ahead -/
def tidy (r : List Int) : List Int := if 1 < r.length ∧ r.getD (r.length - 1) 0 = 1 then r.take (r.length - 2) ++ [r.getD (r.length - 2) 0 + 1] else r
theorem split2 {r : List Int} (h : 1 < r.length) : r = r.take (r.length - 2) ++ [r.getD (r.length - 2) 0, r.getD (r.length - 1) 0] := by
  apply List.ext_getElem?
  intro i
  by_cases h1 : i < r.length - 2
  · rw [List.getElem?_append_left (by rw [List.length_take]; omega), List.getElem?_take_of_lt h1]
  · rw [List.getElem?_append_right (by rw [List.length_take]; omega), List.length_take, show min (r.length - 2) r.length = r.length - 2 by omega]
    by_cases h2 : i = r.length - 2
    · subst h2
      rw [Nat.sub_self, List.getD_eq_getElem?_getD, List.getElem?_eq_getElem (by omega)]
      rfl
    · by_cases h3 : i = r.length - 1
      · rw [h3, show r.length - 1 - (r.length - 2) = 1 by omega, List.getD_eq_getElem?_getD, List.getD_eq_getElem?_getD, List.getElem?_eq_getElem (show r.length - 1 < r.length by omega)]
        rfl
      · rw [List.getElem?_eq_none (by omega), List.getElem?_eq_none]
        show 2 ≤ i - (r.length - 2)
        omega
theorem st_tidy (r : List Int) : st (tidy r) = st r := by
  unfold tidy
  split
  · rename_i h
    conv => rhs; rw [split2 h.1]
    rw [h.2, st_merge]
  · rfl
theorem row_tidy {r : List Int} (hne : r ≠ []) (ht : ∀ y ∈ r.drop 1, 1 ≤ y) : 0 < (st r).2 ∧ row (st r).1 (st r).2 = tidy r := by
  rw [← st_tidy r]
  have key : ∀ t : List Int, t ≠ [] → (∀ y ∈ t.drop 1, 1 ≤ y) → (2 ≤ t.length → ∀ y, t.getLast? = some y → 2 ≤ y) → 0 < (st t).2 ∧ row (st t).1 (st t).2 = t := fun t h0 h1 h2 => by
    cases t with
    | nil => exact absurd rfl h0
    | cons x s =>
      refine row_st x s h1 fun hs y hy => h2 ?_ y ?_
      · have := List.length_pos_iff.mpr hs
        rw [List.length_cons]
        omega
      · cases s with
        | nil => exact absurd rfl hs
        | cons z s => rw [List.getLast?_cons_cons]; exact hy
  unfold tidy
  split
  · rename_i h
    obtain ⟨h, h1⟩ := h
    have e := split2 h
    rw [h1] at e
    generalize hs : r.take (r.length - 2) = s at *
    generalize hy : r.getD (r.length - 2) 0 = y at *
    rw [e] at ht
    cases s with
    | nil => exact key [y + 1] (List.cons_ne_nil _ _) (fun z hz => by cases hz) (fun h2 => by simp at h2)
    | cons x s =>
      refine key (x :: s ++ [y + 1]) (by simp) (fun z hz => ?_) (fun h2 z hz => ?_)
      · rcases List.mem_append.mp (show z ∈ s ++ [y + 1] from hz) with hz | hz
        · exact ht z (List.mem_append_left _ hz)
        · have := ht y (List.mem_append_right _ List.mem_cons_self)
          rw [List.mem_singleton.mp hz]
          omega
      · rw [List.getLast?_append] at hz
        have := ht y (List.mem_append_right _ List.mem_cons_self)
        have e2 : y + 1 = z := Option.some.inj hz
        omega
  · rename_i h
    refine key _ hne ht fun h2 y hy => ?_
    have h3 : r.getD (r.length - 1) 0 ≠ 1 := fun z => h ⟨by omega, z⟩
    rw [List.getLast?_eq_getElem?] at hy
    have h4 : y = r.getD (r.length - 1) 0 := by
      rw [List.getD_eq_getElem?_getD, hy]
      rfl
    have h5 : y ∈ r.drop 1 := by
      refine List.mem_of_getElem? (i := r.length - 2) ?_
      rw [List.getElem?_drop, show 1 + (r.length - 2) = r.length - 1 by omega]
      exact hy
    have := ht y h5
    omega
def sp_any_row (K : PySem.W.Frag) : Sp := fun vs H Q _ => ∃ (a : Addr) (ns : List Int), vs = [.ref a] ∧ SqL K H a (ns.map V.int) ∧ ∀ H' p, Same H H' → H p = none → H' p = some (lI (anyRow ns)) → Q (.ref p) H'
section
variable {P : Program} {w : World} {K : PySem.W.Frag} {mg : Str → Option Value} {base : Heap} {C R : Addr}
theorem ok_any_row (D : Df K mg "_law_any_row" p__law_any_row s__law_any_row) (Cc : Cal P w K mg base CX0 1 "_law_cell" p__law_cell (sp_cell K)) : Cal P w K mg base CX0 2 "_law_any_row" p__law_any_row (sp_any_row K) := D.cal fun f fd F => by
  refine F.ok sc__law_any_row (fun vs H Q E h => ?_) (fun cdv A outer s H vs Q E hr h => ?_)
  · obtain ⟨a, ns, rfl, _⟩ := h
    rfl
  obtain ⟨a, ns, rfl, hS, q⟩ := h
  refine ⟨_, pss_cons (ps_set (i := 1) sc__law_any_row.nd rfl (.inl rfl) (pe_lst (pa_cons (pe_op op_sub (pe_op op_mod (pe_cal Cc hr (by decide) (by rfl) pass0 (pa_cons (pv 0) (pa_cons pe_int pa_nil))) pe_int) pe_int) pa_nil)))
    <| pss_cons (ps_for PassesOwn.never rfl (pi_list (pe_slice sl_list (pv 0) (po_some pe_int) (po_some (pe_op op_add pe_int (pe_op op_mod (pe_cal Cc hr (by decide) (by rfl) pass0 (pa_cons (pv 0) (pa_cons pe_int pa_nil))) pe_int))))) (pg_name (i := 2) sc__law_any_row.nd rfl (.inl rfl))
      (pss_one (ps_expr (pe_bm PySem.F.plainAttrs_list PySem.F.slot_list_append PySem.F.type_list_append mt_append (pv 1) (pa_cons (pe_op op_add pe_int (pe_op op_mod (pv 2) pe_int)) pa_nil)))))
    <| pss_one (ps_ret (pv 1)), ?_⟩
  refine ⟨_, rfl, a, ns, 3, rfl, hS, by decide, _, _, rfl, rfl, (by show (0 : Int) < 41; decide), _, _, rfl, rfl, len1, fun o no => ?_⟩
  dsimp only
  have s1 : Same H (upd H o (lI [cellOf ns 3 % 41 - 20])) := same_upd no
  have h9 : 0 ≤ cellOf ns 2 % 12 ∧ cellOf ns 2 % 12 < 12 := ⟨Int.emod_nonneg _ (by decide), Int.emod_lt_of_pos _ (by decide)⟩
  refine ⟨_, rfl, 4, rfl, _, rfl, a, ns, 2, rfl, s1.seq hS, by decide, _, _, rfl, rfl, (by show (0 : Int) < 12; decide), _, _, rfl, rfl, _, rfl, a, _, rfl, s1.seq hS, fun p np => ?_⟩
  have npo : p ≠ o := fun z => by
    subst z
    rw [upd_same] at np
    cases np
  have hcut : cutV (ns.map V.int) (some 4) (some (4 + cellOf ns 2 % 12)) = ((ns.drop 4).take (cellOf ns 2 % 12).toNat).map V.int := by
    rw [show (4 : Int) + cellOf ns 2 % 12 = (((4 + (cellOf ns 2 % 12).toNat : Nat)) : Int) by omega, show (4 : Int) = ((4 : Nat) : Int) from rfl, cutV_both (by omega), show 4 + (cellOf ns 2 % 12).toNat - 4 = (cellOf ns 2 % 12).toNat by omega, List.map_take, List.map_drop]
  rw [hcut]
  have hrow : anyRow ns = (cellOf ns 3 % 41 - 20) :: ((ns.drop 4).take (cellOf ns 2 % 12).toNat).map fun c => 1 + c % 40 := rfl
  generalize hL : (ns.drop 4).take (cellOf ns 2 % 12).toNat = L at *
  have hLl : L.length ≤ 12 := by
    rw [← hL, List.length_take]
    omega
  have s2 : Same H (upd (upd H o (lI [cellOf ns 3 % 41 - 20])) p (lI L)) := s1.trans (same_upd np)
  refine ⟨p, rfl, ⟨_, SqL.of upd_same⟩, for_list (xs := L.map V.int) (fun i σ H' => ∃ y2, σ = [some (.ref a), some (.ref o), y2] ∧ Same H H' ∧ H' p = some (lI L) ∧ H' o = some (lI ((cellOf ns 3 % 41 - 20) :: (L.take i).map fun c => 1 + c % 40)))
    ⟨none, rfl, s2, upd_same, by rw [upd_ne npo.symm, upd_same] <;> rfl⟩ (fun i σ H' _ h => by obtain ⟨_, _, _, e, _⟩ := h; exact SqL.of e) (fun i x σ H' hx h => ?_) (fun σ H' h => ?_)⟩
  · obtain ⟨y2, rfl, s3, e3, e4⟩ := h
    obtain ⟨z, hz, rfl⟩ := map_get hx
    have hi : i < L.length := (List.getElem?_eq_some_iff.mp hz).1
    refine ⟨_, rfl, .inl ⟨rfl, _, SqL.of e4⟩, _, rfl, _, _, rfl, rfl, (by show (0 : Int) < 40; decide), _, _, rfl, rfl, o, _, _, rfl, rfl, e4, ?_, some (.int z), rfl, same_updO s3 no, by rw [upd_ne npo]; exact e3, ?_⟩
    · rw [List.length_map, List.length_cons, List.length_map, List.length_take]
      exact small_of (by omega)
    · rw [upd_same, List.take_add_one, hz]
      simp only [lI, Option.toList_some, List.map_append, List.map_cons, List.map_nil, List.cons_append]
  obtain ⟨y2, rfl, s3, e3, e4⟩ := h
  rw [List.length_map, List.take_length, ← hrow] at e4
  exact ⟨_, rfl, q _ o s3 no e4⟩
theorem ok_law {f : Addr} {fd : FuncData} (F : Fun K "law" "law" s_law f fd) (B : Bl mg) (Cc : Cal P w K mg base CX0 1 "_law_cell" p__law_cell (sp_cell K)) (Cl : Cal P w K mg base CX0 2 "_law_lowest" p__law_lowest sp_lowH)
    (Cf : Cal P w K mg base CX0 3 "_law_fraction" p__law_fraction sp_fraction) (Ch : Cal P w K mg base CX0 1 "_law_whole" p__law_whole sp_whole) (Cs : Cal P w K mg base CX0 1 "_law_stands" p__law_stands sp_stands)
    (Ca : Cal P w K mg base CX0 2 "_law_any_row" p__law_any_row (sp_any_row K)) (Cr : Cal P w K mg base CX0 1 "row_of" p_row_of sp_row_of) (Co : Cal P w K mg base (L2.CX P w) 1 "fraction_of" p_fraction_of (sp_fraction_of C))
    (Cp : Cal P w K mg base CX0 2 "first_parts" p_first_parts sp_first_parts0) : FnOk P w K mg base CX0 40 f fd ["_law_script"] (sp_law K) := by
  refine F.ok sc_law (fun vs H Q E h => ?_) (fun cdv A outer s H vs Q E hr h => ?_)
  · obtain ⟨a, ns, rfl, _⟩ := h
    rfl
  obtain ⟨a, ns, rfl, hS, h63, q⟩ := h
  refine ⟨_, pss_cons (ps_set (i := 1) sc_law.nd rfl (.inl rfl) (pe_cal Cf hr (by decide) (by rfl) pass0 (pa_cons (pe_cal Cc hr (by decide) (by rfl) pass0 (pa_cons (pv 0) (pa_cons pe_int pa_nil))) (pa_cons (pe_cal Cc hr (by decide) (by rfl) pass0 (pa_cons (pv 0) (pa_cons pe_int pa_nil))) (pa_cons pe_int pa_nil)))))
    <| pss_mid (ps_if (pt_cmpR op_eq (pe_op op_mod (pe_cal Cc hr (by decide) (by rfl) pass0 (pa_cons (pv 0) (pa_cons pe_int pa_nil))) pe_int) pe_int (nomark _))
        (pss_one (ps_set (i := 1) sc_law.nd rfl (.inl rfl) (pe_cal Cl hr (by decide) (by rfl) pass0 (pa_cons (pe_op op_mod (pe_cal Cc hr (by decide) (by rfl) pass0 (pa_cons (pv 0) (pa_cons pe_int pa_nil))) (pe_op op_pow pe_int pe_int))
          (pa_cons (pe_op op_add pe_int (pe_op op_mod (pe_cal Cc hr (by decide) (by rfl) pass0 (pa_cons (pv 0) (pa_cons pe_int pa_nil))) (pe_op op_pow pe_int pe_int))) pa_nil))))) pss_nil)
    <| pss_cons (ps_set (i := 2) sc_law.nd rfl (.inl rfl) (pe_cal Cr hr (by decide) (by rfl) pass0 (pa_cons (pv 1) pa_nil)))
    <| pss_cons (ps_if (PW.pt (pw_or (pt_not (pt_val (pe_callB call_isi (by rfl) B.isinstance PyProof.Rows.boot_isinstance (pa_cons (pv 2) (pa_cons (pe_bltn (v := .ty "tuple") (by rfl) B.tuple (by decide +kernel) rfl) pa_nil)))))
        (pw_or (pt_cmpR op_eq (pe_callB call_len_seq (by rfl) B.len PySem.boot_len (pa_cons (pv 2) pa_nil)) pe_int (nomark _))
        (pw_or1 (pt_not (pt_val (pe_callB (cr_all rfl) (by rfl) B.all (by decide +kernel) (pa_cons
          (pe_lc (own := [("_law_one", 6)]) (g := gName 6) (tt := tYes) rfl sc_law.nd (pi_tup (pv 2)) (blkOk_by (N := n_law) (sc := defScope s_law) (by decide +kernel))
            (fun _ _ _ _ _ => pg_name (i := 6) sc_law.nd rfl (Or.inl rfl)) (fun _ _ _ _ _ => pts_nil) (fun _ _ _ _ _ => pe_cal Ch hr (by decide) (by rfl) pass0 (pa_cons (pv 6) pa_nil))) pa_nil))))))))
      (pss_one (ps_ret pe_bl)) pss_nil)
    <| pss_mid (ps_if (PW.pt (pw_or (pt_not (pt_val (pe_callB (cr_all rfl) (by rfl) B.all (by decide +kernel) (pa_cons
          (pe_lc (own := [("_law_one", 6)]) (g := gName 6) (tt := tYes) rfl sc_law.nd (pi_tup (pe_slice sl_tupA (pv 2) (po_some pe_int) po_none)) (blkOk_by (N := n_law) (sc := defScope s_law) (by decide +kernel))
            (fun _ _ _ _ _ => pg_name (i := 6) sc_law.nd rfl (Or.inl rfl)) (fun _ _ _ _ _ => pts_nil) (fun _ _ _ _ _ => pe_cmpR op_ge (pv 6) pe_int (nomark _))) pa_nil))))
        (pw_or1 (PW.pt (pw_and (pt_cmpR op_gt (pe_callB call_len_seq (by rfl) B.len PySem.boot_len (pa_cons (pv 2) pa_nil)) pe_int (nomark _)) (pw_and1 (pt_cmpR op_lt (pe_ix ix_tup (pv 2) (pe_un un_neg pe_int) (fun _ _ => rfl)) pe_int (nomark _))))))))
      (pss_one (ps_ret pe_bl)) pss_nil)
    <| pss_cons (ps_if (PW.pt (pw_or (pt_cmpR (op_neT hr) (pe_cal Cs hr (by decide) (by rfl) pass0 (pa_cons (pv 2) pa_nil)) (pv 1) (nomark _)) (pw_or1 (pt_cmpR (op_neT hr) (pe_cal Co hr (by decide) (by rfl) passL (pa_cons (pv 2) pa_nil)) (pv 1) (nomark _)))))
      (pss_one (ps_ret pe_bl)) pss_nil)
    <| pss_cons (ps_set (i := 3) sc_law.nd rfl (.inl rfl) (pe_op op_mod (pe_cal Cc hr (by decide) (by rfl) pass0 (pa_cons (pv 0) (pa_cons pe_int pa_nil))) (pe_op op_add (pe_callB call_len_seq (by rfl) B.len PySem.boot_len (pa_cons (pv 2) pa_nil)) pe_int)))
    <| pss_mid (ps_if (PW.pt (pw_or (pt_cmpR (op_neT hr) (pe_cal Cp hr (by decide) (by rfl) pass0 (pa_cons (pv 1) (pa_cons (pv 3) pa_nil))) (pe_slice sl_tupA (pv 2) po_none (po_some (pv 3))) (nomark _))
        (pw_or1 (pt_cmpR (op_neT hr) (pe_cal Cp hr (by decide) (by rfl) pass0 (pa_cons (pv 1) (pa_cons (pe_callB call_len_seq (by rfl) B.len PySem.boot_len (pa_cons (pv 2) pa_nil)) pa_nil))) (pv 2) (nomark _)))))
      (pss_one (ps_ret pe_bl)) pss_nil)
    <| pss_cons (ps_set (i := 4) sc_law.nd rfl (.inl rfl) (pe_cal Ca hr (by decide) (by rfl) pass0 (pa_cons (pv 0) pa_nil)))
    <| pss_cons (ps_set (i := 5) sc_law.nd rfl (.inl rfl) (pe_cal Co hr (by decide) (by rfl) passL (pa_cons (pe_callTy call_tuple_of (by rfl) B.tuple (by decide +kernel) (pa_cons (pv 4) pa_nil)) pa_nil)))
    <| pss_cons (ps_if (pt_cmpR (op_neT hr) (pv 5) (pe_cal Cs hr (by decide) (by rfl) pass0 (pa_cons (pv 4) pa_nil)) (nomark _)) (pss_one (ps_ret pe_bl)) pss_nil)
    <| pss_mid (ps_if (PW.pt (pw_and (pt_cmpR op_gt (pe_callB call_len_seq (by rfl) B.len PySem.boot_len (pa_cons (pv 4) pa_nil)) pe_int (nomark _)) (pw_and1 (pt_cmpR op_eq (pe_ix ix_list (pv 4) (pe_un un_neg pe_int) (fun _ _ => rfl)) pe_int (nomark _)))))
        (pss_one (ps_set (i := 4) sc_law.nd rfl (.inl rfl) (pe_op op_cat (pe_slice sl_list (pv 4) po_none (po_some (pe_un un_neg pe_int))) (pe_lst (pa_cons (pe_op op_add (pe_ix ix_list (pv 4) (pe_un un_neg pe_int) (fun _ _ => rfl)) pe_int) pa_nil))))) pss_nil)
    <| pss_one (ps_ret (pe_cmpR (op_eqT hr) (pe_cal Cr hr (by decide) (by rfl) pass0 (pa_cons (pv 5) pa_nil)) (pe_callTy call_tuple_of (by rfl) B.tuple (by decide +kernel) (pa_cons (pv 4) pa_nil)) (nomark _))), ?_⟩
  have e30 : (10 : Int) ^ (30 : Int).toNat = 1000000000000000000000000000000 := by decide
  have e100 : (2 : Nat) ^ 100 = 1267650600228229401496703205376 := by decide
  have e100i : (2 : Int) ^ 100 = 1267650600228229401496703205376 := by decide
  have big100 : ∀ x : Int, x.natAbs < 2 ^ 100 → Big x := fun x hx => ⟨Nat.lt_of_lt_of_le hx (Nat.pow_le_pow_right (by decide) (by decide))⟩
  have r1 := mix_range (c := cellOf ns 0) (p := 1000003) (m := 2 * 200 + 1) (by decide)
  have r2 := mix_range (c := cellOf ns 1) (p := 999983) (m := 200) (by decide)
  refine ⟨_, rfl, a, ns, 0, rfl, hS, by decide, _, rfl, a, ns, 1, rfl, hS, by decide, _, _, 200, rfl, by decide, by decide, fun f0 nf0 => ?_⟩
  have hlow0 := low_is (u := mix (cellOf ns 0) 1000003 (2 * 200 + 1) - 200) (l := 1 + mix (cellOf ns 1) 999983 200) (by omega)
  have habs0 := low_abs (u := mix (cellOf ns 0) 1000003 (2 * 200 + 1) - 200) (l := 1 + mix (cellOf ns 1) 999983 200) (by omega)
  have s0 : Same H (upd H f0 (tI [(frac (cellOf ns 0) (cellOf ns 1) 200).1, (frac (cellOf ns 0) (cellOf ns 1) 200).2])) := same_upd nf0
  -- the fraction, of either kind
  refine ⟨fun σ H' => ∃ (fr : Addr) (u l : Int), σ = [some (.ref a), some (.ref fr), none, none, none, none, none] ∧ Same H H' ∧ H' fr = some (tI [u, l]) ∧ 0 < l ∧ dv u l = 1 ∧ u.natAbs < 2 ^ 100 ∧ l.natAbs < 2 ^ 100, ?_, ?_⟩
  · refine ⟨_, rfl, a, ns, 2, rfl, s0.seq hS, by decide, _, _, rfl, rfl, (by show (0 : Int) < 5; decide), rfl, _, rfl, ite2 (fun c => ?_) (fun c => ?_)⟩
    · have m0 := Int.emod_nonneg (cellOf ns 0) (show (1000000000000000000000000000000 : Int) ≠ 0 by decide)
      have m1 := Int.emod_lt_of_pos (cellOf ns 0) (show (0 : Int) < 1000000000000000000000000000000 by decide)
      have m2 := Int.emod_nonneg (cellOf ns 1) (show (1000000000000000000000000000000 : Int) ≠ 0 by decide)
      have m3 := Int.emod_lt_of_pos (cellOf ns 1) (show (0 : Int) < 1000000000000000000000000000000 by decide)
      refine ⟨_, rfl, a, ns, 0, rfl, s0.seq hS, by decide, 10, 30, rfl, rfl, ⟨by decide, by decide, by decide⟩, _, _, rfl, rfl, (by show (0 : Int) < 10 ^ (30 : Int).toNat; rw [e30]; decide), ?_⟩
      refine ⟨_, rfl, a, ns, 1, rfl, s0.seq hS, by decide, 10, 30, rfl, rfl, ⟨by decide, by decide, by decide⟩, _, _, rfl, rfl, (by show (0 : Int) < 10 ^ (30 : Int).toNat; rw [e30]; decide), _, _, rfl, rfl, ?_⟩
      rw [e30]
      have hlow := low_is (u := cellOf ns 0 % 1000000000000000000000000000000) (l := 1 + cellOf ns 1 % 1000000000000000000000000000000) (by omega)
      have habs := low_abs (u := cellOf ns 0 % 1000000000000000000000000000000) (l := 1 + cellOf ns 1 % 1000000000000000000000000000000) (by omega)
      refine ⟨_, _, rfl, by omega, big100 _ (by omega), big100 _ (by omega), fun p np => ?_⟩
      exact ⟨p, _, _, rfl, same_updO s0 (s0.free np), upd_same, hlow.pos, hlow.one, by omega, by omega⟩
    · exact ⟨f0, _, _, rfl, s0, upd_same, hlow0.pos, hlow0.one, by unfold frac; omega, by unfold frac; omega⟩
  rintro σ H1 ⟨fr, u, l, rfl, s1, efr, hl, hone, hub, hlb⟩
  have hlen := row_len2 (u := u) (l := l) 100 (by omega) (by rw [e100i]; omega)
  have hst : st (row u l) = (u, l) := st_row (by omega) (.inl hl) hone
  refine ⟨_, rfl, fr, u, l, rfl, efr, hl, big100 _ hlb, by omega, fun H2 fo s2' _ efo => ?_⟩
  have s2 : Same H H2 := s1.trans s2'
  have efr2 : H2 fr = some (tI [u, l]) := s2' _ _ efr
  have hne : row u l ≠ [] := row_ne hl
  have hpos : 0 < (row u l).length := List.length_pos_iff.mpr hne
  refine ⟨_, rfl, .ref fo, .ty "tuple", _, _, true, rfl, .ty "tuple", isT_tup efo, isT_self, true, rfl, iteF ?_⟩
  refine ⟨_, rfl, fo, _, rfl, .inr (SqT.of efo), rfl, false, ?_, iteF ?_⟩
  · rw [List.length_map]
    exact congrArg V.bl (decide_eq_false (fun z => by have := V.int.inj z; omega))
  refine ⟨_, rfl, fo, rfl, ⟨_, SqT.of efo⟩, lc_mapT (xs := (row u l).map V.int) (ys := ((row u l).map fun _ => true).map V.bl) (by simp only [List.length_map]) (by rw [List.length_map]; exact small_of (by omega)) efo (fun x => rfl) (fun i x y H3 Q3 hx hy sx q3 => ?_) (fun L H3 sx hL nL => ?_)⟩
  · obtain ⟨n, hn, rfl⟩ := map_get hx
    have ey : y = .bl true := by
      rw [List.getElem?_map, List.getElem?_map, hn] at hy
      exact (Option.some.inj hy).symm
    subst ey
    exact ⟨_, rfl, n, rfl, q3 _ (Same.refl _)⟩
  have s3 : Same H H3 := s2.trans sx
  have efr3 : H3 fr = some (tI [u, l]) := sx _ _ efr2
  have efo3 : H3 fo = some (tI (row u l)) := sx _ _ efo
  refine ⟨L, _, rfl, .of hL, true, ?_, iteF ?_⟩
  · rw [List.all_map]
    simp
  -- all but the first from 1 on, the last from 2 on
  have hcut : cutV ((row u l).map V.int) (some 1) none = ((row u l).drop 1).map V.int := by
    rw [List.map_drop]
    exact cutV_from (k := 1)
  refine ⟨fun σ H' => σ = [some (.ref a), some (.ref fr), some (.ref fo), none, none, none, none] ∧ Same H H' ∧ H' fr = some (tI [u, l]) ∧ H' fo = some (tI (row u l)), ?_, ?_⟩
  rotate_left
  · rintro σ H5 ⟨rfl, s6, efr5, efo5⟩
    have hbr : ∀ y ∈ row u l, Big y := fun y hy => big100 _ (by have := row_mem (by omega) y hy; omega)
    have hbd : ∀ j, Big (st ((row u l).drop j)).1 := fun j => big100 _ (by have := row_drop (by omega) (.inl hl) hone j; omega)
    have hisr : isRow (row u l) = true := by
      unfold isRow
      rw [Bool.and_eq_true]
      refine ⟨?_, ?_⟩
      · cases e : row u l with
        | nil => exact absurd e hne
        | cons x y => rfl
      · rw [List.all_eq_true]
        exact fun y hy => decide_eq_true (row_tail hl y hy)
    refine ⟨_, rfl, fo, _, rfl, .inl efo5, hne, by omega, hbr, hbd, fun H6 p6 s7 _ e6 => ?_⟩
    rw [hst] at e6
    refine ⟨_, rfl, p6, fr, _, _, rfl, rfl, SqT.of e6, SqT.of (s7 _ _ efr5), false, congrArg V.bl (by simp), iteF ?_⟩
    refine ⟨_, rfl, fo, _, rfl, s7 _ _ efo5, by omega, fun z => (by rw [hisr] at z; cases z), fun _ => ⟨hbr, hbd, fun H7 p7 s8 _ e7 => ?_⟩⟩
    rw [hst] at e7
    have efr7 := s8 _ _ (s7 _ _ efr5)
    have efo7 := s8 _ _ (s7 _ _ efo5)
    refine ⟨_, rfl, p7, fr, _, _, rfl, rfl, SqT.of e7, SqT.of efr7, false, congrArg V.bl (by simp), iteF ?_⟩
    have s9 : Same H H7 := (s6.trans s7).trans s8
    -- first_parts
    refine ⟨_, rfl, a, ns, 2, rfl, s9.seq hS, by decide, _, rfl, fo, _, rfl, .inr (SqT.of efo7), _, _, rfl, rfl, _, _, rfl, rfl, ?_, ?_⟩
    · rw [List.length_map]
      show (0 : Int) < _
      omega
    rw [List.length_map]
    have m0 := Int.emod_nonneg (cellOf ns 2) (show (((row u l).length : Nat) : Int) + 3 ≠ 0 by omega)
    dsimp only
    generalize cellOf ns 2 % (((row u l).length : Nat) + 3) = cnt at *
    obtain ⟨k, rfl⟩ := Int.eq_ofNat_of_zero_le m0
    refine ⟨fun σ H' => σ = [some (.ref a), some (.ref fr), some (.ref fo), some (.int (k : Int)), none, none, none] ∧ Same H H', ?_, ?_⟩
    · refine ⟨_, rfl, _, rfl, fr, u, l, k, rfl, efr7, hl, big100 _ hlb, by omega, fun H8 p8 s10 _ e8 => ?_⟩
      have s11 : Same H H8 := s9.trans s10
      refine ⟨_, rfl, _, rfl, _, rfl, fo, _, rfl, SqT.of (s10 _ _ efo7), fun hw => ?_, fun _ p np => ?_⟩
      · have ek : (row u l).take k = row u l := by
          have h2 := hw.2
          rw [HT.sIx_nat, List.length_map] at h2
          rw [List.take_of_length_le (by omega)]
        rw [ek] at e8
        refine ⟨p8, fo, _, _, rfl, rfl, SqT.of e8, SqT.of (s10 _ _ efo7), false, congrArg V.bl (by simp), iteF ?_⟩
        refine ⟨_, rfl, _, rfl, fo, _, rfl, .inr (SqT.of (s10 _ _ efo7)), fr, u, l, ((row u l).map V.int).length, rfl, s10 _ _ efr7, hl, big100 _ hlb, by omega, fun H10 p10 s13 _ e10 => ?_⟩
        rw [List.length_map, List.take_length] at e10
        exact ⟨_, rfl, p10, fo, _, _, rfl, rfl, SqT.of e10, SqT.of (s13 _ _ (s10 _ _ efo7)), false, congrArg V.bl (by simp), iteF ⟨rfl, s11.trans s13⟩⟩
      · rw [cutV_to, ← List.map_take]
        refine ⟨p8, p, _, _, rfl, rfl, SqT.of (same_upd np _ _ e8), SqT.of upd_same, false, congrArg V.bl (by simp), iteF ?_⟩
        refine ⟨_, rfl, _, rfl, fo, _, rfl, .inr (SqT.of (same_upd np _ _ (s10 _ _ efo7))), fr, u, l, ((row u l).map V.int).length, rfl, same_upd np _ _ (s10 _ _ efr7), hl, big100 _ hlb, by omega, fun H10 p10 s13 _ e10 => ?_⟩
        rw [List.length_map, List.take_length] at e10
        exact ⟨_, rfl, p10, fo, _, _, rfl, rfl, SqT.of e10, SqT.of (s13 _ _ (same_upd np _ _ (s10 _ _ efo7))), false, congrArg V.bl (by simp), iteF ⟨rfl, (s11.trans (same_upd np)).trans s13⟩⟩
    rintro σ H9 ⟨rfl, s15⟩
    -- the drawn row
    have hA := anyRow_abs ns
    have hAl := anyRow_len ns
    have hAt := anyRow_tail ns
    have hAne : anyRow ns ≠ [] := List.cons_ne_nil _ _
    have hAb := st_big hA hAl
    refine ⟨_, rfl, a, ns, rfl, s15.seq hS, fun H10 rw s16 _ erw => ?_⟩
    generalize anyRow ns = r at *
    have s17 : Same H H10 := s15.trans s16
    refine ⟨_, rfl, rw, _, rfl, .inl ⟨SqL.of erw, fun t nt => ?_⟩⟩
    have hr1 : isRow r = true := by
      unfold isRow
      rw [Bool.and_eq_true]
      refine ⟨?_, ?_⟩
      · cases r with
        | nil => exact absurd rfl hAne
        | cons x y => rfl
      · rw [List.all_eq_true]
        exact fun y hy => decide_eq_true (hAt y hy).1
    have hAb2 : ∀ y ∈ r, Big y := fun y hy => big_of (by have := hA y hy; omega)
    have s18 : Same H (upd H10 t (tI r)) := same_updO s17 (s17.free nt)
    refine ⟨t, r, rfl, upd_same, by omega, fun z => (by rw [hr1] at z; cases z), fun _ => ⟨hAb2, fun j => (hAb j).1, fun H11 p11 s19 _ e11 => ?_⟩⟩
    have erw11 : H11 rw = some (lI r) := s19 _ _ (same_upd nt _ _ erw)
    refine ⟨_, rfl, _, rfl, rw, r, rfl, .inr erw11, hAne, by omega, hAb2, fun j => (hAb j).1, fun H12 p12 s20 _ e12 => ?_⟩
    refine ⟨p11, p12, _, _, rfl, rfl, SqT.of (s20 _ _ e11), SqT.of e12, false, congrArg V.bl (by simp), iteF ?_⟩
    have s21 : Same H H12 := (s18.trans s19).trans s20
    have erw12 : H12 rw = some (lI r) := s20 _ _ erw11
    have e12' : H12 p11 = some (tI [(st r).1, (st r).2]) := s20 _ _ e11
    have hr0 : 0 < r.length := List.length_pos_iff.mpr hAne
    refine ⟨fun σ H' => ∃ rw' : Addr, σ = [some (.ref a), some (.ref fr), some (.ref fo), some (.int (k : Int)), some (.ref rw'), some (.ref p11), none] ∧ Same H H' ∧ H' rw' = some (lI (tidy r)) ∧ H' p11 = some (tI [(st r).1, (st r).2]), ?_, ?_⟩
    · have gl2 : r[r.length - 1]? = some (r.getD (r.length - 1) 0) := by
        rw [List.getD_eq_getElem?_getD, List.getElem?_eq_getElem (by omega)]
        rfl
      have glast2 : atI (r.map V.int) (-1) = some (.int (r.getD (r.length - 1) 0)) := atI_neg (k := 1) (by decide) (by rw [List.length_map]; omega) (by rw [List.length_map]; exact get_map gl2)
      refine ⟨_, rfl, rw, _, rfl, .inl (SqL.of erw12), _, _, rfl, rfl, _, rfl, ite2 (fun c => ?_) (fun c => ?_)⟩
      · have c' : 1 < r.length := by
          have h : (1 : Int) < ((r.map V.int).length : Nat) := of_decide_eq_true c
          rw [List.length_map] at h
          omega
        refine ⟨_, rfl, 1, rfl, rw, _, -1, _, rfl, rfl, SqL.of erw12, glast2, rfl, _, rfl, ite2 (fun c2 => ?_) (fun c2 => ?_)⟩
        · have c3 : r.getD (r.length - 1) 0 = 1 := V.int.inj (of_decide_eq_true c2)
          have gl3 : r[r.length - 2]? = some (r.getD (r.length - 2) 0) := by
            rw [List.getD_eq_getElem?_getD, List.getElem?_eq_getElem (by omega)]
            rfl
          have g2 : atI (r.map V.int) (-2) = some (.int (r.getD (r.length - 2) 0)) := atI_neg (k := 2) (by decide) (by rw [List.length_map]; omega) (by rw [List.length_map]; exact get_map gl3)
          have hcut3 : cutV (r.map V.int) none (some (-2)) = (r.take (r.length - 2)).map V.int := by
            rw [show (-2 : Int) = -((2 : Nat) : Int) from rfl, cutV_but (by decide), List.length_map, List.map_take]
          refine ⟨_, rfl, 2, rfl, -2, rfl, rw, _, rfl, SqL.of erw12, fun p np => ?_⟩
          rw [hcut3]
          have ht : tidy r = r.take (r.length - 2) ++ [r.getD (r.length - 2) 0 + 1] := if_pos ⟨c', c3⟩
          refine ⟨_, rfl, 2, rfl, rw, _, -2, _, rfl, rfl, SqL.of (same_upd np _ _ erw12), g2, _, _, rfl, rfl, len1, fun p2 np2 => ?_⟩
          have np3 : p2 ≠ p := fun z => by
            subst z
            rw [upd_same] at np2
            cases np2
          refine ⟨p, p2, _, _, rfl, rfl, same_upd np2 _ _ upd_same, upd_same, ?_, fun p3 np4 => ?_⟩
          · rw [List.length_map, List.length_take]
            exact small_le (by show min _ _ + 1 ≤ _; omega)
          have s23 := (s21.trans (same_upd np (o := lI (r.take (r.length - 2))))).trans (same_upd np2 (o := HO.lst [V.int (r.getD (r.length - 2) 0 + 1)]))
          refine ⟨p3, rfl, same_updO s23 (s23.free np4), ?_, same_upd np4 _ _ (same_upd np2 _ _ (same_upd np _ _ e12'))⟩
          rw [upd_same, ht]
          simp only [lI, List.map_append, List.map_cons, List.map_nil]
        · have ht : tidy r = r := if_neg fun z => c2 (decide_eq_true (congrArg V.int z.2))
          exact ⟨rw, rfl, s21, by rw [ht]; exact erw12, e12'⟩
      · have ht : tidy r = r := if_neg fun z => c (decide_eq_true (by rw [List.length_map]; omega))
        exact ⟨rw, rfl, s21, by rw [ht]; exact erw12, e12'⟩
    rintro σ H13 ⟨rw', rfl, s22, e22, e23⟩
    obtain ⟨hl2, hrow2⟩ := row_tidy hAne fun y hy => (hAt y hy).1
    have hl3 := row_len2 (u := (st r).1) (l := (st r).2) 100 (by omega) (by
      have h := (st_abs r hA).2
      have h2 : (41 : Nat) ^ r.length ≤ 41 ^ 12 := Nat.pow_le_pow_right (by decide) hAl
      have e41 : (41 : Nat) ^ 12 = 22563490300366186081 := by decide
      rw [e100i]
      omega)
    refine ⟨_, rfl, p11, _, _, rfl, e23, hl2, (hAb 0).2, by omega, fun H14 p14 s24 _ e14 => ?_⟩
    rw [hrow2] at e14
    refine ⟨_, rfl, rw', _, rfl, .inl ⟨SqL.of (s24 _ _ e22), fun t2 nt2 => ?_⟩⟩
    refine ⟨p14, t2, _, _, rfl, rfl, SqT.of (same_upd nt2 _ _ e14), SqT.of upd_same, ?_⟩
    rw [decide_eq_true rfl]
    exact q _
  refine ⟨_, rfl, 1, rfl, fo, _, rfl, SqT.of efo3, fun hw => absurd hw.1 ?_, fun _ p np => ?_⟩
  · rw [sIx_one, List.length_map]
    omega
  rw [hcut]
  have s4 : Same H (upd H3 p (tI ((row u l).drop 1))) := s3.trans (same_upd np)
  refine ⟨p, rfl, ⟨_, SqT.of upd_same⟩, lc_mapT (xs := ((row u l).drop 1).map V.int) (ys := (((row u l).drop 1).map fun y => decide (1 ≤ y)).map V.bl) (by simp only [List.length_map]) (by rw [List.length_map, List.length_drop]; exact small_of (by omega)) upd_same (fun x => rfl) (fun i x y H4 Q4 hx hy sx4 q4 => ?_) (fun L4 H4 sx4 hL4 nL4 => ?_)⟩
  · obtain ⟨n, hn, rfl⟩ := map_get hx
    have ey : y = .bl (decide (1 ≤ n)) := by
      rw [List.getElem?_map, List.getElem?_map, hn] at hy
      exact (Option.some.inj hy).symm
    subst ey
    exact ⟨_, rfl, _, _, rfl, rfl, q4 _ (Same.refl _)⟩
  have s5 : Same H H4 := s4.trans sx4
  have k3 : ∀ b o, H3 b = some o → H4 b = some o := fun b o e => sx4 _ _ (same_upd np _ _ e)
  have efr4 := k3 _ _ efr3
  have efo4 := k3 _ _ efo3
  refine ⟨L4, _, rfl, .of hL4, true, ?_, iteF ?_⟩
  · refine congrArg V.bl ?_
    rw [List.all_map, List.all_eq_true]
    intro y hy
    exact decide_eq_true (row_tail hl y hy)
  have gl : (row u l)[(row u l).length - 1]? = some (row u l)[(row u l).length - 1] := List.getElem?_eq_getElem (by omega)
  have glast : atI ((row u l).map V.int) (-1) = some (.int (row u l)[(row u l).length - 1]) := atI_neg (k := 1) (by decide) (by rw [List.length_map]; omega) (by rw [List.length_map]; exact get_map gl)
  refine ⟨_, rfl, fo, _, rfl, .inr (SqT.of efo4), _, _, rfl, rfl, _, rfl, ite2 (fun c => ?_) (fun c => ?_)⟩
  · have c' : 1 < (row u l).length := by
      have h : (1 : Int) < (((row u l).map V.int).length : Nat) := of_decide_eq_true c
      rw [List.length_map] at h
      omega
    have h2 := row_last2 (u := u) hl (by omega) _ (by rw [List.getLast?_eq_getElem?]; exact gl)
    refine ⟨_, rfl, 1, rfl, fo, _, -1, _, rfl, rfl, SqT.of efo4, glast, _, _, rfl, rfl, _, rfl, ite2 (fun c2 => ?_) (fun c2 => ?_)⟩
    · have h3 := of_decide_eq_true c2
      omega
    · exact ⟨rfl, s5, efr4, efo4⟩
  · exact ⟨rfl, s5, efr4, efo4⟩
end
/-! ### what the top has written -/
theorem all_mk {l : PySem.W.OpenLaw} {w : World} {K : PySem.W.Frag} {h : Heap} {mg : Str → Option Value} {fa : Addr} (X : K.In h) (G : h.Ns mainGlobals mg) (hfa : mg "law" = some (.ref fa))
    {f0 : Addr} {od0 an0 : Option Addr} {sl0 : Array (Option Value)} {oc0 kV0 dc0 pm0 cd0 ct0 : Value}
    {f1 : Addr} {od1 an1 : Option Addr} {sl1 : Array (Option Value)} {oc1 kV1 dc1 pm1 cd1 ct1 : Value}
    {f2 : Addr} {od2 an2 : Option Addr} {sl2 : Array (Option Value)} {oc2 kV2 dc2 pm2 cd2 ct2 : Value}
    {f3 : Addr} {od3 an3 : Option Addr} {sl3 : Array (Option Value)} {oc3 kV3 dc3 pm3 cd3 ct3 : Value}
    {f4 : Addr} {od4 an4 : Option Addr} {sl4 : Array (Option Value)} {oc4 kV4 dc4 pm4 cd4 ct4 : Value}
    {f5 : Addr} {od5 an5 : Option Addr} {sl5 : Array (Option Value)} {oc5 kV5 dc5 pm5 cd5 ct5 : Value}
    {f6 : Addr} {od6 an6 : Option Addr} {sl6 : Array (Option Value)} {oc6 kV6 dc6 pm6 cd6 ct6 : Value}
    {f7 : Addr} {od7 an7 : Option Addr} {sl7 : Array (Option Value)} {oc7 kV7 dc7 pm7 cd7 ct7 : Value}
    {f8 : Addr} {od8 an8 : Option Addr} {sl8 : Array (Option Value)} {oc8 kV8 dc8 pm8 cd8 ct8 : Value}
    {f9 : Addr} {od9 an9 : Option Addr} {sl9 : Array (Option Value)} {oc9 kV9 dc9 pm9 cd9 ct9 : Value}
    {f10 : Addr} {od10 an10 : Option Addr} {sl10 : Array (Option Value)} {oc10 kV10 dc10 pm10 cd10 ct10 : Value}
    {f11 : Addr} {od11 an11 : Option Addr} {sl11 : Array (Option Value)} {oc11 kV11 dc11 pm11 cd11 ct11 : Value}
    {f12 : Addr} {od12 an12 : Option Addr} {sl12 : Array (Option Value)} {oc12 kV12 dc12 pm12 cd12 ct12 : Value}
    {f13 : Addr} {od13 an13 : Option Addr} {sl13 : Array (Option Value)} {oc13 kV13 dc13 pm13 cd13 ct13 : Value}
    {f14 : Addr} {od14 an14 : Option Addr} {sl14 : Array (Option Value)} {oc14 kV14 dc14 pm14 cd14 ct14 : Value}
    {f15 : Addr} {od15 an15 : Option Addr} {sl15 : Array (Option Value)} {oc15 kV15 dc15 pm15 cd15 ct15 : Value}
    {f16 : Addr} {od16 an16 : Option Addr} {sl16 : Array (Option Value)} {oc16 kV16 dc16 pm16 cd16 ct16 : Value}
    {f17 : Addr} {od17 an17 : Option Addr} {sl17 : Array (Option Value)} {oc17 kV17 dc17 pm17 cd17 ct17 : Value}
    {f18 : Addr} {od18 an18 : Option Addr} {sl18 : Array (Option Value)} {oc18 kV18 dc18 pm18 cd18 ct18 : Value}
    {f19 : Addr} {od19 an19 : Option Addr} {sl19 : Array (Option Value)} {oc19 kV19 dc19 pm19 cd19 ct19 : Value}
    {C R : Addr}
    (a0 : PySem.W.nsIn K mainGlobals "row_of" = some (some (.ref f0)))
    (l0 : K.lookup f0 = some ⟨oc0, od0, .func (PySem.W.fnOf "row_of" "row_of" (defArgs s_row_of) (defBody s_row_of) (defScope s_row_of) .none kV0 dc0 pm0 an0 cd0 ct0), sl0⟩)
    (c0 : PySem.W.codeIn K cd0 "row_of" = true)
    (k0 : PySem.W.keepIn K (.ref f0) = true)
    (a1 : PySem.W.nsIn K mainGlobals "fraction_of" = some (some (.ref f1)))
    (l1 : K.lookup f1 = some ⟨oc1, od1, .func (PySem.W.fnOf "fraction_of" "fraction_of" (defArgs s_fraction_of) (defBody s_fraction_of) (defScope s_fraction_of) .none kV1 dc1 pm1 an1 cd1 ct1), sl1⟩)
    (c1 : PySem.W.codeIn K cd1 "fraction_of" = true)
    (k1 : PySem.W.keepIn K (.ref f1) = true)
    (a2 : PySem.W.nsIn K mainGlobals "divisor" = some (some (.ref f2)))
    (l2 : K.lookup f2 = some ⟨oc2, od2, .func (PySem.W.fnOf "divisor" "divisor" (defArgs s_divisor) (defBody s_divisor) (defScope s_divisor) .none kV2 dc2 pm2 an2 cd2 ct2), sl2⟩)
    (c2 : PySem.W.codeIn K cd2 "divisor" = true)
    (k2 : PySem.W.keepIn K (.ref f2) = true)
    (a3 : PySem.W.nsIn K mainGlobals "least_square" = some (some (.ref f3)))
    (l3 : K.lookup f3 = some ⟨oc3, od3, .func (PySem.W.fnOf "least_square" "least_square" (defArgs s_least_square) (defBody s_least_square) (defScope s_least_square) .none kV3 dc3 pm3 an3 cd3 ct3), sl3⟩)
    (c3 : PySem.W.codeIn K cd3 "least_square" = true)
    (k3 : PySem.W.keepIn K (.ref f3) = true)
    (a4 : PySem.W.nsIn K mainGlobals "heart" = some (some (.ref f4)))
    (l4 : K.lookup f4 = some ⟨oc4, od4, .func (PySem.W.fnOf "heart" "heart" (defArgs s_heart) (defBody s_heart) (defScope s_heart) .none kV4 dc4 pm4 an4 cd4 ct4), sl4⟩)
    (c4 : PySem.W.codeIn K cd4 "heart" = true)
    (k4 : PySem.W.keepIn K (.ref f4) = true)
    (a5 : PySem.W.nsIn K mainGlobals "is_square" = some (some (.ref f5)))
    (l5 : K.lookup f5 = some ⟨oc5, od5, .func (PySem.W.fnOf "is_square" "is_square" (defArgs s_is_square) (defBody s_is_square) (defScope s_is_square) .none kV5 dc5 pm5 an5 cd5 ct5), sl5⟩)
    (c5 : PySem.W.codeIn K cd5 "is_square" = true)
    (k5 : PySem.W.keepIn K (.ref f5) = true)
    (a6 : PySem.W.nsIn K mainGlobals "root_of" = some (some (.ref f6)))
    (l6 : K.lookup f6 = some ⟨oc6, od6, .func (PySem.W.fnOf "root_of" "root_of" (defArgs s_root_of) (defBody s_root_of) (defScope s_root_of) .none kV6 dc6 pm6 an6 cd6 ct6), sl6⟩)
    (c6 : PySem.W.codeIn K cd6 "root_of" = true)
    (k6 : PySem.W.keepIn K (.ref f6) = true)
    (a7 : PySem.W.nsIn K mainGlobals "part_of" = some (some (.ref f7)))
    (l7 : K.lookup f7 = some ⟨oc7, od7, .func (PySem.W.fnOf "part_of" "part_of" (defArgs s_part_of) (defBody s_part_of) (defScope s_part_of) .none kV7 dc7 pm7 an7 cd7 ct7), sl7⟩)
    (c7 : PySem.W.codeIn K cd7 "part_of" = true)
    (k7 : PySem.W.keepIn K (.ref f7) = true)
    (a8 : PySem.W.nsIn K mainGlobals "moved" = some (some (.ref f8)))
    (l8 : K.lookup f8 = some ⟨oc8, od8, .func (PySem.W.fnOf "moved" "moved" (defArgs s_moved) (defBody s_moved) (defScope s_moved) .none kV8 dc8 pm8 an8 cd8 ct8), sl8⟩)
    (c8 : PySem.W.codeIn K cd8 "moved" = true)
    (k8 : PySem.W.keepIn K (.ref f8) = true)
    (a9 : PySem.W.nsIn K mainGlobals "turned" = some (some (.ref f9)))
    (l9 : K.lookup f9 = some ⟨oc9, od9, .func (PySem.W.fnOf "turned" "turned" (defArgs s_turned) (defBody s_turned) (defScope s_turned) .none kV9 dc9 pm9 an9 cd9 ct9), sl9⟩)
    (c9 : PySem.W.codeIn K cd9 "turned" = true)
    (k9 : PySem.W.keepIn K (.ref f9) = true)
    (a10 : PySem.W.nsIn K mainGlobals "first_parts" = some (some (.ref f10)))
    (l10 : K.lookup f10 = some ⟨oc10, od10, .func (PySem.W.fnOf "first_parts" "first_parts" (defArgs s_first_parts) (defBody s_first_parts) (defScope s_first_parts) .none kV10 dc10 pm10 an10 cd10 ct10), sl10⟩)
    (c10 : PySem.W.codeIn K cd10 "first_parts" = true)
    (k10 : PySem.W.keepIn K (.ref f10) = true)
    (a11 : PySem.W.nsIn K mainGlobals "_law_cell" = some (some (.ref f11)))
    (l11 : K.lookup f11 = some ⟨oc11, od11, .func (PySem.W.fnOf "_law_cell" "_law_cell" (defArgs s__law_cell) (defBody s__law_cell) (defScope s__law_cell) .none kV11 dc11 pm11 an11 cd11 ct11), sl11⟩)
    (c11 : PySem.W.codeIn K cd11 "_law_cell" = true)
    (k11 : PySem.W.keepIn K (.ref f11) = true)
    (a12 : PySem.W.nsIn K mainGlobals "_law_mix" = some (some (.ref f12)))
    (l12 : K.lookup f12 = some ⟨oc12, od12, .func (PySem.W.fnOf "_law_mix" "_law_mix" (defArgs s__law_mix) (defBody s__law_mix) (defScope s__law_mix) .none kV12 dc12 pm12 an12 cd12 ct12), sl12⟩)
    (c12 : PySem.W.codeIn K cd12 "_law_mix" = true)
    (k12 : PySem.W.keepIn K (.ref f12) = true)
    (a13 : PySem.W.nsIn K mainGlobals "_law_whole" = some (some (.ref f13)))
    (l13 : K.lookup f13 = some ⟨oc13, od13, .func (PySem.W.fnOf "_law_whole" "_law_whole" (defArgs s__law_whole) (defBody s__law_whole) (defScope s__law_whole) .none kV13 dc13 pm13 an13 cd13 ct13), sl13⟩)
    (c13 : PySem.W.codeIn K cd13 "_law_whole" = true)
    (k13 : PySem.W.keepIn K (.ref f13) = true)
    (a14 : PySem.W.nsIn K mainGlobals "_law_divisor" = some (some (.ref f14)))
    (l14 : K.lookup f14 = some ⟨oc14, od14, .func (PySem.W.fnOf "_law_divisor" "_law_divisor" (defArgs s__law_divisor) (defBody s__law_divisor) (defScope s__law_divisor) .none kV14 dc14 pm14 an14 cd14 ct14), sl14⟩)
    (c14 : PySem.W.codeIn K cd14 "_law_divisor" = true)
    (k14 : PySem.W.keepIn K (.ref f14) = true)
    (a15 : PySem.W.nsIn K mainGlobals "_law_lowest" = some (some (.ref f15)))
    (l15 : K.lookup f15 = some ⟨oc15, od15, .func (PySem.W.fnOf "_law_lowest" "_law_lowest" (defArgs s__law_lowest) (defBody s__law_lowest) (defScope s__law_lowest) .none kV15 dc15 pm15 an15 cd15 ct15), sl15⟩)
    (c15 : PySem.W.codeIn K cd15 "_law_lowest" = true)
    (k15 : PySem.W.keepIn K (.ref f15) = true)
    (a16 : PySem.W.nsIn K mainGlobals "_law_fraction" = some (some (.ref f16)))
    (l16 : K.lookup f16 = some ⟨oc16, od16, .func (PySem.W.fnOf "_law_fraction" "_law_fraction" (defArgs s__law_fraction) (defBody s__law_fraction) (defScope s__law_fraction) .none kV16 dc16 pm16 an16 cd16 ct16), sl16⟩)
    (c16 : PySem.W.codeIn K cd16 "_law_fraction" = true)
    (k16 : PySem.W.keepIn K (.ref f16) = true)
    (a17 : PySem.W.nsIn K mainGlobals "_law_stands" = some (some (.ref f17)))
    (l17 : K.lookup f17 = some ⟨oc17, od17, .func (PySem.W.fnOf "_law_stands" "_law_stands" (defArgs s__law_stands) (defBody s__law_stands) (defScope s__law_stands) .none kV17 dc17 pm17 an17 cd17 ct17), sl17⟩)
    (c17 : PySem.W.codeIn K cd17 "_law_stands" = true)
    (k17 : PySem.W.keepIn K (.ref f17) = true)
    (a18 : PySem.W.nsIn K mainGlobals "_law_any_row" = some (some (.ref f18)))
    (l18 : K.lookup f18 = some ⟨oc18, od18, .func (PySem.W.fnOf "_law_any_row" "_law_any_row" (defArgs s__law_any_row) (defBody s__law_any_row) (defScope s__law_any_row) .none kV18 dc18 pm18 an18 cd18 ct18), sl18⟩)
    (c18 : PySem.W.codeIn K cd18 "_law_any_row" = true)
    (k18 : PySem.W.keepIn K (.ref f18) = true)
    (a19 : PySem.W.nsIn K mainGlobals "law" = some (some (.ref f19)))
    (l19 : K.lookup f19 = some ⟨oc19, od19, .func (PySem.W.fnOf "law" "law" (defArgs s_law) (defBody s_law) (defScope s_law) .none kV19 dc19 pm19 an19 cd19 ct19), sl19⟩)
    (c19 : PySem.W.codeIn K cd19 "law" = true)
    (k19 : PySem.W.keepIn K (.ref f19) = true)
    (z_len : PySem.W.nsIn K mainGlobals "len" = some none)
    (z_all : PySem.W.nsIn K mainGlobals "all" = some none)
    (z_reversed : PySem.W.nsIn K mainGlobals "reversed" = some none)
    (z_tuple : PySem.W.nsIn K mainGlobals "tuple" = some none)
    (z_abs : PySem.W.nsIn K mainGlobals "abs" = some none)
    (z_range : PySem.W.nsIn K mainGlobals "range" = some none)
    (z_isinstance : PySem.W.nsIn K mainGlobals "isinstance" = some none)
    (z_int : PySem.W.nsIn K mainGlobals "int" = some none)
    (z_bool : PySem.W.nsIn K mainGlobals "bool" = some none)
    (z_ValueError : PySem.W.nsIn K mainGlobals "ValueError" = some none)
    (z_list : PySem.W.nsIn K mainGlobals "list" = some none)
    (z_sum : PySem.W.nsIn K mainGlobals "sum" = some none)
    (z_min : PySem.W.nsIn K mainGlobals "min" = some none)
    (z_enumerate : PySem.W.nsIn K mainGlobals "enumerate" = some none)
    (gC : PySem.W.nsIn K mainGlobals "NoNumber" = some (some (.ref C)))
    (gR : PySem.W.nsIn K mainGlobals "RowError" = some (some (.ref R)))
    (xC : PySem.W.excIn K C [.type "ValueError", .type "Exception", .type "BaseException", .type "object"] "ValueError.__new__" = true)
    (kC : PySem.W.keepIn K (.ref C) = true)
    (bC : PySem.W.subIn K (.ref C) (.type "BaseException") = some true)
    (tC : PySem.W.typeIn K (.ref C) = some (.type "type"))
    (bR : PySem.W.subIn K (.ref R) (.type "BaseException") = some true)
    (dR : PySem.W.hasDictIn K R = true)
    (tR : PySem.W.typeIn K (.ref R) = some (.type "type"))
    (sR : PySem.W.subIn K (.ref C) (.ref R) = some true)
    (e1 : PySem.W.findIn K (.ref C) "__getattribute__" = some (some (.builtin "BaseException.__getattribute__")))
    (e2 : PySem.W.findIn K (.ref C) "__getattr__" = some none)
    (e4 : PySem.W.hasDictIn K C = true)
    (e5 : PySem.W.findIn K (.ref C) "__class__" = some (some (.builtin "object.__class__")))
    (e6 : PySem.W.specialIn K (.builtin "object.__class__") "__get__" = some (some (.builtin "getset_descriptor.__get__")))
    (e7 : PySem.W.takesIn K (.builtin "object.__class__") = some true)
    (e8 : PySem.W.mroIn K C (.type "object") = some true)
    (iV : PySem.W.subIn K (.ref C) (.type "ValueError") = some true) :
    ∃ fd : FuncData, (∀ (s : Shared) (v : Value), BindsTo s fd ⟨[v], []⟩ [("_law_script", v)]) ∧ ∀ base : Heap, K.In base → base.Ns mainGlobals mg → FnOk l.prog w K mg base CX0 40 fa fd ["_law_script"] (sp_law K) := by
  have e := hfa.symm.trans (PySem.W.mg_of X G a19)
  cases e
  have D_row_of : Df K mg "row_of" p_row_of s_row_of := df_mk X G a0 l0 c0 k0 fun _ _ _ _ _ _ us hl => match us, hl with | [_], _ => rfl
  have D_fraction_of : Df K mg "fraction_of" p_fraction_of s_fraction_of := df_mk X G a1 l1 c1 k1 fun _ _ _ _ _ _ us hl => match us, hl with | [_], _ => rfl
  have D_divisor : Df K mg "divisor" p_divisor s_divisor := df_mk X G a2 l2 c2 k2 fun _ _ _ _ _ _ us hl => match us, hl with | [_, _], _ => rfl
  have D_least_square : Df K mg "least_square" p_least_square s_least_square := df_mk X G a3 l3 c3 k3 fun _ _ _ _ _ _ us hl => match us, hl with | [_], _ => rfl
  have D_heart : Df K mg "heart" p_heart s_heart := df_mk X G a4 l4 c4 k4 fun _ _ _ _ _ _ us hl => match us, hl with | [_, _, _], _ => rfl
  have D_is_square : Df K mg "is_square" p_is_square s_is_square := df_mk X G a5 l5 c5 k5 fun _ _ _ _ _ _ us hl => match us, hl with | [_], _ => rfl
  have D_root_of : Df K mg "root_of" p_root_of s_root_of := df_mk X G a6 l6 c6 k6 fun _ _ _ _ _ _ us hl => match us, hl with | [_, _, _, _], _ => rfl
  have D_part_of : Df K mg "part_of" p_part_of s_part_of := df_mk X G a7 l7 c7 k7 fun _ _ _ _ _ _ us hl => match us, hl with | [_], _ => rfl
  have D_moved : Df K mg "moved" p_moved s_moved := df_mk X G a8 l8 c8 k8 fun _ _ _ _ _ _ us hl => match us, hl with | [_, _], _ => rfl
  have D_turned : Df K mg "turned" p_turned s_turned := df_mk X G a9 l9 c9 k9 fun _ _ _ _ _ _ us hl => match us, hl with | [_, _], _ => rfl
  have D_first_parts : Df K mg "first_parts" p_first_parts s_first_parts := df_mk X G a10 l10 c10 k10 fun _ _ _ _ _ _ us hl => match us, hl with | [_, _], _ => rfl
  have D__law_cell : Df K mg "_law_cell" p__law_cell s__law_cell := df_mk X G a11 l11 c11 k11 fun _ _ _ _ _ _ us hl => match us, hl with | [_, _], _ => rfl
  have D__law_mix : Df K mg "_law_mix" p__law_mix s__law_mix := df_mk X G a12 l12 c12 k12 fun _ _ _ _ _ _ us hl => match us, hl with | [_, _, _], _ => rfl
  have D__law_whole : Df K mg "_law_whole" p__law_whole s__law_whole := df_mk X G a13 l13 c13 k13 fun _ _ _ _ _ _ us hl => match us, hl with | [_], _ => rfl
  have D__law_divisor : Df K mg "_law_divisor" p__law_divisor s__law_divisor := df_mk X G a14 l14 c14 k14 fun _ _ _ _ _ _ us hl => match us, hl with | [_, _], _ => rfl
  have D__law_lowest : Df K mg "_law_lowest" p__law_lowest s__law_lowest := df_mk X G a15 l15 c15 k15 fun _ _ _ _ _ _ us hl => match us, hl with | [_, _], _ => rfl
  have D__law_fraction : Df K mg "_law_fraction" p__law_fraction s__law_fraction := df_mk X G a16 l16 c16 k16 fun _ _ _ _ _ _ us hl => match us, hl with | [_, _, _], _ => rfl
  have D__law_stands : Df K mg "_law_stands" p__law_stands s__law_stands := df_mk X G a17 l17 c17 k17 fun _ _ _ _ _ _ us hl => match us, hl with | [_], _ => rfl
  have D__law_any_row : Df K mg "_law_any_row" p__law_any_row s__law_any_row := df_mk X G a18 l18 c18 k18 fun _ _ _ _ _ _ us hl => match us, hl with | [_], _ => rfl
  have B : Bl mg := ⟨PySem.W.mg_none_of X G z_len, PySem.W.mg_none_of X G z_all, PySem.W.mg_none_of X G z_reversed, PySem.W.mg_none_of X G z_tuple, PySem.W.mg_none_of X G z_abs, PySem.W.mg_none_of X G z_range, PySem.W.mg_none_of X G z_isinstance, PySem.W.mg_none_of X G z_int, PySem.W.mg_none_of X G z_bool, PySem.W.mg_none_of X G z_ValueError, PySem.W.mg_none_of X G z_list, PySem.W.mg_none_of X G z_sum, PySem.W.mg_none_of X G z_min, PySem.W.mg_none_of X G z_enumerate⟩
  have N : NoN K mg C R := ⟨PySem.W.mg_of X G gC, PySem.W.mg_of X G gR, xC, kC, bC, tC, bR, dR, tR, sR, ⟨e1, e2, bC, e4, e5, e6, e7, e8⟩, kit_vt (by decide +kernel) iV, PySem.W.mg_none_of X G z_ValueError, PySem.W.mg_none_of X G z_isinstance⟩
  have F := fun_mk (st := s_law) l19 c19 k19
  refine ⟨PySem.W.fnOf "law" "law" (defArgs s_law) (defBody s_law) (defScope s_law) .none kV19 dc19 pm19 an19 cd19 ct19, fun s v => .of_eq rfl, fun base _ _ => ?_⟩
  have Cr := ok_row_of (P := l.prog) (w := w) (base := base) D_row_of B
  have Co := ok_fraction_of (P := l.prog) (w := w) (base := base) D_fraction_of B N
  have Cp := ok_first_parts D_first_parts B Cr
  have Cd := ok__law_divisor (P := l.prog) (w := w) (base := base) D__law_divisor B
  have Cl := ok__law_lowest D__law_lowest Cd
  have Cc := ok__law_cell (P := l.prog) (w := w) (base := base) D__law_cell B
  have Cm := ok__law_mix (P := l.prog) (w := w) (base := base) D__law_mix
  have Cf := ok__law_fraction D__law_fraction Cm Cl
  have Ch := ok__law_whole (P := l.prog) (w := w) (base := base) D__law_whole B
  have Cs := ok__law_stands (P := l.prog) (w := w) (base := base) D__law_stands B
  have Ca := ok_any_row D__law_any_row Cc
  exact ok_law F B Cc Cl Cf Ch Cs Ca Cr Co Cp
end RR
open PySem PySem.W PyProof.Rows
set_option maxHeartbeats 0 in
theorem PySem.Challenge.cw_rootrow_k02_whole_rows_of_fractions_holds : PySem.Challenge.rw_rootrow_k02_whole_rows_of_fractions.Holds := by
  w_on; o_law; k_head; (case hw => w_witness2)
  k_fill
  refine L2.walk_of (l := PySem.Challenge.rw_rootrow_k02_whole_rows_of_fractions) (n := 63) (k := 40) (x := "_law_script") (CX := fun _ => L2.CX0) (sp := fun w => RR.sp_law _) rfl (by decide) rfl ⟨rfl, by decide, by decide⟩ (fun w h Y => PySem.W.kIn_of Y) ?F (fun _ _ a ns hl _ hS => ⟨a, ns, rfl, hS, hl, fun _ => rfl⟩) (fun _ _ _ _ _ h => h)
  case F =>
    intro w mg fa h KX G hmg
    refine' RR.all_mk KX G hmg ?a0 ?l0 ?c0 ?k0 ?a1 ?l1 ?c1 ?k1 ?a2 ?l2 ?c2 ?k2 ?a3 ?l3 ?c3 ?k3 ?a4 ?l4 ?c4 ?k4 ?a5 ?l5 ?c5 ?k5 ?a6 ?l6 ?c6 ?k6 ?a7 ?l7 ?c7 ?k7 ?a8 ?l8 ?c8 ?k8 ?a9 ?l9 ?c9 ?k9 ?a10 ?l10 ?c10 ?k10 ?a11 ?l11 ?c11 ?k11 ?a12 ?l12 ?c12 ?k12 ?a13 ?l13 ?c13 ?k13 ?a14 ?l14 ?c14 ?k14 ?a15 ?l15 ?c15 ?k15 ?a16 ?l16 ?c16 ?k16 ?a17 ?l17 ?c17 ?k17 ?a18 ?l18 ?c18 ?k18 ?a19 ?l19 ?c19 ?k19 ?z_len ?z_all ?z_reversed ?z_tuple ?z_abs ?z_range ?z_isinstance ?z_int ?z_bool ?z_ValueError ?z_list ?z_sum ?z_min ?z_enumerate ?gC ?gR ?xC ?kC ?bC ?tC ?bR ?dR ?tR ?sR ?e1 ?e2 ?e4 ?e5 ?e6 ?e7 ?e8 ?iV
    (case a0 => k_is)
    (case l0 => k_is)
    (case c0 => k_is)
    (case k0 => k_is)
    (case a1 => k_is)
    (case l1 => k_is)
    (case c1 => k_is)
    (case k1 => k_is)
    (case a2 => k_is)
    (case l2 => k_is)
    (case c2 => k_is)
    (case k2 => k_is)
    (case a3 => k_is)
    (case l3 => k_is)
    (case c3 => k_is)
    (case k3 => k_is)
    (case a4 => k_is)
    (case l4 => k_is)
    (case c4 => k_is)
    (case k4 => k_is)
    (case a5 => k_is)
    (case l5 => k_is)
    (case c5 => k_is)
    (case k5 => k_is)
    (case a6 => k_is)
    (case l6 => k_is)
    (case c6 => k_is)
    (case k6 => k_is)
    (case a7 => k_is)
    (case l7 => k_is)
    (case c7 => k_is)
    (case k7 => k_is)
    (case a8 => k_is)
    (case l8 => k_is)
    (case c8 => k_is)
    (case k8 => k_is)
    (case a9 => k_is)
    (case l9 => k_is)
    (case c9 => k_is)
    (case k9 => k_is)
    (case a10 => k_is)
    (case l10 => k_is)
    (case c10 => k_is)
    (case k10 => k_is)
    (case a11 => k_is)
    (case l11 => k_is)
    (case c11 => k_is)
    (case k11 => k_is)
    (case a12 => k_is)
    (case l12 => k_is)
    (case c12 => k_is)
    (case k12 => k_is)
    (case a13 => k_is)
    (case l13 => k_is)
    (case c13 => k_is)
    (case k13 => k_is)
    (case a14 => k_is)
    (case l14 => k_is)
    (case c14 => k_is)
    (case k14 => k_is)
    (case a15 => k_is)
    (case l15 => k_is)
    (case c15 => k_is)
    (case k15 => k_is)
    (case a16 => k_is)
    (case l16 => k_is)
    (case c16 => k_is)
    (case k16 => k_is)
    (case a17 => k_is)
    (case l17 => k_is)
    (case c17 => k_is)
    (case k17 => k_is)
    (case a18 => k_is)
    (case l18 => k_is)
    (case c18 => k_is)
    (case k18 => k_is)
    (case a19 => k_is)
    (case l19 => k_is)
    (case c19 => k_is)
    (case k19 => k_is)
    (case z_len => k_is)
    (case z_all => k_is)
    (case z_reversed => k_is)
    (case z_tuple => k_is)
    (case z_abs => k_is)
    (case z_range => k_is)
    (case z_isinstance => k_is)
    (case z_int => k_is)
    (case z_bool => k_is)
    (case z_ValueError => k_is)
    (case z_list => k_is)
    (case z_sum => k_is)
    (case z_min => k_is)
    (case z_enumerate => k_is)
    (case gC => k_is)
    (case gR => k_is)
    (case xC => first | k_exc | k_is)
    (case kC => k_is)
    (case bC => k_is)
    (case tC => k_is)
    (case bR => k_is)
    (case dR => k_is)
    (case tR => k_is)
    (case sR => k_is)
    (case e1 => k_is)
    (case e2 => k_is)
    (case e4 => k_is)
    (case e5 => k_is)
    (case e6 => k_is)
    (case e7 => k_is)
    (case e8 => k_is)
    (case iV => k_is)
