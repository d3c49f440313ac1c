import PyProof.Rows.All
import Wide.All
import OpenK.AllK
import Wide.FinOn
import HandS.ForMost
import HandS.ForExc
import HandS.Wide
import HandS.Rev
import HandS.IsInst
import HandS.ExcIs
import HandS.TupAny
import HandS.More
import HandS.Style
import PySem.Challenge.RW_rootrow_k01_fractions
set_option Elab.async false
set_option linter.all false
set_option maxRecDepth 100000
set_option maxHeartbeats 4000000
/-! RRK: what all laws share: a callee by name, a def by name, loops and comprehensions in short. -/
namespace RR
open PySem PySem.Spec PyProof.Rows L2

/-! ### defs by name -/
/-- a def that stands at the top, by its name -/
structure Df (K : PySem.W.Frag) (mg : Str → Option Value) (x : Str) (ps : List Str) (st : Stmt) : Prop where
  ex : ∃ f fd, Fun K x x st f fd ∧ Binds K fd ps [] ∧ mg x = some (.ref f)
/-- a callee by its name: it keeps its promise -/
structure Cal (P : Program) (w : World) (K : PySem.W.Frag) (mg : Str → Option Value) (base : Heap) (CX : CXT) (k : Nat) (x : Str) (ps : List Str) (sp : Sp) : Prop where
  ex : ∃ f fd, FnOk P w K mg base CX k f fd ps sp ∧ PySem.W.keepIn K (.ref f) = true ∧ Binds K fd ps [] ∧ mg x = some (.ref f)
theorem Df.cal {P : Program} {w : World} {K : PySem.W.Frag} {mg : Str → Option Value} {base : Heap} {CX : CXT} {k : Nat} {x : Str} {ps : List Str} {st : Stmt} {sp : Sp} (D : Df K mg x ps st)
    (h : ∀ f fd, Fun K x x st f fd → FnOk P w K mg base CX k f fd ps sp) : Cal P w K mg base CX k x ps sp := by
  obtain ⟨f, fd, F, b, g⟩ := D.ex
  exact ⟨f, fd, h f fd F, F.kp, b, g⟩
theorem pe_cal {X : Cx} {CX : CXT} {k k' : Nat} {x : Str} {ps : List Str} {sp : Sp} {E : XK} {e : Expr} {es : List Expr} {t : TA} {p pos : Pos} (C : Cal X.prog X.w X.K X.mg X.base CX k x ps sp) (hr : Room k' X.A) (hk : k ≤ k') (hg : Gl X x) (hx : Passes CX X E)
    (ha : PA X (e :: es) t) (hdb : (x == ("__debug__" : Str)) = false := by decide) (he : starEach (e :: es) X.env = (false, eval e X.env) :: starEach es X.env := by rfl) (hpl : (backTo pos (starEach es X.env)).any (·.1) = false := by rfl) :
    PE X (.Call (.Name x p) (e :: es) [] pos) (tCall sp [] E t) := by
  obtain ⟨f, fd, F, kp, b, g⟩ := C.ex
  exact pe_call F (hr.mono hk) hg g kp b .nil hx ha hdb he hpl
theorem pe_calS {X : Cx} {CX : CXT} {k k' : Nat} {x : Str} {ps : List Str} {sp : Sp} {E : L2.St → XK} {e : Expr} {es : List Expr} {t : TA} {p pos : Pos} (C : Cal X.prog X.w X.K X.mg X.base CX k x ps sp) (hr : Room k' X.A) (hk : k ≤ k') (hg : Gl X x) (hx : ∀ σ, PassesAt CX X σ (E σ))
    (ha : PA X (e :: es) t) (hdb : (x == ("__debug__" : Str)) = false := by decide) (he : starEach (e :: es) X.env = (false, eval e X.env) :: starEach es X.env := by rfl) (hpl : (backTo pos (starEach es X.env)).any (·.1) = false := by rfl) :
    PE X (.Call (.Name x p) (e :: es) [] pos) (tCallS sp E t) := by
  obtain ⟨f, fd, F, kp, b, g⟩ := C.ex
  exact pe_callS F (hr.mono hk) hg g kp b hx ha hdb he hpl

theorem df_mk {K : PySem.W.Frag} {h : Heap} {mg : Str → Option Value} {x : Str} {ps : List Str} {st : Stmt} {f : Addr} {oc : Value} {od an : Option Addr} {osl : Array (Option Value)} {kV doc pm cdv ct : Value} (X : K.In h) (G : h.Ns mainGlobals mg)
    (a : PySem.W.nsIn K mainGlobals x = some (some (.ref f))) (l : K.lookup f = some ⟨oc, od, .func (PySem.W.fnOf x x (defArgs st) (defBody st) (defScope st) .none kV doc pm an cdv ct), osl⟩) (c : PySem.W.codeIn K cdv x = true) (k : PySem.W.keepIn K (.ref f) = true)
    (hb : ∀ (kV doc pm : Value) (an : Option Addr) (cdv ct : Value) (us : List Value), us.length = ps.length → bindArgs (PySem.W.fnOf x x (defArgs st) (defBody st) (defScope st) .none kV doc pm an cdv ct) ⟨us, []⟩ = pure (ps.zip us)) : Df K mg x ps st := by
  have F := fun_mk (st := st) l c k
  exact ⟨f, _, F, F.binds hb, PySem.W.mg_of X G a⟩
/-- the built-ins' names: none stands at the top -/
structure Bl (mg : Str → Option Value) : Prop where
  len : mg "len" = none
  all : mg "all" = none
  reversed : mg "reversed" = none
  tuple : mg "tuple" = none
  abs : mg "abs" = none
  range : mg "range" = none
  isinstance : mg "isinstance" = none
  int : mg "int" = none
  bool : mg "bool" = none
  ValueError : mg "ValueError" = none
  list : mg "list" = none
  sum : mg "sum" = none
  min : mg "min" = none
  enumerate : mg "enumerate" = none

/-! ### heaps -/
theorem same_upd {H : Hp} {p : Addr} {o : HO} (h : H p = none) : Same H (upd H p o) := fun b x e => by
  rw [upd_ne (ne_of_none e h)]
  exact e
theorem same_updO {H H' : Hp} {p : Addr} {o : HO} (s : Same H H') (h : H p = none) : Same H (upd H' p o) := fun b x e => by
  rw [upd_ne (ne_of_none e h)]
  exact s b x e
abbrev tI (ns : List Int) : HO := .tup (ns.map V.int)
abbrev lI (ns : List Int) : HO := .lst (ns.map V.int)
theorem small_of {n : Nat} (h : n ≤ 10000000) : n < sizeLine := by rw [sizeLine_eq]; omega
theorem small_le {n : Nat} (h : n ≤ 10000000) : n ≤ sizeLine := Nat.le_of_lt (small_of h)

/-! ### the error's class -/
/-- what the top says of NoNumber at C, under RowError at R -/
structure NoN (K : PySem.W.Frag) (mg : Str → Option Value) (C R : Addr) : Prop where
  g : mg "NoNumber" = some (.ref C)
  gR : mg "RowError" = some (.ref R)
  x : PySem.W.excIn K C [.type "ValueError", .type "Exception", .type "BaseException", .type "object"] "ValueError.__new__" = true
  k : PySem.W.keepIn K (.ref C) = true
  b : PySem.W.subIn K (.ref C) (.type "BaseException") = some true
  t : PySem.W.typeIn K (.ref C) = some (.type "type")
  bR : PySem.W.subIn K (.ref R) (.type "BaseException") = some true
  dR : PySem.W.hasDictIn K R = true
  tR : PySem.W.typeIn K (.ref R) = some (.type "type")
  sR : PySem.W.subIn K (.ref C) (.ref R) = some true
  ec : ExcC K C
  iV : PySem.W.kitOne K (.ref C) (.type "ValueError") = some true
  mV : mg "ValueError" = none
  mI : mg "isinstance" = none
theorem NoN.ex {K : PySem.W.Frag} {mg : Str → Option Value} {C R : Addr} (N : NoN K mg C R) : PySem.W.exmOne K (.ref C) (.ref R) = some true := PySem.W.exm_ref N.bR N.dR N.tR N.sR
theorem NoN.iC {K : PySem.W.Frag} {mg : Str → Option Value} {C R : Addr} (N : NoN K mg C R) : PySem.W.kitOne K (.ref C) (.ref C) = some true := by
  unfold PySem.W.kitOne
  rw [if_pos (by simp)]
theorem ps_no {X : Cx} {W : WX} {C R : Addr} {m : Str} {j : Nat} {p p2 pos pos' : Pos} (N : NoN X.K X.mg C R) (hc : X.calm = true) (tk : Takes X W) (hg : Gl X "NoNumber") :
    PS X (.Raise (some (.Call (.Name "NoNumber" p) [.Constant (.str m) j p2] [] pos)) none pos') (fun _ σ H => W (.ref C) none σ H) :=
  ps_raise hc tk (pmk_own PySem.F.excBase_ValueError N.x N.g N.k (raises_own N.b N.t) hg)

/-- isinstance(e, c) in a suite that holds an exception of any class -/
theorem pe_isE {X : Cx} {a C : Addr} {oe : Obj} {pn : List (Addr × Obj)} {cls : Value} {d : Option Addr} {x : Str} {e : Expr} {es : List Expr} {t : TA} {p pos : Pos} (EC : ExcC X.K C) (hz : Zc cls d oe) (hf : ∃ vs, oe.data = .fields vs)
    (hg : Gl (X.suite a ((a, oe) :: pn)) x) (hm : (X.suite a ((a, oe) :: pn)).mg x = none) (hv : bootBuiltins x = some (.builtin "isinstance")) (ha : PA (X.suite a ((a, oe) :: pn)) (e :: es) t) (hn : x ≠ "__name__" := by decide) (hdb : (x == ("__debug__" : Str)) = false := by decide)
    (he : starEach (e :: es) (X.suite a ((a, oe) :: pn)).env = (false, eval e (X.suite a ((a, oe) :: pn)).env) :: starEach es (X.suite a ((a, oe) :: pn)).env := by rfl) (hpl : (backTo pos (starEach es (X.suite a ((a, oe) :: pn)).env)).any (·.1) = false := by rfl) :
    PE (X.suite a ((a, oe) :: pn)) (.Call (.Name x p) (e :: es) [] pos) (fun σ H Q => cls = .ref C ∧ d = none ∧ tCB (rIsE X.K C a) t σ H Q) := by
  refine ⟨fun pins s σ H Q I h => ?_⟩
  obtain ⟨rfl, rfl, h⟩ := h
  exact (pe_callB (call_isE EC hz hf) hg hm hv ha hn hdb he hpl).run pins s σ H Q I h
theorem kit_vt {K : PySem.W.Frag} {C : Addr} {T : String} (m : PySem.W.kitMeta T = true) (h : PySem.W.subIn K (.ref C) (.type T) = some true) : PySem.W.kitOne K (.ref C) (.type T) = some true := by
  unfold PySem.W.kitOne
  split
  · rfl
  · show (if PySem.W.kitMeta T = true then PySem.W.subIn K (.ref C) (.type T) else none) = some true
    rw [if_pos m]
    exact h
theorem relV_ref {a : Addr} {u : Value} (h : RelV (.ref a) u) : u = .ref a := h
theorem relV_ty {n : String} {u : Value} (h : RelV (.ty n) u) : u = .type n := h

/-! ### numbers -/
/-- // of great numbers by any but 0 -/
def CDivWN (_ j : Int) : Prop := j ≠ 0 ∧ j.natAbs.log2 < 9000
theorem op_fdivWN {X : Cx} : OpR X (binaryOp .FloorDiv) (rI CDivWN fun i j => .int (i.fdiv j)) := opI fun _ _ _ _ _ _ _ hc q => floordiv_int hc.1 q (.inl (PyProof.noPylong_of_log2 hc.2))

/-! ### a statement, then the rest, with a word between them -/
def tMid (t u : TS) : TS := fun D σ H => ∃ Mid : L2.St → Hp → Prop, t { D with nx := Mid } σ H ∧ ∀ σ' H', Mid σ' H' → u D σ' H'
theorem pss_mid {X : Cx} {st : Stmt} {rest : List Stmt} {t u : TS} (h1 : PS X st t) (h2 : PSs X rest u) : PSs X (st :: rest) (tMid t u) := by
  refine ⟨fun pins s σ H D I h => ?_⟩
  obtain ⟨Mid, hm, hu⟩ := h
  refine wpAny_execs_cons (thn (h1.run pins s σ H { D with nx := Mid } I hm) fun f s1 q => ?_)
  cases f with
  | next =>
    obtain ⟨σ', H', I', q⟩ := q
    exact h2.run pins s1 σ' H' D I' (hu σ' H' q)
  | ret v => exact q
  | brk => exact q
  | cont => exact q

/-! ### slices -/
theorem cutV_from {xs : List V} {k : Nat} : cutV xs (some (k : Int)) none = xs.drop k := by
  unfold cutV
  rw [HT.sIx_nat xs.length 0 k, HT.sIx_none]
  by_cases h : k ≤ xs.length
  · rw [Nat.min_eq_left h]
    exact List.take_of_length_le (by rw [List.length_drop]; exact Nat.le_refl _)
  · rw [Nat.min_eq_right (by omega), Nat.sub_self, List.take_zero, List.drop_of_length_le (by omega)]
theorem cutV_to {xs : List V} {k : Nat} : cutV xs none (some (k : Int)) = xs.take k := by
  unfold cutV
  rw [HT.sIx_nat xs.length xs.length k, HT.sIx_none, List.drop_zero, Nat.sub_zero]
  by_cases h : k ≤ xs.length
  · rw [Nat.min_eq_left h]
  · rw [Nat.min_eq_right (by omega), List.take_of_length_le (Nat.le_refl _), List.take_of_length_le (by omega)]
theorem cutV_both {xs : List V} {j k : Nat} (h : j ≤ k) : cutV xs (some (j : Int)) (some (k : Int)) = (xs.drop j).take (k - j) := by
  unfold cutV
  rw [HT.sIx_nat xs.length xs.length k, HT.sIx_nat xs.length 0 j]
  by_cases h1 : k ≤ xs.length
  · rw [Nat.min_eq_left h1, Nat.min_eq_left (by omega)]
  · rw [Nat.min_eq_right (by omega)]
    by_cases h2 : j ≤ xs.length
    · rw [Nat.min_eq_left h2, List.take_of_length_le (by rw [List.length_drop]; exact Nat.le_refl _), List.take_of_length_le (by rw [List.length_drop]; omega)]
    · rw [Nat.min_eq_right (by omega), List.drop_of_length_le (Nat.le_refl _), List.drop_of_length_le (by omega), List.take_nil, List.take_nil]
theorem sIx_one {n d : Nat} : HT.sIx n d (some 1) = min 1 n := HT.sIx_nat n d 1
theorem sIx_neg {n d k : Nat} (h : 1 ≤ k) : HT.sIx n d (some (-(k : Int))) = n - k := by
  have h := HT.clip_eq (-(k : Int)) n d
  rw [if_pos (by omega)] at h
  omega
theorem cutV_but {xs : List V} {k : Nat} (h : 1 ≤ k) : cutV xs none (some (-(k : Int))) = xs.take (xs.length - k) := by
  unfold cutV
  rw [sIx_neg h, HT.sIx_none, List.drop_zero, Nat.sub_zero]
theorem atI_neg {xs : List V} {k : Nat} {v : V} (h : 1 ≤ k) (h2 : k ≤ xs.length) (e : xs[xs.length - k]? = some v) : atI xs (-(k : Int)) = some v := by
  unfold atI ixN
  rw [if_neg (by omega), if_pos (by omega)]
  show xs[(-(k : Int) + (xs.length : Int)).toNat]? = some v
  rw [show (-(k : Int) + (xs.length : Int)).toNat = xs.length - k by omega]
  exact e
theorem sIx_neg1 {n d : Nat} : HT.sIx n d (some (-1)) = n - 1 := by
  have h := HT.clip_eq (-1) n d
  rw [if_pos (by decide)] at h
  omega
theorem cutV_init {xs : List V} : cutV xs none (some (-1)) = xs.dropLast := by
  unfold cutV
  rw [sIx_neg1, HT.sIx_none, List.drop_zero, Nat.sub_zero, List.dropLast_eq_take]

/-! ### comprehensions that map -/
theorem yes_of {σ : L2.St} {H : Hp} {A B : Hp → Prop} (h : A H) : tYes σ H fun b H3 => if b = true then A H3 else B H3 := by
  show if true = true then A H else B H
  rw [if_pos rfl]
  exact h
theorem lc_mapL {K : PySem.W.Frag} {a : Addr} {xs ys : List V} {j : Nat} {te : TE} {vs : List Nat} {σ : L2.St} {H1 : Hp} {Qd : Addr → Hp → Prop} (hl : ys.length = xs.length) (hx : xs.length < sizeLine) (hA : SqL K H1 a xs) (hw : ∀ x, wipe ((wipe σ vs).set j (some x)) vs = wipe σ vs)
    (hs : ∀ (i : Nat) x y H Q, xs[i]? = some x → ys[i]? = some y → Same H1 H → (∀ H', Same H H' → Q y H') → te ((wipe σ vs).set j (some x)) H Q)
    (hd : ∀ D H, Same H1 H → H D = some (.lst ys) → H1 D = none → Qd D H) : ∀ D, H1 D = none →
    ∃ W : Nat → Nat → Hp → Prop, (∃ m, W 0 m (upd H1 D (.lst []))) ∧ ∀ i m H, W i m H →
      ((Itl K a).stop i H ∧ Qd D H) ∨ ((Itl K a).go i H ∧ ∃ Nx : Hp → Prop, (∀ H', Nx H' → ∃ m', m' < m ∧ W (i + 1) m' H') ∧ ∀ x H', (Itl K a).yld i H x H' → gName j x (wipe σ vs) H' fun σ2 H2 => wipe σ2 vs = wipe σ vs ∧ tYes σ2 H2 fun b H3 =>
        if b = true then te σ2 H3 fun y H4 => ∃ acc, H4 D = some (.lst acc) ∧ acc.length < sizeLine ∧ Nx (upd H4 D (.lst (acc ++ [y]))) else Nx H3) := fun D hD => by
  refine lc_list (K := K) (a := a) (xs := xs) (fun i H => Same H1 H ∧ H D = some (.lst (ys.take i))) ⟨same_upd hD, upd_same⟩ (fun i H _ h => h.1.seq hA) (fun i x H hi h => ?_) (fun H h => hd D H h.1 (by rw [h.2, ← hl, List.take_length]) hD)
  have hi' : i < ys.length := by
    rw [hl]
    exact (List.getElem?_eq_some_iff.mp hi).1
  refine ⟨hw x, yes_of (hs i x ys[i] H _ hi (List.getElem?_eq_getElem hi') h.1 fun H' s' => ⟨_, s' _ _ h.2, ?_, ?_, ?_⟩)⟩
  · rw [List.length_take]
    omega
  · exact same_updO (h.1.trans s') hD
  · rw [upd_same, List.take_add_one, List.getElem?_eq_getElem hi']
    rfl
theorem lc_mapT {K : PySem.W.Frag} {a : Addr} {xs ys : List V} {j : Nat} {te : TE} {vs : List Nat} {σ : L2.St} {H1 : Hp} {Qd : Addr → Hp → Prop} (hl : ys.length = xs.length) (hx : xs.length < sizeLine) (hA : H1 a = some (.tup xs)) (hw : ∀ x, wipe ((wipe σ vs).set j (some x)) vs = wipe σ vs)
    (hs : ∀ (i : Nat) x y H Q, xs[i]? = some x → ys[i]? = some y → Same H1 H → (∀ H', Same H H' → Q y H') → te ((wipe σ vs).set j (some x)) H Q)
    (hd : ∀ D H, Same H1 H → H D = some (.lst ys) → H1 D = none → Qd D H) : ∀ D, H1 D = none →
    ∃ W : Nat → Nat → Hp → Prop, (∃ m, W 0 m (upd H1 D (.lst []))) ∧ ∀ i m H, W i m H →
      ((Itt K a).stop i H ∧ Qd D H) ∨ ((Itt K a).go i H ∧ ∃ Nx : Hp → Prop, (∀ H', Nx H' → ∃ m', m' < m ∧ W (i + 1) m' H') ∧ ∀ x H', (Itt K a).yld i H x H' → gName j x (wipe σ vs) H' fun σ2 H2 => wipe σ2 vs = wipe σ vs ∧ tYes σ2 H2 fun b H3 =>
        if b = true then te σ2 H3 fun y H4 => ∃ acc, H4 D = some (.lst acc) ∧ acc.length < sizeLine ∧ Nx (upd H4 D (.lst (acc ++ [y]))) else Nx H3) := fun D hD => by
  refine lc_tup (K := K) (a := a) (xs := xs) (fun i H => Same H1 H ∧ H D = some (.lst (ys.take i))) ⟨same_upd hD, upd_same⟩ (fun i H _ h => .of (h.1 _ _ hA)) (fun i x H hi h => ?_) (fun H h => hd D H h.1 (by rw [h.2, ← hl, List.take_length]) hD)
  have hi' : i < ys.length := by
    rw [hl]
    exact (List.getElem?_eq_some_iff.mp hi).1
  refine ⟨hw x, yes_of (hs i x ys[i] H _ hi (List.getElem?_eq_getElem hi') h.1 fun H' s' => ⟨_, s' _ _ h.2, ?_, ?_, ?_⟩)⟩
  · rw [List.length_take]
    omega
  · exact same_updO (h.1.trans s') hD
  · rw [upd_same, List.take_add_one, List.getElem?_eq_getElem hi']
    rfl
/-! ### tuples and lists of ints: ==, !=, sum, in -/
theorem canAll_ints : ∀ ns : List Int, PyData.canLayAll0 (ns.map PyData.int) = true
  | [] => rfl
  | _ :: ns => by
    show (PyData.canLay0 (.int _) && PyData.canLayAll0 (ns.map PyData.int)) = true
    rw [canAll_ints ns]
    rfl
theorem depthAll_ints : ∀ ns : List Int, PyData.depthAll (ns.map PyData.int) = 0
  | [] => rfl
  | _ :: ns => by
    show max (PyData.depth (.int _)) (PyData.depthAll (ns.map PyData.int)) = 0
    rw [depthAll_ints ns]
    rfl
theorem sh_tup (ns : List Int) : SeqAt.shaped (.tuple (ns.map PyData.int)) = true := by
  unfold SeqAt.shaped
  rw [Bool.and_eq_true]
  refine ⟨canAll_ints ns, decide_eq_true ?_⟩
  show PyData.depthAll (ns.map PyData.int) + 1 ≤ 64
  rw [depthAll_ints]
  decide
theorem sh_lst (ns : List Int) : SeqAt.shaped (.list (ns.map PyData.int)) = true := by
  unfold SeqAt.shaped
  rw [Bool.and_eq_true]
  refine ⟨canAll_ints ns, decide_eq_true ?_⟩
  show PyData.depthAll (ns.map PyData.int) + 1 ≤ 64
  rw [depthAll_ints]
  decide
theorem eqvAll_ints : ∀ ns ms : List Int, PyData.eqvAll (ns.map PyData.int) (ms.map PyData.int) = decide (ns = ms)
  | [], [] => rfl
  | [], _ :: _ => rfl
  | _ :: _, [] => rfl
  | n :: ns, m :: ms => by
    show (n == m && PyData.eqvAll (ns.map PyData.int) (ms.map PyData.int)) = _
    rw [eqvAll_ints ns ms]
    by_cases h : n = m
    · subst h
      simp
    · simp [h]
theorem dp_ints {K : PySem.W.Frag} {H : Hp} : ∀ ns : List Int, DpAll K H (ns.map V.int) (ns.map PyData.int)
  | [] => .nil
  | n :: ns => .cons (.int n) (dp_ints ns)
def rEqT (K : PySem.W.Frag) : R2 := fun x y H Q => ∃ (a b : Addr) (ns ms : List Int), x = .ref a ∧ y = .ref b ∧ SqT K H a (ns.map V.int) ∧ SqT K H b (ms.map V.int) ∧ Q (.bl (decide (ns = ms))) H
def rNeT (K : PySem.W.Frag) : R2 := fun x y H Q => ∃ (a b : Addr) (ns ms : List Int), x = .ref a ∧ y = .ref b ∧ SqT K H a (ns.map V.int) ∧ SqT K H b (ms.map V.int) ∧ Q (.bl (!decide (ns = ms))) H
def rEqLI (K : PySem.W.Frag) : R2 := fun x y H Q => ∃ (a b : Addr) (ns ms : List Int), x = .ref a ∧ y = .ref b ∧ SqL K H a (ns.map V.int) ∧ SqL K H b (ms.map V.int) ∧ Q (.bl (decide (ns = ms))) H
def rNeLI (K : PySem.W.Frag) : R2 := fun x y H Q => ∃ (a b : Addr) (ns ms : List Int), x = .ref a ∧ y = .ref b ∧ SqL K H a (ns.map V.int) ∧ SqL K H b (ms.map V.int) ∧ Q (.bl (!decide (ns = ms))) H
section
variable {X : Cx} {k : Nat}
theorem op_eqT (hr : Room k X.A) : OpR X (compareOp .Eq) (rEqT X.K) := by
  intro pins s σ H x y v u Q I rx ry h
  obtain ⟨a, b, ns, ms, rfl, rfl, ha, hb, q⟩ := h
  refine op_eqD hr.units pins s σ H _ _ v u Q I rx ry ⟨_, _, .tup ha (dp_ints ns), .tup hb (dp_ints ms), sh_tup ns, sh_tup ms, ?_⟩
  show Q (.bl (PyData.eqvAll _ _)) H
  rw [eqvAll_ints]
  exact q
theorem op_neT (hr : Room k X.A) : OpR X (compareOp .NotEq) (rNeT X.K) := by
  intro pins s σ H x y v u Q I rx ry h
  obtain ⟨a, b, ns, ms, rfl, rfl, ha, hb, q⟩ := h
  refine op_neD hr.units pins s σ H _ _ v u Q I rx ry ⟨_, _, .tup ha (dp_ints ns), .tup hb (dp_ints ms), sh_tup ns, sh_tup ms, ?_⟩
  show Q (.bl (!PyData.eqvAll _ _)) H
  rw [eqvAll_ints]
  exact q
theorem op_eqLI (hr : Room k X.A) : OpR X (compareOp .Eq) (rEqLI X.K) := by
  intro pins s σ H x y v u Q I rx ry h
  obtain ⟨a, b, ns, ms, rfl, rfl, ha, hb, q⟩ := h
  refine op_eqD hr.units pins s σ H _ _ v u Q I rx ry ⟨_, _, .lst ha (dp_ints ns), .lst hb (dp_ints ms), sh_lst ns, sh_lst ms, ?_⟩
  show Q (.bl (PyData.eqvAll _ _)) H
  rw [eqvAll_ints]
  exact q
theorem op_neLI (hr : Room k X.A) : OpR X (compareOp .NotEq) (rNeLI X.K) := by
  intro pins s σ H x y v u Q I rx ry h
  obtain ⟨a, b, ns, ms, rfl, rfl, ha, hb, q⟩ := h
  refine op_neD hr.units pins s σ H _ _ v u Q I rx ry ⟨_, _, .lst ha (dp_ints ns), .lst hb (dp_ints ms), sh_lst ns, sh_lst ms, ?_⟩
  show Q (.bl (!PyData.eqvAll _ _)) H
  rw [eqvAll_ints]
  exact q
/-- sum(t) of a tuple of ints -/
def rSumT (K : PySem.W.Frag) : List V → Hp → VK → Prop := fun vs H Q => ∃ (a : Addr) (ns : List Int), vs = [V.ref a] ∧ SqT K H a (ns.map V.int) ∧ Q (.int ns.sum) H
theorem cr_sumT (hc : X.calm = true) : CallR X (.builtin "sum") (rSumT X.K) := by
  intro pins s σ H vs us Q I r h
  obtain ⟨a, ns, rfl, hs, q⟩ := h
  obtain ⟨its, rv, ht, _⟩ := I.tuple hs
  rw [Vals.ref1 r]
  have hi := rv.ints
  obtain ⟨xs, e⟩ := hi.allInts.items
  have hn : numsOf (intItems xs).toList = ns := by rw [← e]; exact hi.numsOf
  rw [nums_intItems] at hn
  rw [e] at ht
  refine PySem.W.ktm_sumG (I.ok.hd hc) ht fun h' tk t' hk => ⟨.int _, H, I.kept hk, ⟨_, rfl⟩, ?_⟩
  rw [preSum_eq, List.take_of_length_le (by simp), hn]
  exact q
end
/-- x in xs within a comprehension, the written part named -/
theorem op_inK {X : Cx} (K : PySem.W.Frag) (h : X.K = K := by rfl) : OpR X (compareOp .In) (rIn K false) := by
  subst h
  exact op_in_seq
theorem in01 (z : Int) : inV (.int z) [V.int 0, V.int 1] = decide (z = 0 ∨ z = 1) := by
  show ((0 : Int) == z || ((1 : Int) == z || false)) = _
  by_cases h0 : z = 0
  · subst h0
    rfl
  · by_cases h1 : z = 1
    · subst h1
      rfl
    · rw [decide_eq_false (by omega), Bool.or_false, Bool.or_eq_false_iff]
      exact ⟨beq_false_of_ne (fun e => h0 e.symm), beq_false_of_ne (fun e => h1 e.symm)⟩
/-- isinstance(t, tuple) -/
theorem isT_tup {K : PySem.W.Frag} {H : Hp} {a : Addr} {xs : List V} (e : H a = some (.tup xs)) : TyX K H (.ref a) (.type "tuple") := .base (.tup e)
theorem isT_self {K : PySem.W.Frag} {t : Value} : PySem.W.kitOne K t t = some true := by
  unfold PySem.W.kitOne
  rw [if_pos (by simp)]

/-- what every law promises -/
def sp_law (K : PySem.W.Frag) : Sp := fun vs H Q _ => ∃ (a : Addr) (ns : List Int), vs = [.ref a] ∧ SqL K H a (ns.map V.int) ∧ ns.length ≤ 63 ∧ ∀ H', Q (.bl true) H'
end RR
/-! RRM: fractions, rows, ways: plain mathematics. -/
namespace RR

/-! ### the greatest common divisor -/
def dv (a b : Int) : Int := (Int.gcd a b : Int)
theorem gcd_step {x y : Int} (hx : 0 ≤ x) (hy : 0 < y) : Int.gcd y (x % y) = Int.gcd x y := by
  have h1 := Int.emod_nonneg x (show y ≠ 0 by omega)
  obtain ⟨a, rfl⟩ := Int.eq_ofNat_of_zero_le hx
  obtain ⟨b, rfl⟩ := Int.eq_ofNat_of_zero_le (show 0 ≤ y by omega)
  rw [← Int.natCast_emod]
  show Nat.gcd b (a % b) = Nat.gcd a b
  rw [Nat.gcd_comm a b, Nat.gcd_rec b a, Nat.gcd_comm]
theorem gcd_abs (a b : Int) : Int.gcd (if a < 0 then -a else a) (if b < 0 then -b else b) = Int.gcd a b := by
  split <;> split <;> simp only [Int.gcd_neg, Int.neg_gcd]
theorem gcd_end {x y : Int} (hx : 0 ≤ x) (hy : ¬ 0 < y) (h0 : 0 ≤ y) : x = (Int.gcd x y : Int) := by
  have e : y = 0 := by omega
  subst e
  rw [Int.gcd_zero_right]
  omega
theorem dv_nonneg (a b : Int) : 0 ≤ dv a b := Int.natCast_nonneg _
theorem dv_dvd_left (a b : Int) : dv a b ∣ a := Int.gcd_dvd_left a b
theorem dv_dvd_right (a b : Int) : dv a b ∣ b := Int.gcd_dvd_right a b
theorem dv_pos_right {a b : Int} (h : b ≠ 0) : 0 < dv a b := by
  have h1 : 0 < Int.gcd a b := Int.gcd_pos_of_ne_zero_right a h
  unfold dv
  omega
theorem dv_pos_left {a b : Int} (h : a ≠ 0) : 0 < dv a b := by
  have h1 : 0 < Int.gcd a b := Int.gcd_pos_of_ne_zero_left b h
  unfold dv
  omega
theorem dv_comm (a b : Int) : dv a b = dv b a := by
  unfold dv
  rw [Int.gcd_comm]
theorem dvd_dv {k a b : Int} (h1 : k ∣ a) (h2 : k ∣ b) : k ∣ dv a b := Int.dvd_coe_gcd h1 h2
theorem fdiv_neg_dvd {a g : Int} (h : g ∣ a) (hg : g ≠ 0) : a.fdiv (-g) = -(a / g) := by
  obtain ⟨k, rfl⟩ := h
  rw [Int.mul_ediv_cancel_left _ hg, show g * k = (-g) * (-k) by rw [Int.neg_mul_neg], Int.mul_fdiv_cancel_left _ (by omega)]
theorem neg_ediv_dvd {a g : Int} (h : g ∣ a) : (-a) / g = -(a / g) := Int.neg_ediv_of_dvd h
/-- the fraction u divided by l -/
def low (u l : Int) : Int × Int := if l < 0 then ((-u) / dv u l, (-l) / dv u l) else (u / dv u l, l / dv u l)
theorem dv_div {a b : Int} (h : 0 < dv a b) : dv (a / dv a b) (b / dv a b) = 1 := by
  have h1 : 0 < Int.gcd a b := by
    unfold dv at h
    omega
  have h2 := Int.gcd_ediv_gcd_ediv_gcd h1
  unfold dv
  omega
theorem dv_neg_left (a b : Int) : dv (-a) b = dv a b := by
  unfold dv
  rw [Int.neg_gcd]
theorem dv_neg_right (a b : Int) : dv a (-b) = dv a b := by
  unfold dv
  rw [Int.gcd_neg]
/-- what lowest gives, by products: the fraction is lowest and stands for the same -/
structure IsLow (u l p q : Int) : Prop where
  pos : 0 < q
  one : dv p q = 1
  cross : u * q = p * l
theorem low_is {u l : Int} (h : l ≠ 0) : IsLow u l (low u l).1 (low u l).2 := by
  have hg := dv_pos_right (a := u) h
  obtain ⟨a, ha⟩ := dv_dvd_left u l
  obtain ⟨b, hb⟩ := dv_dvd_right u l
  have hg0 : dv u l ≠ 0 := by omega
  have e1 : u / dv u l = a := by conv => lhs; lhs; rw [ha]
                                 exact Int.mul_ediv_cancel_left _ hg0
  have e2 : l / dv u l = b := by conv => lhs; lhs; rw [hb]
                                 exact Int.mul_ediv_cancel_left _ hg0
  have h1 := dv_div hg
  rw [e1, e2] at h1
  unfold low
  split
  · rename_i hl
    rw [neg_ediv_dvd (dv_dvd_left u l), neg_ediv_dvd (dv_dvd_right u l), e1, e2]
    refine ⟨?_, ?_, ?_⟩
    · have : ¬ 0 ≤ b := fun hb0 => by
        have := Int.mul_nonneg (Int.le_of_lt hg) hb0
        omega
      show 0 < -b
      omega
    · show dv (-a) (-b) = 1
      rw [dv_neg_left, dv_neg_right, h1]
    · show u * -b = -a * l
      generalize dv u l = g at *
      subst ha hb
      grind
  · rename_i hl
    rw [e1, e2]
    refine ⟨?_, h1, ?_⟩
    · have : ¬ b ≤ 0 := fun hb0 => by
        have := Int.mul_nonneg (Int.le_of_lt hg) (show 0 ≤ -b by omega)
        rw [Int.mul_neg] at this
        omega
      show 0 < b
      omega
    · show u * b = a * l
      generalize dv u l = g at *
      subst ha hb
      grind
/-- coprime: a divisor of a product -/
theorem dvd_of_mul {k a b : Int} (h : dv k a = 1) (h2 : k ∣ a * b) : k ∣ b := by
  have h1 : Int.gcd k a = 1 := by
    unfold dv at h
    omega
  rw [← Int.natAbs_dvd_natAbs] at h2 ⊢
  rw [Int.natAbs_mul] at h2
  exact Nat.Coprime.dvd_of_dvd_mul_left h1 h2
theorem low_unique {p q r s : Int} (h1 : 0 < q) (h2 : dv p q = 1) (h3 : 0 < s) (h4 : dv r s = 1) (h : p * s = r * q) : p = r ∧ q = s := by
  have a1 : q ∣ s := by
    refine dvd_of_mul (a := p) (by rw [dv_comm]; exact h2) ⟨r, ?_⟩
    rw [h, Int.mul_comm]
  have a2 : s ∣ q := by
    refine dvd_of_mul (a := r) (by rw [dv_comm]; exact h4) ⟨p, ?_⟩
    rw [← h, Int.mul_comm]
  have e : q = s := Int.dvd_antisymm (by omega) (by omega) a1 a2
  subst e
  exact ⟨Int.eq_of_mul_eq_mul_right (by omega) h, rfl⟩
theorem IsLow.eq {u l p q : Int} (h : l ≠ 0) (x : IsLow u l p q) : low u l = (p, q) := by
  have y := low_is (u := u) h
  obtain ⟨x1, x2, x3⟩ := x
  obtain ⟨y1, y2, y3⟩ := y
  have e : p * (low u l).2 = (low u l).1 * q := by
    have : l * (p * (low u l).2) = l * ((low u l).1 * q) := by grind
    exact Int.eq_of_mul_eq_mul_left h this
  obtain ⟨e1, e2⟩ := low_unique x1 x2 y1 y2 e
  rw [e1, e2]
theorem low_self {p q : Int} (h : 0 < q) (h2 : dv p q = 1) : low p q = (p, q) := IsLow.eq (by omega) ⟨h, h2, rfl⟩
theorem low_le {u l : Int} (h : 0 < l) : (low u l).2 ≤ l := by
  have hg := dv_pos_right (a := u) (show l ≠ 0 by omega)
  unfold low
  rw [if_neg (by omega)]
  exact Int.ediv_le_self _ (by omega)
theorem low_abs {u l : Int} (h : l ≠ 0) : (low u l).1.natAbs ≤ u.natAbs ∧ (low u l).2.natAbs ≤ l.natAbs := by
  have hg := dv_pos_right (a := u) h
  have k : ∀ z : Int, dv u l ∣ z → (z / dv u l).natAbs ≤ z.natAbs := fun z hz => by
    obtain ⟨c, rfl⟩ := hz
    rw [Int.mul_ediv_cancel_left _ (by omega), Int.natAbs_mul]
    exact Nat.le_mul_of_pos_left _ (by omega)
  unfold low
  split
  · rw [neg_ediv_dvd (dv_dvd_left u l), neg_ediv_dvd (dv_dvd_right u l)]
    exact ⟨by rw [Int.natAbs_neg]; exact k _ (dv_dvd_left u l), by rw [Int.natAbs_neg]; exact k _ (dv_dvd_right u l)⟩
  · exact ⟨k _ (dv_dvd_left u l), k _ (dv_dvd_right u l)⟩

/-! ### rows -/
/-- what a row stands for -/
def st : List Int → Int × Int
  | [] => (1, 0)
  | x :: r => (x * (st r).1 + (st r).2, (st r).1)
/-- whether a tuple is a row for fraction_of -/
def isRow (xs : List Int) : Bool := !xs.isEmpty && (xs.drop 1).all fun y => decide (1 ≤ y)

/-! ### ways -/
/-- the way to u divided by l -/
def way (u l : Int) : List Int := if h : 1 ≤ u ∧ 1 ≤ l ∧ u ≠ l then (if u < l then 0 :: way u (l - u) else 1 :: way (u - l) l) else []
termination_by (u + l).toNat
decreasing_by all_goals omega
theorem way_eq (u : Int) : way u u = [] := by
  unfold way
  rw [dif_neg (fun h => h.2.2 rfl)]
theorem way_lo {u l : Int} (h1 : 1 ≤ u) (h2 : u < l) : way u l = 0 :: way u (l - u) := by
  conv => lhs; unfold way
  rw [dif_pos ⟨h1, by omega, by omega⟩, if_pos h2]
theorem way_hi {u l : Int} (h1 : 1 ≤ l) (h2 : l < u) : way u l = 1 :: way (u - l) l := by
  conv => lhs; unfold way
  rw [dif_pos ⟨by omega, h1, by omega⟩, if_neg (by omega)]
theorem way_len {u l : Int} (h1 : 1 ≤ u) (h2 : 1 ≤ l) : ((way u l).length : Int) + 2 ≤ u + l := by
  by_cases h : u = l
  · subst h
    rw [way_eq]
    show (0 : Int) + 2 ≤ _
    omega
  · by_cases h3 : u < l
    · have ih := way_len (u := u) (l := l - u) h1 (by omega)
      rw [way_lo h1 h3, List.length_cons]
      omega
    · have ih := way_len (u := u - l) (l := l) (by omega) h2
      rw [way_hi h2 (by omega), List.length_cons]
      omega
termination_by (u + l).toNat
decreasing_by all_goals omega
/-- where a way leads -/
def bw : List Int → Int × Int
  | [] => (1, 1)
  | s :: w => if s = 0 then ((bw w).1, (bw w).1 + (bw w).2) else ((bw w).1 + (bw w).2, (bw w).2)
theorem bw_pos : ∀ w : List Int, 1 ≤ (bw w).1 ∧ 1 ≤ (bw w).2
  | [] => ⟨Int.le_refl 1, Int.le_refl 1⟩
  | s :: w => by
    have ih := bw_pos w
    unfold bw
    split
    · exact ⟨ih.1, by show 1 ≤ (bw w).1 + (bw w).2; omega⟩
    · exact ⟨by show 1 ≤ (bw w).1 + (bw w).2; omega, ih.2⟩
theorem bw_big : ∀ w : List Int, (bw w).1 ≤ 2 ^ w.length ∧ (bw w).2 ≤ 2 ^ w.length
  | [] => ⟨Int.le_refl 1, Int.le_refl 1⟩
  | s :: w => by
    have ih := bw_big w
    have p := bw_pos w
    unfold bw
    rw [List.length_cons, Int.pow_succ]
    split
    · exact ⟨by show (bw w).1 ≤ _; omega, by show (bw w).1 + (bw w).2 ≤ _; omega⟩
    · exact ⟨by show (bw w).1 + (bw w).2 ≤ _; omega, by show (bw w).2 ≤ _; omega⟩
theorem bw_lo (w : List Int) : bw (0 :: w) = ((bw w).1, (bw w).1 + (bw w).2) := by
  conv => lhs; unfold bw
  rw [if_pos rfl]
theorem bw_hi (w : List Int) : bw (1 :: w) = ((bw w).1 + (bw w).2, (bw w).2) := by
  conv => lhs; unfold bw
  rw [if_neg (by decide)]
theorem way_bw : ∀ w : List Int, (∀ s ∈ w, s = 0 ∨ s = 1) → way (bw w).1 (bw w).2 = w
  | [], _ => way_eq 1
  | s :: w, h => by
    have ih := way_bw w fun x hx => h x (List.mem_cons_of_mem _ hx)
    have p := bw_pos w
    rcases h s List.mem_cons_self with rfl | rfl
    · rw [bw_lo]
      show way (bw w).1 ((bw w).1 + (bw w).2) = _
      rw [way_lo p.1 (by omega), show (bw w).1 + (bw w).2 - (bw w).1 = (bw w).2 by omega, ih]
    · rw [bw_hi]
      show way ((bw w).1 + (bw w).2) (bw w).2 = _
      rw [way_hi p.2 (by omega), show (bw w).1 + (bw w).2 - (bw w).2 = (bw w).1 by omega, ih]
theorem dv_sub_right {u l : Int} : dv u (l - u) = dv u l := by
  unfold dv
  rw [Int.gcd_sub_self_right]
theorem dv_add_right {u l : Int} : dv u (u + l) = dv u l := by
  unfold dv
  rw [Int.gcd_self_add_right]
theorem dv_sub_left {u l : Int} : dv (u - l) l = dv u l := by
  unfold dv
  rw [Int.gcd_sub_self_left]
theorem dv_add_left {u l : Int} : dv (u + l) l = dv u l := by
  unfold dv
  rw [Int.gcd_add_self_left]
theorem dv_self {u : Int} (h : 0 ≤ u) : dv u u = u := by
  unfold dv
  rw [Int.gcd_self]
  omega
theorem bw_low : ∀ w : List Int, dv (bw w).1 (bw w).2 = 1
  | [] => by decide
  | s :: w => by
    have ih := bw_low w
    unfold bw
    split
    · show dv (bw w).1 ((bw w).1 + (bw w).2) = 1
      rw [dv_add_right, ih]
    · show dv ((bw w).1 + (bw w).2) (bw w).2 = 1
      rw [dv_add_left, ih]
theorem bw_way {u l : Int} (h1 : 1 ≤ u) (h2 : 1 ≤ l) (h : dv u l = 1) : bw (way u l) = (u, l) := by
  by_cases e : u = l
  · subst e
    rw [dv_self (by omega)] at h
    subst h
    rw [way_eq]
    rfl
  · by_cases h3 : u < l
    · have ih := bw_way (u := u) (l := l - u) h1 (by omega) (by rw [dv_sub_right, h])
      rw [way_lo h1 h3, bw_lo, ih]
      show (u, u + (l - u)) = (u, l)
      rw [show u + (l - u) = l by omega]
    · have ih := bw_way (u := u - l) (l := l) (by omega) h2 (by rw [dv_sub_left, h])
      rw [way_hi h2 (by omega), bw_hi, ih]
      show (u - l + l, l) = (u, l)
      rw [show u - l + l = u by omega]
termination_by (u + l).toNat
decreasing_by all_goals omega
theorem way_01 {u l : Int} : ∀ s ∈ way u l, s = 0 ∨ s = 1 := by
  unfold way
  split
  · rename_i h
    obtain ⟨h1, h2, h3⟩ := h
    split
    · intro s hs
      rcases List.mem_cons.mp hs with rfl | hs
      · exact .inl rfl
      · exact way_01 s hs
    · intro s hs
      rcases List.mem_cons.mp hs with rfl | hs
      · exact .inr rfl
      · exact way_01 s hs
  · intro s hs
    cases hs
termination_by (u + l).toNat
decreasing_by all_goals omega
/-- two bounds, and the rest of the way between -/
theorem bw_step {w : List Int} {s a b c d X Y : Int} (h : X = a * (bw (s :: w)).2 + c * (bw (s :: w)).1) (h2 : Y = b * (bw (s :: w)).2 + d * (bw (s :: w)).1) :
    if s = 0 then X = a * (bw w).2 + (a + c) * (bw w).1 ∧ Y = b * (bw w).2 + (b + d) * (bw w).1 else X = (a + c) * (bw w).2 + c * (bw w).1 ∧ Y = (b + d) * (bw w).2 + d * (bw w).1 := by
  unfold bw at h h2
  split
  · rename_i e
    rw [if_pos e] at h h2
    exact ⟨by rw [h]; grind, by rw [h2]; grind⟩
  · rename_i e
    rw [if_neg e] at h h2
    exact ⟨by rw [h]; grind, by rw [h2]; grind⟩

/-! ### rows by division -/
/-- the row of u divided by l -/
def row (u l : Int) : List Int := if 0 < l then (u / l) :: row l (u % l) else []
termination_by l.toNat
decreasing_by
  have h1 := Int.emod_lt_of_pos u (show 0 < l by assumption)
  omega
theorem row_zero {u l : Int} (h : ¬ 0 < l) : row u l = [] := by
  unfold row
  rw [if_neg h]
theorem row_cons {u l : Int} (h : 0 < l) : row u l = (u / l) :: row l (u % l) := by
  conv => lhs; unfold row
  rw [if_pos h]
theorem row_len {u l : Int} (h : 0 ≤ l) : ((row u l).length : Int) ≤ l + 1 := by
  by_cases h0 : 0 < l
  · have h1 := Int.emod_lt_of_pos u h0
    have h2 := Int.emod_nonneg u (show l ≠ 0 by omega)
    have ih := row_len (u := l) (l := u % l) h2
    rw [row_cons h0, List.length_cons]
    omega
  · rw [row_zero h0]
    show (0 : Int) ≤ _
    omega
termination_by l.toNat
decreasing_by omega
theorem sum_swap {u l : Int} (h1 : 0 < u) (h2 : 0 < l) : (row u l).sum = (row l u).sum := by
  by_cases e : u = l
  · rw [e]
  · by_cases h : u < l
    · rw [row_cons h2, Int.ediv_eq_zero_of_lt (by omega) h, Int.emod_eq_of_lt (by omega) h, List.sum_cons, Int.zero_add]
    · rw [row_cons h1, Int.ediv_eq_zero_of_lt (by omega) (by omega), Int.emod_eq_of_lt (by omega) (by omega), List.sum_cons, Int.zero_add]
theorem sum_add {u l : Int} (h : 0 < l) : (row (u + l) l).sum = 1 + (row u l).sum := by
  rw [row_cons h, row_cons h, List.sum_cons, List.sum_cons, Int.add_emod_right, Int.add_ediv_of_dvd_right (Int.dvd_refl l), Int.ediv_self (by omega)]
  omega
theorem row_sum {u l : Int} (h1 : 1 ≤ u) (h2 : 1 ≤ l) (h : dv u l = 1) : (row u l).sum = ((way u l).length : Int) + 1 := by
  by_cases e : u = l
  · subst e
    rw [dv_self (by omega)] at h
    subst h
    rw [way_eq, row_cons (by decide), row_zero (by decide)]
    decide
  · by_cases h3 : u < l
    · have ih := row_sum (u := u) (l := l - u) h1 (by omega) (by rw [dv_sub_right, h])
      rw [way_lo h1 h3, List.length_cons, sum_swap (by omega) (by omega), show l = (l - u) + u by omega, sum_add (by omega), ← sum_swap (by omega) (by omega)]
      have e2 : l - u + u - u = l - u := by omega
      rw [e2, ih]
      omega
    · have ih := row_sum (u := u - l) (l := l) (by omega) h2 (by rw [dv_sub_left, h])
      have e2 : u = (u - l) + l := by omega
      rw [way_hi h2 (by omega), List.length_cons, e2, sum_add (by omega), ih]
      have e3 : u - l + l - l = u - l := by omega
      rw [e3]
      omega
termination_by (u + l).toNat
decreasing_by all_goals omega
/-! ### what a row stands for, and back -/
theorem dv_mod {u l : Int} : dv l (u % l) = dv u l := by
  have h := Int.emod_add_mul_ediv u l
  unfold dv
  conv => rhs; rw [← h]
  rw [Int.gcd_comm (u % l + l * (u / l)) l, Int.mul_comm, Int.gcd_add_mul_right_right]
theorem dv_zero {u : Int} (h : 0 ≤ u) : dv u 0 = u := by
  unfold dv
  rw [Int.gcd_zero_right]
  omega
theorem st_row {u l : Int} (h : 0 ≤ l) (h0 : 0 < l ∨ u = 1) (h1 : dv u l = 1) : st (row u l) = (u, l) := by
  by_cases hl : 0 < l
  · have h2 := Int.emod_lt_of_pos u hl
    have h3 := Int.emod_nonneg u (show l ≠ 0 by omega)
    have h4 : dv l (u % l) = 1 := by rw [dv_mod, h1]
    have ih := st_row (u := l) (l := u % l) h3 (by
      by_cases z : 0 < u % l
      · exact .inl z
      · right
        have e : u % l = 0 := by omega
        rw [e, dv_zero h] at h4
        exact h4) h4
    rw [row_cons hl]
    show ((u / l) * (st (row l (u % l))).1 + (st (row l (u % l))).2, (st (row l (u % l))).1) = _
    rw [ih]
    show ((u / l) * l + u % l, l) = (u, l)
    rw [Int.ediv_mul_add_emod]
  · rw [row_zero hl]
    rcases h0 with h0 | h0
    · exact absurd h0 hl
    · rw [h0, show l = 0 by omega]
      rfl
termination_by l.toNat
decreasing_by omega
theorem row_pos {u l : Int} (h : 0 ≤ l) (h1 : l < u) : ∀ y ∈ row u l, 1 ≤ y := by
  intro y hy
  by_cases hl : 0 < l
  · have h2 := Int.emod_lt_of_pos u hl
    have h3 := Int.emod_nonneg u (show l ≠ 0 by omega)
    rw [row_cons hl] at hy
    rcases List.mem_cons.mp hy with rfl | hy
    · exact (Int.le_ediv_iff_mul_le hl).mpr (by omega)
    · exact row_pos h3 h2 y hy
  · rw [row_zero hl] at hy
    cases hy
termination_by l.toNat
decreasing_by omega
theorem row_last {u l : Int} (h : 0 < l) (h1 : l < u) : ∀ y, (row u l).getLast? = some y → 2 ≤ y := by
  intro y hy
  have h2 := Int.emod_lt_of_pos u h
  have h3 := Int.emod_nonneg u (show l ≠ 0 by omega)
  rw [row_cons h] at hy
  by_cases hz : 0 < u % l
  · have e : row l (u % l) = (l / (u % l)) :: row (u % l) (l % (u % l)) := row_cons hz
    rw [e, List.getLast?_cons_cons, ← e] at hy
    exact row_last hz h2 y hy
  · rw [row_zero hz] at hy
    have e : u / l = y := Option.some.inj hy
    have h4 := Int.ediv_mul_add_emod u l
    rw [← e]
    by_cases h5 : 2 ≤ u / l
    · exact h5
    · exfalso
      have h6 : (u / l) * l ≤ 1 * l := Int.mul_le_mul_of_nonneg_right (by omega) (by omega)
      omega
termination_by l.toNat
decreasing_by omega
theorem row_ne {u l : Int} (h : 0 < l) : row u l ≠ [] := by
  rw [row_cons h]
  exact List.cons_ne_nil _ _
theorem row_tail {u l : Int} (h : 0 < l) : ∀ y ∈ (row u l).drop 1, 1 ≤ y := by
  rw [row_cons h]
  exact row_pos (Int.emod_nonneg u (by omega)) (Int.emod_lt_of_pos u h)
theorem row_last2 {u l : Int} (h : 0 < l) (h2 : 2 ≤ (row u l).length) : ∀ y, (row u l).getLast? = some y → 2 ≤ y := by
  intro y hy
  rw [row_cons h] at hy h2
  by_cases hz : 0 < u % l
  · have e : row l (u % l) = (l / (u % l)) :: row (u % l) (l % (u % l)) := row_cons hz
    rw [e, List.getLast?_cons_cons, ← e] at hy
    exact row_last hz (Int.emod_lt_of_pos u h) y hy
  · rw [row_zero hz] at h2
    simp at h2
theorem row_len2 {u l : Int} (n : Nat) (h : 0 ≤ l) (hn : l < 2 ^ n) : (row u l).length ≤ 2 * n + 1 := by
  induction n generalizing u l with
  | zero =>
    rw [row_zero (by simp at hn; omega)]
    exact Nat.zero_le _
  | succ n ih =>
    by_cases hl : 0 < l
    · have h2 := Int.emod_lt_of_pos u hl
      have h3 := Int.emod_nonneg u (show l ≠ 0 by omega)
      rw [row_cons hl, List.length_cons]
      by_cases hz : 0 < u % l
      · have h4 := Int.emod_lt_of_pos l hz
        have h5 := Int.emod_nonneg l (show u % l ≠ 0 by omega)
        have h6 := Int.ediv_mul_add_emod l (u % l)
        have h7 : 1 ≤ l / (u % l) := (Int.le_ediv_iff_mul_le hz).mpr (by omega)
        have h8 : 1 * (u % l) ≤ l / (u % l) * (u % l) := Int.mul_le_mul_of_nonneg_right h7 (by omega)
        have := ih (u := u % l) (l := l % (u % l)) h5 (by rw [Int.pow_succ] at hn; omega)
        rw [row_cons hz, List.length_cons]
        omega
      · rw [row_zero hz]
        show 0 + 1 ≤ _
        omega
    · rw [row_zero hl]
      exact Nat.zero_le _
/-- of a canonical rest -/
theorem row_st_rest : ∀ s : List Int, s ≠ [] → (∀ y ∈ s, 1 ≤ y) → (∀ y, s.getLast? = some y → 2 ≤ y) → 0 < (st s).2 ∧ (st s).2 < (st s).1 ∧ row (st s).1 (st s).2 = s
  | [], h, _, _ => absurd rfl h
  | [y], _, _, h2 => by
    have hy := h2 y rfl
    show 0 < (1 : Int) ∧ (1 : Int) < y * 1 + 0 ∧ row (y * 1 + 0) 1 = [y]
    refine ⟨by decide, by omega, ?_⟩
    rw [Int.mul_one, Int.add_zero, row_cons (by decide), Int.ediv_one, row_zero (by rw [Int.emod_one]; decide)]
  | y :: z :: s, _, h1, h2 => by
    obtain ⟨a, b, c⟩ := row_st_rest (z :: s) (List.cons_ne_nil _ _) (fun x hx => h1 x (List.mem_cons_of_mem _ hx)) (fun x hx => h2 x (by rw [List.getLast?_cons_cons]; exact hx))
    have hy := h1 y List.mem_cons_self
    generalize hst : st (z :: s) = ul at *
    obtain ⟨u, l⟩ := ul
    have e : st (y :: z :: s) = (y * u + l, u) := by
      show (y * (st (z :: s)).1 + (st (z :: s)).2, (st (z :: s)).1) = _
      rw [hst]
    rw [e]
    have a' : 0 < l := a
    have b' : l < u := b
    have c' : row u l = z :: s := c
    show 0 < u ∧ u < y * u + l ∧ row (y * u + l) u = y :: z :: s
    have h3 : 1 * u ≤ y * u := Int.mul_le_mul_of_nonneg_right hy (by omega)
    refine ⟨by omega, by omega, ?_⟩
    have e1 : (y * u + l) / u = y := by
      rw [Int.add_comm, Int.add_mul_ediv_right _ _ (by omega), Int.ediv_eq_zero_of_lt (by omega) b', Int.zero_add]
    have e2 : (y * u + l) % u = l := by
      rw [Int.add_comm, Int.add_mul_emod_self_right, Int.emod_eq_of_lt (by omega) b']
    rw [row_cons (by omega), e1, e2, c']
theorem row_st (x : Int) (s : List Int) (h1 : ∀ y ∈ s, 1 ≤ y) (h2 : s ≠ [] → ∀ y, s.getLast? = some y → 2 ≤ y) : 0 < (st (x :: s)).2 ∧ row (st (x :: s)).1 (st (x :: s)).2 = x :: s := by
  cases s with
  | nil =>
    show 0 < (1 : Int) ∧ row (x * 1 + 0) 1 = [x]
    refine ⟨by decide, ?_⟩
    rw [Int.mul_one, Int.add_zero, row_cons (by decide), Int.ediv_one, row_zero (by rw [Int.emod_one]; decide)]
  | cons z s =>
    obtain ⟨a, b, c⟩ := row_st_rest (z :: s) (List.cons_ne_nil _ _) h1 (h2 (List.cons_ne_nil _ _))
    generalize hst : st (z :: s) = ul at *
    obtain ⟨u, l⟩ := ul
    have e : st (x :: z :: s) = (x * u + l, u) := by
      show (x * (st (z :: s)).1 + (st (z :: s)).2, (st (z :: s)).1) = _
      rw [hst]
    rw [e]
    have a' : 0 < l := a
    have b' : l < u := b
    have c' : row u l = z :: s := c
    show 0 < u ∧ row (x * u + l) u = x :: z :: s
    have e1 : (x * u + l) / u = x := by
      rw [Int.add_comm, Int.add_mul_ediv_right _ _ (by omega), Int.ediv_eq_zero_of_lt (by omega) b', Int.zero_add]
    have e2 : (x * u + l) % u = l := by
      rw [Int.add_comm, Int.add_mul_emod_self_right, Int.emod_eq_of_lt (by omega) b']
    exact ⟨by omega, by rw [row_cons (by omega), e1, e2, c']⟩
/-- a last 1 goes into the one ahead -/
theorem st_merge : ∀ (s : List Int) (y : Int), st (s ++ [y, 1]) = st (s ++ [y + 1])
  | [], y => by
    show (y * (1 * 1 + 0) + 1, (1 * 1 + 0 : Int)) = ((y + 1) * 1 + 0, 1)
    rw [show (1 * 1 + 0 : Int) = 1 from rfl, Int.mul_one, Int.mul_one, Int.add_zero]
  | x :: s, y => by
    show (x * (st (s ++ [y, 1])).1 + (st (s ++ [y, 1])).2, (st (s ++ [y, 1])).1) = _
    rw [st_merge s y]
    rfl
theorem ediv_abs {u l : Int} (h : 0 < l) : (u / l).natAbs ≤ u.natAbs := by
  have h1 := Int.ediv_mul_add_emod u l
  have h2 := Int.emod_lt_of_pos u h
  have h3 := Int.emod_nonneg u (show l ≠ 0 by omega)
  by_cases hq : 0 ≤ u / l
  · have : (u / l) * 1 ≤ (u / l) * l := Int.mul_le_mul_of_nonneg_left (by omega) hq
    omega
  · have h4 : (u / l + 1) * l ≤ (u / l + 1) * 1 := by
      have h5 : (-(u / l + 1)) * 1 ≤ (-(u / l + 1)) * l := Int.mul_le_mul_of_nonneg_left (by omega) (by omega)
      rw [Int.neg_mul, Int.neg_mul] at h5
      omega
    rw [Int.add_mul, Int.one_mul] at h4
    omega
theorem row_mem {u l : Int} (h : 0 ≤ l) : ∀ y ∈ row u l, y.natAbs ≤ max u.natAbs l.natAbs := by
  intro y hy
  by_cases hl : 0 < l
  · have h2 := Int.emod_lt_of_pos u hl
    have h3 := Int.emod_nonneg u (show l ≠ 0 by omega)
    rw [row_cons hl] at hy
    rcases List.mem_cons.mp hy with rfl | hy
    · have := ediv_abs (u := u) hl
      omega
    · have := row_mem h3 y hy
      omega
  · rw [row_zero hl] at hy
    cases hy
termination_by l.toNat
decreasing_by omega
theorem row_drop {u l : Int} (h : 0 ≤ l) (h0 : 0 < l ∨ u = 1) (h1 : dv u l = 1) : ∀ j, (st ((row u l).drop j)).1.natAbs ≤ max u.natAbs (max l.natAbs 1) := by
  intro j
  cases j with
  | zero =>
    rw [List.drop_zero, st_row h h0 h1]
    show u.natAbs ≤ _
    omega
  | succ j =>
    by_cases hl : 0 < l
    · have h2 := Int.emod_lt_of_pos u hl
      have h3 := Int.emod_nonneg u (show l ≠ 0 by omega)
      have h4 : dv l (u % l) = 1 := by rw [dv_mod, h1]
      rw [row_cons hl, List.drop_succ_cons]
      have := row_drop (u := l) (l := u % l) h3 (by
        by_cases z : 0 < u % l
        · exact .inl z
        · right
          have e : u % l = 0 := by omega
          rw [e, dv_zero h] at h4
          exact h4) h4 j
      omega
    · rw [row_zero hl, List.drop_nil]
      show (1 : Int).natAbs ≤ _
      simp
      omega
termination_by l.toNat
decreasing_by omega
theorem st_abs : ∀ xs : List Int, (∀ y ∈ xs, y.natAbs ≤ 40) → (st xs).1.natAbs ≤ 41 ^ xs.length ∧ (st xs).2.natAbs ≤ 41 ^ xs.length
  | [], _ => ⟨Nat.le_refl 1, Nat.zero_le _⟩
  | x :: s, h => by
    obtain ⟨a, b⟩ := st_abs s fun y hy => h y (List.mem_cons_of_mem _ hy)
    have hx := h x List.mem_cons_self
    rw [List.length_cons, Nat.pow_succ]
    have h1 : (x * (st s).1).natAbs ≤ 40 * 41 ^ s.length := by
      rw [Int.natAbs_mul]
      exact Nat.mul_le_mul hx a
    exact ⟨by show (x * (st s).1 + (st s).2).natAbs ≤ _; omega, by show (st s).1.natAbs ≤ _; omega⟩
end RR
/-! RRS: the promises of the defs. -/
namespace RR
open PySem PySem.Spec PyProof.Rows L2
/-- within four thousand bits -/
structure Big (x : Int) : Prop where
  lt : x.natAbs < 2 ^ 4000
theorem big_of {x : Int} (h : x.natAbs < 2 ^ 60) : Big x := ⟨Nat.lt_of_lt_of_le h (Nat.pow_le_pow_right (by decide) (by decide))⟩
theorem big_le {x y : Int} (h : x.natAbs ≤ y.natAbs) (hy : Big y) : Big x := ⟨Nat.lt_of_le_of_lt h hy.lt⟩
theorem len1 {α : Type} {a : α} : [a].length ≤ sizeLine := small_le (show 1 ≤ 10000000 by decide)
theorem len2 {α : Type} {a b : α} : [a, b].length ≤ sizeLine := small_le (show 2 ≤ 10000000 by decide)
theorem len4 {α : Type} {a b c d : α} : [a, b, c, d].length ≤ sizeLine := small_le (show 4 ≤ 10000000 by decide)
theorem map_get {ns : List Int} {i : Nat} {x : V} (h : (ns.map V.int)[i]? = some x) : ∃ n, ns[i]? = some n ∧ x = .int n := by
  rw [List.getElem?_map] at h
  cases e : ns[i]? with
  | none =>
    rw [e] at h
    cases h
  | some n =>
    rw [e] at h
    exact ⟨n, rfl, (Option.some.inj h).symm⟩
theorem get_map {ns : List Int} {i : Nat} {n : Int} (h : ns[i]? = some n) : (ns.map V.int)[i]? = some (.int n) := by
  rw [List.getElem?_map, h]
  rfl
theorem Big.log {x : Int} (h : Big x) : x.natAbs.log2 < 4000 := PySem.Flt.log2_lt_of (by decide) h.lt
theorem Big.mul {x y : Int} (h : Big x) (h2 : Big y) : CMulW x y := by
  have h3 := h.log
  have h4 := h2.log
  unfold CMulW
  omega
/-- divisor -/
def sp_divisor : Sp := fun vs H Q _ => ∃ a b : Int, vs = [.int a, .int b] ∧ Q (.int (dv a b)) H
/-- lowest, as the laws have it (the lower one is not 0) -/
def sp_lowH : Sp := fun vs H Q _ => ∃ u l : Int, vs = [.int u, .int l] ∧ l ≠ 0 ∧ Big u ∧ Big l ∧ ∀ p, H p = none → Q (.ref p) (upd H p (tI [(low u l).1, (low u l).2]))
/-- lowest -/
def sp_lowest (C : Addr) : Sp := fun vs H Q E => ∃ u l : Int, vs = [.int u, .int l] ∧ Big u ∧ Big l ∧ (l = 0 → E (.ref C) none H) ∧ (l ≠ 0 → ∀ p, H p = none → Q (.ref p) (upd H p (tI [(low u l).1, (low u l).2])))
/-- a cell of the script -/
def cellOf (ns : List Int) (k : Nat) : Int := ns.getD k 0
def sp_cell (K : PySem.W.Frag) : Sp := fun vs H Q _ => ∃ (a : Addr) (ns : List Int) (k : Nat), vs = [.ref a, .int k] ∧ SqL K H a (ns.map V.int) ∧ k < 1000 ∧ Q (.int (cellOf ns k)) H
/-- a draw -/
def mix (c p m : Int) : Int := c * 48271 % p % m
def sp_mix : Sp := fun vs H Q _ => ∃ c p m : Int, vs = [.int c, .int p, .int m] ∧ 0 < p ∧ 0 < m ∧ Q (.int (mix c p m)) H
/-- a drawn fraction -/
def frac (c o w : Int) : Int × Int := low (mix c 1000003 (2 * w + 1) - w) (1 + mix o 999983 w)
def sp_fraction : Sp := fun vs H Q _ => ∃ c o w : Int, vs = [.int c, .int o, .int w] ∧ 0 < w ∧ w < 1000000 ∧ ∀ p, H p = none → Q (.ref p) (upd H p (tI [(frac c o w).1, (frac c o w).2]))
/-- fraction_of -/
def sp_fraction_of (C : Addr) : Sp := fun vs H Q E => ∃ (t : Addr) (xs : List Int), vs = [.ref t] ∧ H t = some (tI xs) ∧ xs.length ≤ 1000000 ∧
  (isRow xs = false → ∀ H', Same H H' → E (.ref C) none H') ∧
  (isRow xs = true → (∀ y ∈ xs, Big y) ∧ (∀ j, Big (st (xs.drop j)).1) ∧ ∀ H' p, Same H H' → H p = none → H' p = some (tI [(st xs).1, (st xs).2]) → Q (.ref p) H')
/-- way_to -/
def sp_way_to (C : Addr) : Sp := fun vs H Q E => ∃ (t : Addr) (u l : Int), vs = [.ref t] ∧ H t = some (tI [u, l]) ∧ (u < 1 → E (.ref C) none H) ∧
  (1 ≤ u → 1 ≤ l ∧ (way u l).length ≤ 1000000 ∧ ∀ H' p, Same H H' → H p = none → H' p = some (tI (way u l)) → Q (.ref p) H')
/-- middle -/
def sp_middle : Sp := fun vs H Q _ => ∃ (t u : Addr) (a b c d : Int), vs = [.ref t, .ref u] ∧ H t = some (tI [a, b]) ∧ H u = some (tI [c, d]) ∧ ∀ p, H p = none → Q (.ref p) (upd H p (tI [a + c, b + d]))
/-- where a way leads -/
def sp_walked : Sp := fun vs H Q _ => ∃ (t : Addr) (ws : List Int), vs = [.ref t] ∧ H t = some (tI ws) ∧ (∀ s ∈ ws, s = 0 ∨ s = 1) ∧ ∀ H' p, Same H H' → H p = none → H' p = some (tI [(bw ws).1, (bw ws).2]) → Q (.ref p) H'
/-- row_of -/
def sp_row_of : Sp := fun vs H Q _ => ∃ (t : Addr) (u l : Int), vs = [.ref t] ∧ H t = some (tI [u, l]) ∧ 0 < l ∧ Big l ∧ (row u l).length ≤ 1000000 ∧ ∀ H' p, Same H H' → H p = none → H' p = some (tI (row u l)) → Q (.ref p) H'
/-- a whole number -/
def sp_whole : Sp := fun vs H Q _ => ∃ z : Int, vs = [.int z] ∧ Q (.bl true) H
/-- a sequence of ints: a list or a tuple -/
def Sq (H : Hp) (t : Addr) (xs : List Int) : Prop := H t = some (tI xs) ∨ H t = some (lI xs)
theorem Sq.same {H H' : Hp} {t : Addr} {xs : List Int} (h : Sq H t xs) (s : Same H H') : Sq H' t xs := h.imp (s _ _) (s _ _)
/-- stands, by hand -/
def sp_stands : Sp := fun vs H Q _ => ∃ (t : Addr) (xs : List Int), vs = [.ref t] ∧ Sq H t xs ∧ xs ≠ [] ∧ xs.length ≤ 1000000 ∧ (∀ y ∈ xs, Big y) ∧ (∀ j, Big (st (xs.drop j)).1) ∧ ∀ H' p, Same H H' → H p = none → H' p = some (tI [(st xs).1, (st xs).2]) → Q (.ref p) H'
/-- first_parts of a fraction -/
def sp_first_parts0 : Sp := fun vs H Q _ => ∃ (t : Addr) (u l : Int) (k : Nat), vs = [.ref t, .int k] ∧ H t = some (tI [u, l]) ∧ 0 < l ∧ Big l ∧ (row u l).length ≤ 1000000 ∧ ∀ H' p, Same H H' → H p = none → H' p = some (tI ((row u l).take k)) → Q (.ref p) H'
end RR
/-! RRQ: squares, roots of square equations and their cuts: plain mathematics. -/
namespace RR

/-! ### square roots of whole numbers -/
def rtStep (r n : Nat) : Nat := if (2 * r + 1) * (2 * r + 1) ≤ n then 2 * r + 1 else 2 * r
def rtF : Nat → Nat → Nat
  | 0, _ => 0
  | k + 1, n => rtStep (rtF k (n / 4)) n
theorem rtF_spec : ∀ k n, n < 4 ^ k → rtF k n * rtF k n ≤ n ∧ n < (rtF k n + 1) * (rtF k n + 1)
  | 0, n, h => by
    have : n = 0 := by simpa using h
    subst this
    decide
  | k + 1, n, h => by
    have h4 : n / 4 < 4 ^ k := by
      rw [Nat.pow_succ] at h
      omega
    obtain ⟨a, b⟩ := rtF_spec k (n / 4) h4
    show rtStep (rtF k (n / 4)) n * rtStep (rtF k (n / 4)) n ≤ n ∧ n < (rtStep (rtF k (n / 4)) n + 1) * (rtStep (rtF k (n / 4)) n + 1)
    generalize rtF k (n / 4) = r at *
    unfold rtStep
    have e1 : (2 * r + 1) * (2 * r + 1) = 4 * (r * r) + 4 * r + 1 := by grind
    have e2 : 2 * r * (2 * r) = 4 * (r * r) := by grind
    have e3 : (r + 1) * (r + 1) = r * r + 2 * r + 1 := by grind
    have e4 : (2 * r + 1 + 1) * (2 * r + 1 + 1) = 4 * (r * r) + 8 * r + 4 := by grind
    split
    · rw [e4]
      omega
    · omega
/-- the whole root of n, for n from 0 on -/
def rt (n : Int) : Int := (rtF (n.toNat.log2 / 2 + 1) n.toNat : Nat)
theorem rt_spec {n : Int} (h : 0 ≤ n) : 0 ≤ rt n ∧ rt n * rt n ≤ n ∧ n < (rt n + 1) * (rt n + 1) := by
  have h1 : n.toNat < 4 ^ (n.toNat.log2 / 2 + 1) := by
    have h2 : n.toNat < 2 ^ (n.toNat.log2 + 1) := Nat.lt_log2_self
    refine Nat.lt_of_lt_of_le h2 ?_
    rw [show (4 : Nat) = 2 ^ 2 from rfl, ← Nat.pow_mul]
    exact Nat.pow_le_pow_right (by decide) (by omega)
  obtain ⟨a, b⟩ := rtF_spec _ _ h1
  unfold rt
  generalize rtF (n.toNat.log2 / 2 + 1) n.toNat = r at *
  refine ⟨Int.natCast_nonneg _, ?_, ?_⟩
  · have : (r : Int) * (r : Int) = ((r * r : Nat) : Int) := by simp
    omega
  · have : ((r : Int) + 1) * ((r : Int) + 1) = (((r + 1) * (r + 1) : Nat) : Int) := by simp
    omega
theorem sq_lt {a b : Int} (h : 0 ≤ b) (h2 : a * a < b * b) : a < b := by
  by_cases h3 : a < b
  · exact h3
  · have := Int.mul_self_le_mul_self h (show b ≤ a by omega)
    omega
theorem sq_le {a b : Int} (h : 0 ≤ b) (h2 : a * a ≤ b * b) : a ≤ b := by
  by_cases h3 : a ≤ b
  · exact h3
  · have := Int.mul_self_lt_mul_self h (show b < a by omega)
    omega
theorem sq_lt' {a b : Int} (h : 0 ≤ b) (h2 : a * a < b * b) : -b < a := by
  have := sq_lt (a := -a) h (by rw [Int.neg_mul_neg]; exact h2)
  omega
theorem rt_unique {n r : Int} (h : 0 ≤ r) (h1 : r * r ≤ n) (h2 : n < (r + 1) * (r + 1)) : rt n = r := by
  have h0 : 0 ≤ n := Int.le_trans (Int.mul_nonneg h h) h1
  obtain ⟨a, b, c⟩ := rt_spec h0
  have x1 := sq_lt (a := r) (b := rt n + 1) (by omega) (by omega)
  have x2 := sq_lt (a := rt n) (b := r + 1) (by omega) (by omega)
  omega
theorem rt_le {n : Int} (h : 0 ≤ n) : rt n ≤ n := by
  obtain ⟨a, b, c⟩ := rt_spec h
  by_cases h1 : rt n ≤ 0
  · omega
  · have : rt n * 1 ≤ rt n * rt n := Int.mul_le_mul_of_nonneg_left (by omega) a
    omega
/-- whether n is a square -/
def isSq (n : Int) : Bool := decide (rt n * rt n = n)
theorem isSq_of {n x : Int} (h : x * x = n) : isSq n = true := by
  have key : ∀ y : Int, 0 ≤ y → y * y = n → isSq n = true := fun y hy h => by
    have e : rt n = y := rt_unique hy (by omega) (by
      have : (y + 1) * (y + 1) = y * y + 2 * y + 1 := by grind
      omega)
    unfold isSq
    rw [e]
    exact decide_eq_true h
  by_cases h0 : 0 ≤ x
  · exact key x h0 h
  · exact key (-x) (by omega) (by rw [Int.neg_mul_neg]; exact h)
/-- Newton: one step down from above -/
theorem newton {n f : Int} (hn : 2 ≤ n) (hf : 1 ≤ f) : 1 ≤ (f + n / f) / 2 ∧ n < ((f + n / f) / 2 + 1) * ((f + n / f) / 2 + 1) ∧ (f ≤ (f + n / f) / 2 → f * f ≤ n) := by
  have h1 := Int.ediv_mul_add_emod n f
  have h2 := Int.emod_lt_of_pos n (show 0 < f by omega)
  have h3 := Int.emod_nonneg n (show f ≠ 0 by omega)
  have hq : 0 ≤ n / f := Int.ediv_nonneg (by omega) (by omega)
  have hq1 : f = 1 → n / f = n := fun e => by rw [e, Int.ediv_one]
  generalize n / f = q at *
  generalize n % f = r at *
  generalize hg : (f + q) / 2 = g at *
  have hg1 : f + q ≤ 2 * g + 1 := by omega
  have hg2 : 2 * g ≤ f + q := by omega
  refine ⟨by omega, ?_, fun h => ?_⟩
  · have x1 : 0 ≤ (f - (q + 1)) * (f - (q + 1)) := by
      by_cases hh : 0 ≤ f - (q + 1)
      · exact Int.mul_nonneg hh hh
      · have := Int.mul_nonneg (show 0 ≤ -(f - (q + 1)) by omega) (show 0 ≤ -(f - (q + 1)) by omega)
        rw [Int.neg_mul_neg] at this
        exact this
    have x2 : (f + q + 1) * (f + q + 1) ≤ (2 * g + 2) * (2 * g + 2) := Int.mul_self_le_mul_self (by omega) (by omega)
    have x3 : (2 * g + 2) * (2 * g + 2) = 4 * ((g + 1) * (g + 1)) := by grind
    have x4 : (f - (q + 1)) * (f - (q + 1)) = (f + q + 1) * (f + q + 1) - 4 * (q * f) - 4 * f := by grind
    omega
  · have x1 : f * f ≤ q * f := Int.mul_le_mul_of_nonneg_right (by omega) (by omega)
    omega
/-! ### no square is d times a square -/
theorem no_sq {d x y : Int} (h : isSq d = false) (e : x * x = d * (y * y)) : y = 0 := by
  by_cases hy : y = 0
  · exact hy
  exfalso
  have h1 : y * y ∣ x * x := ⟨d, by rw [e, Int.mul_comm]⟩
  have h2 : y ^ 2 ∣ x ^ 2 := by
    rw [Int.pow_succ, Int.pow_succ, Int.pow_succ, Int.pow_succ]
    simpa using h1
  obtain ⟨k, rfl⟩ := (Int.pow_dvd_pow_iff (by decide)).mp h2
  have h3 : (y * y) * (k * k) = (y * y) * d := by grind
  have h4 : y * y ≠ 0 := by
    intro z
    rcases Int.mul_eq_zero.mp z with z | z <;> exact hy z
  have h5 := Int.eq_of_mul_eq_mul_left h4 h3
  rw [isSq_of h5] at h
  cases h
/-! ### whole numbers and a root: x + y times the root of d, in order -/
/-- d is above 0 and no square -/
structure Ns (d : Int) : Prop where
  pos : 0 < d
  no : isSq d = false
def nm (d x y : Int) : Int := x * x - d * (y * y)
/-- x + y times the root of d is above 0 -/
def Ps (d x y : Int) : Prop := (0 < nm d x y ∧ 0 < x) ∨ (nm d x y < 0 ∧ 0 < y)
theorem nm_zero {d x y : Int} (h : Ns d) (e : nm d x y = 0) : x = 0 ∧ y = 0 := by
  have hy : y = 0 := no_sq (x := x) h.no (by unfold nm at e; omega)
  subst hy
  have : x * x = 0 := by unfold nm at e; omega
  rcases Int.mul_eq_zero.mp this with z | z <;> exact ⟨z, rfl⟩
theorem nm_mul (d x y z w : Int) : nm d (x * z + d * (y * w)) (x * w + y * z) = nm d x y * nm d z w := by
  unfold nm
  grind
theorem sqn (x : Int) : 0 ≤ x * x := by
  by_cases h : 0 ≤ x
  · exact Int.mul_nonneg h h
  · have := Int.mul_nonneg (show 0 ≤ -x by omega) (show 0 ≤ -x by omega)
    rw [Int.neg_mul_neg] at this
    exact this
theorem sqp {x : Int} (h : x ≠ 0) : 0 < x * x := by
  have h1 := sqn x
  have h2 : x * x ≠ 0 := fun z => by rcases Int.mul_eq_zero.mp z with z | z <;> exact h z
  omega
theorem Ps.ne {d x y : Int} (h : Ps d x y) : ¬ (x = 0 ∧ y = 0) := by
  rintro ⟨rfl, rfl⟩
  rcases h with ⟨_, h⟩ | ⟨_, h⟩ <;> exact absurd h (by decide)
theorem nm_neg (d x y : Int) : nm d (-x) (-y) = nm d x y := by
  unfold nm
  grind
theorem Ps.neg {d x y : Int} (h : Ps d x y) : ¬ Ps d (-x) (-y) := by
  intro k
  unfold Ps at h k
  rw [nm_neg] at k
  omega
theorem Ps.tri {d x y : Int} (h : Ns d) (h0 : ¬ (x = 0 ∧ y = 0)) : Ps d x y ∨ Ps d (-x) (-y) := by
  unfold Ps
  rw [nm_neg]
  have h1 : nm d x y ≠ 0 := fun z => h0 (nm_zero h z)
  by_cases hn : 0 < nm d x y
  · have : x ≠ 0 := by
      rintro rfl
      have h2 : 0 ≤ d * (y * y) := Int.mul_nonneg (Int.le_of_lt h.pos) (sqn y)
      unfold nm at hn
      omega
    omega
  · have : y ≠ 0 := by
      rintro rfl
      have h2 := sqn x
      have e0 : d * (0 * 0) = 0 := by simp
      unfold nm at hn h1
      rw [e0] at hn h1
      omega
    omega
theorem Ps.int {d n : Int} (h : 0 < n) : Ps d n 0 := by
  refine .inl ⟨?_, h⟩
  unfold nm
  have := Int.mul_pos h h
  simp
  exact this
theorem Ps.root {d n : Int} (hd : 0 < d) (h : 0 < n) : Ps d 0 n := by
  refine .inr ⟨?_, h⟩
  unfold nm
  have := Int.mul_pos hd (Int.mul_pos h h)
  omega
theorem abs_lt_of_sq {p q : Int} (hq : 0 < q) (h : p * p < q * q) : -q < p ∧ p < q := ⟨sq_lt' (Int.le_of_lt hq) h, sq_lt (Int.le_of_lt hq) h⟩
theorem Ps.mul {d x y z w : Int} (hd : Ns d) (h : Ps d x y) (k : Ps d z w) : Ps d (x * z + d * (y * w)) (x * w + y * z) := by
  have key : ∀ x y z w : Int, 0 < nm d x y → 0 < x → nm d z w < 0 → 0 < w → nm d (x * z + d * (y * w)) (x * w + y * z) < 0 ∧ 0 < x * w + y * z := by
    intro x y z w a b c e
    refine ⟨by rw [nm_mul]; exact Int.mul_neg_of_pos_of_neg a c, ?_⟩
    have h1 : (y * z) * (y * z) < (x * w) * (x * w) := by
      unfold nm at a c
      have c1 : z * z < d * (w * w) := by omega
      have a1 : d * (y * y) < x * x := by omega
      have k1 : (d * (y * y)) * (z * z) ≤ (x * x) * (z * z) := Int.mul_le_mul_of_nonneg_right (by omega) (sqn z)
      have k2 : (x * x) * (z * z) < (x * x) * (d * (w * w)) := Int.mul_lt_mul_of_pos_left c1 (Int.mul_pos b b)
      have k3 : d * ((y * z) * (y * z)) < d * ((x * w) * (x * w)) := by
        have e1 : d * ((y * z) * (y * z)) = (d * (y * y)) * (z * z) := by grind
        have e2 : d * ((x * w) * (x * w)) = (x * x) * (d * (w * w)) := by grind
        omega
      exact Int.lt_of_mul_lt_mul_left k3 (Int.le_of_lt hd.pos)
    have := abs_lt_of_sq (Int.mul_pos b e) h1
    omega
  rcases h with ⟨a, b⟩ | ⟨a, b⟩ <;> rcases k with ⟨c, e⟩ | ⟨c, e⟩
  · refine .inl ⟨by rw [nm_mul]; exact Int.mul_pos a c, ?_⟩
    have h1 : (d * (y * w)) * (d * (y * w)) < (x * z) * (x * z) := by
      unfold nm at a c
      have a1 : d * (y * y) < x * x := by omega
      have c1 : d * (w * w) < z * z := by omega
      have n1 : 0 ≤ d * (w * w) := Int.mul_nonneg (Int.le_of_lt hd.pos) (sqn w)
      have k1 : (d * (y * y)) * (d * (w * w)) ≤ (x * x) * (d * (w * w)) := Int.mul_le_mul_of_nonneg_right (by omega) n1
      have k2 : (x * x) * (d * (w * w)) < (x * x) * (z * z) := Int.mul_lt_mul_of_pos_left c1 (Int.mul_pos b b)
      have e1 : (d * (y * w)) * (d * (y * w)) = (d * (y * y)) * (d * (w * w)) := by grind
      have e2 : (x * z) * (x * z) = (x * x) * (z * z) := by grind
      omega
    have := abs_lt_of_sq (Int.mul_pos b e) h1
    omega
  · exact .inr (key x y z w a b c e)
  · have := key z w x y c e a b
    refine .inr ?_
    rw [show x * z + d * (y * w) = z * x + d * (w * y) by grind, show x * w + y * z = z * y + w * x by grind]
    exact this
  · refine .inl ⟨by rw [nm_mul]; exact Int.mul_pos_of_neg_of_neg a c, ?_⟩
    have h1 : (x * z) * (x * z) < (d * (y * w)) * (d * (y * w)) := by
      unfold nm at a c
      have a1 : x * x < d * (y * y) := by omega
      have c1 : z * z < d * (w * w) := by omega
      have n1 : 0 < d * (y * y) := Int.mul_pos hd.pos (Int.mul_pos b b)
      have k1 : (x * x) * (z * z) ≤ (d * (y * y)) * (z * z) := Int.mul_le_mul_of_nonneg_right (by omega) (sqn z)
      have k2 : (d * (y * y)) * (z * z) < (d * (y * y)) * (d * (w * w)) := Int.mul_lt_mul_of_pos_left c1 n1
      have e1 : (d * (y * w)) * (d * (y * w)) = (d * (y * y)) * (d * (w * w)) := by grind
      have e2 : (x * z) * (x * z) = (x * x) * (z * z) := by grind
      omega
    have := abs_lt_of_sq (Int.mul_pos hd.pos (Int.mul_pos b e)) h1
    omega
/-- divided by what is above 0 -/
theorem Ps.div {d x y z w : Int} (hd : Ns d) (h : Ps d (x * z + d * (y * w)) (x * w + y * z)) (k : Ps d z w) : Ps d x y := by
  by_cases h0 : x = 0 ∧ y = 0
  · obtain ⟨rfl, rfl⟩ := h0
    exact absurd ⟨by simp, by simp⟩ h.ne
  · rcases Ps.tri hd h0 with h1 | h1
    · exact h1
    · have h2 := Ps.mul hd h1 k
      rw [show -x * z + d * (-y * w) = -(x * z + d * (y * w)) by grind, show -x * w + -y * z = -(x * w + y * z) by grind] at h2
      exact absurd h2 h.neg
theorem Ps.addN {d x y n : Int} (hd : Ns d) (h : Ps d x y) (hn : 0 ≤ n) : Ps d (x + n) y := by
  rcases h with ⟨a, b⟩ | ⟨a, b⟩
  · refine .inl ⟨?_, by omega⟩
    have := Int.mul_self_le_mul_self (show 0 ≤ x by omega) (show x ≤ x + n by omega)
    unfold nm at *
    omega
  · by_cases h1 : nm d (x + n) y < 0
    · exact .inr ⟨h1, b⟩
    · have h2 : nm d (x + n) y ≠ 0 := fun z => by have := (nm_zero hd z).2; omega
      refine .inl ⟨by omega, ?_⟩
      have h3 : x * x < (x + n) * (x + n) := by
        unfold nm at *
        omega
      by_cases h4 : 0 < x + n
      · exact h4
      · exfalso
        have := Int.mul_self_le_mul_self (show 0 ≤ -(x + n) by omega) (show -(x + n) ≤ -x by omega)
        rw [Int.neg_mul_neg, Int.neg_mul_neg] at this
        omega
theorem Ps.add {d x y z w : Int} (hd : Ns d) (h : Ps d x y) (k : Ps d z w) : Ps d (x + z) (y + w) := by
  by_cases hn : 0 < nm d x y
  · have hx : 0 < x := by
      rcases h with ⟨a, b⟩ | ⟨a, b⟩ <;> omega
    have hc : Ps d x (-y) := .inl ⟨by unfold nm at *; rw [Int.neg_mul_neg]; exact hn, hx⟩
    have h1 := Ps.addN hd (Ps.mul hd k hc) (Int.le_of_lt hn)
    refine Ps.div hd (z := x) (w := -y) ?_ hc
    rw [show (x + z) * x + d * ((y + w) * -y) = z * x + d * (w * -y) + nm d x y by unfold nm; grind, show (x + z) * -y + (y + w) * x = z * -y + w * x by grind]
    exact h1
  · have h0 : nm d x y ≠ 0 := fun z => h.ne (nm_zero hd z)
    have hy : 0 < y := by
      rcases h with ⟨a, b⟩ | ⟨a, b⟩ <;> omega
    have hc : Ps d (-x) y := .inr ⟨by unfold nm at *; rw [Int.neg_mul_neg]; omega, hy⟩
    have h1 := Ps.addN hd (Ps.mul hd k hc) (n := -nm d x y) (by omega)
    refine Ps.div hd (z := -x) (w := y) ?_ hc
    rw [show (x + z) * -x + d * ((y + w) * y) = z * -x + d * (w * y) + -nm d x y by unfold nm; grind, show (x + z) * y + (y + w) * -x = z * y + w * -x by grind]
    exact h1
theorem Ps.smul {d x y n : Int} (hd : Ns d) (h : Ps d x y) (hn : 0 < n) : Ps d (n * x) (n * y) := by
  have := Ps.mul hd (Ps.int hn) h
  rw [show n * x + d * (0 * y) = n * x by grind, show n * y + 0 * x = n * y by grind] at this
  exact this
theorem Ps.sdiv {d x y n : Int} (hd : Ns d) (h : Ps d (n * x) (n * y)) (hn : 0 < n) : Ps d x y := by
  refine Ps.div hd (z := n) (w := 0) ?_ (Ps.int hn)
  rw [show x * n + d * (y * 0) = n * x by grind, show x * 0 + y * n = n * y by grind]
  exact h
end RR
/-! RRC: numbers as (p + q times the root of d) divided by r, and how fractions lie to them: plain mathematics. -/
namespace RR
def fm (a b c u l : Int) : Int := a * u * u + b * u * l + c * l * l
def ht (a b c : Int) : Int := b * b - 4 * a * c
/-- whether a root is greater than u divided by l, as both the program and the laws have it -/
def ab (a b c s u l : Int) : Bool := if s = 1 then !decide (0 < 2 * a * u + b * l) || decide (fm a b c u l < 0) else !decide (0 < 2 * a * u + b * l) && decide (0 < fm a b c u l)
def sg (s : Int) : Int := 2 * s - 1
structure IsR (a b c s : Int) : Prop where
  ha : 0 < a
  hs : s = 0 ∨ s = 1
  g : dv (dv a b) c = 1
  n : Ns (ht a b c)
theorem fm_nm (a b c u l s : Int) (hs : s = 0 ∨ s = 1) : nm (ht a b c) (-(2 * a * u + b * l)) (sg s * l) = 4 * a * fm a b c u l := by
  unfold nm ht fm sg
  rcases hs with rfl | rfl <;> grind
theorem ab_ps {a b c s u l : Int} (ha : 0 < a) (hs : s = 0 ∨ s = 1) (hn : Ns (ht a b c)) (hl : 0 < l) : ab a b c s u l = true ↔ Ps (ht a b c) (-(2 * a * u + b * l)) (sg s * l) := by
  unfold Ps
  rw [fm_nm a b c u l s hs]
  have hd : 0 < ht a b c * (l * l) := Int.mul_pos hn.pos (Int.mul_pos hl hl)
  have e : 4 * a * fm a b c u l = (2 * a * u + b * l) * (2 * a * u + b * l) - ht a b c * (l * l) := by
    unfold fm ht
    grind
  have hf : 0 < fm a b c u l → 0 < 4 * a * fm a b c u l := fun h => Int.mul_pos (by omega) h
  have hf2 : fm a b c u l < 0 → 4 * a * fm a b c u l < 0 := fun h => Int.mul_neg_of_pos_of_neg (by omega) h
  have hf3 : fm a b c u l = 0 → False := fun h => by
    have h2 : nm (ht a b c) (-(2 * a * u + b * l)) (sg s * l) = 0 := by rw [fm_nm a b c u l s hs, h, Int.mul_zero]
    have := (nm_zero hn h2).2
    rcases hs with rfl | rfl <;> (unfold sg at this; omega)
  have hw : 2 * a * u + b * l = 0 → 4 * a * fm a b c u l < 0 := fun h => by
    rw [e, h]
    omega
  have hc : (0 < fm a b c u l ∧ 0 < 4 * a * fm a b c u l) ∨ (fm a b c u l < 0 ∧ 4 * a * fm a b c u l < 0) := by
    by_cases h1 : 0 < fm a b c u l
    · exact .inl ⟨h1, hf h1⟩
    · by_cases h2 : fm a b c u l = 0
      · exact (hf3 h2).elim
      · exact .inr ⟨by omega, hf2 (by omega)⟩
  have hw2 : 2 * a * u + b * l ≠ 0 ∨ 4 * a * fm a b c u l < 0 := by
    by_cases h1 : 2 * a * u + b * l = 0
    · exact .inr (hw h1)
    · exact .inl h1
  clear hf hf2 hf3 hw
  unfold ab
  generalize 4 * a * fm a b c u l = g at *
  generalize 2 * a * u + b * l = w at *
  generalize fm a b c u l = f at *
  rcases hs with rfl | rfl
  · rw [if_neg (by decide)]
    simp [sg]
    omega
  · rw [if_pos rfl]
    simp [sg]
    omega
/-- u divided by l is less than the number -/
def Ov (d p q r u l : Int) : Prop := Ps d (p * l - u * r) (q * l)
/-- u divided by l is greater than the number -/
def Be (d p q r u l : Int) : Prop := Ps d (u * r - p * l) (-(q * l))
theorem ab_ov {a b c s u l : Int} (R : IsR a b c s) (hl : 0 < l) : ab a b c s u l = true ↔ Ov (ht a b c) (-b) (sg s) (2 * a) u l := by
  rw [ab_ps R.ha R.hs R.n hl]
  unfold Ov
  rw [show -b * l - u * (2 * a) = -(2 * a * u + b * l) by grind]
theorem sg_ne {s : Int} (h : s = 0 ∨ s = 1) : sg s ≠ 0 := by
  rcases h with rfl | rfl <;> decide
theorem ab_be {a b c s u l : Int} (R : IsR a b c s) (hl : 0 < l) : ab a b c s u l = false ↔ Be (ht a b c) (-b) (sg s) (2 * a) u l := by
  have h1 := ab_ov (u := u) R hl
  unfold Ov at h1
  unfold Be
  rw [show u * (2 * a) - -b * l = -(-b * l - u * (2 * a)) by grind]
  constructor
  · intro h
    have h2 : ¬ (-b * l - u * (2 * a) = 0 ∧ sg s * l = 0) := fun z => by
      rcases Int.mul_eq_zero.mp z.2 with z | z
      · exact sg_ne R.hs z
      · omega
    rcases Ps.tri R.n h2 with h3 | h3
    · rw [h1.mpr h3] at h
      cases h
    · exact h3
  · intro h
    cases e : ab a b c s u l with
    | false => rfl
    | true => exact absurd h (h1.mp e).neg
section
variable {d p q r : Int}
theorem Ov.not {u l : Int} (h : Ov d p q r u l) : ¬ Be d p q r u l := by
  unfold Ov at h
  unfold Be
  rw [show u * r - p * l = -(p * l - u * r) by grind]
  exact h.neg
/-- what is less than a lower one is lower -/
theorem Ov.le {u l v m : Int} (hd : Ns d) (hr : 0 < r) (hl : 0 < l) (hm : 0 < m) (h : Ov d p q r u l) (k : v * l ≤ u * m) : Ov d p q r v m := by
  unfold Ov at *
  have h1 := Ps.addN hd (Ps.smul hd h hm) (n := r * (u * m - v * l)) (Int.mul_nonneg (Int.le_of_lt hr) (by omega))
  refine Ps.sdiv hd (n := l) ?_ hl
  rw [show l * (p * m - v * r) = m * (p * l - u * r) + r * (u * m - v * l) by grind, show l * (q * m) = m * (q * l) by grind]
  exact h1
theorem Be.le {u l v m : Int} (hd : Ns d) (hr : 0 < r) (hl : 0 < l) (hm : 0 < m) (h : Be d p q r u l) (k : u * m ≤ v * l) : Be d p q r v m := by
  unfold Be at *
  have h1 := Ps.addN hd (Ps.smul hd h hm) (n := r * (v * l - u * m)) (Int.mul_nonneg (Int.le_of_lt hr) (by omega))
  refine Ps.sdiv hd (n := l) ?_ hl
  rw [show l * (v * r - p * m) = m * (u * r - p * l) + r * (v * l - u * m) by grind, show l * -(q * m) = m * -(q * l) by grind]
  exact h1
/-- of one above and one below -/
theorem ov_be_lt {u l v m : Int} (hd : Ns d) (hr : 0 < r) (hl : 0 < l) (hm : 0 < m) (h : Ov d p q r u l) (k : Be d p q r v m) : u * m < v * l := by
  by_cases e : u * m < v * l
  · exact e
  · exact absurd k (Ov.le hd hr hl hm h (by omega)).not
end
/-- the part of a root -/
def partR (a b c s : Int) : Int := if s = 0 then (0 - rt (ht a b c) - 1 - b) / (2 * a) else (rt (ht a b c) - b) / (2 * a)
theorem fl {x y : Int} (h : 0 < y) : x / y * y ≤ x ∧ x < (x / y + 1) * y := by
  have h1 := Int.ediv_mul_add_emod x y
  have h2 := Int.emod_lt_of_pos x h
  have h3 := Int.emod_nonneg x (show y ≠ 0 by omega)
  rw [Int.add_mul]
  omega
theorem rt_lt {d : Int} (h : Ns d) : rt d * rt d < d := by
  obtain ⟨a, b, c⟩ := rt_spec (Int.le_of_lt h.pos)
  have : rt d * rt d ≠ d := fun z => by
    have h2 := isSq_of z
    rw [h.no] at h2
    cases h2
  omega
/-- z plus the root -/
theorem ps_up {d z : Int} (h : Ns d) (k : -(rt d) ≤ z) : Ps d z 1 := by
  have h1 := rt_lt h
  have h0 := (rt_spec (Int.le_of_lt h.pos)).1
  unfold Ps nm
  rw [show d * (1 * 1) = d by simp]
  by_cases e : z * z < d
  · right; omega
  · left
    have e2 : z * z ≠ d := fun y => by
      have h2 := isSq_of y
      rw [h.no] at h2
      cases h2
    refine ⟨by omega, ?_⟩
    by_cases e3 : 0 < z
    · exact e3
    · have := Int.mul_self_le_mul_self (show 0 ≤ -z by omega) (show -z ≤ rt d by omega)
      rw [Int.neg_mul_neg] at this
      omega
theorem ps_dn {d z : Int} (h : Ns d) (k : rt d + 1 ≤ z) : Ps d z (-1) := by
  have h0 := (rt_spec (Int.le_of_lt h.pos))
  have := Int.mul_self_le_mul_self (show 0 ≤ rt d + 1 by omega) k
  left
  unfold nm
  rw [show d * (-1 * -1) = d by simp]
  omega
theorem part_ov {a b c s : Int} (R : IsR a b c s) : Ov (ht a b c) (-b) (sg s) (2 * a) (partR a b c s) 1 ∧ Be (ht a b c) (-b) (sg s) (2 * a) (partR a b c s + 1) 1 := by
  have hd := R.n
  have ha := R.ha
  unfold partR Ov Be
  generalize ht a b c = d at *
  rcases R.hs with rfl | rfl
  · rw [if_pos rfl]
    obtain ⟨h1, h2⟩ := fl (x := 0 - rt d - 1 - b) (y := 2 * a) (by omega)
    generalize (0 - rt d - 1 - b) / (2 * a) = z at *
    exact ⟨ps_dn hd (by omega), ps_up hd (by omega)⟩
  · rw [if_neg (by decide)]
    obtain ⟨h1, h2⟩ := fl (x := rt d - b) (y := 2 * a) (by omega)
    generalize (rt d - b) / (2 * a) = z at *
    exact ⟨ps_up hd (by omega), ps_dn hd (by omega)⟩
/-! ### 1 divided by a root less a whole number -/
def mvC (a b c n : Int) : Int := a * n * n + b * n + c
def tnA (a b c n : Int) : Int := if 0 < mvC a b c n then mvC a b c n else -mvC a b c n
def tnB (a b c n : Int) : Int := if 0 < mvC a b c n then b + 2 * a * n else -(b + 2 * a * n)
def tnC (a b c n : Int) : Int := if 0 < mvC a b c n then a else -a
def tnS (a b c s n : Int) : Int := if 0 < mvC a b c n then 1 - s else s
theorem mv_ht (a b c n : Int) : ht a (b + 2 * a * n) (mvC a b c n) = ht a b c := by
  unfold ht mvC
  grind
theorem mvC_ne {a b c n : Int} (h : Ns (ht a b c)) : mvC a b c n ≠ 0 := fun z => by
  have e := mv_ht a b c n
  rw [z] at e
  have h2 := h.no
  rw [isSq_of (x := b + 2 * a * n) (by rw [← e]; unfold ht; simp)] at h2
  cases h2
theorem dv3 {a b c k : Int} (h : dv (dv a b) c = 1) (h1 : k ∣ a) (h2 : k ∣ b) (h3 : k ∣ c) (h0 : 0 ≤ k) : k = 1 := by
  have h4 : k ∣ 1 := by
    rw [← h]
    exact dvd_dv (dvd_dv h1 h2) h3
  exact Int.eq_one_of_dvd_one h0 h4
theorem dv3_dvd (a b c : Int) : dv (dv a b) c ∣ a ∧ dv (dv a b) c ∣ b ∧ dv (dv a b) c ∣ c :=
  ⟨Int.dvd_trans (dv_dvd_left _ _) (dv_dvd_left _ _), Int.dvd_trans (dv_dvd_left _ _) (dv_dvd_right _ _), dv_dvd_right _ _⟩
theorem mv_dv {a b c : Int} (n : Int) (h : dv (dv a b) c = 1) : dv (dv (mvC a b c n) (b + 2 * a * n)) a = 1 := by
  obtain ⟨h1, h2, h3⟩ := dv3_dvd (mvC a b c n) (b + 2 * a * n) a
  have h0 := dv_nonneg (dv (mvC a b c n) (b + 2 * a * n)) a
  generalize dv (dv (mvC a b c n) (b + 2 * a * n)) a = k at *
  have k2 : k ∣ b := by
    have := Int.dvd_sub h2 (Int.dvd_trans h3 (Int.dvd_mul_right a (2 * n)))
    rw [show b + 2 * a * n - a * (2 * n) = b by grind] at this
    exact this
  have k3 : k ∣ c := by
    have := Int.dvd_sub (Int.dvd_sub h1 (Int.dvd_trans h3 (Int.dvd_mul_right a (n * n)))) (Int.dvd_trans k2 (Int.dvd_mul_right b n))
    rw [show mvC a b c n - a * (n * n) - b * n = c by unfold mvC; grind] at this
    exact this
  exact dv3 h h3 k2 k3 h0
theorem tn_ht (a b c n : Int) : ht (tnA a b c n) (tnB a b c n) (tnC a b c n) = ht a b c := by
  rw [← mv_ht a b c n]
  unfold tnA tnB tnC ht
  split <;> grind
theorem tn_isR {a b c s : Int} (n : Int) (R : IsR a b c s) : IsR (tnA a b c n) (tnB a b c n) (tnC a b c n) (tnS a b c s n) := by
  have h0 := mvC_ne (n := n) R.n
  have hg := mv_dv n R.g
  refine ⟨?_, ?_, ?_, by rw [tn_ht]; exact R.n⟩
  · unfold tnA
    split <;> omega
  · have := R.hs
    unfold tnS
    split <;> omega
  · unfold tnA tnB tnC
    split
    · exact hg
    · rw [dv_neg_left, dv_neg_right, dv_neg_right]
      exact hg
theorem sg_inv {s : Int} (h : s = 0 ∨ s = 1) : sg (1 - s) = -sg s := by
  rcases h with rfl | rfl <;> decide
theorem sg_sq {s : Int} (h : s = 0 ∨ s = 1) : sg s * sg s = 1 := by
  rcases h with rfl | rfl <;> decide
/-- the signs of a product -/
theorem ps_sign {d x y z w v t : Int} (hd : Ns d) (e1 : v = x * z + d * (y * w)) (e2 : t = x * w + y * z) (k : Ps d z w) : Ps d v t ↔ Ps d x y := by
  constructor
  · intro h
    rw [e1, e2] at h
    exact Ps.div hd h k
  · intro h
    rw [e1, e2]
    exact Ps.mul hd h k
/-- what the turned one is greater than, by products: t (the turned one less u / l), a (the root less n), m (what is left) -/
theorem tn_key {a b c s n u l : Int} (R : IsR a b c s) : ∃ k : Int, 0 < k ∧
    k * (2 * a * l + (b + 2 * a * n) * u) = (-tnB a b c n * l - u * (2 * tnA a b c n)) * (-b - n * (2 * a)) + ht a b c * (sg (tnS a b c s n) * l * sg s) ∧
    k * -(sg s * u) = (-tnB a b c n * l - u * (2 * tnA a b c n)) * sg s + sg (tnS a b c s n) * l * (-b - n * (2 * a)) := by
  have h0 := mvC_ne (n := n) R.n
  have hs := sg_sq R.hs
  have e : ht a b c = (b + 2 * a * n) * (b + 2 * a * n) - 4 * a * mvC a b c n := by
    rw [← mv_ht a b c n]
    rfl
  rw [e, show -b - n * (2 * a) = -(b + 2 * a * n) by grind]
  unfold tnA tnB tnS
  generalize mvC a b c n = C at *
  generalize b + 2 * a * n = B at *
  split
  · rename_i hC
    rw [sg_inv R.hs]
    generalize sg s = σ at *
    refine ⟨2 * C, by omega, ?_, ?_⟩ <;> grind
  · rename_i hC
    generalize sg s = σ at *
    refine ⟨2 * -C, by omega, ?_, ?_⟩ <;> grind
/-- Ov of a root, in short -/
abbrev OvR (a b c s u l : Int) : Prop := Ov (ht a b c) (-b) (sg s) (2 * a) u l
abbrev BeR (a b c s u l : Int) : Prop := Be (ht a b c) (-b) (sg s) (2 * a) u l
theorem root_tri {a b c s u l : Int} (R : IsR a b c s) (hl : 0 < l) : OvR a b c s u l ∨ BeR a b c s u l := by
  cases e : ab a b c s u l with
  | true => exact .inl ((ab_ov R hl).mp e)
  | false => exact .inr ((ab_be R hl).mp e)
/-- the turned one's signs: with t, a, m as in tn_key -/
theorem tn_sign {a b c s n u l : Int} (R : IsR a b c s) (hl : 0 < l) :
    (OvR a b c s n 1 → (OvR (tnA a b c n) (tnB a b c n) (tnC a b c n) (tnS a b c s n) u l ↔ Ps (ht a b c) (2 * a * l + (b + 2 * a * n) * u) (-(sg s * u)))) ∧
    (BeR a b c s n 1 → (BeR (tnA a b c n) (tnB a b c n) (tnC a b c n) (tnS a b c s n) u l ↔ Ps (ht a b c) (2 * a * l + (b + 2 * a * n) * u) (-(sg s * u)))) := by
  obtain ⟨k, hk, e1, e2⟩ := tn_key (n := n) (u := u) (l := l) R
  have hm : ∀ x y : Int, Ps (ht a b c) (k * x) (k * y) ↔ Ps (ht a b c) x y := fun x y => ⟨fun h => Ps.sdiv R.n h hk, fun h => Ps.smul R.n h hk⟩
  constructor
  · intro h
    unfold OvR Ov at *
    rw [tn_ht, ← hm (2 * a * l + (b + 2 * a * n) * u) (-(sg s * u)), e1, e2]
    rw [Int.mul_one, Int.mul_one] at h
    exact (ps_sign R.n (by grind) (by grind) h).symm
  · intro h
    unfold BeR Be at *
    rw [tn_ht, ← hm (2 * a * l + (b + 2 * a * n) * u) (-(sg s * u)), e1, e2]
    rw [Int.mul_one, Int.mul_one] at h
    refine (ps_sign R.n ?_ ?_ h).symm
    · grind
    · grind
theorem tn_up {a b c s n u l : Int} (R : IsR a b c s) (hl : 0 < l) (hu : 0 < u) :
    OvR (tnA a b c n) (tnB a b c n) (tnC a b c n) (tnS a b c s n) u l ↔ (OvR a b c s n 1 ∧ BeR a b c s (n * u + l) u) := by
  obtain ⟨h1, h2⟩ := tn_sign (n := n) (u := u) R hl
  have e : Ps (ht a b c) (2 * a * l + (b + 2 * a * n) * u) (-(sg s * u)) ↔ BeR a b c s (n * u + l) u := by
    unfold BeR Be
    rw [show (n * u + l) * (2 * a) - -b * u = 2 * a * l + (b + 2 * a * n) * u by grind]
  have h3 := tn_isR n R
  rcases root_tri (u := n) R (show (0 : Int) < 1 by decide) with h | h
  · rw [h1 h, e]
    exact ⟨fun x => ⟨h, x⟩, fun x => x.2⟩
  · have h4 : BeR a b c s (n * u + l) u := Be.le R.n (by have := R.ha; omega) (by decide) hu h (by omega)
    have h5 := (h2 h).mpr (e.mpr h4)
    exact ⟨fun x => absurd h5 x.not, fun x => absurd h x.1.not⟩
theorem tn_zero {a b c s n l : Int} (R : IsR a b c s) (hl : 0 < l) :
    OvR (tnA a b c n) (tnB a b c n) (tnC a b c n) (tnS a b c s n) 0 l ↔ OvR a b c s n 1 := by
  obtain ⟨h1, h2⟩ := tn_sign (n := n) (u := 0) R hl
  have e : Ps (ht a b c) (2 * a * l + (b + 2 * a * n) * 0) (-(sg s * 0)) := by
    rw [Int.mul_zero, Int.mul_zero, Int.add_zero]
    exact Ps.int (Int.mul_pos (by have := R.ha; omega) hl)
  rcases root_tri (u := n) R (show (0 : Int) < 1 by decide) with h | h
  · exact ⟨fun _ => h, fun _ => (h1 h).mpr e⟩
  · exact ⟨fun x => absurd ((h2 h).mpr e) x.not, fun x => absurd h x.not⟩
theorem tn_dn {a b c s n u l : Int} (R : IsR a b c s) (hl : 0 < l) (hu : u < 0) :
    OvR (tnA a b c n) (tnB a b c n) (tnC a b c n) (tnS a b c s n) u l ↔ (OvR a b c s n 1 ∨ BeR a b c s (n * (0 - u) - l) (0 - u)) := by
  obtain ⟨h1, h2⟩ := tn_sign (n := n) (u := u) R hl
  have e : Ps (ht a b c) (2 * a * l + (b + 2 * a * n) * u) (-(sg s * u)) ↔ OvR a b c s (n * (0 - u) - l) (0 - u) := by
    unfold OvR Ov
    rw [show -b * (0 - u) - (n * (0 - u) - l) * (2 * a) = 2 * a * l + (b + 2 * a * n) * u by grind, show sg s * (0 - u) = -(sg s * u) by grind]
  rcases root_tri (u := n) R (show (0 : Int) < 1 by decide) with h | h
  · have h4 : OvR a b c s (n * (0 - u) - l) (0 - u) := Ov.le R.n (by have := R.ha; omega) (by decide) (show 0 < 0 - u by omega) h (by omega)
    exact ⟨fun _ => .inl h, fun _ => (h1 h).mpr (e.mpr h4)⟩
  · rcases root_tri (u := n * (0 - u) - l) R (show 0 < 0 - u by omega) with h4 | h4
    · have h5 := (h2 h).mpr (e.mpr h4)
      exact ⟨fun x => absurd h5 x.not, fun x => x.elim (fun y => absurd h y.not) (fun y => absurd y h4.not)⟩
    · refine ⟨fun _ => .inr h4, fun _ => ?_⟩
      rcases root_tri (u := u) (tn_isR n R) hl with h6 | h6
      · exact h6
      · exact absurd h4 (e.mp ((h2 h).mp h6)).not
end RR
/-! RRT: the promises of the defs over roots, and of the defs that take any thing. -/
namespace RR
open PySem PySem.Spec PyProof.Rows L2
/-- what is no whole number -/
def NotWh (x : V) : Prop := (∃ b, x = .bl b) ∨ ∃ z, x = .str z
def sp_isw : Sp := fun vs H Q _ => ∃ x, vs = [x] ∧ ((∃ z, x = .int z ∧ Q (.bl true) H) ∨ (NotWh x ∧ Q (.bl false) H))
def BadT (xs : List V) : Prop := xs.length ≠ 2 ∨ (∃ y z, xs = [y, z] ∧ NotWh y) ∨ (∃ y z, xs = [.int y, z] ∧ NotWh z) ∨ ∃ y z, xs = [.int y, .int z] ∧ (z < 1 ∨ dv y z ≠ 1)
def NotTup (K : PySem.W.Frag) (H : Hp) (x : V) : Prop := ∃ t, TyX K H x t ∧ PySem.W.kitOne K t (.type "tuple") = some false
def NotFr (K : PySem.W.Frag) (H : Hp) (x : V) : Prop := NotTup K H x ∨ ∃ a xs, x = .ref a ∧ H a = some (.tup xs) ∧ BadT xs
def sp_is_fraction (K : PySem.W.Frag) : Sp := fun vs H Q _ => ∃ x, vs = [x] ∧ ((NotFr K H x ∧ Q (.bl false) H) ∨ ∃ a y z, x = .ref a ∧ H a = some (tI [y, z]) ∧ 1 ≤ z ∧ dv y z = 1 ∧ Q (.bl true) H)
theorem notTup_non {K : PySem.W.Frag} {H : Hp} : NotTup K H .non := ⟨_, .base .non, kit_ty (by decide +kernel)⟩
theorem notTup_int {K : PySem.W.Frag} {H : Hp} (n : Int) : NotTup K H (.int n) := ⟨_, .base (.int n), kit_ty (by decide +kernel)⟩
theorem notTup_lst {K : PySem.W.Frag} {H : Hp} {a : Addr} {xs : List V} (e : H a = some (.lst xs)) : NotTup K H (.ref a) := ⟨_, .base (.lst e), kit_ty (by decide +kernel)⟩
/-- least_square -/
def sp_least_square : Sp := fun vs H Q _ => ∃ n : Int, vs = [.int n] ∧ 0 ≤ n ∧ Big n ∧ Q (.int (rt n)) H
end RR
namespace RR
open PySem PySem.Spec PyProof.Rows L2
/-! ### the text by places -/
def topS (i : Nat) : Stmt := PySem.Challenge.pw_rootrow_k01_fractions.main.body.getD i (.Pass ⟨0, 0, 0, 0⟩)
abbrev s_is_whole : Stmt := topS 4
abbrev n_is_whole : List Str := ["thing"]
abbrev p_is_whole : List Str := ["thing"]
theorem sc_is_whole : FnScope n_is_whole p_is_whole (defScope s_is_whole) := ⟨rfl, rfl, rfl, by decide +kernel, rfl, by decide +kernel, by decide +kernel⟩
abbrev s_divisor : Stmt := topS 5
abbrev n_divisor : List Str := ["one", "other"]
abbrev p_divisor : List Str := ["one", "other"]
theorem sc_divisor : FnScope n_divisor p_divisor (defScope s_divisor) := ⟨rfl, rfl, rfl, by decide +kernel, rfl, by decide +kernel, by decide +kernel⟩
abbrev s_is_fraction : Stmt := topS 6
abbrev n_is_fraction : List Str := ["thing"]
abbrev p_is_fraction : List Str := ["thing"]
theorem sc_is_fraction : FnScope n_is_fraction p_is_fraction (defScope s_is_fraction) := ⟨rfl, rfl, rfl, by decide +kernel, rfl, by decide +kernel, by decide +kernel⟩
abbrev s_lowest : Stmt := topS 7
abbrev n_lowest : List Str := ["upper", "lower", "by"]
abbrev p_lowest : List Str := ["upper", "lower"]
theorem sc_lowest : FnScope n_lowest p_lowest (defScope s_lowest) := ⟨rfl, rfl, rfl, by decide +kernel, rfl, by decide +kernel, by decide +kernel⟩
abbrev s_least_square : Stmt := topS 8
abbrev n_least_square : List Str := ["n", "found", "other"]
abbrev p_least_square : List Str := ["n"]
theorem sc_least_square : FnScope n_least_square p_least_square (defScope s_least_square) := ⟨rfl, rfl, rfl, by decide +kernel, rfl, by decide +kernel, by decide +kernel⟩
abbrev s__law_cell : Stmt := topS 10
abbrev n__law_cell : List Str := ["_law_script", "_law_k"]
abbrev p__law_cell : List Str := ["_law_script", "_law_k"]
theorem sc__law_cell : FnScope n__law_cell p__law_cell (defScope s__law_cell) := ⟨rfl, rfl, rfl, by decide +kernel, rfl, by decide +kernel, by decide +kernel⟩
abbrev s__law_mix : Stmt := topS 11
abbrev n__law_mix : List Str := ["_law_cell_here", "_law_prime", "_law_many"]
abbrev p__law_mix : List Str := ["_law_cell_here", "_law_prime", "_law_many"]
theorem sc__law_mix : FnScope n__law_mix p__law_mix (defScope s__law_mix) := ⟨rfl, rfl, rfl, by decide +kernel, rfl, by decide +kernel, by decide +kernel⟩
abbrev s__law_whole : Stmt := topS 12
abbrev n__law_whole : List Str := ["_law_found"]
abbrev p__law_whole : List Str := ["_law_found"]
theorem sc__law_whole : FnScope n__law_whole p__law_whole (defScope s__law_whole) := ⟨rfl, rfl, rfl, by decide +kernel, rfl, by decide +kernel, by decide +kernel⟩
abbrev s__law_divisor : Stmt := topS 13
abbrev n__law_divisor : List Str := ["_law_one", "_law_other"]
abbrev p__law_divisor : List Str := ["_law_one", "_law_other"]
theorem sc__law_divisor : FnScope n__law_divisor p__law_divisor (defScope s__law_divisor) := ⟨rfl, rfl, rfl, by decide +kernel, rfl, by decide +kernel, by decide +kernel⟩
abbrev s__law_lowest : Stmt := topS 14
abbrev n__law_lowest : List Str := ["_law_upper", "_law_lower", "_law_by"]
abbrev p__law_lowest : List Str := ["_law_upper", "_law_lower"]
theorem sc__law_lowest : FnScope n__law_lowest p__law_lowest (defScope s__law_lowest) := ⟨rfl, rfl, rfl, by decide +kernel, rfl, by decide +kernel, by decide +kernel⟩
abbrev s__law_fraction : Stmt := topS 15
abbrev n__law_fraction : List Str := ["_law_cell_here", "_law_other", "_law_wide", "_law_upper"]
abbrev p__law_fraction : List Str := ["_law_cell_here", "_law_other", "_law_wide"]
theorem sc__law_fraction : FnScope n__law_fraction p__law_fraction (defScope s__law_fraction) := ⟨rfl, rfl, rfl, by decide +kernel, rfl, by decide +kernel, by decide +kernel⟩
abbrev s__law_refused : Stmt := topS 16
abbrev n__law_refused : List Str := ["_law_upper", "_law_told", "e"]
abbrev p__law_refused : List Str := ["_law_upper"]
theorem sc__law_refused : FnScope n__law_refused p__law_refused (defScope s__law_refused) := ⟨rfl, rfl, rfl, by decide +kernel, rfl, by decide +kernel, by decide +kernel⟩
abbrev s_law : Stmt := topS 17
abbrev n_law : List Str := ["_law_script", "_law_upper", "_law_lower", "_law_found", "_law_more", "_law_bad", "_law_n", "_law_told", "_law_one"]
abbrev p_law : List Str := ["_law_script"]
theorem sc_law : FnScope n_law p_law (defScope s_law) := ⟨rfl, rfl, rfl, by decide +kernel, rfl, by decide +kernel, by decide +kernel⟩
section
variable {P : Program} {w : World} {K : PySem.W.Frag} {mg : Str → Option Value} {base : Heap}
theorem ok_is_whole (D : Df K mg "is_whole" p_is_whole s_is_whole) (B : Bl mg) : Cal P w K mg base CX0 1 "is_whole" p_is_whole sp_isw := D.cal fun f fd F => by
  refine F.ok sc_is_whole (fun vs H Q E h => ?_) (fun cdv A outer s H vs Q E hr h => ?_)
  · obtain ⟨z, rfl, _⟩ := h
    rfl
  obtain ⟨x, rfl, h⟩ := h
  refine ⟨_, pss_one (ps_ret (pe_and (pe_callB call_isi (by rfl) B.isinstance PyProof.Rows.boot_isinstance (pa_cons (pv 0) (pa_cons (pe_bltn (v := .ty "int") (by rfl) B.int (by decide +kernel) rfl) pa_nil)))
    (pe_one (pe_not (pe_callB call_isi (by rfl) B.isinstance PyProof.Rows.boot_isinstance (pa_cons (pv 0) (pa_cons (pe_bltn (v := .ty "bool") (by rfl) B.bool (by decide +kernel) rfl) pa_nil))))))), ?_⟩
  rcases h with ⟨z, rfl, q⟩ | ⟨⟨b, rfl⟩ | ⟨z, rfl⟩, q⟩
  · refine ⟨_, rfl, .int z, .ty "int", _, _, true, rfl, .ty "int", .base (.int z), isT_self, true, rfl, iteT ?_⟩
    exact ⟨_, rfl, .int z, .ty "bool", _, _, false, rfl, .ty "bool", .base (.int z), kit_ty (by decide +kernel), false, rfl, q⟩
  · refine ⟨_, rfl, .bl b, .ty "int", _, _, true, rfl, .ty "int", .base (.bl b), kit_ty (by decide +kernel), true, rfl, iteT ?_⟩
    exact ⟨_, rfl, .bl b, .ty "bool", _, _, true, rfl, .ty "bool", .base (.bl b), isT_self, true, rfl, q⟩
  · exact ⟨_, rfl, .str z, .ty "int", _, _, false, rfl, .ty "int", .base (.str z), kit_ty (by decide +kernel), false, rfl, iteF q⟩
end
section
variable {P : Program} {w : World} {K : PySem.W.Frag} {mg : Str → Option Value} {base : Heap}
theorem ok_divisor (D : Df K mg "divisor" p_divisor s_divisor) (B : Bl mg) : Cal P w K mg base CX0 1 "divisor" p_divisor sp_divisor := D.cal fun f fd F => by
  refine F.ok sc_divisor (fun vs H Q E h => ?_) (fun cdv A outer s H vs Q E hr h => ?_)
  · obtain ⟨a, b, rfl, _⟩ := h
    rfl
  obtain ⟨a, b, rfl, q⟩ := h
  refine ⟨_, pss_cons (ps_set (i := 0) sc_divisor.nd rfl (.inl rfl) (pe_callB call_abs (by rfl) B.abs (by decide +kernel) (pa_cons (pv 0) pa_nil)))
    (pss_cons (ps_set (i := 1) sc_divisor.nd rfl (.inl rfl) (pe_callB call_abs (by rfl) B.abs (by decide +kernel) (pa_cons (pv 1) pa_nil)))
    (pss_cons (ps_while PassesOwn.never (pt_cmpR op_gt (pv 1) pe_int (nomark _)) (pss_one (ps_par (i := 0) (j := 1) (by rfl) sc_divisor.nd rfl rfl (by decide) rfl rfl (pa_cons (pv 1) (pa_cons (pe_op op_mod (pv 0) (pv 1)) pa_nil)) (by rfl))))
    (pss_one (ps_ret (pv 0))))), ?_⟩
  refine ⟨_, rfl, a, rfl, _, rfl, b, rfl, ?_⟩
  refine ⟨fun m σ H' => ∃ x y : Int, σ = [some (.int x), some (.int y)] ∧ 0 ≤ x ∧ 0 ≤ y ∧ Int.gcd x y = Int.gcd a b ∧ H' = H ∧ m = y.toNat, ⟨_, _, _, rfl, by split <;> omega, by split <;> omega, gcd_abs a b, rfl, rfl⟩, ?_⟩
  rintro m σ H' ⟨x, y, rfl, hx, hy, hg, rfl, rfl⟩
  refine ⟨_, rfl, _, _, rfl, rfl, _, rfl, ite2 (fun c => ?_) (fun c => ?_)⟩
  · have c' : 0 < y := of_decide_eq_true c
    have h1 := Int.emod_nonneg x (show y ≠ 0 by omega)
    have h2 := Int.emod_lt_of_pos x c'
    refine ⟨fun σ' H2 => σ' = [some (.int y), some (.int (x % y))] ∧ H2 = H', fun σ' H2 ⟨e1, e2⟩ => ⟨(x % y).toNat, by omega, y, x % y, e1, hy, h1, by rw [gcd_step hx c', hg], e2, rfl⟩, ?_⟩
    exact ⟨_, rfl, _, rfl, _, rfl, _, _, rfl, rfl, c', _, _, rfl, rfl, rfl⟩
  · have c' : ¬ 0 < y := of_decide_eq_false (Bool.eq_false_iff.mpr c)
    refine ⟨_, rfl, ?_⟩
    have e : x = dv a b := by
      rw [gcd_end hx c' hy, hg]
      rfl
    rw [e]
    exact q
end
section
variable {P : Program} {w : World} {K : PySem.W.Frag} {mg : Str → Option Value} {base : Heap}
theorem ok_is_fraction (D : Df K mg "is_fraction" p_is_fraction s_is_fraction) (B : Bl mg) (Cw : Cal P w K mg base CX0 1 "is_whole" p_is_whole sp_isw) (Cd : Cal P w K mg base CX0 1 "divisor" p_divisor sp_divisor) : Cal P w K mg base CX0 2 "is_fraction" p_is_fraction (sp_is_fraction K) := D.cal fun f fd F => by
  refine F.ok sc_is_fraction (fun vs H Q E h => ?_) (fun cdv A outer s H vs Q E hr h => ?_)
  · obtain ⟨a, rfl, _⟩ := h
    rfl
  obtain ⟨x, rfl, h⟩ := h
  refine ⟨_, pss_cons (ps_if (PW.pt (pw_or (pt_not (pt_val (pe_callB call_isi (by rfl) B.isinstance PyProof.Rows.boot_isinstance (pa_cons (pv 0) (pa_cons (pe_bltn (v := .ty "tuple") (by rfl) B.tuple (by decide +kernel) rfl) pa_nil)))))
      (pw_or (pt_cmpR op_ne (pe_callB call_len_seq (by rfl) B.len PySem.boot_len (pa_cons (pv 0) pa_nil)) pe_int (nomark _))
      (pw_or (pt_not (pt_val (pe_cal Cw hr (by decide) (by rfl) pass0 (pa_cons (pe_ix ix_tup (pv 0) pe_int (fun _ _ => rfl)) pa_nil))))
      (pw_or1 (pt_not (pt_val (pe_cal Cw hr (by decide) (by rfl) pass0 (pa_cons (pe_ix ix_tup (pv 0) pe_int (fun _ _ => rfl)) pa_nil)))))))))
      (pss_one (ps_ret pe_bl)) pss_nil)
    <| pss_one (ps_ret (pe_and (pe_cmpR op_ge (pe_ix ix_tup (pv 0) pe_int (fun _ _ => rfl)) pe_int (nomark _)) (pe_one (pe_cmpR op_eq (pe_cal Cd hr (by decide) (by rfl) pass0 (pa_cons (pe_ix ix_tup (pv 0) pe_int (fun _ _ => rfl)) (pa_cons (pe_ix ix_tup (pv 0) pe_int (fun _ _ => rfl)) pa_nil))) pe_int (nomark _))))), ?_⟩
  have whole : ∀ a y z, H a = some (tI [y, z]) → x = .ref a → True := fun _ _ _ _ _ => trivial
  rcases h with ⟨⟨t, ty, kt⟩ | ⟨a, xs, rfl, e, hb⟩, q⟩ | ⟨a, y, z, rfl, e, hz, hd, q⟩
  · exact ⟨_, rfl, x, .ty "tuple", _, _, false, rfl, .ty "tuple", ty, kt, false, rfl, iteT (iteT q)⟩
  · refine ⟨_, rfl, .ref a, .ty "tuple", _, _, true, rfl, .ty "tuple", isT_tup e, isT_self, true, rfl, iteF ?_⟩
    refine ⟨_, rfl, a, _, rfl, .inr (SqT.of e), rfl, _, rfl, ite2 (fun c => iteT q) (fun c => ?_)⟩
    have hl : xs.length = 2 := by
      have h1 := Bool.eq_false_iff.mpr c
      rw [Bool.not_eq_false'] at h1
      have h2 := V.int.inj (of_decide_eq_true h1)
      omega
    rcases hb with hb | ⟨y, z, rfl, hy⟩ | ⟨y, z, rfl, hy⟩ | ⟨y, z, rfl, hy⟩
    · exact absurd hl hb
    · exact ⟨_, rfl, a, _, 0, y, rfl, rfl, SqT.of e, atI_nat (j := 0) rfl, y, rfl, .inr ⟨hy, false, rfl, iteT (iteT q)⟩⟩
    · refine ⟨_, rfl, a, _, 0, .int y, rfl, rfl, SqT.of e, atI_nat (j := 0) rfl, .int y, rfl, .inl ⟨y, rfl, true, rfl, iteF ?_⟩⟩
      exact ⟨_, rfl, a, _, 1, z, rfl, rfl, SqT.of e, atI_nat (j := 1) rfl, z, rfl, .inr ⟨hy, false, rfl, iteT q⟩⟩
    · refine ⟨_, rfl, a, _, 0, .int y, rfl, rfl, SqT.of e, atI_nat (j := 0) rfl, .int y, rfl, .inl ⟨y, rfl, true, rfl, iteF ?_⟩⟩
      refine ⟨_, rfl, a, _, 1, .int z, rfl, rfl, SqT.of e, atI_nat (j := 1) rfl, .int z, rfl, .inl ⟨z, rfl, true, rfl, iteF ?_⟩⟩
      refine ⟨_, rfl, a, _, 1, .int z, rfl, rfl, SqT.of e, atI_nat (j := 1) rfl, _, _, rfl, rfl, _, rfl, ite2 (fun c => ?_) (fun c => ?_)⟩
      · have c' : 1 ≤ z := of_decide_eq_true c
        refine ⟨_, rfl, a, _, 0, .int y, rfl, rfl, SqT.of e, atI_nat (j := 0) rfl, _, rfl, a, _, 1, .int z, rfl, rfl, SqT.of e, atI_nat (j := 1) rfl, y, z, rfl, rfl, ?_⟩
        have h3 : decide (V.int (dv y z) = V.int 1) = false := decide_eq_false (fun k => by have := V.int.inj k; omega)
        rw [h3]
        exact q
      · exact q
  · refine ⟨_, rfl, .ref a, .ty "tuple", _, _, true, rfl, .ty "tuple", isT_tup e, isT_self, true, rfl, iteF ?_⟩
    refine ⟨_, rfl, a, _, rfl, .inr (SqT.of e), rfl, false, rfl, iteF ?_⟩
    refine ⟨_, rfl, a, _, 0, .int y, rfl, rfl, SqT.of e, atI_nat (j := 0) rfl, .int y, rfl, .inl ⟨y, rfl, true, rfl, iteF ?_⟩⟩
    refine ⟨_, rfl, a, _, 1, .int z, rfl, rfl, SqT.of e, atI_nat (j := 1) rfl, .int z, rfl, .inl ⟨z, rfl, true, rfl, iteF ?_⟩⟩
    refine ⟨_, rfl, a, _, 1, .int z, rfl, rfl, SqT.of e, atI_nat (j := 1) rfl, _, _, rfl, rfl, _, rfl, ite2 (fun c => ?_) (fun c => absurd (decide_eq_true hz) c)⟩
    refine ⟨_, rfl, a, _, 0, .int y, rfl, rfl, SqT.of e, atI_nat (j := 0) rfl, _, rfl, a, _, 1, .int z, rfl, rfl, SqT.of e, atI_nat (j := 1) rfl, y, z, rfl, rfl, ?_⟩
    rw [hd, decide_eq_true rfl]
    exact q
end
section
variable {P : Program} {w : World} {K : PySem.W.Frag} {mg : Str → Option Value} {base : Heap} {C R : Addr}
theorem ok_lowest (D : Df K mg "lowest" p_lowest s_lowest) (N : NoN K mg C R) (C_div : Cal P w K mg base CX0 1 "divisor" p_divisor sp_divisor) : Cal P w K mg base (L2.CX P w) 2 "lowest" p_lowest (sp_lowest C) := D.cal fun f fd F => by
  refine F.okX sc_lowest (fun vs H Q E h => ?_) (fun cdv A outer s H vs Q E hr h => ?_)
  · obtain ⟨a, b, rfl, _⟩ := h
    rfl
  obtain ⟨u, l, rfl, hu, hl, q0, q⟩ := h
  refine ⟨_, pss_cons (ps_if (pt_cmpR op_eq (pv 1) pe_int (nomark _)) (pss_one (ps_no N rfl (takes_of rfl rfl rfl rfl) (by rfl))) pss_nil)
    <| pss_mid (ps_if (pt_cmpR op_lt (pv 1) pe_int (nomark _)) (pss_cons (ps_set (i := 0) sc_lowest.nd rfl (.inl rfl) (pe_op op_sub pe_int (pv 0))) (pss_one (ps_set (i := 1) sc_lowest.nd rfl (.inl rfl) (pe_op op_sub pe_int (pv 1))))) pss_nil)
    <| pss_cons (ps_set (i := 2) sc_lowest.nd rfl (.inl rfl) (pe_cal C_div hr (by decide) (by rfl) pass0 (pa_cons (pv 0) (pa_cons (pv 1) pa_nil))))
    (pss_one (ps_ret (pe_tup (pa_cons (pe_op op_fdivWN (pv 0) (pv 2)) (pa_cons (pe_op op_fdivWN (pv 1) (pv 2)) pa_nil))))), ?_⟩
  refine ⟨_, rfl, rfl, _, rfl, ite2 (fun c => ?_) (fun c => ?_)⟩
  · have c' : l = 0 := V.int.inj (of_decide_eq_true c)
    exact q0 c'
  have h0 : l ≠ 0 := fun z => c (decide_eq_true (congrArg V.int z))
  refine ⟨fun σ H' => H' = H ∧ ∃ u' l', σ = [some (.int u'), some (.int l'), none] ∧ 0 < l' ∧ Big l' ∧ low u l = (u' / dv u' l', l' / dv u' l'), ?_, ?_⟩
  · refine ⟨_, rfl, _, _, rfl, rfl, _, rfl, ite2 (fun c => ?_) (fun c => ?_)⟩
    · have c' : l < 0 := of_decide_eq_true c
      refine ⟨_, rfl, _, _, rfl, rfl, _, rfl, _, _, rfl, rfl, rfl, 0 - u, 0 - l, rfl, by omega, big_le (by omega) hl, ?_⟩
      unfold low
      rw [if_pos c', show 0 - u = -u by omega, show 0 - l = -l by omega, dv_neg_left, dv_neg_right]
    · have c' : ¬ l < 0 := of_decide_eq_false (Bool.eq_false_iff.mpr c)
      refine ⟨rfl, u, l, rfl, by omega, hl, ?_⟩
      unfold low
      rw [if_neg c']
  rintro σ H' ⟨rfl, u', l', rfl, hp, hb', e⟩
  have hg := dv_pos_right (a := u') (show l' ≠ 0 by omega)
  have hb : dv u' l' ≠ 0 ∧ (dv u' l').natAbs.log2 < 9000 := by
    refine ⟨by omega, Nat.lt_of_lt_of_le (PySem.Flt.log2_lt_of (by decide) (Nat.lt_of_le_of_lt ?_ hb'.lt)) (by decide : 4000 ≤ 9000)⟩
    obtain ⟨k, hk⟩ := dv_dvd_right u' l'
    conv => rhs; rw [hk]
    rw [Int.natAbs_mul]
    refine Nat.le_mul_of_pos_right _ ?_
    have : k ≠ 0 := fun z => by
      rw [z, Int.mul_zero] at hk
      omega
    omega
  have q2 := q h0
  rw [e] at q2
  refine ⟨_, rfl, _, rfl, u', l', rfl, _, rfl, _, rfl, _, _, rfl, rfl, hb, _, rfl, _, rfl, _, _, rfl, rfl, hb, len2, fun p np => ?_⟩
  have := q2 p np
  rw [← Int.fdiv_eq_ediv_of_nonneg u' (by omega), ← Int.fdiv_eq_ediv_of_nonneg l' (by omega)] at this
  exact this
end
section
variable {P : Program} {w : World} {K : PySem.W.Frag} {mg : Str → Option Value} {base : Heap}
theorem ok_least_square (D : Df K mg "least_square" p_least_square s_least_square) : Cal P w K mg base CX0 1 "least_square" p_least_square sp_least_square := D.cal fun f fd F => by
  refine F.ok sc_least_square (fun vs H Q E h => ?_) (fun cdv A outer s H vs Q E hr h => ?_)
  · obtain ⟨a, rfl, _⟩ := h
    rfl
  obtain ⟨n, rfl, h0, hb, q⟩ := h
  refine ⟨_, pss_cons (ps_if (pt_cmpR op_lt (pv 0) pe_int (nomark _)) (pss_one (ps_ret (pv 0))) pss_nil)
    <| pss_cons (ps_set (i := 1) sc_least_square.nd rfl (.inl rfl) (pv 0))
    <| pss_cons (ps_set (i := 2) sc_least_square.nd rfl (.inl rfl) (pe_op op_fdiv (pe_op op_add (pv 1) (pe_op op_fdivW (pv 0) (pv 1))) pe_int))
    <| pss_cons (ps_while PassesOwn.never (pt_cmpR op_lt (pv 2) (pv 1) (nomark _)) (pss_cons (ps_set (i := 1) sc_least_square.nd rfl (.inl rfl) (pv 2))
      (pss_one (ps_set (i := 2) sc_least_square.nd rfl (.inl rfl) (pe_op op_fdiv (pe_op op_add (pv 1) (pe_op op_fdivW (pv 0) (pv 1))) pe_int)))))
    <| pss_one (ps_ret (pv 1)), ?_⟩
  refine ⟨_, rfl, _, _, rfl, rfl, _, rfl, ite2 (fun c => ?_) (fun c => ?_)⟩
  · have c' : n < 2 := of_decide_eq_true c
    have e : rt n = n := by
      rcases (show n = 0 ∨ n = 1 by omega) with rfl | rfl <;> exact rt_unique (by decide) (by decide) (by decide)
    rw [e] at q
    exact ⟨_, rfl, q⟩
  have c' : ¬ n < 2 := of_decide_eq_false (Bool.eq_false_iff.mpr c)
  have hdv : ∀ f : Int, 1 ≤ f → f ≤ n → 0 < f ∧ f.natAbs.log2 < 9000 := fun f h1 h2 => ⟨by omega, Nat.lt_trans (big_le (x := f) (by omega) hb).log (by decide)⟩
  have st : ∀ f : Int, 1 ≤ f → (f + n / f) / 2 ≤ (f + n / f) / 2 := fun f _ => Int.le_refl _
  refine ⟨_, rfl, _, rfl, _, rfl, _, rfl, _, _, rfl, rfl, hdv n (by omega) (by omega), _, _, rfl, rfl, _, _, rfl, rfl, ⟨by decide, by decide⟩, ?_⟩
  refine ⟨fun m σ H' => ∃ f : Int, σ = [some (.int n), some (.int f), some (.int ((f + n / f) / 2))] ∧ 1 ≤ f ∧ f ≤ n ∧ n < (f + 1) * (f + 1) ∧ H' = H ∧ m = f.toNat, ⟨_, n, rfl, by omega, by omega, ?_, rfl, rfl⟩, ?_⟩
  · have : (n + 1) * (n + 1) = n * n + 2 * n + 1 := by grind
    have := sqn n
    omega
  rintro m σ H' ⟨f, rfl, h1, h2, h3, rfl, rfl⟩
  obtain ⟨k1, k2, k3⟩ := newton (n := n) (by omega) h1
  refine ⟨_, rfl, _, rfl, _, _, rfl, rfl, _, rfl, ite2 (fun c => ?_) (fun c => ?_)⟩
  · have c2 : (f + n / f) / 2 < f := of_decide_eq_true c
    refine ⟨fun σ' H2 => σ' = [some (.int n), some (.int ((f + n / f) / 2)), some (.int (((f + n / f) / 2 + n / ((f + n / f) / 2)) / 2))] ∧ H2 = H', fun σ' H2 ⟨e1, e2⟩ => ⟨_, ?_, _, e1, k1, ?_, k2, e2, rfl⟩, ?_⟩
    · omega
    · omega
    · exact ⟨_, rfl, _, rfl, _, rfl, _, rfl, _, _, rfl, rfl, hdv _ k1 (by omega), _, _, rfl, rfl, _, _, rfl, rfl, ⟨by decide, by decide⟩, rfl, rfl⟩
  · have c2 : ¬ (f + n / f) / 2 < f := of_decide_eq_false (Bool.eq_false_iff.mpr c)
    have e : rt n = f := rt_unique (by omega) (k3 (by omega)) h3
    rw [e] at q
    exact ⟨_, rfl, q⟩
end
section
variable {P : Program} {w : World} {K : PySem.W.Frag} {mg : Str → Option Value} {base : Heap}
theorem ok__law_divisor (D : Df K mg "_law_divisor" p__law_divisor s__law_divisor) (B : Bl mg) : Cal P w K mg base CX0 1 "_law_divisor" p__law_divisor sp_divisor := D.cal fun f fd F => by
  refine F.ok sc__law_divisor (fun vs H Q E h => ?_) (fun cdv A outer s H vs Q E hr h => ?_)
  · obtain ⟨a, b, rfl, _⟩ := h
    rfl
  obtain ⟨a, b, rfl, q⟩ := h
  refine ⟨_, pss_cons (ps_set (i := 0) sc__law_divisor.nd rfl (.inl rfl) (pe_callB call_abs (by rfl) B.abs (by decide +kernel) (pa_cons (pv 0) pa_nil)))
    (pss_cons (ps_set (i := 1) sc__law_divisor.nd rfl (.inl rfl) (pe_callB call_abs (by rfl) B.abs (by decide +kernel) (pa_cons (pv 1) pa_nil)))
    (pss_cons (ps_while PassesOwn.never (pt_cmpR op_gt (pv 1) pe_int (nomark _)) (pss_one (ps_par (i := 0) (j := 1) (by rfl) sc__law_divisor.nd rfl rfl (by decide) rfl rfl (pa_cons (pv 1) (pa_cons (pe_op op_mod (pv 0) (pv 1)) pa_nil)) (by rfl))))
    (pss_one (ps_ret (pv 0))))), ?_⟩
  refine ⟨_, rfl, a, rfl, _, rfl, b, rfl, ?_⟩
  refine ⟨fun m σ H' => ∃ x y : Int, σ = [some (.int x), some (.int y)] ∧ 0 ≤ x ∧ 0 ≤ y ∧ Int.gcd x y = Int.gcd a b ∧ H' = H ∧ m = y.toNat, ⟨_, _, _, rfl, by split <;> omega, by split <;> omega, gcd_abs a b, rfl, rfl⟩, ?_⟩
  rintro m σ H' ⟨x, y, rfl, hx, hy, hg, rfl, rfl⟩
  refine ⟨_, rfl, _, _, rfl, rfl, _, rfl, ite2 (fun c => ?_) (fun c => ?_)⟩
  · have c' : 0 < y := of_decide_eq_true c
    have h1 := Int.emod_nonneg x (show y ≠ 0 by omega)
    have h2 := Int.emod_lt_of_pos x c'
    refine ⟨fun σ' H2 => σ' = [some (.int y), some (.int (x % y))] ∧ H2 = H', fun σ' H2 ⟨e1, e2⟩ => ⟨(x % y).toNat, by omega, y, x % y, e1, hy, h1, by rw [gcd_step hx c', hg], e2, rfl⟩, ?_⟩
    exact ⟨_, rfl, _, rfl, _, rfl, _, _, rfl, rfl, c', _, _, rfl, rfl, rfl⟩
  · have c' : ¬ 0 < y := of_decide_eq_false (Bool.eq_false_iff.mpr c)
    refine ⟨_, rfl, ?_⟩
    have e : x = dv a b := by
      rw [gcd_end hx c' hy, hg]
      rfl
    rw [e]
    exact q
end
section
variable {P : Program} {w : World} {K : PySem.W.Frag} {mg : Str → Option Value} {base : Heap}
theorem ok__law_lowest (D : Df K mg "_law_lowest" p__law_lowest s__law_lowest) (C_div : Cal P w K mg base CX0 1 "_law_divisor" p__law_divisor sp_divisor) : Cal P w K mg base CX0 2 "_law_lowest" p__law_lowest sp_lowH := D.cal fun f fd F => by
  refine F.ok sc__law_lowest (fun vs H Q E h => ?_) (fun cdv A outer s H vs Q E hr h => ?_)
  · obtain ⟨a, b, rfl, _⟩ := h
    rfl
  obtain ⟨u, l, rfl, h0, hu, hl, q⟩ := h
  refine ⟨_, pss_cons (ps_set (i := 2) sc__law_lowest.nd rfl (.inl rfl) (pe_cal C_div hr (by decide) (by rfl) pass0 (pa_cons (pv 0) (pa_cons (pv 1) pa_nil))))
    (pss_cons (ps_if (pt_cmpR op_lt (pv 1) pe_int (nomark _)) (pss_one (ps_set (i := 2) sc__law_lowest.nd rfl (.inl rfl) (pe_op op_sub pe_int (pv 2)))) pss_nil)
    (pss_one (ps_ret (pe_tup (pa_cons (pe_op op_fdivWN (pv 0) (pv 2)) (pa_cons (pe_op op_fdivWN (pv 1) (pv 2)) pa_nil)))))), ?_⟩
  have hg := dv_pos_right (a := u) h0
  have hb : dv u l ≠ 0 ∧ (dv u l).natAbs.log2 < 9000 := by
    refine ⟨by omega, Nat.lt_of_lt_of_le (PySem.Flt.log2_lt_of (by decide) (Nat.lt_of_le_of_lt ?_ hl.lt)) (by decide : 4000 ≤ 9000)⟩
    obtain ⟨k, hk⟩ := dv_dvd_right u l
    conv => rhs; rw [hk]
    rw [Int.natAbs_mul]
    refine Nat.le_mul_of_pos_right _ ?_
    have : k ≠ 0 := fun z => by
      rw [z, Int.mul_zero] at hk
      exact h0 hk
    omega
  refine ⟨_, rfl, _, rfl, u, l, rfl, _, rfl, _, _, rfl, rfl, _, rfl, ite2 (fun c => ?_) (fun c => ?_)⟩
  · have c' : l < 0 := of_decide_eq_true c
    have e0 : (0 : Int) - dv u l = -dv u l := by omega
    have hb' : (0 - dv u l) ≠ 0 ∧ (0 - dv u l).natAbs.log2 < 9000 := by
      rw [e0, Int.natAbs_neg]
      exact ⟨by omega, hb.2⟩
    refine ⟨_, rfl, _, _, rfl, rfl, _, rfl, _, rfl, _, _, rfl, rfl, hb', _, rfl, _, rfl, _, _, rfl, rfl, hb', len2, fun p np => ?_⟩
    have := q p np
    unfold low at this
    rw [if_pos c', neg_ediv_dvd (dv_dvd_left u l), neg_ediv_dvd (dv_dvd_right u l), ← fdiv_neg_dvd (dv_dvd_left u l) hb.1, ← fdiv_neg_dvd (dv_dvd_right u l) hb.1, ← e0] at this
    exact this
  · have c' : ¬ l < 0 := of_decide_eq_false (Bool.eq_false_iff.mpr c)
    refine ⟨_, rfl, _, rfl, _, _, rfl, rfl, hb, _, rfl, _, rfl, _, _, rfl, rfl, hb, len2, fun p np => ?_⟩
    have := q p np
    unfold low at this
    rw [if_neg c', ← Int.fdiv_eq_ediv_of_nonneg u (by omega), ← Int.fdiv_eq_ediv_of_nonneg l (by omega)] at this
    exact this
end
section
variable {P : Program} {w : World} {K : PySem.W.Frag} {mg : Str → Option Value} {base : Heap}
theorem ok__law_cell (D : Df K mg "_law_cell" p__law_cell s__law_cell) (B : Bl mg) : Cal P w K mg base CX0 1 "_law_cell" p__law_cell (sp_cell K) := D.cal fun f fd F => by
  refine F.ok sc__law_cell (fun vs H Q E h => ?_) (fun cdv A outer s H vs Q E hr h => ?_)
  · obtain ⟨a, ns, k, rfl, _⟩ := h
    rfl
  obtain ⟨a, ns, k, rfl, hS, hk, q⟩ := h
  refine ⟨_, pss_cons (ps_if (pt_cmpR op_lt (pv 1) (pe_callB call_len_seq (by rfl) B.len PySem.boot_len (pa_cons (pv 0) pa_nil)) (nomark _)) (pss_one (ps_ret (pe_ix ix_list (pv 0) (pv 1) (fun _ _ => rfl)))) pss_nil)
    (pss_one (ps_ret pe_int)), ?_⟩
  refine ⟨_, rfl, _, rfl, a, _, rfl, .inl hS, _, _, rfl, rfl, _, rfl, ite2 (fun c => ?_) (fun c => ?_)⟩
  · have c' : (k : Int) < (((ns.map V.int).length : Nat) : Int) := of_decide_eq_true c
    rw [List.length_map] at c'
    have hl : k < ns.length := by omega
    refine ⟨_, rfl, _, rfl, a, _, _, _, rfl, rfl, hS, atI_nat (j := k) (v := .int (cellOf ns k)) ?_, q⟩
    rw [List.getElem?_map, List.getElem?_eq_getElem hl]
    show some (V.int ns[k]) = some (V.int (ns.getD k 0))
    rw [List.getD_eq_getElem?_getD, List.getElem?_eq_getElem hl]
    rfl
  · have c' : ¬ (k : Int) < (((ns.map V.int).length : Nat) : Int) := of_decide_eq_false (Bool.eq_false_iff.mpr c)
    rw [List.length_map] at c'
    have e : cellOf ns k = 0 := by
      unfold cellOf
      rw [List.getD_eq_getElem?_getD, List.getElem?_eq_none (by omega)]
      rfl
    rw [e] at q
    exact q
end
section
variable {P : Program} {w : World} {K : PySem.W.Frag} {mg : Str → Option Value} {base : Heap}
theorem ok__law_whole (D : Df K mg "_law_whole" p__law_whole s__law_whole) (B : Bl mg) : Cal P w K mg base CX0 1 "_law_whole" p__law_whole sp_whole := D.cal fun f fd F => by
  refine F.ok sc__law_whole (fun vs H Q E h => ?_) (fun cdv A outer s H vs Q E hr h => ?_)
  · obtain ⟨z, rfl, _⟩ := h
    rfl
  obtain ⟨z, rfl, q⟩ := h
  refine ⟨_, pss_one (ps_ret (pe_and (pe_callB call_isi (by rfl) B.isinstance PyProof.Rows.boot_isinstance (pa_cons (pv 0) (pa_cons (pe_bltn (v := .ty "int") (by rfl) B.int (by decide +kernel) rfl) pa_nil)))
    (pe_one (pe_not (pe_callB call_isi (by rfl) B.isinstance PyProof.Rows.boot_isinstance (pa_cons (pv 0) (pa_cons (pe_bltn (v := .ty "bool") (by rfl) B.bool (by decide +kernel) rfl) pa_nil))))))), ?_⟩
  refine ⟨_, rfl, .int z, .ty "int", _, _, true, rfl, .ty "int", .base (.int z), isT_self, true, rfl, iteT ?_⟩
  exact ⟨_, rfl, .int z, .ty "bool", _, _, false, rfl, .ty "bool", .base (.int z), kit_ty (by decide +kernel), false, rfl, q⟩
end
/-! ### the law: fractions -/
def sp_refused : Sp := fun vs H Q _ => ∃ u : Int, vs = [.int u] ∧ Big u ∧ ∀ H', Same H H' → Q (.bl true) H'
section
variable {P : Program} {w : World} {K : PySem.W.Frag} {mg : Str → Option Value} {base : Heap} {C R : Addr}
theorem ok_refused (D : Df K mg "_law_refused" p__law_refused s__law_refused) (N : NoN K mg C R) (C1 : Cal P w K mg base (L2.CX P w) 2 "lowest" p_lowest (sp_lowest C)) :
    Cal P w K mg base CX0 3 "_law_refused" p__law_refused sp_refused := D.cal fun f fd F => by
  refine F.ok sc__law_refused (fun vs H Q E h => ?_) (fun cdv A outer s H vs Q E hr h => ?_)
  · obtain ⟨wy, rfl, hw, q⟩ := h
    rfl
  obtain ⟨u, rfl, hu, q⟩ := h
  refine ⟨_, pss_cons (ps_set (i := 1) sc__law_refused.nd rfl (.inl rfl) pe_bl)
    <| pss_cons (ps_try_as (i := 2) (Wout := fun _ _ _ _ => False) rfl rfl sc__law_refused.nd rfl rfl ⟨rfl, by decide, .inl N.gR⟩ takes0
      (fun W pn xe tk _ => pss_one (ps_expr (pe_calS C1 hr (by decide) (by rfl) (fun σ => passAt tk σ) (pa_cons (pv 0) (pa_cons pe_int pa_nil)))))
      (fun a oe cls d pn hz hf => pss_one (ps_set (i := 1) sc__law_refused.nd rfl (.inl rfl) (pe_and (pe_isE N.ec hz hf (by rfl) N.mI (by decide +kernel) (pa_cons (pv 2) (pa_cons (pe_glob (v := .ref C) (by rfl) N.g rfl) pa_nil)))
        (pe_one (pe_isE N.ec hz hf (by rfl) N.mI (by decide +kernel) (pa_cons (pv 2) (pa_cons (pe_bltn (v := .ty "ValueError") (by rfl) N.mV (by decide +kernel) rfl) pa_nil))))))))
    <| pss_one (ps_ret (pv 1)), ?_⟩
  refine ⟨_, rfl, u, 0, rfl, hu, big_of (by decide), fun _ => ⟨true, N.ex, fun _ a ha => ?_, fun z => nomatch z⟩, fun z => absurd rfl z⟩
  refine ⟨rfl, rfl, _, rfl, .ref C, .ref C, true, rfl, fun u r => relV_ref r, N.iC, true, rfl, iteT ?_⟩
  refine ⟨rfl, rfl, _, rfl, .ty "ValueError", .type "ValueError", true, rfl, fun u r => relV_ty r, N.iV, ?_⟩
  exact ⟨_, rfl, q _ (Same.refl _)⟩
theorem ok_law {f : Addr} {fd : FuncData} (F : Fun K "law" "law" s_law f fd) (B : Bl mg) (Cc : Cal P w K mg base CX0 1 "_law_cell" p__law_cell (sp_cell K)) (Cr : Cal P w K mg base CX0 3 "_law_refused" p__law_refused sp_refused)
    (Co : Cal P w K mg base (L2.CX P w) 2 "lowest" p_lowest (sp_lowest C)) (Cl : Cal P w K mg base CX0 2 "_law_lowest" p__law_lowest sp_lowH) (Ci : Cal P w K mg base CX0 2 "is_fraction" p_is_fraction (sp_is_fraction K))
    (Cs : Cal P w K mg base CX0 1 "least_square" p_least_square sp_least_square) (Cw : Cal P w K mg base CX0 1 "_law_whole" p__law_whole sp_whole) : FnOk P w K mg base CX0 40 f fd ["_law_script"] (sp_law K) := by
  refine F.ok sc_law (fun vs H Q E h => ?_) (fun cdv A outer s H vs Q E hr h => ?_)
  · obtain ⟨a, ns, rfl, _⟩ := h
    rfl
  obtain ⟨a, ns, rfl, hS, h63, q⟩ := h
  refine ⟨_, pss_cons (ps_set (i := 1) sc_law.nd rfl (.inl rfl) (pe_op op_sub (pe_op op_mod (pe_cal Cc hr (by decide) (by rfl) pass0 (pa_cons (pv 0) (pa_cons pe_int pa_nil))) pe_int) pe_int))
    <| pss_cons (ps_set (i := 2) sc_law.nd rfl (.inl rfl) (pe_op op_sub (pe_op op_mod (pe_cal Cc hr (by decide) (by rfl) pass0 (pa_cons (pv 0) (pa_cons pe_int pa_nil))) pe_int) pe_int))
    <| pss_mid (ps_if (pt_cmpR op_eq (pe_op op_mod (pe_cal Cc hr (by decide) (by rfl) pass0 (pa_cons (pv 0) (pa_cons pe_int pa_nil))) pe_int) pe_int (nomark _))
        (pss_cons (ps_set (i := 1) sc_law.nd rfl (.inl rfl) (pe_op op_mod (pe_cal Cc hr (by decide) (by rfl) pass0 (pa_cons (pv 0) (pa_cons pe_int pa_nil))) (pe_op op_pow pe_int pe_int)))
        <| pss_one (ps_set (i := 2) sc_law.nd rfl (.inl rfl) (pe_op op_add (pe_op op_mul (pv 2) (pe_op op_pow pe_int pe_int)) pe_int))) pss_nil)
    <| pss_cons (ps_if (pt_not (pt_val (pe_cal Cr hr (by decide) (by rfl) pass0 (pa_cons (pv 1) pa_nil)))) (pss_one (ps_ret pe_bl)) pss_nil)
    <| pss_mid (ps_if (pt_cmpR op_ne (pv 2) pe_int (nomark _))
        (pss_cons (ps_set (i := 3) sc_law.nd rfl (.inl rfl) (pe_cal Co hr (by decide) (by rfl) passL (pa_cons (pv 1) (pa_cons (pv 2) pa_nil))))
        <| pss_cons (ps_if (PW.pt (pw_or (pt_not (pt_val (pe_callB call_isi (by rfl) B.isinstance PyProof.Rows.boot_isinstance (pa_cons (pv 3) (pa_cons (pe_bltn (v := .ty "tuple") (by rfl) B.tuple (by decide +kernel) rfl) pa_nil)))))
            (pw_or (pt_cmpR (op_neT hr) (pv 3) (pe_cal Cl hr (by decide) (by rfl) pass0 (pa_cons (pv 1) (pa_cons (pv 2) pa_nil))) (nomark _))
            (pw_or1 (pt_cmpR op_notBl (pe_cal Ci hr (by decide) (by rfl) pass0 (pa_cons (pv 3) pa_nil)) pe_bl (nomark _))))))
            (pss_one (ps_ret pe_bl)) pss_nil)
        <| pss_cons (ps_if (pt_not (pt_val (pe_callB (cr_all rfl) (by rfl) B.all (by decide +kernel) (pa_cons
            (pe_lc (own := [("_law_one", 8)]) (g := gName 8) (tt := tYes) rfl sc_law.nd (pi_tup (pv 3)) (blkOk_by (N := n_law) (sc := defScope s_law) (by decide +kernel))
              (fun _ _ _ _ _ => pg_name (i := 8) sc_law.nd rfl (Or.inl rfl)) (fun _ _ _ _ _ => pts_nil) (fun _ _ _ _ _ => pe_cal Cw hr (by decide) (by rfl) pass0 (pa_cons (pv 8) pa_nil))) pa_nil))))
            (pss_one (ps_ret pe_bl)) pss_nil)
        <| pss_cons (ps_set (i := 4) sc_law.nd rfl (.inl rfl) (pe_op op_add pe_int (pe_op op_mod (pe_cal Cc hr (by decide) (by rfl) pass0 (pa_cons (pv 0) (pa_cons pe_int pa_nil))) pe_int)))
        <| pss_cons (ps_set (i := 5) sc_law.nd rfl (.inl rfl) (pe_lst (pa_cons (pe_tup (pa_cons (pe_op op_mul (pe_ix ix_tup (pv 3) pe_int (fun _ _ => rfl)) (pv 4)) (pa_cons (pe_op op_mul (pe_ix ix_tup (pv 3) pe_int (fun _ _ => rfl)) (pv 4)) pa_nil)))
            (pa_cons (pe_tup (pa_cons (pe_ix ix_tup (pv 3) pe_int (fun _ _ => rfl)) (pa_cons (pe_op op_sub pe_int (pe_ix ix_tup (pv 3) pe_int (fun _ _ => rfl))) pa_nil)))
            (pa_cons (pe_tup (pa_cons (pe_ix ix_tup (pv 3) pe_int (fun _ _ => rfl)) (pa_cons pe_int pa_nil)))
            (pa_cons (pe_callTy call_list_of (by rfl) B.list (by decide +kernel) (pa_cons (pv 3) pa_nil)) (pa_cons pe_non pa_nil)))))))
        <| pss_cons (ps_expr (pe_bm PySem.F.plainAttrs_list PySem.F.slot_list_append PySem.F.type_list_append mt_append (pv 5) (pa_cons (pe_op op_catT (pv 3) (pe_tup (pa_cons pe_int pa_nil))) pa_nil)))
        <| pss_cons (ps_set (i := 5) sc_law.nd rfl (.inl rfl) (pe_op op_cat (pv 5) (pe_lst (pa_cons (pe_tup (pa_cons (pe_ix ix_tup (pv 3) pe_int (fun _ _ => rfl)) pa_nil))
            (pa_cons (pe_tup (pa_cons pe_bl (pa_cons pe_int pa_nil))) (pa_cons (pe_tup (pa_cons pe_int (pa_cons pe_bl pa_nil))) (pa_cons (pe_tup (pa_cons pe_str (pa_cons pe_int pa_nil)))
            (pa_cons pe_int (pa_cons (pe_tup (pa_cons pe_int (pa_cons pe_int pa_nil))) pa_nil)))))))))
        <| pss_one (ps_if (pt_cmpR op_notBl (pe_cal Ci hr (by decide) (by rfl) pass0 (pa_cons (pe_ix ix_list (pv 5) (pe_op op_mod (pe_cal Cc hr (by decide) (by rfl) pass0 (pa_cons (pv 0) (pa_cons pe_int pa_nil))) pe_int) (fun _ _ => rfl)) pa_nil)) pe_bl (nomark _)) (pss_one (ps_ret pe_bl)) pss_nil)) pss_nil)
    <| pss_cons (ps_set (i := 6) sc_law.nd rfl (.inl rfl) (pe_op op_mod (pe_cal Cc hr (by decide) (by rfl) pass0 (pa_cons (pv 0) (pa_cons pe_int pa_nil))) (pe_ix ix_list (pe_lst (pa_cons (pe_op op_pow pe_int pe_int) (pa_cons (pe_op op_pow pe_int pe_int) (pa_cons (pe_op op_pow pe_int pe_int) pa_nil))))
        (pe_op op_mod (pe_cal Cc hr (by decide) (by rfl) pass0 (pa_cons (pv 0) (pa_cons pe_int pa_nil))) pe_int) (fun _ _ => rfl))))
    <| pss_cons (ps_set (i := 7) sc_law.nd rfl (.inl rfl) (pe_cal Cs hr (by decide) (by rfl) pass0 (pa_cons (pv 6) pa_nil)))
    <| pss_one (ps_ret (pe_and (pe_cal Cw hr (by decide) (by rfl) pass0 (pa_cons (pv 7) pa_nil)) (pe_one (pe_chain op_le op_lt (pe_op op_mulW (pv 7) (pv 7)) (pv 6) (pe_op op_mulW (pe_op op_add (pv 7) pe_int) (pe_op op_add (pv 7) pe_int)))))), ?_⟩
  have e30 : (10 : Int) ^ (30 : Int).toNat = 1000000000000000000000000000000 := by decide
  have e20 : (10 : Int) ^ (20 : Int).toNat = 100000000000000000000 := by decide
  have e100 : (2 : Nat) ^ 100 = 1267650600228229401496703205376 := by decide
  have big100 : ∀ x : Int, x.natAbs < 2 ^ 100 → Big x := fun x hx => ⟨Nat.lt_of_lt_of_le hx (Nat.pow_le_pow_right (by decide) (by decide))⟩
  have a0 := Int.emod_nonneg (cellOf ns 0) (show (2001 : Int) ≠ 0 by decide)
  have a1 := Int.emod_lt_of_pos (cellOf ns 0) (show (0 : Int) < 2001 by decide)
  have b0 := Int.emod_nonneg (cellOf ns 1) (show (2001 : Int) ≠ 0 by decide)
  have b1 := Int.emod_lt_of_pos (cellOf ns 1) (show (0 : Int) < 2001 by decide)
  refine ⟨_, rfl, a, ns, 0, rfl, hS, by decide, _, _, rfl, rfl, (by show (0 : Int) < 2001; decide), _, _, rfl, rfl, ?_⟩
  refine ⟨_, rfl, a, ns, 1, rfl, hS, by decide, _, _, rfl, rfl, (by show (0 : Int) < 2001; decide), _, _, rfl, rfl, ?_⟩
  refine ⟨fun σ H' => H' = H ∧ ∃ u l : Int, σ = [some (.ref a), some (.int u), some (.int l), none, none, none, none, none, none] ∧ u.natAbs < 2 ^ 100 ∧ l.natAbs < 2 ^ 100, ?_, ?_⟩
  · refine ⟨_, rfl, a, ns, 2, rfl, hS, by decide, _, _, rfl, rfl, (by show (0 : Int) < 4; decide), rfl, _, rfl, ite2 (fun c => ?_) (fun c => ?_)⟩
    · have m0 := Int.emod_nonneg (cellOf ns 0) (show (1000000000000000000000000000000 : Int) ≠ 0 by decide)
      have m1 := Int.emod_lt_of_pos (cellOf ns 0) (show (0 : Int) < 1000000000000000000000000000000 by decide)
      refine ⟨_, rfl, a, ns, 0, rfl, hS, by decide, 10, 30, rfl, rfl, ⟨by decide, by decide, by decide⟩, _, _, rfl, rfl, (by show (0 : Int) < 10 ^ (30 : Int).toNat; rw [e30]; decide), ?_⟩
      refine ⟨_, rfl, 10, 20, rfl, rfl, ⟨by decide, by decide, by decide⟩, _, _, rfl, rfl, .inl ⟨?_, ?_⟩, _, _, rfl, rfl, rfl, _, _, rfl, ?_, ?_⟩
      · omega
      · omega
      · rw [e30]
        omega
      · rw [e20]
        omega
    · exact ⟨rfl, _, _, rfl, by omega, by omega⟩
  rintro σ H' ⟨rfl, u, l, rfl, hu, hl⟩
  refine ⟨_, rfl, u, rfl, big100 _ hu, fun H1 s1 => ⟨true, rfl, iteF ?_⟩⟩
  refine ⟨fun σ H2 => ∃ y3 y4 y5, σ = [some (.ref a), some (.int u), some (.int l), y3, y4, y5, none, none, none] ∧ Same H' H2, ?_, ?_⟩
  · refine ⟨_, rfl, rfl, _, rfl, ite2 (fun c => ?_) (fun c => ⟨_, _, _, rfl, s1⟩)⟩
    have h0 : l ≠ 0 := fun z => by
      subst z
      cases c
    have hlow := low_is (u := u) h0
    have habs := low_abs (u := u) h0
    refine ⟨_, rfl, _, rfl, u, l, rfl, big100 _ hu, big100 _ hl, fun z => absurd z h0, fun _ fo nfo => ?_⟩
    have hself := low_self hlow.pos hlow.one
    generalize hp : (low u l).1 = p at *
    generalize hq : (low u l).2 = q' at *
    have s3 : Same H' (upd H1 fo (tI [p, q'])) := same_updO s1 (s1.free nfo)
    have efo : (upd H1 fo (tI [p, q'])) fo = some (tI [p, q']) := upd_same
    generalize upd H1 fo (tI [p, q']) = H3 at *
    refine ⟨_, rfl, .ref fo, .ty "tuple", _, _, true, rfl, .ty "tuple", isT_tup efo, isT_self, true, rfl, iteF ?_⟩
    refine ⟨_, rfl, _, rfl, _, rfl, u, l, rfl, h0, big100 _ hu, big100 _ hl, fun f2 nf2 => ?_⟩
    rw [hp, hq]
    have efo4 := same_upd nf2 (o := tI [p, q']) _ _ efo
    have s4 : Same H' (upd H3 f2 (tI [p, q'])) := same_updO s3 (s3.free nf2)
    refine ⟨fo, f2, _, _, rfl, rfl, SqT.of efo4, SqT.of upd_same, false, congrArg V.bl (by simp), iteF ?_⟩
    refine ⟨_, rfl, .ref fo, rfl, .inr ⟨fo, p, q', rfl, efo4, by have := hlow.pos; omega, hlow.one, _, _, rfl, rfl, false, rfl, iteF ?_⟩⟩
    generalize upd H3 f2 (tI [p, q']) = H4 at *
    refine ⟨_, rfl, fo, rfl, ⟨_, SqT.of efo4⟩, lc_mapT (xs := [V.int p, V.int q']) (ys := [V.bl true, V.bl true]) rfl (small_of (show 2 ≤ 10000000 by decide)) efo4 (fun x => rfl) (fun i x y H5 Q5 hx hy sx q5 => ?_) (fun L H5 sx hL nL => ?_)⟩
    · match i, hx, hy with
      | 0, hx, hy =>
        cases hx
        cases hy
        exact ⟨_, rfl, p, rfl, q5 _ (Same.refl _)⟩
      | 1, hx, hy =>
        cases hx
        cases hy
        exact ⟨_, rfl, q', rfl, q5 _ (Same.refl _)⟩
    have s5 : Same H' H5 := s4.trans sx
    have efo5 := sx _ _ efo4
    refine ⟨L, [true, true], rfl, .of hL, true, rfl, iteF ?_⟩
    -- the bad ones
    have m3 := Int.emod_nonneg (cellOf ns 3) (show (9 : Int) ≠ 0 by decide)
    have m4 := Int.emod_lt_of_pos (cellOf ns 3) (show (0 : Int) < 9 by decide)
    refine ⟨_, rfl, a, ns, 3, rfl, s5.seq hS, by decide, _, _, rfl, rfl, (by show (0 : Int) < 9; decide), _, _, rfl, rfl, ?_⟩
    dsimp only
    generalize hmore : 2 + cellOf ns 3 % 9 = more
    have mm : -(2 ^ 64) < more ∧ more < 2 ^ 64 := by omega
    have n1 := fun (X : Hp) (e : X fo = some (tI [p, q'])) => (show atI [V.int p, V.int q'] 0 = some (.int p) from atI_nat (j := 0) rfl)
    have g0 : atI ([p, q'].map V.int) 0 = some (.int p) := atI_nat (j := 0) rfl
    have g1 : atI ([p, q'].map V.int) 1 = some (.int q') := atI_nat (j := 1) rfl
    refine ⟨_, rfl, fo, _, 0, .int p, rfl, rfl, SqT.of efo5, g0, _, rfl, _, _, rfl, rfl, .inr mm, _, rfl, fo, _, 1, .int q', rfl, rfl, SqT.of efo5, g1, _, rfl, _, _, rfl, rfl, .inr mm, len2, fun t1 nt1 => ?_⟩
    have s6 := same_updO (o := HO.tup [V.int (p * more), V.int (q' * more)]) s5 (s5.free nt1)
    have xa : (upd H5 t1 (HO.tup [V.int (p * more), V.int (q' * more)])) t1 = some (HO.tup [V.int (p * more), V.int (q' * more)]) := upd_same
    have f1 := same_upd nt1 (o := HO.tup [V.int (p * more), V.int (q' * more)]) _ _ efo5
    try dsimp only at *
    generalize upd H5 t1 (HO.tup [V.int (p * more), V.int (q' * more)]) = H6 at *
    refine ⟨_, rfl, fo, _, 0, .int p, rfl, rfl, SqT.of f1, g0, _, rfl, fo, _, 1, .int q', rfl, rfl, SqT.of f1, g1, _, _, rfl, rfl, len2, fun t2 nt2 => ?_⟩
    have s7 := same_updO (o := HO.tup [V.int p, V.int (0 - q')]) s6 (s6.free nt2)
    have xb : (upd H6 t2 (HO.tup [V.int p, V.int (0 - q')])) t2 = some (HO.tup [V.int p, V.int (0 - q')]) := upd_same
    have f2 := same_upd nt2 (o := HO.tup [V.int p, V.int (0 - q')]) _ _ f1
    have xa2 := same_upd nt2 (o := HO.tup [V.int p, V.int (0 - q')]) _ _ xa
    try dsimp only at *
    generalize upd H6 t2 (HO.tup [V.int p, V.int (0 - q')]) = H7 at *
    refine ⟨_, rfl, fo, _, 0, .int p, rfl, rfl, SqT.of f2, g0, len2, fun t3 nt3 => ?_⟩
    have s8 := same_updO (o := HO.tup [V.int p, V.int 0]) s7 (s7.free nt3)
    have xc : (upd H7 t3 (HO.tup [V.int p, V.int 0])) t3 = some (HO.tup [V.int p, V.int 0]) := upd_same
    have f3 := same_upd nt3 (o := HO.tup [V.int p, V.int 0]) _ _ f2
    have xa3 := same_upd nt3 (o := HO.tup [V.int p, V.int 0]) _ _ xa2
    have xb3 := same_upd nt3 (o := HO.tup [V.int p, V.int 0]) _ _ xb
    try dsimp only at *
    generalize upd H7 t3 (HO.tup [V.int p, V.int 0]) = H8 at *
    refine ⟨_, rfl, fo, _, rfl, .inr (SqT.of f3), fun t4 nt4 => ?_⟩
    have s9 := same_updO (o := HO.lst ([p, q'].map V.int)) s8 (s8.free nt4)
    have xd : (upd H8 t4 (HO.lst ([p, q'].map V.int))) t4 = some (HO.lst ([p, q'].map V.int)) := upd_same
    have f4 := same_upd nt4 (o := HO.lst ([p, q'].map V.int)) _ _ f3
    have xa4 := same_upd nt4 (o := HO.lst ([p, q'].map V.int)) _ _ xa3
    have xb4 := same_upd nt4 (o := HO.lst ([p, q'].map V.int)) _ _ xb3
    have xc4 := same_upd nt4 (o := HO.lst ([p, q'].map V.int)) _ _ xc
    try dsimp only at *
    generalize upd H8 t4 (HO.lst ([p, q'].map V.int)) = H9 at *
    refine ⟨small_le (show 5 ≤ 10000000 by decide), fun b1 nb1 => ?_⟩
    have s10 := same_updO (o := HO.lst [V.ref t1, V.ref t2, V.ref t3, V.ref t4, V.non]) s9 (s9.free nb1)
    have xe : (upd H9 b1 (HO.lst [V.ref t1, V.ref t2, V.ref t3, V.ref t4, V.non])) b1 = some (HO.lst [V.ref t1, V.ref t2, V.ref t3, V.ref t4, V.non]) := upd_same
    have f5 := same_upd nb1 (o := HO.lst [V.ref t1, V.ref t2, V.ref t3, V.ref t4, V.non]) _ _ f4
    have xa5 := same_upd nb1 (o := HO.lst [V.ref t1, V.ref t2, V.ref t3, V.ref t4, V.non]) _ _ xa4
    have xb5 := same_upd nb1 (o := HO.lst [V.ref t1, V.ref t2, V.ref t3, V.ref t4, V.non]) _ _ xb4
    have xc5 := same_upd nb1 (o := HO.lst [V.ref t1, V.ref t2, V.ref t3, V.ref t4, V.non]) _ _ xc4
    have xd5 := same_upd nb1 (o := HO.lst [V.ref t1, V.ref t2, V.ref t3, V.ref t4, V.non]) _ _ xd
    try dsimp only at *
    generalize upd H9 b1 (HO.lst [V.ref t1, V.ref t2, V.ref t3, V.ref t4, V.non]) = H10 at *
    -- append
    refine ⟨_, rfl, .inl ⟨rfl, _, SqL.of xe⟩, _, rfl, len1, fun t5 nt5 => ?_⟩
    have s11 := same_updO (o := HO.tup [V.int 1]) s10 (s10.free nt5)
    have xf : (upd H10 t5 (HO.tup [V.int 1])) t5 = some (HO.tup [V.int 1]) := upd_same
    have f6 := same_upd nt5 (o := HO.tup [V.int 1]) _ _ f5
    have xa6 := same_upd nt5 (o := HO.tup [V.int 1]) _ _ xa5
    have xb6 := same_upd nt5 (o := HO.tup [V.int 1]) _ _ xb5
    have xc6 := same_upd nt5 (o := HO.tup [V.int 1]) _ _ xc5
    have xd6 := same_upd nt5 (o := HO.tup [V.int 1]) _ _ xd5
    have xe6 := same_upd nt5 (o := HO.tup [V.int 1]) _ _ xe
    try dsimp only at *
    generalize upd H10 t5 (HO.tup [V.int 1]) = H11 at *
    refine ⟨fo, t5, _, _, rfl, rfl, SqT.of f6, SqT.of xf, fun z => (by cases z), small_le (show 3 ≤ 10000000 by decide), fun z => (by cases z), fun _ t6 nt6 => ?_⟩
    have s12 := same_updO (o := HO.tup ([p, q'].map V.int ++ [V.int 1])) s11 (s11.free nt6)
    have xg : (upd H11 t6 (HO.tup ([p, q'].map V.int ++ [V.int 1]))) t6 = some (HO.tup ([p, q'].map V.int ++ [V.int 1])) := upd_same
    have f7 := same_upd nt6 (o := HO.tup ([p, q'].map V.int ++ [V.int 1])) _ _ f6
    have xa7 := same_upd nt6 (o := HO.tup ([p, q'].map V.int ++ [V.int 1])) _ _ xa6
    have xb7 := same_upd nt6 (o := HO.tup ([p, q'].map V.int ++ [V.int 1])) _ _ xb6
    have xc7 := same_upd nt6 (o := HO.tup ([p, q'].map V.int ++ [V.int 1])) _ _ xc6
    have xd7 := same_upd nt6 (o := HO.tup ([p, q'].map V.int ++ [V.int 1])) _ _ xd6
    have xe7 := same_upd nt6 (o := HO.tup ([p, q'].map V.int ++ [V.int 1])) _ _ xe6
    try dsimp only at *
    generalize upd H11 t6 (HO.tup ([p, q'].map V.int ++ [V.int 1])) = H12 at *
    refine ⟨b1, _, _, rfl, rfl, xe7, small_of (show 5 ≤ 10000000 by decide), ?_⟩
    have ne1 : ∀ {x : Addr} {xs : List V}, H12 x = some (.tup xs) → x ≠ b1 := fun e z => by
      subst z
      rw [xe7] at e
      cases e
    have ne4 : t4 ≠ b1 := fun z => by
      subst z
      rw [xe7] at xd7
      cases xd7
    have s13 := same_updO (o := HO.lst [V.ref t1, V.ref t2, V.ref t3, V.ref t4, V.non, V.ref t6]) s12 (s9.free nb1)
    have f8 : (upd H12 b1 (HO.lst [V.ref t1, V.ref t2, V.ref t3, V.ref t4, V.non, V.ref t6])) fo = _ := (upd_ne (ne1 f7)).trans f7
    have xa8 : (upd H12 b1 (HO.lst [V.ref t1, V.ref t2, V.ref t3, V.ref t4, V.non, V.ref t6])) t1 = _ := (upd_ne (ne1 xa7)).trans xa7
    have xb8 : (upd H12 b1 (HO.lst [V.ref t1, V.ref t2, V.ref t3, V.ref t4, V.non, V.ref t6])) t2 = _ := (upd_ne (ne1 xb7)).trans xb7
    have xc8 : (upd H12 b1 (HO.lst [V.ref t1, V.ref t2, V.ref t3, V.ref t4, V.non, V.ref t6])) t3 = _ := (upd_ne (ne1 xc7)).trans xc7
    have xd8 : (upd H12 b1 (HO.lst [V.ref t1, V.ref t2, V.ref t3, V.ref t4, V.non, V.ref t6])) t4 = _ := (upd_ne ne4).trans xd7
    have xg8 : (upd H12 b1 (HO.lst [V.ref t1, V.ref t2, V.ref t3, V.ref t4, V.non, V.ref t6])) t6 = _ := (upd_ne (ne1 xg)).trans xg
    have xe8 : (upd H12 b1 (HO.lst [V.ref t1, V.ref t2, V.ref t3, V.ref t4, V.non, V.ref t6])) b1 = some (HO.lst [V.ref t1, V.ref t2, V.ref t3, V.ref t4, V.non, V.ref t6]) := upd_same
    try dsimp only [List.cons_append, List.nil_append] at *
    generalize upd H12 b1 (HO.lst [V.ref t1, V.ref t2, V.ref t3, V.ref t4, V.non, V.ref t6]) = H13 at *
    refine ⟨_, rfl, _, rfl, fo, _, 0, .int p, rfl, rfl, SqT.of f8, g0, len1, fun t7 nt7 => ?_⟩
    have s14 := same_updO (o := HO.tup [V.int p]) s13 (s13.free nt7)
    have xh : (upd H13 t7 (HO.tup [V.int p])) t7 = some (HO.tup [V.int p]) := upd_same
    have f9 := same_upd nt7 (o := HO.tup [V.int p]) _ _ f8
    have xa9 := same_upd nt7 (o := HO.tup [V.int p]) _ _ xa8
    have xb9 := same_upd nt7 (o := HO.tup [V.int p]) _ _ xb8
    have xc9 := same_upd nt7 (o := HO.tup [V.int p]) _ _ xc8
    have xd9 := same_upd nt7 (o := HO.tup [V.int p]) _ _ xd8
    have xg9 := same_upd nt7 (o := HO.tup [V.int p]) _ _ xg8
    have xe9 := same_upd nt7 (o := HO.tup [V.int p]) _ _ xe8
    try dsimp only at *
    generalize upd H13 t7 (HO.tup [V.int p]) = H14 at *
    refine ⟨len2, fun t8 nt8 => ?_⟩
    have s15 := same_updO (o := HO.tup [V.bl true, V.int 1]) s14 (s14.free nt8)
    have xi : (upd H14 t8 (HO.tup [V.bl true, V.int 1])) t8 = some (HO.tup [V.bl true, V.int 1]) := upd_same
    have f10 := same_upd nt8 (o := HO.tup [V.bl true, V.int 1]) _ _ f9
    have xa10 := same_upd nt8 (o := HO.tup [V.bl true, V.int 1]) _ _ xa9
    have xb10 := same_upd nt8 (o := HO.tup [V.bl true, V.int 1]) _ _ xb9
    have xc10 := same_upd nt8 (o := HO.tup [V.bl true, V.int 1]) _ _ xc9
    have xd10 := same_upd nt8 (o := HO.tup [V.bl true, V.int 1]) _ _ xd9
    have xg10 := same_upd nt8 (o := HO.tup [V.bl true, V.int 1]) _ _ xg9
    have xe10 := same_upd nt8 (o := HO.tup [V.bl true, V.int 1]) _ _ xe9
    have xh10 := same_upd nt8 (o := HO.tup [V.bl true, V.int 1]) _ _ xh
    try dsimp only at *
    generalize upd H14 t8 (HO.tup [V.bl true, V.int 1]) = H15 at *
    refine ⟨len2, fun t9 nt9 => ?_⟩
    have s16 := same_updO (o := HO.tup [V.int 1, V.bl true]) s15 (s15.free nt9)
    have xj : (upd H15 t9 (HO.tup [V.int 1, V.bl true])) t9 = some (HO.tup [V.int 1, V.bl true]) := upd_same
    have f11 := same_upd nt9 (o := HO.tup [V.int 1, V.bl true]) _ _ f10
    have xa11 := same_upd nt9 (o := HO.tup [V.int 1, V.bl true]) _ _ xa10
    have xb11 := same_upd nt9 (o := HO.tup [V.int 1, V.bl true]) _ _ xb10
    have xc11 := same_upd nt9 (o := HO.tup [V.int 1, V.bl true]) _ _ xc10
    have xd11 := same_upd nt9 (o := HO.tup [V.int 1, V.bl true]) _ _ xd10
    have xg11 := same_upd nt9 (o := HO.tup [V.int 1, V.bl true]) _ _ xg10
    have xe11 := same_upd nt9 (o := HO.tup [V.int 1, V.bl true]) _ _ xe10
    have xh11 := same_upd nt9 (o := HO.tup [V.int 1, V.bl true]) _ _ xh10
    have xi11 := same_upd nt9 (o := HO.tup [V.int 1, V.bl true]) _ _ xi
    try dsimp only at *
    generalize upd H15 t9 (HO.tup [V.int 1, V.bl true]) = H16 at *
    refine ⟨len2, fun t10 nt10 => ?_⟩
    have s17 := same_updO (o := HO.tup [V.str "1", V.int 2]) s16 (s16.free nt10)
    have xk : (upd H16 t10 (HO.tup [V.str "1", V.int 2])) t10 = some (HO.tup [V.str "1", V.int 2]) := upd_same
    have f12 := same_upd nt10 (o := HO.tup [V.str "1", V.int 2]) _ _ f11
    have xa12 := same_upd nt10 (o := HO.tup [V.str "1", V.int 2]) _ _ xa11
    have xb12 := same_upd nt10 (o := HO.tup [V.str "1", V.int 2]) _ _ xb11
    have xc12 := same_upd nt10 (o := HO.tup [V.str "1", V.int 2]) _ _ xc11
    have xd12 := same_upd nt10 (o := HO.tup [V.str "1", V.int 2]) _ _ xd11
    have xg12 := same_upd nt10 (o := HO.tup [V.str "1", V.int 2]) _ _ xg11
    have xe12 := same_upd nt10 (o := HO.tup [V.str "1", V.int 2]) _ _ xe11
    have xh12 := same_upd nt10 (o := HO.tup [V.str "1", V.int 2]) _ _ xh11
    have xi12 := same_upd nt10 (o := HO.tup [V.str "1", V.int 2]) _ _ xi11
    have xj12 := same_upd nt10 (o := HO.tup [V.str "1", V.int 2]) _ _ xj
    try dsimp only at *
    generalize upd H16 t10 (HO.tup [V.str "1", V.int 2]) = H17 at *
    refine ⟨len2, fun t11 nt11 => ?_⟩
    have s18 := same_updO (o := HO.tup [V.int 0, V.int 2]) s17 (s17.free nt11)
    have xl : (upd H17 t11 (HO.tup [V.int 0, V.int 2])) t11 = some (HO.tup [V.int 0, V.int 2]) := upd_same
    have f13 := same_upd nt11 (o := HO.tup [V.int 0, V.int 2]) _ _ f12
    have xa13 := same_upd nt11 (o := HO.tup [V.int 0, V.int 2]) _ _ xa12
    have xb13 := same_upd nt11 (o := HO.tup [V.int 0, V.int 2]) _ _ xb12
    have xc13 := same_upd nt11 (o := HO.tup [V.int 0, V.int 2]) _ _ xc12
    have xd13 := same_upd nt11 (o := HO.tup [V.int 0, V.int 2]) _ _ xd12
    have xg13 := same_upd nt11 (o := HO.tup [V.int 0, V.int 2]) _ _ xg12
    have xe13 := same_upd nt11 (o := HO.tup [V.int 0, V.int 2]) _ _ xe12
    have xh13 := same_upd nt11 (o := HO.tup [V.int 0, V.int 2]) _ _ xh12
    have xi13 := same_upd nt11 (o := HO.tup [V.int 0, V.int 2]) _ _ xi12
    have xj13 := same_upd nt11 (o := HO.tup [V.int 0, V.int 2]) _ _ xj12
    have xk13 := same_upd nt11 (o := HO.tup [V.int 0, V.int 2]) _ _ xk
    try dsimp only at *
    generalize upd H17 t11 (HO.tup [V.int 0, V.int 2]) = H18 at *
    refine ⟨small_le (show 6 ≤ 10000000 by decide), fun b2 nb2 => ?_⟩
    have s19 := same_updO (o := HO.lst [V.ref t7, V.ref t8, V.ref t9, V.ref t10, V.int 7, V.ref t11]) s18 (s18.free nb2)
    have xm : (upd H18 b2 (HO.lst [V.ref t7, V.ref t8, V.ref t9, V.ref t10, V.int 7, V.ref t11])) b2 = some (HO.lst [V.ref t7, V.ref t8, V.ref t9, V.ref t10, V.int 7, V.ref t11]) := upd_same
    have f14 := same_upd nb2 (o := HO.lst [V.ref t7, V.ref t8, V.ref t9, V.ref t10, V.int 7, V.ref t11]) _ _ f13
    have xa14 := same_upd nb2 (o := HO.lst [V.ref t7, V.ref t8, V.ref t9, V.ref t10, V.int 7, V.ref t11]) _ _ xa13
    have xb14 := same_upd nb2 (o := HO.lst [V.ref t7, V.ref t8, V.ref t9, V.ref t10, V.int 7, V.ref t11]) _ _ xb13
    have xc14 := same_upd nb2 (o := HO.lst [V.ref t7, V.ref t8, V.ref t9, V.ref t10, V.int 7, V.ref t11]) _ _ xc13
    have xd14 := same_upd nb2 (o := HO.lst [V.ref t7, V.ref t8, V.ref t9, V.ref t10, V.int 7, V.ref t11]) _ _ xd13
    have xg14 := same_upd nb2 (o := HO.lst [V.ref t7, V.ref t8, V.ref t9, V.ref t10, V.int 7, V.ref t11]) _ _ xg13
    have xe14 := same_upd nb2 (o := HO.lst [V.ref t7, V.ref t8, V.ref t9, V.ref t10, V.int 7, V.ref t11]) _ _ xe13
    have xh14 := same_upd nb2 (o := HO.lst [V.ref t7, V.ref t8, V.ref t9, V.ref t10, V.int 7, V.ref t11]) _ _ xh13
    have xi14 := same_upd nb2 (o := HO.lst [V.ref t7, V.ref t8, V.ref t9, V.ref t10, V.int 7, V.ref t11]) _ _ xi13
    have xj14 := same_upd nb2 (o := HO.lst [V.ref t7, V.ref t8, V.ref t9, V.ref t10, V.int 7, V.ref t11]) _ _ xj13
    have xk14 := same_upd nb2 (o := HO.lst [V.ref t7, V.ref t8, V.ref t9, V.ref t10, V.int 7, V.ref t11]) _ _ xk13
    have xl14 := same_upd nb2 (o := HO.lst [V.ref t7, V.ref t8, V.ref t9, V.ref t10, V.int 7, V.ref t11]) _ _ xl
    try dsimp only at *
    generalize upd H18 b2 (HO.lst [V.ref t7, V.ref t8, V.ref t9, V.ref t10, V.int 7, V.ref t11]) = H19 at *
    refine ⟨b1, b2, _, _, rfl, rfl, xe14, xm, small_le (show 12 ≤ 10000000 by decide), fun b3 nb3 => ?_⟩
    have s20 := same_updO (o := HO.lst ([V.ref t1, V.ref t2, V.ref t3, V.ref t4, V.non, V.ref t6] ++ [V.ref t7, V.ref t8, V.ref t9, V.ref t10, V.int 7, V.ref t11])) s19 (s19.free nb3)
    have xn : (upd H19 b3 (HO.lst ([V.ref t1, V.ref t2, V.ref t3, V.ref t4, V.non, V.ref t6] ++ [V.ref t7, V.ref t8, V.ref t9, V.ref t10, V.int 7, V.ref t11]))) b3 = some (HO.lst ([V.ref t1, V.ref t2, V.ref t3, V.ref t4, V.non, V.ref t6] ++ [V.ref t7, V.ref t8, V.ref t9, V.ref t10, V.int 7, V.ref t11])) := upd_same
    have f15 := same_upd nb3 (o := HO.lst ([V.ref t1, V.ref t2, V.ref t3, V.ref t4, V.non, V.ref t6] ++ [V.ref t7, V.ref t8, V.ref t9, V.ref t10, V.int 7, V.ref t11])) _ _ f14
    have xa15 := same_upd nb3 (o := HO.lst ([V.ref t1, V.ref t2, V.ref t3, V.ref t4, V.non, V.ref t6] ++ [V.ref t7, V.ref t8, V.ref t9, V.ref t10, V.int 7, V.ref t11])) _ _ xa14
    have xb15 := same_upd nb3 (o := HO.lst ([V.ref t1, V.ref t2, V.ref t3, V.ref t4, V.non, V.ref t6] ++ [V.ref t7, V.ref t8, V.ref t9, V.ref t10, V.int 7, V.ref t11])) _ _ xb14
    have xc15 := same_upd nb3 (o := HO.lst ([V.ref t1, V.ref t2, V.ref t3, V.ref t4, V.non, V.ref t6] ++ [V.ref t7, V.ref t8, V.ref t9, V.ref t10, V.int 7, V.ref t11])) _ _ xc14
    have xd15 := same_upd nb3 (o := HO.lst ([V.ref t1, V.ref t2, V.ref t3, V.ref t4, V.non, V.ref t6] ++ [V.ref t7, V.ref t8, V.ref t9, V.ref t10, V.int 7, V.ref t11])) _ _ xd14
    have xg15 := same_upd nb3 (o := HO.lst ([V.ref t1, V.ref t2, V.ref t3, V.ref t4, V.non, V.ref t6] ++ [V.ref t7, V.ref t8, V.ref t9, V.ref t10, V.int 7, V.ref t11])) _ _ xg14
    have xe15 := same_upd nb3 (o := HO.lst ([V.ref t1, V.ref t2, V.ref t3, V.ref t4, V.non, V.ref t6] ++ [V.ref t7, V.ref t8, V.ref t9, V.ref t10, V.int 7, V.ref t11])) _ _ xe14
    have xh15 := same_upd nb3 (o := HO.lst ([V.ref t1, V.ref t2, V.ref t3, V.ref t4, V.non, V.ref t6] ++ [V.ref t7, V.ref t8, V.ref t9, V.ref t10, V.int 7, V.ref t11])) _ _ xh14
    have xi15 := same_upd nb3 (o := HO.lst ([V.ref t1, V.ref t2, V.ref t3, V.ref t4, V.non, V.ref t6] ++ [V.ref t7, V.ref t8, V.ref t9, V.ref t10, V.int 7, V.ref t11])) _ _ xi14
    have xj15 := same_upd nb3 (o := HO.lst ([V.ref t1, V.ref t2, V.ref t3, V.ref t4, V.non, V.ref t6] ++ [V.ref t7, V.ref t8, V.ref t9, V.ref t10, V.int 7, V.ref t11])) _ _ xj14
    have xk15 := same_upd nb3 (o := HO.lst ([V.ref t1, V.ref t2, V.ref t3, V.ref t4, V.non, V.ref t6] ++ [V.ref t7, V.ref t8, V.ref t9, V.ref t10, V.int 7, V.ref t11])) _ _ xk14
    have xl15 := same_upd nb3 (o := HO.lst ([V.ref t1, V.ref t2, V.ref t3, V.ref t4, V.non, V.ref t6] ++ [V.ref t7, V.ref t8, V.ref t9, V.ref t10, V.int 7, V.ref t11])) _ _ xl14
    have xm15 := same_upd nb3 (o := HO.lst ([V.ref t1, V.ref t2, V.ref t3, V.ref t4, V.non, V.ref t6] ++ [V.ref t7, V.ref t8, V.ref t9, V.ref t10, V.int 7, V.ref t11])) _ _ xm
    try dsimp only at *
    generalize upd H19 b3 (HO.lst ([V.ref t1, V.ref t2, V.ref t3, V.ref t4, V.non, V.ref t6] ++ [V.ref t7, V.ref t8, V.ref t9, V.ref t10, V.int 7, V.ref t11])) = H20 at *
    -- the cell's one
    have c0 := Int.emod_nonneg (cellOf ns 4) (show (12 : Int) ≠ 0 by decide)
    have c1 := Int.emod_lt_of_pos (cellOf ns 4) (show (0 : Int) < 12 by decide)
    have hall : ∀ k : Int, 0 ≤ k → k < 12 → ∃ x, atI ([V.ref t1, V.ref t2, V.ref t3, V.ref t4, V.non, V.ref t6] ++ [V.ref t7, V.ref t8, V.ref t9, V.ref t10, V.int 7, V.ref t11]) k = some x ∧ NotFr K H20 x := by
      intro k h0 h1
      have hq0 := hlow.pos
      have hd := hlow.one
      have tup : ∀ {x : Addr} {xs : List V}, H20 x = some (.tup xs) → BadT xs → NotFr K H20 (.ref x) := fun e b => .inr ⟨_, _, rfl, e, b⟩
      have hdm : dv (p * more) (q' * more) ≠ 1 := fun z => by
        have h2 := dvd_dv (Int.dvd_mul_left p more) (Int.dvd_mul_left q' more)
        rw [z] at h2
        have := Int.eq_one_of_dvd_one (by omega) h2
        omega
      rcases (show k = 0 ∨ k = 1 ∨ k = 2 ∨ k = 3 ∨ k = 4 ∨ k = 5 ∨ k = 6 ∨ k = 7 ∨ k = 8 ∨ k = 9 ∨ k = 10 ∨ k = 11 by omega) with rfl | rfl | rfl | rfl | rfl | rfl | rfl | rfl | rfl | rfl | rfl | rfl
      · exact ⟨_, rfl, tup xa15 (.inr (.inr (.inr ⟨_, _, rfl, .inr hdm⟩)))⟩
      · exact ⟨_, rfl, tup xb15 (.inr (.inr (.inr ⟨_, _, rfl, .inl (by omega)⟩)))⟩
      · exact ⟨_, rfl, tup xc15 (.inr (.inr (.inr ⟨_, _, rfl, .inl (by decide)⟩)))⟩
      · exact ⟨_, rfl, .inl (notTup_lst xd15)⟩
      · exact ⟨_, rfl, .inl notTup_non⟩
      · exact ⟨_, rfl, tup xg15 (.inl (by simp))⟩
      · exact ⟨_, rfl, tup xh15 (.inl (by simp))⟩
      · exact ⟨_, rfl, tup xi15 (.inr (.inl ⟨_, _, rfl, .inl ⟨_, rfl⟩⟩))⟩
      · exact ⟨_, rfl, tup xj15 (.inr (.inr (.inl ⟨_, _, rfl, .inl ⟨_, rfl⟩⟩)))⟩
      · exact ⟨_, rfl, tup xk15 (.inr (.inl ⟨_, _, rfl, .inr ⟨_, rfl⟩⟩))⟩
      · exact ⟨_, rfl, .inl (notTup_int 7)⟩
      · exact ⟨_, rfl, tup xl15 (.inr (.inr (.inr ⟨_, _, rfl, .inr (by decide)⟩)))⟩
    obtain ⟨x, hx, hbad⟩ := hall _ c0 c1
    refine ⟨_, rfl, _, rfl, a, ns, 4, rfl, s20.seq hS, by decide, _, _, rfl, rfl, (by show (0 : Int) < 12; decide), b3, _, _, _, rfl, rfl, SqL.of xn, hx, ?_⟩
    exact ⟨_, rfl, .inl ⟨hbad, _, _, rfl, rfl, false, rfl, iteF ⟨_, _, _, rfl, s20⟩⟩⟩
  rintro σ H2 ⟨y3, y4, y5, rfl, s2⟩
  refine ⟨_, rfl, a, ns, 5, rfl, s2.seq hS, by decide, 10, 3, rfl, rfl, ⟨by decide, by decide, by decide⟩, 10, 9, rfl, rfl, ⟨by decide, by decide, by decide⟩, 10, 40, rfl, rfl, ⟨by decide, by decide, by decide⟩, small_le (show 3 ≤ 10000000 by decide), fun l1 nl1 => ?_⟩
  have c0 := Int.emod_nonneg (cellOf ns 6) (show (3 : Int) ≠ 0 by decide)
  have c1 := Int.emod_lt_of_pos (cellOf ns 6) (show (0 : Int) < 3 by decide)
  have hall : ∀ k : Int, 0 ≤ k → k < 3 → ∃ m : Int, atI [V.int (10 ^ (3 : Int).toNat), V.int (10 ^ (9 : Int).toNat), V.int (10 ^ (40 : Int).toNat)] k = some (.int m) ∧ 0 < m ∧ m ≤ 10000000000000000000000000000000000000000 := by
    intro k h0 h1
    rcases (show k = 0 ∨ k = 1 ∨ k = 2 by omega) with rfl | rfl | rfl
    · exact ⟨_, rfl, by decide, by decide⟩
    · exact ⟨_, rfl, by decide, by decide⟩
    · exact ⟨_, rfl, by decide, by decide⟩
  obtain ⟨m, hm, m0, m1⟩ := hall _ c0 c1
  refine ⟨_, rfl, a, ns, 6, rfl, (same_updO s2 (s2.free nl1)).seq hS, by decide, _, _, rfl, rfl, (by show (0 : Int) < 3; decide), l1, _, _, _, rfl, rfl, SqL.of upd_same, hm, _, _, rfl, rfl, m0, ?_⟩
  have n0 := Int.emod_nonneg (cellOf ns 5) (show m ≠ 0 by omega)
  have n1 := Int.emod_lt_of_pos (cellOf ns 5) m0
  dsimp only
  generalize cellOf ns 5 % m = n at *
  have hbn : Big n := by
    refine ⟨Nat.lt_of_lt_of_le (show n.natAbs < 2 ^ 200 from ?_) (Nat.pow_le_pow_right (by decide) (by decide))⟩
    have e200 : (2 : Nat) ^ 200 = 1606938044258990275541962092341162602522202993782792835301376 := by decide
    omega
  obtain ⟨r0, r1, r2⟩ := rt_spec n0
  have rle := rt_le n0
  have hbr : Big (rt n) := big_le (by omega) hbn
  have hbr1 : Big (rt n + 1) := by
    refine ⟨Nat.lt_of_lt_of_le (show (rt n + 1).natAbs < 2 ^ 200 from ?_) (Nat.pow_le_pow_right (by decide) (by decide))⟩
    have e200 : (2 : Nat) ^ 200 = 1606938044258990275541962092341162602522202993782792835301376 := by decide
    omega
  refine ⟨_, rfl, n, rfl, n0, hbn, ?_⟩
  refine ⟨_, rfl, _, rfl, true, rfl, iteT ?_⟩
  refine ⟨_, rfl, _, rfl, _, _, rfl, rfl, hbr.mul hbr, _, rfl, _, _, rfl, rfl, true, ?_, iteT ?_⟩
  · exact congrArg V.bl (decide_eq_true r1)
  refine ⟨_, rfl, _, _, rfl, rfl, _, rfl, _, _, rfl, rfl, _, _, rfl, rfl, hbr1.mul hbr1, _, _, rfl, rfl, ?_⟩
  dsimp only
  rw [decide_eq_true r2]
  exact q _
end
/-! ### what the top has written -/
theorem all_mk {l : PySem.W.OpenLaw} {w : World} {K : PySem.W.Frag} {h : Heap} {mg : Str → Option Value} {fa : Addr} (X : K.In h) (G : h.Ns mainGlobals mg) (hfa : mg "law" = some (.ref fa))
    {f0 : Addr} {od0 an0 : Option Addr} {sl0 : Array (Option Value)} {oc0 kV0 dc0 pm0 cd0 ct0 : Value}
    {f1 : Addr} {od1 an1 : Option Addr} {sl1 : Array (Option Value)} {oc1 kV1 dc1 pm1 cd1 ct1 : Value}
    {f2 : Addr} {od2 an2 : Option Addr} {sl2 : Array (Option Value)} {oc2 kV2 dc2 pm2 cd2 ct2 : Value}
    {f3 : Addr} {od3 an3 : Option Addr} {sl3 : Array (Option Value)} {oc3 kV3 dc3 pm3 cd3 ct3 : Value}
    {f4 : Addr} {od4 an4 : Option Addr} {sl4 : Array (Option Value)} {oc4 kV4 dc4 pm4 cd4 ct4 : Value}
    {f5 : Addr} {od5 an5 : Option Addr} {sl5 : Array (Option Value)} {oc5 kV5 dc5 pm5 cd5 ct5 : Value}
    {f6 : Addr} {od6 an6 : Option Addr} {sl6 : Array (Option Value)} {oc6 kV6 dc6 pm6 cd6 ct6 : Value}
    {f7 : Addr} {od7 an7 : Option Addr} {sl7 : Array (Option Value)} {oc7 kV7 dc7 pm7 cd7 ct7 : Value}
    {f8 : Addr} {od8 an8 : Option Addr} {sl8 : Array (Option Value)} {oc8 kV8 dc8 pm8 cd8 ct8 : Value}
    {f9 : Addr} {od9 an9 : Option Addr} {sl9 : Array (Option Value)} {oc9 kV9 dc9 pm9 cd9 ct9 : Value}
    {f10 : Addr} {od10 an10 : Option Addr} {sl10 : Array (Option Value)} {oc10 kV10 dc10 pm10 cd10 ct10 : Value}
    {f11 : Addr} {od11 an11 : Option Addr} {sl11 : Array (Option Value)} {oc11 kV11 dc11 pm11 cd11 ct11 : Value}
    {f12 : Addr} {od12 an12 : Option Addr} {sl12 : Array (Option Value)} {oc12 kV12 dc12 pm12 cd12 ct12 : Value}
    {C R : Addr}
    (a0 : PySem.W.nsIn K mainGlobals "is_whole" = some (some (.ref f0)))
    (l0 : K.lookup f0 = some ⟨oc0, od0, .func (PySem.W.fnOf "is_whole" "is_whole" (defArgs s_is_whole) (defBody s_is_whole) (defScope s_is_whole) .none kV0 dc0 pm0 an0 cd0 ct0), sl0⟩)
    (c0 : PySem.W.codeIn K cd0 "is_whole" = true)
    (k0 : PySem.W.keepIn K (.ref f0) = true)
    (a1 : PySem.W.nsIn K mainGlobals "divisor" = some (some (.ref f1)))
    (l1 : K.lookup f1 = some ⟨oc1, od1, .func (PySem.W.fnOf "divisor" "divisor" (defArgs s_divisor) (defBody s_divisor) (defScope s_divisor) .none kV1 dc1 pm1 an1 cd1 ct1), sl1⟩)
    (c1 : PySem.W.codeIn K cd1 "divisor" = true)
    (k1 : PySem.W.keepIn K (.ref f1) = true)
    (a2 : PySem.W.nsIn K mainGlobals "is_fraction" = some (some (.ref f2)))
    (l2 : K.lookup f2 = some ⟨oc2, od2, .func (PySem.W.fnOf "is_fraction" "is_fraction" (defArgs s_is_fraction) (defBody s_is_fraction) (defScope s_is_fraction) .none kV2 dc2 pm2 an2 cd2 ct2), sl2⟩)
    (c2 : PySem.W.codeIn K cd2 "is_fraction" = true)
    (k2 : PySem.W.keepIn K (.ref f2) = true)
    (a3 : PySem.W.nsIn K mainGlobals "lowest" = some (some (.ref f3)))
    (l3 : K.lookup f3 = some ⟨oc3, od3, .func (PySem.W.fnOf "lowest" "lowest" (defArgs s_lowest) (defBody s_lowest) (defScope s_lowest) .none kV3 dc3 pm3 an3 cd3 ct3), sl3⟩)
    (c3 : PySem.W.codeIn K cd3 "lowest" = true)
    (k3 : PySem.W.keepIn K (.ref f3) = true)
    (a4 : PySem.W.nsIn K mainGlobals "least_square" = some (some (.ref f4)))
    (l4 : K.lookup f4 = some ⟨oc4, od4, .func (PySem.W.fnOf "least_square" "least_square" (defArgs s_least_square) (defBody s_least_square) (defScope s_least_square) .none kV4 dc4 pm4 an4 cd4 ct4), sl4⟩)
    (c4 : PySem.W.codeIn K cd4 "least_square" = true)
    (k4 : PySem.W.keepIn K (.ref f4) = true)
    (a5 : PySem.W.nsIn K mainGlobals "_law_cell" = some (some (.ref f5)))
    (l5 : K.lookup f5 = some ⟨oc5, od5, .func (PySem.W.fnOf "_law_cell" "_law_cell" (defArgs s__law_cell) (defBody s__law_cell) (defScope s__law_cell) .none kV5 dc5 pm5 an5 cd5 ct5), sl5⟩)
    (c5 : PySem.W.codeIn K cd5 "_law_cell" = true)
    (k5 : PySem.W.keepIn K (.ref f5) = true)
    (a6 : PySem.W.nsIn K mainGlobals "_law_mix" = some (some (.ref f6)))
    (l6 : K.lookup f6 = some ⟨oc6, od6, .func (PySem.W.fnOf "_law_mix" "_law_mix" (defArgs s__law_mix) (defBody s__law_mix) (defScope s__law_mix) .none kV6 dc6 pm6 an6 cd6 ct6), sl6⟩)
    (c6 : PySem.W.codeIn K cd6 "_law_mix" = true)
    (k6 : PySem.W.keepIn K (.ref f6) = true)
    (a7 : PySem.W.nsIn K mainGlobals "_law_whole" = some (some (.ref f7)))
    (l7 : K.lookup f7 = some ⟨oc7, od7, .func (PySem.W.fnOf "_law_whole" "_law_whole" (defArgs s__law_whole) (defBody s__law_whole) (defScope s__law_whole) .none kV7 dc7 pm7 an7 cd7 ct7), sl7⟩)
    (c7 : PySem.W.codeIn K cd7 "_law_whole" = true)
    (k7 : PySem.W.keepIn K (.ref f7) = true)
    (a8 : PySem.W.nsIn K mainGlobals "_law_divisor" = some (some (.ref f8)))
    (l8 : K.lookup f8 = some ⟨oc8, od8, .func (PySem.W.fnOf "_law_divisor" "_law_divisor" (defArgs s__law_divisor) (defBody s__law_divisor) (defScope s__law_divisor) .none kV8 dc8 pm8 an8 cd8 ct8), sl8⟩)
    (c8 : PySem.W.codeIn K cd8 "_law_divisor" = true)
    (k8 : PySem.W.keepIn K (.ref f8) = true)
    (a9 : PySem.W.nsIn K mainGlobals "_law_lowest" = some (some (.ref f9)))
    (l9 : K.lookup f9 = some ⟨oc9, od9, .func (PySem.W.fnOf "_law_lowest" "_law_lowest" (defArgs s__law_lowest) (defBody s__law_lowest) (defScope s__law_lowest) .none kV9 dc9 pm9 an9 cd9 ct9), sl9⟩)
    (c9 : PySem.W.codeIn K cd9 "_law_lowest" = true)
    (k9 : PySem.W.keepIn K (.ref f9) = true)
    (a10 : PySem.W.nsIn K mainGlobals "_law_fraction" = some (some (.ref f10)))
    (l10 : K.lookup f10 = some ⟨oc10, od10, .func (PySem.W.fnOf "_law_fraction" "_law_fraction" (defArgs s__law_fraction) (defBody s__law_fraction) (defScope s__law_fraction) .none kV10 dc10 pm10 an10 cd10 ct10), sl10⟩)
    (c10 : PySem.W.codeIn K cd10 "_law_fraction" = true)
    (k10 : PySem.W.keepIn K (.ref f10) = true)
    (a11 : PySem.W.nsIn K mainGlobals "_law_refused" = some (some (.ref f11)))
    (l11 : K.lookup f11 = some ⟨oc11, od11, .func (PySem.W.fnOf "_law_refused" "_law_refused" (defArgs s__law_refused) (defBody s__law_refused) (defScope s__law_refused) .none kV11 dc11 pm11 an11 cd11 ct11), sl11⟩)
    (c11 : PySem.W.codeIn K cd11 "_law_refused" = true)
    (k11 : PySem.W.keepIn K (.ref f11) = true)
    (a12 : PySem.W.nsIn K mainGlobals "law" = some (some (.ref f12)))
    (l12 : K.lookup f12 = some ⟨oc12, od12, .func (PySem.W.fnOf "law" "law" (defArgs s_law) (defBody s_law) (defScope s_law) .none kV12 dc12 pm12 an12 cd12 ct12), sl12⟩)
    (c12 : PySem.W.codeIn K cd12 "law" = true)
    (k12 : PySem.W.keepIn K (.ref f12) = true)
    (z_len : PySem.W.nsIn K mainGlobals "len" = some none)
    (z_all : PySem.W.nsIn K mainGlobals "all" = some none)
    (z_reversed : PySem.W.nsIn K mainGlobals "reversed" = some none)
    (z_tuple : PySem.W.nsIn K mainGlobals "tuple" = some none)
    (z_abs : PySem.W.nsIn K mainGlobals "abs" = some none)
    (z_range : PySem.W.nsIn K mainGlobals "range" = some none)
    (z_isinstance : PySem.W.nsIn K mainGlobals "isinstance" = some none)
    (z_int : PySem.W.nsIn K mainGlobals "int" = some none)
    (z_bool : PySem.W.nsIn K mainGlobals "bool" = some none)
    (z_ValueError : PySem.W.nsIn K mainGlobals "ValueError" = some none)
    (z_list : PySem.W.nsIn K mainGlobals "list" = some none)
    (z_sum : PySem.W.nsIn K mainGlobals "sum" = some none)
    (z_min : PySem.W.nsIn K mainGlobals "min" = some none)
    (z_enumerate : PySem.W.nsIn K mainGlobals "enumerate" = some none)
    (gC : PySem.W.nsIn K mainGlobals "NoNumber" = some (some (.ref C)))
    (gR : PySem.W.nsIn K mainGlobals "RowError" = some (some (.ref R)))
    (xC : PySem.W.excIn K C [.type "ValueError", .type "Exception", .type "BaseException", .type "object"] "ValueError.__new__" = true)
    (kC : PySem.W.keepIn K (.ref C) = true)
    (bC : PySem.W.subIn K (.ref C) (.type "BaseException") = some true)
    (tC : PySem.W.typeIn K (.ref C) = some (.type "type"))
    (bR : PySem.W.subIn K (.ref R) (.type "BaseException") = some true)
    (dR : PySem.W.hasDictIn K R = true)
    (tR : PySem.W.typeIn K (.ref R) = some (.type "type"))
    (sR : PySem.W.subIn K (.ref C) (.ref R) = some true)
    (e1 : PySem.W.findIn K (.ref C) "__getattribute__" = some (some (.builtin "BaseException.__getattribute__")))
    (e2 : PySem.W.findIn K (.ref C) "__getattr__" = some none)
    (e4 : PySem.W.hasDictIn K C = true)
    (e5 : PySem.W.findIn K (.ref C) "__class__" = some (some (.builtin "object.__class__")))
    (e6 : PySem.W.specialIn K (.builtin "object.__class__") "__get__" = some (some (.builtin "getset_descriptor.__get__")))
    (e7 : PySem.W.takesIn K (.builtin "object.__class__") = some true)
    (e8 : PySem.W.mroIn K C (.type "object") = some true)
    (iV : PySem.W.subIn K (.ref C) (.type "ValueError") = some true) :
    ∃ fd : FuncData, (∀ (s : Shared) (v : Value), BindsTo s fd ⟨[v], []⟩ [("_law_script", v)]) ∧ ∀ base : Heap, K.In base → base.Ns mainGlobals mg → FnOk l.prog w K mg base CX0 40 fa fd ["_law_script"] (sp_law K) := by
  have e := hfa.symm.trans (PySem.W.mg_of X G a12)
  cases e
  have D_is_whole : Df K mg "is_whole" p_is_whole s_is_whole := df_mk X G a0 l0 c0 k0 fun _ _ _ _ _ _ us hl => match us, hl with | [_], _ => rfl
  have D_divisor : Df K mg "divisor" p_divisor s_divisor := df_mk X G a1 l1 c1 k1 fun _ _ _ _ _ _ us hl => match us, hl with | [_, _], _ => rfl
  have D_is_fraction : Df K mg "is_fraction" p_is_fraction s_is_fraction := df_mk X G a2 l2 c2 k2 fun _ _ _ _ _ _ us hl => match us, hl with | [_], _ => rfl
  have D_lowest : Df K mg "lowest" p_lowest s_lowest := df_mk X G a3 l3 c3 k3 fun _ _ _ _ _ _ us hl => match us, hl with | [_, _], _ => rfl
  have D_least_square : Df K mg "least_square" p_least_square s_least_square := df_mk X G a4 l4 c4 k4 fun _ _ _ _ _ _ us hl => match us, hl with | [_], _ => rfl
  have D__law_cell : Df K mg "_law_cell" p__law_cell s__law_cell := df_mk X G a5 l5 c5 k5 fun _ _ _ _ _ _ us hl => match us, hl with | [_, _], _ => rfl
  have D__law_mix : Df K mg "_law_mix" p__law_mix s__law_mix := df_mk X G a6 l6 c6 k6 fun _ _ _ _ _ _ us hl => match us, hl with | [_, _, _], _ => rfl
  have D__law_whole : Df K mg "_law_whole" p__law_whole s__law_whole := df_mk X G a7 l7 c7 k7 fun _ _ _ _ _ _ us hl => match us, hl with | [_], _ => rfl
  have D__law_divisor : Df K mg "_law_divisor" p__law_divisor s__law_divisor := df_mk X G a8 l8 c8 k8 fun _ _ _ _ _ _ us hl => match us, hl with | [_, _], _ => rfl
  have D__law_lowest : Df K mg "_law_lowest" p__law_lowest s__law_lowest := df_mk X G a9 l9 c9 k9 fun _ _ _ _ _ _ us hl => match us, hl with | [_, _], _ => rfl
  have D__law_fraction : Df K mg "_law_fraction" p__law_fraction s__law_fraction := df_mk X G a10 l10 c10 k10 fun _ _ _ _ _ _ us hl => match us, hl with | [_, _, _], _ => rfl
  have D__law_refused : Df K mg "_law_refused" p__law_refused s__law_refused := df_mk X G a11 l11 c11 k11 fun _ _ _ _ _ _ us hl => match us, hl with | [_], _ => rfl
  have B : Bl mg := ⟨PySem.W.mg_none_of X G z_len, PySem.W.mg_none_of X G z_all, PySem.W.mg_none_of X G z_reversed, PySem.W.mg_none_of X G z_tuple, PySem.W.mg_none_of X G z_abs, PySem.W.mg_none_of X G z_range, PySem.W.mg_none_of X G z_isinstance, PySem.W.mg_none_of X G z_int, PySem.W.mg_none_of X G z_bool, PySem.W.mg_none_of X G z_ValueError, PySem.W.mg_none_of X G z_list, PySem.W.mg_none_of X G z_sum, PySem.W.mg_none_of X G z_min, PySem.W.mg_none_of X G z_enumerate⟩
  have N : NoN K mg C R := ⟨PySem.W.mg_of X G gC, PySem.W.mg_of X G gR, xC, kC, bC, tC, bR, dR, tR, sR, ⟨e1, e2, bC, e4, e5, e6, e7, e8⟩, kit_vt (by decide +kernel) iV, PySem.W.mg_none_of X G z_ValueError, PySem.W.mg_none_of X G z_isinstance⟩
  have F := fun_mk (st := s_law) l12 c12 k12
  refine ⟨PySem.W.fnOf "law" "law" (defArgs s_law) (defBody s_law) (defScope s_law) .none kV12 dc12 pm12 an12 cd12 ct12, fun s v => .of_eq rfl, fun base _ _ => ?_⟩
  have Cw0 := ok_is_whole (P := l.prog) (w := w) (base := base) D_is_whole B
  have Cd0 := ok_divisor (P := l.prog) (w := w) (base := base) D_divisor B
  have Ci := ok_is_fraction D_is_fraction B Cw0 Cd0
  have Co := ok_lowest D_lowest N Cd0
  have Cs := ok_least_square (P := l.prog) (w := w) (base := base) D_least_square
  have Cd := ok__law_divisor (P := l.prog) (w := w) (base := base) D__law_divisor B
  have Cl := ok__law_lowest D__law_lowest Cd
  have Cc := ok__law_cell (P := l.prog) (w := w) (base := base) D__law_cell B
  have Cw := ok__law_whole (P := l.prog) (w := w) (base := base) D__law_whole B
  have Cr := ok_refused D__law_refused N Co
  exact ok_law F B Cc Cr Co Cl Ci Cs Cw
end RR
open PySem PySem.W PyProof.Rows
set_option maxHeartbeats 0 in
theorem PySem.Challenge.cw_rootrow_k01_fractions_holds : PySem.Challenge.rw_rootrow_k01_fractions.Holds := by
  w_on; o_law; k_head; (case hw => w_witness2)
  k_fill
  refine L2.walk_of (l := PySem.Challenge.rw_rootrow_k01_fractions) (n := 63) (k := 40) (x := "_law_script") (CX := fun _ => L2.CX0) (sp := fun w => RR.sp_law _) rfl (by decide) rfl ⟨rfl, by decide, by decide⟩ (fun w h Y => PySem.W.kIn_of Y) ?F (fun _ _ a ns hl _ hS => ⟨a, ns, rfl, hS, hl, fun _ => rfl⟩) (fun _ _ _ _ _ h => h)
  case F =>
    intro w mg fa h KX G hmg
    refine' RR.all_mk KX G hmg ?a0 ?l0 ?c0 ?k0 ?a1 ?l1 ?c1 ?k1 ?a2 ?l2 ?c2 ?k2 ?a3 ?l3 ?c3 ?k3 ?a4 ?l4 ?c4 ?k4 ?a5 ?l5 ?c5 ?k5 ?a6 ?l6 ?c6 ?k6 ?a7 ?l7 ?c7 ?k7 ?a8 ?l8 ?c8 ?k8 ?a9 ?l9 ?c9 ?k9 ?a10 ?l10 ?c10 ?k10 ?a11 ?l11 ?c11 ?k11 ?a12 ?l12 ?c12 ?k12 ?z_len ?z_all ?z_reversed ?z_tuple ?z_abs ?z_range ?z_isinstance ?z_int ?z_bool ?z_ValueError ?z_list ?z_sum ?z_min ?z_enumerate ?gC ?gR ?xC ?kC ?bC ?tC ?bR ?dR ?tR ?sR ?e1 ?e2 ?e4 ?e5 ?e6 ?e7 ?e8 ?iV
    (case a0 => k_is)
    (case l0 => k_is)
    (case c0 => k_is)
    (case k0 => k_is)
    (case a1 => k_is)
    (case l1 => k_is)
    (case c1 => k_is)
    (case k1 => k_is)
    (case a2 => k_is)
    (case l2 => k_is)
    (case c2 => k_is)
    (case k2 => k_is)
    (case a3 => k_is)
    (case l3 => k_is)
    (case c3 => k_is)
    (case k3 => k_is)
    (case a4 => k_is)
    (case l4 => k_is)
    (case c4 => k_is)
    (case k4 => k_is)
    (case a5 => k_is)
    (case l5 => k_is)
    (case c5 => k_is)
    (case k5 => k_is)
    (case a6 => k_is)
    (case l6 => k_is)
    (case c6 => k_is)
    (case k6 => k_is)
    (case a7 => k_is)
    (case l7 => k_is)
    (case c7 => k_is)
    (case k7 => k_is)
    (case a8 => k_is)
    (case l8 => k_is)
    (case c8 => k_is)
    (case k8 => k_is)
    (case a9 => k_is)
    (case l9 => k_is)
    (case c9 => k_is)
    (case k9 => k_is)
    (case a10 => k_is)
    (case l10 => k_is)
    (case c10 => k_is)
    (case k10 => k_is)
    (case a11 => k_is)
    (case l11 => k_is)
    (case c11 => k_is)
    (case k11 => k_is)
    (case a12 => k_is)
    (case l12 => k_is)
    (case c12 => k_is)
    (case k12 => k_is)
    (case z_len => k_is)
    (case z_all => k_is)
    (case z_reversed => k_is)
    (case z_tuple => k_is)
    (case z_abs => k_is)
    (case z_range => k_is)
    (case z_isinstance => k_is)
    (case z_int => k_is)
    (case z_bool => k_is)
    (case z_ValueError => k_is)
    (case z_list => k_is)
    (case z_sum => k_is)
    (case z_min => k_is)
    (case z_enumerate => k_is)
    (case gC => k_is)
    (case gR => k_is)
    (case xC => first | k_exc | k_is)
    (case kC => k_is)
    (case bC => k_is)
    (case tC => k_is)
    (case bR => k_is)
    (case dR => k_is)
    (case tR => k_is)
    (case sR => k_is)
    (case e1 => k_is)
    (case e2 => k_is)
    (case e4 => k_is)
    (case e5 => k_is)
    (case e6 => k_is)
    (case e7 => k_is)
    (case e8 => k_is)
    (case iV => k_is)
