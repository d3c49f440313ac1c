import PyProof.Rows.All
import Wide.All
import OpenK.AllK
import Wide.FinOn
import HandS.ForMost
import HandS.ForExc
import HandS.Wide
import HandS.Rev
import HandS.IsInst
import HandS.ExcIs
import HandS.TupAny
import HandS.More
import HandS.Style
import PySem.Challenge.RW_rootrow_k08_whole_nearest
set_option Elab.async false
set_option linter.all false
set_option maxRecDepth 100000
set_option maxHeartbeats 4000000
/-! RRK: what all laws share: a callee by name, a def by name, loops and comprehensions in short. -/
namespace RR
open PySem PySem.Spec PyProof.Rows L2

/-! ### defs by name -/
/-- a def that stands at the top, by its name -/
structure Df (K : PySem.W.Frag) (mg : Str → Option Value) (x : Str) (ps : List Str) (st : Stmt) : Prop where
  ex : ∃ f fd, Fun K x x st f fd ∧ Binds K fd ps [] ∧ mg x = some (.ref f)
/-- a callee by its name: it keeps its promise -/
structure Cal (P : Program) (w : World) (K : PySem.W.Frag) (mg : Str → Option Value) (base : Heap) (CX : CXT) (k : Nat) (x : Str) (ps : List Str) (sp : Sp) : Prop where
  ex : ∃ f fd, FnOk P w K mg base CX k f fd ps sp ∧ PySem.W.keepIn K (.ref f) = true ∧ Binds K fd ps [] ∧ mg x = some (.ref f)
theorem Df.cal {P : Program} {w : World} {K : PySem.W.Frag} {mg : Str → Option Value} {base : Heap} {CX : CXT} {k : Nat} {x : Str} {ps : List Str} {st : Stmt} {sp : Sp} (D : Df K mg x ps st)
    (h : ∀ f fd, Fun K x x st f fd → FnOk P w K mg base CX k f fd ps sp) : Cal P w K mg base CX k x ps sp := by
  obtain ⟨f, fd, F, b, g⟩ := D.ex
  exact ⟨f, fd, h f fd F, F.kp, b, g⟩
theorem pe_cal {X : Cx} {CX : CXT} {k k' : Nat} {x : Str} {ps : List Str} {sp : Sp} {E : XK} {e : Expr} {es : List Expr} {t : TA} {p pos : Pos} (C : Cal X.prog X.w X.K X.mg X.base CX k x ps sp) (hr : Room k' X.A) (hk : k ≤ k') (hg : Gl X x) (hx : Passes CX X E)
    (ha : PA X (e :: es) t) (hdb : (x == ("__debug__" : Str)) = false := by decide) (he : starEach (e :: es) X.env = (false, eval e X.env) :: starEach es X.env := by rfl) (hpl : (backTo pos (starEach es X.env)).any (·.1) = false := by rfl) :
    PE X (.Call (.Name x p) (e :: es) [] pos) (tCall sp [] E t) := by
  obtain ⟨f, fd, F, kp, b, g⟩ := C.ex
  exact pe_call F (hr.mono hk) hg g kp b .nil hx ha hdb he hpl
theorem pe_calS {X : Cx} {CX : CXT} {k k' : Nat} {x : Str} {ps : List Str} {sp : Sp} {E : L2.St → XK} {e : Expr} {es : List Expr} {t : TA} {p pos : Pos} (C : Cal X.prog X.w X.K X.mg X.base CX k x ps sp) (hr : Room k' X.A) (hk : k ≤ k') (hg : Gl X x) (hx : ∀ σ, PassesAt CX X σ (E σ))
    (ha : PA X (e :: es) t) (hdb : (x == ("__debug__" : Str)) = false := by decide) (he : starEach (e :: es) X.env = (false, eval e X.env) :: starEach es X.env := by rfl) (hpl : (backTo pos (starEach es X.env)).any (·.1) = false := by rfl) :
    PE X (.Call (.Name x p) (e :: es) [] pos) (tCallS sp E t) := by
  obtain ⟨f, fd, F, kp, b, g⟩ := C.ex
  exact pe_callS F (hr.mono hk) hg g kp b hx ha hdb he hpl

theorem df_mk {K : PySem.W.Frag} {h : Heap} {mg : Str → Option Value} {x : Str} {ps : List Str} {st : Stmt} {f : Addr} {oc : Value} {od an : Option Addr} {osl : Array (Option Value)} {kV doc pm cdv ct : Value} (X : K.In h) (G : h.Ns mainGlobals mg)
    (a : PySem.W.nsIn K mainGlobals x = some (some (.ref f))) (l : K.lookup f = some ⟨oc, od, .func (PySem.W.fnOf x x (defArgs st) (defBody st) (defScope st) .none kV doc pm an cdv ct), osl⟩) (c : PySem.W.codeIn K cdv x = true) (k : PySem.W.keepIn K (.ref f) = true)
    (hb : ∀ (kV doc pm : Value) (an : Option Addr) (cdv ct : Value) (us : List Value), us.length = ps.length → bindArgs (PySem.W.fnOf x x (defArgs st) (defBody st) (defScope st) .none kV doc pm an cdv ct) ⟨us, []⟩ = pure (ps.zip us)) : Df K mg x ps st := by
  have F := fun_mk (st := st) l c k
  exact ⟨f, _, F, F.binds hb, PySem.W.mg_of X G a⟩
/-- the built-ins' names: none stands at the top -/
structure Bl (mg : Str → Option Value) : Prop where
  len : mg "len" = none
  all : mg "all" = none
  reversed : mg "reversed" = none
  tuple : mg "tuple" = none
  abs : mg "abs" = none
  range : mg "range" = none
  isinstance : mg "isinstance" = none
  int : mg "int" = none
  bool : mg "bool" = none
  ValueError : mg "ValueError" = none
  list : mg "list" = none
  sum : mg "sum" = none
  min : mg "min" = none
  enumerate : mg "enumerate" = none

/-! ### heaps -/
theorem same_upd {H : Hp} {p : Addr} {o : HO} (h : H p = none) : Same H (upd H p o) := fun b x e => by
  rw [upd_ne (ne_of_none e h)]
  exact e
theorem same_updO {H H' : Hp} {p : Addr} {o : HO} (s : Same H H') (h : H p = none) : Same H (upd H' p o) := fun b x e => by
  rw [upd_ne (ne_of_none e h)]
  exact s b x e
abbrev tI (ns : List Int) : HO := .tup (ns.map V.int)
abbrev lI (ns : List Int) : HO := .lst (ns.map V.int)
theorem small_of {n : Nat} (h : n ≤ 10000000) : n < sizeLine := by rw [sizeLine_eq]; omega
theorem small_le {n : Nat} (h : n ≤ 10000000) : n ≤ sizeLine := Nat.le_of_lt (small_of h)

/-! ### the error's class -/
/-- what the top says of NoNumber at C, under RowError at R -/
structure NoN (K : PySem.W.Frag) (mg : Str → Option Value) (C R : Addr) : Prop where
  g : mg "NoNumber" = some (.ref C)
  gR : mg "RowError" = some (.ref R)
  x : PySem.W.excIn K C [.type "ValueError", .type "Exception", .type "BaseException", .type "object"] "ValueError.__new__" = true
  k : PySem.W.keepIn K (.ref C) = true
  b : PySem.W.subIn K (.ref C) (.type "BaseException") = some true
  t : PySem.W.typeIn K (.ref C) = some (.type "type")
  bR : PySem.W.subIn K (.ref R) (.type "BaseException") = some true
  dR : PySem.W.hasDictIn K R = true
  tR : PySem.W.typeIn K (.ref R) = some (.type "type")
  sR : PySem.W.subIn K (.ref C) (.ref R) = some true
  ec : ExcC K C
  iV : PySem.W.kitOne K (.ref C) (.type "ValueError") = some true
  mV : mg "ValueError" = none
  mI : mg "isinstance" = none
theorem NoN.ex {K : PySem.W.Frag} {mg : Str → Option Value} {C R : Addr} (N : NoN K mg C R) : PySem.W.exmOne K (.ref C) (.ref R) = some true := PySem.W.exm_ref N.bR N.dR N.tR N.sR
theorem NoN.iC {K : PySem.W.Frag} {mg : Str → Option Value} {C R : Addr} (N : NoN K mg C R) : PySem.W.kitOne K (.ref C) (.ref C) = some true := by
  unfold PySem.W.kitOne
  rw [if_pos (by simp)]
theorem ps_no {X : Cx} {W : WX} {C R : Addr} {m : Str} {j : Nat} {p p2 pos pos' : Pos} (N : NoN X.K X.mg C R) (hc : X.calm = true) (tk : Takes X W) (hg : Gl X "NoNumber") :
    PS X (.Raise (some (.Call (.Name "NoNumber" p) [.Constant (.str m) j p2] [] pos)) none pos') (fun _ σ H => W (.ref C) none σ H) :=
  ps_raise hc tk (pmk_own PySem.F.excBase_ValueError N.x N.g N.k (raises_own N.b N.t) hg)

/-- isinstance(e, c) in a suite that holds an exception of any class -/
theorem pe_isE {X : Cx} {a C : Addr} {oe : Obj} {pn : List (Addr × Obj)} {cls : Value} {d : Option Addr} {x : Str} {e : Expr} {es : List Expr} {t : TA} {p pos : Pos} (EC : ExcC X.K C) (hz : Zc cls d oe) (hf : ∃ vs, oe.data = .fields vs)
    (hg : Gl (X.suite a ((a, oe) :: pn)) x) (hm : (X.suite a ((a, oe) :: pn)).mg x = none) (hv : bootBuiltins x = some (.builtin "isinstance")) (ha : PA (X.suite a ((a, oe) :: pn)) (e :: es) t) (hn : x ≠ "__name__" := by decide) (hdb : (x == ("__debug__" : Str)) = false := by decide)
    (he : starEach (e :: es) (X.suite a ((a, oe) :: pn)).env = (false, eval e (X.suite a ((a, oe) :: pn)).env) :: starEach es (X.suite a ((a, oe) :: pn)).env := by rfl) (hpl : (backTo pos (starEach es (X.suite a ((a, oe) :: pn)).env)).any (·.1) = false := by rfl) :
    PE (X.suite a ((a, oe) :: pn)) (.Call (.Name x p) (e :: es) [] pos) (fun σ H Q => cls = .ref C ∧ d = none ∧ tCB (rIsE X.K C a) t σ H Q) := by
  refine ⟨fun pins s σ H Q I h => ?_⟩
  obtain ⟨rfl, rfl, h⟩ := h
  exact (pe_callB (call_isE EC hz hf) hg hm hv ha hn hdb he hpl).run pins s σ H Q I h
theorem kit_vt {K : PySem.W.Frag} {C : Addr} {T : String} (m : PySem.W.kitMeta T = true) (h : PySem.W.subIn K (.ref C) (.type T) = some true) : PySem.W.kitOne K (.ref C) (.type T) = some true := by
  unfold PySem.W.kitOne
  split
  · rfl
  · show (if PySem.W.kitMeta T = true then PySem.W.subIn K (.ref C) (.type T) else none) = some true
    rw [if_pos m]
    exact h
theorem relV_ref {a : Addr} {u : Value} (h : RelV (.ref a) u) : u = .ref a := h
theorem relV_ty {n : String} {u : Value} (h : RelV (.ty n) u) : u = .type n := h

/-! ### numbers -/
/-- // of great numbers by any but 0 -/
def CDivWN (_ j : Int) : Prop := j ≠ 0 ∧ j.natAbs.log2 < 9000
theorem op_fdivWN {X : Cx} : OpR X (binaryOp .FloorDiv) (rI CDivWN fun i j => .int (i.fdiv j)) := opI fun _ _ _ _ _ _ _ hc q => floordiv_int hc.1 q (.inl (PyProof.noPylong_of_log2 hc.2))

/-! ### a statement, then the rest, with a word between them -/
def tMid (t u : TS) : TS := fun D σ H => ∃ Mid : L2.St → Hp → Prop, t { D with nx := Mid } σ H ∧ ∀ σ' H', Mid σ' H' → u D σ' H'
theorem pss_mid {X : Cx} {st : Stmt} {rest : List Stmt} {t u : TS} (h1 : PS X st t) (h2 : PSs X rest u) : PSs X (st :: rest) (tMid t u) := by
  refine ⟨fun pins s σ H D I h => ?_⟩
  obtain ⟨Mid, hm, hu⟩ := h
  refine wpAny_execs_cons (thn (h1.run pins s σ H { D with nx := Mid } I hm) fun f s1 q => ?_)
  cases f with
  | next =>
    obtain ⟨σ', H', I', q⟩ := q
    exact h2.run pins s1 σ' H' D I' (hu σ' H' q)
  | ret v => exact q
  | brk => exact q
  | cont => exact q

/-! ### slices -/
theorem cutV_from {xs : List V} {k : Nat} : cutV xs (some (k : Int)) none = xs.drop k := by
  unfold cutV
  rw [HT.sIx_nat xs.length 0 k, HT.sIx_none]
  by_cases h : k ≤ xs.length
  · rw [Nat.min_eq_left h]
    exact List.take_of_length_le (by rw [List.length_drop]; exact Nat.le_refl _)
  · rw [Nat.min_eq_right (by omega), Nat.sub_self, List.take_zero, List.drop_of_length_le (by omega)]
theorem cutV_to {xs : List V} {k : Nat} : cutV xs none (some (k : Int)) = xs.take k := by
  unfold cutV
  rw [HT.sIx_nat xs.length xs.length k, HT.sIx_none, List.drop_zero, Nat.sub_zero]
  by_cases h : k ≤ xs.length
  · rw [Nat.min_eq_left h]
  · rw [Nat.min_eq_right (by omega), List.take_of_length_le (Nat.le_refl _), List.take_of_length_le (by omega)]
theorem cutV_both {xs : List V} {j k : Nat} (h : j ≤ k) : cutV xs (some (j : Int)) (some (k : Int)) = (xs.drop j).take (k - j) := by
  unfold cutV
  rw [HT.sIx_nat xs.length xs.length k, HT.sIx_nat xs.length 0 j]
  by_cases h1 : k ≤ xs.length
  · rw [Nat.min_eq_left h1, Nat.min_eq_left (by omega)]
  · rw [Nat.min_eq_right (by omega)]
    by_cases h2 : j ≤ xs.length
    · rw [Nat.min_eq_left h2, List.take_of_length_le (by rw [List.length_drop]; exact Nat.le_refl _), List.take_of_length_le (by rw [List.length_drop]; omega)]
    · rw [Nat.min_eq_right (by omega), List.drop_of_length_le (Nat.le_refl _), List.drop_of_length_le (by omega), List.take_nil, List.take_nil]
theorem sIx_one {n d : Nat} : HT.sIx n d (some 1) = min 1 n := HT.sIx_nat n d 1
theorem sIx_neg {n d k : Nat} (h : 1 ≤ k) : HT.sIx n d (some (-(k : Int))) = n - k := by
  have h := HT.clip_eq (-(k : Int)) n d
  rw [if_pos (by omega)] at h
  omega
theorem cutV_but {xs : List V} {k : Nat} (h : 1 ≤ k) : cutV xs none (some (-(k : Int))) = xs.take (xs.length - k) := by
  unfold cutV
  rw [sIx_neg h, HT.sIx_none, List.drop_zero, Nat.sub_zero]
theorem atI_neg {xs : List V} {k : Nat} {v : V} (h : 1 ≤ k) (h2 : k ≤ xs.length) (e : xs[xs.length - k]? = some v) : atI xs (-(k : Int)) = some v := by
  unfold atI ixN
  rw [if_neg (by omega), if_pos (by omega)]
  show xs[(-(k : Int) + (xs.length : Int)).toNat]? = some v
  rw [show (-(k : Int) + (xs.length : Int)).toNat = xs.length - k by omega]
  exact e
theorem sIx_neg1 {n d : Nat} : HT.sIx n d (some (-1)) = n - 1 := by
  have h := HT.clip_eq (-1) n d
  rw [if_pos (by decide)] at h
  omega
theorem cutV_init {xs : List V} : cutV xs none (some (-1)) = xs.dropLast := by
  unfold cutV
  rw [sIx_neg1, HT.sIx_none, List.drop_zero, Nat.sub_zero, List.dropLast_eq_take]

/-! ### comprehensions that map -/
theorem yes_of {σ : L2.St} {H : Hp} {A B : Hp → Prop} (h : A H) : tYes σ H fun b H3 => if b = true then A H3 else B H3 := by
  show if true = true then A H else B H
  rw [if_pos rfl]
  exact h
theorem lc_mapL {K : PySem.W.Frag} {a : Addr} {xs ys : List V} {j : Nat} {te : TE} {vs : List Nat} {σ : L2.St} {H1 : Hp} {Qd : Addr → Hp → Prop} (hl : ys.length = xs.length) (hx : xs.length < sizeLine) (hA : SqL K H1 a xs) (hw : ∀ x, wipe ((wipe σ vs).set j (some x)) vs = wipe σ vs)
    (hs : ∀ (i : Nat) x y H Q, xs[i]? = some x → ys[i]? = some y → Same H1 H → (∀ H', Same H H' → Q y H') → te ((wipe σ vs).set j (some x)) H Q)
    (hd : ∀ D H, Same H1 H → H D = some (.lst ys) → H1 D = none → Qd D H) : ∀ D, H1 D = none →
    ∃ W : Nat → Nat → Hp → Prop, (∃ m, W 0 m (upd H1 D (.lst []))) ∧ ∀ i m H, W i m H →
      ((Itl K a).stop i H ∧ Qd D H) ∨ ((Itl K a).go i H ∧ ∃ Nx : Hp → Prop, (∀ H', Nx H' → ∃ m', m' < m ∧ W (i + 1) m' H') ∧ ∀ x H', (Itl K a).yld i H x H' → gName j x (wipe σ vs) H' fun σ2 H2 => wipe σ2 vs = wipe σ vs ∧ tYes σ2 H2 fun b H3 =>
        if b = true then te σ2 H3 fun y H4 => ∃ acc, H4 D = some (.lst acc) ∧ acc.length < sizeLine ∧ Nx (upd H4 D (.lst (acc ++ [y]))) else Nx H3) := fun D hD => by
  refine lc_list (K := K) (a := a) (xs := xs) (fun i H => Same H1 H ∧ H D = some (.lst (ys.take i))) ⟨same_upd hD, upd_same⟩ (fun i H _ h => h.1.seq hA) (fun i x H hi h => ?_) (fun H h => hd D H h.1 (by rw [h.2, ← hl, List.take_length]) hD)
  have hi' : i < ys.length := by
    rw [hl]
    exact (List.getElem?_eq_some_iff.mp hi).1
  refine ⟨hw x, yes_of (hs i x ys[i] H _ hi (List.getElem?_eq_getElem hi') h.1 fun H' s' => ⟨_, s' _ _ h.2, ?_, ?_, ?_⟩)⟩
  · rw [List.length_take]
    omega
  · exact same_updO (h.1.trans s') hD
  · rw [upd_same, List.take_add_one, List.getElem?_eq_getElem hi']
    rfl
theorem lc_mapT {K : PySem.W.Frag} {a : Addr} {xs ys : List V} {j : Nat} {te : TE} {vs : List Nat} {σ : L2.St} {H1 : Hp} {Qd : Addr → Hp → Prop} (hl : ys.length = xs.length) (hx : xs.length < sizeLine) (hA : H1 a = some (.tup xs)) (hw : ∀ x, wipe ((wipe σ vs).set j (some x)) vs = wipe σ vs)
    (hs : ∀ (i : Nat) x y H Q, xs[i]? = some x → ys[i]? = some y → Same H1 H → (∀ H', Same H H' → Q y H') → te ((wipe σ vs).set j (some x)) H Q)
    (hd : ∀ D H, Same H1 H → H D = some (.lst ys) → H1 D = none → Qd D H) : ∀ D, H1 D = none →
    ∃ W : Nat → Nat → Hp → Prop, (∃ m, W 0 m (upd H1 D (.lst []))) ∧ ∀ i m H, W i m H →
      ((Itt K a).stop i H ∧ Qd D H) ∨ ((Itt K a).go i H ∧ ∃ Nx : Hp → Prop, (∀ H', Nx H' → ∃ m', m' < m ∧ W (i + 1) m' H') ∧ ∀ x H', (Itt K a).yld i H x H' → gName j x (wipe σ vs) H' fun σ2 H2 => wipe σ2 vs = wipe σ vs ∧ tYes σ2 H2 fun b H3 =>
        if b = true then te σ2 H3 fun y H4 => ∃ acc, H4 D = some (.lst acc) ∧ acc.length < sizeLine ∧ Nx (upd H4 D (.lst (acc ++ [y]))) else Nx H3) := fun D hD => by
  refine lc_tup (K := K) (a := a) (xs := xs) (fun i H => Same H1 H ∧ H D = some (.lst (ys.take i))) ⟨same_upd hD, upd_same⟩ (fun i H _ h => .of (h.1 _ _ hA)) (fun i x H hi h => ?_) (fun H h => hd D H h.1 (by rw [h.2, ← hl, List.take_length]) hD)
  have hi' : i < ys.length := by
    rw [hl]
    exact (List.getElem?_eq_some_iff.mp hi).1
  refine ⟨hw x, yes_of (hs i x ys[i] H _ hi (List.getElem?_eq_getElem hi') h.1 fun H' s' => ⟨_, s' _ _ h.2, ?_, ?_, ?_⟩)⟩
  · rw [List.length_take]
    omega
  · exact same_updO (h.1.trans s') hD
  · rw [upd_same, List.take_add_one, List.getElem?_eq_getElem hi']
    rfl
/-! ### tuples and lists of ints: ==, !=, sum, in -/
theorem canAll_ints : ∀ ns : List Int, PyData.canLayAll0 (ns.map PyData.int) = true
  | [] => rfl
  | _ :: ns => by
    show (PyData.canLay0 (.int _) && PyData.canLayAll0 (ns.map PyData.int)) = true
    rw [canAll_ints ns]
    rfl
theorem depthAll_ints : ∀ ns : List Int, PyData.depthAll (ns.map PyData.int) = 0
  | [] => rfl
  | _ :: ns => by
    show max (PyData.depth (.int _)) (PyData.depthAll (ns.map PyData.int)) = 0
    rw [depthAll_ints ns]
    rfl
theorem sh_tup (ns : List Int) : SeqAt.shaped (.tuple (ns.map PyData.int)) = true := by
  unfold SeqAt.shaped
  rw [Bool.and_eq_true]
  refine ⟨canAll_ints ns, decide_eq_true ?_⟩
  show PyData.depthAll (ns.map PyData.int) + 1 ≤ 64
  rw [depthAll_ints]
  decide
theorem sh_lst (ns : List Int) : SeqAt.shaped (.list (ns.map PyData.int)) = true := by
  unfold SeqAt.shaped
  rw [Bool.and_eq_true]
  refine ⟨canAll_ints ns, decide_eq_true ?_⟩
  show PyData.depthAll (ns.map PyData.int) + 1 ≤ 64
  rw [depthAll_ints]
  decide
theorem eqvAll_ints : ∀ ns ms : List Int, PyData.eqvAll (ns.map PyData.int) (ms.map PyData.int) = decide (ns = ms)
  | [], [] => rfl
  | [], _ :: _ => rfl
  | _ :: _, [] => rfl
  | n :: ns, m :: ms => by
    show (n == m && PyData.eqvAll (ns.map PyData.int) (ms.map PyData.int)) = _
    rw [eqvAll_ints ns ms]
    by_cases h : n = m
    · subst h
      simp
    · simp [h]
theorem dp_ints {K : PySem.W.Frag} {H : Hp} : ∀ ns : List Int, DpAll K H (ns.map V.int) (ns.map PyData.int)
  | [] => .nil
  | n :: ns => .cons (.int n) (dp_ints ns)
def rEqT (K : PySem.W.Frag) : R2 := fun x y H Q => ∃ (a b : Addr) (ns ms : List Int), x = .ref a ∧ y = .ref b ∧ SqT K H a (ns.map V.int) ∧ SqT K H b (ms.map V.int) ∧ Q (.bl (decide (ns = ms))) H
def rNeT (K : PySem.W.Frag) : R2 := fun x y H Q => ∃ (a b : Addr) (ns ms : List Int), x = .ref a ∧ y = .ref b ∧ SqT K H a (ns.map V.int) ∧ SqT K H b (ms.map V.int) ∧ Q (.bl (!decide (ns = ms))) H
def rEqLI (K : PySem.W.Frag) : R2 := fun x y H Q => ∃ (a b : Addr) (ns ms : List Int), x = .ref a ∧ y = .ref b ∧ SqL K H a (ns.map V.int) ∧ SqL K H b (ms.map V.int) ∧ Q (.bl (decide (ns = ms))) H
def rNeLI (K : PySem.W.Frag) : R2 := fun x y H Q => ∃ (a b : Addr) (ns ms : List Int), x = .ref a ∧ y = .ref b ∧ SqL K H a (ns.map V.int) ∧ SqL K H b (ms.map V.int) ∧ Q (.bl (!decide (ns = ms))) H
section
variable {X : Cx} {k : Nat}
theorem op_eqT (hr : Room k X.A) : OpR X (compareOp .Eq) (rEqT X.K) := by
  intro pins s σ H x y v u Q I rx ry h
  obtain ⟨a, b, ns, ms, rfl, rfl, ha, hb, q⟩ := h
  refine op_eqD hr.units pins s σ H _ _ v u Q I rx ry ⟨_, _, .tup ha (dp_ints ns), .tup hb (dp_ints ms), sh_tup ns, sh_tup ms, ?_⟩
  show Q (.bl (PyData.eqvAll _ _)) H
  rw [eqvAll_ints]
  exact q
theorem op_neT (hr : Room k X.A) : OpR X (compareOp .NotEq) (rNeT X.K) := by
  intro pins s σ H x y v u Q I rx ry h
  obtain ⟨a, b, ns, ms, rfl, rfl, ha, hb, q⟩ := h
  refine op_neD hr.units pins s σ H _ _ v u Q I rx ry ⟨_, _, .tup ha (dp_ints ns), .tup hb (dp_ints ms), sh_tup ns, sh_tup ms, ?_⟩
  show Q (.bl (!PyData.eqvAll _ _)) H
  rw [eqvAll_ints]
  exact q
theorem op_eqLI (hr : Room k X.A) : OpR X (compareOp .Eq) (rEqLI X.K) := by
  intro pins s σ H x y v u Q I rx ry h
  obtain ⟨a, b, ns, ms, rfl, rfl, ha, hb, q⟩ := h
  refine op_eqD hr.units pins s σ H _ _ v u Q I rx ry ⟨_, _, .lst ha (dp_ints ns), .lst hb (dp_ints ms), sh_lst ns, sh_lst ms, ?_⟩
  show Q (.bl (PyData.eqvAll _ _)) H
  rw [eqvAll_ints]
  exact q
theorem op_neLI (hr : Room k X.A) : OpR X (compareOp .NotEq) (rNeLI X.K) := by
  intro pins s σ H x y v u Q I rx ry h
  obtain ⟨a, b, ns, ms, rfl, rfl, ha, hb, q⟩ := h
  refine op_neD hr.units pins s σ H _ _ v u Q I rx ry ⟨_, _, .lst ha (dp_ints ns), .lst hb (dp_ints ms), sh_lst ns, sh_lst ms, ?_⟩
  show Q (.bl (!PyData.eqvAll _ _)) H
  rw [eqvAll_ints]
  exact q
/-- sum(t) of a tuple of ints -/
def rSumT (K : PySem.W.Frag) : List V → Hp → VK → Prop := fun vs H Q => ∃ (a : Addr) (ns : List Int), vs = [V.ref a] ∧ SqT K H a (ns.map V.int) ∧ Q (.int ns.sum) H
theorem cr_sumT (hc : X.calm = true) : CallR X (.builtin "sum") (rSumT X.K) := by
  intro pins s σ H vs us Q I r h
  obtain ⟨a, ns, rfl, hs, q⟩ := h
  obtain ⟨its, rv, ht, _⟩ := I.tuple hs
  rw [Vals.ref1 r]
  have hi := rv.ints
  obtain ⟨xs, e⟩ := hi.allInts.items
  have hn : numsOf (intItems xs).toList = ns := by rw [← e]; exact hi.numsOf
  rw [nums_intItems] at hn
  rw [e] at ht
  refine PySem.W.ktm_sumG (I.ok.hd hc) ht fun h' tk t' hk => ⟨.int _, H, I.kept hk, ⟨_, rfl⟩, ?_⟩
  rw [preSum_eq, List.take_of_length_le (by simp), hn]
  exact q
end
/-- x in xs within a comprehension, the written part named -/
theorem op_inK {X : Cx} (K : PySem.W.Frag) (h : X.K = K := by rfl) : OpR X (compareOp .In) (rIn K false) := by
  subst h
  exact op_in_seq
theorem in01 (z : Int) : inV (.int z) [V.int 0, V.int 1] = decide (z = 0 ∨ z = 1) := by
  show ((0 : Int) == z || ((1 : Int) == z || false)) = _
  by_cases h0 : z = 0
  · subst h0
    rfl
  · by_cases h1 : z = 1
    · subst h1
      rfl
    · rw [decide_eq_false (by omega), Bool.or_false, Bool.or_eq_false_iff]
      exact ⟨beq_false_of_ne (fun e => h0 e.symm), beq_false_of_ne (fun e => h1 e.symm)⟩
/-- isinstance(t, tuple) -/
theorem isT_tup {K : PySem.W.Frag} {H : Hp} {a : Addr} {xs : List V} (e : H a = some (.tup xs)) : TyX K H (.ref a) (.type "tuple") := .base (.tup e)
theorem isT_self {K : PySem.W.Frag} {t : Value} : PySem.W.kitOne K t t = some true := by
  unfold PySem.W.kitOne
  rw [if_pos (by simp)]

/-- what every law promises -/
def sp_law (K : PySem.W.Frag) : Sp := fun vs H Q _ => ∃ (a : Addr) (ns : List Int), vs = [.ref a] ∧ SqL K H a (ns.map V.int) ∧ ns.length ≤ 63 ∧ ∀ H', Q (.bl true) H'
end RR
/-! RRM: fractions, rows, ways: plain mathematics. -/
namespace RR

/-! ### the greatest common divisor -/
def dv (a b : Int) : Int := (Int.gcd a b : Int)
theorem gcd_step {x y : Int} (hx : 0 ≤ x) (hy : 0 < y) : Int.gcd y (x % y) = Int.gcd x y := by
  have h1 := Int.emod_nonneg x (show y ≠ 0 by omega)
  obtain ⟨a, rfl⟩ := Int.eq_ofNat_of_zero_le hx
  obtain ⟨b, rfl⟩ := Int.eq_ofNat_of_zero_le (show 0 ≤ y by omega)
  rw [← Int.natCast_emod]
  show Nat.gcd b (a % b) = Nat.gcd a b
  rw [Nat.gcd_comm a b, Nat.gcd_rec b a, Nat.gcd_comm]
theorem gcd_abs (a b : Int) : Int.gcd (if a < 0 then -a else a) (if b < 0 then -b else b) = Int.gcd a b := by
  split <;> split <;> simp only [Int.gcd_neg, Int.neg_gcd]
theorem gcd_end {x y : Int} (hx : 0 ≤ x) (hy : ¬ 0 < y) (h0 : 0 ≤ y) : x = (Int.gcd x y : Int) := by
  have e : y = 0 := by omega
  subst e
  rw [Int.gcd_zero_right]
  omega
theorem dv_nonneg (a b : Int) : 0 ≤ dv a b := Int.natCast_nonneg _
theorem dv_dvd_left (a b : Int) : dv a b ∣ a := Int.gcd_dvd_left a b
theorem dv_dvd_right (a b : Int) : dv a b ∣ b := Int.gcd_dvd_right a b
theorem dv_pos_right {a b : Int} (h : b ≠ 0) : 0 < dv a b := by
  have h1 : 0 < Int.gcd a b := Int.gcd_pos_of_ne_zero_right a h
  unfold dv
  omega
theorem dv_pos_left {a b : Int} (h : a ≠ 0) : 0 < dv a b := by
  have h1 : 0 < Int.gcd a b := Int.gcd_pos_of_ne_zero_left b h
  unfold dv
  omega
theorem dv_comm (a b : Int) : dv a b = dv b a := by
  unfold dv
  rw [Int.gcd_comm]
theorem dvd_dv {k a b : Int} (h1 : k ∣ a) (h2 : k ∣ b) : k ∣ dv a b := Int.dvd_coe_gcd h1 h2
theorem fdiv_neg_dvd {a g : Int} (h : g ∣ a) (hg : g ≠ 0) : a.fdiv (-g) = -(a / g) := by
  obtain ⟨k, rfl⟩ := h
  rw [Int.mul_ediv_cancel_left _ hg, show g * k = (-g) * (-k) by rw [Int.neg_mul_neg], Int.mul_fdiv_cancel_left _ (by omega)]
theorem neg_ediv_dvd {a g : Int} (h : g ∣ a) : (-a) / g = -(a / g) := Int.neg_ediv_of_dvd h
/-- the fraction u divided by l -/
def low (u l : Int) : Int × Int := if l < 0 then ((-u) / dv u l, (-l) / dv u l) else (u / dv u l, l / dv u l)
theorem dv_div {a b : Int} (h : 0 < dv a b) : dv (a / dv a b) (b / dv a b) = 1 := by
  have h1 : 0 < Int.gcd a b := by
    unfold dv at h
    omega
  have h2 := Int.gcd_ediv_gcd_ediv_gcd h1
  unfold dv
  omega
theorem dv_neg_left (a b : Int) : dv (-a) b = dv a b := by
  unfold dv
  rw [Int.neg_gcd]
theorem dv_neg_right (a b : Int) : dv a (-b) = dv a b := by
  unfold dv
  rw [Int.gcd_neg]
/-- what lowest gives, by products: the fraction is lowest and stands for the same -/
structure IsLow (u l p q : Int) : Prop where
  pos : 0 < q
  one : dv p q = 1
  cross : u * q = p * l
theorem low_is {u l : Int} (h : l ≠ 0) : IsLow u l (low u l).1 (low u l).2 := by
  have hg := dv_pos_right (a := u) h
  obtain ⟨a, ha⟩ := dv_dvd_left u l
  obtain ⟨b, hb⟩ := dv_dvd_right u l
  have hg0 : dv u l ≠ 0 := by omega
  have e1 : u / dv u l = a := by conv => lhs; lhs; rw [ha]
                                 exact Int.mul_ediv_cancel_left _ hg0
  have e2 : l / dv u l = b := by conv => lhs; lhs; rw [hb]
                                 exact Int.mul_ediv_cancel_left _ hg0
  have h1 := dv_div hg
  rw [e1, e2] at h1
  unfold low
  split
  · rename_i hl
    rw [neg_ediv_dvd (dv_dvd_left u l), neg_ediv_dvd (dv_dvd_right u l), e1, e2]
    refine ⟨?_, ?_, ?_⟩
    · have : ¬ 0 ≤ b := fun hb0 => by
        have := Int.mul_nonneg (Int.le_of_lt hg) hb0
        omega
      show 0 < -b
      omega
    · show dv (-a) (-b) = 1
      rw [dv_neg_left, dv_neg_right, h1]
    · show u * -b = -a * l
      generalize dv u l = g at *
      subst ha hb
      grind
  · rename_i hl
    rw [e1, e2]
    refine ⟨?_, h1, ?_⟩
    · have : ¬ b ≤ 0 := fun hb0 => by
        have := Int.mul_nonneg (Int.le_of_lt hg) (show 0 ≤ -b by omega)
        rw [Int.mul_neg] at this
        omega
      show 0 < b
      omega
    · show u * b = a * l
      generalize dv u l = g at *
      subst ha hb
      grind
/-- coprime: a divisor of a product -/
theorem dvd_of_mul {k a b : Int} (h : dv k a = 1) (h2 : k ∣ a * b) : k ∣ b := by
  have h1 : Int.gcd k a = 1 := by
    unfold dv at h
    omega
  rw [← Int.natAbs_dvd_natAbs] at h2 ⊢
  rw [Int.natAbs_mul] at h2
  exact Nat.Coprime.dvd_of_dvd_mul_left h1 h2
theorem low_unique {p q r s : Int} (h1 : 0 < q) (h2 : dv p q = 1) (h3 : 0 < s) (h4 : dv r s = 1) (h : p * s = r * q) : p = r ∧ q = s := by
  have a1 : q ∣ s := by
    refine dvd_of_mul (a := p) (by rw [dv_comm]; exact h2) ⟨r, ?_⟩
    rw [h, Int.mul_comm]
  have a2 : s ∣ q := by
    refine dvd_of_mul (a := r) (by rw [dv_comm]; exact h4) ⟨p, ?_⟩
    rw [← h, Int.mul_comm]
  have e : q = s := Int.dvd_antisymm (by omega) (by omega) a1 a2
  subst e
  exact ⟨Int.eq_of_mul_eq_mul_right (by omega) h, rfl⟩
theorem IsLow.eq {u l p q : Int} (h : l ≠ 0) (x : IsLow u l p q) : low u l = (p, q) := by
  have y := low_is (u := u) h
  obtain ⟨x1, x2, x3⟩ := x
  obtain ⟨y1, y2, y3⟩ := y
  have e : p * (low u l).2 = (low u l).1 * q := by
    have : l * (p * (low u l).2) = l * ((low u l).1 * q) := by grind
    exact Int.eq_of_mul_eq_mul_left h this
  obtain ⟨e1, e2⟩ := low_unique x1 x2 y1 y2 e
  rw [e1, e2]
theorem low_self {p q : Int} (h : 0 < q) (h2 : dv p q = 1) : low p q = (p, q) := IsLow.eq (by omega) ⟨h, h2, rfl⟩
theorem low_le {u l : Int} (h : 0 < l) : (low u l).2 ≤ l := by
  have hg := dv_pos_right (a := u) (show l ≠ 0 by omega)
  unfold low
  rw [if_neg (by omega)]
  exact Int.ediv_le_self _ (by omega)
theorem low_abs {u l : Int} (h : l ≠ 0) : (low u l).1.natAbs ≤ u.natAbs ∧ (low u l).2.natAbs ≤ l.natAbs := by
  have hg := dv_pos_right (a := u) h
  have k : ∀ z : Int, dv u l ∣ z → (z / dv u l).natAbs ≤ z.natAbs := fun z hz => by
    obtain ⟨c, rfl⟩ := hz
    rw [Int.mul_ediv_cancel_left _ (by omega), Int.natAbs_mul]
    exact Nat.le_mul_of_pos_left _ (by omega)
  unfold low
  split
  · rw [neg_ediv_dvd (dv_dvd_left u l), neg_ediv_dvd (dv_dvd_right u l)]
    exact ⟨by rw [Int.natAbs_neg]; exact k _ (dv_dvd_left u l), by rw [Int.natAbs_neg]; exact k _ (dv_dvd_right u l)⟩
  · exact ⟨k _ (dv_dvd_left u l), k _ (dv_dvd_right u l)⟩

/-! ### rows -/
/-- what a row stands for -/
def st : List Int → Int × Int
  | [] => (1, 0)
  | x :: r => (x * (st r).1 + (st r).2, (st r).1)
/-- whether a tuple is a row for fraction_of -/
def isRow (xs : List Int) : Bool := !xs.isEmpty && (xs.drop 1).all fun y => decide (1 ≤ y)

/-! ### ways -/
/-- the way to u divided by l -/
def way (u l : Int) : List Int := if h : 1 ≤ u ∧ 1 ≤ l ∧ u ≠ l then (if u < l then 0 :: way u (l - u) else 1 :: way (u - l) l) else []
termination_by (u + l).toNat
decreasing_by all_goals omega
theorem way_eq (u : Int) : way u u = [] := by
  unfold way
  rw [dif_neg (fun h => h.2.2 rfl)]
theorem way_lo {u l : Int} (h1 : 1 ≤ u) (h2 : u < l) : way u l = 0 :: way u (l - u) := by
  conv => lhs; unfold way
  rw [dif_pos ⟨h1, by omega, by omega⟩, if_pos h2]
theorem way_hi {u l : Int} (h1 : 1 ≤ l) (h2 : l < u) : way u l = 1 :: way (u - l) l := by
  conv => lhs; unfold way
  rw [dif_pos ⟨by omega, h1, by omega⟩, if_neg (by omega)]
theorem way_len {u l : Int} (h1 : 1 ≤ u) (h2 : 1 ≤ l) : ((way u l).length : Int) + 2 ≤ u + l := by
  by_cases h : u = l
  · subst h
    rw [way_eq]
    show (0 : Int) + 2 ≤ _
    omega
  · by_cases h3 : u < l
    · have ih := way_len (u := u) (l := l - u) h1 (by omega)
      rw [way_lo h1 h3, List.length_cons]
      omega
    · have ih := way_len (u := u - l) (l := l) (by omega) h2
      rw [way_hi h2 (by omega), List.length_cons]
      omega
termination_by (u + l).toNat
decreasing_by all_goals omega
/-- where a way leads -/
def bw : List Int → Int × Int
  | [] => (1, 1)
  | s :: w => if s = 0 then ((bw w).1, (bw w).1 + (bw w).2) else ((bw w).1 + (bw w).2, (bw w).2)
theorem bw_pos : ∀ w : List Int, 1 ≤ (bw w).1 ∧ 1 ≤ (bw w).2
  | [] => ⟨Int.le_refl 1, Int.le_refl 1⟩
  | s :: w => by
    have ih := bw_pos w
    unfold bw
    split
    · exact ⟨ih.1, by show 1 ≤ (bw w).1 + (bw w).2; omega⟩
    · exact ⟨by show 1 ≤ (bw w).1 + (bw w).2; omega, ih.2⟩
theorem bw_big : ∀ w : List Int, (bw w).1 ≤ 2 ^ w.length ∧ (bw w).2 ≤ 2 ^ w.length
  | [] => ⟨Int.le_refl 1, Int.le_refl 1⟩
  | s :: w => by
    have ih := bw_big w
    have p := bw_pos w
    unfold bw
    rw [List.length_cons, Int.pow_succ]
    split
    · exact ⟨by show (bw w).1 ≤ _; omega, by show (bw w).1 + (bw w).2 ≤ _; omega⟩
    · exact ⟨by show (bw w).1 + (bw w).2 ≤ _; omega, by show (bw w).2 ≤ _; omega⟩
theorem bw_lo (w : List Int) : bw (0 :: w) = ((bw w).1, (bw w).1 + (bw w).2) := by
  conv => lhs; unfold bw
  rw [if_pos rfl]
theorem bw_hi (w : List Int) : bw (1 :: w) = ((bw w).1 + (bw w).2, (bw w).2) := by
  conv => lhs; unfold bw
  rw [if_neg (by decide)]
theorem way_bw : ∀ w : List Int, (∀ s ∈ w, s = 0 ∨ s = 1) → way (bw w).1 (bw w).2 = w
  | [], _ => way_eq 1
  | s :: w, h => by
    have ih := way_bw w fun x hx => h x (List.mem_cons_of_mem _ hx)
    have p := bw_pos w
    rcases h s List.mem_cons_self with rfl | rfl
    · rw [bw_lo]
      show way (bw w).1 ((bw w).1 + (bw w).2) = _
      rw [way_lo p.1 (by omega), show (bw w).1 + (bw w).2 - (bw w).1 = (bw w).2 by omega, ih]
    · rw [bw_hi]
      show way ((bw w).1 + (bw w).2) (bw w).2 = _
      rw [way_hi p.2 (by omega), show (bw w).1 + (bw w).2 - (bw w).2 = (bw w).1 by omega, ih]
theorem dv_sub_right {u l : Int} : dv u (l - u) = dv u l := by
  unfold dv
  rw [Int.gcd_sub_self_right]
theorem dv_add_right {u l : Int} : dv u (u + l) = dv u l := by
  unfold dv
  rw [Int.gcd_self_add_right]
theorem dv_sub_left {u l : Int} : dv (u - l) l = dv u l := by
  unfold dv
  rw [Int.gcd_sub_self_left]
theorem dv_add_left {u l : Int} : dv (u + l) l = dv u l := by
  unfold dv
  rw [Int.gcd_add_self_left]
theorem dv_self {u : Int} (h : 0 ≤ u) : dv u u = u := by
  unfold dv
  rw [Int.gcd_self]
  omega
theorem bw_low : ∀ w : List Int, dv (bw w).1 (bw w).2 = 1
  | [] => by decide
  | s :: w => by
    have ih := bw_low w
    unfold bw
    split
    · show dv (bw w).1 ((bw w).1 + (bw w).2) = 1
      rw [dv_add_right, ih]
    · show dv ((bw w).1 + (bw w).2) (bw w).2 = 1
      rw [dv_add_left, ih]
theorem bw_way {u l : Int} (h1 : 1 ≤ u) (h2 : 1 ≤ l) (h : dv u l = 1) : bw (way u l) = (u, l) := by
  by_cases e : u = l
  · subst e
    rw [dv_self (by omega)] at h
    subst h
    rw [way_eq]
    rfl
  · by_cases h3 : u < l
    · have ih := bw_way (u := u) (l := l - u) h1 (by omega) (by rw [dv_sub_right, h])
      rw [way_lo h1 h3, bw_lo, ih]
      show (u, u + (l - u)) = (u, l)
      rw [show u + (l - u) = l by omega]
    · have ih := bw_way (u := u - l) (l := l) (by omega) h2 (by rw [dv_sub_left, h])
      rw [way_hi h2 (by omega), bw_hi, ih]
      show (u - l + l, l) = (u, l)
      rw [show u - l + l = u by omega]
termination_by (u + l).toNat
decreasing_by all_goals omega
theorem way_01 {u l : Int} : ∀ s ∈ way u l, s = 0 ∨ s = 1 := by
  unfold way
  split
  · rename_i h
    obtain ⟨h1, h2, h3⟩ := h
    split
    · intro s hs
      rcases List.mem_cons.mp hs with rfl | hs
      · exact .inl rfl
      · exact way_01 s hs
    · intro s hs
      rcases List.mem_cons.mp hs with rfl | hs
      · exact .inr rfl
      · exact way_01 s hs
  · intro s hs
    cases hs
termination_by (u + l).toNat
decreasing_by all_goals omega
/-- two bounds, and the rest of the way between -/
theorem bw_step {w : List Int} {s a b c d X Y : Int} (h : X = a * (bw (s :: w)).2 + c * (bw (s :: w)).1) (h2 : Y = b * (bw (s :: w)).2 + d * (bw (s :: w)).1) :
    if s = 0 then X = a * (bw w).2 + (a + c) * (bw w).1 ∧ Y = b * (bw w).2 + (b + d) * (bw w).1 else X = (a + c) * (bw w).2 + c * (bw w).1 ∧ Y = (b + d) * (bw w).2 + d * (bw w).1 := by
  unfold bw at h h2
  split
  · rename_i e
    rw [if_pos e] at h h2
    exact ⟨by rw [h]; grind, by rw [h2]; grind⟩
  · rename_i e
    rw [if_neg e] at h h2
    exact ⟨by rw [h]; grind, by rw [h2]; grind⟩

/-! ### rows by division -/
/-- the row of u divided by l -/
def row (u l : Int) : List Int := if 0 < l then (u / l) :: row l (u % l) else []
termination_by l.toNat
decreasing_by
  have h1 := Int.emod_lt_of_pos u (show 0 < l by assumption)
  omega
theorem row_zero {u l : Int} (h : ¬ 0 < l) : row u l = [] := by
  unfold row
  rw [if_neg h]
theorem row_cons {u l : Int} (h : 0 < l) : row u l = (u / l) :: row l (u % l) := by
  conv => lhs; unfold row
  rw [if_pos h]
theorem row_len {u l : Int} (h : 0 ≤ l) : ((row u l).length : Int) ≤ l + 1 := by
  by_cases h0 : 0 < l
  · have h1 := Int.emod_lt_of_pos u h0
    have h2 := Int.emod_nonneg u (show l ≠ 0 by omega)
    have ih := row_len (u := l) (l := u % l) h2
    rw [row_cons h0, List.length_cons]
    omega
  · rw [row_zero h0]
    show (0 : Int) ≤ _
    omega
termination_by l.toNat
decreasing_by omega
theorem sum_swap {u l : Int} (h1 : 0 < u) (h2 : 0 < l) : (row u l).sum = (row l u).sum := by
  by_cases e : u = l
  · rw [e]
  · by_cases h : u < l
    · rw [row_cons h2, Int.ediv_eq_zero_of_lt (by omega) h, Int.emod_eq_of_lt (by omega) h, List.sum_cons, Int.zero_add]
    · rw [row_cons h1, Int.ediv_eq_zero_of_lt (by omega) (by omega), Int.emod_eq_of_lt (by omega) (by omega), List.sum_cons, Int.zero_add]
theorem sum_add {u l : Int} (h : 0 < l) : (row (u + l) l).sum = 1 + (row u l).sum := by
  rw [row_cons h, row_cons h, List.sum_cons, List.sum_cons, Int.add_emod_right, Int.add_ediv_of_dvd_right (Int.dvd_refl l), Int.ediv_self (by omega)]
  omega
theorem row_sum {u l : Int} (h1 : 1 ≤ u) (h2 : 1 ≤ l) (h : dv u l = 1) : (row u l).sum = ((way u l).length : Int) + 1 := by
  by_cases e : u = l
  · subst e
    rw [dv_self (by omega)] at h
    subst h
    rw [way_eq, row_cons (by decide), row_zero (by decide)]
    decide
  · by_cases h3 : u < l
    · have ih := row_sum (u := u) (l := l - u) h1 (by omega) (by rw [dv_sub_right, h])
      rw [way_lo h1 h3, List.length_cons, sum_swap (by omega) (by omega), show l = (l - u) + u by omega, sum_add (by omega), ← sum_swap (by omega) (by omega)]
      have e2 : l - u + u - u = l - u := by omega
      rw [e2, ih]
      omega
    · have ih := row_sum (u := u - l) (l := l) (by omega) h2 (by rw [dv_sub_left, h])
      have e2 : u = (u - l) + l := by omega
      rw [way_hi h2 (by omega), List.length_cons, e2, sum_add (by omega), ih]
      have e3 : u - l + l - l = u - l := by omega
      rw [e3]
      omega
termination_by (u + l).toNat
decreasing_by all_goals omega
/-! ### what a row stands for, and back -/
theorem dv_mod {u l : Int} : dv l (u % l) = dv u l := by
  have h := Int.emod_add_mul_ediv u l
  unfold dv
  conv => rhs; rw [← h]
  rw [Int.gcd_comm (u % l + l * (u / l)) l, Int.mul_comm, Int.gcd_add_mul_right_right]
theorem dv_zero {u : Int} (h : 0 ≤ u) : dv u 0 = u := by
  unfold dv
  rw [Int.gcd_zero_right]
  omega
theorem st_row {u l : Int} (h : 0 ≤ l) (h0 : 0 < l ∨ u = 1) (h1 : dv u l = 1) : st (row u l) = (u, l) := by
  by_cases hl : 0 < l
  · have h2 := Int.emod_lt_of_pos u hl
    have h3 := Int.emod_nonneg u (show l ≠ 0 by omega)
    have h4 : dv l (u % l) = 1 := by rw [dv_mod, h1]
    have ih := st_row (u := l) (l := u % l) h3 (by
      by_cases z : 0 < u % l
      · exact .inl z
      · right
        have e : u % l = 0 := by omega
        rw [e, dv_zero h] at h4
        exact h4) h4
    rw [row_cons hl]
    show ((u / l) * (st (row l (u % l))).1 + (st (row l (u % l))).2, (st (row l (u % l))).1) = _
    rw [ih]
    show ((u / l) * l + u % l, l) = (u, l)
    rw [Int.ediv_mul_add_emod]
  · rw [row_zero hl]
    rcases h0 with h0 | h0
    · exact absurd h0 hl
    · rw [h0, show l = 0 by omega]
      rfl
termination_by l.toNat
decreasing_by omega
theorem row_pos {u l : Int} (h : 0 ≤ l) (h1 : l < u) : ∀ y ∈ row u l, 1 ≤ y := by
  intro y hy
  by_cases hl : 0 < l
  · have h2 := Int.emod_lt_of_pos u hl
    have h3 := Int.emod_nonneg u (show l ≠ 0 by omega)
    rw [row_cons hl] at hy
    rcases List.mem_cons.mp hy with rfl | hy
    · exact (Int.le_ediv_iff_mul_le hl).mpr (by omega)
    · exact row_pos h3 h2 y hy
  · rw [row_zero hl] at hy
    cases hy
termination_by l.toNat
decreasing_by omega
theorem row_last {u l : Int} (h : 0 < l) (h1 : l < u) : ∀ y, (row u l).getLast? = some y → 2 ≤ y := by
  intro y hy
  have h2 := Int.emod_lt_of_pos u h
  have h3 := Int.emod_nonneg u (show l ≠ 0 by omega)
  rw [row_cons h] at hy
  by_cases hz : 0 < u % l
  · have e : row l (u % l) = (l / (u % l)) :: row (u % l) (l % (u % l)) := row_cons hz
    rw [e, List.getLast?_cons_cons, ← e] at hy
    exact row_last hz h2 y hy
  · rw [row_zero hz] at hy
    have e : u / l = y := Option.some.inj hy
    have h4 := Int.ediv_mul_add_emod u l
    rw [← e]
    by_cases h5 : 2 ≤ u / l
    · exact h5
    · exfalso
      have h6 : (u / l) * l ≤ 1 * l := Int.mul_le_mul_of_nonneg_right (by omega) (by omega)
      omega
termination_by l.toNat
decreasing_by omega
theorem row_ne {u l : Int} (h : 0 < l) : row u l ≠ [] := by
  rw [row_cons h]
  exact List.cons_ne_nil _ _
theorem row_tail {u l : Int} (h : 0 < l) : ∀ y ∈ (row u l).drop 1, 1 ≤ y := by
  rw [row_cons h]
  exact row_pos (Int.emod_nonneg u (by omega)) (Int.emod_lt_of_pos u h)
theorem row_last2 {u l : Int} (h : 0 < l) (h2 : 2 ≤ (row u l).length) : ∀ y, (row u l).getLast? = some y → 2 ≤ y := by
  intro y hy
  rw [row_cons h] at hy h2
  by_cases hz : 0 < u % l
  · have e : row l (u % l) = (l / (u % l)) :: row (u % l) (l % (u % l)) := row_cons hz
    rw [e, List.getLast?_cons_cons, ← e] at hy
    exact row_last hz (Int.emod_lt_of_pos u h) y hy
  · rw [row_zero hz] at h2
    simp at h2
theorem row_len2 {u l : Int} (n : Nat) (h : 0 ≤ l) (hn : l < 2 ^ n) : (row u l).length ≤ 2 * n + 1 := by
  induction n generalizing u l with
  | zero =>
    rw [row_zero (by simp at hn; omega)]
    exact Nat.zero_le _
  | succ n ih =>
    by_cases hl : 0 < l
    · have h2 := Int.emod_lt_of_pos u hl
      have h3 := Int.emod_nonneg u (show l ≠ 0 by omega)
      rw [row_cons hl, List.length_cons]
      by_cases hz : 0 < u % l
      · have h4 := Int.emod_lt_of_pos l hz
        have h5 := Int.emod_nonneg l (show u % l ≠ 0 by omega)
        have h6 := Int.ediv_mul_add_emod l (u % l)
        have h7 : 1 ≤ l / (u % l) := (Int.le_ediv_iff_mul_le hz).mpr (by omega)
        have h8 : 1 * (u % l) ≤ l / (u % l) * (u % l) := Int.mul_le_mul_of_nonneg_right h7 (by omega)
        have := ih (u := u % l) (l := l % (u % l)) h5 (by rw [Int.pow_succ] at hn; omega)
        rw [row_cons hz, List.length_cons]
        omega
      · rw [row_zero hz]
        show 0 + 1 ≤ _
        omega
    · rw [row_zero hl]
      exact Nat.zero_le _
/-- of a canonical rest -/
theorem row_st_rest : ∀ s : List Int, s ≠ [] → (∀ y ∈ s, 1 ≤ y) → (∀ y, s.getLast? = some y → 2 ≤ y) → 0 < (st s).2 ∧ (st s).2 < (st s).1 ∧ row (st s).1 (st s).2 = s
  | [], h, _, _ => absurd rfl h
  | [y], _, _, h2 => by
    have hy := h2 y rfl
    show 0 < (1 : Int) ∧ (1 : Int) < y * 1 + 0 ∧ row (y * 1 + 0) 1 = [y]
    refine ⟨by decide, by omega, ?_⟩
    rw [Int.mul_one, Int.add_zero, row_cons (by decide), Int.ediv_one, row_zero (by rw [Int.emod_one]; decide)]
  | y :: z :: s, _, h1, h2 => by
    obtain ⟨a, b, c⟩ := row_st_rest (z :: s) (List.cons_ne_nil _ _) (fun x hx => h1 x (List.mem_cons_of_mem _ hx)) (fun x hx => h2 x (by rw [List.getLast?_cons_cons]; exact hx))
    have hy := h1 y List.mem_cons_self
    generalize hst : st (z :: s) = ul at *
    obtain ⟨u, l⟩ := ul
    have e : st (y :: z :: s) = (y * u + l, u) := by
      show (y * (st (z :: s)).1 + (st (z :: s)).2, (st (z :: s)).1) = _
      rw [hst]
    rw [e]
    have a' : 0 < l := a
    have b' : l < u := b
    have c' : row u l = z :: s := c
    show 0 < u ∧ u < y * u + l ∧ row (y * u + l) u = y :: z :: s
    have h3 : 1 * u ≤ y * u := Int.mul_le_mul_of_nonneg_right hy (by omega)
    refine ⟨by omega, by omega, ?_⟩
    have e1 : (y * u + l) / u = y := by
      rw [Int.add_comm, Int.add_mul_ediv_right _ _ (by omega), Int.ediv_eq_zero_of_lt (by omega) b', Int.zero_add]
    have e2 : (y * u + l) % u = l := by
      rw [Int.add_comm, Int.add_mul_emod_self_right, Int.emod_eq_of_lt (by omega) b']
    rw [row_cons (by omega), e1, e2, c']
theorem row_st (x : Int) (s : List Int) (h1 : ∀ y ∈ s, 1 ≤ y) (h2 : s ≠ [] → ∀ y, s.getLast? = some y → 2 ≤ y) : 0 < (st (x :: s)).2 ∧ row (st (x :: s)).1 (st (x :: s)).2 = x :: s := by
  cases s with
  | nil =>
    show 0 < (1 : Int) ∧ row (x * 1 + 0) 1 = [x]
    refine ⟨by decide, ?_⟩
    rw [Int.mul_one, Int.add_zero, row_cons (by decide), Int.ediv_one, row_zero (by rw [Int.emod_one]; decide)]
  | cons z s =>
    obtain ⟨a, b, c⟩ := row_st_rest (z :: s) (List.cons_ne_nil _ _) h1 (h2 (List.cons_ne_nil _ _))
    generalize hst : st (z :: s) = ul at *
    obtain ⟨u, l⟩ := ul
    have e : st (x :: z :: s) = (x * u + l, u) := by
      show (x * (st (z :: s)).1 + (st (z :: s)).2, (st (z :: s)).1) = _
      rw [hst]
    rw [e]
    have a' : 0 < l := a
    have b' : l < u := b
    have c' : row u l = z :: s := c
    show 0 < u ∧ row (x * u + l) u = x :: z :: s
    have e1 : (x * u + l) / u = x := by
      rw [Int.add_comm, Int.add_mul_ediv_right _ _ (by omega), Int.ediv_eq_zero_of_lt (by omega) b', Int.zero_add]
    have e2 : (x * u + l) % u = l := by
      rw [Int.add_comm, Int.add_mul_emod_self_right, Int.emod_eq_of_lt (by omega) b']
    exact ⟨by omega, by rw [row_cons (by omega), e1, e2, c']⟩
/-- a last 1 goes into the one ahead -/
theorem st_merge : ∀ (s : List Int) (y : Int), st (s ++ [y, 1]) = st (s ++ [y + 1])
  | [], y => by
    show (y * (1 * 1 + 0) + 1, (1 * 1 + 0 : Int)) = ((y + 1) * 1 + 0, 1)
    rw [show (1 * 1 + 0 : Int) = 1 from rfl, Int.mul_one, Int.mul_one, Int.add_zero]
  | x :: s, y => by
    show (x * (st (s ++ [y, 1])).1 + (st (s ++ [y, 1])).2, (st (s ++ [y, 1])).1) = _
    rw [st_merge s y]
    rfl
theorem ediv_abs {u l : Int} (h : 0 < l) : (u / l).natAbs ≤ u.natAbs := by
  have h1 := Int.ediv_mul_add_emod u l
  have h2 := Int.emod_lt_of_pos u h
  have h3 := Int.emod_nonneg u (show l ≠ 0 by omega)
  by_cases hq : 0 ≤ u / l
  · have : (u / l) * 1 ≤ (u / l) * l := Int.mul_le_mul_of_nonneg_left (by omega) hq
    omega
  · have h4 : (u / l + 1) * l ≤ (u / l + 1) * 1 := by
      have h5 : (-(u / l + 1)) * 1 ≤ (-(u / l + 1)) * l := Int.mul_le_mul_of_nonneg_left (by omega) (by omega)
      rw [Int.neg_mul, Int.neg_mul] at h5
      omega
    rw [Int.add_mul, Int.one_mul] at h4
    omega
theorem row_mem {u l : Int} (h : 0 ≤ l) : ∀ y ∈ row u l, y.natAbs ≤ max u.natAbs l.natAbs := by
  intro y hy
  by_cases hl : 0 < l
  · have h2 := Int.emod_lt_of_pos u hl
    have h3 := Int.emod_nonneg u (show l ≠ 0 by omega)
    rw [row_cons hl] at hy
    rcases List.mem_cons.mp hy with rfl | hy
    · have := ediv_abs (u := u) hl
      omega
    · have := row_mem h3 y hy
      omega
  · rw [row_zero hl] at hy
    cases hy
termination_by l.toNat
decreasing_by omega
theorem row_drop {u l : Int} (h : 0 ≤ l) (h0 : 0 < l ∨ u = 1) (h1 : dv u l = 1) : ∀ j, (st ((row u l).drop j)).1.natAbs ≤ max u.natAbs (max l.natAbs 1) := by
  intro j
  cases j with
  | zero =>
    rw [List.drop_zero, st_row h h0 h1]
    show u.natAbs ≤ _
    omega
  | succ j =>
    by_cases hl : 0 < l
    · have h2 := Int.emod_lt_of_pos u hl
      have h3 := Int.emod_nonneg u (show l ≠ 0 by omega)
      have h4 : dv l (u % l) = 1 := by rw [dv_mod, h1]
      rw [row_cons hl, List.drop_succ_cons]
      have := row_drop (u := l) (l := u % l) h3 (by
        by_cases z : 0 < u % l
        · exact .inl z
        · right
          have e : u % l = 0 := by omega
          rw [e, dv_zero h] at h4
          exact h4) h4 j
      omega
    · rw [row_zero hl, List.drop_nil]
      show (1 : Int).natAbs ≤ _
      simp
      omega
termination_by l.toNat
decreasing_by omega
theorem st_abs : ∀ xs : List Int, (∀ y ∈ xs, y.natAbs ≤ 40) → (st xs).1.natAbs ≤ 41 ^ xs.length ∧ (st xs).2.natAbs ≤ 41 ^ xs.length
  | [], _ => ⟨Nat.le_refl 1, Nat.zero_le _⟩
  | x :: s, h => by
    obtain ⟨a, b⟩ := st_abs s fun y hy => h y (List.mem_cons_of_mem _ hy)
    have hx := h x List.mem_cons_self
    rw [List.length_cons, Nat.pow_succ]
    have h1 : (x * (st s).1).natAbs ≤ 40 * 41 ^ s.length := by
      rw [Int.natAbs_mul]
      exact Nat.mul_le_mul hx a
    exact ⟨by show (x * (st s).1 + (st s).2).natAbs ≤ _; omega, by show (st s).1.natAbs ≤ _; omega⟩
end RR
/-! RRS: the promises of the defs. -/
namespace RR
open PySem PySem.Spec PyProof.Rows L2
/-- within four thousand bits -/
structure Big (x : Int) : Prop where
  lt : x.natAbs < 2 ^ 4000
theorem big_of {x : Int} (h : x.natAbs < 2 ^ 60) : Big x := ⟨Nat.lt_of_lt_of_le h (Nat.pow_le_pow_right (by decide) (by decide))⟩
theorem big_le {x y : Int} (h : x.natAbs ≤ y.natAbs) (hy : Big y) : Big x := ⟨Nat.lt_of_le_of_lt h hy.lt⟩
theorem len1 {α : Type} {a : α} : [a].length ≤ sizeLine := small_le (show 1 ≤ 10000000 by decide)
theorem len2 {α : Type} {a b : α} : [a, b].length ≤ sizeLine := small_le (show 2 ≤ 10000000 by decide)
theorem len4 {α : Type} {a b c d : α} : [a, b, c, d].length ≤ sizeLine := small_le (show 4 ≤ 10000000 by decide)
theorem map_get {ns : List Int} {i : Nat} {x : V} (h : (ns.map V.int)[i]? = some x) : ∃ n, ns[i]? = some n ∧ x = .int n := by
  rw [List.getElem?_map] at h
  cases e : ns[i]? with
  | none =>
    rw [e] at h
    cases h
  | some n =>
    rw [e] at h
    exact ⟨n, rfl, (Option.some.inj h).symm⟩
theorem get_map {ns : List Int} {i : Nat} {n : Int} (h : ns[i]? = some n) : (ns.map V.int)[i]? = some (.int n) := by
  rw [List.getElem?_map, h]
  rfl
theorem Big.log {x : Int} (h : Big x) : x.natAbs.log2 < 4000 := PySem.Flt.log2_lt_of (by decide) h.lt
theorem Big.mul {x y : Int} (h : Big x) (h2 : Big y) : CMulW x y := by
  have h3 := h.log
  have h4 := h2.log
  unfold CMulW
  omega
/-- divisor -/
def sp_divisor : Sp := fun vs H Q _ => ∃ a b : Int, vs = [.int a, .int b] ∧ Q (.int (dv a b)) H
/-- lowest, as the laws have it (the lower one is not 0) -/
def sp_lowH : Sp := fun vs H Q _ => ∃ u l : Int, vs = [.int u, .int l] ∧ l ≠ 0 ∧ Big u ∧ Big l ∧ ∀ p, H p = none → Q (.ref p) (upd H p (tI [(low u l).1, (low u l).2]))
/-- lowest -/
def sp_lowest (C : Addr) : Sp := fun vs H Q E => ∃ u l : Int, vs = [.int u, .int l] ∧ Big u ∧ Big l ∧ (l = 0 → E (.ref C) none H) ∧ (l ≠ 0 → ∀ p, H p = none → Q (.ref p) (upd H p (tI [(low u l).1, (low u l).2])))
/-- a cell of the script -/
def cellOf (ns : List Int) (k : Nat) : Int := ns.getD k 0
def sp_cell (K : PySem.W.Frag) : Sp := fun vs H Q _ => ∃ (a : Addr) (ns : List Int) (k : Nat), vs = [.ref a, .int k] ∧ SqL K H a (ns.map V.int) ∧ k < 1000 ∧ Q (.int (cellOf ns k)) H
/-- a draw -/
def mix (c p m : Int) : Int := c * 48271 % p % m
def sp_mix : Sp := fun vs H Q _ => ∃ c p m : Int, vs = [.int c, .int p, .int m] ∧ 0 < p ∧ 0 < m ∧ Q (.int (mix c p m)) H
/-- a drawn fraction -/
def frac (c o w : Int) : Int × Int := low (mix c 1000003 (2 * w + 1) - w) (1 + mix o 999983 w)
def sp_fraction : Sp := fun vs H Q _ => ∃ c o w : Int, vs = [.int c, .int o, .int w] ∧ 0 < w ∧ w < 1000000 ∧ ∀ p, H p = none → Q (.ref p) (upd H p (tI [(frac c o w).1, (frac c o w).2]))
/-- fraction_of -/
def sp_fraction_of (C : Addr) : Sp := fun vs H Q E => ∃ (t : Addr) (xs : List Int), vs = [.ref t] ∧ H t = some (tI xs) ∧ xs.length ≤ 1000000 ∧
  (isRow xs = false → ∀ H', Same H H' → E (.ref C) none H') ∧
  (isRow xs = true → (∀ y ∈ xs, Big y) ∧ (∀ j, Big (st (xs.drop j)).1) ∧ ∀ H' p, Same H H' → H p = none → H' p = some (tI [(st xs).1, (st xs).2]) → Q (.ref p) H')
/-- way_to -/
def sp_way_to (C : Addr) : Sp := fun vs H Q E => ∃ (t : Addr) (u l : Int), vs = [.ref t] ∧ H t = some (tI [u, l]) ∧ (u < 1 → E (.ref C) none H) ∧
  (1 ≤ u → 1 ≤ l ∧ (way u l).length ≤ 1000000 ∧ ∀ H' p, Same H H' → H p = none → H' p = some (tI (way u l)) → Q (.ref p) H')
/-- middle -/
def sp_middle : Sp := fun vs H Q _ => ∃ (t u : Addr) (a b c d : Int), vs = [.ref t, .ref u] ∧ H t = some (tI [a, b]) ∧ H u = some (tI [c, d]) ∧ ∀ p, H p = none → Q (.ref p) (upd H p (tI [a + c, b + d]))
/-- where a way leads -/
def sp_walked : Sp := fun vs H Q _ => ∃ (t : Addr) (ws : List Int), vs = [.ref t] ∧ H t = some (tI ws) ∧ (∀ s ∈ ws, s = 0 ∨ s = 1) ∧ ∀ H' p, Same H H' → H p = none → H' p = some (tI [(bw ws).1, (bw ws).2]) → Q (.ref p) H'
/-- row_of -/
def sp_row_of : Sp := fun vs H Q _ => ∃ (t : Addr) (u l : Int), vs = [.ref t] ∧ H t = some (tI [u, l]) ∧ 0 < l ∧ Big l ∧ (row u l).length ≤ 1000000 ∧ ∀ H' p, Same H H' → H p = none → H' p = some (tI (row u l)) → Q (.ref p) H'
/-- a whole number -/
def sp_whole : Sp := fun vs H Q _ => ∃ z : Int, vs = [.int z] ∧ Q (.bl true) H
/-- a sequence of ints: a list or a tuple -/
def Sq (H : Hp) (t : Addr) (xs : List Int) : Prop := H t = some (tI xs) ∨ H t = some (lI xs)
theorem Sq.same {H H' : Hp} {t : Addr} {xs : List Int} (h : Sq H t xs) (s : Same H H') : Sq H' t xs := h.imp (s _ _) (s _ _)
/-- stands, by hand -/
def sp_stands : Sp := fun vs H Q _ => ∃ (t : Addr) (xs : List Int), vs = [.ref t] ∧ Sq H t xs ∧ xs ≠ [] ∧ xs.length ≤ 1000000 ∧ (∀ y ∈ xs, Big y) ∧ (∀ j, Big (st (xs.drop j)).1) ∧ ∀ H' p, Same H H' → H p = none → H' p = some (tI [(st xs).1, (st xs).2]) → Q (.ref p) H'
/-- first_parts of a fraction -/
def sp_first_parts0 : Sp := fun vs H Q _ => ∃ (t : Addr) (u l : Int) (k : Nat), vs = [.ref t, .int k] ∧ H t = some (tI [u, l]) ∧ 0 < l ∧ Big l ∧ (row u l).length ≤ 1000000 ∧ ∀ H' p, Same H H' → H p = none → H' p = some (tI ((row u l).take k)) → Q (.ref p) H'
end RR
/-! RRQ: squares, roots of square equations and their cuts: plain mathematics. -/
namespace RR

/-! ### square roots of whole numbers -/
def rtStep (r n : Nat) : Nat := if (2 * r + 1) * (2 * r + 1) ≤ n then 2 * r + 1 else 2 * r
def rtF : Nat → Nat → Nat
  | 0, _ => 0
  | k + 1, n => rtStep (rtF k (n / 4)) n
theorem rtF_spec : ∀ k n, n < 4 ^ k → rtF k n * rtF k n ≤ n ∧ n < (rtF k n + 1) * (rtF k n + 1)
  | 0, n, h => by
    have : n = 0 := by simpa using h
    subst this
    decide
  | k + 1, n, h => by
    have h4 : n / 4 < 4 ^ k := by
      rw [Nat.pow_succ] at h
      omega
    obtain ⟨a, b⟩ := rtF_spec k (n / 4) h4
    show rtStep (rtF k (n / 4)) n * rtStep (rtF k (n / 4)) n ≤ n ∧ n < (rtStep (rtF k (n / 4)) n + 1) * (rtStep (rtF k (n / 4)) n + 1)
    generalize rtF k (n / 4) = r at *
    unfold rtStep
    have e1 : (2 * r + 1) * (2 * r + 1) = 4 * (r * r) + 4 * r + 1 := by grind
    have e2 : 2 * r * (2 * r) = 4 * (r * r) := by grind
    have e3 : (r + 1) * (r + 1) = r * r + 2 * r + 1 := by grind
    have e4 : (2 * r + 1 + 1) * (2 * r + 1 + 1) = 4 * (r * r) + 8 * r + 4 := by grind
    split
    · rw [e4]
      omega
    · omega
/-- the whole root of n, for n from 0 on -/
def rt (n : Int) : Int := (rtF (n.toNat.log2 / 2 + 1) n.toNat : Nat)
theorem rt_spec {n : Int} (h : 0 ≤ n) : 0 ≤ rt n ∧ rt n * rt n ≤ n ∧ n < (rt n + 1) * (rt n + 1) := by
  have h1 : n.toNat < 4 ^ (n.toNat.log2 / 2 + 1) := by
    have h2 : n.toNat < 2 ^ (n.toNat.log2 + 1) := Nat.lt_log2_self
    refine Nat.lt_of_lt_of_le h2 ?_
    rw [show (4 : Nat) = 2 ^ 2 from rfl, ← Nat.pow_mul]
    exact Nat.pow_le_pow_right (by decide) (by omega)
  obtain ⟨a, b⟩ := rtF_spec _ _ h1
  unfold rt
  generalize rtF (n.toNat.log2 / 2 + 1) n.toNat = r at *
  refine ⟨Int.natCast_nonneg _, ?_, ?_⟩
  · have : (r : Int) * (r : Int) = ((r * r : Nat) : Int) := by simp
    omega
  · have : ((r : Int) + 1) * ((r : Int) + 1) = (((r + 1) * (r + 1) : Nat) : Int) := by simp
    omega
theorem sq_lt {a b : Int} (h : 0 ≤ b) (h2 : a * a < b * b) : a < b := by
  by_cases h3 : a < b
  · exact h3
  · have := Int.mul_self_le_mul_self h (show b ≤ a by omega)
    omega
theorem sq_le {a b : Int} (h : 0 ≤ b) (h2 : a * a ≤ b * b) : a ≤ b := by
  by_cases h3 : a ≤ b
  · exact h3
  · have := Int.mul_self_lt_mul_self h (show b < a by omega)
    omega
theorem sq_lt' {a b : Int} (h : 0 ≤ b) (h2 : a * a < b * b) : -b < a := by
  have := sq_lt (a := -a) h (by rw [Int.neg_mul_neg]; exact h2)
  omega
theorem rt_unique {n r : Int} (h : 0 ≤ r) (h1 : r * r ≤ n) (h2 : n < (r + 1) * (r + 1)) : rt n = r := by
  have h0 : 0 ≤ n := Int.le_trans (Int.mul_nonneg h h) h1
  obtain ⟨a, b, c⟩ := rt_spec h0
  have x1 := sq_lt (a := r) (b := rt n + 1) (by omega) (by omega)
  have x2 := sq_lt (a := rt n) (b := r + 1) (by omega) (by omega)
  omega
theorem rt_le {n : Int} (h : 0 ≤ n) : rt n ≤ n := by
  obtain ⟨a, b, c⟩ := rt_spec h
  by_cases h1 : rt n ≤ 0
  · omega
  · have : rt n * 1 ≤ rt n * rt n := Int.mul_le_mul_of_nonneg_left (by omega) a
    omega
/-- whether n is a square -/
def isSq (n : Int) : Bool := decide (rt n * rt n = n)
theorem isSq_of {n x : Int} (h : x * x = n) : isSq n = true := by
  have key : ∀ y : Int, 0 ≤ y → y * y = n → isSq n = true := fun y hy h => by
    have e : rt n = y := rt_unique hy (by omega) (by
      have : (y + 1) * (y + 1) = y * y + 2 * y + 1 := by grind
      omega)
    unfold isSq
    rw [e]
    exact decide_eq_true h
  by_cases h0 : 0 ≤ x
  · exact key x h0 h
  · exact key (-x) (by omega) (by rw [Int.neg_mul_neg]; exact h)
/-- Newton: one step down from above -/
theorem newton {n f : Int} (hn : 2 ≤ n) (hf : 1 ≤ f) : 1 ≤ (f + n / f) / 2 ∧ n < ((f + n / f) / 2 + 1) * ((f + n / f) / 2 + 1) ∧ (f ≤ (f + n / f) / 2 → f * f ≤ n) := by
  have h1 := Int.ediv_mul_add_emod n f
  have h2 := Int.emod_lt_of_pos n (show 0 < f by omega)
  have h3 := Int.emod_nonneg n (show f ≠ 0 by omega)
  have hq : 0 ≤ n / f := Int.ediv_nonneg (by omega) (by omega)
  have hq1 : f = 1 → n / f = n := fun e => by rw [e, Int.ediv_one]
  generalize n / f = q at *
  generalize n % f = r at *
  generalize hg : (f + q) / 2 = g at *
  have hg1 : f + q ≤ 2 * g + 1 := by omega
  have hg2 : 2 * g ≤ f + q := by omega
  refine ⟨by omega, ?_, fun h => ?_⟩
  · have x1 : 0 ≤ (f - (q + 1)) * (f - (q + 1)) := by
      by_cases hh : 0 ≤ f - (q + 1)
      · exact Int.mul_nonneg hh hh
      · have := Int.mul_nonneg (show 0 ≤ -(f - (q + 1)) by omega) (show 0 ≤ -(f - (q + 1)) by omega)
        rw [Int.neg_mul_neg] at this
        exact this
    have x2 : (f + q + 1) * (f + q + 1) ≤ (2 * g + 2) * (2 * g + 2) := Int.mul_self_le_mul_self (by omega) (by omega)
    have x3 : (2 * g + 2) * (2 * g + 2) = 4 * ((g + 1) * (g + 1)) := by grind
    have x4 : (f - (q + 1)) * (f - (q + 1)) = (f + q + 1) * (f + q + 1) - 4 * (q * f) - 4 * f := by grind
    omega
  · have x1 : f * f ≤ q * f := Int.mul_le_mul_of_nonneg_right (by omega) (by omega)
    omega
/-! ### no square is d times a square -/
theorem no_sq {d x y : Int} (h : isSq d = false) (e : x * x = d * (y * y)) : y = 0 := by
  by_cases hy : y = 0
  · exact hy
  exfalso
  have h1 : y * y ∣ x * x := ⟨d, by rw [e, Int.mul_comm]⟩
  have h2 : y ^ 2 ∣ x ^ 2 := by
    rw [Int.pow_succ, Int.pow_succ, Int.pow_succ, Int.pow_succ]
    simpa using h1
  obtain ⟨k, rfl⟩ := (Int.pow_dvd_pow_iff (by decide)).mp h2
  have h3 : (y * y) * (k * k) = (y * y) * d := by grind
  have h4 : y * y ≠ 0 := by
    intro z
    rcases Int.mul_eq_zero.mp z with z | z <;> exact hy z
  have h5 := Int.eq_of_mul_eq_mul_left h4 h3
  rw [isSq_of h5] at h
  cases h
/-! ### whole numbers and a root: x + y times the root of d, in order -/
/-- d is above 0 and no square -/
structure Ns (d : Int) : Prop where
  pos : 0 < d
  no : isSq d = false
def nm (d x y : Int) : Int := x * x - d * (y * y)
/-- x + y times the root of d is above 0 -/
def Ps (d x y : Int) : Prop := (0 < nm d x y ∧ 0 < x) ∨ (nm d x y < 0 ∧ 0 < y)
theorem nm_zero {d x y : Int} (h : Ns d) (e : nm d x y = 0) : x = 0 ∧ y = 0 := by
  have hy : y = 0 := no_sq (x := x) h.no (by unfold nm at e; omega)
  subst hy
  have : x * x = 0 := by unfold nm at e; omega
  rcases Int.mul_eq_zero.mp this with z | z <;> exact ⟨z, rfl⟩
theorem nm_mul (d x y z w : Int) : nm d (x * z + d * (y * w)) (x * w + y * z) = nm d x y * nm d z w := by
  unfold nm
  grind
theorem sqn (x : Int) : 0 ≤ x * x := by
  by_cases h : 0 ≤ x
  · exact Int.mul_nonneg h h
  · have := Int.mul_nonneg (show 0 ≤ -x by omega) (show 0 ≤ -x by omega)
    rw [Int.neg_mul_neg] at this
    exact this
theorem sqp {x : Int} (h : x ≠ 0) : 0 < x * x := by
  have h1 := sqn x
  have h2 : x * x ≠ 0 := fun z => by rcases Int.mul_eq_zero.mp z with z | z <;> exact h z
  omega
theorem Ps.ne {d x y : Int} (h : Ps d x y) : ¬ (x = 0 ∧ y = 0) := by
  rintro ⟨rfl, rfl⟩
  rcases h with ⟨_, h⟩ | ⟨_, h⟩ <;> exact absurd h (by decide)
theorem nm_neg (d x y : Int) : nm d (-x) (-y) = nm d x y := by
  unfold nm
  grind
theorem Ps.neg {d x y : Int} (h : Ps d x y) : ¬ Ps d (-x) (-y) := by
  intro k
  unfold Ps at h k
  rw [nm_neg] at k
  omega
theorem Ps.tri {d x y : Int} (h : Ns d) (h0 : ¬ (x = 0 ∧ y = 0)) : Ps d x y ∨ Ps d (-x) (-y) := by
  unfold Ps
  rw [nm_neg]
  have h1 : nm d x y ≠ 0 := fun z => h0 (nm_zero h z)
  by_cases hn : 0 < nm d x y
  · have : x ≠ 0 := by
      rintro rfl
      have h2 : 0 ≤ d * (y * y) := Int.mul_nonneg (Int.le_of_lt h.pos) (sqn y)
      unfold nm at hn
      omega
    omega
  · have : y ≠ 0 := by
      rintro rfl
      have h2 := sqn x
      have e0 : d * (0 * 0) = 0 := by simp
      unfold nm at hn h1
      rw [e0] at hn h1
      omega
    omega
theorem Ps.int {d n : Int} (h : 0 < n) : Ps d n 0 := by
  refine .inl ⟨?_, h⟩
  unfold nm
  have := Int.mul_pos h h
  simp
  exact this
theorem Ps.root {d n : Int} (hd : 0 < d) (h : 0 < n) : Ps d 0 n := by
  refine .inr ⟨?_, h⟩
  unfold nm
  have := Int.mul_pos hd (Int.mul_pos h h)
  omega
theorem abs_lt_of_sq {p q : Int} (hq : 0 < q) (h : p * p < q * q) : -q < p ∧ p < q := ⟨sq_lt' (Int.le_of_lt hq) h, sq_lt (Int.le_of_lt hq) h⟩
theorem Ps.mul {d x y z w : Int} (hd : Ns d) (h : Ps d x y) (k : Ps d z w) : Ps d (x * z + d * (y * w)) (x * w + y * z) := by
  have key : ∀ x y z w : Int, 0 < nm d x y → 0 < x → nm d z w < 0 → 0 < w → nm d (x * z + d * (y * w)) (x * w + y * z) < 0 ∧ 0 < x * w + y * z := by
    intro x y z w a b c e
    refine ⟨by rw [nm_mul]; exact Int.mul_neg_of_pos_of_neg a c, ?_⟩
    have h1 : (y * z) * (y * z) < (x * w) * (x * w) := by
      unfold nm at a c
      have c1 : z * z < d * (w * w) := by omega
      have a1 : d * (y * y) < x * x := by omega
      have k1 : (d * (y * y)) * (z * z) ≤ (x * x) * (z * z) := Int.mul_le_mul_of_nonneg_right (by omega) (sqn z)
      have k2 : (x * x) * (z * z) < (x * x) * (d * (w * w)) := Int.mul_lt_mul_of_pos_left c1 (Int.mul_pos b b)
      have k3 : d * ((y * z) * (y * z)) < d * ((x * w) * (x * w)) := by
        have e1 : d * ((y * z) * (y * z)) = (d * (y * y)) * (z * z) := by grind
        have e2 : d * ((x * w) * (x * w)) = (x * x) * (d * (w * w)) := by grind
        omega
      exact Int.lt_of_mul_lt_mul_left k3 (Int.le_of_lt hd.pos)
    have := abs_lt_of_sq (Int.mul_pos b e) h1
    omega
  rcases h with ⟨a, b⟩ | ⟨a, b⟩ <;> rcases k with ⟨c, e⟩ | ⟨c, e⟩
  · refine .inl ⟨by rw [nm_mul]; exact Int.mul_pos a c, ?_⟩
    have h1 : (d * (y * w)) * (d * (y * w)) < (x * z) * (x * z) := by
      unfold nm at a c
      have a1 : d * (y * y) < x * x := by omega
      have c1 : d * (w * w) < z * z := by omega
      have n1 : 0 ≤ d * (w * w) := Int.mul_nonneg (Int.le_of_lt hd.pos) (sqn w)
      have k1 : (d * (y * y)) * (d * (w * w)) ≤ (x * x) * (d * (w * w)) := Int.mul_le_mul_of_nonneg_right (by omega) n1
      have k2 : (x * x) * (d * (w * w)) < (x * x) * (z * z) := Int.mul_lt_mul_of_pos_left c1 (Int.mul_pos b b)
      have e1 : (d * (y * w)) * (d * (y * w)) = (d * (y * y)) * (d * (w * w)) := by grind
      have e2 : (x * z) * (x * z) = (x * x) * (z * z) := by grind
      omega
    have := abs_lt_of_sq (Int.mul_pos b e) h1
    omega
  · exact .inr (key x y z w a b c e)
  · have := key z w x y c e a b
    refine .inr ?_
    rw [show x * z + d * (y * w) = z * x + d * (w * y) by grind, show x * w + y * z = z * y + w * x by grind]
    exact this
  · refine .inl ⟨by rw [nm_mul]; exact Int.mul_pos_of_neg_of_neg a c, ?_⟩
    have h1 : (x * z) * (x * z) < (d * (y * w)) * (d * (y * w)) := by
      unfold nm at a c
      have a1 : x * x < d * (y * y) := by omega
      have c1 : z * z < d * (w * w) := by omega
      have n1 : 0 < d * (y * y) := Int.mul_pos hd.pos (Int.mul_pos b b)
      have k1 : (x * x) * (z * z) ≤ (d * (y * y)) * (z * z) := Int.mul_le_mul_of_nonneg_right (by omega) (sqn z)
      have k2 : (d * (y * y)) * (z * z) < (d * (y * y)) * (d * (w * w)) := Int.mul_lt_mul_of_pos_left c1 n1
      have e1 : (d * (y * w)) * (d * (y * w)) = (d * (y * y)) * (d * (w * w)) := by grind
      have e2 : (x * z) * (x * z) = (x * x) * (z * z) := by grind
      omega
    have := abs_lt_of_sq (Int.mul_pos hd.pos (Int.mul_pos b e)) h1
    omega
/-- divided by what is above 0 -/
theorem Ps.div {d x y z w : Int} (hd : Ns d) (h : Ps d (x * z + d * (y * w)) (x * w + y * z)) (k : Ps d z w) : Ps d x y := by
  by_cases h0 : x = 0 ∧ y = 0
  · obtain ⟨rfl, rfl⟩ := h0
    exact absurd ⟨by simp, by simp⟩ h.ne
  · rcases Ps.tri hd h0 with h1 | h1
    · exact h1
    · have h2 := Ps.mul hd h1 k
      rw [show -x * z + d * (-y * w) = -(x * z + d * (y * w)) by grind, show -x * w + -y * z = -(x * w + y * z) by grind] at h2
      exact absurd h2 h.neg
theorem Ps.addN {d x y n : Int} (hd : Ns d) (h : Ps d x y) (hn : 0 ≤ n) : Ps d (x + n) y := by
  rcases h with ⟨a, b⟩ | ⟨a, b⟩
  · refine .inl ⟨?_, by omega⟩
    have := Int.mul_self_le_mul_self (show 0 ≤ x by omega) (show x ≤ x + n by omega)
    unfold nm at *
    omega
  · by_cases h1 : nm d (x + n) y < 0
    · exact .inr ⟨h1, b⟩
    · have h2 : nm d (x + n) y ≠ 0 := fun z => by have := (nm_zero hd z).2; omega
      refine .inl ⟨by omega, ?_⟩
      have h3 : x * x < (x + n) * (x + n) := by
        unfold nm at *
        omega
      by_cases h4 : 0 < x + n
      · exact h4
      · exfalso
        have := Int.mul_self_le_mul_self (show 0 ≤ -(x + n) by omega) (show -(x + n) ≤ -x by omega)
        rw [Int.neg_mul_neg, Int.neg_mul_neg] at this
        omega
theorem Ps.add {d x y z w : Int} (hd : Ns d) (h : Ps d x y) (k : Ps d z w) : Ps d (x + z) (y + w) := by
  by_cases hn : 0 < nm d x y
  · have hx : 0 < x := by
      rcases h with ⟨a, b⟩ | ⟨a, b⟩ <;> omega
    have hc : Ps d x (-y) := .inl ⟨by unfold nm at *; rw [Int.neg_mul_neg]; exact hn, hx⟩
    have h1 := Ps.addN hd (Ps.mul hd k hc) (Int.le_of_lt hn)
    refine Ps.div hd (z := x) (w := -y) ?_ hc
    rw [show (x + z) * x + d * ((y + w) * -y) = z * x + d * (w * -y) + nm d x y by unfold nm; grind, show (x + z) * -y + (y + w) * x = z * -y + w * x by grind]
    exact h1
  · have h0 : nm d x y ≠ 0 := fun z => h.ne (nm_zero hd z)
    have hy : 0 < y := by
      rcases h with ⟨a, b⟩ | ⟨a, b⟩ <;> omega
    have hc : Ps d (-x) y := .inr ⟨by unfold nm at *; rw [Int.neg_mul_neg]; omega, hy⟩
    have h1 := Ps.addN hd (Ps.mul hd k hc) (n := -nm d x y) (by omega)
    refine Ps.div hd (z := -x) (w := y) ?_ hc
    rw [show (x + z) * -x + d * ((y + w) * y) = z * -x + d * (w * y) + -nm d x y by unfold nm; grind, show (x + z) * y + (y + w) * -x = z * y + w * -x by grind]
    exact h1
theorem Ps.smul {d x y n : Int} (hd : Ns d) (h : Ps d x y) (hn : 0 < n) : Ps d (n * x) (n * y) := by
  have := Ps.mul hd (Ps.int hn) h
  rw [show n * x + d * (0 * y) = n * x by grind, show n * y + 0 * x = n * y by grind] at this
  exact this
theorem Ps.sdiv {d x y n : Int} (hd : Ns d) (h : Ps d (n * x) (n * y)) (hn : 0 < n) : Ps d x y := by
  refine Ps.div hd (z := n) (w := 0) ?_ (Ps.int hn)
  rw [show x * n + d * (y * 0) = n * x by grind, show x * 0 + y * n = n * y by grind]
  exact h
end RR
/-! RRC: numbers as (p + q times the root of d) divided by r, and how fractions lie to them: plain mathematics. -/
namespace RR
def fm (a b c u l : Int) : Int := a * u * u + b * u * l + c * l * l
def ht (a b c : Int) : Int := b * b - 4 * a * c
/-- whether a root is greater than u divided by l, as both the program and the laws have it -/
def ab (a b c s u l : Int) : Bool := if s = 1 then !decide (0 < 2 * a * u + b * l) || decide (fm a b c u l < 0) else !decide (0 < 2 * a * u + b * l) && decide (0 < fm a b c u l)
def sg (s : Int) : Int := 2 * s - 1
structure IsR (a b c s : Int) : Prop where
  ha : 0 < a
  hs : s = 0 ∨ s = 1
  g : dv (dv a b) c = 1
  n : Ns (ht a b c)
theorem fm_nm (a b c u l s : Int) (hs : s = 0 ∨ s = 1) : nm (ht a b c) (-(2 * a * u + b * l)) (sg s * l) = 4 * a * fm a b c u l := by
  unfold nm ht fm sg
  rcases hs with rfl | rfl <;> grind
theorem ab_ps {a b c s u l : Int} (ha : 0 < a) (hs : s = 0 ∨ s = 1) (hn : Ns (ht a b c)) (hl : 0 < l) : ab a b c s u l = true ↔ Ps (ht a b c) (-(2 * a * u + b * l)) (sg s * l) := by
  unfold Ps
  rw [fm_nm a b c u l s hs]
  have hd : 0 < ht a b c * (l * l) := Int.mul_pos hn.pos (Int.mul_pos hl hl)
  have e : 4 * a * fm a b c u l = (2 * a * u + b * l) * (2 * a * u + b * l) - ht a b c * (l * l) := by
    unfold fm ht
    grind
  have hf : 0 < fm a b c u l → 0 < 4 * a * fm a b c u l := fun h => Int.mul_pos (by omega) h
  have hf2 : fm a b c u l < 0 → 4 * a * fm a b c u l < 0 := fun h => Int.mul_neg_of_pos_of_neg (by omega) h
  have hf3 : fm a b c u l = 0 → False := fun h => by
    have h2 : nm (ht a b c) (-(2 * a * u + b * l)) (sg s * l) = 0 := by rw [fm_nm a b c u l s hs, h, Int.mul_zero]
    have := (nm_zero hn h2).2
    rcases hs with rfl | rfl <;> (unfold sg at this; omega)
  have hw : 2 * a * u + b * l = 0 → 4 * a * fm a b c u l < 0 := fun h => by
    rw [e, h]
    omega
  have hc : (0 < fm a b c u l ∧ 0 < 4 * a * fm a b c u l) ∨ (fm a b c u l < 0 ∧ 4 * a * fm a b c u l < 0) := by
    by_cases h1 : 0 < fm a b c u l
    · exact .inl ⟨h1, hf h1⟩
    · by_cases h2 : fm a b c u l = 0
      · exact (hf3 h2).elim
      · exact .inr ⟨by omega, hf2 (by omega)⟩
  have hw2 : 2 * a * u + b * l ≠ 0 ∨ 4 * a * fm a b c u l < 0 := by
    by_cases h1 : 2 * a * u + b * l = 0
    · exact .inr (hw h1)
    · exact .inl h1
  clear hf hf2 hf3 hw
  unfold ab
  generalize 4 * a * fm a b c u l = g at *
  generalize 2 * a * u + b * l = w at *
  generalize fm a b c u l = f at *
  rcases hs with rfl | rfl
  · rw [if_neg (by decide)]
    simp [sg]
    omega
  · rw [if_pos rfl]
    simp [sg]
    omega
/-- u divided by l is less than the number -/
def Ov (d p q r u l : Int) : Prop := Ps d (p * l - u * r) (q * l)
/-- u divided by l is greater than the number -/
def Be (d p q r u l : Int) : Prop := Ps d (u * r - p * l) (-(q * l))
theorem ab_ov {a b c s u l : Int} (R : IsR a b c s) (hl : 0 < l) : ab a b c s u l = true ↔ Ov (ht a b c) (-b) (sg s) (2 * a) u l := by
  rw [ab_ps R.ha R.hs R.n hl]
  unfold Ov
  rw [show -b * l - u * (2 * a) = -(2 * a * u + b * l) by grind]
theorem sg_ne {s : Int} (h : s = 0 ∨ s = 1) : sg s ≠ 0 := by
  rcases h with rfl | rfl <;> decide
theorem ab_be {a b c s u l : Int} (R : IsR a b c s) (hl : 0 < l) : ab a b c s u l = false ↔ Be (ht a b c) (-b) (sg s) (2 * a) u l := by
  have h1 := ab_ov (u := u) R hl
  unfold Ov at h1
  unfold Be
  rw [show u * (2 * a) - -b * l = -(-b * l - u * (2 * a)) by grind]
  constructor
  · intro h
    have h2 : ¬ (-b * l - u * (2 * a) = 0 ∧ sg s * l = 0) := fun z => by
      rcases Int.mul_eq_zero.mp z.2 with z | z
      · exact sg_ne R.hs z
      · omega
    rcases Ps.tri R.n h2 with h3 | h3
    · rw [h1.mpr h3] at h
      cases h
    · exact h3
  · intro h
    cases e : ab a b c s u l with
    | false => rfl
    | true => exact absurd h (h1.mp e).neg
section
variable {d p q r : Int}
theorem Ov.not {u l : Int} (h : Ov d p q r u l) : ¬ Be d p q r u l := by
  unfold Ov at h
  unfold Be
  rw [show u * r - p * l = -(p * l - u * r) by grind]
  exact h.neg
/-- what is less than a lower one is lower -/
theorem Ov.le {u l v m : Int} (hd : Ns d) (hr : 0 < r) (hl : 0 < l) (hm : 0 < m) (h : Ov d p q r u l) (k : v * l ≤ u * m) : Ov d p q r v m := by
  unfold Ov at *
  have h1 := Ps.addN hd (Ps.smul hd h hm) (n := r * (u * m - v * l)) (Int.mul_nonneg (Int.le_of_lt hr) (by omega))
  refine Ps.sdiv hd (n := l) ?_ hl
  rw [show l * (p * m - v * r) = m * (p * l - u * r) + r * (u * m - v * l) by grind, show l * (q * m) = m * (q * l) by grind]
  exact h1
theorem Be.le {u l v m : Int} (hd : Ns d) (hr : 0 < r) (hl : 0 < l) (hm : 0 < m) (h : Be d p q r u l) (k : u * m ≤ v * l) : Be d p q r v m := by
  unfold Be at *
  have h1 := Ps.addN hd (Ps.smul hd h hm) (n := r * (v * l - u * m)) (Int.mul_nonneg (Int.le_of_lt hr) (by omega))
  refine Ps.sdiv hd (n := l) ?_ hl
  rw [show l * (v * r - p * m) = m * (u * r - p * l) + r * (v * l - u * m) by grind, show l * -(q * m) = m * -(q * l) by grind]
  exact h1
/-- of one above and one below -/
theorem ov_be_lt {u l v m : Int} (hd : Ns d) (hr : 0 < r) (hl : 0 < l) (hm : 0 < m) (h : Ov d p q r u l) (k : Be d p q r v m) : u * m < v * l := by
  by_cases e : u * m < v * l
  · exact e
  · exact absurd k (Ov.le hd hr hl hm h (by omega)).not
end
/-- the part of a root -/
def partR (a b c s : Int) : Int := if s = 0 then (0 - rt (ht a b c) - 1 - b) / (2 * a) else (rt (ht a b c) - b) / (2 * a)
theorem fl {x y : Int} (h : 0 < y) : x / y * y ≤ x ∧ x < (x / y + 1) * y := by
  have h1 := Int.ediv_mul_add_emod x y
  have h2 := Int.emod_lt_of_pos x h
  have h3 := Int.emod_nonneg x (show y ≠ 0 by omega)
  rw [Int.add_mul]
  omega
theorem rt_lt {d : Int} (h : Ns d) : rt d * rt d < d := by
  obtain ⟨a, b, c⟩ := rt_spec (Int.le_of_lt h.pos)
  have : rt d * rt d ≠ d := fun z => by
    have h2 := isSq_of z
    rw [h.no] at h2
    cases h2
  omega
/-- z plus the root -/
theorem ps_up {d z : Int} (h : Ns d) (k : -(rt d) ≤ z) : Ps d z 1 := by
  have h1 := rt_lt h
  have h0 := (rt_spec (Int.le_of_lt h.pos)).1
  unfold Ps nm
  rw [show d * (1 * 1) = d by simp]
  by_cases e : z * z < d
  · right; omega
  · left
    have e2 : z * z ≠ d := fun y => by
      have h2 := isSq_of y
      rw [h.no] at h2
      cases h2
    refine ⟨by omega, ?_⟩
    by_cases e3 : 0 < z
    · exact e3
    · have := Int.mul_self_le_mul_self (show 0 ≤ -z by omega) (show -z ≤ rt d by omega)
      rw [Int.neg_mul_neg] at this
      omega
theorem ps_dn {d z : Int} (h : Ns d) (k : rt d + 1 ≤ z) : Ps d z (-1) := by
  have h0 := (rt_spec (Int.le_of_lt h.pos))
  have := Int.mul_self_le_mul_self (show 0 ≤ rt d + 1 by omega) k
  left
  unfold nm
  rw [show d * (-1 * -1) = d by simp]
  omega
theorem part_ov {a b c s : Int} (R : IsR a b c s) : Ov (ht a b c) (-b) (sg s) (2 * a) (partR a b c s) 1 ∧ Be (ht a b c) (-b) (sg s) (2 * a) (partR a b c s + 1) 1 := by
  have hd := R.n
  have ha := R.ha
  unfold partR Ov Be
  generalize ht a b c = d at *
  rcases R.hs with rfl | rfl
  · rw [if_pos rfl]
    obtain ⟨h1, h2⟩ := fl (x := 0 - rt d - 1 - b) (y := 2 * a) (by omega)
    generalize (0 - rt d - 1 - b) / (2 * a) = z at *
    exact ⟨ps_dn hd (by omega), ps_up hd (by omega)⟩
  · rw [if_neg (by decide)]
    obtain ⟨h1, h2⟩ := fl (x := rt d - b) (y := 2 * a) (by omega)
    generalize (rt d - b) / (2 * a) = z at *
    exact ⟨ps_up hd (by omega), ps_dn hd (by omega)⟩
/-! ### 1 divided by a root less a whole number -/
def mvC (a b c n : Int) : Int := a * n * n + b * n + c
def tnA (a b c n : Int) : Int := if 0 < mvC a b c n then mvC a b c n else -mvC a b c n
def tnB (a b c n : Int) : Int := if 0 < mvC a b c n then b + 2 * a * n else -(b + 2 * a * n)
def tnC (a b c n : Int) : Int := if 0 < mvC a b c n then a else -a
def tnS (a b c s n : Int) : Int := if 0 < mvC a b c n then 1 - s else s
theorem mv_ht (a b c n : Int) : ht a (b + 2 * a * n) (mvC a b c n) = ht a b c := by
  unfold ht mvC
  grind
theorem mvC_ne {a b c n : Int} (h : Ns (ht a b c)) : mvC a b c n ≠ 0 := fun z => by
  have e := mv_ht a b c n
  rw [z] at e
  have h2 := h.no
  rw [isSq_of (x := b + 2 * a * n) (by rw [← e]; unfold ht; simp)] at h2
  cases h2
theorem dv3 {a b c k : Int} (h : dv (dv a b) c = 1) (h1 : k ∣ a) (h2 : k ∣ b) (h3 : k ∣ c) (h0 : 0 ≤ k) : k = 1 := by
  have h4 : k ∣ 1 := by
    rw [← h]
    exact dvd_dv (dvd_dv h1 h2) h3
  exact Int.eq_one_of_dvd_one h0 h4
theorem dv3_dvd (a b c : Int) : dv (dv a b) c ∣ a ∧ dv (dv a b) c ∣ b ∧ dv (dv a b) c ∣ c :=
  ⟨Int.dvd_trans (dv_dvd_left _ _) (dv_dvd_left _ _), Int.dvd_trans (dv_dvd_left _ _) (dv_dvd_right _ _), dv_dvd_right _ _⟩
theorem mv_dv {a b c : Int} (n : Int) (h : dv (dv a b) c = 1) : dv (dv (mvC a b c n) (b + 2 * a * n)) a = 1 := by
  obtain ⟨h1, h2, h3⟩ := dv3_dvd (mvC a b c n) (b + 2 * a * n) a
  have h0 := dv_nonneg (dv (mvC a b c n) (b + 2 * a * n)) a
  generalize dv (dv (mvC a b c n) (b + 2 * a * n)) a = k at *
  have k2 : k ∣ b := by
    have := Int.dvd_sub h2 (Int.dvd_trans h3 (Int.dvd_mul_right a (2 * n)))
    rw [show b + 2 * a * n - a * (2 * n) = b by grind] at this
    exact this
  have k3 : k ∣ c := by
    have := Int.dvd_sub (Int.dvd_sub h1 (Int.dvd_trans h3 (Int.dvd_mul_right a (n * n)))) (Int.dvd_trans k2 (Int.dvd_mul_right b n))
    rw [show mvC a b c n - a * (n * n) - b * n = c by unfold mvC; grind] at this
    exact this
  exact dv3 h h3 k2 k3 h0
theorem tn_ht (a b c n : Int) : ht (tnA a b c n) (tnB a b c n) (tnC a b c n) = ht a b c := by
  rw [← mv_ht a b c n]
  unfold tnA tnB tnC ht
  split <;> grind
theorem tn_isR {a b c s : Int} (n : Int) (R : IsR a b c s) : IsR (tnA a b c n) (tnB a b c n) (tnC a b c n) (tnS a b c s n) := by
  have h0 := mvC_ne (n := n) R.n
  have hg := mv_dv n R.g
  refine ⟨?_, ?_, ?_, by rw [tn_ht]; exact R.n⟩
  · unfold tnA
    split <;> omega
  · have := R.hs
    unfold tnS
    split <;> omega
  · unfold tnA tnB tnC
    split
    · exact hg
    · rw [dv_neg_left, dv_neg_right, dv_neg_right]
      exact hg
theorem sg_inv {s : Int} (h : s = 0 ∨ s = 1) : sg (1 - s) = -sg s := by
  rcases h with rfl | rfl <;> decide
theorem sg_sq {s : Int} (h : s = 0 ∨ s = 1) : sg s * sg s = 1 := by
  rcases h with rfl | rfl <;> decide
/-- the signs of a product -/
theorem ps_sign {d x y z w v t : Int} (hd : Ns d) (e1 : v = x * z + d * (y * w)) (e2 : t = x * w + y * z) (k : Ps d z w) : Ps d v t ↔ Ps d x y := by
  constructor
  · intro h
    rw [e1, e2] at h
    exact Ps.div hd h k
  · intro h
    rw [e1, e2]
    exact Ps.mul hd h k
/-- what the turned one is greater than, by products: t (the turned one less u / l), a (the root less n), m (what is left) -/
theorem tn_key {a b c s n u l : Int} (R : IsR a b c s) : ∃ k : Int, 0 < k ∧
    k * (2 * a * l + (b + 2 * a * n) * u) = (-tnB a b c n * l - u * (2 * tnA a b c n)) * (-b - n * (2 * a)) + ht a b c * (sg (tnS a b c s n) * l * sg s) ∧
    k * -(sg s * u) = (-tnB a b c n * l - u * (2 * tnA a b c n)) * sg s + sg (tnS a b c s n) * l * (-b - n * (2 * a)) := by
  have h0 := mvC_ne (n := n) R.n
  have hs := sg_sq R.hs
  have e : ht a b c = (b + 2 * a * n) * (b + 2 * a * n) - 4 * a * mvC a b c n := by
    rw [← mv_ht a b c n]
    rfl
  rw [e, show -b - n * (2 * a) = -(b + 2 * a * n) by grind]
  unfold tnA tnB tnS
  generalize mvC a b c n = C at *
  generalize b + 2 * a * n = B at *
  split
  · rename_i hC
    rw [sg_inv R.hs]
    generalize sg s = σ at *
    refine ⟨2 * C, by omega, ?_, ?_⟩ <;> grind
  · rename_i hC
    generalize sg s = σ at *
    refine ⟨2 * -C, by omega, ?_, ?_⟩ <;> grind
/-- Ov of a root, in short -/
abbrev OvR (a b c s u l : Int) : Prop := Ov (ht a b c) (-b) (sg s) (2 * a) u l
abbrev BeR (a b c s u l : Int) : Prop := Be (ht a b c) (-b) (sg s) (2 * a) u l
theorem root_tri {a b c s u l : Int} (R : IsR a b c s) (hl : 0 < l) : OvR a b c s u l ∨ BeR a b c s u l := by
  cases e : ab a b c s u l with
  | true => exact .inl ((ab_ov R hl).mp e)
  | false => exact .inr ((ab_be R hl).mp e)
/-- the turned one's signs: with t, a, m as in tn_key -/
theorem tn_sign {a b c s n u l : Int} (R : IsR a b c s) (hl : 0 < l) :
    (OvR a b c s n 1 → (OvR (tnA a b c n) (tnB a b c n) (tnC a b c n) (tnS a b c s n) u l ↔ Ps (ht a b c) (2 * a * l + (b + 2 * a * n) * u) (-(sg s * u)))) ∧
    (BeR a b c s n 1 → (BeR (tnA a b c n) (tnB a b c n) (tnC a b c n) (tnS a b c s n) u l ↔ Ps (ht a b c) (2 * a * l + (b + 2 * a * n) * u) (-(sg s * u)))) := by
  obtain ⟨k, hk, e1, e2⟩ := tn_key (n := n) (u := u) (l := l) R
  have hm : ∀ x y : Int, Ps (ht a b c) (k * x) (k * y) ↔ Ps (ht a b c) x y := fun x y => ⟨fun h => Ps.sdiv R.n h hk, fun h => Ps.smul R.n h hk⟩
  constructor
  · intro h
    unfold OvR Ov at *
    rw [tn_ht, ← hm (2 * a * l + (b + 2 * a * n) * u) (-(sg s * u)), e1, e2]
    rw [Int.mul_one, Int.mul_one] at h
    exact (ps_sign R.n (by grind) (by grind) h).symm
  · intro h
    unfold BeR Be at *
    rw [tn_ht, ← hm (2 * a * l + (b + 2 * a * n) * u) (-(sg s * u)), e1, e2]
    rw [Int.mul_one, Int.mul_one] at h
    refine (ps_sign R.n ?_ ?_ h).symm
    · grind
    · grind
theorem tn_up {a b c s n u l : Int} (R : IsR a b c s) (hl : 0 < l) (hu : 0 < u) :
    OvR (tnA a b c n) (tnB a b c n) (tnC a b c n) (tnS a b c s n) u l ↔ (OvR a b c s n 1 ∧ BeR a b c s (n * u + l) u) := by
  obtain ⟨h1, h2⟩ := tn_sign (n := n) (u := u) R hl
  have e : Ps (ht a b c) (2 * a * l + (b + 2 * a * n) * u) (-(sg s * u)) ↔ BeR a b c s (n * u + l) u := by
    unfold BeR Be
    rw [show (n * u + l) * (2 * a) - -b * u = 2 * a * l + (b + 2 * a * n) * u by grind]
  have h3 := tn_isR n R
  rcases root_tri (u := n) R (show (0 : Int) < 1 by decide) with h | h
  · rw [h1 h, e]
    exact ⟨fun x => ⟨h, x⟩, fun x => x.2⟩
  · have h4 : BeR a b c s (n * u + l) u := Be.le R.n (by have := R.ha; omega) (by decide) hu h (by omega)
    have h5 := (h2 h).mpr (e.mpr h4)
    exact ⟨fun x => absurd h5 x.not, fun x => absurd h x.1.not⟩
theorem tn_zero {a b c s n l : Int} (R : IsR a b c s) (hl : 0 < l) :
    OvR (tnA a b c n) (tnB a b c n) (tnC a b c n) (tnS a b c s n) 0 l ↔ OvR a b c s n 1 := by
  obtain ⟨h1, h2⟩ := tn_sign (n := n) (u := 0) R hl
  have e : Ps (ht a b c) (2 * a * l + (b + 2 * a * n) * 0) (-(sg s * 0)) := by
    rw [Int.mul_zero, Int.mul_zero, Int.add_zero]
    exact Ps.int (Int.mul_pos (by have := R.ha; omega) hl)
  rcases root_tri (u := n) R (show (0 : Int) < 1 by decide) with h | h
  · exact ⟨fun _ => h, fun _ => (h1 h).mpr e⟩
  · exact ⟨fun x => absurd ((h2 h).mpr e) x.not, fun x => absurd h x.not⟩
theorem tn_dn {a b c s n u l : Int} (R : IsR a b c s) (hl : 0 < l) (hu : u < 0) :
    OvR (tnA a b c n) (tnB a b c n) (tnC a b c n) (tnS a b c s n) u l ↔ (OvR a b c s n 1 ∨ BeR a b c s (n * (0 - u) - l) (0 - u)) := by
  obtain ⟨h1, h2⟩ := tn_sign (n := n) (u := u) R hl
  have e : Ps (ht a b c) (2 * a * l + (b + 2 * a * n) * u) (-(sg s * u)) ↔ OvR a b c s (n * (0 - u) - l) (0 - u) := by
    unfold OvR Ov
    rw [show -b * (0 - u) - (n * (0 - u) - l) * (2 * a) = 2 * a * l + (b + 2 * a * n) * u by grind, show sg s * (0 - u) = -(sg s * u) by grind]
  rcases root_tri (u := n) R (show (0 : Int) < 1 by decide) with h | h
  · have h4 : OvR a b c s (n * (0 - u) - l) (0 - u) := Ov.le R.n (by have := R.ha; omega) (by decide) (show 0 < 0 - u by omega) h (by omega)
    exact ⟨fun _ => .inl h, fun _ => (h1 h).mpr (e.mpr h4)⟩
  · rcases root_tri (u := n * (0 - u) - l) R (show 0 < 0 - u by omega) with h4 | h4
    · have h5 := (h2 h).mpr (e.mpr h4)
      exact ⟨fun x => absurd h5 x.not, fun x => x.elim (fun y => absurd h y.not) (fun y => absurd y h4.not)⟩
    · refine ⟨fun _ => .inr h4, fun _ => ?_⟩
      rcases root_tri (u := u) (tn_isR n R) hl with h6 | h6
      · exact h6
      · exact absurd h4 (e.mp ((h2 h).mp h6)).not
end RR
/-! RRT: the promises of the defs over roots, and of the defs that take any thing. -/
namespace RR
open PySem PySem.Spec PyProof.Rows L2
/-- what is no whole number -/
def NotWh (x : V) : Prop := (∃ b, x = .bl b) ∨ ∃ z, x = .str z
def sp_isw : Sp := fun vs H Q _ => ∃ x, vs = [x] ∧ ((∃ z, x = .int z ∧ Q (.bl true) H) ∨ (NotWh x ∧ Q (.bl false) H))
def BadT (xs : List V) : Prop := xs.length ≠ 2 ∨ (∃ y z, xs = [y, z] ∧ NotWh y) ∨ (∃ y z, xs = [.int y, z] ∧ NotWh z) ∨ ∃ y z, xs = [.int y, .int z] ∧ (z < 1 ∨ dv y z ≠ 1)
def NotTup (K : PySem.W.Frag) (H : Hp) (x : V) : Prop := ∃ t, TyX K H x t ∧ PySem.W.kitOne K t (.type "tuple") = some false
def NotFr (K : PySem.W.Frag) (H : Hp) (x : V) : Prop := NotTup K H x ∨ ∃ a xs, x = .ref a ∧ H a = some (.tup xs) ∧ BadT xs
def sp_is_fraction (K : PySem.W.Frag) : Sp := fun vs H Q _ => ∃ x, vs = [x] ∧ ((NotFr K H x ∧ Q (.bl false) H) ∨ ∃ a y z, x = .ref a ∧ H a = some (tI [y, z]) ∧ 1 ≤ z ∧ dv y z = 1 ∧ Q (.bl true) H)
theorem notTup_non {K : PySem.W.Frag} {H : Hp} : NotTup K H .non := ⟨_, .base .non, kit_ty (by decide +kernel)⟩
theorem notTup_int {K : PySem.W.Frag} {H : Hp} (n : Int) : NotTup K H (.int n) := ⟨_, .base (.int n), kit_ty (by decide +kernel)⟩
theorem notTup_lst {K : PySem.W.Frag} {H : Hp} {a : Addr} {xs : List V} (e : H a = some (.lst xs)) : NotTup K H (.ref a) := ⟨_, .base (.lst e), kit_ty (by decide +kernel)⟩
/-- least_square -/
def sp_least_square : Sp := fun vs H Q _ => ∃ n : Int, vs = [.int n] ∧ 0 ≤ n ∧ Big n ∧ Q (.int (rt n)) H
/-- within a thousand bits -/
structure Sm (x : Int) : Prop where
  lt : x.natAbs < 2 ^ 1000
theorem Sm.big {x : Int} (h : Sm x) : Big x := ⟨Nat.lt_of_lt_of_le h.lt (Nat.pow_le_pow_right (by decide) (by decide))⟩
theorem sm_of {x : Int} (h : x.natAbs < 2 ^ 60) : Sm x := ⟨Nat.lt_of_lt_of_le h (Nat.pow_le_pow_right (by decide) (by decide))⟩
theorem sm_le {x y : Int} (h : x.natAbs ≤ y.natAbs) (hy : Sm y) : Sm x := ⟨Nat.lt_of_le_of_lt h hy.lt⟩
theorem nat_mul_lt {x y : Int} {m n : Nat} (h : x.natAbs < 2 ^ m) (k : y.natAbs < 2 ^ n) : (x * y).natAbs < 2 ^ (m + n) := by
  rw [Int.natAbs_mul, Nat.pow_add]
  exact Nat.mul_lt_mul'' h k
theorem nat_add_lt {x y : Int} {m : Nat} (h : x.natAbs < 2 ^ m) (k : y.natAbs < 2 ^ m) : (x + y).natAbs < 2 ^ (m + 1) := by
  have := Int.natAbs_add_le x y
  rw [Nat.pow_succ]
  omega
theorem nat_sub_lt {x y : Int} {m : Nat} (h : x.natAbs < 2 ^ m) (k : y.natAbs < 2 ^ m) : (x - y).natAbs < 2 ^ (m + 1) := by
  rw [Int.sub_eq_add_neg]
  exact nat_add_lt h (by rw [Int.natAbs_neg]; exact k)
theorem nat_mono {x : Int} {m n : Nat} (h : x.natAbs < 2 ^ m) (k : m ≤ n) : x.natAbs < 2 ^ n := Nat.lt_of_lt_of_le h (Nat.pow_le_pow_right (by decide) k)
/-- products of numbers within a hundred thousand bits each -/
theorem mulW_of {x y : Int} {m n : Nat} (h : x.natAbs < 2 ^ m) (k : y.natAbs < 2 ^ n) (hm : m ≤ 100000 := by decide) (hn : n ≤ 100000 := by decide) : CMulW x y := by
  have h3 := PySem.Flt.log2_lt_of (n := x.natAbs) (k := m + 1) (by omega) (nat_mono h (by omega))
  have h4 := PySem.Flt.log2_lt_of (n := y.natAbs) (k := n + 1) (by omega) (nat_mono k (by omega))
  unfold CMulW
  omega
theorem ht_big {a b c : Int} (ha : Sm a) (hb : Sm b) (hc : Sm c) : Big (ht a b c) := by
  refine ⟨nat_mono (m := 2004) (nat_sub_lt (m := 2003) (nat_mono (nat_mul_lt hb.lt hb.lt) (by decide)) (nat_mono (nat_mul_lt (m := 1003) (nat_mul_lt (m := 3) (by decide) ha.lt) hc.lt) (by decide))) (by decide)⟩
/-- heart -/
def sp_heart : Sp := fun vs H Q _ => ∃ a b c : Int, vs = [.int a, .int b, .int c] ∧ Sm a ∧ Sm b ∧ Sm c ∧ Q (.int (ht a b c)) H
/-- is_square -/
def sp_is_square : Sp := fun vs H Q _ => ∃ n : Int, vs = [.int n] ∧ 0 ≤ n ∧ Big n ∧ Q (.bl (isSq n)) H
/-- three whole numbers made lowest, the first above 0 -/
def nfA (a b c : Int) : Int := if a < 0 then -(a / dv (dv a b) c) else a / dv (dv a b) c
def nfB (a b c : Int) : Int := if a < 0 then -(b / dv (dv a b) c) else b / dv (dv a b) c
def nfC (a b c : Int) : Int := if a < 0 then -(c / dv (dv a b) c) else c / dv (dv a b) c
def NoRoot (a b c : Int) : Prop := a = 0 ∨ ht a b c < 0 ∨ isSq (ht a b c) = true
theorem not_noRoot {a b c : Int} (h : Ns (ht a b c)) : ¬ NoRoot a b c := by
  rintro (rfl | z | z)
  · have := h.no
    rw [isSq_of (x := b) (by unfold ht; simp)] at this
    cases this
  · have := h.pos
    omega
  · rw [h.no] at z
    cases z
theorem ns_of {a b c : Int} (h : ¬ NoRoot a b c) : Ns (ht a b c) := by
  have h2 : isSq (ht a b c) = false := by
    cases e : isSq (ht a b c) with
    | false => rfl
    | true => exact absurd (.inr (.inr e)) h
  refine ⟨?_, h2⟩
  have h3 : ¬ ht a b c < 0 := fun z => h (.inr (.inl z))
  have h4 : ht a b c ≠ 0 := fun z => by
    rw [z, show isSq 0 = true from isSq_of (x := 0) rfl] at h2
    cases h2
  omega
def sp_root_of (C : Addr) : Sp := fun vs H Q E => ∃ a b c s : Int, vs = [.int a, .int b, .int c, .int s] ∧ Sm a ∧ Sm b ∧ Sm c ∧ (NoRoot a b c → E (.ref C) none H) ∧
  (¬ NoRoot a b c → ∀ p, H p = none → Q (.ref p) (upd H p (tI [nfA a b c, nfB a b c, nfC a b c, s])))
def NotR4 (a b c s : Int) : Prop := a < 1 ∨ ¬ (s = 0 ∨ s = 1) ∨ dv (dv a b) c ≠ 1 ∨ ht a b c ≤ 0 ∨ isSq (ht a b c) = true
def BadR (xs : List V) : Prop := xs.length ≠ 4 ∨ ((∀ x ∈ xs, NotWh x ∨ ∃ n, x = .int n) ∧ xs.length = 4 ∧ ∃ x ∈ xs, NotWh x) ∨ ∃ a b c s, xs = [.int a, .int b, .int c, .int s] ∧ Sm a ∧ Sm b ∧ Sm c ∧ NotR4 a b c s
def NotRoot (K : PySem.W.Frag) (H : Hp) (x : V) : Prop := NotTup K H x ∨ ∃ r xs, x = .ref r ∧ H r = some (.tup xs) ∧ BadR xs
def sp_is_root (K : PySem.W.Frag) : Sp := fun vs H Q _ => ∃ x, vs = [x] ∧ ((NotRoot K H x ∧ ∀ H', Same H H' → Q (.bl false) H') ∨ ∃ r a b c s, x = .ref r ∧ H r = some (tI [a, b, c, s]) ∧ IsR a b c s ∧ Sm a ∧ Sm b ∧ Sm c ∧ ∀ H', Same H H' → Q (.bl true) H')
def sp_other_root : Sp := fun vs H Q _ => ∃ (r : Addr) (a b c s : Int), vs = [.ref r] ∧ H r = some (tI [a, b, c, s]) ∧ ∀ H' p, Same H H' → H p = none → H' p = some (tI [a, b, c, 1 - s]) → Q (.ref p) H'
/-- whether it is a whole number -/
def isI : V → Bool
  | .int _ => true
  | _ => false
/-- root_of, or "none" -/
def sp_said : Sp := fun vs H Q _ => ∃ a b c s : Int, vs = [.int a, .int b, .int c, .int s] ∧ Sm a ∧ Sm b ∧ Sm c ∧ (NoRoot a b c → ∀ H', Same H H' → Q (.str "none") H') ∧
  (¬ NoRoot a b c → ∀ H' p, Same H H' → H p = none → H' p = some (tI [nfA a b c, nfB a b c, nfC a b c, s]) → Q (.ref p) H')
end RR
/-! RRN: three whole numbers made lowest: plain mathematics. -/
namespace RR
theorem dv_mul (a b k : Int) (hk : 0 ≤ k) : dv (a * k) (b * k) = dv a b * k := by
  unfold dv
  rw [Int.gcd_mul_right]
  rw [Int.natCast_mul, Int.natAbs_of_nonneg hk]
theorem dv3_mul (a b c k : Int) (hk : 0 ≤ k) : dv (dv (a * k) (b * k)) (c * k) = dv (dv a b) c * k := by
  rw [dv_mul a b k hk, dv_mul _ _ k hk]
theorem ht_mul (a b c k : Int) : ht (a * k) (b * k) (c * k) = (k * k) * ht a b c := by
  unfold ht
  grind
theorem dv3_pos {a b c : Int} (h : a ≠ 0) : 0 < dv (dv a b) c := dv_pos_left (by have := dv_pos_left (b := b) h; omega)
/-- a root's numbers out of others: what is divided away -/
theorem nf_eq {a b c : Int} (h : a ≠ 0) : ∃ k : Int, k ≠ 0 ∧ a = nfA a b c * k ∧ b = nfB a b c * k ∧ c = nfC a b c * k ∧ 0 < nfA a b c ∧ dv (dv (nfA a b c) (nfB a b c)) (nfC a b c) = 1 ∧ k.natAbs = (dv (dv a b) c).natAbs ∧ (0 < a → 0 < k) ∧ (a < 0 → k < 0) := by
  have hg := dv3_pos (b := b) (c := c) h
  obtain ⟨d1, d2, d3⟩ := dv3_dvd a b c
  have h1 : dv (dv (a / dv (dv a b) c) (b / dv (dv a b) c)) (c / dv (dv a b) c) = 1 := by
    have e := dv3_mul (a / dv (dv a b) c) (b / dv (dv a b) c) (c / dv (dv a b) c) (dv (dv a b) c) (by omega)
    rw [Int.ediv_mul_cancel d1, Int.ediv_mul_cancel d2, Int.ediv_mul_cancel d3] at e
    have e2 : 1 * dv (dv a b) c = dv (dv (a / dv (dv a b) c) (b / dv (dv a b) c)) (c / dv (dv a b) c) * dv (dv a b) c := by
      rw [Int.one_mul]
      exact e
    exact (Int.eq_of_mul_eq_mul_right (by omega) e2).symm
  have e1 := Int.ediv_mul_cancel d1
  have e2 := Int.ediv_mul_cancel d2
  have e3 := Int.ediv_mul_cancel d3
  unfold nfA nfB nfC
  generalize dv (dv a b) c = g at *
  generalize a / g = x at *
  generalize b / g = y at *
  generalize c / g = z at *
  split
  · rename_i ha
    refine ⟨-g, by omega, by rw [Int.neg_mul_neg]; exact e1.symm, by rw [Int.neg_mul_neg]; exact e2.symm, by rw [Int.neg_mul_neg]; exact e3.symm, ?_, by rw [dv_neg_left, dv_neg_right, dv_neg_right]; exact h1, by omega, by omega, by omega⟩
    have : ¬ 0 ≤ x := fun hx => by
      have := Int.mul_nonneg hx (show 0 ≤ g by omega)
      omega
    omega
  · rename_i ha
    refine ⟨g, by omega, e1.symm, e2.symm, e3.symm, ?_, h1, by omega, by omega, by omega⟩
    have : ¬ x ≤ 0 := fun hx => by
      have := Int.mul_nonneg (show 0 ≤ -x by omega) (show 0 ≤ g by omega)
      rw [Int.neg_mul] at this
      omega
    omega
theorem ns_mul {d k : Int} (hk : k ≠ 0) : Ns (k * k * d) ↔ Ns d := by
  have hp := sqp hk
  constructor
  · rintro ⟨h1, h2⟩
    refine ⟨?_, ?_⟩
    · by_cases h : 0 < d
      · exact h
      · exfalso
        have := Int.mul_nonneg (Int.le_of_lt hp) (show 0 ≤ -d by omega)
        rw [Int.mul_neg] at this
        omega
    · cases e : isSq d with
      | false => rfl
      | true =>
        have e2 : rt d * rt d = d := of_decide_eq_true e
        have h3 := isSq_of (n := k * k * d) (x := k * rt d) (by
          have : k * rt d * (k * rt d) = k * k * (rt d * rt d) := by grind
          rw [this, e2])
        rw [h2] at h3
        cases h3
  · rintro ⟨h1, h2⟩
    refine ⟨Int.mul_pos hp h1, ?_⟩
    cases e : isSq (k * k * d) with
    | false => rfl
    | true =>
      have e2 : rt (k * k * d) * rt (k * k * d) = k * k * d := of_decide_eq_true e
      exact absurd (no_sq h2 (x := rt (k * k * d)) (y := k) (by rw [e2, Int.mul_comm])) hk
theorem noRoot_iff (a b c : Int) : NoRoot a b c ↔ ¬ Ns (ht a b c) ∨ a = 0 := by
  constructor
  · rintro (h | h | h)
    · exact .inr h
    · exact .inl fun z => by have := z.pos; omega
    · exact .inl fun z => by rw [z.no] at h; cases h
  · rintro (h | h)
    · by_cases h1 : NoRoot a b c
      · exact h1
      · exact absurd (ns_of h1) h
    · exact .inl h
theorem noRoot_mul {a b c k : Int} (hk : k ≠ 0) : NoRoot (a * k) (b * k) (c * k) ↔ NoRoot a b c := by
  rw [noRoot_iff, noRoot_iff, ht_mul, ns_mul hk, Int.mul_eq_zero]
  constructor
  · rintro (h | h | h)
    · exact .inl h
    · exact .inr h
    · exact absurd h hk
  · rintro (h | h)
    · exact .inl h
    · exact .inr (.inl h)
theorem nf_isR {a b c s : Int} (h : ¬ NoRoot a b c) (hs : s = 0 ∨ s = 1) : IsR (nfA a b c) (nfB a b c) (nfC a b c) s := by
  have ha : a ≠ 0 := fun z => h (.inl z)
  obtain ⟨k, hk, e1, e2, e3, hp, hd, _⟩ := nf_eq (b := b) (c := c) ha
  refine ⟨hp, hs, hd, ?_⟩
  have hn := ns_of h
  have e : ht a b c = (k * k) * ht (nfA a b c) (nfB a b c) (nfC a b c) := by
    have h2 := ht_mul (nfA a b c) (nfB a b c) (nfC a b c) k
    rw [← e1, ← e2, ← e3] at h2
    exact h2
  rw [e] at hn
  exact (ns_mul hk).mp hn
theorem nf_mul {a b c k : Int} (ha : a ≠ 0) (hk : 0 < k) : nfA (a * k) (b * k) (c * k) = nfA a b c ∧ nfB (a * k) (b * k) (c * k) = nfB a b c ∧ nfC (a * k) (b * k) (c * k) = nfC a b c := by
  have hg := dv3_pos (b := b) (c := c) ha
  have hs : (a * k < 0) ↔ a < 0 := by
    constructor
    · intro h
      by_cases h2 : a < 0
      · exact h2
      · have := Int.mul_nonneg (show 0 ≤ a by omega) (Int.le_of_lt hk)
        omega
    · intro h
      exact Int.mul_neg_of_neg_of_pos h hk
  have hd : ∀ x : Int, x * k / (dv (dv a b) c * k) = x / dv (dv a b) c := fun x => Int.mul_ediv_mul_of_pos_left x _ hk
  unfold nfA nfB nfC
  rw [dv3_mul a b c k (Int.le_of_lt hk), hd, hd, hd]
  by_cases h : a < 0
  · rw [if_pos h, if_pos (hs.mpr h), if_pos h, if_pos (hs.mpr h), if_pos h, if_pos (hs.mpr h)]
    exact ⟨rfl, rfl, rfl⟩
  · rw [if_neg h, if_neg (fun z => h (hs.mp z)), if_neg h, if_neg (fun z => h (hs.mp z)), if_neg h, if_neg (fun z => h (hs.mp z))]
    exact ⟨rfl, rfl, rfl⟩
theorem nf_abs {a b c : Int} (ha : a ≠ 0) : (nfA a b c).natAbs ≤ a.natAbs ∧ (nfB a b c).natAbs ≤ b.natAbs ∧ (nfC a b c).natAbs ≤ c.natAbs := by
  obtain ⟨k, hk, e1, e2, e3, _⟩ := nf_eq (b := b) (c := c) ha
  have h1 : 1 ≤ k.natAbs := by omega
  have key : ∀ x y : Int, x = y * k → y.natAbs ≤ x.natAbs := fun x y e => by
    rw [e, Int.natAbs_mul]
    exact Nat.le_mul_of_pos_right _ h1
  exact ⟨key _ _ e1, key _ _ e2, key _ _ e3⟩
end RR
/-! RRP: the promises of part_of, moved, turned, is_above and of the laws' draws. -/
namespace RR
open PySem PySem.Spec PyProof.Rows L2
/-- within three hundred bits -/
structure S3 (x : Int) : Prop where
  lt : x.natAbs < 2 ^ 300
theorem S3.sm {x : Int} (h : S3 x) : Sm x := ⟨nat_mono h.lt (by decide)⟩
theorem s3_of {x : Int} (h : x.natAbs < 2 ^ 60) : S3 x := ⟨nat_mono h (by decide)⟩
theorem s3_le {x y : Int} (h : x.natAbs ≤ y.natAbs) (hy : S3 y) : S3 x := ⟨Nat.lt_of_le_of_lt h hy.lt⟩
def sp_part_of : Sp := fun vs H Q _ => ∃ r : Addr, vs = [.ref r] ∧ ((∃ u l : Int, H r = some (tI [u, l]) ∧ 0 < l ∧ Big l ∧ Q (.int (u / l)) H) ∨
  ∃ a b c s : Int, H r = some (tI [a, b, c, s]) ∧ 0 < a ∧ 0 ≤ ht a b c ∧ Sm a ∧ Sm b ∧ Sm c ∧ Q (.int (partR a b c s)) H)
def sp_moved : Sp := fun vs H Q _ => ∃ (r : Addr) (a b c s n : Int), vs = [.ref r, .int n] ∧ H r = some (tI [a, b, c, s]) ∧ S3 a ∧ S3 b ∧ S3 c ∧ S3 n ∧ ∀ p, H p = none → Q (.ref p) (upd H p (tI [a, b + 2 * a * n, mvC a b c n, s]))
def sp_turned : Sp := fun vs H Q _ => ∃ (r : Addr) (a b c s n : Int), vs = [.ref r, .int n] ∧ H r = some (tI [a, b, c, s]) ∧ IsR a b c s ∧ S3 a ∧ S3 b ∧ S3 c ∧ S3 n ∧
  ∀ H' p, Same H H' → H p = none → H' p = some (tI [tnA a b c n, tnB a b c n, tnC a b c n, tnS a b c s n]) → Q (.ref p) H'
def sp_above : Sp := fun vs H Q _ => ∃ (r : Addr) (a b c s u l : Int), vs = [.ref r, .int u, .int l] ∧ H r = some (tI [a, b, c, s]) ∧ (s = 0 ∨ s = 1) ∧ Sm a ∧ Sm b ∧ Sm c ∧ Sm u ∧ Sm l ∧ Q (.bl (ab a b c s u l)) H
/-- a drawn root -/
def sp_root : Sp := fun vs H Q _ => ∃ c o w : Int, vs = [.int c, .int o, .int w] ∧ 2 ≤ w ∧ w ≤ 1000 ∧ ∀ a b c s H' p, IsR a b c s → a ≤ w → -w ≤ b → b ≤ w → -w ≤ c → c ≤ w → Same H H' → H p = none → H' p = some (tI [a, b, c, s]) → Q (.ref p) H'
theorem len3 {α : Type} {a b c : α} : [a, b, c].length ≤ sizeLine := small_le (show 3 ≤ 10000000 by decide)
theorem mix_rng {c p m : Int} (hm : 0 < m) : 0 ≤ mix c p m ∧ mix c p m < m := ⟨Int.emod_nonneg _ (by omega), Int.emod_lt_of_pos _ hm⟩
theorem mv_s3 {a b c n : Int} (ha : S3 a) (hb : S3 b) (hc : S3 c) (hn : S3 n) : Sm (b + 2 * a * n) ∧ Sm (mvC a b c n) := by
  have h1 := nat_mul_lt ha.lt hn.lt
  refine ⟨⟨?_⟩, ⟨?_⟩⟩
  · exact nat_mono (nat_add_lt (m := 603) (nat_mono hb.lt (by decide)) (nat_mono (nat_mul_lt (nat_mul_lt (m := 2) (by decide) ha.lt) hn.lt) (by decide))) (by decide)
  · exact nat_mono (nat_add_lt (m := 901) (nat_add_lt (m := 900) (nat_mono (nat_mul_lt h1 hn.lt) (by decide)) (nat_mono (nat_mul_lt hb.lt hn.lt) (by decide))) (nat_mono hc.lt (by decide))) (by decide)
theorem ht_rev (a b c : Int) : ht c b a = ht a b c := by
  unfold ht
  grind
theorem tn_nf {a b c s : Int} (n : Int) (R : IsR a b c s) : ¬ NoRoot (mvC a b c n) (b + 2 * a * n) a ∧ nfA (mvC a b c n) (b + 2 * a * n) a = tnA a b c n ∧ nfB (mvC a b c n) (b + 2 * a * n) a = tnB a b c n ∧ nfC (mvC a b c n) (b + 2 * a * n) a = tnC a b c n := by
  have h0 := mvC_ne (n := n) R.n
  have hg := mv_dv n R.g
  refine ⟨?_, ?_, ?_, ?_⟩
  · rw [noRoot_iff, ht_rev, mv_ht]
    rintro (h | h)
    · exact h R.n
    · exact h0 h
  all_goals
    first | unfold nfA tnA | unfold nfB tnB | unfold nfC tnC
    rw [hg, Int.ediv_one]
    by_cases h : 0 < mvC a b c n
    · rw [if_pos h, if_neg (by omega)]
    · rw [if_neg h, if_pos (by omega)]
end RR
/-! RRO: the row of a root: how it goes on; the promise of rounds_of. -/
namespace RR
open PySem PySem.Spec PyProof.Rows L2
/-- four numbers of a root -/
structure R4 where
  a : Int
  b : Int
  c : Int
  s : Int
deriving DecidableEq
def R4.l (r : R4) : List Int := [r.a, r.b, r.c, r.s]
def R4.k (r : R4) : List Key := [.inl r.a, .inl r.b, .inl r.c, .inl r.s]
theorem R4.k_inj {r t : R4} (h : r.k = t.k) : r = t := by
  obtain ⟨a, b, c, s⟩ := r
  obtain ⟨a', b', c', s'⟩ := t
  simp only [R4.k, List.cons.injEq, Sum.inl.injEq, and_true] at h
  obtain ⟨rfl, rfl, rfl, rfl⟩ := h
  rfl
def R4.Is (r : R4) : Prop := IsR r.a r.b r.c r.s
def R4.prt (r : R4) : Int := partR r.a r.b r.c r.s
def R4.tn (r : R4) (n : Int) : R4 := ⟨tnA r.a r.b r.c n, tnB r.a r.b r.c n, tnC r.a r.b r.c n, tnS r.a r.b r.c r.s n⟩
def R4.nx (r : R4) : R4 := r.tn r.prt
def orb (r : R4) : Nat → R4
  | 0 => r
  | k + 1 => (orb r k).nx
theorem orb_is {r : R4} (h : r.Is) : ∀ k, (orb r k).Is
  | 0 => h
  | k + 1 => tn_isR _ (orb_is h k)
theorem orb_add (r : R4) (i : Nat) : ∀ k, orb r (i + k) = orb (orb r i) k
  | 0 => rfl
  | k + 1 => congrArg R4.nx (orb_add r i k)
/-- the parts from the i-th on, n of them -/
def prts (r : R4) (i n : Nat) : List Int := (List.range' i n).map fun k => (orb r k).prt
/-- within three hundred bits, all of it -/
structure S4 (r : R4) : Prop where
  a : S3 r.a
  b : S3 r.b
  c : S3 r.c
  p : S3 r.prt
theorem valV_range {κ : Type} [DecidableEq κ] {f : Nat → κ} {x : κ} : ∀ n : Nat, (∀ m, m < n → f m ≠ x) → valV ((List.range n).map fun m => (f m, V.int m)) x = none
  | 0, _ => rfl
  | n + 1, h => by
    rw [List.range_succ, List.map_append, List.map_cons, List.map_nil]
    have ih := valV_range n fun m hm => h m (by omega)
    rw [valV]
    rw [List.find?_append]
    rw [valV, Option.map_eq_none_iff] at ih
    rw [ih]
    have : ¬ f n = x := h n (by omega)
    simp [this]
theorem valV_at {κ : Type} [DecidableEq κ] {f : Nat → κ} {x : κ} {i : Nat} : ∀ n : Nat, i < n → f i = x → (∀ m, m < n → f m = x → m = i) → valV ((List.range n).map fun m => (f m, V.int m)) x = some (.int i)
  | 0, h, _, _ => absurd h (Nat.not_lt_zero _)
  | n + 1, hi, hx, hu => by
    rw [List.range_succ, List.map_append, List.map_cons, List.map_nil]
    rw [valV, List.find?_append]
    by_cases h : i < n
    · have ih := valV_at n h hx fun m hm e => hu m (by omega) e
      rw [valV] at ih
      obtain ⟨p, hp, e⟩ := Option.map_eq_some_iff.mp ih
      rw [hp, Option.some_or, Option.map_some, e]
    · have e : i = n := by omega
      subst e
      have ih := valV_range i (f := f) (x := x) fun m hm e => by have := hu m (by omega) e; omega
      rw [valV, Option.map_eq_none_iff] at ih
      rw [ih]
      simp [hx]
theorem room1 {k : Nat} {A : Around} (r : Room k A) : A.units + 1 < cLine := by
  have := r.units
  omega
def sp_rounds_of : Sp := fun vs H Q _ => ∃ (t : Addr) (r : R4), vs = [.ref t] ∧ H t = some (tI r.l) ∧ r.Is ∧ ∃ i j : Nat, i < j ∧ j ≤ 1000000 ∧ orb r j = orb r i ∧ (∀ k m, k < m → m < j → orb r k ≠ orb r m) ∧ (∀ k, k < j → S4 (orb r k)) ∧
  ∀ H' p t1 t2, Same H H' → H p = none → H t1 = none → H t2 = none → H' p = some (.tup [.ref t1, .ref t2]) → H' t1 = some (tI (prts r 0 i)) → H' t2 = some (tI (prts r i (j - i))) → Q (.ref p) H'
end RR
/-! RRG: two unlike roots have a fraction between them; how the numbers of a row's roots grow. -/
namespace RR
theorem isSq_false_ne {n x : Int} (h : isSq n = false) : x * x ≠ n := fun z => by
  have h2 := isSq_of z
  rw [h] at h2
  cases h2
/-- z plus n times the root -/
theorem ps_upN {d z n : Int} (h : Ns d) (hn : 0 < n) (k : -(rt (n * n * d)) ≤ z) : Ps d z n := by
  have hs := (ns_mul (show n ≠ 0 by omega)).mpr h
  have h0 := rt_spec (Int.le_of_lt hs.pos)
  have e0 : d * (n * n) = n * n * d := Int.mul_comm _ _
  unfold Ps nm
  rw [e0]
  by_cases e : z * z < n * n * d
  · right; omega
  · left
    have e2 : z * z ≠ n * n * d := isSq_false_ne hs.no
    refine ⟨by omega, ?_⟩
    by_cases e3 : 0 < z
    · exact e3
    · have := Int.mul_self_le_mul_self (show 0 ≤ -z by omega) (show -z ≤ rt (n * n * d) by omega)
      rw [Int.neg_mul_neg] at this
      omega
theorem ps_dnN {d z n : Int} (h : Ns d) (hn : 0 < n) (k : rt (n * n * d) + 1 ≤ z) : Ps d z (-n) := by
  have hs := (ns_mul (show n ≠ 0 by omega)).mpr h
  have h0 := rt_spec (Int.le_of_lt hs.pos)
  have := Int.mul_self_le_mul_self (show 0 ≤ rt (n * n * d) + 1 by omega) k
  left
  unfold nm
  rw [Int.neg_mul_neg, show d * (n * n) = n * n * d from Int.mul_comm _ _]
  omega
/-- the whole part of n times a root -/
theorem floorN {a b c s n : Int} (R : IsR a b c s) (hn : 0 < n) : ∃ u, OvR a b c s u n ∧ BeR a b c s (u + 1) n := by
  have hd := R.n
  have ha := R.ha
  unfold OvR BeR Ov Be
  generalize ht a b c = d at *
  rcases R.hs with rfl | rfl
  · obtain ⟨h1, h2⟩ := fl (x := 0 - rt (n * n * d) - 1 - b * n) (y := 2 * a) (by omega)
    generalize (0 - rt (n * n * d) - 1 - b * n) / (2 * a) = z at *
    refine ⟨z, ?_, ?_⟩
    · rw [show sg 0 * n = -n by unfold sg; omega]
      exact ps_dnN hd hn (by rw [Int.neg_mul]; omega)
    · rw [show -(sg 0 * n) = n by unfold sg; omega]
      exact ps_upN hd hn (by rw [Int.neg_mul]; omega)
  · obtain ⟨h1, h2⟩ := fl (x := rt (n * n * d) - b * n) (y := 2 * a) (by omega)
    generalize (rt (n * n * d) - b * n) / (2 * a) = z at *
    refine ⟨z, ?_, ?_⟩
    · rw [show sg 1 * n = n by unfold sg; omega]
      exact ps_upN hd hn (by rw [Int.neg_mul]; omega)
    · rw [show -(sg 1 * n) = -n by unfold sg; omega]
      exact ps_dnN hd hn (by rw [Int.neg_mul]; omega)
theorem ab_sq (x : Int) : (x.natAbs : Int) * x.natAbs = x * x := by
  rcases Int.natAbs_eq x with h | h
  · rw [← h]
  · conv => rhs; rw [h]
    rw [Int.neg_mul_neg]
/-- how small a form is at the whole part -/
theorem form_small {a b c s u n : Int} (R : IsR a b c s) (hn : 0 < n) (h1 : OvR a b c s u n) (h2 : BeR a b c s (u + 1) n) :
    ((2 * a * u + b * n) * (2 * a * u + b * n) - ht a b c * (n * n)).natAbs ≤ 4 * a * (2 * a * u + b * n).natAbs + 4 * a * a := by
  have ha := R.ha
  have hsg := sg_sq R.hs
  unfold OvR Ov Ps at h1
  unfold BeR Be Ps at h2
  have e1 : nm (ht a b c) (-b * n - u * (2 * a)) (sg s * n) = (2 * a * u + b * n) * (2 * a * u + b * n) - ht a b c * (n * n) := by
    unfold nm
    have : sg s * n * (sg s * n) = sg s * sg s * (n * n) := by grind
    rw [this, hsg]
    grind
  have e2 : nm (ht a b c) ((u + 1) * (2 * a) - -b * n) (-(sg s * n)) = (2 * a * u + b * n) * (2 * a * u + b * n) - ht a b c * (n * n) + 4 * a * (2 * a * u + b * n) + 4 * a * a := by
    unfold nm
    have : -(sg s * n) * -(sg s * n) = sg s * sg s * (n * n) := by grind
    rw [this, hsg]
    grind
  rw [e1] at h1
  rw [e2] at h2
  have hdn : 0 ≤ ht a b c * (n * n) := Int.mul_nonneg (Int.le_of_lt R.n.pos) (sqn n)
  have hw1 : -b * n - u * (2 * a) = -(2 * a * u + b * n) := by grind
  have hw2 : (u + 1) * (2 * a) - -b * n = 2 * a * u + b * n + 2 * a := by grind
  rw [hw1] at h1
  rw [hw2] at h2
  generalize 2 * a * u + b * n = w at *
  have hsq : ∀ x : Int, -2 * a < x → x < 2 * a → x * x ≤ 4 * a * a := fun x k1 k2 => by
    have := Int.mul_self_le_mul_self (a := x.natAbs) (b := 2 * a) (by omega) (by omega)
    rw [ab_sq] at this
    have e : 2 * a * (2 * a) = 4 * a * a := by grind
    omega
  have hpos : 0 ≤ 4 * a * (w.natAbs : Int) := Int.mul_nonneg (by omega) (by omega)
  have haa : 0 ≤ 4 * a * a := Int.mul_nonneg (by omega) (by omega)
  have hwa : 4 * a * w ≤ 4 * a * (w.natAbs : Int) := Int.mul_le_mul_of_nonneg_left (by omega) (by omega)
  have hwb : -(4 * a * w) ≤ 4 * a * (w.natAbs : Int) := by
    have : 4 * a * (-w) ≤ 4 * a * (w.natAbs : Int) := Int.mul_le_mul_of_nonneg_left (by omega) (by omega)
    rw [Int.mul_neg] at this
    exact this
  generalize ht a b c * (n * n) = dn at *
  have hyn : (0 < sg s * n ∧ ¬ 0 < -(sg s * n)) ∨ (¬ 0 < sg s * n ∧ 0 < -(sg s * n)) := by
    rcases R.hs with rfl | rfl <;> (unfold sg; omega)
  have hs1 := hsq w
  generalize sg s * n = y at *
  omega
/-- and how great its slope -/
theorem slope_small {a b c s u n : Int} (R : IsR a b c s) (hn : 0 < n) (h1 : OvR a b c s u n) (h2 : BeR a b c s (u + 1) n) :
    ((2 * a * u + b * n).natAbs : Int) < ht a b c * n + 5 * a := by
  have h := form_small R hn h1 h2
  have ha := R.ha
  have hd := R.n.pos
  generalize 2 * a * u + b * n = w at *
  rw [← ab_sq w] at h
  generalize ht a b c = d at *
  have hw : 0 ≤ (w.natAbs : Int) := Int.natCast_nonneg _
  generalize hx : (w.natAbs : Int) = x at *
  by_cases k : x < d * n + 5 * a
  · exact k
  exfalso
  have k' : d * n + 5 * a ≤ x := by omega
  have hdn : 0 < d * n := Int.mul_pos hd hn
  have e1 : (d * n + 5 * a) * x ≤ x * x := Int.mul_le_mul_of_nonneg_right k' hw
  have e2 : (d * n + a) * (d * n + 5 * a) ≤ (d * n + a) * x := Int.mul_le_mul_of_nonneg_left k' (by omega)
  have e3 : (d * n + 5 * a) * x = 4 * a * x + (d * n + a) * x := by grind
  have e4 : (d * n + a) * (d * n + 5 * a) = d * n * (d * n) + 6 * a * (d * n) + 5 * a * a := by grind
  have e5 : d * (n * n) ≤ d * n * (d * n) := by
    have : d * n * (d * n) = d * (d * (n * n)) := by grind
    rw [this]
    have h3 : 1 * (d * (n * n)) ≤ d * (d * (n * n)) := Int.mul_le_mul_of_nonneg_right (by omega) (Int.mul_nonneg (by omega) (sqn n))
    omega
  have e6 : 0 < 6 * a * (d * n) := Int.mul_pos (by omega) hdn
  have e7 : 0 < a * a := Int.mul_pos ha ha
  have e8 : 4 * a * a = 4 * (a * a) := by grind
  have e9 : 5 * a * a = 5 * (a * a) := by grind
  omega
theorem natAbs_mul_pos {a x : Int} (ha : 0 < a) : ((a * x).natAbs : Int) = a * (x.natAbs : Int) := by
  rw [Int.natAbs_mul, Int.natCast_mul, Int.natAbs_of_nonneg (Int.le_of_lt ha)]
theorem fm_small {a b c s u n : Int} (R : IsR a b c s) (hn : 0 < n) (h1 : OvR a b c s u n) (h2 : BeR a b c s (u + 1) n) : ((fm a b c u n).natAbs : Int) ≤ (ht a b c + 6 * a) * n := by
  have h := form_small R hn h1 h2
  have hs := slope_small R hn h1 h2
  have ha := R.ha
  have e : (2 * a * u + b * n) * (2 * a * u + b * n) - ht a b c * (n * n) = 4 * a * fm a b c u n := by
    unfold ht fm
    grind
  rw [e, natAbs_mul_pos (show 0 < 4 * a by omega)] at h
  generalize ((2 * a * u + b * n).natAbs : Int) = x at *
  generalize ((fm a b c u n).natAbs : Int) = y at *
  have h3 : 4 * a * y ≤ 4 * a * (x + a) := by
    have : 4 * a * (x + a) = 4 * a * x + 4 * a * a := by grind
    omega
  have h4 := Int.le_of_mul_le_mul_left h3 (by omega)
  have h5 : a * 1 ≤ a * n := Int.mul_le_mul_of_nonneg_left (by omega) (Int.le_of_lt ha)
  have h6 : (ht a b c + 6 * a) * n = ht a b c * n + 6 * (a * n) := by grind
  omega
/-- two forms of one root's cut are one -/
theorem same_form {a b c s a' b' c' s' u n : Int} (R : IsR a b c s) (R' : IsR a' b' c' s') (hn : 0 < n) (h1 : OvR a b c s u n) (h2 : BeR a b c s (u + 1) n) (h1' : OvR a' b' c' s' u n) (h2' : BeR a' b' c' s' (u + 1) n)
    (hN : (a' * b - a * b') * (a' * b - a * b') * (ht a b c + 6 * a) + (a' * (ht a b c + 6 * a) + a * (ht a' b' c' + 6 * a')) * (b * (a' * b - a * b') - 2 * a * (a' * c - a * c')).natAbs + a * ((a' * (ht a b c + 6 * a) + a * (ht a' b' c' + 6 * a')) * (a' * (ht a b c + 6 * a) + a * (ht a' b' c' + 6 * a'))) < n) :
    a' * b = a * b' ∧ a' * c = a * c' := by
  have f1 := fm_small R hn h1 h2
  have f2 := fm_small R' hn h1' h2'
  have ha := R.ha
  have ha' := R'.ha
  have hd := R.n.pos
  have hd' := R'.n.pos
  have hns := R.n
  have hdd : ht a b c = b * b - 4 * a * c := rfl
  generalize hk1 : ht a b c + 6 * a = k1 at *
  generalize hk2 : ht a' b' c' + 6 * a' = k2 at *
  generalize hp : a' * b - a * b' = p at *
  generalize hq : a' * c - a * c' = q at *
  generalize hK : a' * k1 + a * k2 = K at *
  generalize hE : p * u + q * n = ε at *
  generalize hR : a * q * q - b * p * q + c * p * p = r at *
  -- the difference of the forms
  have e1 : a' * fm a b c u n - a * fm a' b' c' u n = n * ε := by
    unfold fm
    rw [← hE, ← hp, ← hq]
    grind
  have e2 : p * p * fm a b c u n = n * (n * r) + n * (ε * (b * p - 2 * a * q)) + a * (ε * ε) := by
    unfold fm
    rw [← hR, ← hE]
    grind
  generalize fm a b c u n = f at *
  generalize fm a' b' c' u n = g at *
  have hε : (ε.natAbs : Int) ≤ K := by
    have h3 : ((n * ε).natAbs : Int) ≤ a' * (k1 * n) + a * (k2 * n) := by
      rw [← e1]
      have h4 := Int.natAbs_sub_le (a' * f) (a * g)
      have h5 := natAbs_mul_pos (x := f) ha'
      have h6 := natAbs_mul_pos (x := g) ha
      have h7 : a' * (f.natAbs : Int) ≤ a' * (k1 * n) := Int.mul_le_mul_of_nonneg_left f1 (Int.le_of_lt ha')
      have h8 : a * (g.natAbs : Int) ≤ a * (k2 * n) := Int.mul_le_mul_of_nonneg_left f2 (Int.le_of_lt ha)
      omega
    rw [natAbs_mul_pos hn] at h3
    have h4 : n * (ε.natAbs : Int) ≤ n * K := by
      have : a' * (k1 * n) + a * (k2 * n) = n * K := by rw [← hK]; grind
      omega
    exact Int.le_of_mul_le_mul_left h4 hn
  have hK0 : 0 ≤ K := by have := Int.natCast_nonneg ε.natAbs; omega
  have hr : r = 0 := by
    have h3 : n * ((n : Int) * (r.natAbs : Int)) ≤ n * (p * p * k1 + K * (b * p - 2 * a * q).natAbs + a * (K * K)) := by
      have h4 : n * (n * r) = p * p * f - n * (ε * (b * p - 2 * a * q)) - a * (ε * ε) := by omega
      have h5 : ((n * (n * r)).natAbs : Int) = n * (n * (r.natAbs : Int)) := by rw [natAbs_mul_pos hn, natAbs_mul_pos hn]
      have h6 := Int.natAbs_sub_le (p * p * f - n * (ε * (b * p - 2 * a * q))) (a * (ε * ε))
      have h7 := Int.natAbs_sub_le (p * p * f) (n * (ε * (b * p - 2 * a * q)))
      have h8 : ((p * p * f).natAbs : Int) ≤ p * p * (k1 * n) := by
        rw [Int.natAbs_mul, Int.natCast_mul, Int.natAbs_of_nonneg (sqn p)]
        exact Int.mul_le_mul_of_nonneg_left f1 (sqn p)
      have h9 : ((n * (ε * (b * p - 2 * a * q))).natAbs : Int) ≤ n * (K * (b * p - 2 * a * q).natAbs) := by
        rw [natAbs_mul_pos hn, Int.natAbs_mul, Int.natCast_mul]
        exact Int.mul_le_mul_of_nonneg_left (Int.mul_le_mul_of_nonneg_right hε (Int.natCast_nonneg _)) (Int.le_of_lt hn)
      have h10 : ((a * (ε * ε)).natAbs : Int) ≤ n * (a * (K * K)) := by
        rw [natAbs_mul_pos ha, Int.natAbs_mul, Int.natCast_mul]
        have h11 : (ε.natAbs : Int) * ε.natAbs ≤ K * K := Int.mul_le_mul hε hε (Int.natCast_nonneg _) hK0
        have h12 : a * ((ε.natAbs : Int) * ε.natAbs) ≤ a * (K * K) := Int.mul_le_mul_of_nonneg_left h11 (Int.le_of_lt ha)
        have h13 : 1 * (a * (K * K)) ≤ n * (a * (K * K)) := Int.mul_le_mul_of_nonneg_right (by omega) (Int.mul_nonneg (Int.le_of_lt ha) (Int.mul_nonneg hK0 hK0))
        omega
      have h14 : n * (p * p * k1 + K * (b * p - 2 * a * q).natAbs + a * (K * K)) = p * p * (k1 * n) + n * (K * (b * p - 2 * a * q).natAbs) + n * (a * (K * K)) := by grind
      rw [h4] at h5
      omega
    have h4 := Int.le_of_mul_le_mul_left h3 hn
    have h5 : ¬ 1 ≤ (r.natAbs : Int) := fun z => by
      have : n * 1 ≤ n * (r.natAbs : Int) := Int.mul_le_mul_of_nonneg_left z (Int.le_of_lt hn)
      omega
    omega
  have hp0 : p = 0 := by
    have h3 : (2 * a * q - b * p) * (2 * a * q - b * p) = ht a b c * (p * p) := by
      rw [hdd]
      have : (2 * a * q - b * p) * (2 * a * q - b * p) = (b * b - 4 * a * c) * (p * p) + 4 * a * (a * q * q - b * p * q + c * p * p) := by grind
      rw [this, hR, hr]
      omega
    exact no_sq hns.no h3
  subst hp0
  have hq0 : q = 0 := by
    have h3 : a * q * q = 0 := by
      have : a * q * q - b * 0 * q + c * 0 * 0 = a * q * q := by grind
      omega
    rcases Int.mul_eq_zero.mp h3 with h4 | h4
    · rcases Int.mul_eq_zero.mp h4 with h5 | h5
      · omega
      · exact h5
    · exact h4
  omega
/-- the bound behind which two unlike forms are told apart -/
def sepN (a b c a' b' c' : Int) : Int := (a' * b - a * b') * (a' * b - a * b') * (ht a b c + 6 * a) + (a' * (ht a b c + 6 * a) + a * (ht a' b' c' + 6 * a')) * (b * (a' * b - a * b') - 2 * a * (a' * c - a * c')).natAbs + a * ((a' * (ht a b c + 6 * a) + a * (ht a' b' c' + 6 * a')) * (a' * (ht a b c + 6 * a) + a * (ht a' b' c' + 6 * a'))) + 1
theorem sepN_pos {a b c s a' b' c' s' : Int} (R : IsR a b c s) (R' : IsR a' b' c' s') : 0 < sepN a b c a' b' c' := by
  have ha := R.ha
  have ha' := R'.ha
  have hd := R.n.pos
  have hd' := R'.n.pos
  unfold sepN
  have h1 : 0 ≤ a' * (ht a b c + 6 * a) + a * (ht a' b' c' + 6 * a') := Int.add_nonneg (Int.mul_nonneg (by omega) (by omega)) (Int.mul_nonneg (by omega) (by omega))
  have h2 : 0 ≤ (a' * b - a * b') * (a' * b - a * b') * (ht a b c + 6 * a) := Int.mul_nonneg (sqn _) (by omega)
  have h3 : 0 ≤ (a' * (ht a b c + 6 * a) + a * (ht a' b' c' + 6 * a')) * (b * (a' * b - a * b') - 2 * a * (a' * c - a * c')).natAbs := Int.mul_nonneg h1 (Int.natCast_nonneg _)
  have h4 : 0 ≤ a * ((a' * (ht a b c + 6 * a) + a * (ht a' b' c' + 6 * a')) * (a' * (ht a b c + 6 * a) + a * (ht a' b' c' + 6 * a'))) := Int.mul_nonneg (by omega) (sqn _)
  omega
theorem same_prim {a b c a' b' c' : Int} (ha : 0 < a) (ha' : 0 < a') (g : dv (dv a b) c = 1) (g' : dv (dv a' b') c' = 1) (h1 : a' * b = a * b') (h2 : a' * c = a * c') : a = a' ∧ b = b' ∧ c = c' := by
  have d1 : a ∣ a' := by
    have h := dvd_dv (dvd_dv (show a ∣ a * a' from Int.dvd_mul_right a a') (show a ∣ b * a' from ⟨b', by rw [Int.mul_comm]; exact h1⟩)) (show a ∣ c * a' from ⟨c', by rw [Int.mul_comm]; exact h2⟩)
    rw [dv3_mul a b c a' (Int.le_of_lt ha'), g, Int.one_mul] at h
    exact h
  have d2 : a' ∣ a := by
    have h := dvd_dv (dvd_dv (show a' ∣ a' * a from Int.dvd_mul_right a' a) (show a' ∣ b' * a from ⟨b, by rw [Int.mul_comm]; exact h1.symm⟩)) (show a' ∣ c' * a from ⟨c, by rw [Int.mul_comm]; exact h2.symm⟩)
    rw [dv3_mul a' b' c' a (Int.le_of_lt ha), g', Int.one_mul] at h
    exact h
  have e : a = a' := Int.dvd_antisymm (Int.le_of_lt ha) (Int.le_of_lt ha') d1 d2
  subst e
  exact ⟨rfl, Int.eq_of_mul_eq_mul_left (by omega) h1, Int.eq_of_mul_eq_mul_left (by omega) h2⟩
/-- r is less than u / l, t greater -/
def Btw (r t : R4) (u l : Int) : Prop := BeR r.a r.b r.c r.s u l ∧ OvR t.a t.b t.c t.s u l
theorem sep {r t : R4} (R : r.Is) (T : t.Is) (hne : r ≠ t) : ∃ u l, 0 < l ∧ l ≤ 2 * r.a + sepN r.a r.b r.c t.a t.b t.c ∧ (Btw r t u l ∨ Btw t r u l) := by
  have ha := R.ha
  have hN := sepN_pos R T
  by_cases hf : r.a = t.a ∧ r.b = t.b ∧ r.c = t.c
  · obtain ⟨a, b, c, s⟩ := r
    obtain ⟨a', b', c', s'⟩ := t
    obtain ⟨h1, h2, h3⟩ := hf
    dsimp only at h1 h2 h3
    subst h1 h2 h3
    have hs : s ≠ s' := fun z => hne (by rw [z])
    have hd : 0 < ht a b c := R.n.pos
    have up : ∀ s, s = 1 → OvR a b c s (-b) (2 * a) := fun s hs => by
      subst hs
      unfold OvR Ov
      rw [show -b * (2 * a) - -b * (2 * a) = 0 by omega, show sg 1 * (2 * a) = 2 * a by unfold sg; omega]
      exact Ps.root hd (by have : 0 < a := ha; omega)
    have dn : ∀ s, s = 0 → BeR a b c s (-b) (2 * a) := fun s hs => by
      subst hs
      unfold BeR Be
      rw [show -b * (2 * a) - -b * (2 * a) = 0 by omega, show -(sg 0 * (2 * a)) = 2 * a by unfold sg; omega]
      exact Ps.root hd (by have : 0 < a := ha; omega)
    refine ⟨-b, 2 * a, by have : 0 < a := ha; omega, by show 2 * a ≤ 2 * a + _; omega, ?_⟩
    rcases R.hs with h | h <;> rcases T.hs with h' | h'
    · exact absurd (h.trans h'.symm) hs
    · exact .inl ⟨dn _ h, up _ h'⟩
    · exact .inr ⟨dn _ h', up _ h⟩
    · exact absurd (h.trans h'.symm) hs
  · obtain ⟨u, h1, h2⟩ := floorN R hN
    obtain ⟨v, h3, h4⟩ := floorN T hN
    have hr2 : (0 : Int) < 2 * r.a := by omega
    have ht2 : (0 : Int) < 2 * t.a := by have := T.ha; omega
    have hbound : sepN r.a r.b r.c t.a t.b t.c ≤ 2 * r.a + sepN r.a r.b r.c t.a t.b t.c := by omega
    by_cases e : u = v
    · subst e
      have h5 := same_form R T hN h1 h2 h3 h4 (by unfold sepN; omega)
      exact absurd (same_prim R.ha T.ha R.g T.g h5.1 h5.2) hf
    · by_cases h : u < v
      · exact ⟨v, _, hN, hbound, .inl ⟨Be.le R.n hr2 hN hN h2 (Int.mul_le_mul_of_nonneg_right (by omega) (Int.le_of_lt hN)), h3⟩⟩
      · exact ⟨u, _, hN, hbound, .inr ⟨Be.le T.n ht2 hN hN h4 (Int.mul_le_mul_of_nonneg_right (by omega) (Int.le_of_lt hN)), h1⟩⟩
/-! ### a common turn -/
theorem part_is {r : R4} (R : r.Is) : OvR r.a r.b r.c r.s r.prt 1 ∧ BeR r.a r.b r.c r.s (r.prt + 1) 1 := part_ov R
theorem btw_part {r t : R4} {u l : Int} (R : r.Is) (T : t.Is) (hl : 0 < l) (h : Btw r t u l) : r.prt ≤ t.prt := by
  obtain ⟨p1, p2⟩ := part_is R
  obtain ⟨q1, q2⟩ := part_is T
  have ha := R.ha
  have hb := T.ha
  have h1 := ov_be_lt R.n (by omega) (by decide) hl p1 h.1
  have h2 := ov_be_lt T.n (by omega) hl (by decide) h.2 q2
  have h3 : r.prt * l < (t.prt + 1) * l := by omega
  have := Int.lt_of_mul_lt_mul_right h3 (Int.le_of_lt hl)
  omega
theorem btw_turn {r t : R4} {u l : Int} (R : r.Is) (T : t.Is) (hl : 0 < l) (h : Btw r t u l) (he : r.prt = t.prt) : 0 < u - r.prt * l ∧ u - r.prt * l < l ∧ Btw t.nx r.nx l (u - r.prt * l) := by
  obtain ⟨p1, p2⟩ := part_is R
  obtain ⟨q1, q2⟩ := part_is T
  have ha := R.ha
  have hb := T.ha
  have h1 := ov_be_lt R.n (by omega) (by decide) hl p1 h.1
  have h2 := ov_be_lt T.n (by omega) hl (by decide) h.2 q2
  rw [← he, Int.add_mul] at h2
  have h3 : 0 < u - r.prt * l := by omega
  have e1 : r.prt * l + (u - r.prt * l) = u := by omega
  refine ⟨h3, by omega, ?_, ?_⟩
  · have h4 := tn_up (n := t.prt) (u := l) (l := u - r.prt * l) T h3 hl
    rcases root_tri (u := l) (tn_isR t.prt T) h3 with h5 | h5
    · have := (h4.mp h5).2
      rw [← he, e1] at this
      exact absurd this h.2.not
    · exact h5
  · have h4 := tn_up (n := r.prt) (u := l) (l := u - r.prt * l) R h3 hl
    refine h4.mpr ⟨p1, ?_⟩
    rw [e1]
    exact h.1
/-! ### how the numbers grow -/
structure Sz (B : Int) (r : R4) : Prop where
  a : r.a ≤ B
  b : (r.b.natAbs : Int) ≤ 2 * B + ht r.a r.b r.c
  c : (r.c.natAbs : Int) ≤ B
theorem nx_ht (r : R4) : ht r.nx.a r.nx.b r.nx.c = ht r.a r.b r.c := tn_ht _ _ _ _
theorem Sz.nx {B : Int} {r : R4} (R : r.Is) (h : Sz B r) : Sz (B + ht r.a r.b r.c) r.nx := by
  obtain ⟨p1, p2⟩ := part_is R
  have ha := R.ha
  have hd := R.n.pos
  have hns := R.n.no
  have hsg := sg_sq R.hs
  obtain ⟨h1, h2, h3⟩ := h
  have ec : ht r.nx.a r.nx.b r.nx.c = ht r.a r.b r.c := nx_ht r
  have eA : r.nx.a.natAbs = (mvC r.a r.b r.c r.prt).natAbs := by
    show (tnA r.a r.b r.c r.prt).natAbs = _
    unfold tnA
    split
    · rfl
    · exact Int.natAbs_neg _
  have eB : r.nx.b.natAbs = (2 * r.a * r.prt + r.b).natAbs := by
    show (tnB r.a r.b r.c r.prt).natAbs = _
    unfold tnB
    split
    · rw [Int.add_comm]
    · rw [Int.natAbs_neg, Int.add_comm]
  have eC : r.nx.c.natAbs = r.a.natAbs := by
    show (tnC r.a r.b r.c r.prt).natAbs = _
    unfold tnC
    split
    · rfl
    · exact Int.natAbs_neg _
  have hA0 := (tn_isR r.prt R).ha
  unfold OvR Ov Ps at p1
  unfold BeR Be Ps at p2
  have e1 : nm (ht r.a r.b r.c) (-r.b * 1 - r.prt * (2 * r.a)) (sg r.s * 1) = (2 * r.a * r.prt + r.b) * (2 * r.a * r.prt + r.b) - ht r.a r.b r.c := by
    unfold nm
    have : sg r.s * 1 * (sg r.s * 1) = sg r.s * sg r.s := by grind
    rw [this, hsg]
    grind
  have e2 : nm (ht r.a r.b r.c) ((r.prt + 1) * (2 * r.a) - -r.b * 1) (-(sg r.s * 1)) = (2 * r.a * r.prt + r.b + 2 * r.a) * (2 * r.a * r.prt + r.b + 2 * r.a) - ht r.a r.b r.c := by
    unfold nm
    have : -(sg r.s * 1) * -(sg r.s * 1) = sg r.s * sg r.s := by grind
    rw [this, hsg]
    grind
  rw [e1] at p1
  rw [e2] at p2
  have e3 : (2 * r.a * r.prt + r.b) * (2 * r.a * r.prt + r.b) - ht r.a r.b r.c = 4 * r.a * mvC r.a r.b r.c r.prt := by
    unfold ht mvC
    grind
  have hw1 : -r.b * 1 - r.prt * (2 * r.a) = -(2 * r.a * r.prt + r.b) := by grind
  have hw2 : (r.prt + 1) * (2 * r.a) - -r.b * 1 = 2 * r.a * r.prt + r.b + 2 * r.a := by grind
  rw [hw1] at p1
  rw [hw2] at p2
  have key : (mvC r.a r.b r.c r.prt).natAbs ≤ r.a + ht r.a r.b r.c ∧ ((2 * r.a * r.prt + r.b).natAbs : Int) ≤ 2 * r.a + ht r.a r.b r.c := by
    generalize 2 * r.a * r.prt + r.b = w at *
    generalize mvC r.a r.b r.c r.prt = f at *
    generalize ht r.a r.b r.c = d at *
    generalize r.a = a at *
    have hdd : d < d * d + 1 := by
      have : d * 1 ≤ d * d := Int.mul_le_mul_of_nonneg_left (by omega) (by omega)
      omega
    -- what lies below d in its square is below d
    have low : ∀ x : Int, x * x < d → -d < x ∧ x < d := fun x hx => by
      have hx2 : x * x < d * d := by omega
      exact ⟨sq_lt' (by omega) hx2, sq_lt (by omega) hx2⟩
    have hw2a : -2 * a < w → w < 2 * a → w * w ≤ 4 * a * a := fun k1 k2 => by
      have := Int.mul_self_le_mul_self (a := w.natAbs) (b := 2 * a) (by omega) (by omega)
      rw [ab_sq] at this
      have e : 2 * a * (2 * a) = 4 * a * a := by grind
      omega
    have fin : ∀ B : Int, 4 * a * f ≤ 4 * a * B → -(4 * a * B) ≤ 4 * a * f → (f.natAbs : Int) ≤ B := fun B k1 k2 => by
      have k3 := Int.le_of_mul_le_mul_left k1 (show 0 < 4 * a by omega)
      have k4 : 4 * a * (-B) ≤ 4 * a * f := by rw [Int.mul_neg]; exact k2
      have k5 := Int.le_of_mul_le_mul_left k4 (show 0 < 4 * a by omega)
      omega
    have had : 1 * d ≤ 4 * a * d := Int.mul_le_mul_of_nonneg_right (by omega) (by omega)
    have hpp : 4 * a * (a + d) = 4 * a * a + 4 * a * d := by grind
    have haa : 0 ≤ 4 * a * a := Int.mul_nonneg (by omega) (by omega)
    have hww := sqn w
    rcases R.hs with hs | hs
    · -- the lower one
      rw [hs] at p1 p2
      have h4 : 0 < w * w - d ∧ w < 0 := by
        rcases p1 with ⟨x, y⟩ | ⟨x, y⟩
        · exact ⟨x, by omega⟩
        · exact absurd y (by decide)
      have h5 : -(2 * a + d) ≤ w := by
        rcases p2 with ⟨x, y⟩ | ⟨x, y⟩
        · omega
        · have := low (w + 2 * a) (by omega)
          omega
      have h6 : w * w ≤ 4 * a * a + 4 * a * d + d := by
        rcases p2 with ⟨x, y⟩ | ⟨x, y⟩
        · have := hw2a (by omega) (by omega)
          omega
        · have e : (w + 2 * a) * (w + 2 * a) = w * w + 4 * a * w + 4 * a * a := by grind
          have h7 : 4 * a * (-w) ≤ 4 * a * (2 * a + d) := Int.mul_le_mul_of_nonneg_left (by omega) (by omega)
          have e2 : 4 * a * (2 * a + d) = 8 * a * a + 4 * a * d := by grind
          have e3 : 8 * a * a = 2 * (4 * a * a) := by grind
          rw [Int.mul_neg] at h7
          omega
      exact ⟨fin _ (by omega) (by omega), by omega⟩
    · -- the upper one
      rw [hs] at p1 p2
      have h4 : -2 * a < w := by
        rcases p2 with ⟨x, y⟩ | ⟨x, y⟩
        · omega
        · exact absurd y (by decide)
      rcases p1 with ⟨x, y⟩ | ⟨x, y⟩
      · have := hw2a (by omega) (by omega)
        exact ⟨fin _ (by omega) (by omega), by omega⟩
      · have := low w (by omega)
        exact ⟨fin _ (by omega) (by omega), by omega⟩
  exact ⟨by omega, by omega, by omega⟩
end RR
/-! RRH: numbers (fractions and roots) in order; the promises of compare and its kin, and of the laws' numbers. -/
namespace RR
open PySem PySem.Spec PyProof.Rows L2
/-- a number: a fraction or a root -/
inductive Nu where
  | fr (u l : Int)
  | ro (r : R4)
def Nu.l : Nu → List Int
  | .fr u l => [u, l]
  | .ro r => r.l
/-- numbers that a law draws -/
def Nu.Ok : Nu → Prop
  | .fr u l => 0 < l ∧ dv u l = 1 ∧ u.natAbs < 2 ^ 500 ∧ l.natAbs < 2 ^ 500
  | .ro r => r.Is ∧ r.a ≤ 64 ∧ r.b.natAbs ≤ 64 ∧ r.c.natAbs ≤ 64
def Nu.Ov : Nu → Int → Int → Prop
  | .fr p q, u, l => u * q < p * l
  | .ro r, u, l => OvR r.a r.b r.c r.s u l
def Nu.Be : Nu → Int → Int → Prop
  | .fr p q, u, l => p * l < u * q
  | .ro r, u, l => BeR r.a r.b r.c r.s u l
/-- in order -/
def Nu.lt : Nu → Nu → Prop
  | .fr p q, .fr u l => p * l < u * q
  | .fr p q, .ro r => OvR r.a r.b r.c r.s p q
  | .ro r, .fr u l => BeR r.a r.b r.c r.s u l
  | .ro r, .ro t => ∃ u l, 0 < l ∧ Btw r t u l
theorem Nu.tri {m n : Nu} (hm : m.Ok) (hn : n.Ok) : m = n ∨ m.lt n ∨ n.lt m := by
  cases m with
  | fr p q =>
    cases n with
    | fr u l =>
      by_cases h1 : p * l < u * q
      · exact .inr (.inl h1)
      · by_cases h2 : u * q < p * l
        · exact .inr (.inr h2)
        · obtain ⟨e1, e2⟩ := low_unique hm.1 hm.2.1 hn.1 hn.2.1 (show p * l = u * q by omega)
          exact .inl (by rw [e1, e2])
    | ro r => exact .inr (root_tri (u := p) hn.1 hm.1)
  | ro r =>
    cases n with
    | fr u l => exact .inr ((root_tri (u := u) hm.1 hn.1).symm)
    | ro t =>
      by_cases h : r = t
      · exact .inl (by rw [h])
      · obtain ⟨u, l, hl, _, h1 | h1⟩ := sep hm.1 hn.1 h
        · exact .inr (.inl ⟨u, l, hl, h1⟩)
        · exact .inr (.inr ⟨u, l, hl, h1⟩)
theorem Nu.asym {m n : Nu} (hm : m.Ok) (hn : n.Ok) (h : m.lt n) : ¬ n.lt m := by
  cases m with
  | fr p q =>
    cases n with
    | fr u l => intro k; have h1 : p * l < u * q := h; have h2 : u * q < p * l := k; omega
    | ro r => exact Ov.not h
  | ro r =>
    cases n with
    | fr u l => exact fun k => Ov.not k h
    | ro t =>
      rintro ⟨v, m, hm2, k1, k2⟩
      obtain ⟨u, l, hl, h1, h2⟩ := h
      have ha := hm.1.ha
      have hb := hn.1.ha
      have x1 := ov_be_lt hm.1.n (by omega) hm2 hl k2 h1
      have x2 := ov_be_lt hn.1.n (by omega) hl hm2 h2 k1
      omega
theorem Nu.lt_ne {m n : Nu} (hm : m.Ok) (h : m.lt n) : m ≠ n := by
  intro e
  subst e
  exact Nu.asym hm hm h h
/-- a fraction between tells the order -/
theorem Nu.lt_of {m n : Nu} (hm : m.Ok) (hn : n.Ok) {u l : Int} (hl : 0 < l) (h1 : m.Be u l) (h2 : ¬ n.Be u l) : m.lt n := by
  cases m with
  | fr p q =>
    have hq := hm.1
    have h1' : p * l < u * q := h1
    cases n with
    | fr p' q' =>
      have hq' := hn.1
      have h2' : u * q' ≤ p' * l := by
        have : ¬ p' * l < u * q' := h2
        omega
      show p * q' < p' * q
      have x1 : p * l * q' < u * q * q' := Int.mul_lt_mul_of_pos_right h1' hq'
      have x2 : u * q' * q ≤ p' * l * q := Int.mul_le_mul_of_nonneg_right h2' (Int.le_of_lt hq)
      have x3 : p * q' * l < p' * q * l := by
        have e1 : p * q' * l = p * l * q' := by grind
        have e2 : u * q * q' = u * q' * q := by grind
        have e3 : p' * q * l = p' * l * q := by grind
        omega
      exact Int.lt_of_mul_lt_mul_right x3 (Int.le_of_lt hl)
    | ro r =>
      have ha := hn.1.ha
      have h3 : OvR r.a r.b r.c r.s u l := (root_tri hn.1 hl).elim id fun z => absurd z h2
      exact Ov.le hn.1.n (by omega) hl hq h3 (by omega)
  | ro r =>
    have ha := hm.1.ha
    cases n with
    | fr p' q' =>
      have h2' : u * q' ≤ p' * l := by
        have : ¬ p' * l < u * q' := h2
        omega
      exact Be.le hm.1.n (by omega) hl hn.1 h1 h2'
    | ro t => exact ⟨u, l, hl, h1, (root_tri hn.1 hl).elim id fun z => absurd z h2⟩
theorem prt_abs {r : R4} (ha : 0 < r.a) (hd : 0 ≤ ht r.a r.b r.c) : r.prt.natAbs ≤ (ht r.a r.b r.c).natAbs + r.b.natAbs + 1 := by
  have h0 := (rt_spec hd).1
  have h1 := rt_le hd
  show (partR r.a r.b r.c r.s).natAbs ≤ _
  unfold partR
  split
  · have := ediv_abs (u := 0 - rt (ht r.a r.b r.c) - 1 - r.b) (l := 2 * r.a) (by omega)
    omega
  · have := ediv_abs (u := rt (ht r.a r.b r.c) - r.b) (l := 2 * r.a) (by omega)
    omega
/-- the numbers of a root, from how they grow -/
theorem Sz.s4 {B : Int} {r : R4} (R : r.Is) (h : Sz B r) (hB : B + ht r.a r.b r.c ≤ 2 ^ 290) : S4 r := by
  have ha := R.ha
  have hd := R.n.pos
  have hp := prt_abs ha (Int.le_of_lt hd)
  obtain ⟨h1, h2, h3⟩ := h
  have e1 : (2 : Int) ^ 290 = 1989292945639146568621528992587283360401824603189390869761855907572637988050133502132224 := by decide
  have e2 : (2 : Nat) ^ 300 = 2037035976334486086268445688409378161051468393665936250636140449354381299763336706183397376 := by decide
  exact ⟨⟨by omega⟩, ⟨by omega⟩, ⟨by omega⟩, ⟨by omega⟩⟩
theorem tiny_ht {r : R4} (R : r.Is) (ha : r.a ≤ 64) (hb : r.b.natAbs ≤ 64) (hc : r.c.natAbs ≤ 64) : ht r.a r.b r.c < 2 ^ 15 := by
  have h0 := R.ha
  have h1 := Int.natAbs_mul r.b r.b
  have h2 := Int.natAbs_mul (4 * r.a) r.c
  have h3 : r.b.natAbs * r.b.natAbs ≤ 64 * 64 := Nat.mul_le_mul hb hb
  have h4 : (4 * r.a).natAbs * r.c.natAbs ≤ 256 * 64 := Nat.mul_le_mul (by omega) hc
  have h5 := Int.natAbs_sub_le (r.b * r.b) (4 * r.a * r.c)
  unfold ht
  have : (2 : Int) ^ 15 = 32768 := by decide
  omega
theorem tiny_sep {r t : R4} (R : r.Is) (T : t.Is) (ha : r.a ≤ 64) (hb : r.b.natAbs ≤ 64) (hc : r.c.natAbs ≤ 64) (ha' : t.a ≤ 64) (hb' : t.b.natAbs ≤ 64) (hc' : t.c.natAbs ≤ 64) : (sepN r.a r.b r.c t.a t.b t.c).natAbs < 2 ^ 80 := by
  have d1 := tiny_ht R ha hb hc
  have d2 := tiny_ht T ha' hb' hc'
  have p1 := R.n.pos
  have p2 := T.n.pos
  have q1 := R.ha
  have q2 := T.ha
  have e15 : (2 : Int) ^ 15 = 32768 := by decide
  have A : r.a.natAbs < 2 ^ 7 := by omega
  have B : r.b.natAbs < 2 ^ 7 := by omega
  have C : r.c.natAbs < 2 ^ 7 := by omega
  have A' : t.a.natAbs < 2 ^ 7 := by omega
  have B' : t.b.natAbs < 2 ^ 7 := by omega
  have C' : t.c.natAbs < 2 ^ 7 := by omega
  have K1 : (ht r.a r.b r.c + 6 * r.a).natAbs < 2 ^ 16 := by omega
  have K2 : (ht t.a t.b t.c + 6 * t.a).natAbs < 2 ^ 16 := by omega
  have Pp : (t.a * r.b - r.a * t.b).natAbs < 2 ^ 15 := nat_sub_lt (nat_mul_lt A' B) (nat_mul_lt A B')
  have Qq : (t.a * r.c - r.a * t.c).natAbs < 2 ^ 15 := nat_sub_lt (nat_mul_lt A' C) (nat_mul_lt A C')
  have Kk : (t.a * (ht r.a r.b r.c + 6 * r.a) + r.a * (ht t.a t.b t.c + 6 * t.a)).natAbs < 2 ^ 24 := nat_add_lt (nat_mul_lt A' K1) (nat_mul_lt A K2)
  have L : (r.b * (t.a * r.b - r.a * t.b) - 2 * r.a * (t.a * r.c - r.a * t.c)).natAbs < 2 ^ 25 := nat_mono (nat_sub_lt (m := 24) (nat_mono (nat_mul_lt B Pp) (by decide)) (nat_mul_lt (nat_mul_lt (m := 2) (by decide) A) Qq)) (by decide)
  have L2 : (((r.b * (t.a * r.b - r.a * t.b) - 2 * r.a * (t.a * r.c - r.a * t.c)).natAbs : Int)).natAbs < 2 ^ 25 := by
    rw [Int.natAbs_natCast]
    exact L
  unfold sepN
  have x1 := nat_mul_lt (nat_mul_lt Pp Pp) K1
  have x2 := nat_mul_lt Kk L2
  have x3 := nat_mul_lt A (nat_mul_lt Kk Kk)
  exact nat_mono (nat_add_lt (m := 58) (nat_add_lt (m := 57) (nat_add_lt (m := 56) (nat_mono x1 (by decide)) (nat_mono x2 (by decide))) (nat_mono x3 (by decide))) (by decide)) (by decide)
/-- how a root stands to a fraction -/
def sp_is_above : Sp := sp_above
def sp_by_fraction : Sp := fun vs H Q _ => ∃ (t f : Addr) (a b c s u l : Int), vs = [.ref t, .ref f] ∧ H t = some (tI [a, b, c, s]) ∧ H f = some (tI [u, l]) ∧ (s = 0 ∨ s = 1) ∧ Sm a ∧ Sm b ∧ Sm c ∧ Sm u ∧ Sm l ∧ Q (.int (if ab a b c s u l = true then 1 else -1)) H
def sp_by_rows : Sp := fun vs H Q _ => ∃ (x y : Addr) (r t : R4), vs = [.ref x, .ref y] ∧ H x = some (tI r.l) ∧ H y = some (tI t.l) ∧ (Nu.ro r).Ok ∧ (Nu.ro t).Ok ∧ r ≠ t ∧
  ((∃ u l, 0 < l ∧ Btw r t u l) → ∀ H', Same H H' → Q (.int (-1)) H') ∧ ((∃ u l, 0 < l ∧ Btw t r u l) → ∀ H', Same H H' → Q (.int 1) H')
def sp_compare : Sp := fun vs H Q _ => ∃ (x y : Addr) (m n : Nu), vs = [.ref x, .ref y] ∧ H x = some (tI m.l) ∧ H y = some (tI n.l) ∧ m.Ok ∧ n.Ok ∧
  (m = n → ∀ H', Same H H' → Q (.int 0) H') ∧ (m.lt n → ∀ H', Same H H' → Q (.int (-1)) H') ∧ (n.lt m → ∀ H', Same H H' → Q (.int 1) H')
/-- a drawn number -/
def Nu.In (w : Int) : Nu → Prop
  | .fr u l => 0 < l ∧ l ≤ w ∧ -w ≤ u ∧ u ≤ w ∧ dv u l = 1
  | .ro r => r.Is ∧ r.a ≤ w ∧ -w ≤ r.b ∧ r.b ≤ w ∧ -w ≤ r.c ∧ r.c ≤ w
theorem Nu.In.ok {w : Int} (hw : w ≤ 64) {n : Nu} (h : n.In w) : n.Ok := by
  cases n with
  | fr u l =>
    obtain ⟨h1, h2, h3, h4, h5⟩ := h
    have e : (2 : Nat) ^ 500 = 2 ^ 60 * 2 ^ 440 := by decide
    have e60 : (2 : Nat) ^ 60 = 1152921504606846976 := by decide
    exact ⟨h1, h5, nat_mono (m := 60) (by omega) (by decide), nat_mono (m := 60) (by omega) (by decide)⟩
  | ro r =>
    obtain ⟨h1, h2, h3, h4, h5, h6⟩ := h
    exact ⟨h1, by omega, by omega, by omega⟩
def sp_number (K : PySem.W.Frag) : Sp := fun vs H Q _ => ∃ (a : Addr) (ns : List Int) (k : Nat) (w : Int), vs = [.ref a, .int k, .int w] ∧ SqL K H a (ns.map V.int) ∧ k < 900 ∧ 2 ≤ w ∧ w ≤ 1000 ∧ ∀ (n : Nu) H' p, n.In w → Same H H' → H p = none → H' p = some (tI n.l) → Q (.ref p) H'
/-- whether the number is less than u / l -/
def Nu.be : Nu → Int → Int → Bool
  | .fr p q, u, l => decide (p * l < u * q)
  | .ro r, u, l => !ab r.a r.b r.c r.s u l
def Nu.ov : Nu → Int → Int → Bool
  | .fr p q, u, l => decide (u * q < p * l)
  | .ro r, u, l => ab r.a r.b r.c r.s u l
theorem Nu.be_iff {n : Nu} (h : n.Ok) {u l : Int} (hl : 0 < l) : n.be u l = true ↔ n.Be u l := by
  cases n with
  | fr p q => exact decide_eq_true_iff
  | ro r =>
    show (!ab r.a r.b r.c r.s u l) = true ↔ BeR r.a r.b r.c r.s u l
    rw [Bool.not_eq_true', ab_be h.1 hl]
theorem Nu.ov_iff {n : Nu} (h : n.Ok) {u l : Int} (hl : 0 < l) : n.ov u l = true ↔ n.Ov u l := by
  cases n with
  | fr p q => exact decide_eq_true_iff
  | ro r => exact ab_ov h.1 hl
def sp_below : Sp := fun vs H Q _ => ∃ (t : Addr) (n : Nu) (u l : Int), vs = [.ref t, .int u, .int l] ∧ H t = some (tI n.l) ∧ n.Ok ∧ Sm u ∧ Sm l ∧ Q (.bl (n.be u l)) H
def sp_over : Sp := fun vs H Q _ => ∃ (t : Addr) (n : Nu) (u l : Int), vs = [.ref t, .int u, .int l] ∧ H t = some (tI n.l) ∧ n.Ok ∧ Sm u ∧ Sm l ∧ Q (.bl (n.ov u l)) H
theorem low_in {u l w : Int} (hl : 0 < l) (h1 : l ≤ w) (h2 : -w ≤ u) (h3 : u ≤ w) : (Nu.fr (low u l).1 (low u l).2).In w := by
  have h := low_is (u := u) (show l ≠ 0 by omega)
  have h4 := low_abs (u := u) (show l ≠ 0 by omega)
  have := h.pos
  exact ⟨h.pos, by omega, by omega, by omega, h.one⟩
theorem Nu.fr_sm {p q : Int} (h : (Nu.fr p q).Ok) : Sm p ∧ Sm q := ⟨⟨nat_mono h.2.2.1 (by decide)⟩, ⟨nat_mono h.2.2.2 (by decide)⟩⟩
theorem Nu.ro_sm {r : R4} (h : (Nu.ro r).Ok) : Sm r.a ∧ Sm r.b ∧ Sm r.c := by
  have ha := h.1.ha
  have h1 := h.2.1
  have h2 := h.2.2.1
  have h3 := h.2.2.2
  exact ⟨sm_of (by omega), sm_of (by omega), sm_of (by omega)⟩
theorem Nu.inj {m n : Nu} (h : m.l = n.l) : m = n := by
  cases m with
  | fr p q =>
    cases n with
    | fr u l =>
      simp only [Nu.l, List.cons.injEq, and_true] at h
      rw [h.1, h.2]
    | ro r => simp [Nu.l, R4.l] at h
  | ro r =>
    cases n with
    | fr u l => simp [Nu.l, R4.l] at h
    | ro t =>
      obtain ⟨a, b, c, s⟩ := r
      obtain ⟨a', b', c', s'⟩ := t
      simp only [Nu.l, R4.l, List.cons.injEq, and_true] at h
      obtain ⟨rfl, rfl, rfl, rfl⟩ := h
      rfl
end RR
/-! RRJ: what lies between two numbers. -/
namespace RR
theorem cross_lt {p q u l v m : Int} (hq : 0 < q) (hl : 0 < l) (hm : 0 < m) (h : p * l < u * q) (k : u * m ≤ v * l) : p * m < v * q := by
  have x1 : p * l * m < u * q * m := Int.mul_lt_mul_of_pos_right h hm
  have x2 : u * m * q ≤ v * l * q := Int.mul_le_mul_of_nonneg_right k (Int.le_of_lt hq)
  have x3 : p * m * l < v * q * l := by
    have e1 : p * m * l = p * l * m := by grind
    have e2 : u * q * m = u * m * q := by grind
    have e3 : v * q * l = v * l * q := by grind
    omega
  exact Int.lt_of_mul_lt_mul_right x3 (Int.le_of_lt hl)
theorem cross_gt {p q u l v m : Int} (hq : 0 < q) (hl : 0 < l) (hm : 0 < m) (h : u * q < p * l) (k : v * l ≤ u * m) : v * q < p * m := by
  have x1 : u * q * m < p * l * m := Int.mul_lt_mul_of_pos_right h hm
  have x2 : v * l * q ≤ u * m * q := Int.mul_le_mul_of_nonneg_right k (Int.le_of_lt hq)
  have x3 : v * q * l < p * m * l := by
    have e1 : p * m * l = p * l * m := by grind
    have e2 : u * q * m = u * m * q := by grind
    have e3 : v * q * l = v * l * q := by grind
    omega
  exact Int.lt_of_mul_lt_mul_right x3 (Int.le_of_lt hl)
theorem Nu.Be.up {n : Nu} (hn : n.Ok) {u l v m : Int} (hl : 0 < l) (hm : 0 < m) (h : n.Be u l) (k : u * m ≤ v * l) : n.Be v m := by
  cases n with
  | fr p q => exact cross_lt hn.1 hl hm h k
  | ro r => exact RR.Be.le hn.1.n (by have := hn.1.ha; omega) hl hm h k
theorem Nu.Ov.dn {n : Nu} (hn : n.Ok) {u l v m : Int} (hl : 0 < l) (hm : 0 < m) (h : n.Ov u l) (k : v * l ≤ u * m) : n.Ov v m := by
  cases n with
  | fr p q => exact cross_gt hn.1 hl hm h k
  | ro r => exact RR.Ov.le hn.1.n (by have := hn.1.ha; omega) hl hm h k
theorem Nu.not_both {n : Nu} (hn : n.Ok) {u l : Int} (h : n.Ov u l) : ¬ n.Be u l := by
  cases n with
  | fr p q => intro k; have h1 : u * q < p * l := h; have h2 : p * l < u * q := k; omega
  | ro r => exact RR.Ov.not h
theorem Nu.Be.low {n : Nu} (hn : n.Ok) {u l : Int} (hl : 0 < l) : n.Be (RR.low u l).1 (RR.low u l).2 ↔ n.Be u l := by
  have h := low_is (u := u) (show l ≠ 0 by omega)
  exact ⟨fun k => Nu.Be.up hn h.pos hl k (by rw [h.cross]; exact Int.le_refl _), fun k => Nu.Be.up hn hl h.pos k (by rw [h.cross]; exact Int.le_refl _)⟩
theorem Nu.Ov.low {n : Nu} (hn : n.Ok) {u l : Int} (hl : 0 < l) : n.Ov (RR.low u l).1 (RR.low u l).2 ↔ n.Ov u l := by
  have h := low_is (u := u) (show l ≠ 0 by omega)
  exact ⟨fun k => Nu.Ov.dn hn h.pos hl k (by rw [h.cross]; exact Int.le_refl _), fun k => Nu.Ov.dn hn hl h.pos k (by rw [h.cross]; exact Int.le_refl _)⟩
/-- a little less than what is above 0 is above 0 -/
theorem Ps.less {d x y c k : Int} (hd : Ns d) (h : Ps d x y) (hc : 0 ≤ c) (hk : c * (x.natAbs + y.natAbs * d) + 1 ≤ k) : Ps d (k * x - c) (k * y) := by
  have hd0 := hd.pos
  have hcx : c * x.natAbs + c * y.natAbs * d + 1 ≤ k := by
    have : c * (x.natAbs + y.natAbs * d) = c * x.natAbs + c * y.natAbs * d := by grind
    omega
  have hx0 : 0 ≤ c * (x.natAbs : Int) := Int.mul_nonneg hc (Int.natCast_nonneg _)
  have hy0 : 0 ≤ c * (y.natAbs : Int) := Int.mul_nonneg hc (Int.natCast_nonneg _)
  have hyd0 : 0 ≤ c * (y.natAbs : Int) * d := Int.mul_nonneg hy0 (Int.le_of_lt hd0)
  have hcx1 : c * x ≤ c * (x.natAbs : Int) := Int.mul_le_mul_of_nonneg_left (by omega) hc
  have hcx2 : -(c * x) ≤ c * (x.natAbs : Int) := by
    have : c * (-x) ≤ c * (x.natAbs : Int) := Int.mul_le_mul_of_nonneg_left (by omega) hc
    rw [Int.mul_neg] at this
    exact this
  -- what has a great whole part is above 0
  have great : ∀ X Y : Int, Y * Y = c * y * (c * y) → c * y.natAbs * d + 1 ≤ X → Ps d X Y := fun X Y hY hX => by
    refine .inl ⟨?_, by omega⟩
    unfold nm
    rw [hY]
    have e1 : c * y * (c * y) = c * (y.natAbs : Int) * (c * (y.natAbs : Int)) := by
      have h1 : c * (y.natAbs : Int) * (c * (y.natAbs : Int)) = c * c * ((y.natAbs : Int) * y.natAbs) := by grind
      rw [h1, ab_sq]
      grind
    rw [e1]
    generalize c * (y.natAbs : Int) = z at *
    have e2 : z * d * (z * d) < X * X := Int.mul_self_lt_mul_self (by omega) (by omega)
    have e3 : d * (z * z) ≤ d * (d * (z * z)) := by
      have : 1 * (d * (z * z)) ≤ d * (d * (z * z)) := Int.mul_le_mul_of_nonneg_right (by omega) (Int.mul_nonneg (by omega) (sqn z))
      omega
    have e4 : z * d * (z * d) = d * (d * (z * z)) := by grind
    omega
  have hne : nm d x y ≠ 0 := fun z => h.ne (nm_zero hd z)
  by_cases hn : 0 < nm d x y
  · have hx : 0 < x := by
      rcases h with ⟨a, b⟩ | ⟨a, b⟩ <;> omega
    have hz : Ps d x (-y) := .inl ⟨by unfold nm at *; rw [Int.neg_mul_neg]; exact hn, hx⟩
    refine Ps.div hd (z := x) (w := -y) ?_ hz
    rw [show (k * x - c) * x + d * (k * y * -y) = k * nm d x y - c * x by unfold nm; grind, show (k * x - c) * -y + k * y * x = c * y by grind]
    refine great _ _ rfl ?_
    have : k * 1 ≤ k * nm d x y := Int.mul_le_mul_of_nonneg_left (by omega) (by omega)
    omega
  · have hy : 0 < y := by
      rcases h with ⟨a, b⟩ | ⟨a, b⟩ <;> omega
    have hz : Ps d (-x) y := .inr ⟨by unfold nm at *; rw [Int.neg_mul_neg]; omega, hy⟩
    refine Ps.div hd (z := -x) (w := y) ?_ hz
    rw [show (k * x - c) * -x + d * (k * y * y) = k * -nm d x y + c * x by unfold nm; grind, show (k * x - c) * y + k * y * -x = -(c * y) by grind]
    refine great _ _ (by rw [Int.neg_mul_neg]) ?_
    have : k * 1 ≤ k * -nm d x y := Int.mul_le_mul_of_nonneg_left (by omega) (by omega)
    omega
/-- a number as the laws draw them -/
def Nu.Dr : Nu → Prop
  | .fr u l => 0 < l ∧ l ≤ 1000 ∧ -1000 ≤ u ∧ u ≤ 1000 ∧ dv u l = 1
  | .ro r => r.Is ∧ r.a ≤ 64 ∧ r.b.natAbs ≤ 64 ∧ r.c.natAbs ≤ 64
theorem Nu.Dr.ok {n : Nu} (h : n.Dr) : n.Ok := by
  cases n with
  | fr u l =>
    obtain ⟨h1, h2, h3, h4, h5⟩ := h
    exact ⟨h1, h5, nat_mono (m := 60) (by omega) (by decide), nat_mono (m := 60) (by omega) (by decide)⟩
  | ro r => exact h
theorem Nu.In.dr {w : Int} (hw : w ≤ 64) {n : Nu} (h : n.In w) : n.Dr := by
  cases n with
  | fr u l =>
    obtain ⟨h1, h2, h3, h4, h5⟩ := h
    exact ⟨h1, by omega, by omega, by omega, h5⟩
  | ro r =>
    obtain ⟨h1, h2, h3, h4, h5, h6⟩ := h
    exact ⟨h1, by omega, by omega, by omega⟩
theorem Nu.bounds {n : Nu} (h : n.Dr) : n.Ov (-131072) 1 ∧ n.Be 131072 1 := by
  cases n with
  | fr p q =>
    obtain ⟨h1, h2, h3, h4, h5⟩ := h
    refine ⟨?_, ?_⟩
    · show -131072 * q < p * 1
      omega
    · show p * 1 < 131072 * q
      omega
  | ro r =>
    have R := h.1
    obtain ⟨o1, o2⟩ := part_is R
    have hd := tiny_ht R h.2.1 h.2.2.1 h.2.2.2
    have hp := prt_abs R.ha (Int.le_of_lt R.n.pos)
    have hp0 := R.n.pos
    have hb := h.2.2.1
    have ha := R.ha
    have e15 : (2 : Int) ^ 15 = 32768 := by decide
    exact ⟨RR.Ov.le R.n (by omega) (by decide) (by decide) o1 (by omega), RR.Be.le R.n (by omega) (by decide) (by decide) o2 (by omega)⟩
/-- one below and one above -/
theorem Nu.ov_lt_be {n : Nu} (hn : n.Ok) {u l v m : Int} (hl : 0 < l) (hm : 0 < m) (h : n.Ov u l) (k : n.Be v m) : u * m < v * l := by
  by_cases e : u * m < v * l
  · exact e
  · exact absurd (Nu.Ov.dn hn hl hm h (show v * l ≤ u * m by omega)) fun z => Nu.not_both hn z k
theorem Nu.above_bound {n : Nu} (hn : n.Dr) {v l : Int} (hl : 0 < l) (h1 : n.Be v l) (h2 : ¬ n.Be (v - 1) l) : v.natAbs ≤ 131073 * l.natAbs := by
  obtain ⟨b1, b2⟩ := Nu.bounds hn
  have x1 := Nu.ov_lt_be hn.ok (by decide) hl b1 h1
  have x2 : v - 1 < 131072 * l := by
    by_cases e : v - 1 < 131072 * l
    · exact e
    · exact absurd (Nu.Be.up hn.ok (by decide) hl b2 (by omega)) h2
  omega
theorem Nu.below_bound {n : Nu} (hn : n.Dr) {v l : Int} (hl : 0 < l) (h1 : n.Ov v l) (h2 : ¬ n.Ov (v + 1) l) : v.natAbs ≤ 131073 * l.natAbs := by
  obtain ⟨b1, b2⟩ := Nu.bounds hn
  have x1 := Nu.ov_lt_be hn.ok hl (by decide) h1 b2
  have x2 : -131072 * l < v + 1 := by
    by_cases e : -131072 * l < v + 1
    · exact e
    · exact absurd (Nu.Ov.dn hn.ok (by decide) hl b1 (by omega)) h2
  omega
theorem Nu.above_unique {n : Nu} (hn : n.Ok) {v w l : Int} (hl : 0 < l) (h1 : n.Be v l) (h2 : ¬ n.Be (v - 1) l) (k1 : n.Be w l) (k2 : ¬ n.Be (w - 1) l) : v = w := by
  have key : ∀ v w : Int, n.Be v l → ¬ n.Be (w - 1) l → ¬ v < w := fun v w h k e => k (Nu.Be.up hn hl hl h (Int.mul_le_mul_of_nonneg_right (by omega) (Int.le_of_lt hl)))
  have := key v w h1 k2
  have := key w v k1 h2
  omega
theorem Nu.below_unique {n : Nu} (hn : n.Ok) {v w l : Int} (hl : 0 < l) (h1 : n.Ov v l) (h2 : ¬ n.Ov (v + 1) l) (k1 : n.Ov w l) (k2 : ¬ n.Ov (w + 1) l) : v = w := by
  have key : ∀ v w : Int, n.Ov v l → ¬ n.Ov (w + 1) l → ¬ w < v := fun v w h k e => k (Nu.Ov.dn hn hl hl h (Int.mul_le_mul_of_nonneg_right (by omega) (Int.le_of_lt hl)))
  have := key v w h1 k2
  have := key w v k1 h2
  omega
/-- between a number and a greater one there is a fraction -/
theorem between {m n : Nu} (hm : m.Dr) (hn : n.Dr) (h : m.lt n) : ∃ u l, 0 < l ∧ l ≤ 2 ^ 82 ∧ m.Be u l ∧ n.Ov u l := by
  have hmo := hm.ok
  have hno := hn.ok
  have e82 : (2 : Int) ^ 82 = 4835703278458516698824704 := by decide
  have key : ∀ (r : R4) (u l : Int), r.Is → r.a ≤ 64 → r.b.natAbs ≤ 64 → r.c.natAbs ≤ 64 → 0 < l → l ≤ 1000 → u.natAbs ≤ 1000 → 0 < l * (2 * r.a * ((2 * r.a * u + r.b * l).natAbs + l * ht r.a r.b r.c) + 1) ∧ l * (2 * r.a * ((2 * r.a * u + r.b * l).natAbs + l * ht r.a r.b r.c) + 1) ≤ 2 ^ 82 := fun r u l R h1 h2 h3 h4 h5 h6 => by
    have ha := R.ha
    have hd := R.n.pos
    have hd2 := tiny_ht R h1 h2 h3
    have e15 : (2 : Int) ^ 15 = 32768 := by decide
    have x1 : (2 * r.a * u).natAbs < 2 ^ 18 := nat_mul_lt (m := 8) (n := 10) (by omega) (by omega)
    have x2 : (r.b * l).natAbs < 2 ^ 18 := nat_mul_lt (m := 8) (n := 10) (by omega) (by omega)
    have x3 : (l * ht r.a r.b r.c).natAbs < 2 ^ 26 := nat_mul_lt (m := 10) (n := 16) (by omega) (by omega)
    have x4 : (((2 * r.a * u + r.b * l).natAbs : Int) + l * ht r.a r.b r.c).natAbs < 2 ^ 27 := by omega
    have x5 := nat_mul_lt (m := 8) (x := 2 * r.a) (by omega) x4
    have x6 : (2 * r.a * ((2 * r.a * u + r.b * l).natAbs + l * ht r.a r.b r.c) + 1).natAbs < 2 ^ 36 := by omega
    have x7 := nat_mul_lt (m := 10) (x := l) (by omega) x6
    have p1 : 0 ≤ l * ht r.a r.b r.c := Int.mul_nonneg (by omega) (by omega)
    have p2 : 0 ≤ 2 * r.a * ((2 * r.a * u + r.b * l).natAbs + l * ht r.a r.b r.c) := Int.mul_nonneg (by omega) (by omega)
    refine ⟨Int.mul_pos h4 (by omega), by omega⟩
  cases m with
  | fr p q =>
    obtain ⟨hq, hq2, hp1, hp2, _⟩ := hm
    cases n with
    | fr p' q' =>
      obtain ⟨hq', hq2', hp1', hp2', _⟩ := hn
      have h' : p * q' < p' * q := h
      refine ⟨p + p', q + q', by omega, by omega, ?_, ?_⟩
      · show p * (q + q') < (p + p') * q
        rw [Int.mul_add, Int.add_mul]
        omega
      · show (p + p') * q' < p' * (q + q')
        rw [Int.mul_add, Int.add_mul]
        omega
    | ro r =>
      have R := hno.1
      obtain ⟨k1, k2⟩ := key r p q R hno.2.1 hno.2.2.1 hno.2.2.2 hq (by omega) (by omega)
      generalize hk : 2 * r.a * ((2 * r.a * p + r.b * q).natAbs + q * ht r.a r.b r.c) + 1 = k at *
      have ha := R.ha
      have hd := R.n.pos
      have hk0 : 0 < k := by
        by_cases z : 0 < k
        · exact z
        · have : q * k ≤ q * 0 := Int.mul_le_mul_of_nonneg_left (by omega) (by omega)
          omega
      refine ⟨p * k + 1, q * k, k1, k2, ?_, ?_⟩
      · show p * (q * k) < (p * k + 1) * q
        have : (p * k + 1) * q = p * (q * k) + q := by grind
        omega
      · have h1 : Ps (ht r.a r.b r.c) (-r.b * q - p * (2 * r.a)) (sg r.s * q) := h
        have h2 := Ps.less R.n h1 (c := 2 * r.a) (k := k) (by omega) (by
          have e1 : (-r.b * q - p * (2 * r.a)).natAbs = (2 * r.a * p + r.b * q).natAbs := by
            rw [show -r.b * q - p * (2 * r.a) = -(2 * r.a * p + r.b * q) by grind, Int.natAbs_neg]
          have e2 : (sg r.s * q).natAbs = q.natAbs := by
            rcases R.hs with h | h <;> (rw [h]; unfold sg; omega)
          rw [e1, e2, Int.natAbs_of_nonneg (Int.le_of_lt hq)]
          omega)
        show Ps (ht r.a r.b r.c) (-r.b * (q * k) - (p * k + 1) * (2 * r.a)) (sg r.s * (q * k))
        rw [show -r.b * (q * k) - (p * k + 1) * (2 * r.a) = k * (-r.b * q - p * (2 * r.a)) - 2 * r.a by grind, show sg r.s * (q * k) = k * (sg r.s * q) by grind]
        exact h2
  | ro r =>
    have R := hmo.1
    cases n with
    | fr p q =>
      obtain ⟨hq, hq2, hp1, hp2, _⟩ := hn
      obtain ⟨k1, k2⟩ := key r p q R hmo.2.1 hmo.2.2.1 hmo.2.2.2 hq (by omega) (by omega)
      generalize hk : 2 * r.a * ((2 * r.a * p + r.b * q).natAbs + q * ht r.a r.b r.c) + 1 = k at *
      have ha := R.ha
      have hd := R.n.pos
      refine ⟨p * k - 1, q * k, k1, k2, ?_, ?_⟩
      · have h1 : Ps (ht r.a r.b r.c) (p * (2 * r.a) - -r.b * q) (-(sg r.s * q)) := h
        have h2 := Ps.less R.n h1 (c := 2 * r.a) (k := k) (by omega) (by
          have e1 : (p * (2 * r.a) - -r.b * q).natAbs = (2 * r.a * p + r.b * q).natAbs := by
            rw [show p * (2 * r.a) - -r.b * q = 2 * r.a * p + r.b * q by grind]
          have e2 : (-(sg r.s * q)).natAbs = q.natAbs := by
            rcases R.hs with h | h <;> (rw [h]; unfold sg; omega)
          rw [e1, e2, Int.natAbs_of_nonneg (Int.le_of_lt hq)]
          omega)
        show Ps (ht r.a r.b r.c) ((p * k - 1) * (2 * r.a) - -r.b * (q * k)) (-(sg r.s * (q * k)))
        rw [show (p * k - 1) * (2 * r.a) - -r.b * (q * k) = k * (p * (2 * r.a) - -r.b * q) - 2 * r.a by grind, show -(sg r.s * (q * k)) = k * -(sg r.s * q) by grind]
        exact h2
      · show (p * k - 1) * q < p * (q * k)
        have : (p * k - 1) * q = p * (q * k) - q := by grind
        omega
    | ro t =>
      have hne : r ≠ t := fun z => Nu.lt_ne hmo h (congrArg Nu.ro z)
      have hs := tiny_sep hmo.1 hno.1 hmo.2.1 hmo.2.2.1 hmo.2.2.2 hno.2.1 hno.2.2.1 hno.2.2.2
      have h64 := hmo.2.1
      have e80 : (2 : Nat) ^ 80 = 1208925819614629174706176 := by decide
      obtain ⟨u, l, hl, hb, h1 | h1⟩ := sep hmo.1 hno.1 hne
      · exact ⟨u, l, hl, by omega, h1⟩
      · exact absurd (show (Nu.ro t).lt (Nu.ro r) from ⟨u, l, hl, h1⟩) (Nu.asym hmo hno h)
theorem Nu.lt_fr {n : Nu} {u l : Int} : n.lt (.fr u l) ↔ n.Be u l := by
  cases n <;> exact Iff.rfl
theorem Nu.fr_lt {n : Nu} {u l : Int} : (Nu.fr u l).lt n ↔ n.Ov u l := by
  cases n <;> exact Iff.rfl
theorem Nu.low_ok {u l : Int} (hl : 0 < l) (hu : u.natAbs < 2 ^ 500) (hl2 : l.natAbs < 2 ^ 500) : (Nu.fr (low u l).1 (low u l).2).Ok := by
  have h := low_is (u := u) (show l ≠ 0 by omega)
  have h2 := low_abs (u := u) (show l ≠ 0 by omega)
  exact ⟨h.pos, h.one, Nat.lt_of_le_of_lt h2.1 hu, Nat.lt_of_le_of_lt h2.2 hl2⟩
/-- the whole part of a number -/
def Nu.prt : Nu → Int
  | .fr u l => u / l
  | .ro r => r.prt
end RR
/-! RRL: the promises of what is between, simplest and nearest. -/
namespace RR
open PySem PySem.Spec PyProof.Rows L2
def sp_is_between : Sp := fun vs H Q _ => ∃ (x f y : Addr) (m n : Nu) (u l : Int), vs = [.ref x, .ref f, .ref y] ∧ H x = some (tI m.l) ∧ H y = some (tI n.l) ∧ H f = some (tI [u, l]) ∧ m.Ok ∧ n.Ok ∧ (Nu.fr u l).Ok ∧
  (m.Be u l ∧ n.Ov u l → ∀ H', Same H H' → Q (.bl true) H') ∧ (¬ (m.Be u l ∧ n.Ov u l) → ∀ H', Same H H' → Q (.bl false) H')
def sp_first_above : Sp := fun vs H Q _ => ∃ (x : Addr) (n : Nu) (l v : Int), vs = [.ref x, .int l] ∧ H x = some (tI n.l) ∧ n.Dr ∧ 1 ≤ l ∧ l ≤ 2 ^ 90 ∧ n.Be v l ∧ ¬ n.Be (v - 1) l ∧ ∀ H', Same H H' → Q (.int v) H'
def sp_last_below : Sp := fun vs H Q _ => ∃ (x : Addr) (n : Nu) (l v : Int), vs = [.ref x, .int l] ∧ H x = some (tI n.l) ∧ n.Dr ∧ 1 ≤ l ∧ l ≤ 2 ^ 90 ∧ n.Ov v l ∧ ¬ n.Ov (v + 1) l ∧ ∀ H', Same H H' → Q (.int v) H'
/-- the least fraction above, and the greatest below -/
theorem Nu.above_ex {n : Nu} (hn : n.Dr) {l : Int} (hl : 0 < l) : ∃ v, n.Be v l ∧ ¬ n.Be (v - 1) l := by
  obtain ⟨b1, b2⟩ := Nu.bounds hn
  have hb : n.Be (131072 * l) l := Nu.Be.up hn.ok (by decide) hl b2 (by omega)
  have go : ∀ k : Nat, ∀ v : Int, n.Be v l → v ≤ -131072 * l + k → ∃ v, n.Be v l ∧ ¬ n.Be (v - 1) l := by
    intro k
    induction k with
    | zero =>
      intro v hv hk
      have := Nu.ov_lt_be hn.ok (by decide) hl b1 hv
      omega
    | succ k ih =>
      intro v hv hk
      by_cases h : n.Be (v - 1) l
      · exact ih (v - 1) h (by omega)
      · exact ⟨v, hv, h⟩
  exact go (262144 * l).toNat _ hb (by omega)
theorem Nu.below_ex {n : Nu} (hn : n.Dr) {l : Int} (hl : 0 < l) : ∃ v, n.Ov v l ∧ ¬ n.Ov (v + 1) l := by
  obtain ⟨b1, b2⟩ := Nu.bounds hn
  have hb : n.Ov (-131072 * l) l := Nu.Ov.dn hn.ok (by decide) hl b1 (by omega)
  have go : ∀ k : Nat, ∀ v : Int, n.Ov v l → 131072 * l - k ≤ v → ∃ v, n.Ov v l ∧ ¬ n.Ov (v + 1) l := by
    intro k
    induction k with
    | zero =>
      intro v hv hk
      have := Nu.ov_lt_be hn.ok hl (by decide) hv b2
      omega
    | succ k ih =>
      intro v hv hk
      by_cases h : n.Ov (v + 1) l
      · exact ih (v + 1) h (by omega)
      · exact ⟨v, hv, h⟩
  exact go (262144 * l).toNat _ hb (by omega)
/-- simplest: the least lower number of what lies between, and nearest to 0 -/
def sp_simplest (C : Addr) : Sp := fun vs H Q E => ∃ (x y : Addr) (m n : Nu), vs = [.ref x, .ref y] ∧ H x = some (tI m.l) ∧ H y = some (tI n.l) ∧ m.Dr ∧ n.Dr ∧ (¬ m.lt n → ∀ H', Same H H' → E (.ref C) none H') ∧
  (m.lt n → ∀ u k H' p, 1 ≤ k → k ≤ 2 ^ 90 → u.natAbs < 2 ^ 200 → dv u k = 1 → m.Be u k → n.Ov u k → (∀ v l, 1 ≤ l → l < k → m.Be v l → ¬ n.Ov v l) → (k = 1 → ∀ v : Int, v.natAbs < u.natAbs → m.Be v 1 → ¬ n.Ov v 1) →
    Same H H' → H p = none → H' p = some (tI [u, k]) → Q (.ref p) H')
end RR
/-! RRV: what is nearer to a number. -/
namespace RR
/-! ### values x + y times the root, divided by w, in order -/
structure Fq where
  x : Int
  y : Int
  w : Int
def Fq.lt (d : Int) (a b : Fq) : Prop := Ps d (a.w * b.x - b.w * a.x) (a.w * b.y - b.w * a.y)
theorem Fq.lt_trans {d : Int} (hd : Ns d) {a b c : Fq} (ha : 0 < a.w) (hb : 0 < b.w) (hc : 0 < c.w) (h : Fq.lt d a b) (k : Fq.lt d b c) : Fq.lt d a c := by
  unfold Fq.lt at *
  have h1 := Ps.add hd (Ps.smul hd h hc) (Ps.smul hd k ha)
  refine Ps.sdiv hd (n := b.w) ?_ hb
  rw [show b.w * (a.w * c.x - c.w * a.x) = c.w * (a.w * b.x - b.w * a.x) + a.w * (b.w * c.x - c.w * b.x) by grind, show b.w * (a.w * c.y - c.w * a.y) = c.w * (a.w * b.y - b.w * a.y) + a.w * (b.w * c.y - c.w * b.y) by grind]
  exact h1
theorem Fq.irrefl {d : Int} {a : Fq} : ¬ Fq.lt d a a := fun h => h.ne ⟨by omega, by omega⟩
theorem Fq.asym {d : Int} {a b : Fq} (h : Fq.lt d a b) : ¬ Fq.lt d b a := by
  unfold Fq.lt at *
  rw [show b.w * a.x - a.w * b.x = -(a.w * b.x - b.w * a.x) by omega, show b.w * a.y - a.w * b.y = -(a.w * b.y - b.w * a.y) by omega]
  exact h.neg
theorem Fq.tri {d : Int} (hd : Ns d) (a b : Fq) : Fq.lt d a b ∨ Fq.lt d b a ∨ (a.w * b.x = b.w * a.x ∧ a.w * b.y = b.w * a.y) := by
  by_cases h : a.w * b.x - b.w * a.x = 0 ∧ a.w * b.y - b.w * a.y = 0
  · exact .inr (.inr ⟨by omega, by omega⟩)
  · rcases Ps.tri hd h with h1 | h1
    · exact .inl h1
    · refine .inr (.inl ?_)
      unfold Fq.lt
      rw [show b.w * a.x - a.w * b.x = -(a.w * b.x - b.w * a.x) by omega, show b.w * a.y - a.w * b.y = -(a.w * b.y - b.w * a.y) by omega]
      exact h1
theorem Fq.eq_lt {d : Int} (hd : Ns d) {a b c : Fq} (ha : 0 < a.w) (hb : 0 < b.w) (e : a.w * b.x = b.w * a.x ∧ a.w * b.y = b.w * a.y) (h : Fq.lt d a c) : Fq.lt d b c := by
  unfold Fq.lt at *
  have h1 := Ps.smul hd h hb
  refine Ps.sdiv hd (n := a.w) ?_ ha
  rw [show a.w * (b.w * c.x - c.w * b.x) = b.w * (a.w * c.x - c.w * a.x) - c.w * (a.w * b.x - b.w * a.x) by grind, show a.w * (b.w * c.y - c.w * b.y) = b.w * (a.w * c.y - c.w * a.y) - c.w * (a.w * b.y - b.w * a.y) by grind, e.1, e.2, Int.sub_self, Int.sub_self, Int.mul_zero, Int.sub_zero, Int.sub_zero]
  exact h1
/-- not less, and not less -/
theorem Fq.le_trans {d : Int} (hd : Ns d) {a b c : Fq} (ha : 0 < a.w) (hb : 0 < b.w) (hc : 0 < c.w) (h : ¬ Fq.lt d b a) (k : ¬ Fq.lt d c b) : ¬ Fq.lt d c a := by
  intro z
  rcases Fq.tri hd b c with h1 | h1 | h1
  · exact h (Fq.lt_trans hd hb hc ha h1 z)
  · exact k h1
  · exact h (Fq.eq_lt hd hc hb ⟨h1.1.symm, h1.2.symm⟩ z)
theorem Fq.lt_le {d : Int} (hd : Ns d) {a b c : Fq} (ha : 0 < a.w) (hb : 0 < b.w) (hc : 0 < c.w) (h : Fq.lt d a b) (k : ¬ Fq.lt d c b) : Fq.lt d a c := by
  rcases Fq.tri hd a c with h1 | h1 | h1
  · exact h1
  · exact absurd (Fq.lt_trans hd hc ha hb h1 h) k
  · exact absurd (Fq.eq_lt hd ha hc h1 h) k
theorem Fq.le_lt {d : Int} (hd : Ns d) {a b c : Fq} (ha : 0 < a.w) (hb : 0 < b.w) (hc : 0 < c.w) (h : ¬ Fq.lt d b a) (k : Fq.lt d b c) : Fq.lt d a c := by
  rcases Fq.tri hd a b with h1 | h1 | h1
  · exact Fq.lt_trans hd ha hb hc h1 k
  · exact absurd h1 h
  · exact Fq.eq_lt hd hb ha ⟨h1.1.symm, h1.2.symm⟩ k
/-! ### a number's own root -/
def Nu.d : Nu → Int
  | .fr _ _ => 2
  | .ro r => ht r.a r.b r.c
def Nu.P : Nu → Int
  | .fr p _ => p
  | .ro r => -r.b
def Nu.Q : Nu → Int
  | .fr _ _ => 0
  | .ro r => sg r.s
def Nu.R : Nu → Int
  | .fr _ q => q
  | .ro r => 2 * r.a
theorem Nu.ns {n : Nu} (h : n.Ok) : Ns n.d := by
  cases n with
  | fr p q => exact ⟨(by decide : (0 : Int) < 2), (by decide +kernel : isSq 2 = false)⟩
  | ro r => exact h.1.n
theorem Nu.R_pos {n : Nu} (h : n.Ok) : 0 < n.R := by
  cases n with
  | fr p q => exact h.1
  | ro r => have := h.1.ha; show 0 < 2 * r.a; omega
theorem Ps.int_iff {d x : Int} : Ps d x 0 ↔ 0 < x := by
  constructor
  · intro h
    rcases h with ⟨_, h⟩ | ⟨_, h⟩
    · exact h
    · exact absurd h (by decide)
  · exact Ps.int
theorem Nu.ov_ps {n : Nu} {u l : Int} : n.Ov u l ↔ Ps n.d (n.P * l - u * n.R) (n.Q * l) := by
  cases n with
  | fr p q =>
    show u * q < p * l ↔ Ps 2 (p * l - u * q) (0 * l)
    rw [Int.zero_mul, Ps.int_iff]
    omega
  | ro r => exact Iff.rfl
theorem Nu.be_ps {n : Nu} {u l : Int} : n.Be u l ↔ Ps n.d (u * n.R - n.P * l) (-(n.Q * l)) := by
  cases n with
  | fr p q =>
    show p * l < u * q ↔ Ps 2 (u * q - p * l) (-(0 * l))
    rw [Int.zero_mul, Int.neg_zero, Ps.int_iff]
    omega
  | ro r => exact Iff.rfl
/-- how far a fraction is from the number, by squares, less the number's own square -/
def Nu.far (n : Nu) (u l : Int) : Fq := ⟨n.R * u * u - 2 * n.P * u * l, -2 * n.Q * u * l, l * l⟩
def Nu.nr (n : Nu) (u l v m : Int) : Prop := Fq.lt n.d (n.far u l) (n.far v m)
theorem Nu.far_w {n : Nu} {u l : Int} (hl : 0 < l) : 0 < (n.far u l).w := Int.mul_pos hl hl
/-- nearer, by the middle -/
theorem Nu.nr_lo {n : Nu} (hn : n.Ok) {u l v m : Int} (h : u * m < v * l) : n.nr u l v m ↔ n.Be (u * m + v * l) (2 * l * m) := by
  have hd := Nu.ns hn
  rw [Nu.be_ps]
  unfold Nu.nr Fq.lt Nu.far
  have hD : 0 < v * l - u * m := by omega
  have e1 : l * l * (n.R * v * v - 2 * n.P * v * m) - m * m * (n.R * u * u - 2 * n.P * u * l) = (v * l - u * m) * ((u * m + v * l) * n.R - n.P * (2 * l * m)) := by grind
  have e2 : l * l * (-2 * n.Q * v * m) - m * m * (-2 * n.Q * u * l) = (v * l - u * m) * -(n.Q * (2 * l * m)) := by grind
  dsimp only
  rw [e1, e2]
  exact ⟨fun z => Ps.sdiv hd z hD, fun z => Ps.smul hd z hD⟩
theorem Nu.nr_hi {n : Nu} (hn : n.Ok) {u l v m : Int} (h : v * l < u * m) : n.nr u l v m ↔ n.Ov (u * m + v * l) (2 * l * m) := by
  have hd := Nu.ns hn
  rw [Nu.ov_ps]
  unfold Nu.nr Fq.lt Nu.far
  have hD : 0 < u * m - v * l := by omega
  have e1 : l * l * (n.R * v * v - 2 * n.P * v * m) - m * m * (n.R * u * u - 2 * n.P * u * l) = (u * m - v * l) * (n.P * (2 * l * m) - (u * m + v * l) * n.R) := by grind
  have e2 : l * l * (-2 * n.Q * v * m) - m * m * (-2 * n.Q * u * l) = (u * m - v * l) * (n.Q * (2 * l * m)) := by grind
  dsimp only
  rw [e1, e2]
  exact ⟨fun z => Ps.sdiv hd z hD, fun z => Ps.smul hd z hD⟩
/-- like fractions are as far -/
theorem Nu.far_eq {n : Nu} {u l v m : Int} (h : u * m = v * l) : (n.far u l).w * (n.far v m).x = (n.far v m).w * (n.far u l).x ∧ (n.far u l).w * (n.far v m).y = (n.far v m).w * (n.far u l).y := by
  unfold Nu.far
  dsimp only
  constructor
  · have : l * l * (n.R * v * v - 2 * n.P * v * m) - m * m * (n.R * u * u - 2 * n.P * u * l) = (v * l - u * m) * ((u * m + v * l) * n.R - n.P * (2 * l * m)) := by grind
    rw [h, Int.sub_self, Int.zero_mul] at this
    omega
  · have : l * l * (-2 * n.Q * v * m) - m * m * (-2 * n.Q * u * l) = (v * l - u * m) * -(n.Q * (2 * l * m)) := by grind
    rw [h, Int.sub_self, Int.zero_mul] at this
    omega
/-- on one side the closer one is nearer -/
theorem Nu.nr_above {n : Nu} (hn : n.Ok) {u l v m : Int} (hl : 0 < l) (hm : 0 < m) (h : n.Be u l) (k : u * m < v * l) : n.nr u l v m := by
  rw [Nu.nr_lo hn k]
  refine Nu.Be.up hn hl (Int.mul_pos (by omega) hm) h ?_
  have h1 : u * m * l ≤ v * l * l := Int.mul_le_mul_of_nonneg_right (by omega) (by omega)
  have e1 : u * (2 * l * m) = u * m * l + u * m * l := by grind
  have e2 : (u * m + v * l) * l = u * m * l + v * l * l := by grind
  omega
theorem Nu.ov_of_not {n : Nu} (hn : n.Ok) {u l v m : Int} (hl : 0 < l) (hm : 0 < m) (h : ¬ n.Be u l) (k : v * l < u * m) : n.Ov v m := by
  cases n with
  | fr p q =>
    have h1 : u * q ≤ p * l := by
      have : ¬ p * l < u * q := h
      omega
    show v * q < p * m
    have hq := hn.1
    have x1 : v * l * q < u * m * q := Int.mul_lt_mul_of_pos_right k hq
    have x2 : u * q * m ≤ p * l * m := Int.mul_le_mul_of_nonneg_right h1 (by omega)
    have x3 : v * q * l < p * m * l := by
      have e1 : v * q * l = v * l * q := by grind
      have e2 : u * m * q = u * q * m := by grind
      have e3 : p * m * l = p * l * m := by grind
      omega
    exact Int.lt_of_mul_lt_mul_right x3 (by omega)
  | ro r => exact Nu.Ov.dn hn hl hm ((root_tri hn.1 hl).elim id fun z => absurd z h) (by omega)
theorem Nu.nr_below {n : Nu} (hn : n.Ok) {u l v m : Int} (hl : 0 < l) (hm : 0 < m) (h : ¬ n.Be u l) (k : v * l < u * m) : n.nr u l v m := by
  rw [Nu.nr_hi hn k]
  refine Nu.ov_of_not hn hl (Int.mul_pos (by omega) hm) h ?_
  have h1 : v * l * l < u * m * l := Int.mul_lt_mul_of_pos_right k hl
  have e1 : u * (2 * l * m) = u * m * l + u * m * l := by grind
  have e2 : (u * m + v * l) * l = u * m * l + v * l * l := by grind
  omega
/-! ### the best one so far -/
/-- best of all with a lower number to k -/
def Nu.best (n : Nu) (k bu bl : Int) : Prop := ∀ u l, 1 ≤ l → l ≤ k → ¬ n.nr u l bu bl ∧ (¬ n.nr bu bl u l → bl < l ∨ (bl = l ∧ bu ≤ u))
/-- one is looked at -/
structure Step (n : Nu) (cu cl bu bl ru rl : Int) : Prop where
  or : (ru = cu ∧ rl = cl) ∨ (ru = bu ∧ rl = bl)
  le : ¬ n.nr cu cl ru rl
  lt : ¬ (ru = bu ∧ rl = bl) → n.nr ru rl bu bl
theorem step_of {n : Nu} {cu cl bu bl : Int} {z : Bool} (h : ¬ (cu = bu ∧ cl = bl) → (z = true ↔ n.nr cu cl bu bl)) : (z = true → Step n cu cl bu bl cu cl) ∧ (z = false → Step n cu cl bu bl bu bl) := by
  refine ⟨fun hz => ⟨.inl ⟨rfl, rfl⟩, Fq.irrefl, fun k => (h k).mp hz⟩, fun hz => ⟨.inr ⟨rfl, rfl⟩, ?_, fun k => absurd ⟨rfl, rfl⟩ k⟩⟩
  by_cases e : cu = bu ∧ cl = bl
  · obtain ⟨rfl, rfl⟩ := e
    exact Fq.irrefl
  · intro k
    have := (h e).mpr k
    rw [hz] at this
    cases this
theorem best_next {n : Nu} (hn : n.Ok) {k l A bu bl r1u r1l r2u r2l : Int} (hk : 0 ≤ k) (hl : l = k + 1) (hA : n.Be A l) (hA2 : ¬ n.Be (A - 1) l) (hbl : 1 ≤ bl) (hbk : bl ≤ k ∨ (k = 0 ∧ bl = 1 ∧ bu = A - 1)) (hb : n.best k bu bl)
    (h1 : Step n (low (A - 1) l).1 (low (A - 1) l).2 bu bl r1u r1l) (h2 : Step n (low A l).1 (low A l).2 r1u r1l r2u r2l) : n.best l r2u r2l ∧ 1 ≤ r2l ∧ r2l ≤ l := by
  have hd := Nu.ns hn
  have hl0 : 0 < l := by omega
  have c1 := low_is (u := A - 1) (show l ≠ 0 by omega)
  have c2 := low_is (u := A) (show l ≠ 0 by omega)
  have d1 := low_le (u := A - 1) hl0
  have d2 := low_le (u := A) hl0
  have p1 := c1.pos
  have p2 := c2.pos
  have hr1 : 1 ≤ r1l ∧ r1l ≤ l := by rcases h1.or with h | h <;> omega
  have hr2 : 1 ≤ r2l ∧ r2l ≤ l := by rcases h2.or with h | h <;> omega
  have wb : 0 < (n.far bu bl).w := Nu.far_w (by omega)
  have w1 : 0 < (n.far r1u r1l).w := Nu.far_w (by omega)
  have w2 : 0 < (n.far r2u r2l).w := Nu.far_w (by omega)
  have wc1 : 0 < (n.far (low (A - 1) l).1 (low (A - 1) l).2).w := Nu.far_w p1
  have wc2 : 0 < (n.far (low A l).1 (low A l).2).w := Nu.far_w p2
  have wA : 0 < (n.far A l).w := Nu.far_w hl0
  have wA1 : 0 < (n.far (A - 1) l).w := Nu.far_w hl0
  have eA : ¬ n.nr A l (low A l).1 (low A l).2 := fun z => by
    have e := Nu.far_eq (n := n) (u := A) (l := l) (v := (low A l).1) (m := (low A l).2) c2.cross
    exact Fq.irrefl (Fq.eq_lt hd wA wc2 e z)
  have eA1 : ¬ n.nr (A - 1) l (low (A - 1) l).1 (low (A - 1) l).2 := fun z => by
    have e := Nu.far_eq (n := n) (u := A - 1) (l := l) (v := (low (A - 1) l).1) (m := (low (A - 1) l).2) c1.cross
    exact Fq.irrefl (Fq.eq_lt hd wA1 wc1 e z)
  -- of the two steps: no worse than before, no worse than what was looked at
  have le1 : ¬ n.nr bu bl r1u r1l := fun z => by
    by_cases e : r1u = bu ∧ r1l = bl
    · rw [e.1, e.2] at z
      exact Fq.irrefl z
    · exact Fq.asym (h1.lt e) z
  have le2 : ¬ n.nr r1u r1l r2u r2l := fun z => by
    by_cases e : r2u = r1u ∧ r2l = r1l
    · rw [e.1, e.2] at z
      exact Fq.irrefl z
    · exact Fq.asym (h2.lt e) z
  have le2b : ¬ n.nr bu bl r2u r2l := Fq.le_trans hd w2 w1 wb le2 le1
  have leA : ¬ n.nr A l r2u r2l := Fq.le_trans hd w2 wc2 wA h2.le eA
  have leA1' : ¬ n.nr (A - 1) l r1u r1l := Fq.le_trans hd w1 wc1 wA1 h1.le eA1
  have leA1 : ¬ n.nr (A - 1) l r2u r2l := Fq.le_trans hd w2 w1 wA1 le2 leA1'
  -- of the lower number l
  have up : ∀ u, A ≤ u → ¬ n.nr u l A l := fun u hu z => by
    by_cases e : u = A
    · subst e
      exact Fq.irrefl z
    · exact Fq.asym (Nu.nr_above hn hl0 hl0 hA (Int.mul_lt_mul_of_pos_right (show A < u by omega) hl0)) z
  have dn : ∀ u, u ≤ A - 1 → ¬ n.nr u l (A - 1) l := fun u hu z => by
    by_cases e : u = A - 1
    · subst e
      exact Fq.irrefl z
    · exact Fq.asym (Nu.nr_below hn hl0 hl0 hA2 (Int.mul_lt_mul_of_pos_right (show u < A - 1 by omega) hl0)) z
  refine ⟨fun u m hm1 hm2 => ?_, hr2.1, hr2.2⟩
  have wu : 0 < (n.far u m).w := Nu.far_w (by omega)
  by_cases hmk : m ≤ k
  · obtain ⟨b1, b2⟩ := hb u m hm1 hmk
    refine ⟨Fq.le_trans hd w2 wb wu le2b b1, fun z => ?_⟩
    have hsame : r2u = bu ∧ r2l = bl := by
      by_cases e : r2u = bu ∧ r2l = bl
      · exact e
      · exfalso
        have hlt : n.nr r2u r2l bu bl := by
          by_cases e2 : r2u = r1u ∧ r2l = r1l
          · rw [e2.1, e2.2] at e ⊢
            exact h1.lt e
          · exact Fq.lt_le hd w2 w1 wb (h2.lt e2) le1
        exact z (Fq.lt_le hd w2 wb wu hlt b1)
    rw [hsame.1, hsame.2] at z ⊢
    exact b2 z
  · have hml : m = l := by omega
    subst hml
    refine ⟨?_, fun z => ?_⟩
    · by_cases hu : A ≤ u
      · exact Fq.le_trans hd w2 wA wu leA (up u hu)
      · exact Fq.le_trans hd w2 wA1 wu leA1 (dn u (by omega))
    · by_cases hlt : r2l < m
      · exact .inl hlt
      · have hrl : r2l = m := by omega
        refine .inr ⟨hrl, ?_⟩
        by_cases hu : A ≤ u
        · -- it is one of both
          rcases h2.or with h | h
          · have e := c2.cross
            rw [← h.2, hrl, ← h.1] at e
            have := Int.eq_of_mul_eq_mul_right (show m ≠ 0 by omega) e
            omega
          · rcases h1.or with h' | h'
            · have e := c1.cross
              rw [← h'.2, ← h.2, hrl, ← h'.1, ← h.1] at e
              have := Int.eq_of_mul_eq_mul_right (show m ≠ 0 by omega) e
              omega
            · rcases hbk with h3 | h3 <;> omega
        · have hu2 : u ≤ A - 1 := by omega
          -- then it is the one below
          have hr : r2u = A - 1 ∨ r2u = A := by
            rcases h2.or with h | h
            · have e := c2.cross
              rw [← h.2, hrl, ← h.1] at e
              have := Int.eq_of_mul_eq_mul_right (show m ≠ 0 by omega) e
              omega
            · rcases h1.or with h' | h'
              · have e := c1.cross
                rw [← h'.2, ← h.2, hrl, ← h'.1, ← h.1] at e
                have := Int.eq_of_mul_eq_mul_right (show m ≠ 0 by omega) e
                omega
              · rcases hbk with h3 | h3 <;> omega
          rcases hr with hr | hr
          · by_cases e : u = A - 1
            · omega
            · exfalso
              have := Nu.nr_below hn hl0 hl0 hA2 (Int.mul_lt_mul_of_pos_right (show u < A - 1 by omega) hl0)
              rw [hr, hrl] at z
              exact z this
          · exfalso
            have hne : ¬ (r2u = r1u ∧ r2l = r1l) := fun h => by
              rcases h1.or with h' | h'
              · have e := c1.cross
                rw [← h'.2, ← h.2, hrl, ← h'.1, ← h.1, hr] at e
                have := Int.eq_of_mul_eq_mul_right (show m ≠ 0 by omega) e
                omega
              · rcases hbk with h3 | h3 <;> omega
            have h3 : n.nr r2u r2l (A - 1) m := Fq.lt_le hd w2 w1 wA1 (h2.lt hne) leA1'
            exact z (Fq.lt_le hd w2 wA1 wu h3 (dn u hu2))
/-- a fraction of numbers that are not great -/
structure Mf (u l : Int) : Prop where
  l0 : 1 ≤ l
  l1 : l ≤ 1000
  u1 : u.natAbs ≤ 2 ^ 40
  one : dv u l = 1
theorem Mf.ok {u l : Int} (h : Mf u l) : (Nu.fr u l).Ok := by
  have e40 : (2 : Nat) ^ 40 = 1099511627776 := by decide
  have h1 := h.l0
  have h2 := h.l1
  have h3 := h.u1
  exact ⟨by omega, h.one, nat_mono (m := 60) (by omega) (by decide), nat_mono (m := 60) (by omega) (by decide)⟩
def sp_distance_less : L2.Sp := fun vs H Q _ => ∃ (x f g : PySem.Addr) (n : Nu) (u l v m : Int), vs = [.ref x, .ref f, .ref g] ∧ H x = some (tI n.l) ∧ H f = some (tI [u, l]) ∧ H g = some (tI [v, m]) ∧ n.Dr ∧ Mf u l ∧ Mf v m ∧
  ∀ z : Bool, (¬ (u = v ∧ l = m) → (z = true ↔ n.nr u l v m)) → ∀ H', L2.Same H H' → Q (.bl z) H'
def sp_nearest : L2.Sp := fun vs H Q _ => ∃ (x : PySem.Addr) (n : Nu) (most : Int), vs = [.ref x, .int most] ∧ H x = some (tI n.l) ∧ n.Dr ∧ 1 ≤ most ∧ most ≤ 1000 ∧
  ∀ u l H' p, Mf u l → l ≤ most → n.best most u l → L2.Same H H' → H p = none → H' p = some (tI [u, l]) → Q (.ref p) H'
def Nu.nrB (n : Nu) (u l v m : Int) : Bool := if u * m < v * l then n.be (u * m + v * l) (2 * l * m) else n.ov (u * m + v * l) (2 * l * m)
theorem Nu.nrB_iff {n : Nu} (hn : n.Ok) {u l v m : Int} (hl : 0 < l) (hm : 0 < m) (h : ¬ u * m = v * l) : n.nrB u l v m = true ↔ n.nr u l v m := by
  have h0 : 0 < 2 * l * m := Int.mul_pos (by omega) hm
  unfold Nu.nrB
  by_cases k : u * m < v * l
  · rw [if_pos k, Nu.be_iff hn h0, Nu.nr_lo hn k]
  · rw [if_neg k, Nu.ov_iff hn h0, Nu.nr_hi hn (by omega)]
def sp_nearer : L2.Sp := fun vs H Q _ => ∃ (x f g : PySem.Addr) (n : Nu) (u l v m : Int), vs = [.ref x, .ref f, .ref g] ∧ H x = some (tI n.l) ∧ H f = some (tI [u, l]) ∧ H g = some (tI [v, m]) ∧ n.Dr ∧ Mf u l ∧ Mf v m ∧ Q (.bl (n.nrB u l v m)) H
def sp_as_near : L2.Sp := fun vs H Q _ => ∃ (x f g : PySem.Addr) (n : Nu) (u l v m : Int), vs = [.ref x, .ref f, .ref g] ∧ H x = some (tI n.l) ∧ H f = some (tI [u, l]) ∧ H g = some (tI [v, m]) ∧ n.Dr ∧ Mf u l ∧ Mf v m ∧ Q (.bl (!n.nrB u l v m && !n.nrB v m u l)) H
theorem Nu.prt_spec {n : Nu} (h : n.Dr) : n.Be (n.prt + 1) 1 ∧ ¬ n.Be n.prt 1 ∧ n.prt.natAbs < 2 ^ 18 := by
  cases n with
  | fr u l =>
    obtain ⟨h1, h2, h3, h4, h5⟩ := h
    obtain ⟨f1, f2⟩ := fl (x := u) h1
    have := ediv_abs (u := u) h1
    refine ⟨?_, ?_, ?_⟩
    · show u * 1 < (u / l + 1) * l
      omega
    · show ¬ u * 1 < u / l * l
      omega
    · show (u / l).natAbs < _
      omega
  | ro r =>
    obtain ⟨o1, o2⟩ := part_is h.1
    have hd := tiny_ht h.1 h.2.1 h.2.2.1 h.2.2.2
    have R : IsR r.a r.b r.c r.s := h.1
    have hp := prt_abs R.ha (Int.le_of_lt R.n.pos)
    have hp0 := R.n.pos
    have hb := h.2.2.1
    have e15 : (2 : Int) ^ 15 = 32768 := by decide
    refine ⟨o2, Nu.not_both (Nu.Dr.ok (n := .ro r) h) (show (Nu.ro r).Ov r.prt 1 from o1), ?_⟩
    show r.prt.natAbs < _
    omega
theorem Mf.of_low {A l : Int} (h1 : 1 ≤ l) (h2 : l ≤ 1000) (h3 : A.natAbs ≤ 2 ^ 40) : Mf (low A l).1 (low A l).2 := by
  have h := low_is (u := A) (show l ≠ 0 by omega)
  have h4 := low_abs (u := A) (show l ≠ 0 by omega)
  have h5 := low_le (u := A) (show 0 < l by omega)
  have := h.pos
  exact ⟨by omega, by omega, by omega, h.one⟩
end RR
namespace RR
open PySem PySem.Spec PyProof.Rows L2
/-! ### the text by places -/
def topS (i : Nat) : Stmt := PySem.Challenge.pw_rootrow_k08_whole_nearest.main.body.getD i (.Pass ⟨0, 0, 0, 0⟩)
abbrev s_divisor : Stmt := topS 4
abbrev n_divisor : List Str := ["one", "other"]
abbrev p_divisor : List Str := ["one", "other"]
theorem sc_divisor : FnScope n_divisor p_divisor (defScope s_divisor) := ⟨rfl, rfl, rfl, by decide +kernel, rfl, by decide +kernel, by decide +kernel⟩
abbrev s_lowest : Stmt := topS 5
abbrev n_lowest : List Str := ["upper", "lower", "by"]
abbrev p_lowest : List Str := ["upper", "lower"]
theorem sc_lowest : FnScope n_lowest p_lowest (defScope s_lowest) := ⟨rfl, rfl, rfl, by decide +kernel, rfl, by decide +kernel, by decide +kernel⟩
abbrev s_least_square : Stmt := topS 6
abbrev n_least_square : List Str := ["n", "found", "other"]
abbrev p_least_square : List Str := ["n"]
theorem sc_least_square : FnScope n_least_square p_least_square (defScope s_least_square) := ⟨rfl, rfl, rfl, by decide +kernel, rfl, by decide +kernel, by decide +kernel⟩
abbrev s_heart : Stmt := topS 8
abbrev n_heart : List Str := ["a", "b", "c"]
abbrev p_heart : List Str := ["a", "b", "c"]
theorem sc_heart : FnScope n_heart p_heart (defScope s_heart) := ⟨rfl, rfl, rfl, by decide +kernel, rfl, by decide +kernel, by decide +kernel⟩
abbrev s_is_square : Stmt := topS 9
abbrev n_is_square : List Str := ["n"]
abbrev p_is_square : List Str := ["n"]
theorem sc_is_square : FnScope n_is_square p_is_square (defScope s_is_square) := ⟨rfl, rfl, rfl, by decide +kernel, rfl, by decide +kernel, by decide +kernel⟩
abbrev s_root_of : Stmt := topS 10
abbrev n_root_of : List Str := ["a", "b", "c", "side", "by"]
abbrev p_root_of : List Str := ["a", "b", "c", "side"]
theorem sc_root_of : FnScope n_root_of p_root_of (defScope s_root_of) := ⟨rfl, rfl, rfl, by decide +kernel, rfl, by decide +kernel, by decide +kernel⟩
abbrev s_is_above : Stmt := topS 11
abbrev n_is_above : List Str := ["root", "upper", "lower", "a", "b", "c", "side", "found", "beyond"]
abbrev p_is_above : List Str := ["root", "upper", "lower"]
theorem sc_is_above : FnScope n_is_above p_is_above (defScope s_is_above) := ⟨rfl, rfl, rfl, by decide +kernel, rfl, by decide +kernel, by decide +kernel⟩
abbrev s_part_of : Stmt := topS 12
abbrev n_part_of : List Str := ["number", "a", "b", "c", "side", "wide", "found"]
abbrev p_part_of : List Str := ["number"]
theorem sc_part_of : FnScope n_part_of p_part_of (defScope s_part_of) := ⟨rfl, rfl, rfl, by decide +kernel, rfl, by decide +kernel, by decide +kernel⟩
abbrev s_moved : Stmt := topS 13
abbrev n_moved : List Str := ["root", "n", "a", "b", "c", "side"]
abbrev p_moved : List Str := ["root", "n"]
theorem sc_moved : FnScope n_moved p_moved (defScope s_moved) := ⟨rfl, rfl, rfl, by decide +kernel, rfl, by decide +kernel, by decide +kernel⟩
abbrev s_turned : Stmt := topS 14
abbrev n_turned : List Str := ["root", "n", "a", "b", "c", "side", "other"]
abbrev p_turned : List Str := ["root", "n"]
theorem sc_turned : FnScope n_turned p_turned (defScope s_turned) := ⟨rfl, rfl, rfl, by decide +kernel, rfl, by decide +kernel, by decide +kernel⟩
abbrev s_by_fraction : Stmt := topS 16
abbrev n_by_fraction : List Str := ["root", "fraction"]
abbrev p_by_fraction : List Str := ["root", "fraction"]
theorem sc_by_fraction : FnScope n_by_fraction p_by_fraction (defScope s_by_fraction) := ⟨rfl, rfl, rfl, by decide +kernel, rfl, by decide +kernel, by decide +kernel⟩
abbrev s_by_rows : Stmt := topS 17
abbrev n_by_rows : List Str := ["one", "other", "sign"]
abbrev p_by_rows : List Str := ["one", "other"]
theorem sc_by_rows : FnScope n_by_rows p_by_rows (defScope s_by_rows) := ⟨rfl, rfl, rfl, by decide +kernel, rfl, by decide +kernel, by decide +kernel⟩
abbrev s_compare : Stmt := topS 18
abbrev n_compare : List Str := ["one", "other"]
abbrev p_compare : List Str := ["one", "other"]
theorem sc_compare : FnScope n_compare p_compare (defScope s_compare) := ⟨rfl, rfl, rfl, by decide +kernel, rfl, by decide +kernel, by decide +kernel⟩
abbrev s_first_above : Stmt := topS 20
abbrev n_first_above : List Str := ["number", "lower", "found"]
abbrev p_first_above : List Str := ["number", "lower"]
theorem sc_first_above : FnScope n_first_above p_first_above (defScope s_first_above) := ⟨rfl, rfl, rfl, by decide +kernel, rfl, by decide +kernel, by decide +kernel⟩
abbrev s_distance_less : Stmt := topS 21
abbrev n_distance_less : List Str := ["number", "one", "other", "middle", "side"]
abbrev p_distance_less : List Str := ["number", "one", "other"]
theorem sc_distance_less : FnScope n_distance_less p_distance_less (defScope s_distance_less) := ⟨rfl, rfl, rfl, by decide +kernel, rfl, by decide +kernel, by decide +kernel⟩
abbrev s_nearest : Stmt := topS 22
abbrev n_nearest : List Str := ["number", "most", "best", "lower", "above", "upper", "found"]
abbrev p_nearest : List Str := ["number", "most"]
theorem sc_nearest : FnScope n_nearest p_nearest (defScope s_nearest) := ⟨rfl, rfl, rfl, by decide +kernel, rfl, by decide +kernel, by decide +kernel⟩
abbrev s__law_cell : Stmt := topS 24
abbrev n__law_cell : List Str := ["_law_script", "_law_k"]
abbrev p__law_cell : List Str := ["_law_script", "_law_k"]
theorem sc__law_cell : FnScope n__law_cell p__law_cell (defScope s__law_cell) := ⟨rfl, rfl, rfl, by decide +kernel, rfl, by decide +kernel, by decide +kernel⟩
abbrev s__law_mix : Stmt := topS 25
abbrev n__law_mix : List Str := ["_law_cell_here", "_law_prime", "_law_many"]
abbrev p__law_mix : List Str := ["_law_cell_here", "_law_prime", "_law_many"]
theorem sc__law_mix : FnScope n__law_mix p__law_mix (defScope s__law_mix) := ⟨rfl, rfl, rfl, by decide +kernel, rfl, by decide +kernel, by decide +kernel⟩
abbrev s__law_whole : Stmt := topS 26
abbrev n__law_whole : List Str := ["_law_found"]
abbrev p__law_whole : List Str := ["_law_found"]
theorem sc__law_whole : FnScope n__law_whole p__law_whole (defScope s__law_whole) := ⟨rfl, rfl, rfl, by decide +kernel, rfl, by decide +kernel, by decide +kernel⟩
abbrev s__law_divisor : Stmt := topS 27
abbrev n__law_divisor : List Str := ["_law_one", "_law_other"]
abbrev p__law_divisor : List Str := ["_law_one", "_law_other"]
theorem sc__law_divisor : FnScope n__law_divisor p__law_divisor (defScope s__law_divisor) := ⟨rfl, rfl, rfl, by decide +kernel, rfl, by decide +kernel, by decide +kernel⟩
abbrev s__law_lowest : Stmt := topS 28
abbrev n__law_lowest : List Str := ["_law_upper", "_law_lower", "_law_by"]
abbrev p__law_lowest : List Str := ["_law_upper", "_law_lower"]
theorem sc__law_lowest : FnScope n__law_lowest p__law_lowest (defScope s__law_lowest) := ⟨rfl, rfl, rfl, by decide +kernel, rfl, by decide +kernel, by decide +kernel⟩
abbrev s__law_fraction : Stmt := topS 29
abbrev n__law_fraction : List Str := ["_law_cell_here", "_law_other", "_law_wide", "_law_upper"]
abbrev p__law_fraction : List Str := ["_law_cell_here", "_law_other", "_law_wide"]
theorem sc__law_fraction : FnScope n__law_fraction p__law_fraction (defScope s__law_fraction) := ⟨rfl, rfl, rfl, by decide +kernel, rfl, by decide +kernel, by decide +kernel⟩
abbrev s__law_square : Stmt := topS 30
abbrev n__law_square : List Str := ["_law_n", "_law_low", "_law_high", "_law_half"]
abbrev p__law_square : List Str := ["_law_n"]
theorem sc__law_square : FnScope n__law_square p__law_square (defScope s__law_square) := ⟨rfl, rfl, rfl, by decide +kernel, rfl, by decide +kernel, by decide +kernel⟩
abbrev s__law_heart : Stmt := topS 31
abbrev n__law_heart : List Str := ["_law_root_here"]
abbrev p__law_heart : List Str := ["_law_root_here"]
theorem sc__law_heart : FnScope n__law_heart p__law_heart (defScope s__law_heart) := ⟨rfl, rfl, rfl, by decide +kernel, rfl, by decide +kernel, by decide +kernel⟩
abbrev s__law_root : Stmt := topS 32
abbrev n__law_root : List Str := ["_law_cell_here", "_law_other", "_law_wide", "_law_k", "_law_a", "_law_b", "_law_c", "_law_d", "_law_by"]
abbrev p__law_root : List Str := ["_law_cell_here", "_law_other", "_law_wide"]
theorem sc__law_root : FnScope n__law_root p__law_root (defScope s__law_root) := ⟨rfl, rfl, rfl, by decide +kernel, rfl, by decide +kernel, by decide +kernel⟩
abbrev s__law_above : Stmt := topS 33
abbrev n__law_above : List Str := ["_law_root_here", "_law_upper", "_law_lower", "_law_a", "_law_b", "_law_c", "_law_side", "_law_found"]
abbrev p__law_above : List Str := ["_law_root_here", "_law_upper", "_law_lower"]
theorem sc__law_above : FnScope n__law_above p__law_above (defScope s__law_above) := ⟨rfl, rfl, rfl, by decide +kernel, rfl, by decide +kernel, by decide +kernel⟩
abbrev s__law_below : Stmt := topS 34
abbrev n__law_below : List Str := ["_law_number_here", "_law_upper", "_law_lower"]
abbrev p__law_below : List Str := ["_law_number_here", "_law_upper", "_law_lower"]
theorem sc__law_below : FnScope n__law_below p__law_below (defScope s__law_below) := ⟨rfl, rfl, rfl, by decide +kernel, rfl, by decide +kernel, by decide +kernel⟩
abbrev s__law_over : Stmt := topS 35
abbrev n__law_over : List Str := ["_law_number_here", "_law_upper", "_law_lower"]
abbrev p__law_over : List Str := ["_law_number_here", "_law_upper", "_law_lower"]
theorem sc__law_over : FnScope n__law_over p__law_over (defScope s__law_over) := ⟨rfl, rfl, rfl, by decide +kernel, rfl, by decide +kernel, by decide +kernel⟩
abbrev s__law_number : Stmt := topS 36
abbrev n__law_number : List Str := ["_law_script", "_law_k", "_law_wide"]
abbrev p__law_number : List Str := ["_law_script", "_law_k", "_law_wide"]
theorem sc__law_number : FnScope n__law_number p__law_number (defScope s__law_number) := ⟨rfl, rfl, rfl, by decide +kernel, rfl, by decide +kernel, by decide +kernel⟩
abbrev s__law_nearer : Stmt := topS 37
abbrev n__law_nearer : List Str := ["_law_number_here", "_law_one", "_law_other", "_law_upper", "_law_lower"]
abbrev p__law_nearer : List Str := ["_law_number_here", "_law_one", "_law_other"]
theorem sc__law_nearer : FnScope n__law_nearer p__law_nearer (defScope s__law_nearer) := ⟨rfl, rfl, rfl, by decide +kernel, rfl, by decide +kernel, by decide +kernel⟩
abbrev s__law_as_near : Stmt := topS 38
abbrev n__law_as_near : List Str := ["_law_number_here", "_law_one", "_law_other"]
abbrev p__law_as_near : List Str := ["_law_number_here", "_law_one", "_law_other"]
theorem sc__law_as_near : FnScope n__law_as_near p__law_as_near (defScope s__law_as_near) := ⟨rfl, rfl, rfl, by decide +kernel, rfl, by decide +kernel, by decide +kernel⟩
abbrev s_law : Stmt := topS 39
abbrev n_law : List Str := ["_law_script", "_law_number_here", "_law_most", "_law_found", "_law_lower", "_law_first", "_law_upper", "_law_other", "_law_one"]
abbrev p_law : List Str := ["_law_script"]
theorem sc_law : FnScope n_law p_law (defScope s_law) := ⟨rfl, rfl, rfl, by decide +kernel, rfl, by decide +kernel, by decide +kernel⟩
section
variable {P : Program} {w : World} {K : PySem.W.Frag} {mg : Str → Option Value} {base : Heap}
theorem ok_divisor (D : Df K mg "divisor" p_divisor s_divisor) (B : Bl mg) : Cal P w K mg base CX0 1 "divisor" p_divisor sp_divisor := D.cal fun f fd F => by
  refine F.ok sc_divisor (fun vs H Q E h => ?_) (fun cdv A outer s H vs Q E hr h => ?_)
  · obtain ⟨a, b, rfl, _⟩ := h
    rfl
  obtain ⟨a, b, rfl, q⟩ := h
  refine ⟨_, pss_cons (ps_set (i := 0) sc_divisor.nd rfl (.inl rfl) (pe_callB call_abs (by rfl) B.abs (by decide +kernel) (pa_cons (pv 0) pa_nil)))
    (pss_cons (ps_set (i := 1) sc_divisor.nd rfl (.inl rfl) (pe_callB call_abs (by rfl) B.abs (by decide +kernel) (pa_cons (pv 1) pa_nil)))
    (pss_cons (ps_while PassesOwn.never (pt_cmpR op_gt (pv 1) pe_int (nomark _)) (pss_one (ps_par (i := 0) (j := 1) (by rfl) sc_divisor.nd rfl rfl (by decide) rfl rfl (pa_cons (pv 1) (pa_cons (pe_op op_mod (pv 0) (pv 1)) pa_nil)) (by rfl))))
    (pss_one (ps_ret (pv 0))))), ?_⟩
  refine ⟨_, rfl, a, rfl, _, rfl, b, rfl, ?_⟩
  refine ⟨fun m σ H' => ∃ x y : Int, σ = [some (.int x), some (.int y)] ∧ 0 ≤ x ∧ 0 ≤ y ∧ Int.gcd x y = Int.gcd a b ∧ H' = H ∧ m = y.toNat, ⟨_, _, _, rfl, by split <;> omega, by split <;> omega, gcd_abs a b, rfl, rfl⟩, ?_⟩
  rintro m σ H' ⟨x, y, rfl, hx, hy, hg, rfl, rfl⟩
  refine ⟨_, rfl, _, _, rfl, rfl, _, rfl, ite2 (fun c => ?_) (fun c => ?_)⟩
  · have c' : 0 < y := of_decide_eq_true c
    have h1 := Int.emod_nonneg x (show y ≠ 0 by omega)
    have h2 := Int.emod_lt_of_pos x c'
    refine ⟨fun σ' H2 => σ' = [some (.int y), some (.int (x % y))] ∧ H2 = H', fun σ' H2 ⟨e1, e2⟩ => ⟨(x % y).toNat, by omega, y, x % y, e1, hy, h1, by rw [gcd_step hx c', hg], e2, rfl⟩, ?_⟩
    exact ⟨_, rfl, _, rfl, _, rfl, _, _, rfl, rfl, c', _, _, rfl, rfl, rfl⟩
  · have c' : ¬ 0 < y := of_decide_eq_false (Bool.eq_false_iff.mpr c)
    refine ⟨_, rfl, ?_⟩
    have e : x = dv a b := by
      rw [gcd_end hx c' hy, hg]
      rfl
    rw [e]
    exact q
end
section
variable {P : Program} {w : World} {K : PySem.W.Frag} {mg : Str → Option Value} {base : Heap} {C R : Addr}
theorem ok_lowest (D : Df K mg "lowest" p_lowest s_lowest) (N : NoN K mg C R) (C_div : Cal P w K mg base CX0 1 "divisor" p_divisor sp_divisor) : Cal P w K mg base (L2.CX P w) 2 "lowest" p_lowest (sp_lowest C) := D.cal fun f fd F => by
  refine F.okX sc_lowest (fun vs H Q E h => ?_) (fun cdv A outer s H vs Q E hr h => ?_)
  · obtain ⟨a, b, rfl, _⟩ := h
    rfl
  obtain ⟨u, l, rfl, hu, hl, q0, q⟩ := h
  refine ⟨_, pss_cons (ps_if (pt_cmpR op_eq (pv 1) pe_int (nomark _)) (pss_one (ps_no N rfl (takes_of rfl rfl rfl rfl) (by rfl))) pss_nil)
    <| pss_mid (ps_if (pt_cmpR op_lt (pv 1) pe_int (nomark _)) (pss_cons (ps_set (i := 0) sc_lowest.nd rfl (.inl rfl) (pe_op op_sub pe_int (pv 0))) (pss_one (ps_set (i := 1) sc_lowest.nd rfl (.inl rfl) (pe_op op_sub pe_int (pv 1))))) pss_nil)
    <| pss_cons (ps_set (i := 2) sc_lowest.nd rfl (.inl rfl) (pe_cal C_div hr (by decide) (by rfl) pass0 (pa_cons (pv 0) (pa_cons (pv 1) pa_nil))))
    (pss_one (ps_ret (pe_tup (pa_cons (pe_op op_fdivWN (pv 0) (pv 2)) (pa_cons (pe_op op_fdivWN (pv 1) (pv 2)) pa_nil))))), ?_⟩
  refine ⟨_, rfl, rfl, _, rfl, ite2 (fun c => ?_) (fun c => ?_)⟩
  · have c' : l = 0 := V.int.inj (of_decide_eq_true c)
    exact q0 c'
  have h0 : l ≠ 0 := fun z => c (decide_eq_true (congrArg V.int z))
  refine ⟨fun σ H' => H' = H ∧ ∃ u' l', σ = [some (.int u'), some (.int l'), none] ∧ 0 < l' ∧ Big l' ∧ low u l = (u' / dv u' l', l' / dv u' l'), ?_, ?_⟩
  · refine ⟨_, rfl, _, _, rfl, rfl, _, rfl, ite2 (fun c => ?_) (fun c => ?_)⟩
    · have c' : l < 0 := of_decide_eq_true c
      refine ⟨_, rfl, _, _, rfl, rfl, _, rfl, _, _, rfl, rfl, rfl, 0 - u, 0 - l, rfl, by omega, big_le (by omega) hl, ?_⟩
      unfold low
      rw [if_pos c', show 0 - u = -u by omega, show 0 - l = -l by omega, dv_neg_left, dv_neg_right]
    · have c' : ¬ l < 0 := of_decide_eq_false (Bool.eq_false_iff.mpr c)
      refine ⟨rfl, u, l, rfl, by omega, hl, ?_⟩
      unfold low
      rw [if_neg c']
  rintro σ H' ⟨rfl, u', l', rfl, hp, hb', e⟩
  have hg := dv_pos_right (a := u') (show l' ≠ 0 by omega)
  have hb : dv u' l' ≠ 0 ∧ (dv u' l').natAbs.log2 < 9000 := by
    refine ⟨by omega, Nat.lt_of_lt_of_le (PySem.Flt.log2_lt_of (by decide) (Nat.lt_of_le_of_lt ?_ hb'.lt)) (by decide : 4000 ≤ 9000)⟩
    obtain ⟨k, hk⟩ := dv_dvd_right u' l'
    conv => rhs; rw [hk]
    rw [Int.natAbs_mul]
    refine Nat.le_mul_of_pos_right _ ?_
    have : k ≠ 0 := fun z => by
      rw [z, Int.mul_zero] at hk
      omega
    omega
  have q2 := q h0
  rw [e] at q2
  refine ⟨_, rfl, _, rfl, u', l', rfl, _, rfl, _, rfl, _, _, rfl, rfl, hb, _, rfl, _, rfl, _, _, rfl, rfl, hb, len2, fun p np => ?_⟩
  have := q2 p np
  rw [← Int.fdiv_eq_ediv_of_nonneg u' (by omega), ← Int.fdiv_eq_ediv_of_nonneg l' (by omega)] at this
  exact this
end
section
variable {P : Program} {w : World} {K : PySem.W.Frag} {mg : Str → Option Value} {base : Heap}
theorem ok_least_square (D : Df K mg "least_square" p_least_square s_least_square) : Cal P w K mg base CX0 1 "least_square" p_least_square sp_least_square := D.cal fun f fd F => by
  refine F.ok sc_least_square (fun vs H Q E h => ?_) (fun cdv A outer s H vs Q E hr h => ?_)
  · obtain ⟨a, rfl, _⟩ := h
    rfl
  obtain ⟨n, rfl, h0, hb, q⟩ := h
  refine ⟨_, pss_cons (ps_if (pt_cmpR op_lt (pv 0) pe_int (nomark _)) (pss_one (ps_ret (pv 0))) pss_nil)
    <| pss_cons (ps_set (i := 1) sc_least_square.nd rfl (.inl rfl) (pv 0))
    <| pss_cons (ps_set (i := 2) sc_least_square.nd rfl (.inl rfl) (pe_op op_fdiv (pe_op op_add (pv 1) (pe_op op_fdivW (pv 0) (pv 1))) pe_int))
    <| pss_cons (ps_while PassesOwn.never (pt_cmpR op_lt (pv 2) (pv 1) (nomark _)) (pss_cons (ps_set (i := 1) sc_least_square.nd rfl (.inl rfl) (pv 2))
      (pss_one (ps_set (i := 2) sc_least_square.nd rfl (.inl rfl) (pe_op op_fdiv (pe_op op_add (pv 1) (pe_op op_fdivW (pv 0) (pv 1))) pe_int)))))
    <| pss_one (ps_ret (pv 1)), ?_⟩
  refine ⟨_, rfl, _, _, rfl, rfl, _, rfl, ite2 (fun c => ?_) (fun c => ?_)⟩
  · have c' : n < 2 := of_decide_eq_true c
    have e : rt n = n := by
      rcases (show n = 0 ∨ n = 1 by omega) with rfl | rfl <;> exact rt_unique (by decide) (by decide) (by decide)
    rw [e] at q
    exact ⟨_, rfl, q⟩
  have c' : ¬ n < 2 := of_decide_eq_false (Bool.eq_false_iff.mpr c)
  have hdv : ∀ f : Int, 1 ≤ f → f ≤ n → 0 < f ∧ f.natAbs.log2 < 9000 := fun f h1 h2 => ⟨by omega, Nat.lt_trans (big_le (x := f) (by omega) hb).log (by decide)⟩
  have st : ∀ f : Int, 1 ≤ f → (f + n / f) / 2 ≤ (f + n / f) / 2 := fun f _ => Int.le_refl _
  refine ⟨_, rfl, _, rfl, _, rfl, _, rfl, _, _, rfl, rfl, hdv n (by omega) (by omega), _, _, rfl, rfl, _, _, rfl, rfl, ⟨by decide, by decide⟩, ?_⟩
  refine ⟨fun m σ H' => ∃ f : Int, σ = [some (.int n), some (.int f), some (.int ((f + n / f) / 2))] ∧ 1 ≤ f ∧ f ≤ n ∧ n < (f + 1) * (f + 1) ∧ H' = H ∧ m = f.toNat, ⟨_, n, rfl, by omega, by omega, ?_, rfl, rfl⟩, ?_⟩
  · have : (n + 1) * (n + 1) = n * n + 2 * n + 1 := by grind
    have := sqn n
    omega
  rintro m σ H' ⟨f, rfl, h1, h2, h3, rfl, rfl⟩
  obtain ⟨k1, k2, k3⟩ := newton (n := n) (by omega) h1
  refine ⟨_, rfl, _, rfl, _, _, rfl, rfl, _, rfl, ite2 (fun c => ?_) (fun c => ?_)⟩
  · have c2 : (f + n / f) / 2 < f := of_decide_eq_true c
    refine ⟨fun σ' H2 => σ' = [some (.int n), some (.int ((f + n / f) / 2)), some (.int (((f + n / f) / 2 + n / ((f + n / f) / 2)) / 2))] ∧ H2 = H', fun σ' H2 ⟨e1, e2⟩ => ⟨_, ?_, _, e1, k1, ?_, k2, e2, rfl⟩, ?_⟩
    · omega
    · omega
    · exact ⟨_, rfl, _, rfl, _, rfl, _, rfl, _, _, rfl, rfl, hdv _ k1 (by omega), _, _, rfl, rfl, _, _, rfl, rfl, ⟨by decide, by decide⟩, rfl, rfl⟩
  · have c2 : ¬ (f + n / f) / 2 < f := of_decide_eq_false (Bool.eq_false_iff.mpr c)
    have e : rt n = f := rt_unique (by omega) (k3 (by omega)) h3
    rw [e] at q
    exact ⟨_, rfl, q⟩
end
section
variable {P : Program} {w : World} {K : PySem.W.Frag} {mg : Str → Option Value} {base : Heap}
theorem ok_heart (D : Df K mg "heart" p_heart s_heart) : Cal P w K mg base CX0 1 "heart" p_heart sp_heart := D.cal fun f fd F => by
  refine F.ok sc_heart (fun vs H Q E h => ?_) (fun cdv A outer s H vs Q E hr h => ?_)
  · obtain ⟨a, b, c, rfl, _⟩ := h
    rfl
  obtain ⟨a, b, c, rfl, ha, hb, hc, q⟩ := h
  refine ⟨_, pss_one (ps_ret (pe_op op_sub (pe_op op_mulW (pv 1) (pv 1)) (pe_op op_mulW (pe_op op_mulW pe_int (pv 0)) (pv 2)))), ?_⟩
  exact ⟨_, rfl, _, rfl, _, _, rfl, rfl, mulW_of hb.lt hb.lt, _, rfl, _, _, rfl, rfl, mulW_of (m := 3) (by decide) ha.lt, _, rfl, _, _, rfl, rfl, mulW_of (m := 1003) (nat_mul_lt (m := 3) (by decide) ha.lt) hc.lt, _, _, rfl, rfl, q⟩
end
section
variable {P : Program} {w : World} {K : PySem.W.Frag} {mg : Str → Option Value} {base : Heap}
theorem ok_is_square (D : Df K mg "is_square" p_is_square s_is_square) (Cs : Cal P w K mg base CX0 1 "least_square" p_least_square sp_least_square) : Cal P w K mg base CX0 2 "is_square" p_is_square sp_is_square := D.cal fun f fd F => by
  refine F.ok sc_is_square (fun vs H Q E h => ?_) (fun cdv A outer s H vs Q E hr h => ?_)
  · obtain ⟨n, rfl, _⟩ := h
    rfl
  obtain ⟨n, rfl, h0, hb, q⟩ := h
  refine ⟨_, pss_one (ps_ret (pe_cmpR op_eq (pe_op op_mulW (pe_cal Cs hr (by decide) (by rfl) pass0 (pa_cons (pv 0) pa_nil)) (pe_cal Cs hr (by decide) (by rfl) pass0 (pa_cons (pv 0) pa_nil))) (pv 0) (nomark _))), ?_⟩
  have hr1 : Big (rt n) := big_le (by have := rt_le h0; have := (rt_spec h0).1; omega) hb
  refine ⟨_, rfl, n, rfl, h0, hb, _, rfl, n, rfl, h0, hb, _, _, rfl, rfl, hr1.mul hr1, _, rfl, rfl, ?_⟩
  have e : decide (V.int (rt n * rt n) = V.int n) = isSq n := by
    unfold isSq
    exact decide_eq_decide.mpr ⟨fun z => V.int.inj z, fun z => congrArg V.int z⟩
  dsimp only
  rw [e]
  exact q
end
section
variable {P : Program} {w : World} {K : PySem.W.Frag} {mg : Str → Option Value} {base : Heap} {C R : Addr}
theorem ok_root_of (D : Df K mg "root_of" p_root_of s_root_of) (N : NoN K mg C R) (Ch : Cal P w K mg base CX0 1 "heart" p_heart sp_heart) (Cs : Cal P w K mg base CX0 2 "is_square" p_is_square sp_is_square) (Cd : Cal P w K mg base CX0 1 "divisor" p_divisor sp_divisor) : Cal P w K mg base (L2.CX P w) 3 "root_of" p_root_of (sp_root_of C) := D.cal fun f fd F => by
  refine F.okX sc_root_of (fun vs H Q E h => ?_) (fun cdv A outer s H vs Q E hr h => ?_)
  · obtain ⟨a, b, c, s, rfl, _⟩ := h
    rfl
  obtain ⟨a, b, c, sd, rfl, ha, hb, hc, q0, q⟩ := h
  refine ⟨_, pss_mid (ps_if (PW.pt (pw_or (pt_cmpR op_eq (pv 0) pe_int (nomark _)) (pw_or (pt_cmpR op_lt (pe_cal Ch hr (by decide) (by rfl) pass0 (pa_cons (pv 0) (pa_cons (pv 1) (pa_cons (pv 2) pa_nil)))) pe_int (nomark _))
      (pw_or1 (pt_val (pe_cal Cs hr (by decide) (by rfl) pass0 (pa_cons (pe_cal Ch hr (by decide) (by rfl) pass0 (pa_cons (pv 0) (pa_cons (pv 1) (pa_cons (pv 2) pa_nil)))) pa_nil)))))))
      (pss_one (ps_no N rfl (takes_of rfl rfl rfl rfl) (by rfl))) pss_nil)
    <| pss_cons (ps_set (i := 4) sc_root_of.nd rfl (.inl rfl) (pe_cal Cd hr (by decide) (by rfl) pass0 (pa_cons (pe_cal Cd hr (by decide) (by rfl) pass0 (pa_cons (pv 0) (pa_cons (pv 1) pa_nil))) (pa_cons (pv 2) pa_nil))))
    <| pss_cons (ps_if (pt_cmpR op_lt (pv 0) pe_int (nomark _)) (pss_one (ps_set (i := 4) sc_root_of.nd rfl (.inl rfl) (pe_op op_sub pe_int (pv 4)))) pss_nil)
    (pss_one (ps_ret (pe_tup (pa_cons (pe_op op_fdivWN (pv 0) (pv 4)) (pa_cons (pe_op op_fdivWN (pv 1) (pv 4)) (pa_cons (pe_op op_fdivWN (pv 2) (pv 4)) (pa_cons (pv 3) pa_nil))))))), ?_⟩
  refine ⟨fun σ H' => H' = H ∧ σ = [some (.int a), some (.int b), some (.int c), some (.int sd), none] ∧ ¬ NoRoot a b c, ?_, ?_⟩
  · refine ⟨_, rfl, rfl, _, rfl, ite2 (fun k => ?_) (fun k => ?_)⟩
    · exact iteT (q0 (.inl (V.int.inj (of_decide_eq_true k))))
    have h0 : a ≠ 0 := fun z => k (decide_eq_true (congrArg V.int z))
    refine ⟨_, rfl, _, rfl, _, rfl, a, b, c, rfl, ha, hb, hc, _, _, rfl, rfl, _, rfl, ite2 (fun k => ?_) (fun k => ?_)⟩
    · exact iteT (q0 (.inr (.inl (of_decide_eq_true k))))
    have h1 : ¬ ht a b c < 0 := of_decide_eq_false (Bool.eq_false_iff.mpr k)
    refine ⟨_, rfl, _, rfl, _, rfl, a, b, c, rfl, ha, hb, hc, ht a b c, rfl, by omega, ht_big ha hb hc, _, rfl, ?_⟩
    cases e : isSq (ht a b c) with
    | true => exact iteT (q0 (.inr (.inr e)))
    | false => exact iteF ⟨rfl, rfl, fun z => z.elim h0 fun z => z.elim h1 fun z => by rw [e] at z; cases z⟩
  rintro σ H' ⟨rfl, rfl, hno⟩
  have h0 : a ≠ 0 := fun z => hno (.inl z)
  have hg : 0 < dv (dv a b) c := dv_pos_left (by have := dv_pos_left (b := b) h0; omega)
  obtain ⟨d1, d2, d3⟩ := dv3_dvd a b c
  have hgb : (dv (dv a b) c).natAbs.log2 < 9000 := by
    refine Nat.lt_of_lt_of_le (PySem.Flt.log2_lt_of (by decide) (Nat.lt_of_le_of_lt ?_ ha.lt)) (by decide : 1000 ≤ 9000)
    obtain ⟨k, hk⟩ := d1
    conv => rhs; rw [hk]
    rw [Int.natAbs_mul]
    refine Nat.le_mul_of_pos_right _ ?_
    have : k ≠ 0 := fun z => by
      rw [z, Int.mul_zero] at hk
      exact h0 hk
    omega
  have q2 := q hno
  unfold nfA nfB nfC at q2
  refine ⟨_, rfl, _, rfl, a, b, rfl, _, rfl, _, c, rfl, ?_⟩
  generalize dv (dv a b) c = g at *
  refine ⟨_, rfl, _, _, rfl, rfl, _, rfl, ite2 (fun k => ?_) (fun k => ?_)⟩
  · have k' : a < 0 := of_decide_eq_true k
    have hb1 : (0 - g) ≠ 0 ∧ (0 - g).natAbs.log2 < 9000 := ⟨by omega, by rw [show (0 - g).natAbs = g.natAbs by omega]; exact hgb⟩
    refine ⟨_, rfl, _, _, rfl, rfl, _, rfl, _, rfl, _, _, rfl, rfl, hb1, _, rfl, _, rfl, _, _, rfl, rfl, hb1, _, rfl, _, rfl, _, _, rfl, rfl, hb1, _, rfl, len4, fun p np => ?_⟩
    have q3 := q2 p np
    rw [if_pos k', if_pos k', if_pos k', ← fdiv_neg_dvd d1 (by omega), ← fdiv_neg_dvd d2 (by omega), ← fdiv_neg_dvd d3 (by omega), ← show (0 : Int) - g = -g by omega] at q3
    exact q3
  · have k' : ¬ a < 0 := of_decide_eq_false (Bool.eq_false_iff.mpr k)
    have hb1 : g ≠ 0 ∧ g.natAbs.log2 < 9000 := ⟨by omega, hgb⟩
    refine ⟨_, rfl, _, rfl, _, _, rfl, rfl, hb1, _, rfl, _, rfl, _, _, rfl, rfl, hb1, _, rfl, _, rfl, _, _, rfl, rfl, hb1, _, rfl, len4, fun p np => ?_⟩
    have q3 := q2 p np
    rw [if_neg k', if_neg k', if_neg k', ← Int.fdiv_eq_ediv_of_nonneg a (by omega), ← Int.fdiv_eq_ediv_of_nonneg b (by omega), ← Int.fdiv_eq_ediv_of_nonneg c (by omega)] at q3
    exact q3
end
section
variable {P : Program} {w : World} {K : PySem.W.Frag} {mg : Str → Option Value} {base : Heap}
theorem ok_is_above (D : Df K mg "is_above" p_is_above s_is_above) : Cal P w K mg base CX0 1 "is_above" p_is_above sp_is_above := D.cal fun f fd F => by
  refine F.ok sc_is_above (fun vs H Q E h => ?_) (fun cdv A outer s H vs Q E hr h => ?_)
  · obtain ⟨r, a, b, c, sd, u, l, rfl, _⟩ := h
    rfl
  obtain ⟨r, a, b, c, sd, u, l, rfl, e, hs, ha, hb, hc, hu, hl, q⟩ := h
  refine ⟨_, pss_cons (ps_asg (pv 0) (pg_tup (by rfl) (pgs_cons (pg_name (i := 3) sc_is_above.nd rfl (.inl rfl)) (pgs_cons (pg_name (i := 4) sc_is_above.nd rfl (.inl rfl)) (pgs_cons (pg_name (i := 5) sc_is_above.nd rfl (.inl rfl)) (pgs_cons (pg_name (i := 6) sc_is_above.nd rfl (.inl rfl)) pgs_nil))))))
    <| pss_cons (ps_set (i := 7) sc_is_above.nd rfl (.inl rfl) (pe_op op_add (pe_op op_add (pe_op op_mulW (pe_op op_mulW (pv 3) (pv 1)) (pv 1)) (pe_op op_mulW (pe_op op_mulW (pv 4) (pv 1)) (pv 2))) (pe_op op_mulW (pe_op op_mulW (pv 5) (pv 2)) (pv 2))))
    <| pss_cons (ps_set (i := 8) sc_is_above.nd rfl (.inl rfl) (pe_cmpR op_gt (pe_op op_add (pe_op op_mulW (pe_op op_mulW pe_int (pv 3)) (pv 1)) (pe_op op_mulW (pv 4) (pv 2))) pe_int (nomark _)))
    <| pss_cons (ps_if (pt_cmpR op_eq (pv 6) pe_int (nomark _)) (pss_one (ps_ret (pe_or (pe_not (pv 8)) (pe_one (pe_cmpR op_lt (pv 7) pe_int (nomark _)))))) pss_nil)
    <| pss_one (ps_ret (pe_and (pe_not (pv 8)) (pe_one (pe_cmpR op_gt (pv 7) pe_int (nomark _))))), ?_⟩
  have w1 := nat_mul_lt ha.lt hu.lt
  have w2 := nat_mul_lt hb.lt hu.lt
  have w3 := nat_mul_lt hc.lt hl.lt
  refine ⟨_, rfl, r, _, rfl, SqT.of e, rfl, _, _, rfl, _, _, rfl, _, _, rfl, _, _, rfl, rfl, ?_⟩
  refine ⟨_, rfl, _, rfl, _, _, rfl, rfl, mulW_of ha.lt hu.lt, _, rfl, _, _, rfl, rfl, mulW_of w1 hu.lt, _, rfl, _, rfl, _, _, rfl, rfl, mulW_of hb.lt hu.lt, _, rfl, _, _, rfl, rfl, mulW_of w2 hl.lt, _, _, rfl, rfl,
    _, rfl, _, rfl, _, _, rfl, rfl, mulW_of hc.lt hl.lt, _, rfl, _, _, rfl, rfl, mulW_of w3 hl.lt, _, _, rfl, rfl, ?_⟩
  refine ⟨_, rfl, _, _, rfl, rfl, mulW_of (m := 2) (by decide) ha.lt, _, rfl, _, _, rfl, rfl, mulW_of (m := 1002) (nat_mul_lt (m := 2) (by decide) ha.lt) hu.lt, _, rfl, _, rfl, _, _, rfl, rfl, mulW_of hb.lt hl.lt, _, _, rfl, rfl, _, _, rfl, rfl, ?_⟩
  unfold ab fm at q
  dsimp only
  refine ⟨_, rfl, rfl, _, rfl, ite2 (fun k => ?_) (fun k => ?_)⟩
  · have k' : sd = 1 := V.int.inj (of_decide_eq_true k)
    rw [if_pos k'] at q
    refine ⟨_, rfl, _, rfl, ?_⟩
    cases h : decide (0 < 2 * a * u + b * l) with
    | true =>
      rw [h, Bool.not_true, Bool.false_or] at q
      exact ⟨false, rfl, iteF ⟨_, rfl, _, _, rfl, rfl, q⟩⟩
    | false =>
      rw [h, Bool.not_false, Bool.true_or] at q
      exact ⟨true, rfl, iteT q⟩
  · have k' : ¬ sd = 1 := fun z => k (decide_eq_true (congrArg V.int z))
    rw [if_neg k'] at q
    refine ⟨_, rfl, _, rfl, ?_⟩
    cases h : decide (0 < 2 * a * u + b * l) with
    | true =>
      rw [h, Bool.not_true, Bool.false_and] at q
      exact ⟨false, rfl, iteF q⟩
    | false =>
      rw [h, Bool.not_false, Bool.true_and] at q
      exact ⟨true, rfl, iteT ⟨_, rfl, _, _, rfl, rfl, q⟩⟩
end
section
variable {P : Program} {w : World} {K : PySem.W.Frag} {mg : Str → Option Value} {base : Heap}
theorem ok_part_of (D : Df K mg "part_of" p_part_of s_part_of) (B : Bl mg) (Ch : Cal P w K mg base CX0 1 "heart" p_heart sp_heart) (Cs : Cal P w K mg base CX0 1 "least_square" p_least_square sp_least_square) : Cal P w K mg base CX0 2 "part_of" p_part_of sp_part_of := D.cal fun f fd F => by
  refine F.ok sc_part_of (fun vs H Q E h => ?_) (fun cdv A outer s H vs Q E hr h => ?_)
  · obtain ⟨r, rfl, _⟩ := h
    rfl
  obtain ⟨r, rfl, h⟩ := h
  refine ⟨_, pss_cons (ps_if (pt_cmpR op_eq (pe_callB call_len_seq (by rfl) B.len PySem.boot_len (pa_cons (pv 0) pa_nil)) pe_int (nomark _))
        (pss_one (ps_ret (pe_op op_fdivW (pe_ix ix_tup (pv 0) pe_int (fun _ _ => rfl)) (pe_ix ix_tup (pv 0) pe_int (fun _ _ => rfl))))) pss_nil)
    <| pss_cons (ps_asg (pv 0) (pg_tup (by rfl) (pgs_cons (pg_name (i := 1) sc_part_of.nd rfl (.inl rfl)) (pgs_cons (pg_name (i := 2) sc_part_of.nd rfl (.inl rfl)) (pgs_cons (pg_name (i := 3) sc_part_of.nd rfl (.inl rfl)) (pgs_cons (pg_name (i := 4) sc_part_of.nd rfl (.inl rfl)) pgs_nil))))))
    <| pss_cons (ps_set (i := 5) sc_part_of.nd rfl (.inl rfl) (pe_cal Cs hr (by decide) (by rfl) pass0 (pa_cons (pe_cal Ch hr (by decide) (by rfl) pass0 (pa_cons (pv 1) (pa_cons (pv 2) (pa_cons (pv 3) pa_nil)))) pa_nil)))
    <| pss_cons (ps_set (i := 6) sc_part_of.nd rfl (.inl rfl) (pe_op op_fdivW (pe_op op_sub (pv 5) (pv 2)) (pe_op op_mulW pe_int (pv 1))))
    <| pss_cons (ps_if (pt_cmpR op_eq (pv 4) pe_int (nomark _)) (pss_one (ps_set (i := 6) sc_part_of.nd rfl (.inl rfl) (pe_op op_fdivW (pe_op op_sub (pe_op op_sub (pe_op op_sub pe_int (pv 5)) pe_int) (pv 2)) (pe_op op_mulW pe_int (pv 1))))) pss_nil)
    <| pss_one (ps_ret (pv 6)), ?_⟩
  rcases h with ⟨u, l, e, hl, hb, q⟩ | ⟨a, b, c, sd, e, ha, hh, sa, sb, sc, q⟩
  · refine ⟨_, rfl, r, _, rfl, .inr (SqT.of e), rfl, true, rfl, iteT ?_⟩
    exact ⟨_, rfl, r, _, 0, .int u, rfl, rfl, SqT.of e, atI_nat (j := 0) rfl, _, rfl, r, _, 1, .int l, rfl, rfl, SqT.of e, atI_nat (j := 1) rfl, _, _, rfl, rfl, ⟨hl, Nat.lt_trans hb.log (by decide)⟩, q⟩
  · refine ⟨_, rfl, r, _, rfl, .inr (SqT.of e), rfl, false, rfl, iteF ?_⟩
    have hd : CDivW (rt (ht a b c) - b) (2 * a) := ⟨by omega, Nat.lt_of_lt_of_le (PySem.Flt.log2_lt_of (k := 1002) (by decide) (nat_mul_lt (m := 2) (by decide) sa.lt)) (by decide)⟩
    have hm : CMulW 2 a := mulW_of (m := 2) (by decide) sa.lt
    refine ⟨_, rfl, r, _, rfl, SqT.of e, rfl, _, _, rfl, _, _, rfl, _, _, rfl, _, _, rfl, rfl, ?_⟩
    refine ⟨_, rfl, _, rfl, _, rfl, a, b, c, rfl, sa, sb, sc, _, rfl, hh, ht_big sa sb sc, ?_⟩
    refine ⟨_, rfl, _, rfl, _, _, rfl, rfl, _, rfl, _, _, rfl, rfl, hm, _, _, rfl, rfl, hd, ?_⟩
    refine ⟨_, rfl, rfl, _, rfl, ite2 (fun k => ?_) (fun k => ?_)⟩
    · have k' : sd = 0 := V.int.inj (of_decide_eq_true k)
      refine ⟨_, rfl, _, _, rfl, rfl, _, _, rfl, rfl, _, rfl, _, _, rfl, rfl, _, rfl, _, _, rfl, rfl, hm, _, _, rfl, rfl, hd, _, rfl, ?_⟩
      unfold partR at q
      rw [if_pos k'] at q
      exact q
    · have k' : ¬ sd = 0 := fun z => k (decide_eq_true (congrArg V.int z))
      unfold partR at q
      rw [if_neg k'] at q
      exact ⟨_, rfl, q⟩
end
section
variable {P : Program} {w : World} {K : PySem.W.Frag} {mg : Str → Option Value} {base : Heap}
theorem ok_moved (D : Df K mg "moved" p_moved s_moved) : Cal P w K mg base CX0 1 "moved" p_moved sp_moved := D.cal fun f fd F => by
  refine F.ok sc_moved (fun vs H Q E h => ?_) (fun cdv A outer s H vs Q E hr h => ?_)
  · obtain ⟨r, a, b, c, sd, n, rfl, _⟩ := h
    rfl
  obtain ⟨r, a, b, c, sd, n, rfl, e, ha, hb, hc, hn, q⟩ := h
  refine ⟨_, pss_cons (ps_asg (pv 0) (pg_tup (by rfl) (pgs_cons (pg_name (i := 2) sc_moved.nd rfl (.inl rfl)) (pgs_cons (pg_name (i := 3) sc_moved.nd rfl (.inl rfl)) (pgs_cons (pg_name (i := 4) sc_moved.nd rfl (.inl rfl)) (pgs_cons (pg_name (i := 5) sc_moved.nd rfl (.inl rfl)) pgs_nil))))))
    <| pss_one (ps_ret (pe_tup (pa_cons (pv 2) (pa_cons (pe_op op_add (pv 3) (pe_op op_mulW (pe_op op_mulW pe_int (pv 2)) (pv 1)))
      (pa_cons (pe_op op_add (pe_op op_add (pe_op op_mulW (pe_op op_mulW (pv 2) (pv 1)) (pv 1)) (pe_op op_mulW (pv 3) (pv 1))) (pv 4)) (pa_cons (pv 5) pa_nil)))))), ?_⟩
  refine ⟨_, rfl, r, _, rfl, SqT.of e, rfl, _, _, rfl, _, _, rfl, _, _, rfl, _, _, rfl, rfl, ?_⟩
  refine ⟨_, rfl, _, rfl, _, rfl, _, _, rfl, rfl, mulW_of (m := 2) (by decide) ha.lt, _, rfl, _, _, rfl, rfl, mulW_of (m := 302) (nat_mul_lt (m := 2) (by decide) ha.lt) hn.lt, _, _, rfl, rfl, ?_⟩
  exact ⟨_, rfl, _, rfl, _, _, rfl, rfl, mulW_of ha.lt hn.lt, _, rfl, _, _, rfl, rfl, mulW_of (m := 600) (nat_mul_lt ha.lt hn.lt) hn.lt, _, rfl, _, rfl, _, _, rfl, rfl, mulW_of hb.lt hn.lt, _, _, rfl, rfl, _, rfl, _, _, rfl, rfl, _, rfl, len4, q⟩
end
section
variable {P : Program} {w : World} {K : PySem.W.Frag} {mg : Str → Option Value} {base : Heap} {C : Addr}
theorem ok_turned (D : Df K mg "turned" p_turned s_turned) (Cm : Cal P w K mg base CX0 1 "moved" p_moved sp_moved) (Cr : Cal P w K mg base (L2.CX P w) 3 "root_of" p_root_of (sp_root_of C)) : Cal P w K mg base CX0 4 "turned" p_turned sp_turned := D.cal fun f fd F => by
  refine F.ok sc_turned (fun vs H Q E h => ?_) (fun cdv A outer s H vs Q E hr h => ?_)
  · obtain ⟨r, a, b, c, sd, n, rfl, _⟩ := h
    rfl
  obtain ⟨r, a, b, c, sd, n, rfl, e, R, ha, hb, hc, hn, q⟩ := h
  refine ⟨_, pss_cons (ps_asg (pe_cal Cm hr (by decide) (by rfl) pass0 (pa_cons (pv 0) (pa_cons (pv 1) pa_nil))) (pg_tup (by rfl) (pgs_cons (pg_name (i := 2) sc_turned.nd rfl (.inl rfl)) (pgs_cons (pg_name (i := 3) sc_turned.nd rfl (.inl rfl)) (pgs_cons (pg_name (i := 4) sc_turned.nd rfl (.inl rfl)) (pgs_cons (pg_name (i := 5) sc_turned.nd rfl (.inl rfl)) pgs_nil))))))
    <| pss_cons (ps_set (i := 6) sc_turned.nd rfl (.inl rfl) (pv 5))
    <| pss_cons (ps_if (pt_cmpR op_gt (pv 4) pe_int (nomark _)) (pss_one (ps_set (i := 6) sc_turned.nd rfl (.inl rfl) (pe_op op_sub pe_int (pv 5)))) pss_nil)
    <| pss_one (ps_ret (pe_cal Cr hr (by decide) (by rfl) passL (pa_cons (pv 4) (pa_cons (pv 3) (pa_cons (pv 2) (pa_cons (pv 6) pa_nil)))))), ?_⟩
  obtain ⟨m1, m2⟩ := mv_s3 ha hb hc hn
  obtain ⟨t0, t1, t2, t3⟩ := tn_nf n R
  refine ⟨_, rfl, _, rfl, r, a, b, c, sd, n, rfl, e, ha, hb, hc, hn, fun p np => ?_⟩
  refine ⟨p, _, rfl, SqT.of upd_same, rfl, _, _, rfl, _, _, rfl, _, _, rfl, _, _, rfl, rfl, ?_⟩
  have s1 := same_upd np (o := tI [a, b + 2 * a * n, mvC a b c n, sd])
  refine ⟨_, rfl, _, rfl, _, _, rfl, rfl, _, rfl, ite2 (fun k => ?_) (fun k => ?_)⟩
  · have k' : 0 < mvC a b c n := of_decide_eq_true k
    refine ⟨_, rfl, _, _, rfl, rfl, _, rfl, _, rfl, _, rfl, _, rfl, mvC a b c n, b + 2 * a * n, a, 1 - sd, rfl, m2, m1, ha.sm, fun z => absurd z t0, fun _ p2 np2 => ?_⟩
    rw [t1, t2, t3]
    refine q _ p2 (same_updO s1 (s1.free np2)) (s1.free np2) ?_
    unfold tnS
    rw [if_pos k']
    exact upd_same
  · have k' : ¬ 0 < mvC a b c n := of_decide_eq_false (Bool.eq_false_iff.mpr k)
    refine ⟨_, rfl, _, rfl, _, rfl, _, rfl, mvC a b c n, b + 2 * a * n, a, sd, rfl, m2, m1, ha.sm, fun z => absurd z t0, fun _ p2 np2 => ?_⟩
    rw [t1, t2, t3]
    refine q _ p2 (same_updO s1 (s1.free np2)) (s1.free np2) ?_
    unfold tnS
    rw [if_neg k']
    exact upd_same
end
section
variable {P : Program} {w : World} {K : PySem.W.Frag} {mg : Str → Option Value} {base : Heap}
theorem ok_by_fraction (D : Df K mg "by_fraction" p_by_fraction s_by_fraction) (Ca : Cal P w K mg base CX0 1 "is_above" p_is_above sp_is_above) : Cal P w K mg base CX0 2 "by_fraction" p_by_fraction sp_by_fraction := D.cal fun f fd F => by
  refine F.ok sc_by_fraction (fun vs H Q E h => ?_) (fun cdv A outer s H vs Q E hr h => ?_)
  · obtain ⟨t, f, a, b, c, sd, u, l, rfl, _⟩ := h
    rfl
  obtain ⟨t, fr, a, b, c, sd, u, l, rfl, et, ef, hs, ha, hb, hc, hu, hl, q⟩ := h
  refine ⟨_, pss_cons (ps_if (pt_val (pe_cal Ca hr (by decide) (by rfl) pass0 (pa_cons (pv 0) (pa_cons (pe_ix ix_tup (pv 1) pe_int (fun _ _ => rfl)) (pa_cons (pe_ix ix_tup (pv 1) pe_int (fun _ _ => rfl)) pa_nil))))) (pss_one (ps_ret pe_int)) pss_nil)
    <| pss_one (ps_ret (pe_un un_neg pe_int)), ?_⟩
  refine ⟨_, rfl, _, rfl, fr, _, 0, .int u, rfl, rfl, SqT.of ef, atI_nat (j := 0) rfl, _, rfl, fr, _, 1, .int l, rfl, rfl, SqT.of ef, atI_nat (j := 1) rfl, t, a, b, c, sd, u, l, rfl, et, hs, ha, hb, hc, hu, hl, _, rfl, ?_⟩
  cases h : ab a b c sd u l with
  | true =>
    rw [h, if_pos rfl] at q
    exact iteT q
  | false =>
    rw [h, if_neg (by decide)] at q
    exact iteF ⟨1, rfl, q⟩
end
section
variable {P : Program} {w : World} {K : PySem.W.Frag} {mg : Str → Option Value} {base : Heap}
theorem ok_by_rows (D : Df K mg "by_rows" p_by_rows s_by_rows) (Cp : Cal P w K mg base CX0 2 "part_of" p_part_of sp_part_of) (Ct : Cal P w K mg base CX0 4 "turned" p_turned sp_turned) : Cal P w K mg base CX0 5 "by_rows" p_by_rows sp_by_rows := D.cal fun f fd F => by
  refine F.ok sc_by_rows (fun vs H Q E h => ?_) (fun cdv A outer s H vs Q E hr h => ?_)
  · obtain ⟨x, y, r, t, rfl, _⟩ := h
    rfl
  obtain ⟨x, y, r, t, rfl, ex, ey, hr0, ht0, hne, q1, q2⟩ := h
  refine ⟨_, pss_cons (ps_set (i := 2) sc_by_rows.nd rfl (.inl rfl) pe_int)
    <| pss_cons (ps_while PassesOwn.never (pt_cmpR op_eq (pe_cal Cp hr (by decide) (by rfl) pass0 (pa_cons (pv 0) pa_nil)) (pe_cal Cp hr (by decide) (by rfl) pass0 (pa_cons (pv 1) pa_nil)) (nomark _))
        (pss_cons (ps_par (i := 0) (j := 1) (by rfl) sc_by_rows.nd rfl rfl (by decide) rfl rfl (pa_cons (pe_cal Ct hr (by decide) (by rfl) pass0 (pa_cons (pv 0) (pa_cons (pe_cal Cp hr (by decide) (by rfl) pass0 (pa_cons (pv 0) pa_nil)) pa_nil)))
            (pa_cons (pe_cal Ct hr (by decide) (by rfl) pass0 (pa_cons (pv 1) (pa_cons (pe_cal Cp hr (by decide) (by rfl) pass0 (pa_cons (pv 1) pa_nil)) pa_nil))) pa_nil)) (by rfl))
        <| pss_one (ps_set (i := 2) sc_by_rows.nd rfl (.inl rfl) (pe_op op_sub pe_int (pv 2)))))
    <| pss_cons (ps_if (pt_cmpR op_lt (pe_cal Cp hr (by decide) (by rfl) pass0 (pa_cons (pv 0) pa_nil)) (pe_cal Cp hr (by decide) (by rfl) pass0 (pa_cons (pv 1) pa_nil)) (nomark _)) (pss_one (ps_ret (pe_op op_sub pe_int (pv 2)))) pss_nil)
    <| pss_one (ps_ret (pv 2)), ?_⟩
  -- what is told at last
  obtain ⟨z0, hz0, qz⟩ : ∃ z0 : Int, ((∃ u l, 0 < l ∧ l ≤ 2 * r.a + sepN r.a r.b r.c t.a t.b t.c ∧ Btw r t u l ∧ z0 = -1) ∨ (∃ u l, 0 < l ∧ l ≤ 2 * r.a + sepN r.a r.b r.c t.a t.b t.c ∧ Btw t r u l ∧ z0 = 1)) ∧ ∀ H', Same H H' → Q (.int z0) H' := by
    obtain ⟨u, l, hl, hb, h | h⟩ := sep hr0.1 ht0.1 hne
    · exact ⟨-1, .inl ⟨u, l, hl, hb, h, rfl⟩, q1 ⟨u, l, hl, h⟩⟩
    · exact ⟨1, .inr ⟨u, l, hl, hb, h, rfl⟩, q2 ⟨u, l, hl, h⟩⟩
  have hd1 := tiny_ht hr0.1 hr0.2.1 hr0.2.2.1 hr0.2.2.2
  have hd2 := tiny_ht ht0.1 ht0.2.1 ht0.2.2.1 ht0.2.2.2
  have hsep := tiny_sep hr0.1 ht0.1 hr0.2.1 hr0.2.2.1 hr0.2.2.2 ht0.2.1 ht0.2.2.1 ht0.2.2.2
  have hp1 := hr0.1.n.pos
  have hp2 := ht0.1.n.pos
  have e15 : (2 : Int) ^ 15 = 32768 := by decide
  have e80 : (2 : Nat) ^ 80 = 1208925819614629174706176 := by decide
  have e290 : (2 : Int) ^ 290 = 1989292945639146568621528992587283360401824603189390869761855907572637988050133502132224 := by decide
  have hra := hr0.2.1
  have hrb := hr0.2.2.1
  have hrc := hr0.2.2.2
  have hta := ht0.2.1
  have htb := ht0.2.2.1
  have htc := ht0.2.2.2
  have hmul : ∀ l d : Int, 0 < l → 0 < d → l ≤ 2 ^ 81 → d < 2 ^ 15 → 64 + l * d ≤ 2 ^ 100 := fun l d h1 h2 h3 h4 => by
    have k1 : l * d ≤ 2 ^ 81 * 2 ^ 15 := Int.mul_le_mul h3 (by omega) (by omega) (by decide)
    have k2 : (2 : Int) ^ 81 * 2 ^ 15 = 79228162514264337593543950336 := by decide
    have k3 : (2 : Int) ^ 100 = 1267650600228229401496703205376 := by decide
    omega
  have e81 : (2 : Int) ^ 81 = 2417851639229258349412352 := by decide
  have e100 : (2 : Int) ^ 100 = 1267650600228229401496703205376 := by decide
  refine ⟨fun m σ H' => ∃ (x y : Addr) (a b : R4) (sgn B : Int) (u l : Int), σ = [some (.ref x), some (.ref y), some (.int sgn)] ∧ Same H H' ∧ H' x = some (tI a.l) ∧ H' y = some (tI b.l) ∧ a.Is ∧ b.Is ∧ ht a.a a.b a.c = ht r.a r.b r.c ∧ ht b.a b.b b.c = ht t.a t.b t.c ∧
      0 < l ∧ m = l.toNat ∧ (∃ B, Sz B a ∧ B + l * ht r.a r.b r.c ≤ 2 ^ 100) ∧ (∃ B, Sz B b ∧ B + l * ht t.a t.b t.c ≤ 2 ^ 100) ∧ ((Btw a b u l ∧ z0 = -sgn) ∨ (Btw b a u l ∧ z0 = sgn)), ?_, ?_⟩
  · rcases hz0 with ⟨u, l, hl, hb, h, rfl⟩ | ⟨u, l, hl, hb, h, rfl⟩
    · exact ⟨_, x, y, r, t, 1, 0, u, l, rfl, Same.refl _, ex, ey, hr0.1, ht0.1, rfl, rfl, hl, rfl, ⟨64, ⟨by omega, by omega, by omega⟩, hmul l _ hl hp1 (by omega) hd1⟩, ⟨64, ⟨by omega, by omega, by omega⟩, hmul l _ hl hp2 (by omega) hd2⟩, .inl ⟨h, rfl⟩⟩
    · exact ⟨_, x, y, r, t, 1, 0, u, l, rfl, Same.refl _, ex, ey, hr0.1, ht0.1, rfl, rfl, hl, rfl, ⟨64, ⟨by omega, by omega, by omega⟩, hmul l _ hl hp1 (by omega) hd1⟩, ⟨64, ⟨by omega, by omega, by omega⟩, hmul l _ hl hp2 (by omega) hd2⟩, .inr ⟨h, rfl⟩⟩
  rintro m σ H' ⟨x, y, a, b, sgn, _, u, l, rfl, s1, ex, ey, Ra, Rb, hda, hdb, hl, rfl, ⟨B1, hB1, hB1'⟩, ⟨B2, hB2, hB2'⟩, hor⟩
  have hl1 : ht r.a r.b r.c ≤ l * ht r.a r.b r.c := by
    have : 1 * ht r.a r.b r.c ≤ l * ht r.a r.b r.c := Int.mul_le_mul_of_nonneg_right (by omega) (by omega)
    omega
  have hl2 : ht t.a t.b t.c ≤ l * ht t.a t.b t.c := by
    have : 1 * ht t.a t.b t.c ≤ l * ht t.a t.b t.c := Int.mul_le_mul_of_nonneg_right (by omega) (by omega)
    omega
  obtain ⟨sa1, sa2, sa3, sa4⟩ := hB1.s4 Ra (by rw [hda]; omega)
  obtain ⟨sb1, sb2, sb3, sb4⟩ := hB2.s4 Rb (by rw [hdb]; omega)
  have Ra' : IsR a.a a.b a.c a.s := Ra
  have Rb' : IsR b.a b.b b.c b.s := Rb
  refine ⟨_, rfl, x, rfl, .inr ⟨a.a, a.b, a.c, a.s, ex, Ra'.ha, Int.le_of_lt Ra'.n.pos, sa1.sm, sa2.sm, sa3.sm, _, rfl, y, rfl, .inr ⟨b.a, b.b, b.c, b.s, ey, Rb'.ha, Int.le_of_lt Rb'.n.pos, sb1.sm, sb2.sm, sb3.sm, rfl, _, rfl, ite2 (fun c => ?_) (fun c => ?_)⟩⟩⟩
  · -- like parts
    have hpp : a.prt = b.prt := V.int.inj (of_decide_eq_true c)
    refine ⟨fun σ' H2 => ∃ (x' y' : Addr), σ' = [some (.ref x'), some (.ref y'), some (.int (0 - sgn))] ∧ Same H H2 ∧ H2 x' = some (tI a.nx.l) ∧ H2 y' = some (tI b.nx.l), ?_, ?_⟩
    · rintro σ' H2 ⟨x', y', rfl, s2, ex2, ey2⟩
      have step : ∀ l' : Int, 0 < l' → l' < l → ∀ d B : Int, 0 < d → B + l * d ≤ 2 ^ 100 → B + d + l' * d ≤ 2 ^ 100 := fun l' h1 h2 d B hd hB => by
        have : (l' + 1) * d ≤ l * d := Int.mul_le_mul_of_nonneg_right (by omega) (Int.le_of_lt hd)
        rw [Int.add_mul] at this
        omega
      have z1 := hB1.nx Ra
      have z2 := hB2.nx Rb
      rw [hda] at z1
      rw [hdb] at z2
      rcases hor with ⟨h, hz⟩ | ⟨h, hz⟩
      · obtain ⟨k1, k2, k3⟩ := btw_turn Ra Rb hl h hpp
        exact ⟨(u - a.prt * l).toNat, by omega, x', y', a.nx, b.nx, _, 0, l, u - a.prt * l, rfl, s2, ex2, ey2, tn_isR _ Ra, tn_isR _ Rb, (nx_ht a).trans hda, (nx_ht b).trans hdb, k1, rfl, ⟨_, z1, step _ k1 k2 _ _ hp1 hB1'⟩, ⟨_, z2, step _ k1 k2 _ _ hp2 hB2'⟩, .inr ⟨k3, by omega⟩⟩
      · obtain ⟨k1, k2, k3⟩ := btw_turn Rb Ra hl h hpp.symm
        exact ⟨(u - b.prt * l).toNat, by omega, x', y', a.nx, b.nx, _, 0, l, u - b.prt * l, rfl, s2, ex2, ey2, tn_isR _ Ra, tn_isR _ Rb, (nx_ht a).trans hda, (nx_ht b).trans hdb, k1, rfl, ⟨_, z1, step _ k1 k2 _ _ hp1 hB1'⟩, ⟨_, z2, step _ k1 k2 _ _ hp2 hB2'⟩, .inl ⟨k3, by omega⟩⟩
    · refine ⟨_, rfl, _, rfl, x, rfl, .inr ⟨a.a, a.b, a.c, a.s, ex, Ra'.ha, Int.le_of_lt Ra'.n.pos, sa1.sm, sa2.sm, sa3.sm, x, a.a, a.b, a.c, a.s, a.prt, rfl, ex, Ra', sa1, sa2, sa3, sa4, fun H2 x' s2 _ ex2 => ?_⟩⟩
      have ey2 := s2 _ _ ey
      refine ⟨_, rfl, _, rfl, y, rfl, .inr ⟨b.a, b.b, b.c, b.s, ey2, Rb'.ha, Int.le_of_lt Rb'.n.pos, sb1.sm, sb2.sm, sb3.sm, y, b.a, b.b, b.c, b.s, b.prt, rfl, ey2, Rb', sb1, sb2, sb3, sb4, fun H3 y' s3 _ ey3 => ?_⟩⟩
      exact ⟨_, _, rfl, _, rfl, _, _, rfl, rfl, x', y', rfl, (s1.trans s2).trans s3, s3 _ _ ex2, ey3⟩
  · -- unlike parts
    have hpp : ¬ a.prt = b.prt := fun z => c (decide_eq_true (congrArg V.int z))
    refine ⟨_, rfl, x, rfl, .inr ⟨a.a, a.b, a.c, a.s, ex, Ra'.ha, Int.le_of_lt Ra'.n.pos, sa1.sm, sa2.sm, sa3.sm, _, rfl, y, rfl, .inr ⟨b.a, b.b, b.c, b.s, ey, Rb'.ha, Int.le_of_lt Rb'.n.pos, sb1.sm, sb2.sm, sb3.sm, _, _, rfl, rfl, _, rfl, ite2 (fun c2 => ?_) (fun c2 => ?_)⟩⟩⟩
    · have c3 : a.prt < b.prt := of_decide_eq_true c2
      rcases hor with ⟨h, hz⟩ | ⟨h, hz⟩
      · refine ⟨_, rfl, _, _, rfl, rfl, ?_⟩
        dsimp only
        rw [show 0 - sgn = z0 by omega]
        exact qz _ s1
      · have := btw_part Rb Ra hl h
        omega
    · have c3 : ¬ a.prt < b.prt := of_decide_eq_false (Bool.eq_false_iff.mpr c2)
      rcases hor with ⟨h, hz⟩ | ⟨h, hz⟩
      · have := btw_part Ra Rb hl h
        omega
      · refine ⟨_, rfl, ?_⟩
        rw [← hz]
        exact qz _ s1
end
section
variable {P : Program} {w : World} {K : PySem.W.Frag} {mg : Str → Option Value} {base : Heap}
theorem ok_compare (D : Df K mg "compare" p_compare s_compare) (B : Bl mg) (Cr : Cal P w K mg base CX0 5 "by_rows" p_by_rows sp_by_rows) (Cf : Cal P w K mg base CX0 2 "by_fraction" p_by_fraction sp_by_fraction) : Cal P w K mg base CX0 6 "compare" p_compare sp_compare := D.cal fun f fd F => by
  refine F.ok sc_compare (fun vs H Q E h => ?_) (fun cdv A outer s H vs Q E hr h => ?_)
  · obtain ⟨x, y, m, n, rfl, _⟩ := h
    rfl
  obtain ⟨x, y, m, n, rfl, ex, ey, hm, hn, q0, q1, q2⟩ := h
  refine ⟨_, pss_cons (ps_if (pt_cmpR (op_eqT hr) (pv 0) (pv 1) (nomark _)) (pss_one (ps_ret pe_int)) pss_nil)
    <| pss_cons (ps_if (PW.pt (pw_and (pt_cmpR op_eq (pe_callB call_len_seq (by rfl) B.len PySem.boot_len (pa_cons (pv 0) pa_nil)) pe_int (nomark _)) (pw_and1 (pt_cmpR op_eq (pe_callB call_len_seq (by rfl) B.len PySem.boot_len (pa_cons (pv 1) pa_nil)) pe_int (nomark _)))))
        (pss_one (ps_ret (pe_cal Cr hr (by decide) (by rfl) pass0 (pa_cons (pv 0) (pa_cons (pv 1) pa_nil))))) pss_nil)
    <| pss_cons (ps_if (pt_cmpR op_eq (pe_callB call_len_seq (by rfl) B.len PySem.boot_len (pa_cons (pv 0) pa_nil)) pe_int (nomark _)) (pss_one (ps_ret (pe_cal Cf hr (by decide) (by rfl) pass0 (pa_cons (pv 0) (pa_cons (pv 1) pa_nil))))) pss_nil)
    <| pss_cons (ps_if (pt_cmpR op_eq (pe_callB call_len_seq (by rfl) B.len PySem.boot_len (pa_cons (pv 1) pa_nil)) pe_int (nomark _)) (pss_one (ps_ret (pe_op op_sub pe_int (pe_cal Cf hr (by decide) (by rfl) pass0 (pa_cons (pv 1) (pa_cons (pv 0) pa_nil)))))) pss_nil)
    <| pss_cons (ps_if (pt_cmpR op_lt (pe_op op_mulW (pe_ix ix_tup (pv 0) pe_int (fun _ _ => rfl)) (pe_ix ix_tup (pv 1) pe_int (fun _ _ => rfl))) (pe_op op_mulW (pe_ix ix_tup (pv 1) pe_int (fun _ _ => rfl)) (pe_ix ix_tup (pv 0) pe_int (fun _ _ => rfl))) (nomark _)) (pss_one (ps_ret (pe_un un_neg pe_int))) pss_nil)
    <| pss_one (ps_ret pe_int), ?_⟩
  refine ⟨_, rfl, _, rfl, x, y, m.l, n.l, rfl, rfl, SqT.of ex, SqT.of ey, _, rfl, ite2 (fun c => ?_) (fun c => ?_)⟩
  · exact q0 (Nu.inj (of_decide_eq_true c)) _ (Same.refl _)
  have hne : m ≠ n := fun z => c (decide_eq_true (congrArg Nu.l z))
  have hlt := (Nu.tri hm hn).elim (fun z => absurd z hne) id
  cases m with
  | fr p q =>
    obtain ⟨sp, sq⟩ := Nu.fr_sm hm
    have gp : atI ([p, q].map V.int) 0 = some (.int p) := atI_nat (j := 0) rfl
    have gq : atI ([p, q].map V.int) 1 = some (.int q) := atI_nat (j := 1) rfl
    refine ⟨_, rfl, x, _, rfl, .inr (SqT.of ex), rfl, false, rfl, iteF (iteF ?_)⟩
    refine ⟨_, rfl, x, _, rfl, .inr (SqT.of ex), rfl, false, rfl, iteF ?_⟩
    cases n with
    | fr u l =>
      obtain ⟨su, sl⟩ := Nu.fr_sm hn
      have gu : atI ([u, l].map V.int) 0 = some (.int u) := atI_nat (j := 0) rfl
      have gl : atI ([u, l].map V.int) 1 = some (.int l) := atI_nat (j := 1) rfl
      refine ⟨_, rfl, y, _, rfl, .inr (SqT.of ey), rfl, false, rfl, iteF ?_⟩
      refine ⟨_, rfl, x, _, 0, _, rfl, rfl, SqT.of ex, gp, _, rfl, y, _, 1, _, rfl, rfl, SqT.of ey, gl, _, _, rfl, rfl, mulW_of sp.lt sl.lt, _, rfl, y, _, 0, _, rfl, rfl, SqT.of ey, gu, _, rfl, x, _, 1, _, rfl, rfl, SqT.of ex, gq, _, _, rfl, rfl, mulW_of su.lt sq.lt, _, _, rfl, rfl, _, rfl, ite2 (fun c2 => ?_) (fun c2 => ?_)⟩
      · exact ⟨1, rfl, q1 (show p * l < u * q from of_decide_eq_true c2) _ (Same.refl _)⟩
      · have c3 : ¬ p * l < u * q := of_decide_eq_false (Bool.eq_false_iff.mpr c2)
        exact q2 (hlt.elim (fun z => absurd z c3) id) _ (Same.refl _)
    | ro r =>
      obtain ⟨s1, s2, s3⟩ := Nu.ro_sm hn
      refine ⟨_, rfl, y, _, rfl, .inr (SqT.of ey), rfl, true, rfl, iteT ?_⟩
      refine ⟨_, rfl, _, rfl, y, x, r.a, r.b, r.c, r.s, p, q, rfl, ey, ex, hn.1.hs, s1, s2, s3, sp, sq, _, _, rfl, rfl, ?_⟩
      dsimp only
      cases h : ab r.a r.b r.c r.s p q with
      | true => exact q1 ((ab_ov hn.1 hm.1).mp h) _ (Same.refl _)
      | false => exact q2 ((ab_be hn.1 hm.1).mp h) _ (Same.refl _)
  | ro r =>
    obtain ⟨s1, s2, s3⟩ := Nu.ro_sm hm
    refine ⟨_, rfl, x, _, rfl, .inr (SqT.of ex), rfl, true, rfl, iteT ?_⟩
    cases n with
    | fr u l =>
      obtain ⟨su, sl⟩ := Nu.fr_sm hn
      refine ⟨_, rfl, y, _, rfl, .inr (SqT.of ey), rfl, false, rfl, iteF ?_⟩
      refine ⟨_, rfl, x, _, rfl, .inr (SqT.of ex), rfl, true, rfl, iteT ?_⟩
      refine ⟨_, rfl, _, rfl, x, y, r.a, r.b, r.c, r.s, u, l, rfl, ex, ey, hm.1.hs, s1, s2, s3, su, sl, ?_⟩
      cases h : ab r.a r.b r.c r.s u l with
      | true => exact q2 ((ab_ov hm.1 hn.1).mp h) _ (Same.refl _)
      | false => exact q1 ((ab_be hm.1 hn.1).mp h) _ (Same.refl _)
    | ro t =>
      refine ⟨_, rfl, y, _, rfl, .inr (SqT.of ey), rfl, true, rfl, iteT ?_⟩
      exact ⟨_, rfl, _, rfl, x, y, r, t, rfl, ex, ey, hm, hn, fun z => hne (congrArg Nu.ro z), fun z => q1 z, fun z => q2 z⟩
end
section
variable {P : Program} {w : World} {K : PySem.W.Frag} {mg : Str → Option Value} {base : Heap} {C : Addr}
theorem ok_first_above (D : Df K mg "first_above" p_first_above s_first_above) (B : Bl mg) (Cp : Cal P w K mg base CX0 2 "part_of" p_part_of sp_part_of) (Co : Cal P w K mg base CX0 6 "compare" p_compare sp_compare) (Cl : Cal P w K mg base (L2.CX P w) 2 "lowest" p_lowest (sp_lowest C)) : Cal P w K mg base CX0 7 "first_above" p_first_above sp_first_above := D.cal fun f fd F => by
  refine F.ok sc_first_above (fun vs H Q E h => ?_) (fun cdv A outer s H vs Q E hr h => ?_)
  · obtain ⟨x, n, l, v, rfl, _⟩ := h
    rfl
  obtain ⟨x, n, l, v, rfl, ex, hn, hl, hl2, h1, h2, q⟩ := h
  have hl0 : 0 < l := by omega
  refine ⟨_, pss_cons (ps_if (pt_cmpR op_eq (pe_callB call_len_seq (by rfl) B.len PySem.boot_len (pa_cons (pv 0) pa_nil)) pe_int (nomark _))
        (pss_one (ps_ret (pe_op op_add (pe_op op_fdivW (pe_op op_mulW (pe_ix ix_tup (pv 0) pe_int (fun _ _ => rfl)) (pv 1)) (pe_ix ix_tup (pv 0) pe_int (fun _ _ => rfl))) pe_int))) pss_nil)
    <| pss_cons (ps_set (i := 2) sc_first_above.nd rfl (.inl rfl) (pe_op op_mulW (pe_cal Cp hr (by decide) (by rfl) pass0 (pa_cons (pv 0) pa_nil)) (pv 1)))
    <| pss_cons (ps_while PassesOwn.never (pt_cmpR op_gt (pe_cal Co hr (by decide) (by rfl) pass0 (pa_cons (pv 0) (pa_cons (pe_cal Cl hr (by decide) (by rfl) passL (pa_cons (pv 2) (pa_cons (pv 1) pa_nil))) pa_nil))) pe_int (nomark _))
        (pss_one (ps_set (i := 2) sc_first_above.nd rfl (.inl rfl) (pe_op op_add (pv 2) pe_int))))
    <| pss_one (ps_ret (pv 2)), ?_⟩
  have e90 : (2 : Int) ^ 90 = 1237940039285380274899124224 := by decide
  have hlb : l.natAbs < 2 ^ 91 := by
    have e91 : (2 : Nat) ^ 91 = 2475880078570760549798248448 := by decide
    omega
  cases n with
  | fr p q' =>
    obtain ⟨sp, sq⟩ := Nu.fr_sm hn.ok
    obtain ⟨hq, hq2, hp1, hp2, _⟩ := hn
    have e : v = p * l / q' + 1 := by
      obtain ⟨f1, f2⟩ := fl (x := p * l) hq
      have k1 : p * l < v * q' := h1
      have k2 : ¬ p * l < (v - 1) * q' := h2
      have x1 : p * l / q' < v := Int.lt_of_mul_lt_mul_right (show p * l / q' * q' < v * q' by omega) (Int.le_of_lt hq)
      have x2 : v - 1 < p * l / q' + 1 := Int.lt_of_mul_lt_mul_right (show (v - 1) * q' < (p * l / q' + 1) * q' by omega) (Int.le_of_lt hq)
      omega
    refine ⟨_, rfl, x, _, rfl, .inr (SqT.of ex), rfl, true, rfl, iteT ?_⟩
    refine ⟨_, rfl, x, _, 0, .int p, rfl, rfl, SqT.of ex, atI_nat (j := 0) rfl, _, rfl, _, _, rfl, rfl, mulW_of sp.lt hlb, _, rfl, x, _, 1, .int q', rfl, rfl, SqT.of ex, atI_nat (j := 1) rfl, _, _, rfl, rfl, ⟨hq, Nat.lt_trans sq.big.log (by decide)⟩, _, _, rfl, rfl, ?_⟩
    rw [e] at q
    exact q _ (Same.refl _)
  | ro r =>
    obtain ⟨s1, s2, s3⟩ := Nu.ro_sm hn.ok
    have R : IsR r.a r.b r.c r.s := hn.1
    obtain ⟨o1, o2⟩ := part_is hn.1
    have hpb : r.prt.natAbs < 2 ^ 17 := by
      have hd := tiny_ht hn.1 hn.2.1 hn.2.2.1 hn.2.2.2
      have hp := prt_abs R.ha (Int.le_of_lt R.n.pos)
      have hp0 := R.n.pos
      have hb := hn.2.2.1
      have e15 : (2 : Int) ^ 15 = 32768 := by decide
      omega
    have hvb := Nu.above_bound hn hl0 h1 h2
    refine ⟨_, rfl, x, _, rfl, .inr (SqT.of ex), rfl, false, rfl, iteF ?_⟩
    refine ⟨_, rfl, x, rfl, .inr ⟨r.a, r.b, r.c, r.s, ex, R.ha, Int.le_of_lt R.n.pos, s1, s2, s3, _, rfl, _, _, rfl, rfl, mulW_of hpb hlb, ?_⟩⟩
    have low0 : ∀ z : Int, ¬ (Nu.ro r).Be (z - 1) l → z ≤ v := fun z hz => by
      by_cases e : z ≤ v
      · exact e
      · exact absurd (Nu.Be.up hn.ok hl0 hl0 h1 (Int.mul_le_mul_of_nonneg_right (show v ≤ z - 1 by omega) (Int.le_of_lt hl0))) hz
    have start : ¬ (Nu.ro r).Be (r.prt * l - 1) l := fun z => by
      have := Nu.ov_lt_be hn.ok (by decide) hl0 (show (Nu.ro r).Ov r.prt 1 from o1) z
      omega
    have b0 : (r.prt * l).natAbs < 2 ^ 110 := nat_mono (nat_mul_lt hpb hlb) (by decide)
    have e110 : (2 : Nat) ^ 110 = 1298074214633706907132624082305024 := by decide
    refine ⟨fun m σ H' => ∃ z : Int, σ = [some (.ref x), some (.int l), some (.int z)] ∧ Same H H' ∧ ¬ (Nu.ro r).Be (z - 1) l ∧ r.prt * l ≤ z ∧ m = (v - z).toNat, ⟨_, r.prt * l, rfl, Same.refl _, start, Int.le_refl _, rfl⟩, ?_⟩
    rintro m σ H' ⟨z, rfl, s4, hz, hz2, rfl⟩
    have hzv := low0 z hz
    have hzb : z.natAbs < 2 ^ 112 := by
      have e112 : (2 : Nat) ^ 112 = 5192296858534827628530496329220096 := by decide
      have e91 : (2 : Nat) ^ 91 = 2475880078570760549798248448 := by decide
      omega
    have bz : Big z := ⟨nat_mono hzb (by decide)⟩
    have bl : Big l := ⟨nat_mono hlb (by decide)⟩
    refine ⟨_, rfl, _, rfl, _, rfl, z, l, rfl, bz, bl, fun k => by omega, fun _ p np => ?_⟩
    have s5 := same_updO (o := tI [(low z l).1, (low z l).2]) s4 (s4.free np)
    have okf : (Nu.fr (low z l).1 (low z l).2).Ok := Nu.low_ok hl0 (nat_mono hzb (by decide)) (nat_mono hlb (by decide))
    have hbl := Nu.Be.low (n := .ro r) hn.ok (u := z) hl0
    have hol := Nu.Ov.low (n := .ro r) hn.ok (u := z) hl0
    refine ⟨x, p, .ro r, .fr (low z l).1 (low z l).2, rfl, s5 _ _ ex, upd_same, hn.ok, okf, fun h => (by cases h), fun h H2 s6 => ?_, fun h H2 s6 => ?_⟩
    · refine ⟨-1, 0, rfl, rfl, false, rfl, iteF ⟨_, rfl, ?_⟩⟩
      have e : v = z := Nu.above_unique hn.ok hl0 h1 h2 (hbl.mp (Nu.lt_fr.mp h)) hz
      rw [← e]
      exact q _ (s5.trans s6)
    · have hov := hol.mp (Nu.fr_lt.mp h)
      have hne : ¬ (Nu.ro r).Be (z + 1 - 1) l := by
        rw [show z + 1 - 1 = z by omega]
        exact Nu.not_both hn.ok hov
      have hlt : z < v := by
        have := low0 (z + 1) hne
        omega
      refine ⟨1, 0, rfl, rfl, true, rfl, iteT ⟨fun σ' H3 => σ' = [some (.ref x), some (.int l), some (.int (z + 1))] ∧ Same H H3, fun σ' H3 ⟨e1, e2⟩ => ⟨(v - (z + 1)).toNat, by omega, z + 1, e1, e2, hne, by omega, rfl⟩, ?_⟩⟩
      exact ⟨_, rfl, _, _, rfl, rfl, rfl, s5.trans s6⟩
end
section
variable {P : Program} {w : World} {K : PySem.W.Frag} {mg : Str → Option Value} {base : Heap} {C : Addr}
theorem ok_distance_less (D : Df K mg "distance_less" p_distance_less s_distance_less) (Co : Cal P w K mg base CX0 6 "compare" p_compare sp_compare) (Cl : Cal P w K mg base (L2.CX P w) 2 "lowest" p_lowest (sp_lowest C)) : Cal P w K mg base CX0 7 "distance_less" p_distance_less sp_distance_less := D.cal fun f fd F => by
  refine F.ok sc_distance_less (fun vs H Q E h => ?_) (fun cdv A outer s H vs Q E hr h => ?_)
  · obtain ⟨x, f, g, n, u, l, v, m, rfl, _⟩ := h
    rfl
  obtain ⟨x, fr, g, n, u, l, v, m, rfl, ex, ef, eg, hn, hf, hg, q⟩ := h
  refine ⟨_, pss_cons (ps_set (i := 3) sc_distance_less.nd rfl (.inl rfl) (pe_cal Cl hr (by decide) (by rfl) passL (pa_cons (pe_op op_add (pe_op op_mulW (pe_ix ix_tup (pv 1) pe_int (fun _ _ => rfl)) (pe_ix ix_tup (pv 2) pe_int (fun _ _ => rfl))) (pe_op op_mulW (pe_ix ix_tup (pv 2) pe_int (fun _ _ => rfl)) (pe_ix ix_tup (pv 1) pe_int (fun _ _ => rfl))))
        (pa_cons (pe_op op_mulW (pe_op op_mulW pe_int (pe_ix ix_tup (pv 1) pe_int (fun _ _ => rfl))) (pe_ix ix_tup (pv 2) pe_int (fun _ _ => rfl))) pa_nil))))
    <| pss_mid (ps_set (i := 4) sc_distance_less.nd rfl (.inl rfl) (pe_cal Co hr (by decide) (by rfl) pass0 (pa_cons (pv 0) (pa_cons (pv 3) pa_nil))))
    <| pss_one (ps_ret (pe_and (pe_cmpR op_ne (pv 4) pe_int (nomark _)) (pe_one (pe_cmpR op_eq (pe_cmpR op_lt (pv 4) pe_int (nomark _)) (pe_cmpR op_lt (pe_cal Co hr (by decide) (by rfl) pass0 (pa_cons (pv 1) (pa_cons (pv 2) pa_nil))) pe_int (nomark _)) (nomark _))))), ?_⟩
  have h1 := hf.l0
  have h2 := hf.l1
  have h3 := hf.u1
  have h4 := hg.l0
  have h5 := hg.l1
  have h6 := hg.u1
  have e40 : (2 : Nat) ^ 40 = 1099511627776 := by decide
  have bu : u.natAbs < 2 ^ 41 := by omega
  have bv : v.natAbs < 2 ^ 41 := by omega
  have bl : l.natAbs < 2 ^ 10 := by omega
  have bm : m.natAbs < 2 ^ 10 := by omega
  have bX : (u * m + v * l).natAbs < 2 ^ 52 := nat_add_lt (nat_mul_lt bu bm) (nat_mul_lt bv bl)
  have bY : (2 * l * m).natAbs < 2 ^ 22 := nat_mul_lt (nat_mul_lt (m := 2) (by decide) bl) bm
  have hY : 0 < 2 * l * m := Int.mul_pos (by omega) (by omega)
  have gu : atI ([u, l].map V.int) 0 = some (.int u) := atI_nat (j := 0) rfl
  have gl : atI ([u, l].map V.int) 1 = some (.int l) := atI_nat (j := 1) rfl
  have gv : atI ([v, m].map V.int) 0 = some (.int v) := atI_nat (j := 0) rfl
  have gm : atI ([v, m].map V.int) 1 = some (.int m) := atI_nat (j := 1) rfl
  refine ⟨_, rfl, fr, _, 0, _, rfl, rfl, SqT.of ef, gu, _, rfl, g, _, 1, _, rfl, rfl, SqT.of eg, gm, _, _, rfl, rfl, mulW_of bu bm, _, rfl, g, _, 0, _, rfl, rfl, SqT.of eg, gv, _, rfl, fr, _, 1, _, rfl, rfl, SqT.of ef, gl, _, _, rfl, rfl, mulW_of bv bl, _, _, rfl, rfl,
    _, rfl, fr, _, 1, _, rfl, rfl, SqT.of ef, gl, _, _, rfl, rfl, mulW_of (m := 2) (by decide) bl, _, rfl, g, _, 1, _, rfl, rfl, SqT.of eg, gm, _, _, rfl, rfl, mulW_of (m := 12) (nat_mul_lt (m := 2) (by decide) bl) bm, _, _, rfl, ⟨nat_mono bX (by decide)⟩, ⟨nat_mono bY (by decide)⟩, fun z => by omega, fun _ p np => ?_⟩
  have s1 := same_upd np (o := tI [(low (u * m + v * l) (2 * l * m)).1, (low (u * m + v * l) (2 * l * m)).2])
  have okm : (Nu.fr (low (u * m + v * l) (2 * l * m)).1 (low (u * m + v * l) (2 * l * m)).2).Ok := Nu.low_ok hY (nat_mono bX (by decide)) (nat_mono bY (by decide))
  have hbm := Nu.Be.low hn.ok (u := u * m + v * l) hY
  have hom := Nu.Ov.low hn.ok (u := u * m + v * l) hY
  -- the side
  refine ⟨fun σ H' => ∃ z : Int, σ = [some (.ref x), some (.ref fr), some (.ref g), some (.ref p), some (.int z)] ∧ Same H H' ∧ ((z = 0 ∧ ¬ n.Be (u * m + v * l) (2 * l * m) ∧ ¬ n.Ov (u * m + v * l) (2 * l * m)) ∨ (z = -1 ∧ n.Be (u * m + v * l) (2 * l * m)) ∨ (z = 1 ∧ n.Ov (u * m + v * l) (2 * l * m))), ?_, ?_⟩
  · refine ⟨_, rfl, _, rfl, x, p, n, .fr _ _, rfl, s1 _ _ ex, upd_same, hn.ok, okm, fun h H' s => ?_, fun h H' s => ?_, fun h H' s => ?_⟩
    · exact ⟨0, rfl, s1.trans s, .inl ⟨rfl, fun k => Nu.lt_ne hn.ok (Nu.lt_fr.mpr (hbm.mpr k)) h, fun k => Nu.lt_ne okm (Nu.fr_lt.mpr (hom.mpr k)) h.symm⟩⟩
    · exact ⟨-1, rfl, s1.trans s, .inr (.inl ⟨rfl, hbm.mp (Nu.lt_fr.mp h)⟩)⟩
    · exact ⟨1, rfl, s1.trans s, .inr (.inr ⟨rfl, hom.mp (Nu.fr_lt.mp h)⟩)⟩
  rintro σ H' ⟨z, rfl, s2, hz⟩
  have lo := Nu.nr_lo hn.ok (u := u) (l := l) (v := v) (m := m)
  have hi := Nu.nr_hi hn.ok (u := u) (l := l) (v := v) (m := m)
  refine ⟨_, rfl, rfl, ?_⟩
  rcases hz with ⟨rfl, z1, z2⟩ | ⟨rfl, z1⟩ | ⟨rfl, z1⟩
  · refine ⟨false, rfl, iteF (q false (fun hne => ?_) _ s2)⟩
    refine ⟨fun k => (by cases k), fun k => ?_⟩
    by_cases h : u * m < v * l
    · exact absurd ((lo h).mp k) z1
    · by_cases h' : v * l < u * m
      · exact absurd ((hi h').mp k) z2
      · exact absurd (low_unique (by omega) hf.one (by omega) hg.one (show u * m = v * l by omega)) hne
  · refine ⟨true, rfl, iteT ?_⟩
    refine ⟨_, rfl, _, _, rfl, rfl, _, rfl, _, rfl, fr, g, .fr u l, .fr v m, rfl, s2 _ _ ef, s2 _ _ eg, hf.ok, hg.ok, fun h H2 s3 => ?_, fun h H2 s3 => ?_, fun h H2 s3 => ?_⟩
    · refine ⟨0, 0, rfl, rfl, rfl, q _ (fun hne => absurd ?_ hne) _ (s2.trans s3)⟩
      injection h with h1 h2
      exact ⟨h1, h2⟩
    · exact ⟨-1, 0, rfl, rfl, rfl, q _ (fun _ => ⟨fun _ => (lo h).mpr z1, fun _ => rfl⟩) _ (s2.trans s3)⟩
    · refine ⟨1, 0, rfl, rfl, rfl, q _ (fun _ => ⟨fun k => (by cases k), fun k => absurd z1 (Nu.not_both hn.ok ((hi h).mp k))⟩) _ (s2.trans s3)⟩
  · refine ⟨true, rfl, iteT ?_⟩
    refine ⟨_, rfl, _, _, rfl, rfl, _, rfl, _, rfl, fr, g, .fr u l, .fr v m, rfl, s2 _ _ ef, s2 _ _ eg, hf.ok, hg.ok, fun h H2 s3 => ?_, fun h H2 s3 => ?_, fun h H2 s3 => ?_⟩
    · refine ⟨0, 0, rfl, rfl, rfl, q _ (fun hne => absurd ?_ hne) _ (s2.trans s3)⟩
      injection h with h1 h2
      exact ⟨h1, h2⟩
    · exact ⟨-1, 0, rfl, rfl, rfl, q _ (fun _ => ⟨fun k => (by cases k), fun k => absurd ((lo h).mp k) (Nu.not_both hn.ok z1)⟩) _ (s2.trans s3)⟩
    · exact ⟨1, 0, rfl, rfl, rfl, q _ (fun _ => ⟨fun _ => (hi h).mpr z1, fun _ => rfl⟩) _ (s2.trans s3)⟩
end
section
variable {P : Program} {w : World} {K : PySem.W.Frag} {mg : Str → Option Value} {base : Heap} {C : Addr}
theorem ok_nearest (D : Df K mg "nearest" p_nearest s_nearest) (B : Bl mg) (Cp : Cal P w K mg base CX0 2 "part_of" p_part_of sp_part_of) (Ca : Cal P w K mg base CX0 7 "first_above" p_first_above sp_first_above) (Cl : Cal P w K mg base (L2.CX P w) 2 "lowest" p_lowest (sp_lowest C))
    (Cd : Cal P w K mg base CX0 7 "distance_less" p_distance_less sp_distance_less) : Cal P w K mg base CX0 8 "nearest" p_nearest sp_nearest := D.cal fun f fd F => by
  refine F.ok sc_nearest (fun vs H Q E h => ?_) (fun cdv A outer s H vs Q E hr h => ?_)
  · obtain ⟨x, n, most, rfl, _⟩ := h
    rfl
  obtain ⟨x, n, most, rfl, ex, hn, hm1, hm2, q⟩ := h
  refine ⟨_, pss_mid (ps_set (i := 2) sc_nearest.nd rfl (.inl rfl) (pe_tup (pa_cons (pe_cal Cp hr (by decide) (by rfl) pass0 (pa_cons (pv 0) pa_nil)) (pa_cons pe_int pa_nil))))
    <| pss_cons (ps_for PassesOwn.never rfl (pi_range2 (by rfl) B.range (pa_cons pe_int (pa_cons (pe_op op_add (pv 1) pe_int) pa_nil))) (pg_name (i := 3) sc_nearest.nd rfl (.inl rfl))
        (pss_cons (ps_set (i := 4) sc_nearest.nd rfl (.inl rfl) (pe_cal Ca hr (by decide) (by rfl) pass0 (pa_cons (pv 0) (pa_cons (pv 3) pa_nil))))
        <| pss_one (ps_for PassesOwn.never rfl (pi_tup (pe_tup (pa_cons (pe_op op_sub (pv 4) pe_int) (pa_cons (pv 4) pa_nil)))) (pg_name (i := 5) sc_nearest.nd rfl (.inl rfl))
            (pss_cons (ps_set (i := 6) sc_nearest.nd rfl (.inl rfl) (pe_cal Cl hr (by decide) (by rfl) passL (pa_cons (pv 5) (pa_cons (pv 3) pa_nil))))
            <| pss_one (ps_if (pt_val (pe_cal Cd hr (by decide) (by rfl) pass0 (pa_cons (pv 0) (pa_cons (pv 6) (pa_cons (pv 2) pa_nil))))) (pss_one (ps_set (i := 2) sc_nearest.nd rfl (.inl rfl) (pv 6))) pss_nil)))))
    <| pss_one (ps_ret (pv 2)), ?_⟩
  obtain ⟨pr1, pr2, pr3⟩ := Nu.prt_spec hn
  have e40 : (2 : Nat) ^ 40 = 1099511627776 := by decide
  have e90 : (2 : Int) ^ 90 = 1237940039285380274899124224 := by decide
  refine ⟨fun σ H' => ∃ p : Addr, σ = [some (.ref x), some (.int most), some (.ref p), none, none, none, none] ∧ Same H H' ∧ H p = none ∧ H' p = some (tI [n.prt, 1]), ?_, ?_⟩
  · cases n with
    | fr u' l' => exact ⟨_, rfl, x, rfl, .inl ⟨u', l', ex, hn.1, (Nu.fr_sm hn.ok).2.big, len2, fun p np => ⟨p, rfl, same_upd np, np, upd_same⟩⟩⟩
    | ro r =>
      obtain ⟨w1, w2, w3⟩ := Nu.ro_sm hn.ok
      have R : IsR r.a r.b r.c r.s := hn.1
      exact ⟨_, rfl, x, rfl, .inr ⟨r.a, r.b, r.c, r.s, ex, R.ha, Int.le_of_lt R.n.pos, w1, w2, w3, len2, fun p np => ⟨p, rfl, same_upd np, np, upd_same⟩⟩⟩
  rintro σ H1 ⟨p, rfl, s1, np, ep⟩
  refine ⟨_, rfl, _, _, rfl, rfl, 1, most + 1, rfl, ⟨by decide, by decide, by omega, by omega⟩, for_range (fun i σ H' => ∃ (p : Addr) (bu bl : Int) (y3 y4 y5 y6 : Option V), σ = [some (.ref x), some (.int most), some (.ref p), y3, y4, y5, y6] ∧ Same H H' ∧ H p = none ∧ H' p = some (tI [bu, bl]) ∧ Mf bu bl ∧ n.best i bu bl ∧ (bl ≤ (i : Int) ∨ (i = 0 ∧ bl = 1 ∧ bu = n.prt)))
    ⟨p, n.prt, 1, none, none, none, none, rfl, s1, np, ep, ⟨by decide, by decide, by omega, by unfold dv; rw [Int.gcd_one_right]; rfl⟩, fun u l h1 h2 => by omega, .inr ⟨rfl, rfl, rfl⟩⟩ (fun i σ H2 hi hP => ?_) (fun σ H2 hP => ?_)⟩
  · obtain ⟨p, bu, bl, y3, y4, y5, y6, rfl, s2, np, ep, hmf, hbest, hbi⟩ := hP
    have hil : 1 + (i : Int) ≤ most := by omega
    generalize hl : 1 + (i : Int) = l at *
    have hl1 : 1 ≤ l := by omega
    have hl0 : 0 < l := by omega
    obtain ⟨A, hA, hA2⟩ := Nu.above_ex hn hl0
    have hAb := Nu.above_bound hn hl0 hA hA2
    refine ⟨_, rfl, _, rfl, x, n, l, A, rfl, s2 _ _ ex, hn, hl1, by omega, hA, hA2, fun H3 s3 => ?_⟩
    have s4 := s2.trans s3
    have ep3 := s3 _ _ ep
    refine ⟨_, rfl, _, _, rfl, rfl, _, rfl, len2, fun t nt => ?_⟩
    have s5 := same_updO (o := HO.tup [V.int (A - 1), V.int A]) s4 (s4.free nt)
    have ep5 := same_upd nt (o := HO.tup [V.int (A - 1), V.int A]) _ _ ep3
    have hlb : Big l := big_of (by omega)
    have hkl : l = (i : Int) + 1 := by omega
    have hbk : bl ≤ (i : Int) ∨ ((i : Int) = 0 ∧ bl = 1 ∧ bu = A - 1) := by
      rcases hbi with h | ⟨h1, h2, h3⟩
      · exact .inl h
      · refine .inr ⟨by omega, h2, ?_⟩
        have e1 : l = 1 := by omega
        subst e1
        have := Nu.above_unique hn.ok (by decide) hA hA2 pr1 (by rw [show n.prt + 1 - 1 = n.prt by omega]; exact pr2)
        omega
    -- both are looked at
    refine ⟨t, rfl, ⟨_, SqT.of upd_same⟩, for_tup (xs := [V.int (A - 1), V.int A]) (fun j σ H' => ∃ (p : Addr) (cu cl : Int) (y5 y6 : Option V), σ = [some (.ref x), some (.int most), some (.ref p), some (.int l), some (.int A), y5, y6] ∧ Same (upd H3 t (HO.tup [V.int (A - 1), V.int A])) H' ∧ H p = none ∧ H' p = some (tI [cu, cl]) ∧ Mf cu cl ∧ cl ≤ l ∧
        ((j = 0 ∧ cu = bu ∧ cl = bl) ∨ (j = 1 ∧ Step n (low (A - 1) l).1 (low (A - 1) l).2 bu bl cu cl) ∨ (j = 2 ∧ ∃ r1u r1l, Step n (low (A - 1) l).1 (low (A - 1) l).2 bu bl r1u r1l ∧ Step n (low A l).1 (low A l).2 r1u r1l cu cl)))
      ⟨p, bu, bl, y5, y6, rfl, Same.refl _, np, ep5, hmf, by rcases hbk with h | h <;> omega, .inl ⟨rfl, rfl, rfl⟩⟩ (fun j σ H' _ h => by obtain ⟨_, _, _, _, _, _, s, _⟩ := h; exact SqT.of (s _ _ upd_same)) (fun j z σ H' hz h => ?_) (fun σ H' h => ?_)⟩
    · obtain ⟨p, cu, cl, y5, y6, rfl, s6, np6, ep6, hmc, hcl, hor⟩ := h
      have hv : ∃ v : Int, v.natAbs ≤ 2 ^ 40 ∧ z = .int v ∧ ∀ ru rl : Int, Step n (low v l).1 (low v l).2 cu cl ru rl → (j + 1 = 0 ∧ ru = bu ∧ rl = bl) ∨ (j + 1 = 1 ∧ Step n (low (A - 1) l).1 (low (A - 1) l).2 bu bl ru rl) ∨ (j + 1 = 2 ∧ ∃ r1u r1l, Step n (low (A - 1) l).1 (low (A - 1) l).2 bu bl r1u r1l ∧ Step n (low A l).1 (low A l).2 r1u r1l ru rl) := by
        rcases hor with ⟨rfl, rfl, rfl⟩ | ⟨rfl, hs⟩ | ⟨rfl, _⟩
        · exact ⟨A - 1, by omega, (Option.some.inj hz).symm, fun ru rl h => .inr (.inl ⟨rfl, h⟩)⟩
        · exact ⟨A, by omega, (Option.some.inj hz).symm, fun ru rl h => .inr (.inr ⟨rfl, cu, cl, hs, h⟩)⟩
        · cases hz
      obtain ⟨v, hvb, rfl, hnext⟩ := hv
      have sx := s5.trans s6
      refine ⟨_, rfl, _, rfl, v, l, rfl, big_of (by omega), hlb, fun z => by omega, fun _ c nc => ?_⟩
      have s7 := s6.trans (same_upd nc (o := tI [(low v l).1, (low v l).2]))
      have s8 := same_updO (o := tI [(low v l).1, (low v l).2]) sx (sx.free nc)
      have hml := Mf.of_low (A := v) hl1 (by omega) hvb
      have hll := low_le (u := v) hl0
      have ep7 := same_upd nc (o := tI [(low v l).1, (low v l).2]) _ _ ep6
      refine ⟨_, rfl, _, rfl, _, rfl, x, c, p, n, (low v l).1, (low v l).2, cu, cl, rfl, s8 _ _ ex, upd_same, ep7, hn, hml, hmc, fun zz hzz H9 s9 => ⟨zz, rfl, ?_⟩⟩
      have hst := step_of hzz
      cases zz with
      | true => exact iteT ⟨_, rfl, c, _, _, _, _, rfl, s7.trans s9, sx.free nc, s9 _ _ upd_same, hml, hll, hnext _ _ (hst.1 rfl)⟩
      | false => exact iteF ⟨p, cu, cl, _, _, rfl, s7.trans s9, np6, s9 _ _ ep7, hmc, hcl, hnext _ _ (hst.2 rfl)⟩
    · obtain ⟨p, cu, cl, y5, y6, rfl, s6, np6, ep6, hmc, hcl, hor⟩ := h
      rcases hor with ⟨h, _⟩ | ⟨h, _⟩ | ⟨_, r1u, r1l, hs1, hs2⟩
      · cases h
      · cases h
      · have hbest2 := (best_next hn.ok (by omega) hkl hA hA2 hmf.l0 hbk hbest hs1 hs2).1
        rw [hkl] at hbest2
        exact ⟨p, cu, cl, _, _, _, _, rfl, s5.trans s6, np6, ep6, hmc, by rw [show ((i + 1 : Nat) : Int) = (i : Int) + 1 by omega]; exact hbest2, .inl (by omega)⟩
  · obtain ⟨p, bu, bl, y3, y4, y5, y6, rfl, s2, np, ep, hmf, hbest, hbi⟩ := hP
    have e : (((most + 1 - 1).toNat : Nat) : Int) = most := by omega
    rw [e] at hbest
    have hbl : bl ≤ most := by
      rcases hbi with h | h <;> omega
    exact ⟨_, rfl, q bu bl _ p hmf hbl hbest s2 np ep⟩
end
section
variable {P : Program} {w : World} {K : PySem.W.Frag} {mg : Str → Option Value} {base : Heap}
theorem ok__law_cell (D : Df K mg "_law_cell" p__law_cell s__law_cell) (B : Bl mg) : Cal P w K mg base CX0 1 "_law_cell" p__law_cell (sp_cell K) := D.cal fun f fd F => by
  refine F.ok sc__law_cell (fun vs H Q E h => ?_) (fun cdv A outer s H vs Q E hr h => ?_)
  · obtain ⟨a, ns, k, rfl, _⟩ := h
    rfl
  obtain ⟨a, ns, k, rfl, hS, hk, q⟩ := h
  refine ⟨_, pss_cons (ps_if (pt_cmpR op_lt (pv 1) (pe_callB call_len_seq (by rfl) B.len PySem.boot_len (pa_cons (pv 0) pa_nil)) (nomark _)) (pss_one (ps_ret (pe_ix ix_list (pv 0) (pv 1) (fun _ _ => rfl)))) pss_nil)
    (pss_one (ps_ret pe_int)), ?_⟩
  refine ⟨_, rfl, _, rfl, a, _, rfl, .inl hS, _, _, rfl, rfl, _, rfl, ite2 (fun c => ?_) (fun c => ?_)⟩
  · have c' : (k : Int) < (((ns.map V.int).length : Nat) : Int) := of_decide_eq_true c
    rw [List.length_map] at c'
    have hl : k < ns.length := by omega
    refine ⟨_, rfl, _, rfl, a, _, _, _, rfl, rfl, hS, atI_nat (j := k) (v := .int (cellOf ns k)) ?_, q⟩
    rw [List.getElem?_map, List.getElem?_eq_getElem hl]
    show some (V.int ns[k]) = some (V.int (ns.getD k 0))
    rw [List.getD_eq_getElem?_getD, List.getElem?_eq_getElem hl]
    rfl
  · have c' : ¬ (k : Int) < (((ns.map V.int).length : Nat) : Int) := of_decide_eq_false (Bool.eq_false_iff.mpr c)
    rw [List.length_map] at c'
    have e : cellOf ns k = 0 := by
      unfold cellOf
      rw [List.getD_eq_getElem?_getD, List.getElem?_eq_none (by omega)]
      rfl
    rw [e] at q
    exact q
end
section
variable {P : Program} {w : World} {K : PySem.W.Frag} {mg : Str → Option Value} {base : Heap}
theorem ok__law_mix (D : Df K mg "_law_mix" p__law_mix s__law_mix) : Cal P w K mg base CX0 1 "_law_mix" p__law_mix sp_mix := D.cal fun f fd F => by
  refine F.ok sc__law_mix (fun vs H Q E h => ?_) (fun cdv A outer s H vs Q E hr h => ?_)
  · obtain ⟨c, p, m, rfl, _⟩ := h
    rfl
  obtain ⟨c, p, m, rfl, hp, hm, q⟩ := h
  refine ⟨_, pss_one (ps_ret (pe_op op_mod (pe_op op_mod (pe_op op_mul (pv 0) pe_int) (pv 1)) (pv 2))), ?_⟩
  exact ⟨_, rfl, _, _, rfl, rfl, .inr (by decide), _, rfl, _, _, rfl, rfl, hp, _, rfl, _, _, rfl, rfl, hm, q⟩
end
section
variable {P : Program} {w : World} {K : PySem.W.Frag} {mg : Str → Option Value} {base : Heap}
theorem ok__law_whole (D : Df K mg "_law_whole" p__law_whole s__law_whole) (B : Bl mg) : Cal P w K mg base CX0 1 "_law_whole" p__law_whole sp_whole := D.cal fun f fd F => by
  refine F.ok sc__law_whole (fun vs H Q E h => ?_) (fun cdv A outer s H vs Q E hr h => ?_)
  · obtain ⟨z, rfl, _⟩ := h
    rfl
  obtain ⟨z, rfl, q⟩ := h
  refine ⟨_, pss_one (ps_ret (pe_and (pe_callB call_isi (by rfl) B.isinstance PyProof.Rows.boot_isinstance (pa_cons (pv 0) (pa_cons (pe_bltn (v := .ty "int") (by rfl) B.int (by decide +kernel) rfl) pa_nil)))
    (pe_one (pe_not (pe_callB call_isi (by rfl) B.isinstance PyProof.Rows.boot_isinstance (pa_cons (pv 0) (pa_cons (pe_bltn (v := .ty "bool") (by rfl) B.bool (by decide +kernel) rfl) pa_nil))))))), ?_⟩
  refine ⟨_, rfl, .int z, .ty "int", _, _, true, rfl, .ty "int", .base (.int z), isT_self, true, rfl, iteT ?_⟩
  exact ⟨_, rfl, .int z, .ty "bool", _, _, false, rfl, .ty "bool", .base (.int z), kit_ty (by decide +kernel), false, rfl, q⟩
end
section
variable {P : Program} {w : World} {K : PySem.W.Frag} {mg : Str → Option Value} {base : Heap}
theorem ok__law_divisor (D : Df K mg "_law_divisor" p__law_divisor s__law_divisor) (B : Bl mg) : Cal P w K mg base CX0 1 "_law_divisor" p__law_divisor sp_divisor := D.cal fun f fd F => by
  refine F.ok sc__law_divisor (fun vs H Q E h => ?_) (fun cdv A outer s H vs Q E hr h => ?_)
  · obtain ⟨a, b, rfl, _⟩ := h
    rfl
  obtain ⟨a, b, rfl, q⟩ := h
  refine ⟨_, pss_cons (ps_set (i := 0) sc__law_divisor.nd rfl (.inl rfl) (pe_callB call_abs (by rfl) B.abs (by decide +kernel) (pa_cons (pv 0) pa_nil)))
    (pss_cons (ps_set (i := 1) sc__law_divisor.nd rfl (.inl rfl) (pe_callB call_abs (by rfl) B.abs (by decide +kernel) (pa_cons (pv 1) pa_nil)))
    (pss_cons (ps_while PassesOwn.never (pt_cmpR op_gt (pv 1) pe_int (nomark _)) (pss_one (ps_par (i := 0) (j := 1) (by rfl) sc__law_divisor.nd rfl rfl (by decide) rfl rfl (pa_cons (pv 1) (pa_cons (pe_op op_mod (pv 0) (pv 1)) pa_nil)) (by rfl))))
    (pss_one (ps_ret (pv 0))))), ?_⟩
  refine ⟨_, rfl, a, rfl, _, rfl, b, rfl, ?_⟩
  refine ⟨fun m σ H' => ∃ x y : Int, σ = [some (.int x), some (.int y)] ∧ 0 ≤ x ∧ 0 ≤ y ∧ Int.gcd x y = Int.gcd a b ∧ H' = H ∧ m = y.toNat, ⟨_, _, _, rfl, by split <;> omega, by split <;> omega, gcd_abs a b, rfl, rfl⟩, ?_⟩
  rintro m σ H' ⟨x, y, rfl, hx, hy, hg, rfl, rfl⟩
  refine ⟨_, rfl, _, _, rfl, rfl, _, rfl, ite2 (fun c => ?_) (fun c => ?_)⟩
  · have c' : 0 < y := of_decide_eq_true c
    have h1 := Int.emod_nonneg x (show y ≠ 0 by omega)
    have h2 := Int.emod_lt_of_pos x c'
    refine ⟨fun σ' H2 => σ' = [some (.int y), some (.int (x % y))] ∧ H2 = H', fun σ' H2 ⟨e1, e2⟩ => ⟨(x % y).toNat, by omega, y, x % y, e1, hy, h1, by rw [gcd_step hx c', hg], e2, rfl⟩, ?_⟩
    exact ⟨_, rfl, _, rfl, _, rfl, _, _, rfl, rfl, c', _, _, rfl, rfl, rfl⟩
  · have c' : ¬ 0 < y := of_decide_eq_false (Bool.eq_false_iff.mpr c)
    refine ⟨_, rfl, ?_⟩
    have e : x = dv a b := by
      rw [gcd_end hx c' hy, hg]
      rfl
    rw [e]
    exact q
end
section
variable {P : Program} {w : World} {K : PySem.W.Frag} {mg : Str → Option Value} {base : Heap}
theorem ok__law_lowest (D : Df K mg "_law_lowest" p__law_lowest s__law_lowest) (C_div : Cal P w K mg base CX0 1 "_law_divisor" p__law_divisor sp_divisor) : Cal P w K mg base CX0 2 "_law_lowest" p__law_lowest sp_lowH := D.cal fun f fd F => by
  refine F.ok sc__law_lowest (fun vs H Q E h => ?_) (fun cdv A outer s H vs Q E hr h => ?_)
  · obtain ⟨a, b, rfl, _⟩ := h
    rfl
  obtain ⟨u, l, rfl, h0, hu, hl, q⟩ := h
  refine ⟨_, pss_cons (ps_set (i := 2) sc__law_lowest.nd rfl (.inl rfl) (pe_cal C_div hr (by decide) (by rfl) pass0 (pa_cons (pv 0) (pa_cons (pv 1) pa_nil))))
    (pss_cons (ps_if (pt_cmpR op_lt (pv 1) pe_int (nomark _)) (pss_one (ps_set (i := 2) sc__law_lowest.nd rfl (.inl rfl) (pe_op op_sub pe_int (pv 2)))) pss_nil)
    (pss_one (ps_ret (pe_tup (pa_cons (pe_op op_fdivWN (pv 0) (pv 2)) (pa_cons (pe_op op_fdivWN (pv 1) (pv 2)) pa_nil)))))), ?_⟩
  have hg := dv_pos_right (a := u) h0
  have hb : dv u l ≠ 0 ∧ (dv u l).natAbs.log2 < 9000 := by
    refine ⟨by omega, Nat.lt_of_lt_of_le (PySem.Flt.log2_lt_of (by decide) (Nat.lt_of_le_of_lt ?_ hl.lt)) (by decide : 4000 ≤ 9000)⟩
    obtain ⟨k, hk⟩ := dv_dvd_right u l
    conv => rhs; rw [hk]
    rw [Int.natAbs_mul]
    refine Nat.le_mul_of_pos_right _ ?_
    have : k ≠ 0 := fun z => by
      rw [z, Int.mul_zero] at hk
      exact h0 hk
    omega
  refine ⟨_, rfl, _, rfl, u, l, rfl, _, rfl, _, _, rfl, rfl, _, rfl, ite2 (fun c => ?_) (fun c => ?_)⟩
  · have c' : l < 0 := of_decide_eq_true c
    have e0 : (0 : Int) - dv u l = -dv u l := by omega
    have hb' : (0 - dv u l) ≠ 0 ∧ (0 - dv u l).natAbs.log2 < 9000 := by
      rw [e0, Int.natAbs_neg]
      exact ⟨by omega, hb.2⟩
    refine ⟨_, rfl, _, _, rfl, rfl, _, rfl, _, rfl, _, _, rfl, rfl, hb', _, rfl, _, rfl, _, _, rfl, rfl, hb', len2, fun p np => ?_⟩
    have := q p np
    unfold low at this
    rw [if_pos c', neg_ediv_dvd (dv_dvd_left u l), neg_ediv_dvd (dv_dvd_right u l), ← fdiv_neg_dvd (dv_dvd_left u l) hb.1, ← fdiv_neg_dvd (dv_dvd_right u l) hb.1, ← e0] at this
    exact this
  · have c' : ¬ l < 0 := of_decide_eq_false (Bool.eq_false_iff.mpr c)
    refine ⟨_, rfl, _, rfl, _, _, rfl, rfl, hb, _, rfl, _, rfl, _, _, rfl, rfl, hb, len2, fun p np => ?_⟩
    have := q p np
    unfold low at this
    rw [if_neg c', ← Int.fdiv_eq_ediv_of_nonneg u (by omega), ← Int.fdiv_eq_ediv_of_nonneg l (by omega)] at this
    exact this
end
theorem mix_range {c p m : Int} (hm : 0 < m) : 0 ≤ mix c p m ∧ mix c p m < m := ⟨Int.emod_nonneg _ (by omega), Int.emod_lt_of_pos _ hm⟩
section
variable {P : Program} {w : World} {K : PySem.W.Frag} {mg : Str → Option Value} {base : Heap}
theorem ok__law_fraction (D : Df K mg "_law_fraction" p__law_fraction s__law_fraction) (C_mix : Cal P w K mg base CX0 1 "_law_mix" p__law_mix sp_mix) (C_low : Cal P w K mg base CX0 2 "_law_lowest" p__law_lowest sp_lowH) : Cal P w K mg base CX0 3 "_law_fraction" p__law_fraction sp_fraction := D.cal fun f fd F => by
  refine F.ok sc__law_fraction (fun vs H Q E h => ?_) (fun cdv A outer s H vs Q E hr h => ?_)
  · obtain ⟨c, o, wd, rfl, _⟩ := h
    rfl
  obtain ⟨c, o, wd, rfl, h0, h1, q⟩ := h
  refine ⟨_, pss_cons (ps_set (i := 3) sc__law_fraction.nd rfl (.inl rfl) (pe_op op_sub (pe_cal C_mix hr (by decide) (by rfl) pass0 (pa_cons (pv 0) (pa_cons pe_int (pa_cons (pe_op op_add (pe_op op_mul pe_int (pv 2)) pe_int) pa_nil)))) (pv 2)))
    (pss_one (ps_ret (pe_cal C_low hr (by decide) (by rfl) pass0 (pa_cons (pv 3) (pa_cons (pe_op op_add pe_int (pe_cal C_mix hr (by decide) (by rfl) pass0 (pa_cons (pv 1) (pa_cons pe_int (pa_cons (pv 2) pa_nil))))) pa_nil))))), ?_⟩
  refine ⟨_, rfl, _, rfl, _, _, rfl, rfl, .inl (by decide), _, _, rfl, rfl, c, 1000003, 2 * wd + 1, rfl, by decide, by omega, _, rfl, _, _, rfl, rfl, ?_⟩
  have r1 := mix_range (c := c) (p := 1000003) (m := 2 * wd + 1) (by omega)
  have r2 := mix_range (c := o) (p := 999983) (m := wd) h0
  refine ⟨_, rfl, _, rfl, _, rfl, o, 999983, wd, rfl, by decide, h0, _, _, rfl, rfl, _, _, rfl, by omega, big_of ?_, big_of ?_, q⟩
  · have : (2 : Nat) ^ 60 = 1152921504606846976 := by decide
    omega
  · have : (2 : Nat) ^ 60 = 1152921504606846976 := by decide
    omega
end
section
variable {P : Program} {w : World} {K : PySem.W.Frag} {mg : Str → Option Value} {base : Heap}
theorem ok__law_square (D : Df K mg "_law_square" p__law_square s__law_square) : Cal P w K mg base CX0 1 "_law_square" p__law_square sp_least_square := D.cal fun f fd F => by
  refine F.ok sc__law_square (fun vs H Q E h => ?_) (fun cdv A outer s H vs Q E hr h => ?_)
  · obtain ⟨n, rfl, _⟩ := h
    rfl
  obtain ⟨n, rfl, h0, hb, q⟩ := h
  refine ⟨_, pss_cons (ps_set (i := 1) sc__law_square.nd rfl (.inl rfl) pe_int)
    <| pss_cons (ps_set (i := 2) sc__law_square.nd rfl (.inl rfl) (pe_op op_add (pv 0) pe_int))
    <| pss_cons (ps_while PassesOwn.never (pt_cmpR op_gt (pe_op op_sub (pv 2) (pv 1)) pe_int (nomark _)) (pss_cons (ps_set (i := 3) sc__law_square.nd rfl (.inl rfl) (pe_op op_fdiv (pe_op op_add (pv 1) (pv 2)) pe_int))
      (pss_one (ps_if (pt_cmpR op_le (pe_op op_mulW (pv 3) (pv 3)) (pv 0) (nomark _)) (pss_one (ps_set (i := 1) sc__law_square.nd rfl (.inl rfl) (pv 3))) (pss_one (ps_set (i := 2) sc__law_square.nd rfl (.inl rfl) (pv 3)))))))
    <| pss_one (ps_ret (pv 1)), ?_⟩
  refine ⟨_, rfl, _, _, rfl, rfl, ?_⟩
  refine ⟨fun m σ H' => ∃ (lo hi : Int) (y : Option V), σ = [some (.int n), some (.int lo), some (.int hi), y] ∧ 0 ≤ lo ∧ lo < hi ∧ hi ≤ n + 1 ∧ lo * lo ≤ n ∧ n < hi * hi ∧ H' = H ∧ m = (hi - lo).toNat, ⟨_, 0, n + 1, none, rfl, by omega, by omega, by omega, by omega, ?_, rfl, rfl⟩, ?_⟩
  · have : (n + 1) * (n + 1) = n * n + 2 * n + 1 := by grind
    have := sqn n
    omega
  rintro m σ H' ⟨lo, hi, y, rfl, h1, h2, h3, h4, h5, rfl, rfl⟩
  refine ⟨_, rfl, _, rfl, _, _, rfl, rfl, _, _, rfl, rfl, _, rfl, ite2 (fun c => ?_) (fun c => ?_)⟩
  · have c' : 1 < hi - lo := of_decide_eq_true c
    refine ⟨fun σ' H2 => (∃ (lo' hi' : Int) (y : Option V), σ' = [some (.int n), some (.int lo'), some (.int hi'), y] ∧ 0 ≤ lo' ∧ lo' < hi' ∧ hi' ≤ n + 1 ∧ lo' * lo' ≤ n ∧ n < hi' * hi' ∧ hi' - lo' < hi - lo) ∧ H2 = H', fun σ' H2 ⟨⟨lo', hi', y', e1, k1, k2, k3, k4, k5, k6⟩, e2⟩ => ⟨_, ?_, lo', hi', y', e1, k1, k2, k3, k4, k5, e2, rfl⟩, ?_⟩
    · omega
    have hh : Big ((lo + hi) / 2) := ⟨Nat.lt_of_le_of_lt (show ((lo + hi) / 2).natAbs ≤ n.natAbs by omega) hb.lt⟩
    refine ⟨_, rfl, _, rfl, _, _, rfl, rfl, _, _, rfl, rfl, ⟨by decide, by decide⟩, ?_⟩
    dsimp only
    have g1 : lo < (lo + hi) / 2 := by omega
    have g2 : (lo + hi) / 2 < hi := by omega
    generalize (lo + hi) / 2 = hf at *
    refine ⟨_, rfl, _, rfl, _, _, rfl, rfl, hh.mul hh, _, rfl, _, _, rfl, rfl, _, rfl, ite2 (fun c2 => ?_) (fun c2 => ?_)⟩
    · have c3 : hf * hf ≤ n := of_decide_eq_true c2
      exact ⟨_, rfl, ⟨hf, hi, _, rfl, by omega, g2, h3, c3, h5, by omega⟩, rfl⟩
    · have c3 : ¬ hf * hf ≤ n := of_decide_eq_false (Bool.eq_false_iff.mpr c2)
      exact ⟨_, rfl, ⟨lo, hf, _, rfl, h1, g1, by omega, h4, by omega, by omega⟩, rfl⟩
  · have c' : ¬ 1 < hi - lo := of_decide_eq_false (Bool.eq_false_iff.mpr c)
    have e : rt n = lo := rt_unique h1 h4 (by rw [show lo + 1 = hi by omega]; exact h5)
    rw [e] at q
    exact ⟨_, rfl, q⟩
end
section
variable {P : Program} {w : World} {K : PySem.W.Frag} {mg : Str → Option Value} {base : Heap}
theorem ok__law_root (D : Df K mg "_law_root" p__law_root s__law_root) (B : Bl mg) (Cm : Cal P w K mg base CX0 1 "_law_mix" p__law_mix sp_mix) (Cq : Cal P w K mg base CX0 1 "_law_square" p__law_square sp_least_square) (Cd : Cal P w K mg base CX0 1 "_law_divisor" p__law_divisor sp_divisor) : Cal P w K mg base CX0 2 "_law_root" p__law_root sp_root := D.cal fun f fd F => by
  refine F.ok sc__law_root (fun vs H Q E h => ?_) (fun cdv A outer s H vs Q E hr h => ?_)
  · obtain ⟨c, o, w, rfl, _⟩ := h
    rfl
  obtain ⟨c, o, wd, rfl, hw0, hw1, q⟩ := h
  refine ⟨_, pss_cons (ps_for PassesOwn.never rfl (pi_range1 (by rfl) B.range (pa_cons pe_int pa_nil)) (pg_name (i := 3) sc__law_root.nd rfl (.inl rfl))
      (pss_cons (ps_set (i := 4) sc__law_root.nd rfl (.inl rfl) (pe_op op_add pe_int (pe_cal Cm hr (by decide) (by rfl) pass0 (pa_cons (pe_op op_add (pv 0) (pv 3)) (pa_cons pe_int (pa_cons (pv 2) pa_nil))))))
      <| pss_cons (ps_set (i := 5) sc__law_root.nd rfl (.inl rfl) (pe_op op_sub (pe_cal Cm hr (by decide) (by rfl) pass0 (pa_cons (pe_op op_add (pv 1) (pv 3)) (pa_cons pe_int (pa_cons (pe_op op_add (pe_op op_mul pe_int (pv 2)) pe_int) pa_nil)))) (pv 2)))
      <| pss_cons (ps_set (i := 6) sc__law_root.nd rfl (.inl rfl) (pe_op op_sub (pe_cal Cm hr (by decide) (by rfl) pass0 (pa_cons (pe_op op_add (pe_op op_add (pv 0) (pv 1)) (pe_op op_mul pe_int (pv 3))) (pa_cons pe_int (pa_cons (pe_op op_add (pe_op op_mul pe_int (pv 2)) pe_int) pa_nil)))) (pv 2)))
      <| pss_cons (ps_set (i := 7) sc__law_root.nd rfl (.inl rfl) (pe_op op_sub (pe_op op_mul (pv 5) (pv 5)) (pe_op op_mul (pe_op op_mul pe_int (pv 4)) (pv 6))))
      <| pss_one (ps_if (PW.pt (pw_and (pt_cmpR op_gt (pv 7) pe_int (nomark _)) (pw_and1 (pt_cmpR op_ne (pe_op op_mul (pe_cal Cq hr (by decide) (by rfl) pass0 (pa_cons (pv 7) pa_nil)) (pe_cal Cq hr (by decide) (by rfl) pass0 (pa_cons (pv 7) pa_nil))) (pv 7) (nomark _)))))
          (pss_cons (ps_set (i := 8) sc__law_root.nd rfl (.inl rfl) (pe_cal Cd hr (by decide) (by rfl) pass0 (pa_cons (pe_cal Cd hr (by decide) (by rfl) pass0 (pa_cons (pv 4) (pa_cons (pv 5) pa_nil))) (pa_cons (pv 6) pa_nil))))
          <| pss_one (ps_ret (pe_tup (pa_cons (pe_op op_fdivWN (pv 4) (pv 8)) (pa_cons (pe_op op_fdivWN (pv 5) (pv 8)) (pa_cons (pe_op op_fdivWN (pv 6) (pv 8)) (pa_cons (pe_op op_mod (pe_op op_add (pv 0) (pv 1)) pe_int) pa_nil))))))) pss_nil)))
    <| pss_one (ps_ret (pe_tup (pa_cons pe_int (pa_cons pe_int (pa_cons (pe_un un_neg pe_int) (pa_cons (pe_op op_mod (pe_op op_add (pv 0) (pv 1)) pe_int) pa_nil)))))), ?_⟩
  have hs0 := Int.emod_nonneg (c + o) (show (2 : Int) ≠ 0 by decide)
  have hs1 := Int.emod_lt_of_pos (c + o) (show (0 : Int) < 2 by decide)
  have hs : (c + o) % 2 = 0 ∨ (c + o) % 2 = 1 := by omega
  refine ⟨8, rfl, by decide, by decide, for_range (fun i σ H' => H' = H ∧ ∃ y3 y4 y5 y6 y7 y8, σ = [some (.int c), some (.int o), some (.int wd), y3, y4, y5, y6, y7, y8]) ⟨rfl, _, _, _, _, _, _, rfl⟩ (fun i σ H' hi hP => ?_) (fun σ H' hP => ?_)⟩
  · obtain ⟨rfl, y3, y4, y5, y6, y7, y8, rfl⟩ := hP
    have r1 := mix_rng (c := c + (0 + (i : Int))) (p := 99991) (m := wd) (by omega)
    have r2 := mix_rng (c := o + (0 + (i : Int))) (p := 99989) (m := 2 * wd + 1) (by omega)
    have r3 := mix_rng (c := c + o + 3 * (0 + (i : Int))) (p := 99971) (m := 2 * wd + 1) (by omega)
    refine ⟨_, rfl, _, rfl, _, _, rfl, rfl, _, rfl, _, 99991, wd, rfl, by decide, by omega, _, _, rfl, rfl, ?_⟩
    refine ⟨_, rfl, _, rfl, _, _, rfl, rfl, _, rfl, _, _, rfl, rfl, .inl (by decide), _, _, rfl, rfl, _, 99989, 2 * wd + 1, rfl, by decide, by omega, _, rfl, _, _, rfl, rfl, ?_⟩
    refine ⟨_, rfl, _, rfl, _, _, rfl, rfl, _, rfl, _, _, rfl, rfl, .inl (by decide), _, _, rfl, rfl, _, rfl, _, _, rfl, rfl, .inl (by decide), _, _, rfl, rfl, _, 99971, 2 * wd + 1, rfl, by decide, by omega, _, rfl, _, _, rfl, rfl, ?_⟩
    dsimp only
    generalize hA : (1 : Int) + mix (c + (0 + (i : Int))) 99991 wd = a
    generalize hB : mix (o + (0 + (i : Int))) 99989 (2 * wd + 1) - wd = b
    generalize hC : mix (c + o + 3 * (0 + (i : Int))) 99971 (2 * wd + 1) - wd = c'
    have ba : 1 ≤ a ∧ a ≤ wd := by omega
    have bb : -wd ≤ b ∧ b ≤ wd := by omega
    have bc : -wd ≤ c' ∧ c' ≤ wd := by omega
    have hd : b * b - 4 * a * c' = ht a b c' := rfl
    have sa : Sm a := sm_of (by omega)
    have sb : Sm b := sm_of (by omega)
    have sc : Sm c' := sm_of (by omega)
    refine ⟨_, rfl, _, rfl, _, _, rfl, rfl, .inl (by omega), _, rfl, _, _, rfl, rfl, .inl (by decide), _, rfl, _, _, rfl, rfl, .inr (by omega), _, _, rfl, rfl, ?_⟩
    dsimp only
    rw [hd]
    have hdb : (ht a b c').natAbs < 2 ^ 30 := by
      unfold ht
      have h1 := Int.natAbs_mul b b
      have h2 := Int.natAbs_mul (4 * a) c'
      have h3 : b.natAbs * b.natAbs ≤ 1000 * 1000 := Nat.mul_le_mul (by omega) (by omega)
      have h4 : (4 * a).natAbs * c'.natAbs ≤ 4000 * 1000 := Nat.mul_le_mul (by omega) (by omega)
      have h5 := Int.natAbs_sub_le (b * b) (4 * a * c')
      omega
    refine ⟨_, rfl, _, _, rfl, rfl, _, rfl, ite2 (fun k => ?_) (fun k => ?_)⟩
    rotate_left
    · exact ⟨rfl, _, _, _, _, _, _, rfl⟩
    have k0 : 0 < ht a b c' := of_decide_eq_true k
    have hr0 := (rt_spec (Int.le_of_lt k0)).1
    have hr1 := rt_le (Int.le_of_lt k0)
    refine ⟨_, rfl, _, rfl, by omega, big_of (by omega), _, rfl, _, rfl, by omega, big_of (by omega), _, _, rfl, rfl, .inl (by omega), _, rfl, rfl, _, rfl, ite2 (fun k2 => ?_) (fun k2 => ?_)⟩
    rotate_left
    · exact ⟨rfl, _, _, _, _, _, _, rfl⟩
    have k3 : ¬ NoRoot a b c' := by
      rintro (h | h | h)
      · omega
      · omega
      · have h2 : rt (ht a b c') * rt (ht a b c') = ht a b c' := of_decide_eq_true h
        rw [Bool.not_eq_true', decide_eq_false_iff_not] at k2
        exact k2 (congrArg V.int h2)
    have hg := dv3_pos (a := a) (b := b) (c := c') (by omega)
    have hgb : dv (dv a b) c' ≠ 0 ∧ (dv (dv a b) c').natAbs.log2 < 9000 := by
      refine ⟨by omega, Nat.lt_of_lt_of_le (PySem.Flt.log2_lt_of (by decide) (Nat.lt_of_le_of_lt ?_ sa.lt)) (by decide : 1000 ≤ 9000)⟩
      obtain ⟨k, hk⟩ := (dv3_dvd a b c').1
      conv => rhs; rw [hk]
      rw [Int.natAbs_mul]
      refine Nat.le_mul_of_pos_right _ ?_
      have : k ≠ 0 := fun z => by
        rw [z, Int.mul_zero] at hk
        omega
      omega
    refine ⟨_, rfl, _, rfl, a, b, rfl, _, rfl, _, c', rfl, ?_⟩
    refine ⟨_, rfl, _, rfl, _, _, rfl, rfl, hgb, _, rfl, _, rfl, _, _, rfl, rfl, hgb, _, rfl, _, rfl, _, _, rfl, rfl, hgb, _, rfl, _, rfl, _, _, rfl, rfl, _, _, rfl, rfl, (by show (0 : Int) < 2; decide), len4, fun p np => ?_⟩
    have hR := nf_isR k3 hs
    obtain ⟨ab1, ab2, ab3⟩ := nf_abs (b := b) (c := c') (show a ≠ 0 by omega)
    have eA : a.fdiv (dv (dv a b) c') = nfA a b c' := by
      unfold nfA
      rw [if_neg (by omega), Int.fdiv_eq_ediv_of_nonneg a (by omega)]
    have eB : b.fdiv (dv (dv a b) c') = nfB a b c' := by
      unfold nfB
      rw [if_neg (by omega), Int.fdiv_eq_ediv_of_nonneg b (by omega)]
    have eC : c'.fdiv (dv (dv a b) c') = nfC a b c' := by
      unfold nfC
      rw [if_neg (by omega), Int.fdiv_eq_ediv_of_nonneg c' (by omega)]
    dsimp only
    rw [eA, eB, eC]
    have := hR.ha
    exact q _ _ _ _ _ p hR (by omega) (by omega) (by omega) (by omega) (by omega) (same_upd np) np upd_same
  · obtain ⟨rfl, y3, y4, y5, y6, y7, y8, rfl⟩ := hP
    refine ⟨2, rfl, _, rfl, _, rfl, _, _, rfl, rfl, _, _, rfl, rfl, (by show (0 : Int) < 2; decide), len4, fun p np => ?_⟩
    have hR : IsR 1 0 (-2) ((c + o) % 2) := ⟨by decide, hs, by decide, ⟨by decide, by decide +kernel⟩⟩
    exact q _ _ _ _ _ p hR (by omega) (by omega) (by omega) (by omega) (by omega) (same_upd np) np upd_same
end
section
variable {P : Program} {w : World} {K : PySem.W.Frag} {mg : Str → Option Value} {base : Heap}
theorem ok__law_above (D : Df K mg "_law_above" p__law_above s__law_above) : Cal P w K mg base CX0 1 "_law_above" p__law_above sp_above := D.cal fun f fd F => by
  refine F.ok sc__law_above (fun vs H Q E h => ?_) (fun cdv A outer s H vs Q E hr h => ?_)
  · obtain ⟨r, a, b, c, sd, u, l, rfl, _⟩ := h
    rfl
  obtain ⟨r, a, b, c, sd, u, l, rfl, e, hs, ha, hb, hc, hu, hl, q⟩ := h
  refine ⟨_, pss_cons (ps_asg (pv 0) (pg_tup (by rfl) (pgs_cons (pg_name (i := 3) sc__law_above.nd rfl (.inl rfl)) (pgs_cons (pg_name (i := 4) sc__law_above.nd rfl (.inl rfl)) (pgs_cons (pg_name (i := 5) sc__law_above.nd rfl (.inl rfl)) (pgs_cons (pg_name (i := 6) sc__law_above.nd rfl (.inl rfl)) pgs_nil))))))
    <| pss_cons (ps_set (i := 7) sc__law_above.nd rfl (.inl rfl) (pe_op op_add (pe_op op_add (pe_op op_mulW (pe_op op_mulW (pv 3) (pv 1)) (pv 1)) (pe_op op_mulW (pe_op op_mulW (pv 4) (pv 1)) (pv 2))) (pe_op op_mulW (pe_op op_mulW (pv 5) (pv 2)) (pv 2))))
    <| pss_cons (ps_if (pt_cmpR op_gt (pe_op op_add (pe_op op_mulW (pe_op op_mulW pe_int (pv 3)) (pv 1)) (pe_op op_mulW (pv 4) (pv 2))) pe_int (nomark _))
        (pss_one (ps_ret (pe_and (pe_cmpR op_eq (pv 6) pe_int (nomark _)) (pe_one (pe_cmpR op_lt (pv 7) pe_int (nomark _)))))) pss_nil)
    <| pss_one (ps_ret (pe_or (pe_cmpR op_eq (pv 6) pe_int (nomark _)) (pe_one (pe_cmpR op_gt (pv 7) pe_int (nomark _))))), ?_⟩
  have w1 := nat_mul_lt ha.lt hu.lt
  have w2 := nat_mul_lt hb.lt hu.lt
  have w3 := nat_mul_lt hc.lt hl.lt
  refine ⟨_, rfl, r, _, rfl, SqT.of e, rfl, _, _, rfl, _, _, rfl, _, _, rfl, _, _, rfl, rfl, ?_⟩
  refine ⟨_, rfl, _, rfl, _, _, rfl, rfl, mulW_of ha.lt hu.lt, _, rfl, _, _, rfl, rfl, mulW_of w1 hu.lt, _, rfl, _, rfl, _, _, rfl, rfl, mulW_of hb.lt hu.lt, _, rfl, _, _, rfl, rfl, mulW_of w2 hl.lt, _, _, rfl, rfl,
    _, rfl, _, rfl, _, _, rfl, rfl, mulW_of hc.lt hl.lt, _, rfl, _, _, rfl, rfl, mulW_of w3 hl.lt, _, _, rfl, rfl, ?_⟩
  refine ⟨_, rfl, _, _, rfl, rfl, mulW_of (m := 2) (by decide) ha.lt, _, rfl, _, _, rfl, rfl, mulW_of (m := 1002) (nat_mul_lt (m := 2) (by decide) ha.lt) hu.lt, _, rfl, _, rfl, _, _, rfl, rfl, mulW_of hb.lt hl.lt, _, _, rfl, rfl, _, _, rfl, rfl, _, rfl, ite2 (fun k => ?_) (fun k => ?_)⟩
  · have hW : 0 < 2 * a * u + b * l := of_decide_eq_true k
    unfold ab at q
    rw [decide_eq_true hW] at q
    refine ⟨_, rfl, rfl, ?_⟩
    by_cases h1 : sd = 1
    · subst h1
      rw [if_pos rfl] at q
      exact ⟨true, rfl, iteT ⟨_, rfl, _, _, rfl, rfl, q⟩⟩
    · rw [if_neg h1] at q
      exact ⟨false, congrArg V.bl (decide_eq_false fun z => h1 (V.int.inj z)), iteF q⟩
  · have hW : decide (0 < 2 * a * u + b * l) = false := Bool.eq_false_iff.mpr k
    unfold ab at q
    rw [hW] at q
    refine ⟨_, rfl, rfl, ?_⟩
    by_cases h1 : sd = 1
    · subst h1
      rw [if_pos rfl] at q
      exact ⟨true, rfl, iteT q⟩
    · rw [if_neg h1] at q
      exact ⟨false, congrArg V.bl (decide_eq_false fun z => h1 (V.int.inj z)), iteF ⟨_, rfl, _, _, rfl, rfl, by rw [Bool.not_false, Bool.true_and] at q; exact q⟩⟩
end
section
variable {P : Program} {w : World} {K : PySem.W.Frag} {mg : Str → Option Value} {base : Heap}
theorem ok__law_below (D : Df K mg "_law_below" p__law_below s__law_below) (B : Bl mg) (Ca : Cal P w K mg base CX0 1 "_law_above" p__law_above sp_above) : Cal P w K mg base CX0 2 "_law_below" p__law_below sp_below := D.cal fun f fd F => by
  refine F.ok sc__law_below (fun vs H Q E h => ?_) (fun cdv A outer s H vs Q E hr h => ?_)
  · obtain ⟨t, n, u, l, rfl, _⟩ := h
    rfl
  obtain ⟨t, n, u, l, rfl, e, hn, hu, hl, q_⟩ := h
  refine ⟨_, pss_cons (ps_if (pt_cmpR op_eq (pe_callB call_len_seq (by rfl) B.len PySem.boot_len (pa_cons (pv 0) pa_nil)) pe_int (nomark _))
        (pss_one (ps_ret (pe_not (pe_cal Ca hr (by decide) (by rfl) pass0 (pa_cons (pv 0) (pa_cons (pv 1) (pa_cons (pv 2) pa_nil))))))) pss_nil)
    <| pss_one (ps_ret (pe_cmpR op_lt (pe_op op_mulW (pe_ix ix_tup (pv 0) pe_int (fun _ _ => rfl)) (pv 2)) (pe_op op_mulW (pv 1) (pe_ix ix_tup (pv 0) pe_int (fun _ _ => rfl))) (nomark _))), ?_⟩
  cases n with
  | fr p q =>
    obtain ⟨sp, sq⟩ := Nu.fr_sm hn
    refine ⟨_, rfl, t, _, rfl, .inr (SqT.of e), rfl, false, rfl, iteF ?_⟩
    exact ⟨_, rfl, t, _, 0, .int p, rfl, rfl, SqT.of e, atI_nat (j := 0) rfl, _, rfl, _, _, rfl, rfl, mulW_of sp.lt hl.lt, _, rfl, _, rfl, t, _, 1, .int q, rfl, rfl, SqT.of e, atI_nat (j := 1) rfl, _, _, rfl, rfl, mulW_of hu.lt sq.lt, _, _, rfl, rfl, q_⟩
  | ro r =>
    obtain ⟨s1, s2, s3⟩ := Nu.ro_sm hn
    refine ⟨_, rfl, t, _, rfl, .inr (SqT.of e), rfl, true, rfl, iteT ?_⟩
    exact ⟨_, rfl, _, rfl, _, rfl, t, r.a, r.b, r.c, r.s, u, l, rfl, e, hn.1.hs, s1, s2, s3, hu, hl, _, rfl, q_⟩
end
section
variable {P : Program} {w : World} {K : PySem.W.Frag} {mg : Str → Option Value} {base : Heap}
theorem ok__law_over (D : Df K mg "_law_over" p__law_over s__law_over) (B : Bl mg) (Ca : Cal P w K mg base CX0 1 "_law_above" p__law_above sp_above) : Cal P w K mg base CX0 2 "_law_over" p__law_over sp_over := D.cal fun f fd F => by
  refine F.ok sc__law_over (fun vs H Q E h => ?_) (fun cdv A outer s H vs Q E hr h => ?_)
  · obtain ⟨t, n, u, l, rfl, _⟩ := h
    rfl
  obtain ⟨t, n, u, l, rfl, e, hn, hu, hl, q_⟩ := h
  refine ⟨_, pss_cons (ps_if (pt_cmpR op_eq (pe_callB call_len_seq (by rfl) B.len PySem.boot_len (pa_cons (pv 0) pa_nil)) pe_int (nomark _))
        (pss_one (ps_ret (pe_cal Ca hr (by decide) (by rfl) pass0 (pa_cons (pv 0) (pa_cons (pv 1) (pa_cons (pv 2) pa_nil)))))) pss_nil)
    <| pss_one (ps_ret (pe_cmpR op_gt (pe_op op_mulW (pe_ix ix_tup (pv 0) pe_int (fun _ _ => rfl)) (pv 2)) (pe_op op_mulW (pv 1) (pe_ix ix_tup (pv 0) pe_int (fun _ _ => rfl))) (nomark _))), ?_⟩
  cases n with
  | fr p q =>
    obtain ⟨sp, sq⟩ := Nu.fr_sm hn
    refine ⟨_, rfl, t, _, rfl, .inr (SqT.of e), rfl, false, rfl, iteF ?_⟩
    exact ⟨_, rfl, t, _, 0, .int p, rfl, rfl, SqT.of e, atI_nat (j := 0) rfl, _, rfl, _, _, rfl, rfl, mulW_of sp.lt hl.lt, _, rfl, _, rfl, t, _, 1, .int q, rfl, rfl, SqT.of e, atI_nat (j := 1) rfl, _, _, rfl, rfl, mulW_of hu.lt sq.lt, _, _, rfl, rfl, q_⟩
  | ro r =>
    obtain ⟨s1, s2, s3⟩ := Nu.ro_sm hn
    refine ⟨_, rfl, t, _, rfl, .inr (SqT.of e), rfl, true, rfl, iteT ?_⟩
    exact ⟨_, rfl, _, rfl, _, rfl, t, r.a, r.b, r.c, r.s, u, l, rfl, e, hn.1.hs, s1, s2, s3, hu, hl, q_⟩
end
section
variable {P : Program} {w : World} {K : PySem.W.Frag} {mg : Str → Option Value} {base : Heap}
theorem ok__law_number (D : Df K mg "_law_number" p__law_number s__law_number) (Cc : Cal P w K mg base CX0 1 "_law_cell" p__law_cell (sp_cell K)) (Cf : Cal P w K mg base CX0 3 "_law_fraction" p__law_fraction sp_fraction) (Cr : Cal P w K mg base CX0 2 "_law_root" p__law_root sp_root) : Cal P w K mg base CX0 4 "_law_number" p__law_number (sp_number K) := D.cal fun f fd F => by
  refine F.ok sc__law_number (fun vs H Q E h => ?_) (fun cdv A outer s H vs Q E hr h => ?_)
  · obtain ⟨a, ns, k, w, rfl, _⟩ := h
    rfl
  obtain ⟨a, ns, k, wd, rfl, hS, hk, hw0, hw1, q⟩ := h
  refine ⟨_, pss_cons (ps_if (pt_cmpR op_eq (pe_op op_mod (pe_cal Cc hr (by decide) (by rfl) pass0 (pa_cons (pv 0) (pa_cons (pv 1) pa_nil))) pe_int) pe_int (nomark _))
        (pss_one (ps_ret (pe_cal Cf hr (by decide) (by rfl) pass0 (pa_cons (pe_op op_fdiv (pe_cal Cc hr (by decide) (by rfl) pass0 (pa_cons (pv 0) (pa_cons (pv 1) pa_nil))) pe_int) (pa_cons (pe_cal Cc hr (by decide) (by rfl) pass0 (pa_cons (pv 0) (pa_cons (pe_op op_add (pv 1) pe_int) pa_nil))) (pa_cons (pv 2) pa_nil)))))) pss_nil)
    <| pss_one (ps_ret (pe_cal Cr hr (by decide) (by rfl) pass0 (pa_cons (pe_op op_fdiv (pe_cal Cc hr (by decide) (by rfl) pass0 (pa_cons (pv 0) (pa_cons (pv 1) pa_nil))) pe_int) (pa_cons (pe_cal Cc hr (by decide) (by rfl) pass0 (pa_cons (pv 0) (pa_cons (pe_op op_add (pv 1) pe_int) pa_nil))) (pa_cons (pv 2) pa_nil))))), ?_⟩
  refine ⟨_, rfl, _, rfl, a, ns, k, rfl, hS, by omega, _, _, rfl, rfl, (by show (0 : Int) < 2; decide), rfl, _, rfl, ite2 (fun c => ?_) (fun c => ?_)⟩
  · refine ⟨_, rfl, _, rfl, a, ns, k, rfl, hS, by omega, _, _, rfl, rfl, ⟨by decide, by decide⟩, _, rfl, _, rfl, _, _, rfl, rfl, a, ns, k + 1, rfl, hS, by omega, _, rfl, _, _, wd, rfl, by omega, by omega, fun p np => ?_⟩
    have r1 := mix_rng (c := cellOf ns k / 2) (p := 1000003) (m := 2 * wd + 1) (by omega)
    have r2 := mix_rng (c := cellOf ns (k + 1)) (p := 999983) (m := wd) (by omega)
    exact q (.fr _ _) _ p (low_in (by omega) (by omega) (by omega) (by omega)) (same_upd np) np upd_same
  · refine ⟨_, rfl, _, rfl, a, ns, k, rfl, hS, by omega, _, _, rfl, rfl, ⟨by decide, by decide⟩, _, rfl, _, rfl, _, _, rfl, rfl, a, ns, k + 1, rfl, hS, by omega, _, rfl, _, _, wd, rfl, by omega, by omega, fun x b c sd H' p R h1 h2 h3 h4 h5 s1 np e => ?_⟩
    exact q (.ro ⟨x, b, c, sd⟩) _ p ⟨R, h1, h2, h3, h4, h5⟩ s1 np e
end
/-! ### the law: nearest -/
section
variable {P : Program} {w : World} {K : PySem.W.Frag} {mg : Str → Option Value} {base : Heap} {C R : Addr}
theorem ok_nearer (D : Df K mg "_law_nearer" p__law_nearer s__law_nearer) (Cb : Cal P w K mg base CX0 2 "_law_below" p__law_below sp_below) (Co : Cal P w K mg base CX0 2 "_law_over" p__law_over sp_over) : Cal P w K mg base CX0 3 "_law_nearer" p__law_nearer sp_nearer := D.cal fun f fd F => by
  refine F.ok sc__law_nearer (fun vs H Q E h => ?_) (fun cdv A outer s H vs Q E hr h => ?_)
  · obtain ⟨x, f, g, n, u, l, v, m, rfl, _⟩ := h
    rfl
  obtain ⟨x, fr, g, n, u, l, v, m, rfl, ex, ef, eg, hn, hf, hg, q⟩ := h
  refine ⟨_, pss_cons (ps_set (i := 3) sc__law_nearer.nd rfl (.inl rfl) (pe_op op_add (pe_op op_mulW (pe_ix ix_tup (pv 1) pe_int (fun _ _ => rfl)) (pe_ix ix_tup (pv 2) pe_int (fun _ _ => rfl))) (pe_op op_mulW (pe_ix ix_tup (pv 2) pe_int (fun _ _ => rfl)) (pe_ix ix_tup (pv 1) pe_int (fun _ _ => rfl)))))
    <| pss_cons (ps_set (i := 4) sc__law_nearer.nd rfl (.inl rfl) (pe_op op_mulW (pe_op op_mulW pe_int (pe_ix ix_tup (pv 1) pe_int (fun _ _ => rfl))) (pe_ix ix_tup (pv 2) pe_int (fun _ _ => rfl))))
    <| pss_cons (ps_if (pt_cmpR op_lt (pe_op op_mulW (pe_ix ix_tup (pv 1) pe_int (fun _ _ => rfl)) (pe_ix ix_tup (pv 2) pe_int (fun _ _ => rfl))) (pe_op op_mulW (pe_ix ix_tup (pv 2) pe_int (fun _ _ => rfl)) (pe_ix ix_tup (pv 1) pe_int (fun _ _ => rfl))) (nomark _))
        (pss_one (ps_ret (pe_cal Cb hr (by decide) (by rfl) pass0 (pa_cons (pv 0) (pa_cons (pv 3) (pa_cons (pv 4) pa_nil)))))) pss_nil)
    <| pss_one (ps_ret (pe_cal Co hr (by decide) (by rfl) pass0 (pa_cons (pv 0) (pa_cons (pv 3) (pa_cons (pv 4) pa_nil))))), ?_⟩
  have h1 := hf.l0
  have h2 := hf.l1
  have h3 := hf.u1
  have h4 := hg.l0
  have h5 := hg.l1
  have h6 := hg.u1
  have e40 : (2 : Nat) ^ 40 = 1099511627776 := by decide
  have bu : u.natAbs < 2 ^ 41 := by omega
  have bv : v.natAbs < 2 ^ 41 := by omega
  have bl : l.natAbs < 2 ^ 10 := by omega
  have bm : m.natAbs < 2 ^ 10 := by omega
  have bX : (u * m + v * l).natAbs < 2 ^ 52 := nat_add_lt (nat_mul_lt bu bm) (nat_mul_lt bv bl)
  have bY : (2 * l * m).natAbs < 2 ^ 22 := nat_mul_lt (nat_mul_lt (m := 2) (by decide) bl) bm
  have gu : atI ([u, l].map V.int) 0 = some (.int u) := atI_nat (j := 0) rfl
  have gl : atI ([u, l].map V.int) 1 = some (.int l) := atI_nat (j := 1) rfl
  have gv : atI ([v, m].map V.int) 0 = some (.int v) := atI_nat (j := 0) rfl
  have gm : atI ([v, m].map V.int) 1 = some (.int m) := atI_nat (j := 1) rfl
  refine ⟨_, rfl, fr, _, 0, _, rfl, rfl, SqT.of ef, gu, _, rfl, g, _, 1, _, rfl, rfl, SqT.of eg, gm, _, _, rfl, rfl, mulW_of bu bm, _, rfl, g, _, 0, _, rfl, rfl, SqT.of eg, gv, _, rfl, fr, _, 1, _, rfl, rfl, SqT.of ef, gl, _, _, rfl, rfl, mulW_of bv bl, _, _, rfl, rfl, ?_⟩
  refine ⟨_, rfl, fr, _, 1, _, rfl, rfl, SqT.of ef, gl, _, _, rfl, rfl, mulW_of (m := 2) (by decide) bl, _, rfl, g, _, 1, _, rfl, rfl, SqT.of eg, gm, _, _, rfl, rfl, mulW_of (m := 12) (nat_mul_lt (m := 2) (by decide) bl) bm, ?_⟩
  unfold Nu.nrB at q
  refine ⟨_, rfl, fr, _, 0, _, rfl, rfl, SqT.of ef, gu, _, rfl, g, _, 1, _, rfl, rfl, SqT.of eg, gm, _, _, rfl, rfl, mulW_of bu bm, _, rfl, g, _, 0, _, rfl, rfl, SqT.of eg, gv, _, rfl, fr, _, 1, _, rfl, rfl, SqT.of ef, gl, _, _, rfl, rfl, mulW_of bv bl, _, _, rfl, rfl, _, rfl, ite2 (fun c => ?_) (fun c => ?_)⟩
  · rw [if_pos (of_decide_eq_true c)] at q
    exact ⟨_, rfl, _, rfl, _, rfl, x, n, _, _, rfl, ex, hn.ok, ⟨nat_mono bX (by decide)⟩, ⟨nat_mono bY (by decide)⟩, q⟩
  · rw [if_neg (of_decide_eq_false (Bool.eq_false_iff.mpr c))] at q
    exact ⟨_, rfl, _, rfl, _, rfl, x, n, _, _, rfl, ex, hn.ok, ⟨nat_mono bX (by decide)⟩, ⟨nat_mono bY (by decide)⟩, q⟩
theorem ok_as_near (D : Df K mg "_law_as_near" p__law_as_near s__law_as_near) (Cn : Cal P w K mg base CX0 3 "_law_nearer" p__law_nearer sp_nearer) : Cal P w K mg base CX0 4 "_law_as_near" p__law_as_near sp_as_near := D.cal fun f fd F => by
  refine F.ok sc__law_as_near (fun vs H Q E h => ?_) (fun cdv A outer s H vs Q E hr h => ?_)
  · obtain ⟨x, f, g, n, u, l, v, m, rfl, _⟩ := h
    rfl
  obtain ⟨x, fr, g, n, u, l, v, m, rfl, ex, ef, eg, hn, hf, hg, q⟩ := h
  refine ⟨_, pss_one (ps_ret (pe_and (pe_not (pe_cal Cn hr (by decide) (by rfl) pass0 (pa_cons (pv 0) (pa_cons (pv 1) (pa_cons (pv 2) pa_nil))))) (pe_one (pe_not (pe_cal Cn hr (by decide) (by rfl) pass0 (pa_cons (pv 0) (pa_cons (pv 2) (pa_cons (pv 1) pa_nil)))))))), ?_⟩
  refine ⟨_, rfl, _, rfl, _, rfl, x, fr, g, n, u, l, v, m, rfl, ex, ef, eg, hn, hf, hg, _, rfl, ?_⟩
  cases h : n.nrB u l v m with
  | true =>
    rw [h, Bool.not_true, Bool.false_and] at q
    exact ⟨false, rfl, iteF q⟩
  | false =>
    rw [h, Bool.not_false, Bool.true_and] at q
    exact ⟨true, rfl, iteT ⟨_, rfl, _, rfl, _, rfl, x, g, fr, n, v, m, u, l, rfl, ex, eg, ef, hn, hg, hf, _, rfl, q⟩⟩
theorem ok_law {f : Addr} {fd : FuncData} (F : Fun K "law" "law" s_law f fd) (B : Bl mg) (Cc : Cal P w K mg base CX0 1 "_law_cell" p__law_cell (sp_cell K)) (Cn : Cal P w K mg base CX0 4 "_law_number" p__law_number (sp_number K)) (Cf : Cal P w K mg base CX0 3 "_law_fraction" p__law_fraction sp_fraction) (Ce : Cal P w K mg base CX0 8 "nearest" p_nearest sp_nearest)
    (Cw : Cal P w K mg base CX0 1 "_law_whole" p__law_whole sp_whole) (Cl : Cal P w K mg base CX0 2 "_law_lowest" p__law_lowest sp_lowH) (Cp : Cal P w K mg base CX0 2 "part_of" p_part_of sp_part_of) (Ck : Cal P w K mg base CX0 3 "_law_nearer" p__law_nearer sp_nearer) (Ca : Cal P w K mg base CX0 4 "_law_as_near" p__law_as_near sp_as_near) : FnOk P w K mg base CX0 40 f fd ["_law_script"] (sp_law K) := by
  refine F.ok sc_law (fun vs H Q E h => ?_) (fun cdv A outer s H vs Q E hr h => ?_)
  · obtain ⟨a, ns, rfl, _⟩ := h
    rfl
  obtain ⟨la, ns, rfl, hS, h63, q⟩ := h
  refine ⟨_, pss_cons (ps_set (i := 1) sc_law.nd rfl (.inl rfl) (pe_cal Cn hr (by decide) (by rfl) pass0 (pa_cons (pv 0) (pa_cons pe_int (pa_cons pe_int pa_nil)))))
    <| pss_mid (ps_if (pt_cmpR op_eq (pe_op op_mod (pe_cal Cc hr (by decide) (by rfl) pass0 (pa_cons (pv 0) (pa_cons pe_int pa_nil))) pe_int) pe_int (nomark _))
        (pss_one (ps_set (i := 1) sc_law.nd rfl (.inl rfl) (pe_cal Cf hr (by decide) (by rfl) pass0 (pa_cons (pe_cal Cc hr (by decide) (by rfl) pass0 (pa_cons (pv 0) (pa_cons pe_int pa_nil))) (pa_cons (pe_cal Cc hr (by decide) (by rfl) pass0 (pa_cons (pv 0) (pa_cons pe_int pa_nil))) (pa_cons pe_int pa_nil)))))) pss_nil)
    <| pss_cons (ps_set (i := 2) sc_law.nd rfl (.inl rfl) (pe_op op_add pe_int (pe_op op_mod (pe_cal Cc hr (by decide) (by rfl) pass0 (pa_cons (pv 0) (pa_cons pe_int pa_nil))) pe_int)))
    <| pss_cons (ps_set (i := 3) sc_law.nd rfl (.inl rfl) (pe_cal Ce hr (by decide) (by rfl) pass0 (pa_cons (pv 1) (pa_cons (pv 2) pa_nil))))
    <| pss_cons (ps_if (PW.pt (pw_or (pt_not (pt_val (pe_callB call_isi (by rfl) B.isinstance PyProof.Rows.boot_isinstance (pa_cons (pv 3) (pa_cons (pe_bltn (v := .ty "tuple") (by rfl) B.tuple (by decide +kernel) rfl) pa_nil)))))
        (pw_or (pt_cmpR op_ne (pe_callB call_len_seq (by rfl) B.len PySem.boot_len (pa_cons (pv 3) pa_nil)) pe_int (nomark _))
        (pw_or1 (pt_not (pt_val (pe_callB (cr_all rfl) (by rfl) B.all (by decide +kernel) (pa_cons
          (pe_lc (own := [("_law_one", 8)]) (g := gName 8) (tt := tYes) rfl sc_law.nd (pi_tup (pv 3)) (blkOk_by (N := n_law) (sc := defScope s_law) (by decide +kernel))
            (fun _ _ _ _ _ => pg_name (i := 8) sc_law.nd rfl (Or.inl rfl)) (fun _ _ _ _ _ => pts_nil) (fun _ _ _ _ _ => pe_cal Cw hr (by decide) (by rfl) pass0 (pa_cons (pv 8) pa_nil))) pa_nil))))))))
        (pss_one (ps_ret pe_bl)) pss_nil)
    <| pss_cons (ps_if (PW.pt (pw_or (pt_not (pt_chain op_le op_le pe_int (pe_ix ix_tup (pv 3) pe_int (fun _ _ => rfl)) (pv 2)))
        (pw_or1 (pt_cmpR (op_neT hr) (pe_cal Cl hr (by decide) (by rfl) pass0 (pa_cons (pe_ix ix_tup (pv 3) pe_int (fun _ _ => rfl)) (pa_cons (pe_ix ix_tup (pv 3) pe_int (fun _ _ => rfl)) pa_nil))) (pv 3) (nomark _)))))
        (pss_one (ps_ret pe_bl)) pss_nil)
    <| pss_cons (ps_for PassesOwn.never rfl (pi_range2 (by rfl) B.range (pa_cons pe_int (pa_cons (pe_op op_add (pv 2) pe_int) pa_nil))) (pg_name (i := 4) sc_law.nd rfl (.inl rfl))
        (pss_mid (ps_set (i := 5) sc_law.nd rfl (.inl rfl) (pe_op op_mul (pe_cal Cp hr (by decide) (by rfl) pass0 (pa_cons (pv 1) pa_nil)) (pv 4)))
        <| pss_one (ps_for PassesOwn.never rfl (pi_range2 (by rfl) B.range (pa_cons (pe_op op_sub (pv 5) pe_int) (pa_cons (pe_op op_add (pe_op op_add (pv 5) (pv 4)) pe_int) pa_nil))) (pg_name (i := 6) sc_law.nd rfl (.inl rfl))
            (pss_cons (ps_set (i := 7) sc_law.nd rfl (.inl rfl) (pe_cal Cl hr (by decide) (by rfl) pass0 (pa_cons (pv 6) (pa_cons (pv 4) pa_nil))))
            <| pss_mid (ps_if (PW.pt (pw_and (pt_cmpR (op_neT hr) (pv 7) (pv 3) (nomark _)) (pw_and1 (pt_val (pe_cal Ck hr (by decide) (by rfl) pass0 (pa_cons (pv 1) (pa_cons (pv 7) (pa_cons (pv 3) pa_nil)))))))) (pss_one (ps_ret pe_bl)) pss_nil)
            <| pss_one (ps_if (PW.pt (pw_and (pt_cmpR (op_neT hr) (pv 7) (pv 3) (nomark _)) (pw_and (pt_val (pe_cal Ca hr (by decide) (by rfl) pass0 (pa_cons (pv 1) (pa_cons (pv 7) (pa_cons (pv 3) pa_nil)))))
                (pw_and1 (pt_cmpR (op_ltT hr.units0) (pe_tup (pa_cons (pe_ix ix_tup (pv 7) pe_int (fun _ _ => rfl)) (pa_cons (pe_ix ix_tup (pv 7) pe_int (fun _ _ => rfl)) pa_nil))) (pe_tup (pa_cons (pe_ix ix_tup (pv 3) pe_int (fun _ _ => rfl)) (pa_cons (pe_ix ix_tup (pv 3) pe_int (fun _ _ => rfl)) pa_nil))) (nomark _))))))
                (pss_one (ps_ret pe_bl)) pss_nil)))))
    <| pss_one (ps_ret pe_bl), ?_⟩
  have e40 : (2 : Nat) ^ 40 = 1099511627776 := by decide
  refine ⟨_, rfl, la, ns, 0, 30, rfl, hS, by decide, by decide, by decide, fun n0 H1 x0 hn0 s1 _ ex0 => ?_⟩
  refine ⟨fun σ H' => ∃ (x : Addr) (n : Nu), σ = [some (.ref la), some (.ref x), none, none, none, none, none, none, none] ∧ Same H H' ∧ H' x = some (tI n.l) ∧ n.Dr, ?_, ?_⟩
  · refine ⟨_, rfl, la, ns, 2, rfl, s1.seq hS, by decide, _, _, rfl, rfl, (by show (0 : Int) < 3; decide), rfl, _, rfl, ite2 (fun c => ?_) (fun c => ?_)⟩
    · refine ⟨_, rfl, la, ns, 0, rfl, s1.seq hS, by decide, _, rfl, la, ns, 1, rfl, s1.seq hS, by decide, _, _, 90, rfl, by decide, by decide, fun p np => ?_⟩
      have r1 := mix_rng (c := cellOf ns 0) (p := 1000003) (m := 2 * 90 + 1) (by decide)
      have r2 := mix_rng (c := cellOf ns 1) (p := 999983) (m := 90) (by decide)
      have hl := low_in (u := mix (cellOf ns 0) 1000003 (2 * 90 + 1) - 90) (l := 1 + mix (cellOf ns 1) 999983 90) (w := 90) (by omega) (by omega) (by omega) (by omega)
      obtain ⟨g1, g2, g3, g4, g5⟩ := hl
      have hD : (Nu.fr (frac (cellOf ns 0) (cellOf ns 1) 90).1 (frac (cellOf ns 0) (cellOf ns 1) 90).2).Dr := by
        unfold frac
        exact ⟨g1, by omega, by omega, by omega, g5⟩
      exact ⟨p, .fr _ _, rfl, same_updO s1 (s1.free np), upd_same, hD⟩
    · exact ⟨x0, n0, rfl, s1, ex0, hn0.dr (by decide)⟩
  rintro σ H2 ⟨x, n, rfl, s2, ex, hn⟩
  have t0 := Int.emod_nonneg (cellOf ns 3) (show (25 : Int) ≠ 0 by decide)
  have t1 := Int.emod_lt_of_pos (cellOf ns 3) (show (0 : Int) < 25 by decide)
  refine ⟨_, rfl, la, ns, 3, rfl, s2.seq hS, by decide, _, _, rfl, rfl, (by show (0 : Int) < 25; decide), _, _, rfl, rfl, ?_⟩
  dsimp only
  generalize hmost : 1 + cellOf ns 3 % 25 = most
  have hm1 : 1 ≤ most ∧ most ≤ 25 := by omega
  refine ⟨_, rfl, _, rfl, x, n, most, rfl, ex, hn, by omega, by omega, fun bu bl H3 p hmf hblm hbest s3 _ ep => ?_⟩
  have ex3 := s3 _ _ ex
  refine ⟨_, rfl, .ref p, .ty "tuple", _, _, true, rfl, .ty "tuple", isT_tup ep, isT_self, true, rfl, iteF ?_⟩
  refine ⟨_, rfl, p, _, rfl, .inr (SqT.of ep), rfl, false, rfl, iteF ?_⟩
  refine ⟨_, rfl, p, rfl, ⟨_, SqT.of ep⟩, lc_mapT (xs := [V.int bu, V.int bl]) (ys := [V.bl true, V.bl true]) rfl (small_of (show 2 ≤ 10000000 by decide)) ep (fun x => rfl) (fun i x y H5 Q5 hx hy sx q5 => ?_) (fun L H5 sx hL nL => ?_)⟩
  · match i, hx, hy with
    | 0, hx, hy => cases hx; cases hy; exact ⟨_, rfl, _, rfl, q5 _ (Same.refl _)⟩
    | 1, hx, hy => cases hx; cases hy; exact ⟨_, rfl, _, rfl, q5 _ (Same.refl _)⟩
  refine ⟨L, [true, true], rfl, .of hL, true, rfl, iteF ?_⟩
  have ex5 := sx _ _ ex3
  have ep5 := sx _ _ ep
  have gu : atI ([bu, bl].map V.int) 0 = some (.int bu) := atI_nat (j := 0) rfl
  have gk : atI ([bu, bl].map V.int) 1 = some (.int bl) := atI_nat (j := 1) rfl
  have bl0 := hmf.l0
  have bl1 := hmf.l1
  have bu1 := hmf.u1
  refine ⟨_, rfl, p, _, 1, _, rfl, rfl, SqT.of ep5, gk, _, _, rfl, rfl, true, congrArg V.bl (decide_eq_true bl0), iteT ⟨_, rfl, _, _, rfl, rfl, true, congrArg V.bl (decide_eq_true hblm), iteF ?_⟩⟩
  refine ⟨_, rfl, p, _, 0, _, rfl, rfl, SqT.of ep5, gu, _, rfl, p, _, 1, _, rfl, rfl, SqT.of ep5, gk, bu, bl, rfl, by omega, big_of (by omega), big_of (by omega), fun p2 np2 => ?_⟩
  rw [low_self (by omega) hmf.one]
  have ep6 := same_upd np2 (o := tI [bu, bl]) _ _ ep5
  have ex6 := same_upd np2 (o := tI [bu, bl]) _ _ ex5
  refine ⟨_, rfl, p2, p, _, _, rfl, rfl, SqT.of upd_same, SqT.of ep6, false, congrArg V.bl (by simp), iteF ?_⟩
  obtain ⟨_, _, prb⟩ := Nu.prt_spec hn
  refine ⟨_, rfl, _, _, rfl, rfl, 1, most + 1, rfl, ⟨by decide, by decide, by omega, by omega⟩, for_range (fun i σ H' => Same (upd H5 p2 (tI [bu, bl])) H' ∧ ∃ y4 y5 y6 y7, σ = [some (.ref la), some (.ref x), some (.int most), some (.ref p), y4, y5, y6, y7, none])
    ⟨Same.refl _, none, none, none, none, rfl⟩ (fun i σ H' hi hP => ?_) (fun σ H' hP => q H')⟩
  obtain ⟨s6, y4, y5, y6, y7, rfl⟩ := hP
  have hil : 1 + (i : Int) ≤ most := by omega
  generalize hl : 1 + (i : Int) = l at *
  have hl1 : 1 ≤ l := by omega
  have ex7 := s6 _ _ ex6
  refine ⟨fun σ H2 => H2 = H' ∧ σ = [some (.ref la), some (.ref x), some (.int most), some (.ref p), some (.int l), some (.int (n.prt * l)), y6, y7, none], ?_, ?_⟩
  · cases n with
    | fr u' l' => exact ⟨_, rfl, x, rfl, .inl ⟨u', l', ex7, hn.1, (Nu.fr_sm hn.ok).2.big, _, rfl, _, _, rfl, rfl, .inr (by omega), rfl, rfl⟩⟩
    | ro r =>
      obtain ⟨w1, w2, w3⟩ := Nu.ro_sm hn.ok
      have R : IsR r.a r.b r.c r.s := hn.1
      exact ⟨_, rfl, x, rfl, .inr ⟨r.a, r.b, r.c, r.s, ex7, R.ha, Int.le_of_lt R.n.pos, w1, w2, w3, _, rfl, _, _, rfl, rfl, .inr (by omega), rfl, rfl⟩⟩
  rintro σ H2 ⟨rfl, rfl⟩
  have hfb : (n.prt * l).natAbs < 2 ^ 26 := nat_mul_lt (n := 8) prb (by omega)
  generalize hf : n.prt * l = first at *
  refine ⟨_, rfl, _, _, rfl, rfl, _, rfl, _, rfl, _, _, rfl, rfl, _, _, rfl, rfl, first - 1, first + l + 2, rfl, ⟨by omega, by omega, by omega, by omega⟩, for_range (fun j σ H' => Same (upd H5 p2 (tI [bu, bl])) H' ∧ ∃ y6 y7, σ = [some (.ref la), some (.ref x), some (.int most), some (.ref p), some (.int l), some (.int first), y6, y7, none])
    ⟨s6, y6, y7, rfl⟩ (fun j σ H3 hj hP => ?_) (fun σ H3 hP => ?_)⟩
  rotate_left
  · obtain ⟨s7, y6, y7, rfl⟩ := hP
    exact ⟨s7, _, _, _, _, rfl⟩
  obtain ⟨s7, y6, y7, rfl⟩ := hP
  have hvb : (first - 1 + (j : Int)).natAbs ≤ 2 ^ 40 := by omega
  generalize first - 1 + (j : Int) = v at *
  have hmo := Mf.of_low (A := v) hl1 (by omega) hvb
  have hol := low_le (u := v) (show 0 < l by omega)
  refine ⟨_, rfl, _, rfl, v, l, rfl, by omega, big_of (by omega), big_of (by omega), fun o no => ?_⟩
  generalize hou : (low v l).1 = ou at *
  generalize hom : (low v l).2 = om at *
  have s8 := s7.trans (same_upd no (o := tI [ou, om]))
  have eo : (upd H3 o (tI [ou, om])) o = some (tI [ou, om]) := upd_same
  have ep8 := s8 _ _ ep6
  have ex8 := s8 _ _ ex6
  have om0 := hmo.l0
  have hb := hbest ou om om0 (by omega)
  have hne : decide ([ou, om] = [bu, bl]) = false → ¬ ou * bl = bu * om := fun h k => by
    obtain ⟨e1, e2⟩ := low_unique (by omega) hmo.one (by omega) hmf.one k
    rw [e1, e2] at h
    simp at h
  refine ⟨fun σ H' => H' = upd H3 o (tI [ou, om]) ∧ σ = [some (.ref la), some (.ref x), some (.int most), some (.ref p), some (.int l), some (.int first), some (.int v), some (.ref o), none], ?_, ?_⟩
  · refine ⟨_, rfl, _, rfl, o, p, [ou, om], [bu, bl], rfl, rfl, SqT.of eo, SqT.of ep8, _, rfl, ?_⟩
    cases h : decide ([ou, om] = [bu, bl]) with
    | true => exact iteF (iteF ⟨rfl, rfl⟩)
    | false =>
      refine iteT ⟨_, rfl, _, rfl, _, rfl, x, o, p, n, ou, om, bu, bl, rfl, ex8, eo, ep8, hn, hmo, hmf, false, ?_, iteF ⟨rfl, rfl⟩⟩
      cases h2 : n.nrB ou om bu bl with
      | false => rfl
      | true => exact absurd ((Nu.nrB_iff hn.ok (by omega) (by omega) (hne h)).mp h2) hb.1
  rintro σ H' ⟨rfl, rfl⟩
  refine ⟨_, rfl, _, rfl, o, p, [ou, om], [bu, bl], rfl, rfl, SqT.of eo, SqT.of ep8, _, rfl, ?_⟩
  cases h : decide ([ou, om] = [bu, bl]) with
  | true => exact iteF (iteF ⟨s8, _, _, rfl⟩)
  | false =>
    refine iteT ⟨_, rfl, _, rfl, _, rfl, x, o, p, n, ou, om, bu, bl, rfl, ex8, eo, ep8, hn, hmo, hmf, _, rfl, ?_⟩
    cases h2 : (!n.nrB ou om bu bl && !n.nrB bu bl ou om) with
    | false => exact iteF (iteF ⟨s8, _, _, rfl⟩)
    | true =>
      rw [Bool.and_eq_true, Bool.not_eq_true', Bool.not_eq_true'] at h2
      have hno : ¬ n.nr bu bl ou om := fun k => by
        have := (Nu.nrB_iff hn.ok (u := bu) (l := bl) (v := ou) (m := om) (by omega) (by omega) (fun z => hne h z.symm)).mpr k
        rw [h2.2] at this
        cases this
      have hlex := hb.2 hno
      have g0 : atI ([ou, om].map V.int) 0 = some (.int ou) := atI_nat (j := 0) rfl
      have g1 : atI ([ou, om].map V.int) 1 = some (.int om) := atI_nat (j := 1) rfl
      refine iteT ⟨_, rfl, o, _, 1, _, rfl, rfl, SqT.of eo, g1, _, rfl, o, _, 0, _, rfl, rfl, SqT.of eo, g0, len2, fun t1 nt1 => ?_⟩
      have ep9 := same_upd nt1 (o := HO.tup [V.int om, V.int ou]) _ _ ep8
      refine ⟨_, rfl, p, _, 1, _, rfl, rfl, SqT.of ep9, gk, _, rfl, p, _, 0, _, rfl, rfl, SqT.of ep9, gu, len2, fun t2 nt2 => ?_⟩
      have s9 := (s8.trans (same_upd nt1 (o := HO.tup [V.int om, V.int ou]))).trans (same_upd nt2 (o := HO.tup [V.int bl, V.int bu]))
      refine ⟨t1, t2, [om, ou], [bl, bu], rfl, rfl, SqT.of (same_upd nt2 _ _ upd_same), SqT.of upd_same, false, congrArg V.bl ?_, iteF ⟨s9, _, _, rfl⟩⟩
      show (if om = bl then (if ou = bu then false else decide (ou < bu)) else decide (om < bl)) = false
      rcases hlex with hlt | ⟨e1, e2⟩
      · rw [if_neg (by omega)]
        exact decide_eq_false (by omega)
      · rw [if_pos e1.symm]
        split
        · rfl
        · exact decide_eq_false (by omega)
end
/-! ### what the top has written -/
theorem all_mk {l : PySem.W.OpenLaw} {w : World} {K : PySem.W.Frag} {h : Heap} {mg : Str → Option Value} {fa : Addr} (X : K.In h) (G : h.Ns mainGlobals mg) (hfa : mg "law" = some (.ref fa))
    {f0 : Addr} {od0 an0 : Option Addr} {sl0 : Array (Option Value)} {oc0 kV0 dc0 pm0 cd0 ct0 : Value}
    {f1 : Addr} {od1 an1 : Option Addr} {sl1 : Array (Option Value)} {oc1 kV1 dc1 pm1 cd1 ct1 : Value}
    {f2 : Addr} {od2 an2 : Option Addr} {sl2 : Array (Option Value)} {oc2 kV2 dc2 pm2 cd2 ct2 : Value}
    {f3 : Addr} {od3 an3 : Option Addr} {sl3 : Array (Option Value)} {oc3 kV3 dc3 pm3 cd3 ct3 : Value}
    {f4 : Addr} {od4 an4 : Option Addr} {sl4 : Array (Option Value)} {oc4 kV4 dc4 pm4 cd4 ct4 : Value}
    {f5 : Addr} {od5 an5 : Option Addr} {sl5 : Array (Option Value)} {oc5 kV5 dc5 pm5 cd5 ct5 : Value}
    {f6 : Addr} {od6 an6 : Option Addr} {sl6 : Array (Option Value)} {oc6 kV6 dc6 pm6 cd6 ct6 : Value}
    {f7 : Addr} {od7 an7 : Option Addr} {sl7 : Array (Option Value)} {oc7 kV7 dc7 pm7 cd7 ct7 : Value}
    {f8 : Addr} {od8 an8 : Option Addr} {sl8 : Array (Option Value)} {oc8 kV8 dc8 pm8 cd8 ct8 : Value}
    {f9 : Addr} {od9 an9 : Option Addr} {sl9 : Array (Option Value)} {oc9 kV9 dc9 pm9 cd9 ct9 : Value}
    {f10 : Addr} {od10 an10 : Option Addr} {sl10 : Array (Option Value)} {oc10 kV10 dc10 pm10 cd10 ct10 : Value}
    {f11 : Addr} {od11 an11 : Option Addr} {sl11 : Array (Option Value)} {oc11 kV11 dc11 pm11 cd11 ct11 : Value}
    {f12 : Addr} {od12 an12 : Option Addr} {sl12 : Array (Option Value)} {oc12 kV12 dc12 pm12 cd12 ct12 : Value}
    {f13 : Addr} {od13 an13 : Option Addr} {sl13 : Array (Option Value)} {oc13 kV13 dc13 pm13 cd13 ct13 : Value}
    {f14 : Addr} {od14 an14 : Option Addr} {sl14 : Array (Option Value)} {oc14 kV14 dc14 pm14 cd14 ct14 : Value}
    {f15 : Addr} {od15 an15 : Option Addr} {sl15 : Array (Option Value)} {oc15 kV15 dc15 pm15 cd15 ct15 : Value}
    {f16 : Addr} {od16 an16 : Option Addr} {sl16 : Array (Option Value)} {oc16 kV16 dc16 pm16 cd16 ct16 : Value}
    {f17 : Addr} {od17 an17 : Option Addr} {sl17 : Array (Option Value)} {oc17 kV17 dc17 pm17 cd17 ct17 : Value}
    {f18 : Addr} {od18 an18 : Option Addr} {sl18 : Array (Option Value)} {oc18 kV18 dc18 pm18 cd18 ct18 : Value}
    {f19 : Addr} {od19 an19 : Option Addr} {sl19 : Array (Option Value)} {oc19 kV19 dc19 pm19 cd19 ct19 : Value}
    {f20 : Addr} {od20 an20 : Option Addr} {sl20 : Array (Option Value)} {oc20 kV20 dc20 pm20 cd20 ct20 : Value}
    {f21 : Addr} {od21 an21 : Option Addr} {sl21 : Array (Option Value)} {oc21 kV21 dc21 pm21 cd21 ct21 : Value}
    {f22 : Addr} {od22 an22 : Option Addr} {sl22 : Array (Option Value)} {oc22 kV22 dc22 pm22 cd22 ct22 : Value}
    {f24 : Addr} {od24 an24 : Option Addr} {sl24 : Array (Option Value)} {oc24 kV24 dc24 pm24 cd24 ct24 : Value}
    {f25 : Addr} {od25 an25 : Option Addr} {sl25 : Array (Option Value)} {oc25 kV25 dc25 pm25 cd25 ct25 : Value}
    {f26 : Addr} {od26 an26 : Option Addr} {sl26 : Array (Option Value)} {oc26 kV26 dc26 pm26 cd26 ct26 : Value}
    {f27 : Addr} {od27 an27 : Option Addr} {sl27 : Array (Option Value)} {oc27 kV27 dc27 pm27 cd27 ct27 : Value}
    {f28 : Addr} {od28 an28 : Option Addr} {sl28 : Array (Option Value)} {oc28 kV28 dc28 pm28 cd28 ct28 : Value}
    {f29 : Addr} {od29 an29 : Option Addr} {sl29 : Array (Option Value)} {oc29 kV29 dc29 pm29 cd29 ct29 : Value}
    {f30 : Addr} {od30 an30 : Option Addr} {sl30 : Array (Option Value)} {oc30 kV30 dc30 pm30 cd30 ct30 : Value}
    {f31 : Addr} {od31 an31 : Option Addr} {sl31 : Array (Option Value)} {oc31 kV31 dc31 pm31 cd31 ct31 : Value}
    {C R : Addr}
    (a0 : PySem.W.nsIn K mainGlobals "divisor" = some (some (.ref f0)))
    (l0 : K.lookup f0 = some ⟨oc0, od0, .func (PySem.W.fnOf "divisor" "divisor" (defArgs s_divisor) (defBody s_divisor) (defScope s_divisor) .none kV0 dc0 pm0 an0 cd0 ct0), sl0⟩)
    (c0 : PySem.W.codeIn K cd0 "divisor" = true)
    (k0 : PySem.W.keepIn K (.ref f0) = true)
    (a1 : PySem.W.nsIn K mainGlobals "lowest" = some (some (.ref f1)))
    (l1 : K.lookup f1 = some ⟨oc1, od1, .func (PySem.W.fnOf "lowest" "lowest" (defArgs s_lowest) (defBody s_lowest) (defScope s_lowest) .none kV1 dc1 pm1 an1 cd1 ct1), sl1⟩)
    (c1 : PySem.W.codeIn K cd1 "lowest" = true)
    (k1 : PySem.W.keepIn K (.ref f1) = true)
    (a2 : PySem.W.nsIn K mainGlobals "least_square" = some (some (.ref f2)))
    (l2 : K.lookup f2 = some ⟨oc2, od2, .func (PySem.W.fnOf "least_square" "least_square" (defArgs s_least_square) (defBody s_least_square) (defScope s_least_square) .none kV2 dc2 pm2 an2 cd2 ct2), sl2⟩)
    (c2 : PySem.W.codeIn K cd2 "least_square" = true)
    (k2 : PySem.W.keepIn K (.ref f2) = true)
    (a3 : PySem.W.nsIn K mainGlobals "heart" = some (some (.ref f3)))
    (l3 : K.lookup f3 = some ⟨oc3, od3, .func (PySem.W.fnOf "heart" "heart" (defArgs s_heart) (defBody s_heart) (defScope s_heart) .none kV3 dc3 pm3 an3 cd3 ct3), sl3⟩)
    (c3 : PySem.W.codeIn K cd3 "heart" = true)
    (k3 : PySem.W.keepIn K (.ref f3) = true)
    (a4 : PySem.W.nsIn K mainGlobals "is_square" = some (some (.ref f4)))
    (l4 : K.lookup f4 = some ⟨oc4, od4, .func (PySem.W.fnOf "is_square" "is_square" (defArgs s_is_square) (defBody s_is_square) (defScope s_is_square) .none kV4 dc4 pm4 an4 cd4 ct4), sl4⟩)
    (c4 : PySem.W.codeIn K cd4 "is_square" = true)
    (k4 : PySem.W.keepIn K (.ref f4) = true)
    (a5 : PySem.W.nsIn K mainGlobals "root_of" = some (some (.ref f5)))
    (l5 : K.lookup f5 = some ⟨oc5, od5, .func (PySem.W.fnOf "root_of" "root_of" (defArgs s_root_of) (defBody s_root_of) (defScope s_root_of) .none kV5 dc5 pm5 an5 cd5 ct5), sl5⟩)
    (c5 : PySem.W.codeIn K cd5 "root_of" = true)
    (k5 : PySem.W.keepIn K (.ref f5) = true)
    (a6 : PySem.W.nsIn K mainGlobals "is_above" = some (some (.ref f6)))
    (l6 : K.lookup f6 = some ⟨oc6, od6, .func (PySem.W.fnOf "is_above" "is_above" (defArgs s_is_above) (defBody s_is_above) (defScope s_is_above) .none kV6 dc6 pm6 an6 cd6 ct6), sl6⟩)
    (c6 : PySem.W.codeIn K cd6 "is_above" = true)
    (k6 : PySem.W.keepIn K (.ref f6) = true)
    (a7 : PySem.W.nsIn K mainGlobals "part_of" = some (some (.ref f7)))
    (l7 : K.lookup f7 = some ⟨oc7, od7, .func (PySem.W.fnOf "part_of" "part_of" (defArgs s_part_of) (defBody s_part_of) (defScope s_part_of) .none kV7 dc7 pm7 an7 cd7 ct7), sl7⟩)
    (c7 : PySem.W.codeIn K cd7 "part_of" = true)
    (k7 : PySem.W.keepIn K (.ref f7) = true)
    (a8 : PySem.W.nsIn K mainGlobals "moved" = some (some (.ref f8)))
    (l8 : K.lookup f8 = some ⟨oc8, od8, .func (PySem.W.fnOf "moved" "moved" (defArgs s_moved) (defBody s_moved) (defScope s_moved) .none kV8 dc8 pm8 an8 cd8 ct8), sl8⟩)
    (c8 : PySem.W.codeIn K cd8 "moved" = true)
    (k8 : PySem.W.keepIn K (.ref f8) = true)
    (a9 : PySem.W.nsIn K mainGlobals "turned" = some (some (.ref f9)))
    (l9 : K.lookup f9 = some ⟨oc9, od9, .func (PySem.W.fnOf "turned" "turned" (defArgs s_turned) (defBody s_turned) (defScope s_turned) .none kV9 dc9 pm9 an9 cd9 ct9), sl9⟩)
    (c9 : PySem.W.codeIn K cd9 "turned" = true)
    (k9 : PySem.W.keepIn K (.ref f9) = true)
    (a10 : PySem.W.nsIn K mainGlobals "by_fraction" = some (some (.ref f10)))
    (l10 : K.lookup f10 = some ⟨oc10, od10, .func (PySem.W.fnOf "by_fraction" "by_fraction" (defArgs s_by_fraction) (defBody s_by_fraction) (defScope s_by_fraction) .none kV10 dc10 pm10 an10 cd10 ct10), sl10⟩)
    (c10 : PySem.W.codeIn K cd10 "by_fraction" = true)
    (k10 : PySem.W.keepIn K (.ref f10) = true)
    (a11 : PySem.W.nsIn K mainGlobals "by_rows" = some (some (.ref f11)))
    (l11 : K.lookup f11 = some ⟨oc11, od11, .func (PySem.W.fnOf "by_rows" "by_rows" (defArgs s_by_rows) (defBody s_by_rows) (defScope s_by_rows) .none kV11 dc11 pm11 an11 cd11 ct11), sl11⟩)
    (c11 : PySem.W.codeIn K cd11 "by_rows" = true)
    (k11 : PySem.W.keepIn K (.ref f11) = true)
    (a12 : PySem.W.nsIn K mainGlobals "compare" = some (some (.ref f12)))
    (l12 : K.lookup f12 = some ⟨oc12, od12, .func (PySem.W.fnOf "compare" "compare" (defArgs s_compare) (defBody s_compare) (defScope s_compare) .none kV12 dc12 pm12 an12 cd12 ct12), sl12⟩)
    (c12 : PySem.W.codeIn K cd12 "compare" = true)
    (k12 : PySem.W.keepIn K (.ref f12) = true)
    (a13 : PySem.W.nsIn K mainGlobals "first_above" = some (some (.ref f13)))
    (l13 : K.lookup f13 = some ⟨oc13, od13, .func (PySem.W.fnOf "first_above" "first_above" (defArgs s_first_above) (defBody s_first_above) (defScope s_first_above) .none kV13 dc13 pm13 an13 cd13 ct13), sl13⟩)
    (c13 : PySem.W.codeIn K cd13 "first_above" = true)
    (k13 : PySem.W.keepIn K (.ref f13) = true)
    (a14 : PySem.W.nsIn K mainGlobals "distance_less" = some (some (.ref f14)))
    (l14 : K.lookup f14 = some ⟨oc14, od14, .func (PySem.W.fnOf "distance_less" "distance_less" (defArgs s_distance_less) (defBody s_distance_less) (defScope s_distance_less) .none kV14 dc14 pm14 an14 cd14 ct14), sl14⟩)
    (c14 : PySem.W.codeIn K cd14 "distance_less" = true)
    (k14 : PySem.W.keepIn K (.ref f14) = true)
    (a15 : PySem.W.nsIn K mainGlobals "nearest" = some (some (.ref f15)))
    (l15 : K.lookup f15 = some ⟨oc15, od15, .func (PySem.W.fnOf "nearest" "nearest" (defArgs s_nearest) (defBody s_nearest) (defScope s_nearest) .none kV15 dc15 pm15 an15 cd15 ct15), sl15⟩)
    (c15 : PySem.W.codeIn K cd15 "nearest" = true)
    (k15 : PySem.W.keepIn K (.ref f15) = true)
    (a16 : PySem.W.nsIn K mainGlobals "_law_cell" = some (some (.ref f16)))
    (l16 : K.lookup f16 = some ⟨oc16, od16, .func (PySem.W.fnOf "_law_cell" "_law_cell" (defArgs s__law_cell) (defBody s__law_cell) (defScope s__law_cell) .none kV16 dc16 pm16 an16 cd16 ct16), sl16⟩)
    (c16 : PySem.W.codeIn K cd16 "_law_cell" = true)
    (k16 : PySem.W.keepIn K (.ref f16) = true)
    (a17 : PySem.W.nsIn K mainGlobals "_law_mix" = some (some (.ref f17)))
    (l17 : K.lookup f17 = some ⟨oc17, od17, .func (PySem.W.fnOf "_law_mix" "_law_mix" (defArgs s__law_mix) (defBody s__law_mix) (defScope s__law_mix) .none kV17 dc17 pm17 an17 cd17 ct17), sl17⟩)
    (c17 : PySem.W.codeIn K cd17 "_law_mix" = true)
    (k17 : PySem.W.keepIn K (.ref f17) = true)
    (a18 : PySem.W.nsIn K mainGlobals "_law_whole" = some (some (.ref f18)))
    (l18 : K.lookup f18 = some ⟨oc18, od18, .func (PySem.W.fnOf "_law_whole" "_law_whole" (defArgs s__law_whole) (defBody s__law_whole) (defScope s__law_whole) .none kV18 dc18 pm18 an18 cd18 ct18), sl18⟩)
    (c18 : PySem.W.codeIn K cd18 "_law_whole" = true)
    (k18 : PySem.W.keepIn K (.ref f18) = true)
    (a19 : PySem.W.nsIn K mainGlobals "_law_divisor" = some (some (.ref f19)))
    (l19 : K.lookup f19 = some ⟨oc19, od19, .func (PySem.W.fnOf "_law_divisor" "_law_divisor" (defArgs s__law_divisor) (defBody s__law_divisor) (defScope s__law_divisor) .none kV19 dc19 pm19 an19 cd19 ct19), sl19⟩)
    (c19 : PySem.W.codeIn K cd19 "_law_divisor" = true)
    (k19 : PySem.W.keepIn K (.ref f19) = true)
    (a20 : PySem.W.nsIn K mainGlobals "_law_lowest" = some (some (.ref f20)))
    (l20 : K.lookup f20 = some ⟨oc20, od20, .func (PySem.W.fnOf "_law_lowest" "_law_lowest" (defArgs s__law_lowest) (defBody s__law_lowest) (defScope s__law_lowest) .none kV20 dc20 pm20 an20 cd20 ct20), sl20⟩)
    (c20 : PySem.W.codeIn K cd20 "_law_lowest" = true)
    (k20 : PySem.W.keepIn K (.ref f20) = true)
    (a21 : PySem.W.nsIn K mainGlobals "_law_fraction" = some (some (.ref f21)))
    (l21 : K.lookup f21 = some ⟨oc21, od21, .func (PySem.W.fnOf "_law_fraction" "_law_fraction" (defArgs s__law_fraction) (defBody s__law_fraction) (defScope s__law_fraction) .none kV21 dc21 pm21 an21 cd21 ct21), sl21⟩)
    (c21 : PySem.W.codeIn K cd21 "_law_fraction" = true)
    (k21 : PySem.W.keepIn K (.ref f21) = true)
    (a22 : PySem.W.nsIn K mainGlobals "_law_square" = some (some (.ref f22)))
    (l22 : K.lookup f22 = some ⟨oc22, od22, .func (PySem.W.fnOf "_law_square" "_law_square" (defArgs s__law_square) (defBody s__law_square) (defScope s__law_square) .none kV22 dc22 pm22 an22 cd22 ct22), sl22⟩)
    (c22 : PySem.W.codeIn K cd22 "_law_square" = true)
    (k22 : PySem.W.keepIn K (.ref f22) = true)
    (a24 : PySem.W.nsIn K mainGlobals "_law_root" = some (some (.ref f24)))
    (l24 : K.lookup f24 = some ⟨oc24, od24, .func (PySem.W.fnOf "_law_root" "_law_root" (defArgs s__law_root) (defBody s__law_root) (defScope s__law_root) .none kV24 dc24 pm24 an24 cd24 ct24), sl24⟩)
    (c24 : PySem.W.codeIn K cd24 "_law_root" = true)
    (k24 : PySem.W.keepIn K (.ref f24) = true)
    (a25 : PySem.W.nsIn K mainGlobals "_law_above" = some (some (.ref f25)))
    (l25 : K.lookup f25 = some ⟨oc25, od25, .func (PySem.W.fnOf "_law_above" "_law_above" (defArgs s__law_above) (defBody s__law_above) (defScope s__law_above) .none kV25 dc25 pm25 an25 cd25 ct25), sl25⟩)
    (c25 : PySem.W.codeIn K cd25 "_law_above" = true)
    (k25 : PySem.W.keepIn K (.ref f25) = true)
    (a26 : PySem.W.nsIn K mainGlobals "_law_below" = some (some (.ref f26)))
    (l26 : K.lookup f26 = some ⟨oc26, od26, .func (PySem.W.fnOf "_law_below" "_law_below" (defArgs s__law_below) (defBody s__law_below) (defScope s__law_below) .none kV26 dc26 pm26 an26 cd26 ct26), sl26⟩)
    (c26 : PySem.W.codeIn K cd26 "_law_below" = true)
    (k26 : PySem.W.keepIn K (.ref f26) = true)
    (a27 : PySem.W.nsIn K mainGlobals "_law_over" = some (some (.ref f27)))
    (l27 : K.lookup f27 = some ⟨oc27, od27, .func (PySem.W.fnOf "_law_over" "_law_over" (defArgs s__law_over) (defBody s__law_over) (defScope s__law_over) .none kV27 dc27 pm27 an27 cd27 ct27), sl27⟩)
    (c27 : PySem.W.codeIn K cd27 "_law_over" = true)
    (k27 : PySem.W.keepIn K (.ref f27) = true)
    (a28 : PySem.W.nsIn K mainGlobals "_law_number" = some (some (.ref f28)))
    (l28 : K.lookup f28 = some ⟨oc28, od28, .func (PySem.W.fnOf "_law_number" "_law_number" (defArgs s__law_number) (defBody s__law_number) (defScope s__law_number) .none kV28 dc28 pm28 an28 cd28 ct28), sl28⟩)
    (c28 : PySem.W.codeIn K cd28 "_law_number" = true)
    (k28 : PySem.W.keepIn K (.ref f28) = true)
    (a29 : PySem.W.nsIn K mainGlobals "_law_nearer" = some (some (.ref f29)))
    (l29 : K.lookup f29 = some ⟨oc29, od29, .func (PySem.W.fnOf "_law_nearer" "_law_nearer" (defArgs s__law_nearer) (defBody s__law_nearer) (defScope s__law_nearer) .none kV29 dc29 pm29 an29 cd29 ct29), sl29⟩)
    (c29 : PySem.W.codeIn K cd29 "_law_nearer" = true)
    (k29 : PySem.W.keepIn K (.ref f29) = true)
    (a30 : PySem.W.nsIn K mainGlobals "_law_as_near" = some (some (.ref f30)))
    (l30 : K.lookup f30 = some ⟨oc30, od30, .func (PySem.W.fnOf "_law_as_near" "_law_as_near" (defArgs s__law_as_near) (defBody s__law_as_near) (defScope s__law_as_near) .none kV30 dc30 pm30 an30 cd30 ct30), sl30⟩)
    (c30 : PySem.W.codeIn K cd30 "_law_as_near" = true)
    (k30 : PySem.W.keepIn K (.ref f30) = true)
    (a31 : PySem.W.nsIn K mainGlobals "law" = some (some (.ref f31)))
    (l31 : K.lookup f31 = some ⟨oc31, od31, .func (PySem.W.fnOf "law" "law" (defArgs s_law) (defBody s_law) (defScope s_law) .none kV31 dc31 pm31 an31 cd31 ct31), sl31⟩)
    (c31 : PySem.W.codeIn K cd31 "law" = true)
    (k31 : PySem.W.keepIn K (.ref f31) = true)
    (z_len : PySem.W.nsIn K mainGlobals "len" = some none)
    (z_all : PySem.W.nsIn K mainGlobals "all" = some none)
    (z_reversed : PySem.W.nsIn K mainGlobals "reversed" = some none)
    (z_tuple : PySem.W.nsIn K mainGlobals "tuple" = some none)
    (z_abs : PySem.W.nsIn K mainGlobals "abs" = some none)
    (z_range : PySem.W.nsIn K mainGlobals "range" = some none)
    (z_isinstance : PySem.W.nsIn K mainGlobals "isinstance" = some none)
    (z_int : PySem.W.nsIn K mainGlobals "int" = some none)
    (z_bool : PySem.W.nsIn K mainGlobals "bool" = some none)
    (z_ValueError : PySem.W.nsIn K mainGlobals "ValueError" = some none)
    (z_list : PySem.W.nsIn K mainGlobals "list" = some none)
    (z_sum : PySem.W.nsIn K mainGlobals "sum" = some none)
    (z_min : PySem.W.nsIn K mainGlobals "min" = some none)
    (z_enumerate : PySem.W.nsIn K mainGlobals "enumerate" = some none)
    (gC : PySem.W.nsIn K mainGlobals "NoNumber" = some (some (.ref C)))
    (gR : PySem.W.nsIn K mainGlobals "RowError" = some (some (.ref R)))
    (xC : PySem.W.excIn K C [.type "ValueError", .type "Exception", .type "BaseException", .type "object"] "ValueError.__new__" = true)
    (kC : PySem.W.keepIn K (.ref C) = true)
    (bC : PySem.W.subIn K (.ref C) (.type "BaseException") = some true)
    (tC : PySem.W.typeIn K (.ref C) = some (.type "type"))
    (bR : PySem.W.subIn K (.ref R) (.type "BaseException") = some true)
    (dR : PySem.W.hasDictIn K R = true)
    (tR : PySem.W.typeIn K (.ref R) = some (.type "type"))
    (sR : PySem.W.subIn K (.ref C) (.ref R) = some true)
    (e1 : PySem.W.findIn K (.ref C) "__getattribute__" = some (some (.builtin "BaseException.__getattribute__")))
    (e2 : PySem.W.findIn K (.ref C) "__getattr__" = some none)
    (e4 : PySem.W.hasDictIn K C = true)
    (e5 : PySem.W.findIn K (.ref C) "__class__" = some (some (.builtin "object.__class__")))
    (e6 : PySem.W.specialIn K (.builtin "object.__class__") "__get__" = some (some (.builtin "getset_descriptor.__get__")))
    (e7 : PySem.W.takesIn K (.builtin "object.__class__") = some true)
    (e8 : PySem.W.mroIn K C (.type "object") = some true)
    (iV : PySem.W.subIn K (.ref C) (.type "ValueError") = some true) :
    ∃ fd : FuncData, (∀ (s : Shared) (v : Value), BindsTo s fd ⟨[v], []⟩ [("_law_script", v)]) ∧ ∀ base : Heap, K.In base → base.Ns mainGlobals mg → FnOk l.prog w K mg base CX0 40 fa fd ["_law_script"] (sp_law K) := by
  have e := hfa.symm.trans (PySem.W.mg_of X G a31)
  cases e
  have D_divisor : Df K mg "divisor" p_divisor s_divisor := df_mk X G a0 l0 c0 k0 fun _ _ _ _ _ _ us hl => match us, hl with | [_, _], _ => rfl
  have D_lowest : Df K mg "lowest" p_lowest s_lowest := df_mk X G a1 l1 c1 k1 fun _ _ _ _ _ _ us hl => match us, hl with | [_, _], _ => rfl
  have D_least_square : Df K mg "least_square" p_least_square s_least_square := df_mk X G a2 l2 c2 k2 fun _ _ _ _ _ _ us hl => match us, hl with | [_], _ => rfl
  have D_heart : Df K mg "heart" p_heart s_heart := df_mk X G a3 l3 c3 k3 fun _ _ _ _ _ _ us hl => match us, hl with | [_, _, _], _ => rfl
  have D_is_square : Df K mg "is_square" p_is_square s_is_square := df_mk X G a4 l4 c4 k4 fun _ _ _ _ _ _ us hl => match us, hl with | [_], _ => rfl
  have D_root_of : Df K mg "root_of" p_root_of s_root_of := df_mk X G a5 l5 c5 k5 fun _ _ _ _ _ _ us hl => match us, hl with | [_, _, _, _], _ => rfl
  have D_is_above : Df K mg "is_above" p_is_above s_is_above := df_mk X G a6 l6 c6 k6 fun _ _ _ _ _ _ us hl => match us, hl with | [_, _, _], _ => rfl
  have D_part_of : Df K mg "part_of" p_part_of s_part_of := df_mk X G a7 l7 c7 k7 fun _ _ _ _ _ _ us hl => match us, hl with | [_], _ => rfl
  have D_moved : Df K mg "moved" p_moved s_moved := df_mk X G a8 l8 c8 k8 fun _ _ _ _ _ _ us hl => match us, hl with | [_, _], _ => rfl
  have D_turned : Df K mg "turned" p_turned s_turned := df_mk X G a9 l9 c9 k9 fun _ _ _ _ _ _ us hl => match us, hl with | [_, _], _ => rfl
  have D_by_fraction : Df K mg "by_fraction" p_by_fraction s_by_fraction := df_mk X G a10 l10 c10 k10 fun _ _ _ _ _ _ us hl => match us, hl with | [_, _], _ => rfl
  have D_by_rows : Df K mg "by_rows" p_by_rows s_by_rows := df_mk X G a11 l11 c11 k11 fun _ _ _ _ _ _ us hl => match us, hl with | [_, _], _ => rfl
  have D_compare : Df K mg "compare" p_compare s_compare := df_mk X G a12 l12 c12 k12 fun _ _ _ _ _ _ us hl => match us, hl with | [_, _], _ => rfl
  have D_first_above : Df K mg "first_above" p_first_above s_first_above := df_mk X G a13 l13 c13 k13 fun _ _ _ _ _ _ us hl => match us, hl with | [_, _], _ => rfl
  have D_distance_less : Df K mg "distance_less" p_distance_less s_distance_less := df_mk X G a14 l14 c14 k14 fun _ _ _ _ _ _ us hl => match us, hl with | [_, _, _], _ => rfl
  have D_nearest : Df K mg "nearest" p_nearest s_nearest := df_mk X G a15 l15 c15 k15 fun _ _ _ _ _ _ us hl => match us, hl with | [_, _], _ => rfl
  have D__law_cell : Df K mg "_law_cell" p__law_cell s__law_cell := df_mk X G a16 l16 c16 k16 fun _ _ _ _ _ _ us hl => match us, hl with | [_, _], _ => rfl
  have D__law_mix : Df K mg "_law_mix" p__law_mix s__law_mix := df_mk X G a17 l17 c17 k17 fun _ _ _ _ _ _ us hl => match us, hl with | [_, _, _], _ => rfl
  have D__law_whole : Df K mg "_law_whole" p__law_whole s__law_whole := df_mk X G a18 l18 c18 k18 fun _ _ _ _ _ _ us hl => match us, hl with | [_], _ => rfl
  have D__law_divisor : Df K mg "_law_divisor" p__law_divisor s__law_divisor := df_mk X G a19 l19 c19 k19 fun _ _ _ _ _ _ us hl => match us, hl with | [_, _], _ => rfl
  have D__law_lowest : Df K mg "_law_lowest" p__law_lowest s__law_lowest := df_mk X G a20 l20 c20 k20 fun _ _ _ _ _ _ us hl => match us, hl with | [_, _], _ => rfl
  have D__law_fraction : Df K mg "_law_fraction" p__law_fraction s__law_fraction := df_mk X G a21 l21 c21 k21 fun _ _ _ _ _ _ us hl => match us, hl with | [_, _, _], _ => rfl
  have D__law_square : Df K mg "_law_square" p__law_square s__law_square := df_mk X G a22 l22 c22 k22 fun _ _ _ _ _ _ us hl => match us, hl with | [_], _ => rfl
  have D__law_root : Df K mg "_law_root" p__law_root s__law_root := df_mk X G a24 l24 c24 k24 fun _ _ _ _ _ _ us hl => match us, hl with | [_, _, _], _ => rfl
  have D__law_above : Df K mg "_law_above" p__law_above s__law_above := df_mk X G a25 l25 c25 k25 fun _ _ _ _ _ _ us hl => match us, hl with | [_, _, _], _ => rfl
  have D__law_below : Df K mg "_law_below" p__law_below s__law_below := df_mk X G a26 l26 c26 k26 fun _ _ _ _ _ _ us hl => match us, hl with | [_, _, _], _ => rfl
  have D__law_over : Df K mg "_law_over" p__law_over s__law_over := df_mk X G a27 l27 c27 k27 fun _ _ _ _ _ _ us hl => match us, hl with | [_, _, _], _ => rfl
  have D__law_number : Df K mg "_law_number" p__law_number s__law_number := df_mk X G a28 l28 c28 k28 fun _ _ _ _ _ _ us hl => match us, hl with | [_, _, _], _ => rfl
  have D__law_nearer : Df K mg "_law_nearer" p__law_nearer s__law_nearer := df_mk X G a29 l29 c29 k29 fun _ _ _ _ _ _ us hl => match us, hl with | [_, _, _], _ => rfl
  have D__law_as_near : Df K mg "_law_as_near" p__law_as_near s__law_as_near := df_mk X G a30 l30 c30 k30 fun _ _ _ _ _ _ us hl => match us, hl with | [_, _, _], _ => rfl
  have B : Bl mg := ⟨PySem.W.mg_none_of X G z_len, PySem.W.mg_none_of X G z_all, PySem.W.mg_none_of X G z_reversed, PySem.W.mg_none_of X G z_tuple, PySem.W.mg_none_of X G z_abs, PySem.W.mg_none_of X G z_range, PySem.W.mg_none_of X G z_isinstance, PySem.W.mg_none_of X G z_int, PySem.W.mg_none_of X G z_bool, PySem.W.mg_none_of X G z_ValueError, PySem.W.mg_none_of X G z_list, PySem.W.mg_none_of X G z_sum, PySem.W.mg_none_of X G z_min, PySem.W.mg_none_of X G z_enumerate⟩
  have N : NoN K mg C R := ⟨PySem.W.mg_of X G gC, PySem.W.mg_of X G gR, xC, kC, bC, tC, bR, dR, tR, sR, ⟨e1, e2, bC, e4, e5, e6, e7, e8⟩, kit_vt (by decide +kernel) iV, PySem.W.mg_none_of X G z_ValueError, PySem.W.mg_none_of X G z_isinstance⟩
  have F := fun_mk (st := s_law) l31 c31 k31
  refine ⟨PySem.W.fnOf "law" "law" (defArgs s_law) (defBody s_law) (defScope s_law) .none kV31 dc31 pm31 an31 cd31 ct31, fun s v => .of_eq rfl, fun base _ _ => ?_⟩
  have Cd0 := ok_divisor (P := l.prog) (w := w) (base := base) D_divisor B
  have Clw := ok_lowest D_lowest N Cd0
  have Cls := ok_least_square (P := l.prog) (w := w) (base := base) D_least_square
  have Ch := ok_heart (P := l.prog) (w := w) (base := base) D_heart
  have Cs0 := ok_is_square D_is_square Cls
  have Cro := ok_root_of D_root_of N Ch Cs0 Cd0
  have Cia := ok_is_above (P := l.prog) (w := w) (base := base) D_is_above
  have Cp := ok_part_of D_part_of B Ch Cls
  have Cmo := ok_moved (P := l.prog) (w := w) (base := base) D_moved
  have Ct := ok_turned D_turned Cmo Cro
  have Cbf := ok_by_fraction D_by_fraction Cia
  have Cbr := ok_by_rows D_by_rows Cp Ct
  have Co := ok_compare D_compare B Cbr Cbf
  have Cfa := ok_first_above D_first_above B Cp Co Clw
  have Cdl := ok_distance_less D_distance_less Co Clw
  have Ce := ok_nearest D_nearest B Cp Cfa Clw Cdl
  have Cc := ok__law_cell (P := l.prog) (w := w) (base := base) D__law_cell B
  have Cm := ok__law_mix (P := l.prog) (w := w) (base := base) D__law_mix
  have Cw := ok__law_whole (P := l.prog) (w := w) (base := base) D__law_whole B
  have Cd := ok__law_divisor (P := l.prog) (w := w) (base := base) D__law_divisor B
  have Cl := ok__law_lowest D__law_lowest Cd
  have Cf := ok__law_fraction D__law_fraction Cm Cl
  have Cq := ok__law_square (P := l.prog) (w := w) (base := base) D__law_square
  have Crd := ok__law_root D__law_root B Cm Cq Cd
  have Ca0 := ok__law_above (P := l.prog) (w := w) (base := base) D__law_above
  have Cb := ok__law_below D__law_below B Ca0
  have Cov := ok__law_over D__law_over B Ca0
  have Cn := ok__law_number D__law_number Cc Cf Crd
  have Ck := ok_nearer D__law_nearer Cb Cov
  have Ca := ok_as_near D__law_as_near Ck
  exact ok_law F B Cc Cn Cf Ce Cw Cl Cp Ck Ca
end RR
open PySem PySem.W PyProof.Rows
set_option maxHeartbeats 0 in
theorem PySem.Challenge.cw_rootrow_k08_whole_nearest_holds : PySem.Challenge.rw_rootrow_k08_whole_nearest.Holds := by
  w_on; o_law; k_head; (case hw => w_witness2)
  k_fill
  refine L2.walk_of (l := PySem.Challenge.rw_rootrow_k08_whole_nearest) (n := 63) (k := 40) (x := "_law_script") (CX := fun _ => L2.CX0) (sp := fun w => RR.sp_law _) rfl (by decide) rfl ⟨rfl, by decide, by decide⟩ (fun w h Y => PySem.W.kIn_of Y) ?F (fun _ _ a ns hl _ hS => ⟨a, ns, rfl, hS, hl, fun _ => rfl⟩) (fun _ _ _ _ _ h => h)
  case F =>
    intro w mg fa h KX G hmg
    refine' RR.all_mk KX G hmg ?a0 ?l0 ?c0 ?k0 ?a1 ?l1 ?c1 ?k1 ?a2 ?l2 ?c2 ?k2 ?a3 ?l3 ?c3 ?k3 ?a4 ?l4 ?c4 ?k4 ?a5 ?l5 ?c5 ?k5 ?a6 ?l6 ?c6 ?k6 ?a7 ?l7 ?c7 ?k7 ?a8 ?l8 ?c8 ?k8 ?a9 ?l9 ?c9 ?k9 ?a10 ?l10 ?c10 ?k10 ?a11 ?l11 ?c11 ?k11 ?a12 ?l12 ?c12 ?k12 ?a13 ?l13 ?c13 ?k13 ?a14 ?l14 ?c14 ?k14 ?a15 ?l15 ?c15 ?k15 ?a16 ?l16 ?c16 ?k16 ?a17 ?l17 ?c17 ?k17 ?a18 ?l18 ?c18 ?k18 ?a19 ?l19 ?c19 ?k19 ?a20 ?l20 ?c20 ?k20 ?a21 ?l21 ?c21 ?k21 ?a22 ?l22 ?c22 ?k22 ?a24 ?l24 ?c24 ?k24 ?a25 ?l25 ?c25 ?k25 ?a26 ?l26 ?c26 ?k26 ?a27 ?l27 ?c27 ?k27 ?a28 ?l28 ?c28 ?k28 ?a29 ?l29 ?c29 ?k29 ?a30 ?l30 ?c30 ?k30 ?a31 ?l31 ?c31 ?k31 ?z_len ?z_all ?z_reversed ?z_tuple ?z_abs ?z_range ?z_isinstance ?z_int ?z_bool ?z_ValueError ?z_list ?z_sum ?z_min ?z_enumerate ?gC ?gR ?xC ?kC ?bC ?tC ?bR ?dR ?tR ?sR ?e1 ?e2 ?e4 ?e5 ?e6 ?e7 ?e8 ?iV
    (case a0 => k_is)
    (case l0 => k_is)
    (case c0 => k_is)
    (case k0 => k_is)
    (case a1 => k_is)
    (case l1 => k_is)
    (case c1 => k_is)
    (case k1 => k_is)
    (case a2 => k_is)
    (case l2 => k_is)
    (case c2 => k_is)
    (case k2 => k_is)
    (case a3 => k_is)
    (case l3 => k_is)
    (case c3 => k_is)
    (case k3 => k_is)
    (case a4 => k_is)
    (case l4 => k_is)
    (case c4 => k_is)
    (case k4 => k_is)
    (case a5 => k_is)
    (case l5 => k_is)
    (case c5 => k_is)
    (case k5 => k_is)
    (case a6 => k_is)
    (case l6 => k_is)
    (case c6 => k_is)
    (case k6 => k_is)
    (case a7 => k_is)
    (case l7 => k_is)
    (case c7 => k_is)
    (case k7 => k_is)
    (case a8 => k_is)
    (case l8 => k_is)
    (case c8 => k_is)
    (case k8 => k_is)
    (case a9 => k_is)
    (case l9 => k_is)
    (case c9 => k_is)
    (case k9 => k_is)
    (case a10 => k_is)
    (case l10 => k_is)
    (case c10 => k_is)
    (case k10 => k_is)
    (case a11 => k_is)
    (case l11 => k_is)
    (case c11 => k_is)
    (case k11 => k_is)
    (case a12 => k_is)
    (case l12 => k_is)
    (case c12 => k_is)
    (case k12 => k_is)
    (case a13 => k_is)
    (case l13 => k_is)
    (case c13 => k_is)
    (case k13 => k_is)
    (case a14 => k_is)
    (case l14 => k_is)
    (case c14 => k_is)
    (case k14 => k_is)
    (case a15 => k_is)
    (case l15 => k_is)
    (case c15 => k_is)
    (case k15 => k_is)
    (case a16 => k_is)
    (case l16 => k_is)
    (case c16 => k_is)
    (case k16 => k_is)
    (case a17 => k_is)
    (case l17 => k_is)
    (case c17 => k_is)
    (case k17 => k_is)
    (case a18 => k_is)
    (case l18 => k_is)
    (case c18 => k_is)
    (case k18 => k_is)
    (case a19 => k_is)
    (case l19 => k_is)
    (case c19 => k_is)
    (case k19 => k_is)
    (case a20 => k_is)
    (case l20 => k_is)
    (case c20 => k_is)
    (case k20 => k_is)
    (case a21 => k_is)
    (case l21 => k_is)
    (case c21 => k_is)
    (case k21 => k_is)
    (case a22 => k_is)
    (case l22 => k_is)
    (case c22 => k_is)
    (case k22 => k_is)
    (case a24 => k_is)
    (case l24 => k_is)
    (case c24 => k_is)
    (case k24 => k_is)
    (case a25 => k_is)
    (case l25 => k_is)
    (case c25 => k_is)
    (case k25 => k_is)
    (case a26 => k_is)
    (case l26 => k_is)
    (case c26 => k_is)
    (case k26 => k_is)
    (case a27 => k_is)
    (case l27 => k_is)
    (case c27 => k_is)
    (case k27 => k_is)
    (case a28 => k_is)
    (case l28 => k_is)
    (case c28 => k_is)
    (case k28 => k_is)
    (case a29 => k_is)
    (case l29 => k_is)
    (case c29 => k_is)
    (case k29 => k_is)
    (case a30 => k_is)
    (case l30 => k_is)
    (case c30 => k_is)
    (case k30 => k_is)
    (case a31 => k_is)
    (case l31 => k_is)
    (case c31 => k_is)
    (case k31 => k_is)
    (case z_len => k_is)
    (case z_all => k_is)
    (case z_reversed => k_is)
    (case z_tuple => k_is)
    (case z_abs => k_is)
    (case z_range => k_is)
    (case z_isinstance => k_is)
    (case z_int => k_is)
    (case z_bool => k_is)
    (case z_ValueError => k_is)
    (case z_list => k_is)
    (case z_sum => k_is)
    (case z_min => k_is)
    (case z_enumerate => k_is)
    (case gC => k_is)
    (case gR => k_is)
    (case xC => first | k_exc | k_is)
    (case kC => k_is)
    (case bC => k_is)
    (case tC => k_is)
    (case bR => k_is)
    (case dR => k_is)
    (case tR => k_is)
    (case sR => k_is)
    (case e1 => k_is)
    (case e2 => k_is)
    (case e4 => k_is)
    (case e5 => k_is)
    (case e6 => k_is)
    (case e7 => k_is)
    (case e8 => k_is)
    (case iV => k_is)
