/- Contracts of the program: copies, calls over each other. -/
import Derived.Test.YtekkimfdcbgcoacA3
namespace Go.Proofs.Ytekkimfdcbgcoac.Am
open Go
set_option maxRecDepth 100000
set_option maxHeartbeats 4000000
set_option linter.unusedSimpArgs false
set_option linter.unusedVariables false
attribute [local go_sem ↓] bv_t bv_c ev_t ev_c put_same put_ne put_none kill_at pro_at lb_same lb_ne start_zero start_succ wpC_seq wpC_reg wpC_cond wpC_block wpC_skip wpC_exit wpC_ret thenQ_normal thenQ_exit thenQ_ret inBlk_normal inBlk_exit inBlk_ret wpS_nil wpS_step wpS_again wpS_guard wpO_mov wpO_load wpO_faddr wpO_nilCheck wpO_pick wpO_build wpO_bin wpO_eqb wpO_eqst wpO_eqnil wpO_not wpO_conv wpO_bytesStr wpO_iaddr wpO_idxStr wpO_field wpO_extract wpO_len wpO_lenStr wpO_cap wpO_min wpO_slice wpO_sliceStr wpO_alloc wpO_box wpO_store wpO_call wpO_callv wpO_mkfn wpO_buildSlice wpO_mkslice wpO_append wpO_appz proA_nil proA_cons tmpX_nil tmpX_tmp tmpX_cell doneB_normal doneB_ret agK_cons agK_nil agK_guard agG_tt agG_ff agG_tf agG_ft agG_undef pureB_load results_one results_two results_nil resBs_cons resBs_nil resB_tmp resB_cell
attribute [local go_sem] kill_v kill_lp_ne kill_lp_same pro_v pro_lp_same pro_lp_ne av_v av_lp optB_some optX_some valX_eq ldX_lp ldX_v faX_lp faX_v ncX_lp ncX_ptr ncX_fn boxK_one boxK_agg stL_some stK_lp_one stK_lp_agg stK_v_one stK_v_agg proM_v proM_lp callG_mk callVG_mk callvK_fn fnG_mk ptrsA_nil ptrsA_cons callH_some whenA_true whenA_false guardH_tt guardH_ff guardH_tf guardH_ft guardH_undef agV_one agV_agg lenO_sl lenStrO_str notO_bool pickO_bool convO_int eqbO_bool eqnilO_sl extractO_tup capO_sl minO_int loadL_one loadL_all storeL_eq fillA_nil fillA_one fillA_agg nat_ge neg_ge nat_lt neg_lt buildO bin_add bin_sub bin_mul bin_eql bin_neq bin_lss bin_leq bin_gtr bin_geq str_eql str_neq str_lss str_leq str_gtr str_geq retK_some endK_mk gcK_same gcK_int gcK_bool tupO_one tupO_agg rdy_self ib ii Option.map_none Option.map_some Option.some.injEq exists_eq_left' exists_eq_left ne_eq not_false_eq_true if_true if_false List.map_cons List.map_nil List.getElem?_cons_zero List.getElem?_cons_succ List.length_cons List.length_nil List.take_succ_cons List.take_zero List.take_nil List.drop_succ_cons List.drop_zero List.drop_nil List.cons_append List.nil_append List.append_nil List.set_cons_zero List.set_cons_succ Nat.zero_add forall_const true_and and_true and_self Bool.false_eq_true false_implies true_implies implies_true Bool.not_true Bool.not_false Bool.not_eq_true' Bool.not_eq_false' beq_self_eq_true Bool.bne_true Bool.bne_false
attribute [local go_sem] lenI lenS lenP lenQ lenB lenL lenT encI_0 encS_0 encP_0 encP_1 encQ_0 encQ_1 encQ_2 encQ_3 encB_0 encB_1 encL_0 encL_1 encT_0 encT_1
attribute [local go_sem low] whenA_bool guardH_bool
/-! slices.Clip(()int,int) -/
def L86_0 : List AStep := [⟨.mov (.c (.sl none 0 (some 0))), (some 2), none, []⟩]
theorem v86_0 : VS L86_0.eq_1 := rfl
def L86_1 : List AStep := [⟨.mov (.t 8), (some 2), none, []⟩]
theorem v86_1 : VS L86_1.eq_1 := rfl
def L86_2 : List AStep := ⟨.len (.t 6), (some 7), none, []⟩ :: ⟨.slice 3 1 (.t 3) none (some (.t 5)) (some (.t 7)), (some 8), none, []⟩ :: L86_1
theorem v86_2 : VS L86_2.eq_1 := rfl
def L86_3 : List AStep := ⟨.len (.t 4), (some 5), none, []⟩ :: ⟨.mov (.t 0), (some 6), none, []⟩ :: L86_2
theorem v86_3 : VS L86_3.eq_1 := rfl
def L86_4 : List AStep := ⟨.mov (.t 0), (some 3), none, []⟩ :: ⟨.mov (.t 0), (some 4), none, []⟩ :: L86_3
theorem v86_4 : VS L86_4.eq_1 := rfl
def C86_0 : ACode := .seq (.reg L86_4) .ret
theorem u86_0 : VC C86_0.eq_1 := rfl
def C86_1 : ACode := .seq (.reg L86_0) C86_0
theorem u86_1 : VC C86_1.eq_1 := rfl
def F86 : AFunc := ⟨9, [.tmp 2], C86_1⟩
theorem cF86 : compB Try.prog 86 = some F86 := by kernel_rfl
attribute [local go_sem ↓] u86_0 u86_1 v86_0 v86_1 v86_2 v86_3 v86_4
theorem c_clipI {h0 : H} (l : List Int) (v : AV) (h : H) (hl : NwI h0 h v l) : callK (bm Try.prog 86 [v] h) fun r h' => h' = h ∧ NwI h0 h r l := by
  refine bm_of cF86 ?_
  obtain ⟨w, e1, n1⟩ := hl.clipO (kd := .i64) (kd' := .i64)
  simp +contextual (maxSteps := 2000000) only [go_sem, Nat.reduceEqDiff, reduceCtorEq, Nat.reduceAdd, Nat.reduceLeDiff, F86, hl.length, e1]
  exact n1
theorem c_clipbI {h0 : H} (l : List Int) (v : AV) (h : H) (hl : NwI h0 h v l) : callK (bm Try.prog 86 [v] h) fun r h' => h' = h ∧ NwI h0 h r l ∧ ∀ i, baseOf r = some i → baseOf v = some i := by
  refine bm_of cF86 ?_
  obtain ⟨w, e1, n1⟩ := hl.clipB (kd := .i64) (kd' := .i64)
  simp +contextual (maxSteps := 2000000) only [go_sem, Nat.reduceEqDiff, reduceCtorEq, Nat.reduceAdd, Nat.reduceLeDiff, F86, hl.length, e1]
  exact n1
/-! slices.Clone(()int,int) -/
def L138_0 : List AStep := [⟨.mov (.c (.sl none 0 (some 0))), (some 2), none, []⟩]
theorem v138_0 : VS L138_0.eq_1 := rfl
def L138_1 : List AStep := [⟨.mov (.t 0), (some 3), none, []⟩, ⟨.eqnil false (.t 3) (.c (.sl none 0 (some 0))), (some 4), none, []⟩]
theorem v138_1 : VS L138_1.eq_1 := rfl
def L138_2 : List AStep := [⟨.mov (.c (.sl none 0 (some 0))), (some 2), none, []⟩]
theorem v138_2 : VS L138_2.eq_1 := rfl
def L138_3 : List AStep := [⟨.append 3 1 8 (.t 5) (.t 6), (some 7), none, []⟩, ⟨.mov (.t 7), (some 2), none, []⟩]
theorem v138_3 : VS L138_3.eq_1 := rfl
def L138_4 : List AStep := ⟨.buildSlice 3 0 [(.int .i64 0)] [], (some 5), none, []⟩ :: ⟨.mov (.t 0), (some 6), none, []⟩ :: L138_3
theorem v138_4 : VS L138_4.eq_1 := rfl
def C138_0 : ACode := .seq (.reg L138_2) .ret
theorem u138_0 : VC C138_0.eq_1 := rfl
def C138_1 : ACode := .cond (.t 4) C138_0 .skip
theorem u138_1 : VC C138_1.eq_1 := rfl
def C138_2 : ACode := .seq (.reg L138_1) C138_1
theorem u138_2 : VC C138_2.eq_1 := rfl
def C138_3 : ACode := .seq (.reg L138_4) .ret
theorem u138_3 : VC C138_3.eq_1 := rfl
def C138_4 : ACode := .seq C138_2 C138_3
theorem u138_4 : VC C138_4.eq_1 := rfl
def C138_5 : ACode := .seq (.reg L138_0) C138_4
theorem u138_5 : VC C138_5.eq_1 := rfl
def F138 : AFunc := ⟨8, [.tmp 2], C138_5⟩
theorem cF138 : compB Try.prog 138 = some F138 := by kernel_rfl
attribute [local go_sem ↓] u138_0 u138_1 u138_2 u138_3 u138_4 u138_5 v138_0 v138_1 v138_2 v138_3 v138_4
theorem c_clone0I (l : List Int) (v : AV) (h : H) (hl : SlI h v l) (hn : l.length ≤ big) : callK (bm Try.prog 138 [v] h) fun r h' => Grow h h' ∧ NwI h h' r l := by
  refine bm_of cF138 ?_
  obtain ⟨b, e1, e2⟩ := hl.isNil
  simp +contextual (maxSteps := 2000000) only [go_sem, Nat.reduceEqDiff, reduceCtorEq, Nat.reduceAdd, Nat.reduceLeDiff, F138, e1]
  cases b with
  | true =>
    obtain rfl := e2 rfl
    simp +contextual (maxSteps := 2000000) only [go_sem, Nat.reduceEqDiff, reduceCtorEq, Nat.reduceAdd, Nat.reduceLeDiff]
    exact ⟨Grow.refl h, .nil⟩
  | false =>
    simp +contextual (maxSteps := 2000000) only [go_sem, Nat.reduceEqDiff, reduceCtorEq, Nat.reduceAdd, Nat.reduceLeDiff]
    refine wp_lit (enc := encI) (k := 1) (l := []) rfl rfl ?_
    intro h1 w g1 n1 _
    simp +contextual (maxSteps := 2000000) only [go_sem, Nat.reduceEqDiff, reduceCtorEq, Nat.reduceAdd, Nat.reduceLeDiff]
    refine wp_append lenI n1 (hl.grow g1) g1 (by have := hn; unfold big at this; simp; omega) ?_
    intro h2 s g2 n2 _ _
    simp +contextual (maxSteps := 2000000) only [go_sem, Nat.reduceEqDiff, reduceCtorEq, Nat.reduceAdd, Nat.reduceLeDiff]
    exact gcK_of ⟨g2, n2⟩ (fun hs _ => ⟨Grow.refl h, n2.scalar hs h⟩)
/-! impl.clone(int) -/
def L103_0 : List AStep := [⟨.mov (.c (.sl none 0 (some 0))), (some 2), none, []⟩]
theorem v103_0 : VS L103_0.eq_1 := rfl
def L103_1 : List AStep := [⟨.call 86 [(.t 4)], (some 5), none, []⟩, ⟨.mov (.t 5), (some 2), none, []⟩]
theorem v103_1 : VS L103_1.eq_1 := rfl
def L103_2 : List AStep := ⟨.mov (.t 0), (some 3), none, []⟩ :: ⟨.call 138 [(.t 3)], (some 4), none, []⟩ :: L103_1
theorem v103_2 : VS L103_2.eq_1 := rfl
def C103_0 : ACode := .seq (.reg L103_2) .ret
theorem u103_0 : VC C103_0.eq_1 := rfl
def C103_1 : ACode := .seq (.reg L103_0) C103_0
theorem u103_1 : VC C103_1.eq_1 := rfl
def F103 : AFunc := ⟨6, [.tmp 2], C103_1⟩
theorem cF103 : compB Try.prog 103 = some F103 := by kernel_rfl
attribute [local go_sem ↓] u103_0 u103_1 v103_0 v103_1 v103_2
theorem c_cloneI (l : List Int) (v : AV) (h : H) (hl : SlI h v l) (hn : l.length ≤ big) : callK (bm Try.prog 103 [v] h) fun r h' => Grow h h' ∧ NwI h h' r l := by
  refine bm_of cF103 ?_
  simp +contextual (maxSteps := 2000000) only [go_sem, Nat.reduceEqDiff, reduceCtorEq, Nat.reduceAdd, Nat.reduceLeDiff, F103]
  refine wp_call (c_clone0I l v h hl hn) ?_
  rintro r h1 ⟨g1, n1⟩
  simp +contextual (maxSteps := 2000000) only [go_sem, Nat.reduceEqDiff, reduceCtorEq, Nat.reduceAdd, Nat.reduceLeDiff]
  refine wp_call (c_clipI l r h1 n1) ?_
  rintro r2 h2 ⟨rfl, n2⟩
  simp +contextual (maxSteps := 2000000) only [go_sem, Nat.reduceEqDiff, reduceCtorEq, Nat.reduceAdd, Nat.reduceLeDiff]
  exact gcK_of ⟨g1, n2⟩ (fun hs _ => ⟨Grow.refl h, n2.scalar hs h⟩)
/-! slices.Clip(()impl.Pair,impl.Pair) -/
def L105_0 : List AStep := [⟨.mov (.c (.sl none 0 (some 0))), (some 2), none, []⟩]
theorem v105_0 : VS L105_0.eq_1 := rfl
def L105_1 : List AStep := [⟨.mov (.t 8), (some 2), none, []⟩]
theorem v105_1 : VS L105_1.eq_1 := rfl
def L105_2 : List AStep := ⟨.len (.t 6), (some 7), none, []⟩ :: ⟨.slice 93 2 (.t 3) none (some (.t 5)) (some (.t 7)), (some 8), none, []⟩ :: L105_1
theorem v105_2 : VS L105_2.eq_1 := rfl
def L105_3 : List AStep := ⟨.len (.t 4), (some 5), none, []⟩ :: ⟨.mov (.t 0), (some 6), none, []⟩ :: L105_2
theorem v105_3 : VS L105_3.eq_1 := rfl
def L105_4 : List AStep := ⟨.mov (.t 0), (some 3), none, []⟩ :: ⟨.mov (.t 0), (some 4), none, []⟩ :: L105_3
theorem v105_4 : VS L105_4.eq_1 := rfl
def C105_0 : ACode := .seq (.reg L105_4) .ret
theorem u105_0 : VC C105_0.eq_1 := rfl
def C105_1 : ACode := .seq (.reg L105_0) C105_0
theorem u105_1 : VC C105_1.eq_1 := rfl
def F105 : AFunc := ⟨9, [.tmp 2], C105_1⟩
theorem cF105 : compB Try.prog 105 = some F105 := by kernel_rfl
attribute [local go_sem ↓] u105_0 u105_1 v105_0 v105_1 v105_2 v105_3 v105_4
theorem c_clipP {h0 : H} (l : List Pair) (v : AV) (h : H) (hl : NwP h0 h v l) : callK (bm Try.prog 105 [v] h) fun r h' => h' = h ∧ NwP h0 h r l := by
  refine bm_of cF105 ?_
  obtain ⟨w, e1, n1⟩ := hl.clipO (kd := .i64) (kd' := .i64)
  simp +contextual (maxSteps := 2000000) only [go_sem, Nat.reduceEqDiff, reduceCtorEq, Nat.reduceAdd, Nat.reduceLeDiff, F105, hl.length, e1]
  exact n1
theorem c_clipbP {h0 : H} (l : List Pair) (v : AV) (h : H) (hl : NwP h0 h v l) : callK (bm Try.prog 105 [v] h) fun r h' => h' = h ∧ NwP h0 h r l ∧ ∀ i, baseOf r = some i → baseOf v = some i := by
  refine bm_of cF105 ?_
  obtain ⟨w, e1, n1⟩ := hl.clipB (kd := .i64) (kd' := .i64)
  simp +contextual (maxSteps := 2000000) only [go_sem, Nat.reduceEqDiff, reduceCtorEq, Nat.reduceAdd, Nat.reduceLeDiff, F105, hl.length, e1]
  exact n1
/-! slices.Clone(()impl.Pair,impl.Pair) -/
def L143_0 : List AStep := [⟨.mov (.c (.sl none 0 (some 0))), (some 2), none, []⟩]
theorem v143_0 : VS L143_0.eq_1 := rfl
def L143_1 : List AStep := [⟨.mov (.t 0), (some 3), none, []⟩, ⟨.eqnil false (.t 3) (.c (.sl none 0 (some 0))), (some 4), none, []⟩]
theorem v143_1 : VS L143_1.eq_1 := rfl
def L143_2 : List AStep := [⟨.mov (.c (.sl none 0 (some 0))), (some 2), none, []⟩]
theorem v143_2 : VS L143_2.eq_1 := rfl
def L143_3 : List AStep := [⟨.append 93 2 24 (.t 5) (.t 6), (some 7), none, []⟩, ⟨.mov (.t 7), (some 2), none, []⟩]
theorem v143_3 : VS L143_3.eq_1 := rfl
def L143_4 : List AStep := ⟨.buildSlice 93 0 [(.str (strOfNums [])), (.int .i64 0)] [], (some 5), none, []⟩ :: ⟨.mov (.t 0), (some 6), none, []⟩ :: L143_3
theorem v143_4 : VS L143_4.eq_1 := rfl
def C143_0 : ACode := .seq (.reg L143_2) .ret
theorem u143_0 : VC C143_0.eq_1 := rfl
def C143_1 : ACode := .cond (.t 4) C143_0 .skip
theorem u143_1 : VC C143_1.eq_1 := rfl
def C143_2 : ACode := .seq (.reg L143_1) C143_1
theorem u143_2 : VC C143_2.eq_1 := rfl
def C143_3 : ACode := .seq (.reg L143_4) .ret
theorem u143_3 : VC C143_3.eq_1 := rfl
def C143_4 : ACode := .seq C143_2 C143_3
theorem u143_4 : VC C143_4.eq_1 := rfl
def C143_5 : ACode := .seq (.reg L143_0) C143_4
theorem u143_5 : VC C143_5.eq_1 := rfl
def F143 : AFunc := ⟨8, [.tmp 2], C143_5⟩
theorem cF143 : compB Try.prog 143 = some F143 := by kernel_rfl
attribute [local go_sem ↓] u143_0 u143_1 u143_2 u143_3 u143_4 u143_5 v143_0 v143_1 v143_2 v143_3 v143_4
theorem c_clone0P (l : List Pair) (v : AV) (h : H) (hl : SlP h v l) (hn : l.length ≤ big) : callK (bm Try.prog 143 [v] h) fun r h' => Grow h h' ∧ NwP h h' r l := by
  refine bm_of cF143 ?_
  obtain ⟨b, e1, e2⟩ := hl.isNil
  simp +contextual (maxSteps := 2000000) only [go_sem, Nat.reduceEqDiff, reduceCtorEq, Nat.reduceAdd, Nat.reduceLeDiff, F143, e1]
  cases b with
  | true =>
    obtain rfl := e2 rfl
    simp +contextual (maxSteps := 2000000) only [go_sem, Nat.reduceEqDiff, reduceCtorEq, Nat.reduceAdd, Nat.reduceLeDiff]
    exact ⟨Grow.refl h, .nil⟩
  | false =>
    simp +contextual (maxSteps := 2000000) only [go_sem, Nat.reduceEqDiff, reduceCtorEq, Nat.reduceAdd, Nat.reduceLeDiff]
    refine wp_lit (enc := encP) (k := 2) (l := []) rfl rfl ?_
    intro h1 w g1 n1 _
    simp +contextual (maxSteps := 2000000) only [go_sem, Nat.reduceEqDiff, reduceCtorEq, Nat.reduceAdd, Nat.reduceLeDiff]
    refine wp_append lenP n1 (hl.grow g1) g1 (by have := hn; unfold big at this; simp; omega) ?_
    intro h2 s g2 n2 _ _
    simp +contextual (maxSteps := 2000000) only [go_sem, Nat.reduceEqDiff, reduceCtorEq, Nat.reduceAdd, Nat.reduceLeDiff]
    exact gcK_of ⟨g2, n2⟩ (fun hs _ => ⟨Grow.refl h, n2.scalar hs h⟩)
/-! impl.clone(impl.Pair) -/
def L117_0 : List AStep := [⟨.mov (.c (.sl none 0 (some 0))), (some 2), none, []⟩]
theorem v117_0 : VS L117_0.eq_1 := rfl
def L117_1 : List AStep := [⟨.call 105 [(.t 4)], (some 5), none, []⟩, ⟨.mov (.t 5), (some 2), none, []⟩]
theorem v117_1 : VS L117_1.eq_1 := rfl
def L117_2 : List AStep := ⟨.mov (.t 0), (some 3), none, []⟩ :: ⟨.call 143 [(.t 3)], (some 4), none, []⟩ :: L117_1
theorem v117_2 : VS L117_2.eq_1 := rfl
def C117_0 : ACode := .seq (.reg L117_2) .ret
theorem u117_0 : VC C117_0.eq_1 := rfl
def C117_1 : ACode := .seq (.reg L117_0) C117_0
theorem u117_1 : VC C117_1.eq_1 := rfl
def F117 : AFunc := ⟨6, [.tmp 2], C117_1⟩
theorem cF117 : compB Try.prog 117 = some F117 := by kernel_rfl
attribute [local go_sem ↓] u117_0 u117_1 v117_0 v117_1 v117_2
theorem c_cloneP (l : List Pair) (v : AV) (h : H) (hl : SlP h v l) (hn : l.length ≤ big) : callK (bm Try.prog 117 [v] h) fun r h' => Grow h h' ∧ NwP h h' r l := by
  refine bm_of cF117 ?_
  simp +contextual (maxSteps := 2000000) only [go_sem, Nat.reduceEqDiff, reduceCtorEq, Nat.reduceAdd, Nat.reduceLeDiff, F117]
  refine wp_call (c_clone0P l v h hl hn) ?_
  rintro r h1 ⟨g1, n1⟩
  simp +contextual (maxSteps := 2000000) only [go_sem, Nat.reduceEqDiff, reduceCtorEq, Nat.reduceAdd, Nat.reduceLeDiff]
  refine wp_call (c_clipP l r h1 n1) ?_
  rintro r2 h2 ⟨rfl, n2⟩
  simp +contextual (maxSteps := 2000000) only [go_sem, Nat.reduceEqDiff, reduceCtorEq, Nat.reduceAdd, Nat.reduceLeDiff]
  exact gcK_of ⟨g1, n2⟩ (fun hs _ => ⟨Grow.refl h, n2.scalar hs h⟩)
/-! slices.Clip(()impl.Problem,impl.Problem) -/
def L106_0 : List AStep := [⟨.mov (.c (.sl none 0 (some 0))), (some 2), none, []⟩]
theorem v106_0 : VS L106_0.eq_1 := rfl
def L106_1 : List AStep := [⟨.mov (.t 8), (some 2), none, []⟩]
theorem v106_1 : VS L106_1.eq_1 := rfl
def L106_2 : List AStep := ⟨.len (.t 6), (some 7), none, []⟩ :: ⟨.slice 86 2 (.t 3) none (some (.t 5)) (some (.t 7)), (some 8), none, []⟩ :: L106_1
theorem v106_2 : VS L106_2.eq_1 := rfl
def L106_3 : List AStep := ⟨.len (.t 4), (some 5), none, []⟩ :: ⟨.mov (.t 0), (some 6), none, []⟩ :: L106_2
theorem v106_3 : VS L106_3.eq_1 := rfl
def L106_4 : List AStep := ⟨.mov (.t 0), (some 3), none, []⟩ :: ⟨.mov (.t 0), (some 4), none, []⟩ :: L106_3
theorem v106_4 : VS L106_4.eq_1 := rfl
def C106_0 : ACode := .seq (.reg L106_4) .ret
theorem u106_0 : VC C106_0.eq_1 := rfl
def C106_1 : ACode := .seq (.reg L106_0) C106_0
theorem u106_1 : VC C106_1.eq_1 := rfl
def F106 : AFunc := ⟨9, [.tmp 2], C106_1⟩
theorem cF106 : compB Try.prog 106 = some F106 := by kernel_rfl
attribute [local go_sem ↓] u106_0 u106_1 v106_0 v106_1 v106_2 v106_3 v106_4
theorem c_clipB {h0 : H} (l : List Problem) (v : AV) (h : H) (hl : NwB h0 h v l) : callK (bm Try.prog 106 [v] h) fun r h' => h' = h ∧ NwB h0 h r l := by
  refine bm_of cF106 ?_
  obtain ⟨w, e1, n1⟩ := hl.clipO (kd := .i64) (kd' := .i64)
  simp +contextual (maxSteps := 2000000) only [go_sem, Nat.reduceEqDiff, reduceCtorEq, Nat.reduceAdd, Nat.reduceLeDiff, F106, hl.length, e1]
  exact n1
theorem c_clipbB {h0 : H} (l : List Problem) (v : AV) (h : H) (hl : NwB h0 h v l) : callK (bm Try.prog 106 [v] h) fun r h' => h' = h ∧ NwB h0 h r l ∧ ∀ i, baseOf r = some i → baseOf v = some i := by
  refine bm_of cF106 ?_
  obtain ⟨w, e1, n1⟩ := hl.clipB (kd := .i64) (kd' := .i64)
  simp +contextual (maxSteps := 2000000) only [go_sem, Nat.reduceEqDiff, reduceCtorEq, Nat.reduceAdd, Nat.reduceLeDiff, F106, hl.length, e1]
  exact n1
/-! (impl.Flat).copyOf -/
def L73_0 : List AStep := [⟨.box 29 (.t 0), (some 1), none, []⟩, ⟨.alloc 29 [(.sl none 0 (some 0)), (.sl none 0 (some 0))], (some 2), none, []⟩]
theorem v73_0 : VS L73_0.eq_1 := rfl
def L73_1 : List AStep := [⟨.build [(.sl none 0 (some 0)), (.sl none 0 (some 0))] [(0, 1, (.t 5)), (1, 1, (.t 8))], (some 9), none, []⟩, ⟨.store 2 (.t 2) (.t 9), none, none, []⟩]
theorem v73_1 : VS L73_1.eq_1 := rfl
def L73_2 : List AStep := ⟨.call 103 [(.t 4)], (some 5), none, [(.load 1 false (.t 6), (some 7), none)]⟩ :: ⟨.call 117 [(.t 7)], (some 8), none, []⟩ :: L73_1
theorem v73_2 : VS L73_2.eq_1 := rfl
def L73_3 : List AStep := ⟨.faddr 1 (.t 1), (some 6), none, []⟩ :: ⟨.load 1 false (.t 6), (some 7), none, []⟩ :: L73_2
theorem v73_3 : VS L73_3.eq_1 := rfl
def L73_4 : List AStep := ⟨.faddr 0 (.t 1), (some 3), none, []⟩ :: ⟨.load 1 false (.t 3), (some 4), none, []⟩ :: L73_3
theorem v73_4 : VS L73_4.eq_1 := rfl
def C73_0 : ACode := .seq (.reg L73_4) .ret
theorem u73_0 : VC C73_0.eq_1 := rfl
def C73_1 : ACode := .seq (.reg L73_0) C73_0
theorem u73_1 : VC C73_1.eq_1 := rfl
def F73 : AFunc := ⟨10, [.cell 2 2 true], C73_1⟩
theorem cF73 : compB Try.prog 73 = some F73 := by kernel_rfl
attribute [local go_sem ↓] u73_0 u73_1 v73_0 v73_1 v73_2 v73_3 v73_4
theorem c_copyOfF (f : Flat) (p n : CV) (h : H) (hf : SlF h p n f) (hn : smF f) : callK (bm Try.prog 73 [.agg [p, n]] h) fun r h' => Grow h h' ∧ ∃ p' n', r = .agg [p', n'] ∧ NwF h h' p' n' f := by
  refine bm_of cF73 ?_
  simp +contextual (maxSteps := 2000000) only [go_sem, Nat.reduceEqDiff, reduceCtorEq, Nat.reduceAdd, Nat.reduceLeDiff, F73]
  refine wp_call (c_cloneI _ _ h hf.pl hn.pl) ?_
  rintro r h1 ⟨g1, n1⟩
  obtain ⟨p', rfl⟩ := n1.one
  simp +contextual (maxSteps := 2000000) only [go_sem, Nat.reduceEqDiff, reduceCtorEq, Nat.reduceAdd, Nat.reduceLeDiff]
  refine wp_call (c_cloneP _ _ h1 (hf.nl.grow g1) hn.nl.1) ?_
  rintro r h2 ⟨g2, n2⟩
  obtain ⟨n', rfl⟩ := n2.one
  simp +contextual (maxSteps := 2000000) only [go_sem, Nat.reduceEqDiff, reduceCtorEq, Nat.reduceAdd, Nat.reduceLeDiff]
  have n3 : NwF h h2 p' n' f := ⟨n1.grow g2, n2.from g1.n, n1.apart n2⟩
  exact gcK_of ⟨g1.trans g2, _, _, rfl, n3⟩ (fun hs _ => ⟨Grow.refl h, _, _, rfl, n3.scalar hs h⟩)
/-! (impl.Flat).put -/
def L82_0 : List AStep := [⟨.box 29 (.t 0), (some 3), none, []⟩, ⟨.alloc 29 [(.sl none 0 (some 0)), (.sl none 0 (some 0))], (some 6), none, []⟩]
theorem v82_0 : VS L82_0.eq_1 := rfl
def L82_1 : List AStep := [⟨.alloc 29 [(.sl none 0 (some 0)), (.sl none 0 (some 0))], (some 7), none, []⟩, ⟨.store 2 (.t 7) (.t 10), none, none, []⟩]
theorem v82_1 : VS L82_1.eq_1 := rfl
def L82_2 : List AStep := ⟨.load 2 true (.t 3), (some 9), none, []⟩ :: ⟨.call 73 [(.t 9)], (some 10), none, []⟩ :: L82_1
theorem v82_2 : VS L82_2.eq_1 := rfl
def L82_3 : List AStep := [⟨.mov (.t 14), (some 8), none, []⟩]
theorem v82_3 : VS L82_3.eq_1 := rfl
def L82_4 : List AStep := ⟨.mov (.t 1), (some 13), none, []⟩ :: ⟨.call 62 [(.t 12), (.t 13)], (some 14), none, []⟩ :: L82_3
theorem v82_4 : VS L82_4.eq_1 := rfl
def L82_5 : List AStep := ⟨.faddr 1 (.t 7), (some 11), none, []⟩ :: ⟨.load 1 false (.t 11), (some 12), none, []⟩ :: L82_4
theorem v82_5 : VS L82_5.eq_1 := rfl
def L82_6 : List AStep := [⟨.mov (.t 8), (some 15), none, []⟩, ⟨.bin .geq (.t 15) (.c (.int .i64 0)), (some 16), none, []⟩]
theorem v82_6 : VS L82_6.eq_1 := rfl
def L82_7 : List AStep := [⟨.store 1 (.t 22) (.t 20), none, none, []⟩]
theorem v82_7 : VS L82_7.eq_1 := rfl
def L82_8 : List AStep := ⟨.iaddr 2 (.t 18) (.t 19), (some 21), none, []⟩ :: ⟨.faddr 1 (.t 21), (some 22), none, []⟩ :: L82_7
theorem v82_8 : VS L82_8.eq_1 := rfl
def L82_9 : List AStep := ⟨.mov (.t 8), (some 19), none, []⟩ :: ⟨.mov (.t 2), (some 20), none, []⟩ :: L82_8
theorem v82_9 : VS L82_9.eq_1 := rfl
def L82_10 : List AStep := ⟨.faddr 1 (.t 7), (some 17), none, []⟩ :: ⟨.load 1 false (.t 17), (some 18), none, []⟩ :: L82_9
theorem v82_10 : VS L82_10.eq_1 := rfl
def L82_11 : List AStep := [⟨.store 1 (.t 30) (.t 29), none, none, []⟩]
theorem v82_11 : VS L82_11.eq_1 := rfl
def L82_12 : List AStep := ⟨.append 93 2 24 (.t 24) (.t 28), (some 29), none, []⟩ :: ⟨.faddr 1 (.t 7), (some 30), none, []⟩ :: L82_11
theorem v82_12 : VS L82_12.eq_1 := rfl
def L82_13 : List AStep := ⟨.build [(.str (strOfNums [])), (.int .i64 0)] [(0, 1, (.t 25)), (1, 1, (.t 26))], (some 27), none, []⟩ :: ⟨.buildSlice 93 1 [(.str (strOfNums [])), (.int .i64 0)] [(0, 2, (.t 27))], (some 28), none, []⟩ :: L82_12
theorem v82_13 : VS L82_13.eq_1 := rfl
def L82_14 : List AStep := ⟨.mov (.t 1), (some 25), none, []⟩ :: ⟨.mov (.t 2), (some 26), none, []⟩ :: L82_13
theorem v82_14 : VS L82_14.eq_1 := rfl
def L82_15 : List AStep := ⟨.faddr 1 (.t 7), (some 23), none, []⟩ :: ⟨.load 1 false (.t 23), (some 24), none, []⟩ :: L82_14
theorem v82_15 : VS L82_15.eq_1 := rfl
def L82_16 : List AStep := [⟨.load 2 true (.t 7), (some 31), none, []⟩, ⟨.store 2 (.t 6) (.t 31), none, none, []⟩]
theorem v82_16 : VS L82_16.eq_1 := rfl
def C82_0 : ACode := .cond (.t 16) (.reg L82_10) (.reg L82_15)
theorem u82_0 : VC C82_0.eq_1 := rfl
def C82_1 : ACode := .seq (.reg L82_6) C82_0
theorem u82_1 : VC C82_1.eq_1 := rfl
def C82_2 : ACode := .seq (.reg L82_5) C82_1
theorem u82_2 : VC C82_2.eq_1 := rfl
def C82_3 : ACode := .seq (.reg L82_16) .ret
theorem u82_3 : VC C82_3.eq_1 := rfl
def C82_4 : ACode := .seq C82_2 C82_3
theorem u82_4 : VC C82_4.eq_1 := rfl
def C82_5 : ACode := .seq (.reg L82_2) C82_4
theorem u82_5 : VC C82_5.eq_1 := rfl
def C82_6 : ACode := .seq (.reg L82_0) C82_5
theorem u82_6 : VC C82_6.eq_1 := rfl
def F82 : AFunc := ⟨32, [.cell 6 2 true], C82_6⟩
theorem cF82 : compB Try.prog 82 = some F82 := by kernel_rfl
attribute [local go_sem ↓] u82_0 u82_1 u82_2 u82_3 u82_4 u82_5 u82_6 v82_0 v82_1 v82_2 v82_3 v82_4 v82_5 v82_6 v82_7 v82_8 v82_9 v82_10 v82_11 v82_12 v82_13 v82_14 v82_15 v82_16
theorem c_put (f : Flat) (p n : CV) (s : ByteArray) (k : Int) (h : H) (hf : SlF h p n f) (hn : smF f) :
    callK (bm Try.prog 82 [.agg [p, n], .one (.str s), .one (.int .i64 k)] h) fun r h' => Grow h h' ∧ ∃ p' n', r = .agg [p', n'] ∧ NwF h h' p' n' ⟨f.pl, putP f.nl ⟨s, k⟩⟩ := by
  refine bm_of cF82 ?_
  simp +contextual (maxSteps := 2000000) only [go_sem, Nat.reduceEqDiff, reduceCtorEq, Nat.reduceAdd, Nat.reduceLeDiff, F82]
  refine wp_call (c_copyOfF f p n h hf hn) ?_
  rintro r h1 ⟨g1, p', n', rfl, n1⟩
  rcases idx_cases (fun q : Pair => decide (q.name = s)) f.nl with e | ⟨j, hj, e, hs⟩ <;> (replace e := (show pairAt f.nl s = _ from e))
  · simp +contextual (maxSteps := 2000000) only [go_sem, Nat.reduceEqDiff, reduceCtorEq, Nat.reduceAdd, Nat.reduceLeDiff, c_pairAtI _ _ _ _ n1.sl.nl hn.nl, e]
    refine wp_lit (enc := encP) (k := 2) (l := [⟨s, k⟩]) rfl rfl ?_
    intro h2 w g2 n2 _
    simp +contextual (maxSteps := 2000000) only [go_sem, Nat.reduceEqDiff, reduceCtorEq, Nat.reduceAdd, Nat.reduceLeDiff]
    have n3 := n1.grow g2
    refine wp_append lenP n3.nl (n2.sl lenP) (g1.trans g2) (by have := hn.nl.1; unfold big at this; simp; omega) ?_
    intro h3 s' g3 n4 st hb
    obtain ⟨c, rfl⟩ := n4.one
    simp +contextual (maxSteps := 2000000) only [go_sem, Nat.reduceEqDiff, reduceCtorEq, Nat.reduceAdd, Nat.reduceLeDiff]
    have n5 : NwF h h3 p' c ⟨f.pl, putP f.nl ⟨s, k⟩⟩ := by
      rw [putP_none e]
      refine ⟨n3.pl.stay st n3.sep, n4, fun i hi hj => ?_⟩
      rcases hb i hj with hb | hb
      · exact n3.sep i hi hb
      · have := (n3.pl.lt hi).1; omega
    exact gcK_of ⟨g3, _, _, rfl, n5⟩ (fun hs _ => ⟨Grow.refl h, _, _, rfl, n5.scalar hs h⟩)
  · simp +contextual (maxSteps := 2000000) only [go_sem, Nat.reduceEqDiff, reduceCtorEq, Nat.reduceAdd, Nat.reduceLeDiff, c_pairAtI _ _ _ _ n1.sl.nl hn.nl, e, n1.nl.iaddr hj]
    have hs : f.nl[j].name = s := of_decide_eq_true hs
    refine wp_set (x := (⟨s, k⟩ : Pair)) (off := 1) (vs := [.int .i64 k]) lenP n1.nl hj rfl (by simp [encP, hs]) (Nat.le_of_ble_eq_true rfl) g1 ?_
    intro h2 g2 n2 st
    simp +contextual (maxSteps := 2000000) only [go_sem, Nat.reduceEqDiff, reduceCtorEq, Nat.reduceAdd, Nat.reduceLeDiff]
    have n5 : NwF h h2 p' n' ⟨f.pl, putP f.nl ⟨s, k⟩⟩ := by
      rw [putP_some e]
      exact ⟨n1.pl.stay st n1.sep, n2, n1.sep⟩
    exact gcK_of ⟨g2, _, _, rfl, n5⟩ (fun hs _ => ⟨Grow.refl h, _, _, rfl, n5.scalar hs h⟩)
/-! impl.checked -/
def L83_0 : List AStep := [⟨.mov (.c (.bool false)), (some 5), none, []⟩]
theorem v83_0 : VS L83_0.eq_1 := rfl
def L83_1 : List AStep := ⟨.box 29 (.t 0), (some 2), none, []⟩ :: ⟨.alloc 29 [(.sl none 0 (some 0)), (.sl none 0 (some 0))], (some 4), none, []⟩ :: L83_0
theorem v83_1 : VS L83_1.eq_1 := rfl
def L83_2 : List AStep := [⟨.pick (.t 8) (.c (.bool true)) (.t 11), (some 12), none, []⟩]
theorem v83_2 : VS L83_2.eq_1 := rfl
def L83_3 : List AStep := ⟨.call 43 [(.t 9)], (some 10), (some (8, false)), []⟩ :: ⟨.not (.t 10), (some 11), (some (8, false)), []⟩ :: L83_2
theorem v83_3 : VS L83_3.eq_1 := rfl
def L83_4 : List AStep := ⟨.mov (.t 7), (some 8), none, []⟩ :: ⟨.load 2 true (.t 2), (some 9), (some (8, false)), []⟩ :: L83_3
theorem v83_4 : VS L83_4.eq_1 := rfl
def L83_5 : List AStep := ⟨.mov (.t 1), (some 6), none, []⟩ :: ⟨.not (.t 6), (some 7), none, []⟩ :: L83_4
theorem v83_5 : VS L83_5.eq_1 := rfl
def L83_6 : List AStep := [⟨.mov (.c (.bool false)), (some 5), none, []⟩]
theorem v83_6 : VS L83_6.eq_1 := rfl
def L83_7 : List AStep := ⟨.build [(.sl none 0 (some 0)), (.sl none 0 (some 0))] [], (some 13), none, []⟩ :: ⟨.store 2 (.t 4) (.t 13), none, none, []⟩ :: L83_6
theorem v83_7 : VS L83_7.eq_1 := rfl
def L83_8 : List AStep := [⟨.store 2 (.t 4) (.t 15), none, none, []⟩, ⟨.mov (.c (.bool true)), (some 5), none, []⟩]
theorem v83_8 : VS L83_8.eq_1 := rfl
def L83_9 : List AStep := ⟨.load 2 true (.t 2), (some 14), none, []⟩ :: ⟨.call 73 [(.t 14)], (some 15), none, []⟩ :: L83_8
theorem v83_9 : VS L83_9.eq_1 := rfl
def C83_0 : ACode := .seq (.reg L83_7) .ret
theorem u83_0 : VC C83_0.eq_1 := rfl
def C83_1 : ACode := .cond (.t 12) C83_0 .skip
theorem u83_1 : VC C83_1.eq_1 := rfl
def C83_2 : ACode := .seq (.reg L83_5) C83_1
theorem u83_2 : VC C83_2.eq_1 := rfl
def C83_3 : ACode := .seq (.reg L83_9) .ret
theorem u83_3 : VC C83_3.eq_1 := rfl
def C83_4 : ACode := .seq C83_2 C83_3
theorem u83_4 : VC C83_4.eq_1 := rfl
def C83_5 : ACode := .seq (.reg L83_1) C83_4
theorem u83_5 : VC C83_5.eq_1 := rfl
def F83 : AFunc := ⟨16, [.cell 4 2 true, .tmp 5], C83_5⟩
theorem cF83 : compB Try.prog 83 = some F83 := by kernel_rfl
attribute [local go_sem ↓] u83_0 u83_1 u83_2 u83_3 u83_4 u83_5 v83_0 v83_1 v83_2 v83_3 v83_4 v83_5 v83_6 v83_7 v83_8 v83_9
theorem c_checked (f : Flat) (p n : CV) (b : Bool) (h : H) (hf : SlF h p n f) (hn : smF f) :
    callK (bm Try.prog 83 [.agg [p, n], .one (.bool b)] h) fun r h' => Grow h h' ∧ ∃ p' n', r = .tup [.agg [p', n'], .one (.bool (b && okFlat f))] ∧ NwF h h' p' n' (if (b && okFlat f) = true then f else ⟨[], []⟩) := by
  refine bm_of cF83 ?_
  simp +contextual (maxSteps := 2000000) only [go_sem, Nat.reduceEqDiff, reduceCtorEq, Nat.reduceAdd, Nat.reduceLeDiff, F83, c_ValidFlat _ _ _ _ hf.pl hf.nl hn]
  cases b with
  | false =>
    simp +contextual (maxSteps := 2000000) only [go_sem, Nat.reduceEqDiff, reduceCtorEq, Nat.reduceAdd, Nat.reduceLeDiff, Bool.false_and, if_false]
    exact ⟨Grow.refl h, _, _, rfl, .nil⟩
  | true =>
    cases hok : okFlat f with
    | false =>
      simp +contextual (maxSteps := 2000000) only [go_sem, Nat.reduceEqDiff, reduceCtorEq, Nat.reduceAdd, Nat.reduceLeDiff, hok, Bool.true_and, if_false]
      exact ⟨Grow.refl h, _, _, rfl, .nil⟩
    | true =>
      simp +contextual (maxSteps := 2000000) only [go_sem, Nat.reduceEqDiff, reduceCtorEq, Nat.reduceAdd, Nat.reduceLeDiff, hok, Bool.true_and, if_true]
      refine wp_call (c_copyOfF f p n h hf hn) ?_
      rintro r h1 ⟨g1, p', n', rfl, n1⟩
      simp +contextual (maxSteps := 2000000) only [go_sem, Nat.reduceEqDiff, reduceCtorEq, Nat.reduceAdd, Nat.reduceLeDiff]
      exact gcK_of ⟨g1, _, _, rfl, n1⟩ (fun hs _ => ⟨Grow.refl h, _, _, rfl, n1.scalar (by simpa [AV.scalar, AV.scalars, CV.scalar] using hs) h⟩)
/-! slices.Grow(()int,int) -/
def L124_0 : List AStep := [⟨.mov (.c (.sl none 0 (some 0))), (some 4), none, []⟩]
theorem v124_0 : VS L124_0.eq_1 := rfl
def L124_1 : List AStep := [⟨.mov (.t 1), (some 5), none, []⟩, ⟨.bin .lss (.t 5) (.c (.int .i64 0)), (some 6), none, []⟩]
theorem v124_1 : VS L124_1.eq_1 := rfl
def L124_2 : List AStep := [⟨.bin .sub (.t 8) (.t 13), (some 14), none, []⟩, ⟨.mov (.t 14), (some 1), none, []⟩]
theorem v124_2 : VS L124_2.eq_1 := rfl
def L124_3 : List AStep := ⟨.len (.t 11), (some 12), none, []⟩ :: ⟨.bin .sub (.t 10) (.t 12), (some 13), none, []⟩ :: L124_2
theorem v124_3 : VS L124_3.eq_1 := rfl
def L124_4 : List AStep := ⟨.cap (.t 9), (some 10), none, []⟩ :: ⟨.mov (.t 0), (some 11), none, []⟩ :: L124_3
theorem v124_4 : VS L124_4.eq_1 := rfl
def L124_5 : List AStep := ⟨.mov (.t 1), (some 8), none, []⟩ :: ⟨.mov (.t 0), (some 9), none, []⟩ :: L124_4
theorem v124_5 : VS L124_5.eq_1 := rfl
def L124_6 : List AStep := [⟨.mov (.t 1), (some 15), none, []⟩, ⟨.bin .gtr (.t 15) (.c (.int .i64 0)), (some 16), none, []⟩]
theorem v124_6 : VS L124_6.eq_1 := rfl
def L124_7 : List AStep := [⟨.slice 3 1 (.t 22) none (some (.t 24)) none, (some 25), none, []⟩, ⟨.mov (.t 25), (some 0), none, []⟩]
theorem v124_7 : VS L124_7.eq_1 := rfl
def L124_8 : List AStep := ⟨.mov (.t 0), (some 23), none, []⟩ :: ⟨.len (.t 23), (some 24), none, []⟩ :: L124_7
theorem v124_8 : VS L124_8.eq_1 := rfl
def L124_9 : List AStep := ⟨.mov (.t 1), (some 21), none, []⟩ :: ⟨.appz 3 1 8 [(.int .i64 0)] (.t 20) (.t 21), (some 22), none, []⟩ :: L124_8
theorem v124_9 : VS L124_9.eq_1 := rfl
def L124_10 : List AStep := ⟨.cap (.t 18), (some 19), none, []⟩ :: ⟨.slice 3 1 (.t 17) none (some (.t 19)) none, (some 20), none, []⟩ :: L124_9
theorem v124_10 : VS L124_10.eq_1 := rfl
def L124_11 : List AStep := ⟨.mov (.t 0), (some 17), none, []⟩ :: ⟨.mov (.t 0), (some 18), none, []⟩ :: L124_10
theorem v124_11 : VS L124_11.eq_1 := rfl
def L124_12 : List AStep := [⟨.mov (.t 0), (some 26), none, []⟩, ⟨.mov (.t 26), (some 4), none, []⟩]
theorem v124_12 : VS L124_12.eq_1 := rfl
def C124_0 : ACode := .cond (.c .nilf) .skip .skip
theorem u124_0 : VC C124_0.eq_1 := rfl
def C124_1 : ACode := .cond (.t 6) C124_0 .skip
theorem u124_1 : VC C124_1.eq_1 := rfl
def C124_2 : ACode := .seq (.reg L124_1) C124_1
theorem u124_2 : VC C124_2.eq_1 := rfl
def C124_3 : ACode := .cond (.t 16) (.reg L124_11) .skip
theorem u124_3 : VC C124_3.eq_1 := rfl
def C124_4 : ACode := .seq (.reg L124_6) C124_3
theorem u124_4 : VC C124_4.eq_1 := rfl
def C124_5 : ACode := .seq (.reg L124_5) C124_4
theorem u124_5 : VC C124_5.eq_1 := rfl
def C124_6 : ACode := .seq (.reg L124_12) .ret
theorem u124_6 : VC C124_6.eq_1 := rfl
def C124_7 : ACode := .seq C124_5 C124_6
theorem u124_7 : VC C124_7.eq_1 := rfl
def C124_8 : ACode := .seq C124_2 C124_7
theorem u124_8 : VC C124_8.eq_1 := rfl
def C124_9 : ACode := .seq (.reg L124_0) C124_8
theorem u124_9 : VC C124_9.eq_1 := rfl
def F124 : AFunc := ⟨27, [.tmp 4], C124_9⟩
theorem cF124 : compB Try.prog 124 = some F124 := by kernel_rfl
attribute [local go_sem ↓] u124_0 u124_1 u124_2 u124_3 u124_4 u124_5 u124_6 u124_7 u124_8 u124_9 v124_0 v124_1 v124_2 v124_3 v124_4 v124_5 v124_6 v124_7 v124_8 v124_9 v124_10 v124_11 v124_12
theorem c_growI (n : Nat) (h : H) (hn : n ≤ big) : callK (bm Try.prog 124 [.one (.sl none 0 (some 0)), .one (.int .i64 n)] h) fun r h' => Grow h h' ∧ NwI h h' r [] := by
  refine bm_of cF124 ?_
  have e1 : decide (((n : Nat) : Int) < 0) = false := decide_eq_false (by omega)
  have e2 : IntKind.i64.wrap (((0 : Nat) : Int) - ((0 : Nat) : Int)) = 0 := rfl
  have e3 : IntKind.i64.wrap (((n : Nat) : Int) - 0) = n := by unfold big at hn; rw [i64_wrap (by omega) (by omega)]; omega
  have e4 : cutO 3 1 h (.one (.sl none 0 (some 0))) none (some (.one (.int .i64 ((0 : Nat) : Int)))) none = some (.one (.sl none 0 (some 0))) := by simp [cutO, pureA, AX.ev, boundsA, maxA, highA, lowA, boundA]
  by_cases h0 : n = 0
  · subst h0
    simp +contextual (maxSteps := 2000000) only [go_sem, Nat.reduceEqDiff, reduceCtorEq, Nat.reduceAdd, Nat.reduceLeDiff, F124, e1, e2, e3, show decide (((0 : Nat) : Int) > 0) = false from rfl]
    exact ⟨Grow.refl h, .nil⟩
  · simp +contextual (maxSteps := 2000000) only [go_sem, Nat.reduceEqDiff, reduceCtorEq, Nat.reduceAdd, Nat.reduceLeDiff, F124, e1, e2, e3, e4, decide_eq_true (show ((n : Nat) : Int) > 0 by omega)]
    unfold big at hn
    refine wp_appz (by omega) (by omega) (by omega) ?_
    intro h1 g1 b1
    have e5 := cut_zero (k := 1) (n := n) b1 (kd := .i64)
    simp +contextual (maxSteps := 2000000) only [go_sem, Nat.reduceEqDiff, reduceCtorEq, Nat.reduceAdd, Nat.reduceLeDiff, show (((0 : Nat) : Int)) = 0 from rfl, e5]
    have n1 : NwI h h1 (.one (.sl (some (h.n, 0)) 0 none)) [] := .spare b1 (Nat.le_refl _)
    exact gcK_of ⟨g1, n1⟩ (fun hs _ => ⟨Grow.refl h, n1.scalar hs h⟩)
/-! slices.Concat(()int,int) -/
def L81_0 : List AStep := [⟨.mov (.c (.sl none 0 (some 0))), (some 2), none, []⟩]
theorem v81_0 : VS L81_0.eq_1 := rfl
def L81_1 : List AStep := [⟨.mov (.c (.int .i64 0)), (some 3), none, []⟩]
theorem v81_1 : VS L81_1.eq_1 := rfl
def L81_2 : List AStep := [⟨.mov (.c (.int .i64 0)), (some 11), none, []⟩]
theorem v81_2 : VS L81_2.eq_1 := rfl
def L81_3 : List AStep := ⟨.mov (.t 0), (some 9), none, []⟩ :: ⟨.len (.t 9), (some 10), none, []⟩ :: L81_2
theorem v81_3 : VS L81_3.eq_1 := rfl
def L81_4 : List AStep := [⟨.bin .lss (.t 11) (.t 10), (some 12), none, []⟩]
theorem v81_4 : VS L81_4.eq_1 := rfl
def L81_5 : List AStep := [⟨.mov (.t 14), (some 5), none, []⟩]
theorem v81_5 : VS L81_5.eq_1 := rfl
def L81_6 : List AStep := ⟨.iaddr 1 (.t 9) (.t 11), (some 13), none, []⟩ :: ⟨.load 1 false (.t 13), (some 14), none, []⟩ :: L81_5
theorem v81_6 : VS L81_6.eq_1 := rfl
def L81_7 : List AStep := [⟨.mov (.t 18), (some 3), none, []⟩]
theorem v81_7 : VS L81_7.eq_1 := rfl
def L81_8 : List AStep := ⟨.len (.t 16), (some 17), none, []⟩ :: ⟨.bin .add (.t 15) (.t 17), (some 18), none, []⟩ :: L81_7
theorem v81_8 : VS L81_8.eq_1 := rfl
def L81_9 : List AStep := ⟨.mov (.t 3), (some 15), none, []⟩ :: ⟨.mov (.t 5), (some 16), none, []⟩ :: L81_8
theorem v81_9 : VS L81_9.eq_1 := rfl
def L81_10 : List AStep := [⟨.mov (.t 3), (some 19), none, []⟩, ⟨.bin .lss (.t 19) (.c (.int .i64 0)), (some 20), none, []⟩]
theorem v81_10 : VS L81_10.eq_1 := rfl
def L81_11 : List AStep := [⟨.bin .add (.t 11) (.c (.int .i64 1)), (some 22), none, []⟩, ⟨.mov (.t 22), (some 11), none, []⟩]
theorem v81_11 : VS L81_11.eq_1 := rfl
def L81_12 : List AStep := [⟨.mov (.t 24), (some 6), none, []⟩]
theorem v81_12 : VS L81_12.eq_1 := rfl
def L81_13 : List AStep := ⟨.mov (.t 3), (some 23), none, []⟩ :: ⟨.call 124 [(.c (.sl none 0 (some 0))), (.t 23)], (some 24), none, []⟩ :: L81_12
theorem v81_13 : VS L81_13.eq_1 := rfl
def L81_14 : List AStep := [⟨.mov (.c (.int .i64 0)), (some 27), none, []⟩]
theorem v81_14 : VS L81_14.eq_1 := rfl
def L81_15 : List AStep := ⟨.mov (.t 0), (some 25), none, []⟩ :: ⟨.len (.t 25), (some 26), none, []⟩ :: L81_14
theorem v81_15 : VS L81_15.eq_1 := rfl
def L81_16 : List AStep := [⟨.bin .lss (.t 27) (.t 26), (some 28), none, []⟩]
theorem v81_16 : VS L81_16.eq_1 := rfl
def L81_17 : List AStep := [⟨.mov (.t 30), (some 8), none, []⟩]
theorem v81_17 : VS L81_17.eq_1 := rfl
def L81_18 : List AStep := ⟨.iaddr 1 (.t 25) (.t 27), (some 29), none, []⟩ :: ⟨.load 1 false (.t 29), (some 30), none, []⟩ :: L81_17
theorem v81_18 : VS L81_18.eq_1 := rfl
def L81_19 : List AStep := [⟨.append 3 1 8 (.t 31) (.t 32), (some 33), none, []⟩, ⟨.mov (.t 33), (some 6), none, []⟩]
theorem v81_19 : VS L81_19.eq_1 := rfl
def L81_20 : List AStep := ⟨.mov (.t 6), (some 31), none, []⟩ :: ⟨.mov (.t 8), (some 32), none, []⟩ :: L81_19
theorem v81_20 : VS L81_20.eq_1 := rfl
def L81_21 : List AStep := [⟨.bin .add (.t 27) (.c (.int .i64 1)), (some 34), none, []⟩, ⟨.mov (.t 34), (some 27), none, []⟩]
theorem v81_21 : VS L81_21.eq_1 := rfl
def L81_22 : List AStep := [⟨.mov (.t 6), (some 35), none, []⟩, ⟨.mov (.t 35), (some 2), none, []⟩]
theorem v81_22 : VS L81_22.eq_1 := rfl
def C81_0 : ACode := .cond (.t 12) .skip (.exit 0)
theorem u81_0 : VC C81_0.eq_1 := rfl
def C81_1 : ACode := .cond (.c .nilf) .skip .skip
theorem u81_1 : VC C81_1.eq_1 := rfl
def C81_2 : ACode := .cond (.t 20) C81_1 .skip
theorem u81_2 : VC C81_2.eq_1 := rfl
def C81_3 : ACode := .seq (.reg L81_10) C81_2
theorem u81_3 : VC C81_3.eq_1 := rfl
def C81_4 : ACode := .seq (.reg L81_9) C81_3
theorem u81_4 : VC C81_4.eq_1 := rfl
def C81_5 : ACode := .seq (.reg L81_6) C81_4
theorem u81_5 : VC C81_5.eq_1 := rfl
def C81_6 : ACode := .block 1 C81_5
theorem u81_6 : VC C81_6.eq_1 := rfl
def C81_7 : ACode := .seq C81_6 (.reg L81_11)
theorem u81_7 : VC C81_7.eq_1 := rfl
def C81_8 : ACode := .seq C81_0 C81_7
theorem u81_8 : VC C81_8.eq_1 := rfl
def C81_9 : ACode := .seq (.reg L81_4) C81_8
theorem u81_9 : VC C81_9.eq_1 := rfl
def C81_10 : ACode := .block 0 (.loop C81_9)
theorem u81_10 : VC C81_10.eq_1 := rfl
def C81_11 : ACode := .seq (.reg L81_3) C81_10
theorem u81_11 : VC C81_11.eq_1 := rfl
def C81_12 : ACode := .cond (.t 28) .skip (.exit 2)
theorem u81_12 : VC C81_12.eq_1 := rfl
def C81_13 : ACode := .seq (.reg L81_18) (.reg L81_20)
theorem u81_13 : VC C81_13.eq_1 := rfl
def C81_14 : ACode := .block 3 C81_13
theorem u81_14 : VC C81_14.eq_1 := rfl
def C81_15 : ACode := .seq C81_14 (.reg L81_21)
theorem u81_15 : VC C81_15.eq_1 := rfl
def C81_16 : ACode := .seq C81_12 C81_15
theorem u81_16 : VC C81_16.eq_1 := rfl
def C81_17 : ACode := .seq (.reg L81_16) C81_16
theorem u81_17 : VC C81_17.eq_1 := rfl
def C81_18 : ACode := .block 2 (.loop C81_17)
theorem u81_18 : VC C81_18.eq_1 := rfl
def C81_19 : ACode := .seq (.reg L81_15) C81_18
theorem u81_19 : VC C81_19.eq_1 := rfl
def C81_20 : ACode := .seq (.reg L81_22) .ret
theorem u81_20 : VC C81_20.eq_1 := rfl
def C81_21 : ACode := .seq C81_19 C81_20
theorem u81_21 : VC C81_21.eq_1 := rfl
def C81_22 : ACode := .seq (.reg L81_13) C81_21
theorem u81_22 : VC C81_22.eq_1 := rfl
def C81_23 : ACode := .seq C81_11 C81_22
theorem u81_23 : VC C81_23.eq_1 := rfl
def C81_24 : ACode := .seq (.reg L81_1) C81_23
theorem u81_24 : VC C81_24.eq_1 := rfl
def C81_25 : ACode := .seq (.reg L81_0) C81_24
theorem u81_25 : VC C81_25.eq_1 := rfl
def F81 : AFunc := ⟨36, [.tmp 2], C81_25⟩
theorem cF81 : compB Try.prog 81 = some F81 := by kernel_rfl
attribute [local go_sem ↓] u81_0 u81_1 u81_2 u81_3 u81_4 u81_5 u81_6 u81_7 u81_8 u81_9 u81_10 u81_11 u81_12 u81_13 u81_14 u81_15 u81_16 u81_17 u81_18 u81_19 u81_20 u81_21 u81_22 u81_23 u81_24 u81_25 v81_0 v81_1 v81_2 v81_3 v81_4 v81_5 v81_6 v81_7 v81_8 v81_9 v81_10 v81_11 v81_12 v81_13 v81_14 v81_15 v81_16 v81_17 v81_18 v81_19 v81_20 v81_21 v81_22
theorem c_concatI (ls : List (List Int)) (cs : List CV) (v : AV) (h : H) (hl : Sl (fun c : CV => [c]) 1 26 h v cs) (hlen : ls.length = cs.length) (he : ∀ i (hi : i < ls.length) (hj : i < cs.length), SlI h (.one cs[i]) ls[i]) (hn : ls.flatten.length ≤ big) (hm : ls.length ≤ big) :
    callK (bm Try.prog 81 [v] h) fun r h' => Grow h h' ∧ NwI h h' r ls.flatten := by
  refine bm_of cF81 ?_
  have hpre : ∀ i, i ≤ ls.length → (ls.take i).flatten.length ≤ ls.flatten.length := by
    intro i hi
    have : ls.flatten = (ls.take i).flatten ++ (ls.drop i).flatten := by rw [← List.flatten_append, List.take_append_drop]
    rw [this, List.length_append]
    omega
  have hnx : ∀ i (hi : i < ls.length), (ls.take (i + 1)).flatten = (ls.take i).flatten ++ ls[i] := by
    intro i hi
    rw [List.take_succ_eq_append_getElem hi, List.flatten_append]
    simp
  have hbig := hn
  unfold big at hbig
  simp +contextual (maxSteps := 2000000) only [go_sem, Nat.reduceEqDiff, reduceCtorEq, Nat.reduceAdd, Nat.reduceLeDiff, F81, hl.len]
  refine wpC_loop (fun i T L h' => h' = h ∧ T 0 = .v v ∧ T 9 = .v v ∧ T 10 = .v (.one (.int .i64 cs.length)) ∧ T 11 = .v (.one (.int .i64 i)) ∧ T 3 = .v (.one (.int .i64 ((ls.take i).flatten.length : Nat)))) cs.length ?_ ?_ (Nat.zero_le _) ?_
  · rintro i T L h' hi ⟨rfl, t0, t9, t10, t11, t3⟩
    have hi2 : i < ls.length := by omega
    have e1 := hpre (i + 1) (by omega)
    rw [hnx i hi2, List.length_append] at e1
    have e2 : IntKind.i64.wrap (((ls.take i).flatten.length : Int) + (ls[i].length : Int)) = (((ls.take i).flatten.length + ls[i].length : Nat) : Int) := by rw [i64_wrap (by omega) (by omega)]; omega
    have hld := hl.oneO hi
    rw [show ([cs[i]] : List CV)[0]? = some cs[i] from rfl] at hld
    simp +contextual (maxSteps := 2000000) only [go_sem, Nat.reduceEqDiff, reduceCtorEq, Nat.reduceAdd, Nat.reduceLeDiff, t0, t9, t10, t11, t3, hl.iaddr hi, hld, lt_true hi, (he i hi2 hi).len, e2, decide_eq_false (show ¬ (((ls.take i).flatten.length + ls[i].length : Nat) : Int) < 0 by omega)]
    rw [hnx i hi2, List.length_append, wrap_next hi (by unfold big at hm; omega)]
    exact ⟨rfl, rfl⟩
  · rintro T L h' ⟨rfl, t0, t9, t10, t11, t3⟩
    rw [← hlen, List.take_length] at t3
    simp +contextual (maxSteps := 2000000) only [go_sem, Nat.reduceEqDiff, reduceCtorEq, Nat.reduceAdd, Nat.reduceLeDiff, t0, t9, t10, t11, t3, lt_false]
    refine wp_call (c_growI _ _ hn) ?_
    rintro r h1 ⟨g1, n1⟩
    simp +contextual (maxSteps := 2000000) only [go_sem, Nat.reduceEqDiff, reduceCtorEq, Nat.reduceAdd, Nat.reduceLeDiff, t0, hl.len]
    refine wpC_loop (fun i T L h2 => Grow h' h2 ∧ T 25 = .v v ∧ T 26 = .v (.one (.int .i64 cs.length)) ∧ T 27 = .v (.one (.int .i64 i)) ∧ ∃ s, T 6 = .v s ∧ NwI h' h2 s (ls.take i).flatten) cs.length ?_ ?_ (Nat.zero_le _) ?_
    · rintro i T L h2 hi ⟨g2, t25, t26, t27, s, t6, n2⟩
      have hi2 : i < ls.length := by omega
      have e1 := hpre (i + 1) (by omega)
      rw [hnx i hi2, List.length_append] at e1
      have hl2 := hl.grow g2
      have hld := hl2.oneO hi
      rw [show ([cs[i]] : List CV)[0]? = some cs[i] from rfl] at hld
      simp +contextual (maxSteps := 2000000) only [go_sem, Nat.reduceEqDiff, reduceCtorEq, Nat.reduceAdd, Nat.reduceLeDiff, t25, t26, t27, t6, hl2.iaddr hi, hld, lt_true hi]
      refine wp_append lenI n2 ((he i hi2 hi).grow g2) g2 (by omega) ?_
      intro h3 s' g3 n3 _ _
      simp +contextual (maxSteps := 2000000) only [go_sem, Nat.reduceEqDiff, reduceCtorEq, Nat.reduceAdd, Nat.reduceLeDiff, t25, t26, t27]
      rw [hnx i hi2, wrap_next hi (by unfold big at hm; omega)]
      exact ⟨g3, rfl, _, rfl, n3⟩
    · rintro T L h2 ⟨g2, t25, t26, t27, s, t6, n2⟩
      rw [← hlen, List.take_length] at n2
      simp +contextual (maxSteps := 2000000) only [go_sem, Nat.reduceEqDiff, reduceCtorEq, Nat.reduceAdd, Nat.reduceLeDiff, t25, t26, t27, t6, lt_false]
      exact gcK_of ⟨g2, n2⟩ (fun hs _ => ⟨Grow.refl _, n2.scalar hs _⟩)
    · simp +contextual (maxSteps := 2000000) only [go_sem, Nat.reduceEqDiff, reduceCtorEq, Nat.reduceAdd, Nat.reduceLeDiff]
      exact ⟨g1, by simpa [rdy] using n1⟩
  · simp +contextual (maxSteps := 2000000) only [go_sem, Nat.reduceEqDiff, reduceCtorEq, Nat.reduceAdd, Nat.reduceLeDiff]
    simp
/-! impl.OverFlat -/
def L38_0 : List AStep := [⟨.alloc 29 [(.sl none 0 (some 0)), (.sl none 0 (some 0))], (some 4), none, []⟩, ⟨.mov (.c (.bool false)), (some 5), none, []⟩]
theorem v38_0 : VS L38_0.eq_1 := rfl
def L38_1 : List AStep := ⟨.box 29 (.t 0), (some 2), none, []⟩ :: ⟨.box 29 (.t 1), (some 3), none, []⟩ :: L38_0
theorem v38_1 : VS L38_1.eq_1 := rfl
def L38_2 : List AStep := [⟨.not (.t 14), (some 15), (some (12, false)), []⟩, ⟨.pick (.t 12) (.c (.bool true)) (.t 15), (some 16), none, []⟩]
theorem v38_2 : VS L38_2.eq_1 := rfl
def L38_3 : List AStep := ⟨.load 2 true (.t 3), (some 13), (some (12, false)), []⟩ :: ⟨.call 43 [(.t 13)], (some 14), (some (12, false)), []⟩ :: L38_2
theorem v38_3 : VS L38_3.eq_1 := rfl
def L38_4 : List AStep := ⟨.not (.t 10), (some 11), none, []⟩ :: ⟨.mov (.t 11), (some 12), none, []⟩ :: L38_3
theorem v38_4 : VS L38_4.eq_1 := rfl
def L38_5 : List AStep := ⟨.load 2 true (.t 2), (some 9), none, []⟩ :: ⟨.call 43 [(.t 9)], (some 10), none, []⟩ :: L38_4
theorem v38_5 : VS L38_5.eq_1 := rfl
def L38_6 : List AStep := [⟨.mov (.c (.bool false)), (some 5), none, []⟩]
theorem v38_6 : VS L38_6.eq_1 := rfl
def L38_7 : List AStep := ⟨.build [(.sl none 0 (some 0)), (.sl none 0 (some 0))] [], (some 17), none, []⟩ :: ⟨.store 2 (.t 4) (.t 17), none, none, []⟩ :: L38_6
theorem v38_7 : VS L38_7.eq_1 := rfl
def L38_8 : List AStep := [⟨.store 2 (.t 6) (.t 26), none, none, []⟩]
theorem v38_8 : VS L38_8.eq_1 := rfl
def L38_9 : List AStep := ⟨.call 81 [(.t 22)], (some 23), none, [(.load 1 false (.t 24), (some 25), none)]⟩ :: ⟨.build [(.sl none 0 (some 0)), (.sl none 0 (some 0))] [(0, 1, (.t 23)), (1, 1, (.t 25))], (some 26), none, []⟩ :: L38_8
theorem v38_9 : VS L38_9.eq_1 := rfl
def L38_10 : List AStep := ⟨.load 1 false (.t 24), (some 25), none, []⟩ :: ⟨.alloc 29 [(.sl none 0 (some 0)), (.sl none 0 (some 0))], (some 6), none, []⟩ :: L38_9
theorem v38_10 : VS L38_10.eq_1 := rfl
def L38_11 : List AStep := ⟨.buildSlice 26 2 [(.sl none 0 (some 0))] [(0, 1, (.t 19)), (1, 1, (.t 21))], (some 22), none, []⟩ :: ⟨.faddr 1 (.t 2), (some 24), none, []⟩ :: L38_10
theorem v38_11 : VS L38_11.eq_1 := rfl
def L38_12 : List AStep := ⟨.faddr 0 (.t 3), (some 20), none, []⟩ :: ⟨.load 1 false (.t 20), (some 21), none, []⟩ :: L38_11
theorem v38_12 : VS L38_12.eq_1 := rfl
def L38_13 : List AStep := ⟨.faddr 0 (.t 2), (some 18), none, []⟩ :: ⟨.load 1 false (.t 18), (some 19), none, []⟩ :: L38_12
theorem v38_13 : VS L38_13.eq_1 := rfl
def L38_14 : List AStep := [⟨.len (.t 28), (some 29), none, []⟩, ⟨.mov (.c (.int .i64 0)), (some 30), none, []⟩]
theorem v38_14 : VS L38_14.eq_1 := rfl
def L38_15 : List AStep := ⟨.faddr 1 (.t 3), (some 27), none, []⟩ :: ⟨.load 1 false (.t 27), (some 28), none, []⟩ :: L38_14
theorem v38_15 : VS L38_15.eq_1 := rfl
def L38_16 : List AStep := [⟨.bin .lss (.t 30) (.t 29), (some 31), none, []⟩]
theorem v38_16 : VS L38_16.eq_1 := rfl
def L38_17 : List AStep := [⟨.alloc 93 [(.str (strOfNums [])), (.int .i64 0)], (some 8), none, []⟩, ⟨.store 2 (.t 8) (.t 33), none, none, []⟩]
theorem v38_17 : VS L38_17.eq_1 := rfl
def L38_18 : List AStep := ⟨.iaddr 2 (.t 28) (.t 30), (some 32), none, []⟩ :: ⟨.load 2 true (.t 32), (some 33), none, []⟩ :: L38_17
theorem v38_18 : VS L38_18.eq_1 := rfl
def L38_19 : List AStep := [⟨.store 2 (.t 6) (.t 39), none, none, []⟩]
theorem v38_19 : VS L38_19.eq_1 := rfl
def L38_20 : List AStep := ⟨.load 1 false (.t 37), (some 38), none, []⟩ :: ⟨.call 82 [(.t 34), (.t 36), (.t 38)], (some 39), none, []⟩ :: L38_19
theorem v38_20 : VS L38_20.eq_1 := rfl
def L38_21 : List AStep := ⟨.load 1 false (.t 35), (some 36), none, []⟩ :: ⟨.faddr 1 (.t 8), (some 37), none, []⟩ :: L38_20
theorem v38_21 : VS L38_21.eq_1 := rfl
def L38_22 : List AStep := ⟨.load 2 true (.t 6), (some 34), none, []⟩ :: ⟨.faddr 0 (.t 8), (some 35), none, []⟩ :: L38_21
theorem v38_22 : VS L38_22.eq_1 := rfl
def L38_23 : List AStep := [⟨.bin .add (.t 30) (.c (.int .i64 1)), (some 40), none, []⟩, ⟨.mov (.t 40), (some 30), none, []⟩]
theorem v38_23 : VS L38_23.eq_1 := rfl
def L38_24 : List AStep := [⟨.store 2 (.t 4) (.t 43), none, none, []⟩, ⟨.mov (.t 44), (some 5), none, []⟩]
theorem v38_24 : VS L38_24.eq_1 := rfl
def L38_25 : List AStep := ⟨.extract (.t 42) 0, (some 43), none, []⟩ :: ⟨.extract (.t 42) 1, (some 44), none, []⟩ :: L38_24
theorem v38_25 : VS L38_25.eq_1 := rfl
def L38_26 : List AStep := ⟨.load 2 true (.t 6), (some 41), none, []⟩ :: ⟨.call 83 [(.t 41), (.c (.bool true))], (some 42), none, []⟩ :: L38_25
theorem v38_26 : VS L38_26.eq_1 := rfl
def C38_0 : ACode := .seq (.reg L38_7) .ret
theorem u38_0 : VC C38_0.eq_1 := rfl
def C38_1 : ACode := .cond (.t 16) C38_0 .skip
theorem u38_1 : VC C38_1.eq_1 := rfl
def C38_2 : ACode := .seq (.reg L38_5) C38_1
theorem u38_2 : VC C38_2.eq_1 := rfl
def C38_3 : ACode := .cond (.t 31) .skip (.exit 0)
theorem u38_3 : VC C38_3.eq_1 := rfl
def C38_4 : ACode := .seq (.reg L38_18) (.reg L38_22)
theorem u38_4 : VC C38_4.eq_1 := rfl
def C38_5 : ACode := .block 1 C38_4
theorem u38_5 : VC C38_5.eq_1 := rfl
def C38_6 : ACode := .seq C38_5 (.reg L38_23)
theorem u38_6 : VC C38_6.eq_1 := rfl
def C38_7 : ACode := .seq C38_3 C38_6
theorem u38_7 : VC C38_7.eq_1 := rfl
def C38_8 : ACode := .seq (.reg L38_16) C38_7
theorem u38_8 : VC C38_8.eq_1 := rfl
def C38_9 : ACode := .block 0 (.loop C38_8)
theorem u38_9 : VC C38_9.eq_1 := rfl
def C38_10 : ACode := .seq (.reg L38_15) C38_9
theorem u38_10 : VC C38_10.eq_1 := rfl
def C38_11 : ACode := .seq (.reg L38_26) .ret
theorem u38_11 : VC C38_11.eq_1 := rfl
def C38_12 : ACode := .seq C38_10 C38_11
theorem u38_12 : VC C38_12.eq_1 := rfl
def C38_13 : ACode := .seq (.reg L38_13) C38_12
theorem u38_13 : VC C38_13.eq_1 := rfl
def C38_14 : ACode := .seq C38_2 C38_13
theorem u38_14 : VC C38_14.eq_1 := rfl
def C38_15 : ACode := .seq (.reg L38_1) C38_14
theorem u38_15 : VC C38_15.eq_1 := rfl
def F38 : AFunc := ⟨45, [.cell 4 2 true, .tmp 5], C38_15⟩
theorem cF38 : compB Try.prog 38 = some F38 := by kernel_rfl
attribute [local go_sem ↓] u38_0 u38_1 u38_2 u38_3 u38_4 u38_5 u38_6 u38_7 u38_8 u38_9 u38_10 u38_11 u38_12 u38_13 u38_14 u38_15 v38_0 v38_1 v38_2 v38_3 v38_4 v38_5 v38_6 v38_7 v38_8 v38_9 v38_10 v38_11 v38_12 v38_13 v38_14 v38_15 v38_16 v38_17 v38_18 v38_19 v38_20 v38_21 v38_22 v38_23 v38_24 v38_25 v38_26
theorem c_OverFlat (f g : Flat) (p n q m : CV) (h : H) (hf : SlF h p n f) (hg : SlF h q m g) (hn : smF f) (hm : smF g) (hb : f.pl.length + g.pl.length ≤ big) (hc : f.nl.length + g.nl.length ≤ big) :
    callK (bm Try.prog 38 [.agg [p, n], .agg [q, m]] h) fun r h' => Grow h h' ∧ ∃ p' n', r = .tup [.agg [p', n'], .one (.bool (OverFlat f g).isSome)] ∧ NwF h h' p' n' (orF (OverFlat f g)) := by
  refine bm_of cF38 ?_
  unfold OverFlat
  cases h1 : okFlat f with
  | false =>
    simp +contextual (maxSteps := 2000000) only [go_sem, Nat.reduceEqDiff, reduceCtorEq, Nat.reduceAdd, Nat.reduceLeDiff, F38, c_ValidFlat _ _ _ _ hf.pl hf.nl hn, h1, if_false]
    exact ⟨Grow.refl h, _, _, rfl, .nil⟩
  | true =>
  cases h2 : okFlat g with
  | false =>
    simp +contextual (maxSteps := 2000000) only [go_sem, Nat.reduceEqDiff, reduceCtorEq, Nat.reduceAdd, Nat.reduceLeDiff, F38, c_ValidFlat _ _ _ _ hf.pl hf.nl hn, c_ValidFlat _ _ _ _ hg.pl hg.nl hm, h1, h2, and_false, if_false]
    exact ⟨Grow.refl h, _, _, rfl, .nil⟩
  | true =>
    simp +contextual (maxSteps := 2000000) only [go_sem, Nat.reduceEqDiff, reduceCtorEq, Nat.reduceAdd, Nat.reduceLeDiff, F38, c_ValidFlat _ _ _ _ hf.pl hf.nl hn, c_ValidFlat _ _ _ _ hg.pl hg.nl hm, h1, h2, and_self, if_true]
    refine wp_lit (enc := fun c : CV => [c]) (k := 1) (l := [p, q]) rfl rfl ?_
    intro h3 w g3 n3 _
    have f3 := hf.grow g3
    have k3 := hg.grow g3
    simp +contextual (maxSteps := 2000000) only [go_sem, Nat.reduceEqDiff, reduceCtorEq, Nat.reduceAdd, Nat.reduceLeDiff]
    refine wp_call (c_concatI [f.pl, g.pl] [p, q] w h3 (n3.sl (fun _ => rfl)) rfl (fun i hi hj => by
      match i, hi with
      | 0, _ => exact f3.pl
      | 1, _ => exact k3.pl) (by simpa using hb) (by simp [big])) ?_
    rintro r h4 ⟨g4, n4⟩
    obtain ⟨c, rfl⟩ := n4.one
    have f4 := f3.grow g4
    have k4 := k3.grow g4
    simp +contextual (maxSteps := 2000000) only [go_sem, Nat.reduceEqDiff, reduceCtorEq, Nat.reduceAdd, Nat.reduceLeDiff, k4.nl.len]
    refine wpC_loop (fun i T L h' => Grow h h' ∧ T 4 = .lp 4 0 ∧ (L 4).2 = [.sl none 0 (some 0), .sl none 0 (some 0)] ∧ T 6 = .lp 6 0 ∧ (∃ a b, (L 6).2 = [a, b] ∧ SlI h' (.one a) (f.pl ++ g.pl) ∧ SlP h' (.one b) (putAll f.nl (g.nl.take i))) ∧ T 28 = .v (.one m) ∧ T 29 = .v (.one (.int .i64 g.nl.length)) ∧ T 30 = .v (.one (.int .i64 i))) g.nl.length ?_ ?_ (Nat.zero_le _) ?_
    · rintro i T L h' hi ⟨gg, t4, l4, t6, ⟨a, b, l6, s1, s2⟩, t28, t29, t30⟩
      have k5 := hg.grow gg
      have hsm : smF ⟨f.pl ++ g.pl, putAll f.nl (g.nl.take i)⟩ := ⟨by simpa using hb, putAll_sm hc hn.nl.2 hm.nl.2⟩
      simp +contextual (maxSteps := 2000000) only [go_sem, Nat.reduceEqDiff, reduceCtorEq, Nat.reduceAdd, Nat.reduceLeDiff, t4, l4, t6, l6, t28, t29, t30, k5.nl.iaddr hi, k5.nl.whole hi, lt_true hi]
      refine wp_call (c_put ⟨f.pl ++ g.pl, putAll f.nl (g.nl.take i)⟩ a b g.nl[i].name g.nl[i].value h' ⟨s1, s2⟩ hsm) ?_
      rintro r h5 ⟨g5, a', b', rfl, n5⟩
      simp +contextual (maxSteps := 2000000) only [go_sem, Nat.reduceEqDiff, reduceCtorEq, Nat.reduceAdd, Nat.reduceLeDiff, t4, l4, t6, l6, t28, t29, t30]
      refine ⟨gg.trans g5, ⟨a', b', rfl, n5.sl.pl, ?_⟩, by rw [wrap_next hi hm.nl.len]⟩
      have := n5.sl.nl
      rw [putAll_next hi]
      exact this
    · rintro T L h' ⟨gg, t4, l4, t6, ⟨a, b, l6, s1, s2⟩, t28, t29, t30⟩
      rw [List.take_length] at s2
      have hsm : smF (overF f g) := ⟨by simpa [overF] using hb, by have := putAll_sm (i := g.nl.length) hc hn.nl.2 hm.nl.2; rwa [List.take_length] at this⟩
      simp +contextual (maxSteps := 2000000) only [go_sem, Nat.reduceEqDiff, reduceCtorEq, Nat.reduceAdd, Nat.reduceLeDiff, t4, l4, t6, l6, t28, t29, t30, lt_false]
      refine wp_call (c_checked (overF f g) a b true h' ⟨s1, s2⟩ hsm) ?_
      rintro r h5 ⟨g5, a', b', rfl, n5⟩
      simp only [Bool.true_and] at n5
      simp +contextual (maxSteps := 2000000) only [go_sem, Nat.reduceEqDiff, reduceCtorEq, Nat.reduceAdd, Nat.reduceLeDiff, t4, l4, t6, l6, Bool.true_and]
      have e : orF (okF (overF f g)) = if okFlat (overF f g) = true then overF f g else ⟨[], []⟩ := by unfold orF okF; split <;> rfl
      have e2 : (okF (overF f g)).isSome = okFlat (overF f g) := by unfold okF; split <;> simp_all
      have n6 : NwF h h5 a' b' (orF (okF (overF f g))) := by rw [e]; exact n5.from gg.n
      rw [e2]
      exact gcK_of ⟨gg.trans g5, _, _, rfl, n6⟩ (fun hs _ => ⟨Grow.refl h, _, _, rfl, n6.scalar (by simpa [AV.scalar, AV.scalars, CV.scalar] using hs) h⟩)
    · simp +contextual (maxSteps := 2000000) only [go_sem, Nat.reduceEqDiff, reduceCtorEq, Nat.reduceAdd, Nat.reduceLeDiff]
      refine ⟨g3.trans g4, ⟨c, n, rfl, ?_, ?_⟩, rfl⟩
      · have := n4.sl lenI
        simpa [rdy] using this
      · exact f4.nl
end Go.Proofs.Ytekkimfdcbgcoac.Am
