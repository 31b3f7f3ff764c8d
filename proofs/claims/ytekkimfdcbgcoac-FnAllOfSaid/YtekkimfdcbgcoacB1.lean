/- Contracts of the program: copies, calls over each other. -/
import Derived.Test.YtekkimfdcbgcoacA3
namespace Go.Proofs.Ytekkimfdcbgcoac.Am
open Go
set_option maxRecDepth 100000
set_option maxHeartbeats 4000000
set_option linter.unusedSimpArgs false
set_option linter.unusedVariables false
attribute [local go_sem ↓] bv_t bv_c ev_t ev_c put_same put_ne put_none kill_at pro_at lb_same lb_ne start_zero start_succ wpC_seq wpC_reg wpC_cond wpC_block wpC_skip wpC_exit wpC_ret thenQ_normal thenQ_exit thenQ_ret inBlk_normal inBlk_exit inBlk_ret wpS_nil wpS_step wpS_again wpS_guard wpO_mov wpO_load wpO_faddr wpO_nilCheck wpO_pick wpO_build wpO_bin wpO_eqb wpO_eqst wpO_eqnil wpO_not wpO_conv wpO_bytesStr wpO_iaddr wpO_idxStr wpO_field wpO_extract wpO_len wpO_lenStr wpO_cap wpO_min wpO_slice wpO_sliceStr wpO_alloc wpO_box wpO_store wpO_call wpO_callv wpO_mkfn wpO_buildSlice wpO_mkslice wpO_append wpO_appz proA_nil proA_cons tmpX_nil tmpX_tmp tmpX_cell doneB_normal doneB_ret agK_cons agK_nil agK_guard agG_tt agG_ff agG_tf agG_ft agG_undef pureB_load results_one results_two results_nil resBs_cons resBs_nil resB_tmp resB_cell
attribute [local go_sem] kill_v kill_lp_ne kill_lp_same pro_v pro_lp_same pro_lp_ne av_v av_lp optB_some optX_some valX_eq ldX_lp ldX_v faX_lp faX_v ncX_lp ncX_ptr ncX_fn boxK_one boxK_agg stL_some stK_lp_one stK_lp_agg stK_v_one stK_v_agg proM_v proM_lp callG_mk callVG_mk callvK_fn fnG_mk ptrsA_nil ptrsA_cons callH_some whenA_true whenA_false guardH_tt guardH_ff guardH_tf guardH_ft guardH_undef agV_one agV_agg lenO_sl lenStrO_str notO_bool pickO_bool convO_int eqbO_bool eqnilO_sl extractO_tup capO_sl minO_int loadL_one loadL_all storeL_eq fillA_nil fillA_one fillA_agg nat_ge neg_ge nat_lt neg_lt buildO bin_add bin_sub bin_mul bin_eql bin_neq bin_lss bin_leq bin_gtr bin_geq str_eql str_neq str_lss str_leq str_gtr str_geq retK_some endK_mk gcK_same gcK_int gcK_bool tupO_one tupO_agg rdy_self ib ii Option.map_none Option.map_some Option.some.injEq exists_eq_left' exists_eq_left ne_eq not_false_eq_true if_true if_false List.map_cons List.map_nil List.getElem?_cons_zero List.getElem?_cons_succ List.length_cons List.length_nil List.take_succ_cons List.take_zero List.take_nil List.drop_succ_cons List.drop_zero List.drop_nil List.cons_append List.nil_append List.append_nil List.set_cons_zero List.set_cons_succ Nat.zero_add forall_const true_and and_true and_self Bool.false_eq_true false_implies true_implies implies_true Bool.not_true Bool.not_false Bool.not_eq_true' Bool.not_eq_false' beq_self_eq_true Bool.bne_true Bool.bne_false
attribute [local go_sem] lenI lenS lenP lenQ lenB lenL lenT encI_0 encS_0 encP_0 encP_1 encQ_0 encQ_1 encQ_2 encQ_3 encB_0 encB_1 encL_0 encL_1 encT_0 encT_1
attribute [local go_sem low] whenA_bool guardH_bool
/-! slices.Clip(()int,int) -/
def L86_0 : List AStep := [⟨.mov (.c (.sl none 0 (some 0))), (some 2), none, []⟩]
theorem v86_0 : VS L86_0.eq_1 := rfl
def L86_1 : List AStep := [⟨.mov (.t 8), (some 2), none, []⟩]
theorem v86_1 : VS L86_1.eq_1 := rfl
def L86_2 : List AStep := ⟨.len (.t 6), (some 7), none, []⟩ :: ⟨.slice 3 1 (.t 3) none (some (.t 5)) (some (.t 7)), (some 8), none, []⟩ :: L86_1
theorem v86_2 : VS L86_2.eq_1 := rfl
def L86_3 : List AStep := ⟨.len (.t 4), (some 5), none, []⟩ :: ⟨.mov (.t 0), (some 6), none, []⟩ :: L86_2
theorem v86_3 : VS L86_3.eq_1 := rfl
def L86_4 : List AStep := ⟨.mov (.t 0), (some 3), none, []⟩ :: ⟨.mov (.t 0), (some 4), none, []⟩ :: L86_3
theorem v86_4 : VS L86_4.eq_1 := rfl
def C86_0 : ACode := .seq (.reg L86_4) .ret
theorem u86_0 : VC C86_0.eq_1 := rfl
def C86_1 : ACode := .seq (.reg L86_0) C86_0
theorem u86_1 : VC C86_1.eq_1 := rfl
def F86 : AFunc := ⟨9, [.tmp 2], C86_1⟩
theorem cF86 : compB Try.prog 86 = some F86 := by kernel_rfl
attribute [local go_sem ↓] u86_0 u86_1 v86_0 v86_1 v86_2 v86_3 v86_4
theorem c_clipI {h0 : H} (l : List Int) (v : AV) (h : H) (hl : NwI h0 h v l) : callK (bm Try.prog 86 [v] h) fun r h' => h' = h ∧ NwI h0 h r l := by
  refine bm_of cF86 ?_
  obtain ⟨w, e1, n1⟩ := hl.clipO (kd := .i64) (kd' := .i64)
  simp +contextual (maxSteps := 2000000) only [go_sem, Nat.reduceEqDiff, reduceCtorEq, Nat.reduceAdd, Nat.reduceLeDiff, F86, hl.length, e1]
  exact n1
theorem c_clipbI {h0 : H} (l : List Int) (v : AV) (h : H) (hl : NwI h0 h v l) : callK (bm Try.prog 86 [v] h) fun r h' => h' = h ∧ NwI h0 h r l ∧ ∀ i, baseOf r = some i → baseOf v = some i := by
  refine bm_of cF86 ?_
  obtain ⟨w, e1, n1⟩ := hl.clipB (kd := .i64) (kd' := .i64)
  simp +contextual (maxSteps := 2000000) only [go_sem, Nat.reduceEqDiff, reduceCtorEq, Nat.reduceAdd, Nat.reduceLeDiff, F86, hl.length, e1]
  exact n1
/-! slices.Clone(()int,int) -/
def L138_0 : List AStep := [⟨.mov (.c (.sl none 0 (some 0))), (some 2), none, []⟩]
theorem v138_0 : VS L138_0.eq_1 := rfl
def L138_1 : List AStep := [⟨.mov (.t 0), (some 3), none, []⟩, ⟨.eqnil false (.t 3) (.c (.sl none 0 (some 0))), (some 4), none, []⟩]
theorem v138_1 : VS L138_1.eq_1 := rfl
def L138_2 : List AStep := [⟨.mov (.c (.sl none 0 (some 0))), (some 2), none, []⟩]
theorem v138_2 : VS L138_2.eq_1 := rfl
def L138_3 : List AStep := [⟨.append 3 1 8 (.t 5) (.t 6), (some 7), none, []⟩, ⟨.mov (.t 7), (some 2), none, []⟩]
theorem v138_3 : VS L138_3.eq_1 := rfl
def L138_4 : List AStep := ⟨.buildSlice 3 0 [(.int .i64 0)] [], (some 5), none, []⟩ :: ⟨.mov (.t 0), (some 6), none, []⟩ :: L138_3
theorem v138_4 : VS L138_4.eq_1 := rfl
def C138_0 : ACode := .seq (.reg L138_2) .ret
theorem u138_0 : VC C138_0.eq_1 := rfl
def C138_1 : ACode := .cond (.t 4) C138_0 .skip
theorem u138_1 : VC C138_1.eq_1 := rfl
def C138_2 : ACode := .seq (.reg L138_1) C138_1
theorem u138_2 : VC C138_2.eq_1 := rfl
def C138_3 : ACode := .seq (.reg L138_4) .ret
theorem u138_3 : VC C138_3.eq_1 := rfl
def C138_4 : ACode := .seq C138_2 C138_3
theorem u138_4 : VC C138_4.eq_1 := rfl
def C138_5 : ACode := .seq (.reg L138_0) C138_4
theorem u138_5 : VC C138_5.eq_1 := rfl
def F138 : AFunc := ⟨8, [.tmp 2], C138_5⟩
theorem cF138 : compB Try.prog 138 = some F138 := by kernel_rfl
attribute [local go_sem ↓] u138_0 u138_1 u138_2 u138_3 u138_4 u138_5 v138_0 v138_1 v138_2 v138_3 v138_4
theorem c_clone0I (l : List Int) (v : AV) (h : H) (hl : SlI h v l) (hn : l.length ≤ big) : callK (bm Try.prog 138 [v] h) fun r h' => Grow h h' ∧ NwI h h' r l := by
  refine bm_of cF138 ?_
  obtain ⟨b, e1, e2⟩ := hl.isNil
  simp +contextual (maxSteps := 2000000) only [go_sem, Nat.reduceEqDiff, reduceCtorEq, Nat.reduceAdd, Nat.reduceLeDiff, F138, e1]
  cases b with
  | true =>
    obtain rfl := e2 rfl
    simp +contextual (maxSteps := 2000000) only [go_sem, Nat.reduceEqDiff, reduceCtorEq, Nat.reduceAdd, Nat.reduceLeDiff]
    exact ⟨Grow.refl h, .nil⟩
  | false =>
    simp +contextual (maxSteps := 2000000) only [go_sem, Nat.reduceEqDiff, reduceCtorEq, Nat.reduceAdd, Nat.reduceLeDiff]
    refine wp_lit (enc := encI) (k := 1) (l := []) rfl rfl ?_
    intro h1 w g1 n1 _
    simp +contextual (maxSteps := 2000000) only [go_sem, Nat.reduceEqDiff, reduceCtorEq, Nat.reduceAdd, Nat.reduceLeDiff]
    refine wp_append lenI n1 (hl.grow g1) g1 (by have := hn; unfold big at this; simp; omega) ?_
    intro h2 s g2 n2 _ _
    simp +contextual (maxSteps := 2000000) only [go_sem, Nat.reduceEqDiff, reduceCtorEq, Nat.reduceAdd, Nat.reduceLeDiff]
    exact gcK_of ⟨g2, n2⟩ (fun hs _ => ⟨Grow.refl h, n2.scalar hs h⟩)
/-! impl.clone(int) -/
def L103_0 : List AStep := [⟨.mov (.c (.sl none 0 (some 0))), (some 2), none, []⟩]
theorem v103_0 : VS L103_0.eq_1 := rfl
def L103_1 : List AStep := [⟨.call 86 [(.t 4)], (some 5), none, []⟩, ⟨.mov (.t 5), (some 2), none, []⟩]
theorem v103_1 : VS L103_1.eq_1 := rfl
def L103_2 : List AStep := ⟨.mov (.t 0), (some 3), none, []⟩ :: ⟨.call 138 [(.t 3)], (some 4), none, []⟩ :: L103_1
theorem v103_2 : VS L103_2.eq_1 := rfl
def C103_0 : ACode := .seq (.reg L103_2) .ret
theorem u103_0 : VC C103_0.eq_1 := rfl
def C103_1 : ACode := .seq (.reg L103_0) C103_0
theorem u103_1 : VC C103_1.eq_1 := rfl
def F103 : AFunc := ⟨6, [.tmp 2], C103_1⟩
theorem cF103 : compB Try.prog 103 = some F103 := by kernel_rfl
attribute [local go_sem ↓] u103_0 u103_1 v103_0 v103_1 v103_2
theorem c_cloneI (l : List Int) (v : AV) (h : H) (hl : SlI h v l) (hn : l.length ≤ big) : callK (bm Try.prog 103 [v] h) fun r h' => Grow h h' ∧ NwI h h' r l := by
  refine bm_of cF103 ?_
  simp +contextual (maxSteps := 2000000) only [go_sem, Nat.reduceEqDiff, reduceCtorEq, Nat.reduceAdd, Nat.reduceLeDiff, F103]
  refine wp_call (c_clone0I l v h hl hn) ?_
  rintro r h1 ⟨g1, n1⟩
  simp +contextual (maxSteps := 2000000) only [go_sem, Nat.reduceEqDiff, reduceCtorEq, Nat.reduceAdd, Nat.reduceLeDiff]
  refine wp_call (c_clipI l r h1 n1) ?_
  rintro r2 h2 ⟨rfl, n2⟩
  simp +contextual (maxSteps := 2000000) only [go_sem, Nat.reduceEqDiff, reduceCtorEq, Nat.reduceAdd, Nat.reduceLeDiff]
  exact gcK_of ⟨g1, n2⟩ (fun hs _ => ⟨Grow.refl h, n2.scalar hs h⟩)
/-! slices.Clip(()impl.Pair,impl.Pair) -/
def L105_0 : List AStep := [⟨.mov (.c (.sl none 0 (some 0))), (some 2), none, []⟩]
theorem v105_0 : VS L105_0.eq_1 := rfl
def L105_1 : List AStep := [⟨.mov (.t 8), (some 2), none, []⟩]
theorem v105_1 : VS L105_1.eq_1 := rfl
def L105_2 : List AStep := ⟨.len (.t 6), (some 7), none, []⟩ :: ⟨.slice 93 2 (.t 3) none (some (.t 5)) (some (.t 7)), (some 8), none, []⟩ :: L105_1
theorem v105_2 : VS L105_2.eq_1 := rfl
def L105_3 : List AStep := ⟨.len (.t 4), (some 5), none, []⟩ :: ⟨.mov (.t 0), (some 6), none, []⟩ :: L105_2
theorem v105_3 : VS L105_3.eq_1 := rfl
def L105_4 : List AStep := ⟨.mov (.t 0), (some 3), none, []⟩ :: ⟨.mov (.t 0), (some 4), none, []⟩ :: L105_3
theorem v105_4 : VS L105_4.eq_1 := rfl
def C105_0 : ACode := .seq (.reg L105_4) .ret
theorem u105_0 : VC C105_0.eq_1 := rfl
def C105_1 : ACode := .seq (.reg L105_0) C105_0
theorem u105_1 : VC C105_1.eq_1 := rfl
def F105 : AFunc := ⟨9, [.tmp 2], C105_1⟩
theorem cF105 : compB Try.prog 105 = some F105 := by kernel_rfl
attribute [local go_sem ↓] u105_0 u105_1 v105_0 v105_1 v105_2 v105_3 v105_4
theorem c_clipP {h0 : H} (l : List Pair) (v : AV) (h : H) (hl : NwP h0 h v l) : callK (bm Try.prog 105 [v] h) fun r h' => h' = h ∧ NwP h0 h r l := by
  refine bm_of cF105 ?_
  obtain ⟨w, e1, n1⟩ := hl.clipO (kd := .i64) (kd' := .i64)
  simp +contextual (maxSteps := 2000000) only [go_sem, Nat.reduceEqDiff, reduceCtorEq, Nat.reduceAdd, Nat.reduceLeDiff, F105, hl.length, e1]
  exact n1
theorem c_clipbP {h0 : H} (l : List Pair) (v : AV) (h : H) (hl : NwP h0 h v l) : callK (bm Try.prog 105 [v] h) fun r h' => h' = h ∧ NwP h0 h r l ∧ ∀ i, baseOf r = some i → baseOf v = some i := by
  refine bm_of cF105 ?_
  obtain ⟨w, e1, n1⟩ := hl.clipB (kd := .i64) (kd' := .i64)
  simp +contextual (maxSteps := 2000000) only [go_sem, Nat.reduceEqDiff, reduceCtorEq, Nat.reduceAdd, Nat.reduceLeDiff, F105, hl.length, e1]
  exact n1
/-! slices.Clip(()impl.Problem,impl.Problem) -/
def L106_0 : List AStep := [⟨.mov (.c (.sl none 0 (some 0))), (some 2), none, []⟩]
theorem v106_0 : VS L106_0.eq_1 := rfl
def L106_1 : List AStep := [⟨.mov (.t 8), (some 2), none, []⟩]
theorem v106_1 : VS L106_1.eq_1 := rfl
def L106_2 : List AStep := ⟨.len (.t 6), (some 7), none, []⟩ :: ⟨.slice 86 2 (.t 3) none (some (.t 5)) (some (.t 7)), (some 8), none, []⟩ :: L106_1
theorem v106_2 : VS L106_2.eq_1 := rfl
def L106_3 : List AStep := ⟨.len (.t 4), (some 5), none, []⟩ :: ⟨.mov (.t 0), (some 6), none, []⟩ :: L106_2
theorem v106_3 : VS L106_3.eq_1 := rfl
def L106_4 : List AStep := ⟨.mov (.t 0), (some 3), none, []⟩ :: ⟨.mov (.t 0), (some 4), none, []⟩ :: L106_3
theorem v106_4 : VS L106_4.eq_1 := rfl
def C106_0 : ACode := .seq (.reg L106_4) .ret
theorem u106_0 : VC C106_0.eq_1 := rfl
def C106_1 : ACode := .seq (.reg L106_0) C106_0
theorem u106_1 : VC C106_1.eq_1 := rfl
def F106 : AFunc := ⟨9, [.tmp 2], C106_1⟩
theorem cF106 : compB Try.prog 106 = some F106 := by kernel_rfl
attribute [local go_sem ↓] u106_0 u106_1 v106_0 v106_1 v106_2 v106_3 v106_4
theorem c_clipB {h0 : H} (l : List Problem) (v : AV) (h : H) (hl : NwB h0 h v l) : callK (bm Try.prog 106 [v] h) fun r h' => h' = h ∧ NwB h0 h r l := by
  refine bm_of cF106 ?_
  obtain ⟨w, e1, n1⟩ := hl.clipO (kd := .i64) (kd' := .i64)
  simp +contextual (maxSteps := 2000000) only [go_sem, Nat.reduceEqDiff, reduceCtorEq, Nat.reduceAdd, Nat.reduceLeDiff, F106, hl.length, e1]
  exact n1
theorem c_clipbB {h0 : H} (l : List Problem) (v : AV) (h : H) (hl : NwB h0 h v l) : callK (bm Try.prog 106 [v] h) fun r h' => h' = h ∧ NwB h0 h r l ∧ ∀ i, baseOf r = some i → baseOf v = some i := by
  refine bm_of cF106 ?_
  obtain ⟨w, e1, n1⟩ := hl.clipB (kd := .i64) (kd' := .i64)
  simp +contextual (maxSteps := 2000000) only [go_sem, Nat.reduceEqDiff, reduceCtorEq, Nat.reduceAdd, Nat.reduceLeDiff, F106, hl.length, e1]
  exact n1
end Go.Proofs.Ytekkimfdcbgcoac.Am
