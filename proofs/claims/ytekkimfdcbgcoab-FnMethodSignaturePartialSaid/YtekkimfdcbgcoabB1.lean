/- Contracts of the program: copies, calls over each other. -/
import Derived.Test.YtekkimfdcbgcoabA3
namespace Go.Proofs.Ytekkimfdcbgcoab.Am
open Go
set_option maxRecDepth 100000
set_option maxHeartbeats 4000000
set_option linter.unusedSimpArgs false
set_option linter.unusedVariables false
attribute [local go_sem ↓] bv_t bv_c ev_t ev_c put_same put_ne put_none kill_at pro_at lb_same lb_ne start_zero start_succ wpC_seq wpC_reg wpC_cond wpC_block wpC_skip wpC_exit wpC_ret thenQ_normal thenQ_exit thenQ_ret inBlk_normal inBlk_exit inBlk_ret wpS_nil wpS_step wpS_again wpS_guard wpO_mov wpO_load wpO_faddr wpO_nilCheck wpO_pick wpO_build wpO_bin wpO_eqb wpO_eqst wpO_eqnil wpO_not wpO_conv wpO_bytesStr wpO_iaddr wpO_idxStr wpO_field wpO_extract wpO_len wpO_lenStr wpO_cap wpO_min wpO_slice wpO_sliceStr wpO_alloc wpO_box wpO_store wpO_call wpO_callv wpO_mkfn wpO_buildSlice wpO_mkslice wpO_append wpO_appz proA_nil proA_cons tmpX_nil tmpX_tmp tmpX_cell doneB_normal doneB_ret agK_cons agK_nil agK_guard agG_tt agG_ff agG_tf agG_ft agG_undef pureB_load results_one results_two results_nil resBs_cons resBs_nil resB_tmp resB_cell
attribute [local go_sem] kill_v kill_lp_ne kill_lp_same pro_v pro_lp_same pro_lp_ne av_v av_lp optB_some optX_some valX_eq ldX_lp ldX_v faX_lp faX_v ncX_lp ncX_ptr ncX_fn boxK_one boxK_agg stL_some stK_lp_one stK_lp_agg stK_v_one stK_v_agg proM_v proM_lp callG_mk callVG_mk callvK_fn fnG_mk ptrsA_nil ptrsA_cons callH_some whenA_true whenA_false guardH_tt guardH_ff guardH_tf guardH_ft guardH_undef agV_one agV_agg lenO_sl lenStrO_str notO_bool pickO_bool convO_int eqbO_bool eqnilO_sl extractO_tup capO_sl minO_int loadL_one loadL_all storeL_eq fillA_nil fillA_one fillA_agg nat_ge neg_ge nat_lt neg_lt buildO bin_add bin_sub bin_mul bin_eql bin_neq bin_lss bin_leq bin_gtr bin_geq str_eql str_neq str_lss str_leq str_gtr str_geq retK_some endK_mk gcK_same gcK_int gcK_bool tupO_one tupO_agg rdy_self ib ii Option.map_none Option.map_some Option.some.injEq exists_eq_left' exists_eq_left ne_eq not_false_eq_true if_true if_false List.map_cons List.map_nil List.getElem?_cons_zero List.getElem?_cons_succ List.length_cons List.length_nil List.take_succ_cons List.take_zero List.take_nil List.drop_succ_cons List.drop_zero List.drop_nil List.cons_append List.nil_append List.append_nil List.set_cons_zero List.set_cons_succ Nat.zero_add forall_const true_and and_true and_self Bool.false_eq_true false_implies true_implies implies_true Bool.not_true Bool.not_false Bool.not_eq_true' Bool.not_eq_false' beq_self_eq_true Bool.bne_true Bool.bne_false
attribute [local go_sem] lenI lenS lenP lenQ lenB lenL lenT encI_0 encS_0 encP_0 encP_1 encQ_0 encQ_1 encQ_2 encQ_3 encB_0 encB_1 encL_0 encL_1 encT_0 encT_1
attribute [local go_sem low] whenA_bool guardH_bool
/-! slices.Clip(()int,int) -/
def L136_0 : List AStep := [⟨.mov (.c (.sl none 0 (some 0))), (some 2), none, []⟩]
theorem v136_0 : VS L136_0.eq_1 := rfl
def L136_1 : List AStep := [⟨.mov (.t 8), (some 2), none, []⟩]
theorem v136_1 : VS L136_1.eq_1 := rfl
def L136_2 : List AStep := ⟨.len (.t 6), (some 7), none, []⟩ :: ⟨.slice 3 1 (.t 3) none (some (.t 5)) (some (.t 7)), (some 8), none, []⟩ :: L136_1
theorem v136_2 : VS L136_2.eq_1 := rfl
def L136_3 : List AStep := ⟨.len (.t 4), (some 5), none, []⟩ :: ⟨.mov (.t 0), (some 6), none, []⟩ :: L136_2
theorem v136_3 : VS L136_3.eq_1 := rfl
def L136_4 : List AStep := ⟨.mov (.t 0), (some 3), none, []⟩ :: ⟨.mov (.t 0), (some 4), none, []⟩ :: L136_3
theorem v136_4 : VS L136_4.eq_1 := rfl
def C136_0 : ACode := .seq (.reg L136_4) .ret
theorem u136_0 : VC C136_0.eq_1 := rfl
def C136_1 : ACode := .seq (.reg L136_0) C136_0
theorem u136_1 : VC C136_1.eq_1 := rfl
def F136 : AFunc := ⟨9, [.tmp 2], C136_1⟩
theorem cF136 : compB Try.prog 136 = some F136 := by kernel_rfl
attribute [local go_sem ↓] u136_0 u136_1 v136_0 v136_1 v136_2 v136_3 v136_4
theorem c_clipI {h0 : H} (l : List Int) (v : AV) (h : H) (hl : NwI h0 h v l) : callK (bm Try.prog 136 [v] h) fun r h' => h' = h ∧ NwI h0 h r l := by
  refine bm_of cF136 ?_
  obtain ⟨w, e1, n1⟩ := hl.clipO (kd := .i64) (kd' := .i64)
  simp +contextual (maxSteps := 2000000) only [go_sem, Nat.reduceEqDiff, reduceCtorEq, Nat.reduceAdd, Nat.reduceLeDiff, F136, hl.length, e1]
  exact n1
theorem c_clipbI {h0 : H} (l : List Int) (v : AV) (h : H) (hl : NwI h0 h v l) : callK (bm Try.prog 136 [v] h) fun r h' => h' = h ∧ NwI h0 h r l ∧ ∀ i, baseOf r = some i → baseOf v = some i := by
  refine bm_of cF136 ?_
  obtain ⟨w, e1, n1⟩ := hl.clipB (kd := .i64) (kd' := .i64)
  simp +contextual (maxSteps := 2000000) only [go_sem, Nat.reduceEqDiff, reduceCtorEq, Nat.reduceAdd, Nat.reduceLeDiff, F136, hl.length, e1]
  exact n1
/-! slices.Clone(()int,int) -/
def L137_0 : List AStep := [⟨.mov (.c (.sl none 0 (some 0))), (some 2), none, []⟩]
theorem v137_0 : VS L137_0.eq_1 := rfl
def L137_1 : List AStep := [⟨.mov (.t 0), (some 3), none, []⟩, ⟨.eqnil false (.t 3) (.c (.sl none 0 (some 0))), (some 4), none, []⟩]
theorem v137_1 : VS L137_1.eq_1 := rfl
def L137_2 : List AStep := [⟨.mov (.c (.sl none 0 (some 0))), (some 2), none, []⟩]
theorem v137_2 : VS L137_2.eq_1 := rfl
def L137_3 : List AStep := [⟨.append 3 1 8 (.t 5) (.t 6), (some 7), none, []⟩, ⟨.mov (.t 7), (some 2), none, []⟩]
theorem v137_3 : VS L137_3.eq_1 := rfl
def L137_4 : List AStep := ⟨.buildSlice 3 0 [(.int .i64 0)] [], (some 5), none, []⟩ :: ⟨.mov (.t 0), (some 6), none, []⟩ :: L137_3
theorem v137_4 : VS L137_4.eq_1 := rfl
def C137_0 : ACode := .seq (.reg L137_2) .ret
theorem u137_0 : VC C137_0.eq_1 := rfl
def C137_1 : ACode := .cond (.t 4) C137_0 .skip
theorem u137_1 : VC C137_1.eq_1 := rfl
def C137_2 : ACode := .seq (.reg L137_1) C137_1
theorem u137_2 : VC C137_2.eq_1 := rfl
def C137_3 : ACode := .seq (.reg L137_4) .ret
theorem u137_3 : VC C137_3.eq_1 := rfl
def C137_4 : ACode := .seq C137_2 C137_3
theorem u137_4 : VC C137_4.eq_1 := rfl
def C137_5 : ACode := .seq (.reg L137_0) C137_4
theorem u137_5 : VC C137_5.eq_1 := rfl
def F137 : AFunc := ⟨8, [.tmp 2], C137_5⟩
theorem cF137 : compB Try.prog 137 = some F137 := by kernel_rfl
attribute [local go_sem ↓] u137_0 u137_1 u137_2 u137_3 u137_4 u137_5 v137_0 v137_1 v137_2 v137_3 v137_4
theorem c_clone0I (l : List Int) (v : AV) (h : H) (hl : SlI h v l) (hn : l.length ≤ big) : callK (bm Try.prog 137 [v] h) fun r h' => Grow h h' ∧ NwI h h' r l := by
  refine bm_of cF137 ?_
  obtain ⟨b, e1, e2⟩ := hl.isNil
  simp +contextual (maxSteps := 2000000) only [go_sem, Nat.reduceEqDiff, reduceCtorEq, Nat.reduceAdd, Nat.reduceLeDiff, F137, e1]
  cases b with
  | true =>
    obtain rfl := e2 rfl
    simp +contextual (maxSteps := 2000000) only [go_sem, Nat.reduceEqDiff, reduceCtorEq, Nat.reduceAdd, Nat.reduceLeDiff]
    exact ⟨Grow.refl h, .nil⟩
  | false =>
    simp +contextual (maxSteps := 2000000) only [go_sem, Nat.reduceEqDiff, reduceCtorEq, Nat.reduceAdd, Nat.reduceLeDiff]
    refine wp_lit (enc := encI) (k := 1) (l := []) rfl rfl ?_
    intro h1 w g1 n1 _
    simp +contextual (maxSteps := 2000000) only [go_sem, Nat.reduceEqDiff, reduceCtorEq, Nat.reduceAdd, Nat.reduceLeDiff]
    refine wp_append lenI n1 (hl.grow g1) g1 (by have := hn; unfold big at this; simp; omega) ?_
    intro h2 s g2 n2 _ _
    simp +contextual (maxSteps := 2000000) only [go_sem, Nat.reduceEqDiff, reduceCtorEq, Nat.reduceAdd, Nat.reduceLeDiff]
    exact gcK_of ⟨g2, n2⟩ (fun hs _ => ⟨Grow.refl h, n2.scalar hs h⟩)
/-! impl.clone(int) -/
def L109_0 : List AStep := [⟨.mov (.c (.sl none 0 (some 0))), (some 2), none, []⟩]
theorem v109_0 : VS L109_0.eq_1 := rfl
def L109_1 : List AStep := [⟨.call 136 [(.t 4)], (some 5), none, []⟩, ⟨.mov (.t 5), (some 2), none, []⟩]
theorem v109_1 : VS L109_1.eq_1 := rfl
def L109_2 : List AStep := ⟨.mov (.t 0), (some 3), none, []⟩ :: ⟨.call 137 [(.t 3)], (some 4), none, []⟩ :: L109_1
theorem v109_2 : VS L109_2.eq_1 := rfl
def C109_0 : ACode := .seq (.reg L109_2) .ret
theorem u109_0 : VC C109_0.eq_1 := rfl
def C109_1 : ACode := .seq (.reg L109_0) C109_0
theorem u109_1 : VC C109_1.eq_1 := rfl
def F109 : AFunc := ⟨6, [.tmp 2], C109_1⟩
theorem cF109 : compB Try.prog 109 = some F109 := by kernel_rfl
attribute [local go_sem ↓] u109_0 u109_1 v109_0 v109_1 v109_2
theorem c_cloneI (l : List Int) (v : AV) (h : H) (hl : SlI h v l) (hn : l.length ≤ big) : callK (bm Try.prog 109 [v] h) fun r h' => Grow h h' ∧ NwI h h' r l := by
  refine bm_of cF109 ?_
  simp +contextual (maxSteps := 2000000) only [go_sem, Nat.reduceEqDiff, reduceCtorEq, Nat.reduceAdd, Nat.reduceLeDiff, F109]
  refine wp_call (c_clone0I l v h hl hn) ?_
  rintro r h1 ⟨g1, n1⟩
  simp +contextual (maxSteps := 2000000) only [go_sem, Nat.reduceEqDiff, reduceCtorEq, Nat.reduceAdd, Nat.reduceLeDiff]
  refine wp_call (c_clipI l r h1 n1) ?_
  rintro r2 h2 ⟨rfl, n2⟩
  simp +contextual (maxSteps := 2000000) only [go_sem, Nat.reduceEqDiff, reduceCtorEq, Nat.reduceAdd, Nat.reduceLeDiff]
  exact gcK_of ⟨g1, n2⟩ (fun hs _ => ⟨Grow.refl h, n2.scalar hs h⟩)
/-! slices.Clip(()impl.Pair,impl.Pair) -/
def L113_0 : List AStep := [⟨.mov (.c (.sl none 0 (some 0))), (some 2), none, []⟩]
theorem v113_0 : VS L113_0.eq_1 := rfl
def L113_1 : List AStep := [⟨.mov (.t 8), (some 2), none, []⟩]
theorem v113_1 : VS L113_1.eq_1 := rfl
def L113_2 : List AStep := ⟨.len (.t 6), (some 7), none, []⟩ :: ⟨.slice 64 2 (.t 3) none (some (.t 5)) (some (.t 7)), (some 8), none, []⟩ :: L113_1
theorem v113_2 : VS L113_2.eq_1 := rfl
def L113_3 : List AStep := ⟨.len (.t 4), (some 5), none, []⟩ :: ⟨.mov (.t 0), (some 6), none, []⟩ :: L113_2
theorem v113_3 : VS L113_3.eq_1 := rfl
def L113_4 : List AStep := ⟨.mov (.t 0), (some 3), none, []⟩ :: ⟨.mov (.t 0), (some 4), none, []⟩ :: L113_3
theorem v113_4 : VS L113_4.eq_1 := rfl
def C113_0 : ACode := .seq (.reg L113_4) .ret
theorem u113_0 : VC C113_0.eq_1 := rfl
def C113_1 : ACode := .seq (.reg L113_0) C113_0
theorem u113_1 : VC C113_1.eq_1 := rfl
def F113 : AFunc := ⟨9, [.tmp 2], C113_1⟩
theorem cF113 : compB Try.prog 113 = some F113 := by kernel_rfl
attribute [local go_sem ↓] u113_0 u113_1 v113_0 v113_1 v113_2 v113_3 v113_4
theorem c_clipP {h0 : H} (l : List Pair) (v : AV) (h : H) (hl : NwP h0 h v l) : callK (bm Try.prog 113 [v] h) fun r h' => h' = h ∧ NwP h0 h r l := by
  refine bm_of cF113 ?_
  obtain ⟨w, e1, n1⟩ := hl.clipO (kd := .i64) (kd' := .i64)
  simp +contextual (maxSteps := 2000000) only [go_sem, Nat.reduceEqDiff, reduceCtorEq, Nat.reduceAdd, Nat.reduceLeDiff, F113, hl.length, e1]
  exact n1
theorem c_clipbP {h0 : H} (l : List Pair) (v : AV) (h : H) (hl : NwP h0 h v l) : callK (bm Try.prog 113 [v] h) fun r h' => h' = h ∧ NwP h0 h r l ∧ ∀ i, baseOf r = some i → baseOf v = some i := by
  refine bm_of cF113 ?_
  obtain ⟨w, e1, n1⟩ := hl.clipB (kd := .i64) (kd' := .i64)
  simp +contextual (maxSteps := 2000000) only [go_sem, Nat.reduceEqDiff, reduceCtorEq, Nat.reduceAdd, Nat.reduceLeDiff, F113, hl.length, e1]
  exact n1
/-! slices.Clone(()impl.Pair,impl.Pair) -/
def L125_0 : List AStep := [⟨.mov (.c (.sl none 0 (some 0))), (some 2), none, []⟩]
theorem v125_0 : VS L125_0.eq_1 := rfl
def L125_1 : List AStep := [⟨.mov (.t 0), (some 3), none, []⟩, ⟨.eqnil false (.t 3) (.c (.sl none 0 (some 0))), (some 4), none, []⟩]
theorem v125_1 : VS L125_1.eq_1 := rfl
def L125_2 : List AStep := [⟨.mov (.c (.sl none 0 (some 0))), (some 2), none, []⟩]
theorem v125_2 : VS L125_2.eq_1 := rfl
def L125_3 : List AStep := [⟨.append 64 2 24 (.t 5) (.t 6), (some 7), none, []⟩, ⟨.mov (.t 7), (some 2), none, []⟩]
theorem v125_3 : VS L125_3.eq_1 := rfl
def L125_4 : List AStep := ⟨.buildSlice 64 0 [(.str (strOfNums [])), (.int .i64 0)] [], (some 5), none, []⟩ :: ⟨.mov (.t 0), (some 6), none, []⟩ :: L125_3
theorem v125_4 : VS L125_4.eq_1 := rfl
def C125_0 : ACode := .seq (.reg L125_2) .ret
theorem u125_0 : VC C125_0.eq_1 := rfl
def C125_1 : ACode := .cond (.t 4) C125_0 .skip
theorem u125_1 : VC C125_1.eq_1 := rfl
def C125_2 : ACode := .seq (.reg L125_1) C125_1
theorem u125_2 : VC C125_2.eq_1 := rfl
def C125_3 : ACode := .seq (.reg L125_4) .ret
theorem u125_3 : VC C125_3.eq_1 := rfl
def C125_4 : ACode := .seq C125_2 C125_3
theorem u125_4 : VC C125_4.eq_1 := rfl
def C125_5 : ACode := .seq (.reg L125_0) C125_4
theorem u125_5 : VC C125_5.eq_1 := rfl
def F125 : AFunc := ⟨8, [.tmp 2], C125_5⟩
theorem cF125 : compB Try.prog 125 = some F125 := by kernel_rfl
attribute [local go_sem ↓] u125_0 u125_1 u125_2 u125_3 u125_4 u125_5 v125_0 v125_1 v125_2 v125_3 v125_4
theorem c_clone0P (l : List Pair) (v : AV) (h : H) (hl : SlP h v l) (hn : l.length ≤ big) : callK (bm Try.prog 125 [v] h) fun r h' => Grow h h' ∧ NwP h h' r l := by
  refine bm_of cF125 ?_
  obtain ⟨b, e1, e2⟩ := hl.isNil
  simp +contextual (maxSteps := 2000000) only [go_sem, Nat.reduceEqDiff, reduceCtorEq, Nat.reduceAdd, Nat.reduceLeDiff, F125, e1]
  cases b with
  | true =>
    obtain rfl := e2 rfl
    simp +contextual (maxSteps := 2000000) only [go_sem, Nat.reduceEqDiff, reduceCtorEq, Nat.reduceAdd, Nat.reduceLeDiff]
    exact ⟨Grow.refl h, .nil⟩
  | false =>
    simp +contextual (maxSteps := 2000000) only [go_sem, Nat.reduceEqDiff, reduceCtorEq, Nat.reduceAdd, Nat.reduceLeDiff]
    refine wp_lit (enc := encP) (k := 2) (l := []) rfl rfl ?_
    intro h1 w g1 n1 _
    simp +contextual (maxSteps := 2000000) only [go_sem, Nat.reduceEqDiff, reduceCtorEq, Nat.reduceAdd, Nat.reduceLeDiff]
    refine wp_append lenP n1 (hl.grow g1) g1 (by have := hn; unfold big at this; simp; omega) ?_
    intro h2 s g2 n2 _ _
    simp +contextual (maxSteps := 2000000) only [go_sem, Nat.reduceEqDiff, reduceCtorEq, Nat.reduceAdd, Nat.reduceLeDiff]
    exact gcK_of ⟨g2, n2⟩ (fun hs _ => ⟨Grow.refl h, n2.scalar hs h⟩)
/-! impl.clone(impl.Pair) -/
def L80_0 : List AStep := [⟨.mov (.c (.sl none 0 (some 0))), (some 2), none, []⟩]
theorem v80_0 : VS L80_0.eq_1 := rfl
def L80_1 : List AStep := [⟨.call 113 [(.t 4)], (some 5), none, []⟩, ⟨.mov (.t 5), (some 2), none, []⟩]
theorem v80_1 : VS L80_1.eq_1 := rfl
def L80_2 : List AStep := ⟨.mov (.t 0), (some 3), none, []⟩ :: ⟨.call 125 [(.t 3)], (some 4), none, []⟩ :: L80_1
theorem v80_2 : VS L80_2.eq_1 := rfl
def C80_0 : ACode := .seq (.reg L80_2) .ret
theorem u80_0 : VC C80_0.eq_1 := rfl
def C80_1 : ACode := .seq (.reg L80_0) C80_0
theorem u80_1 : VC C80_1.eq_1 := rfl
def F80 : AFunc := ⟨6, [.tmp 2], C80_1⟩
theorem cF80 : compB Try.prog 80 = some F80 := by kernel_rfl
attribute [local go_sem ↓] u80_0 u80_1 v80_0 v80_1 v80_2
theorem c_cloneP (l : List Pair) (v : AV) (h : H) (hl : SlP h v l) (hn : l.length ≤ big) : callK (bm Try.prog 80 [v] h) fun r h' => Grow h h' ∧ NwP h h' r l := by
  refine bm_of cF80 ?_
  simp +contextual (maxSteps := 2000000) only [go_sem, Nat.reduceEqDiff, reduceCtorEq, Nat.reduceAdd, Nat.reduceLeDiff, F80]
  refine wp_call (c_clone0P l v h hl hn) ?_
  rintro r h1 ⟨g1, n1⟩
  simp +contextual (maxSteps := 2000000) only [go_sem, Nat.reduceEqDiff, reduceCtorEq, Nat.reduceAdd, Nat.reduceLeDiff]
  refine wp_call (c_clipP l r h1 n1) ?_
  rintro r2 h2 ⟨rfl, n2⟩
  simp +contextual (maxSteps := 2000000) only [go_sem, Nat.reduceEqDiff, reduceCtorEq, Nat.reduceAdd, Nat.reduceLeDiff]
  exact gcK_of ⟨g1, n2⟩ (fun hs _ => ⟨Grow.refl h, n2.scalar hs h⟩)
/-! slices.Clip(()impl.Param,impl.Param) -/
def L101_0 : List AStep := [⟨.mov (.c (.sl none 0 (some 0))), (some 2), none, []⟩]
theorem v101_0 : VS L101_0.eq_1 := rfl
def L101_1 : List AStep := [⟨.mov (.t 8), (some 2), none, []⟩]
theorem v101_1 : VS L101_1.eq_1 := rfl
def L101_2 : List AStep := ⟨.len (.t 6), (some 7), none, []⟩ :: ⟨.slice 39 4 (.t 3) none (some (.t 5)) (some (.t 7)), (some 8), none, []⟩ :: L101_1
theorem v101_2 : VS L101_2.eq_1 := rfl
def L101_3 : List AStep := ⟨.len (.t 4), (some 5), none, []⟩ :: ⟨.mov (.t 0), (some 6), none, []⟩ :: L101_2
theorem v101_3 : VS L101_3.eq_1 := rfl
def L101_4 : List AStep := ⟨.mov (.t 0), (some 3), none, []⟩ :: ⟨.mov (.t 0), (some 4), none, []⟩ :: L101_3
theorem v101_4 : VS L101_4.eq_1 := rfl
def C101_0 : ACode := .seq (.reg L101_4) .ret
theorem u101_0 : VC C101_0.eq_1 := rfl
def C101_1 : ACode := .seq (.reg L101_0) C101_0
theorem u101_1 : VC C101_1.eq_1 := rfl
def F101 : AFunc := ⟨9, [.tmp 2], C101_1⟩
theorem cF101 : compB Try.prog 101 = some F101 := by kernel_rfl
attribute [local go_sem ↓] u101_0 u101_1 v101_0 v101_1 v101_2 v101_3 v101_4
theorem c_clipQ {h0 : H} (l : List Param) (v : AV) (h : H) (hl : NwQ h0 h v l) : callK (bm Try.prog 101 [v] h) fun r h' => h' = h ∧ NwQ h0 h r l := by
  refine bm_of cF101 ?_
  obtain ⟨w, e1, n1⟩ := hl.clipO (kd := .i64) (kd' := .i64)
  simp +contextual (maxSteps := 2000000) only [go_sem, Nat.reduceEqDiff, reduceCtorEq, Nat.reduceAdd, Nat.reduceLeDiff, F101, hl.length, e1]
  exact n1
theorem c_clipbQ {h0 : H} (l : List Param) (v : AV) (h : H) (hl : NwQ h0 h v l) : callK (bm Try.prog 101 [v] h) fun r h' => h' = h ∧ NwQ h0 h r l ∧ ∀ i, baseOf r = some i → baseOf v = some i := by
  refine bm_of cF101 ?_
  obtain ⟨w, e1, n1⟩ := hl.clipB (kd := .i64) (kd' := .i64)
  simp +contextual (maxSteps := 2000000) only [go_sem, Nat.reduceEqDiff, reduceCtorEq, Nat.reduceAdd, Nat.reduceLeDiff, F101, hl.length, e1]
  exact n1
/-! slices.Clone(()impl.Param,impl.Param) -/
def L102_0 : List AStep := [⟨.mov (.c (.sl none 0 (some 0))), (some 2), none, []⟩]
theorem v102_0 : VS L102_0.eq_1 := rfl
def L102_1 : List AStep := [⟨.mov (.t 0), (some 3), none, []⟩, ⟨.eqnil false (.t 3) (.c (.sl none 0 (some 0))), (some 4), none, []⟩]
theorem v102_1 : VS L102_1.eq_1 := rfl
def L102_2 : List AStep := [⟨.mov (.c (.sl none 0 (some 0))), (some 2), none, []⟩]
theorem v102_2 : VS L102_2.eq_1 := rfl
def L102_3 : List AStep := [⟨.append 39 4 40 (.t 5) (.t 6), (some 7), none, []⟩, ⟨.mov (.t 7), (some 2), none, []⟩]
theorem v102_3 : VS L102_3.eq_1 := rfl
def L102_4 : List AStep := ⟨.buildSlice 39 0 [(.str (strOfNums [])), (.int .i64 0), (.bool false), (.int .i64 0)] [], (some 5), none, []⟩ :: ⟨.mov (.t 0), (some 6), none, []⟩ :: L102_3
theorem v102_4 : VS L102_4.eq_1 := rfl
def C102_0 : ACode := .seq (.reg L102_2) .ret
theorem u102_0 : VC C102_0.eq_1 := rfl
def C102_1 : ACode := .cond (.t 4) C102_0 .skip
theorem u102_1 : VC C102_1.eq_1 := rfl
def C102_2 : ACode := .seq (.reg L102_1) C102_1
theorem u102_2 : VC C102_2.eq_1 := rfl
def C102_3 : ACode := .seq (.reg L102_4) .ret
theorem u102_3 : VC C102_3.eq_1 := rfl
def C102_4 : ACode := .seq C102_2 C102_3
theorem u102_4 : VC C102_4.eq_1 := rfl
def C102_5 : ACode := .seq (.reg L102_0) C102_4
theorem u102_5 : VC C102_5.eq_1 := rfl
def F102 : AFunc := ⟨8, [.tmp 2], C102_5⟩
theorem cF102 : compB Try.prog 102 = some F102 := by kernel_rfl
attribute [local go_sem ↓] u102_0 u102_1 u102_2 u102_3 u102_4 u102_5 v102_0 v102_1 v102_2 v102_3 v102_4
theorem c_clone0Q (l : List Param) (v : AV) (h : H) (hl : SlQ h v l) (hn : l.length ≤ big) : callK (bm Try.prog 102 [v] h) fun r h' => Grow h h' ∧ NwQ h h' r l := by
  refine bm_of cF102 ?_
  obtain ⟨b, e1, e2⟩ := hl.isNil
  simp +contextual (maxSteps := 2000000) only [go_sem, Nat.reduceEqDiff, reduceCtorEq, Nat.reduceAdd, Nat.reduceLeDiff, F102, e1]
  cases b with
  | true =>
    obtain rfl := e2 rfl
    simp +contextual (maxSteps := 2000000) only [go_sem, Nat.reduceEqDiff, reduceCtorEq, Nat.reduceAdd, Nat.reduceLeDiff]
    exact ⟨Grow.refl h, .nil⟩
  | false =>
    simp +contextual (maxSteps := 2000000) only [go_sem, Nat.reduceEqDiff, reduceCtorEq, Nat.reduceAdd, Nat.reduceLeDiff]
    refine wp_lit (enc := encQ) (k := 4) (l := []) rfl rfl ?_
    intro h1 w g1 n1 _
    simp +contextual (maxSteps := 2000000) only [go_sem, Nat.reduceEqDiff, reduceCtorEq, Nat.reduceAdd, Nat.reduceLeDiff]
    refine wp_append lenQ n1 (hl.grow g1) g1 (by have := hn; unfold big at this; simp; omega) ?_
    intro h2 s g2 n2 _ _
    simp +contextual (maxSteps := 2000000) only [go_sem, Nat.reduceEqDiff, reduceCtorEq, Nat.reduceAdd, Nat.reduceLeDiff]
    exact gcK_of ⟨g2, n2⟩ (fun hs _ => ⟨Grow.refl h, n2.scalar hs h⟩)
/-! impl.clone(impl.Param) -/
def L52_0 : List AStep := [⟨.mov (.c (.sl none 0 (some 0))), (some 2), none, []⟩]
theorem v52_0 : VS L52_0.eq_1 := rfl
def L52_1 : List AStep := [⟨.call 101 [(.t 4)], (some 5), none, []⟩, ⟨.mov (.t 5), (some 2), none, []⟩]
theorem v52_1 : VS L52_1.eq_1 := rfl
def L52_2 : List AStep := ⟨.mov (.t 0), (some 3), none, []⟩ :: ⟨.call 102 [(.t 3)], (some 4), none, []⟩ :: L52_1
theorem v52_2 : VS L52_2.eq_1 := rfl
def C52_0 : ACode := .seq (.reg L52_2) .ret
theorem u52_0 : VC C52_0.eq_1 := rfl
def C52_1 : ACode := .seq (.reg L52_0) C52_0
theorem u52_1 : VC C52_1.eq_1 := rfl
def F52 : AFunc := ⟨6, [.tmp 2], C52_1⟩
theorem cF52 : compB Try.prog 52 = some F52 := by kernel_rfl
attribute [local go_sem ↓] u52_0 u52_1 v52_0 v52_1 v52_2
theorem c_cloneQ (l : List Param) (v : AV) (h : H) (hl : SlQ h v l) (hn : l.length ≤ big) : callK (bm Try.prog 52 [v] h) fun r h' => Grow h h' ∧ NwQ h h' r l := by
  refine bm_of cF52 ?_
  simp +contextual (maxSteps := 2000000) only [go_sem, Nat.reduceEqDiff, reduceCtorEq, Nat.reduceAdd, Nat.reduceLeDiff, F52]
  refine wp_call (c_clone0Q l v h hl hn) ?_
  rintro r h1 ⟨g1, n1⟩
  simp +contextual (maxSteps := 2000000) only [go_sem, Nat.reduceEqDiff, reduceCtorEq, Nat.reduceAdd, Nat.reduceLeDiff]
  refine wp_call (c_clipQ l r h1 n1) ?_
  rintro r2 h2 ⟨rfl, n2⟩
  simp +contextual (maxSteps := 2000000) only [go_sem, Nat.reduceEqDiff, reduceCtorEq, Nat.reduceAdd, Nat.reduceLeDiff]
  exact gcK_of ⟨g1, n2⟩ (fun hs _ => ⟨Grow.refl h, n2.scalar hs h⟩)
/-! slices.Clip(()impl.Problem,impl.Problem) -/
def L114_0 : List AStep := [⟨.mov (.c (.sl none 0 (some 0))), (some 2), none, []⟩]
theorem v114_0 : VS L114_0.eq_1 := rfl
def L114_1 : List AStep := [⟨.mov (.t 8), (some 2), none, []⟩]
theorem v114_1 : VS L114_1.eq_1 := rfl
def L114_2 : List AStep := ⟨.len (.t 6), (some 7), none, []⟩ :: ⟨.slice 52 2 (.t 3) none (some (.t 5)) (some (.t 7)), (some 8), none, []⟩ :: L114_1
theorem v114_2 : VS L114_2.eq_1 := rfl
def L114_3 : List AStep := ⟨.len (.t 4), (some 5), none, []⟩ :: ⟨.mov (.t 0), (some 6), none, []⟩ :: L114_2
theorem v114_3 : VS L114_3.eq_1 := rfl
def L114_4 : List AStep := ⟨.mov (.t 0), (some 3), none, []⟩ :: ⟨.mov (.t 0), (some 4), none, []⟩ :: L114_3
theorem v114_4 : VS L114_4.eq_1 := rfl
def C114_0 : ACode := .seq (.reg L114_4) .ret
theorem u114_0 : VC C114_0.eq_1 := rfl
def C114_1 : ACode := .seq (.reg L114_0) C114_0
theorem u114_1 : VC C114_1.eq_1 := rfl
def F114 : AFunc := ⟨9, [.tmp 2], C114_1⟩
theorem cF114 : compB Try.prog 114 = some F114 := by kernel_rfl
attribute [local go_sem ↓] u114_0 u114_1 v114_0 v114_1 v114_2 v114_3 v114_4
theorem c_clipB {h0 : H} (l : List Problem) (v : AV) (h : H) (hl : NwB h0 h v l) : callK (bm Try.prog 114 [v] h) fun r h' => h' = h ∧ NwB h0 h r l := by
  refine bm_of cF114 ?_
  obtain ⟨w, e1, n1⟩ := hl.clipO (kd := .i64) (kd' := .i64)
  simp +contextual (maxSteps := 2000000) only [go_sem, Nat.reduceEqDiff, reduceCtorEq, Nat.reduceAdd, Nat.reduceLeDiff, F114, hl.length, e1]
  exact n1
theorem c_clipbB {h0 : H} (l : List Problem) (v : AV) (h : H) (hl : NwB h0 h v l) : callK (bm Try.prog 114 [v] h) fun r h' => h' = h ∧ NwB h0 h r l ∧ ∀ i, baseOf r = some i → baseOf v = some i := by
  refine bm_of cF114 ?_
  obtain ⟨w, e1, n1⟩ := hl.clipB (kd := .i64) (kd' := .i64)
  simp +contextual (maxSteps := 2000000) only [go_sem, Nat.reduceEqDiff, reduceCtorEq, Nat.reduceAdd, Nat.reduceLeDiff, F114, hl.length, e1]
  exact n1
/-! (impl.Flat).copyOf -/
def L61_0 : List AStep := [⟨.box 29 (.t 0), (some 1), none, []⟩, ⟨.alloc 29 [(.sl none 0 (some 0)), (.sl none 0 (some 0))], (some 2), none, []⟩]
theorem v61_0 : VS L61_0.eq_1 := rfl
def L61_1 : List AStep := [⟨.build [(.sl none 0 (some 0)), (.sl none 0 (some 0))] [(0, 1, (.t 5)), (1, 1, (.t 8))], (some 9), none, []⟩, ⟨.store 2 (.t 2) (.t 9), none, none, []⟩]
theorem v61_1 : VS L61_1.eq_1 := rfl
def L61_2 : List AStep := ⟨.call 109 [(.t 4)], (some 5), none, [(.load 1 false (.t 6), (some 7), none)]⟩ :: ⟨.call 80 [(.t 7)], (some 8), none, []⟩ :: L61_1
theorem v61_2 : VS L61_2.eq_1 := rfl
def L61_3 : List AStep := ⟨.faddr 1 (.t 1), (some 6), none, []⟩ :: ⟨.load 1 false (.t 6), (some 7), none, []⟩ :: L61_2
theorem v61_3 : VS L61_3.eq_1 := rfl
def L61_4 : List AStep := ⟨.faddr 0 (.t 1), (some 3), none, []⟩ :: ⟨.load 1 false (.t 3), (some 4), none, []⟩ :: L61_3
theorem v61_4 : VS L61_4.eq_1 := rfl
def C61_0 : ACode := .seq (.reg L61_4) .ret
theorem u61_0 : VC C61_0.eq_1 := rfl
def C61_1 : ACode := .seq (.reg L61_0) C61_0
theorem u61_1 : VC C61_1.eq_1 := rfl
def F61 : AFunc := ⟨10, [.cell 2 2 true], C61_1⟩
theorem cF61 : compB Try.prog 61 = some F61 := by kernel_rfl
attribute [local go_sem ↓] u61_0 u61_1 v61_0 v61_1 v61_2 v61_3 v61_4
theorem c_copyOfF (f : Flat) (p n : CV) (h : H) (hf : SlF h p n f) (hn : smF f) : callK (bm Try.prog 61 [.agg [p, n]] h) fun r h' => Grow h h' ∧ ∃ p' n', r = .agg [p', n'] ∧ NwF h h' p' n' f := by
  refine bm_of cF61 ?_
  simp +contextual (maxSteps := 2000000) only [go_sem, Nat.reduceEqDiff, reduceCtorEq, Nat.reduceAdd, Nat.reduceLeDiff, F61]
  refine wp_call (c_cloneI _ _ h hf.pl hn.pl) ?_
  rintro r h1 ⟨g1, n1⟩
  obtain ⟨p', rfl⟩ := n1.one
  simp +contextual (maxSteps := 2000000) only [go_sem, Nat.reduceEqDiff, reduceCtorEq, Nat.reduceAdd, Nat.reduceLeDiff]
  refine wp_call (c_cloneP _ _ h1 (hf.nl.grow g1) hn.nl.1) ?_
  rintro r h2 ⟨g2, n2⟩
  obtain ⟨n', rfl⟩ := n2.one
  simp +contextual (maxSteps := 2000000) only [go_sem, Nat.reduceEqDiff, reduceCtorEq, Nat.reduceAdd, Nat.reduceLeDiff]
  have n3 : NwF h h2 p' n' f := ⟨n1.grow g2, n2.from g1.n, n1.apart n2⟩
  exact gcK_of ⟨g1.trans g2, _, _, rfl, n3⟩ (fun hs _ => ⟨Grow.refl h, _, _, rfl, n3.scalar hs h⟩)
/-! (impl.Signature).copyOf -/
def L60_0 : List AStep := [⟨.box 25 (.t 0), (some 1), none, []⟩, ⟨.alloc 25 [(.sl none 0 (some 0))], (some 2), none, []⟩]
theorem v60_0 : VS L60_0.eq_1 := rfl
def L60_1 : List AStep := [⟨.store 1 (.t 2) (.t 6), none, none, []⟩]
theorem v60_1 : VS L60_1.eq_1 := rfl
def L60_2 : List AStep := ⟨.call 52 [(.t 4)], (some 5), none, []⟩ :: ⟨.build [(.sl none 0 (some 0))] [(0, 1, (.t 5))], (some 6), none, []⟩ :: L60_1
theorem v60_2 : VS L60_2.eq_1 := rfl
def L60_3 : List AStep := ⟨.faddr 0 (.t 1), (some 3), none, []⟩ :: ⟨.load 1 false (.t 3), (some 4), none, []⟩ :: L60_2
theorem v60_3 : VS L60_3.eq_1 := rfl
def C60_0 : ACode := .seq (.reg L60_3) .ret
theorem u60_0 : VC C60_0.eq_1 := rfl
def C60_1 : ACode := .seq (.reg L60_0) C60_0
theorem u60_1 : VC C60_1.eq_1 := rfl
def F60 : AFunc := ⟨7, [.cell 2 1 true], C60_1⟩
theorem cF60 : compB Try.prog 60 = some F60 := by kernel_rfl
attribute [local go_sem ↓] u60_0 u60_1 v60_0 v60_1 v60_2 v60_3
theorem c_copyOfS (l : List Param) (v : CV) (h : H) (hl : SlQ h (.one v) l) (hn : l.length ≤ big) : callK (bm Try.prog 60 [.agg [v]] h) fun r h' => Grow h h' ∧ ∃ w, r = .agg [w] ∧ NwQ h h' (.one w) l := by
  refine bm_of cF60 ?_
  simp +contextual (maxSteps := 2000000) only [go_sem, Nat.reduceEqDiff, reduceCtorEq, Nat.reduceAdd, Nat.reduceLeDiff, F60]
  refine wp_call (c_cloneQ _ _ h hl hn) ?_
  rintro r h1 ⟨g1, n1⟩
  obtain ⟨w, rfl⟩ := n1.one
  simp +contextual (maxSteps := 2000000) only [go_sem, Nat.reduceEqDiff, reduceCtorEq, Nat.reduceAdd, Nat.reduceLeDiff]
  exact gcK_of ⟨g1, _, rfl, n1⟩ (fun hs _ => ⟨Grow.refl h, _, rfl, n1.scalar (by simpa [AV.scalar] using hs) h⟩)
/-! impl.checked -/
def L56_0 : List AStep := [⟨.mov (.c (.bool false)), (some 5), none, []⟩]
theorem v56_0 : VS L56_0.eq_1 := rfl
def L56_1 : List AStep := ⟨.box 29 (.t 0), (some 2), none, []⟩ :: ⟨.alloc 29 [(.sl none 0 (some 0)), (.sl none 0 (some 0))], (some 4), none, []⟩ :: L56_0
theorem v56_1 : VS L56_1.eq_1 := rfl
def L56_2 : List AStep := [⟨.pick (.t 8) (.c (.bool true)) (.t 11), (some 12), none, []⟩]
theorem v56_2 : VS L56_2.eq_1 := rfl
def L56_3 : List AStep := ⟨.call 32 [(.t 9)], (some 10), (some (8, false)), []⟩ :: ⟨.not (.t 10), (some 11), (some (8, false)), []⟩ :: L56_2
theorem v56_3 : VS L56_3.eq_1 := rfl
def L56_4 : List AStep := ⟨.mov (.t 7), (some 8), none, []⟩ :: ⟨.load 2 true (.t 2), (some 9), (some (8, false)), []⟩ :: L56_3
theorem v56_4 : VS L56_4.eq_1 := rfl
def L56_5 : List AStep := ⟨.mov (.t 1), (some 6), none, []⟩ :: ⟨.not (.t 6), (some 7), none, []⟩ :: L56_4
theorem v56_5 : VS L56_5.eq_1 := rfl
def L56_6 : List AStep := [⟨.mov (.c (.bool false)), (some 5), none, []⟩]
theorem v56_6 : VS L56_6.eq_1 := rfl
def L56_7 : List AStep := ⟨.build [(.sl none 0 (some 0)), (.sl none 0 (some 0))] [], (some 13), none, []⟩ :: ⟨.store 2 (.t 4) (.t 13), none, none, []⟩ :: L56_6
theorem v56_7 : VS L56_7.eq_1 := rfl
def L56_8 : List AStep := [⟨.store 2 (.t 4) (.t 15), none, none, []⟩, ⟨.mov (.c (.bool true)), (some 5), none, []⟩]
theorem v56_8 : VS L56_8.eq_1 := rfl
def L56_9 : List AStep := ⟨.load 2 true (.t 2), (some 14), none, []⟩ :: ⟨.call 61 [(.t 14)], (some 15), none, []⟩ :: L56_8
theorem v56_9 : VS L56_9.eq_1 := rfl
def C56_0 : ACode := .seq (.reg L56_7) .ret
theorem u56_0 : VC C56_0.eq_1 := rfl
def C56_1 : ACode := .cond (.t 12) C56_0 .skip
theorem u56_1 : VC C56_1.eq_1 := rfl
def C56_2 : ACode := .seq (.reg L56_5) C56_1
theorem u56_2 : VC C56_2.eq_1 := rfl
def C56_3 : ACode := .seq (.reg L56_9) .ret
theorem u56_3 : VC C56_3.eq_1 := rfl
def C56_4 : ACode := .seq C56_2 C56_3
theorem u56_4 : VC C56_4.eq_1 := rfl
def C56_5 : ACode := .seq (.reg L56_1) C56_4
theorem u56_5 : VC C56_5.eq_1 := rfl
def F56 : AFunc := ⟨16, [.cell 4 2 true, .tmp 5], C56_5⟩
theorem cF56 : compB Try.prog 56 = some F56 := by kernel_rfl
attribute [local go_sem ↓] u56_0 u56_1 u56_2 u56_3 u56_4 u56_5 v56_0 v56_1 v56_2 v56_3 v56_4 v56_5 v56_6 v56_7 v56_8 v56_9
theorem c_checked (f : Flat) (p n : CV) (b : Bool) (h : H) (hf : SlF h p n f) (hn : smF f) :
    callK (bm Try.prog 56 [.agg [p, n], .one (.bool b)] h) fun r h' => Grow h h' ∧ ∃ p' n', r = .tup [.agg [p', n'], .one (.bool (b && okFlat f))] ∧ NwF h h' p' n' (if (b && okFlat f) = true then f else ⟨[], []⟩) := by
  refine bm_of cF56 ?_
  simp +contextual (maxSteps := 2000000) only [go_sem, Nat.reduceEqDiff, reduceCtorEq, Nat.reduceAdd, Nat.reduceLeDiff, F56, c_ValidFlat _ _ _ _ hf.pl hf.nl hn]
  cases b with
  | false =>
    simp +contextual (maxSteps := 2000000) only [go_sem, Nat.reduceEqDiff, reduceCtorEq, Nat.reduceAdd, Nat.reduceLeDiff, Bool.false_and, if_false]
    exact ⟨Grow.refl h, _, _, rfl, .nil⟩
  | true =>
    cases hok : okFlat f with
    | false =>
      simp +contextual (maxSteps := 2000000) only [go_sem, Nat.reduceEqDiff, reduceCtorEq, Nat.reduceAdd, Nat.reduceLeDiff, hok, Bool.true_and, if_false]
      exact ⟨Grow.refl h, _, _, rfl, .nil⟩
    | true =>
      simp +contextual (maxSteps := 2000000) only [go_sem, Nat.reduceEqDiff, reduceCtorEq, Nat.reduceAdd, Nat.reduceLeDiff, hok, Bool.true_and, if_true]
      refine wp_call (c_copyOfF f p n h hf hn) ?_
      rintro r h1 ⟨g1, p', n', rfl, n1⟩
      simp +contextual (maxSteps := 2000000) only [go_sem, Nat.reduceEqDiff, reduceCtorEq, Nat.reduceAdd, Nat.reduceLeDiff]
      exact gcK_of ⟨g1, _, _, rfl, n1⟩ (fun hs _ => ⟨Grow.refl h, _, _, rfl, n1.scalar (by simpa [AV.scalar, AV.scalars, CV.scalar] using hs) h⟩)
/-! slices.Grow(()int,int) -/
def L105_0 : List AStep := [⟨.mov (.c (.sl none 0 (some 0))), (some 4), none, []⟩]
theorem v105_0 : VS L105_0.eq_1 := rfl
def L105_1 : List AStep := [⟨.mov (.t 1), (some 5), none, []⟩, ⟨.bin .lss (.t 5) (.c (.int .i64 0)), (some 6), none, []⟩]
theorem v105_1 : VS L105_1.eq_1 := rfl
def L105_2 : List AStep := [⟨.bin .sub (.t 8) (.t 13), (some 14), none, []⟩, ⟨.mov (.t 14), (some 1), none, []⟩]
theorem v105_2 : VS L105_2.eq_1 := rfl
def L105_3 : List AStep := ⟨.len (.t 11), (some 12), none, []⟩ :: ⟨.bin .sub (.t 10) (.t 12), (some 13), none, []⟩ :: L105_2
theorem v105_3 : VS L105_3.eq_1 := rfl
def L105_4 : List AStep := ⟨.cap (.t 9), (some 10), none, []⟩ :: ⟨.mov (.t 0), (some 11), none, []⟩ :: L105_3
theorem v105_4 : VS L105_4.eq_1 := rfl
def L105_5 : List AStep := ⟨.mov (.t 1), (some 8), none, []⟩ :: ⟨.mov (.t 0), (some 9), none, []⟩ :: L105_4
theorem v105_5 : VS L105_5.eq_1 := rfl
def L105_6 : List AStep := [⟨.mov (.t 1), (some 15), none, []⟩, ⟨.bin .gtr (.t 15) (.c (.int .i64 0)), (some 16), none, []⟩]
theorem v105_6 : VS L105_6.eq_1 := rfl
def L105_7 : List AStep := [⟨.slice 3 1 (.t 22) none (some (.t 24)) none, (some 25), none, []⟩, ⟨.mov (.t 25), (some 0), none, []⟩]
theorem v105_7 : VS L105_7.eq_1 := rfl
def L105_8 : List AStep := ⟨.mov (.t 0), (some 23), none, []⟩ :: ⟨.len (.t 23), (some 24), none, []⟩ :: L105_7
theorem v105_8 : VS L105_8.eq_1 := rfl
def L105_9 : List AStep := ⟨.mov (.t 1), (some 21), none, []⟩ :: ⟨.appz 3 1 8 [(.int .i64 0)] (.t 20) (.t 21), (some 22), none, []⟩ :: L105_8
theorem v105_9 : VS L105_9.eq_1 := rfl
def L105_10 : List AStep := ⟨.cap (.t 18), (some 19), none, []⟩ :: ⟨.slice 3 1 (.t 17) none (some (.t 19)) none, (some 20), none, []⟩ :: L105_9
theorem v105_10 : VS L105_10.eq_1 := rfl
def L105_11 : List AStep := ⟨.mov (.t 0), (some 17), none, []⟩ :: ⟨.mov (.t 0), (some 18), none, []⟩ :: L105_10
theorem v105_11 : VS L105_11.eq_1 := rfl
def L105_12 : List AStep := [⟨.mov (.t 0), (some 26), none, []⟩, ⟨.mov (.t 26), (some 4), none, []⟩]
theorem v105_12 : VS L105_12.eq_1 := rfl
def C105_0 : ACode := .cond (.c .nilf) .skip .skip
theorem u105_0 : VC C105_0.eq_1 := rfl
def C105_1 : ACode := .cond (.t 6) C105_0 .skip
theorem u105_1 : VC C105_1.eq_1 := rfl
def C105_2 : ACode := .seq (.reg L105_1) C105_1
theorem u105_2 : VC C105_2.eq_1 := rfl
def C105_3 : ACode := .cond (.t 16) (.reg L105_11) .skip
theorem u105_3 : VC C105_3.eq_1 := rfl
def C105_4 : ACode := .seq (.reg L105_6) C105_3
theorem u105_4 : VC C105_4.eq_1 := rfl
def C105_5 : ACode := .seq (.reg L105_5) C105_4
theorem u105_5 : VC C105_5.eq_1 := rfl
def C105_6 : ACode := .seq (.reg L105_12) .ret
theorem u105_6 : VC C105_6.eq_1 := rfl
def C105_7 : ACode := .seq C105_5 C105_6
theorem u105_7 : VC C105_7.eq_1 := rfl
def C105_8 : ACode := .seq C105_2 C105_7
theorem u105_8 : VC C105_8.eq_1 := rfl
def C105_9 : ACode := .seq (.reg L105_0) C105_8
theorem u105_9 : VC C105_9.eq_1 := rfl
def F105 : AFunc := ⟨27, [.tmp 4], C105_9⟩
theorem cF105 : compB Try.prog 105 = some F105 := by kernel_rfl
attribute [local go_sem ↓] u105_0 u105_1 u105_2 u105_3 u105_4 u105_5 u105_6 u105_7 u105_8 u105_9 v105_0 v105_1 v105_2 v105_3 v105_4 v105_5 v105_6 v105_7 v105_8 v105_9 v105_10 v105_11 v105_12
theorem c_growI (n : Nat) (h : H) (hn : n ≤ big) : callK (bm Try.prog 105 [.one (.sl none 0 (some 0)), .one (.int .i64 n)] h) fun r h' => Grow h h' ∧ NwI h h' r [] := by
  refine bm_of cF105 ?_
  have e1 : decide (((n : Nat) : Int) < 0) = false := decide_eq_false (by omega)
  have e2 : IntKind.i64.wrap (((0 : Nat) : Int) - ((0 : Nat) : Int)) = 0 := rfl
  have e3 : IntKind.i64.wrap (((n : Nat) : Int) - 0) = n := by unfold big at hn; rw [i64_wrap (by omega) (by omega)]; omega
  have e4 : cutO 3 1 h (.one (.sl none 0 (some 0))) none (some (.one (.int .i64 ((0 : Nat) : Int)))) none = some (.one (.sl none 0 (some 0))) := by simp [cutO, pureA, AX.ev, boundsA, maxA, highA, lowA, boundA]
  by_cases h0 : n = 0
  · subst h0
    simp +contextual (maxSteps := 2000000) only [go_sem, Nat.reduceEqDiff, reduceCtorEq, Nat.reduceAdd, Nat.reduceLeDiff, F105, e1, e2, e3, show decide (((0 : Nat) : Int) > 0) = false from rfl]
    exact ⟨Grow.refl h, .nil⟩
  · simp +contextual (maxSteps := 2000000) only [go_sem, Nat.reduceEqDiff, reduceCtorEq, Nat.reduceAdd, Nat.reduceLeDiff, F105, e1, e2, e3, e4, decide_eq_true (show ((n : Nat) : Int) > 0 by omega)]
    unfold big at hn
    refine wp_appz (by omega) (by omega) (by omega) ?_
    intro h1 g1 b1
    have e5 := cut_zero (k := 1) (n := n) b1 (kd := .i64)
    simp +contextual (maxSteps := 2000000) only [go_sem, Nat.reduceEqDiff, reduceCtorEq, Nat.reduceAdd, Nat.reduceLeDiff, show (((0 : Nat) : Int)) = 0 from rfl, e5]
    have n1 : NwI h h1 (.one (.sl (some (h.n, 0)) 0 none)) [] := .spare b1 (Nat.le_refl _)
    exact gcK_of ⟨g1, n1⟩ (fun hs _ => ⟨Grow.refl h, n1.scalar hs h⟩)
/-! slices.Concat(()int,int) -/
def L57_0 : List AStep := [⟨.mov (.c (.sl none 0 (some 0))), (some 2), none, []⟩]
theorem v57_0 : VS L57_0.eq_1 := rfl
def L57_1 : List AStep := [⟨.mov (.c (.int .i64 0)), (some 3), none, []⟩]
theorem v57_1 : VS L57_1.eq_1 := rfl
def L57_2 : List AStep := [⟨.mov (.c (.int .i64 0)), (some 11), none, []⟩]
theorem v57_2 : VS L57_2.eq_1 := rfl
def L57_3 : List AStep := ⟨.mov (.t 0), (some 9), none, []⟩ :: ⟨.len (.t 9), (some 10), none, []⟩ :: L57_2
theorem v57_3 : VS L57_3.eq_1 := rfl
def L57_4 : List AStep := [⟨.bin .lss (.t 11) (.t 10), (some 12), none, []⟩]
theorem v57_4 : VS L57_4.eq_1 := rfl
def L57_5 : List AStep := [⟨.mov (.t 14), (some 5), none, []⟩]
theorem v57_5 : VS L57_5.eq_1 := rfl
def L57_6 : List AStep := ⟨.iaddr 1 (.t 9) (.t 11), (some 13), none, []⟩ :: ⟨.load 1 false (.t 13), (some 14), none, []⟩ :: L57_5
theorem v57_6 : VS L57_6.eq_1 := rfl
def L57_7 : List AStep := [⟨.mov (.t 18), (some 3), none, []⟩]
theorem v57_7 : VS L57_7.eq_1 := rfl
def L57_8 : List AStep := ⟨.len (.t 16), (some 17), none, []⟩ :: ⟨.bin .add (.t 15) (.t 17), (some 18), none, []⟩ :: L57_7
theorem v57_8 : VS L57_8.eq_1 := rfl
def L57_9 : List AStep := ⟨.mov (.t 3), (some 15), none, []⟩ :: ⟨.mov (.t 5), (some 16), none, []⟩ :: L57_8
theorem v57_9 : VS L57_9.eq_1 := rfl
def L57_10 : List AStep := [⟨.mov (.t 3), (some 19), none, []⟩, ⟨.bin .lss (.t 19) (.c (.int .i64 0)), (some 20), none, []⟩]
theorem v57_10 : VS L57_10.eq_1 := rfl
def L57_11 : List AStep := [⟨.bin .add (.t 11) (.c (.int .i64 1)), (some 22), none, []⟩, ⟨.mov (.t 22), (some 11), none, []⟩]
theorem v57_11 : VS L57_11.eq_1 := rfl
def L57_12 : List AStep := [⟨.mov (.t 24), (some 6), none, []⟩]
theorem v57_12 : VS L57_12.eq_1 := rfl
def L57_13 : List AStep := ⟨.mov (.t 3), (some 23), none, []⟩ :: ⟨.call 105 [(.c (.sl none 0 (some 0))), (.t 23)], (some 24), none, []⟩ :: L57_12
theorem v57_13 : VS L57_13.eq_1 := rfl
def L57_14 : List AStep := [⟨.mov (.c (.int .i64 0)), (some 27), none, []⟩]
theorem v57_14 : VS L57_14.eq_1 := rfl
def L57_15 : List AStep := ⟨.mov (.t 0), (some 25), none, []⟩ :: ⟨.len (.t 25), (some 26), none, []⟩ :: L57_14
theorem v57_15 : VS L57_15.eq_1 := rfl
def L57_16 : List AStep := [⟨.bin .lss (.t 27) (.t 26), (some 28), none, []⟩]
theorem v57_16 : VS L57_16.eq_1 := rfl
def L57_17 : List AStep := [⟨.mov (.t 30), (some 8), none, []⟩]
theorem v57_17 : VS L57_17.eq_1 := rfl
def L57_18 : List AStep := ⟨.iaddr 1 (.t 25) (.t 27), (some 29), none, []⟩ :: ⟨.load 1 false (.t 29), (some 30), none, []⟩ :: L57_17
theorem v57_18 : VS L57_18.eq_1 := rfl
def L57_19 : List AStep := [⟨.append 3 1 8 (.t 31) (.t 32), (some 33), none, []⟩, ⟨.mov (.t 33), (some 6), none, []⟩]
theorem v57_19 : VS L57_19.eq_1 := rfl
def L57_20 : List AStep := ⟨.mov (.t 6), (some 31), none, []⟩ :: ⟨.mov (.t 8), (some 32), none, []⟩ :: L57_19
theorem v57_20 : VS L57_20.eq_1 := rfl
def L57_21 : List AStep := [⟨.bin .add (.t 27) (.c (.int .i64 1)), (some 34), none, []⟩, ⟨.mov (.t 34), (some 27), none, []⟩]
theorem v57_21 : VS L57_21.eq_1 := rfl
def L57_22 : List AStep := [⟨.mov (.t 6), (some 35), none, []⟩, ⟨.mov (.t 35), (some 2), none, []⟩]
theorem v57_22 : VS L57_22.eq_1 := rfl
def C57_0 : ACode := .cond (.t 12) .skip (.exit 0)
theorem u57_0 : VC C57_0.eq_1 := rfl
def C57_1 : ACode := .cond (.c .nilf) .skip .skip
theorem u57_1 : VC C57_1.eq_1 := rfl
def C57_2 : ACode := .cond (.t 20) C57_1 .skip
theorem u57_2 : VC C57_2.eq_1 := rfl
def C57_3 : ACode := .seq (.reg L57_10) C57_2
theorem u57_3 : VC C57_3.eq_1 := rfl
def C57_4 : ACode := .seq (.reg L57_9) C57_3
theorem u57_4 : VC C57_4.eq_1 := rfl
def C57_5 : ACode := .seq (.reg L57_6) C57_4
theorem u57_5 : VC C57_5.eq_1 := rfl
def C57_6 : ACode := .block 1 C57_5
theorem u57_6 : VC C57_6.eq_1 := rfl
def C57_7 : ACode := .seq C57_6 (.reg L57_11)
theorem u57_7 : VC C57_7.eq_1 := rfl
def C57_8 : ACode := .seq C57_0 C57_7
theorem u57_8 : VC C57_8.eq_1 := rfl
def C57_9 : ACode := .seq (.reg L57_4) C57_8
theorem u57_9 : VC C57_9.eq_1 := rfl
def C57_10 : ACode := .block 0 (.loop C57_9)
theorem u57_10 : VC C57_10.eq_1 := rfl
def C57_11 : ACode := .seq (.reg L57_3) C57_10
theorem u57_11 : VC C57_11.eq_1 := rfl
def C57_12 : ACode := .cond (.t 28) .skip (.exit 2)
theorem u57_12 : VC C57_12.eq_1 := rfl
def C57_13 : ACode := .seq (.reg L57_18) (.reg L57_20)
theorem u57_13 : VC C57_13.eq_1 := rfl
def C57_14 : ACode := .block 3 C57_13
theorem u57_14 : VC C57_14.eq_1 := rfl
def C57_15 : ACode := .seq C57_14 (.reg L57_21)
theorem u57_15 : VC C57_15.eq_1 := rfl
def C57_16 : ACode := .seq C57_12 C57_15
theorem u57_16 : VC C57_16.eq_1 := rfl
def C57_17 : ACode := .seq (.reg L57_16) C57_16
theorem u57_17 : VC C57_17.eq_1 := rfl
def C57_18 : ACode := .block 2 (.loop C57_17)
theorem u57_18 : VC C57_18.eq_1 := rfl
def C57_19 : ACode := .seq (.reg L57_15) C57_18
theorem u57_19 : VC C57_19.eq_1 := rfl
def C57_20 : ACode := .seq (.reg L57_22) .ret
theorem u57_20 : VC C57_20.eq_1 := rfl
def C57_21 : ACode := .seq C57_19 C57_20
theorem u57_21 : VC C57_21.eq_1 := rfl
def C57_22 : ACode := .seq (.reg L57_13) C57_21
theorem u57_22 : VC C57_22.eq_1 := rfl
def C57_23 : ACode := .seq C57_11 C57_22
theorem u57_23 : VC C57_23.eq_1 := rfl
def C57_24 : ACode := .seq (.reg L57_1) C57_23
theorem u57_24 : VC C57_24.eq_1 := rfl
def C57_25 : ACode := .seq (.reg L57_0) C57_24
theorem u57_25 : VC C57_25.eq_1 := rfl
def F57 : AFunc := ⟨36, [.tmp 2], C57_25⟩
theorem cF57 : compB Try.prog 57 = some F57 := by kernel_rfl
attribute [local go_sem ↓] u57_0 u57_1 u57_2 u57_3 u57_4 u57_5 u57_6 u57_7 u57_8 u57_9 u57_10 u57_11 u57_12 u57_13 u57_14 u57_15 u57_16 u57_17 u57_18 u57_19 u57_20 u57_21 u57_22 u57_23 u57_24 u57_25 v57_0 v57_1 v57_2 v57_3 v57_4 v57_5 v57_6 v57_7 v57_8 v57_9 v57_10 v57_11 v57_12 v57_13 v57_14 v57_15 v57_16 v57_17 v57_18 v57_19 v57_20 v57_21 v57_22
theorem c_concatI (ls : List (List Int)) (cs : List CV) (v : AV) (h : H) (hl : Sl (fun c : CV => [c]) 1 26 h v cs) (hlen : ls.length = cs.length) (he : ∀ i (hi : i < ls.length) (hj : i < cs.length), SlI h (.one cs[i]) ls[i]) (hn : ls.flatten.length ≤ big) (hm : ls.length ≤ big) :
    callK (bm Try.prog 57 [v] h) fun r h' => Grow h h' ∧ NwI h h' r ls.flatten := by
  refine bm_of cF57 ?_
  have hpre : ∀ i, i ≤ ls.length → (ls.take i).flatten.length ≤ ls.flatten.length := by
    intro i hi
    have : ls.flatten = (ls.take i).flatten ++ (ls.drop i).flatten := by rw [← List.flatten_append, List.take_append_drop]
    rw [this, List.length_append]
    omega
  have hnx : ∀ i (hi : i < ls.length), (ls.take (i + 1)).flatten = (ls.take i).flatten ++ ls[i] := by
    intro i hi
    rw [List.take_succ_eq_append_getElem hi, List.flatten_append]
    simp
  have hbig := hn
  unfold big at hbig
  simp +contextual (maxSteps := 2000000) only [go_sem, Nat.reduceEqDiff, reduceCtorEq, Nat.reduceAdd, Nat.reduceLeDiff, F57, hl.len]
  refine wpC_loop (fun i T L h' => h' = h ∧ T 0 = .v v ∧ T 9 = .v v ∧ T 10 = .v (.one (.int .i64 cs.length)) ∧ T 11 = .v (.one (.int .i64 i)) ∧ T 3 = .v (.one (.int .i64 ((ls.take i).flatten.length : Nat)))) cs.length ?_ ?_ (Nat.zero_le _) ?_
  · rintro i T L h' hi ⟨rfl, t0, t9, t10, t11, t3⟩
    have hi2 : i < ls.length := by omega
    have e1 := hpre (i + 1) (by omega)
    rw [hnx i hi2, List.length_append] at e1
    have e2 : IntKind.i64.wrap (((ls.take i).flatten.length : Int) + (ls[i].length : Int)) = (((ls.take i).flatten.length + ls[i].length : Nat) : Int) := by rw [i64_wrap (by omega) (by omega)]; omega
    have hld := hl.oneO hi
    rw [show ([cs[i]] : List CV)[0]? = some cs[i] from rfl] at hld
    simp +contextual (maxSteps := 2000000) only [go_sem, Nat.reduceEqDiff, reduceCtorEq, Nat.reduceAdd, Nat.reduceLeDiff, t0, t9, t10, t11, t3, hl.iaddr hi, hld, lt_true hi, (he i hi2 hi).len, e2, decide_eq_false (show ¬ (((ls.take i).flatten.length + ls[i].length : Nat) : Int) < 0 by omega)]
    rw [hnx i hi2, List.length_append, wrap_next hi (by unfold big at hm; omega)]
    exact ⟨rfl, rfl⟩
  · rintro T L h' ⟨rfl, t0, t9, t10, t11, t3⟩
    rw [← hlen, List.take_length] at t3
    simp +contextual (maxSteps := 2000000) only [go_sem, Nat.reduceEqDiff, reduceCtorEq, Nat.reduceAdd, Nat.reduceLeDiff, t0, t9, t10, t11, t3, lt_false]
    refine wp_call (c_growI _ _ hn) ?_
    rintro r h1 ⟨g1, n1⟩
    simp +contextual (maxSteps := 2000000) only [go_sem, Nat.reduceEqDiff, reduceCtorEq, Nat.reduceAdd, Nat.reduceLeDiff, t0, hl.len]
    refine wpC_loop (fun i T L h2 => Grow h' h2 ∧ T 25 = .v v ∧ T 26 = .v (.one (.int .i64 cs.length)) ∧ T 27 = .v (.one (.int .i64 i)) ∧ ∃ s, T 6 = .v s ∧ NwI h' h2 s (ls.take i).flatten) cs.length ?_ ?_ (Nat.zero_le _) ?_
    · rintro i T L h2 hi ⟨g2, t25, t26, t27, s, t6, n2⟩
      have hi2 : i < ls.length := by omega
      have e1 := hpre (i + 1) (by omega)
      rw [hnx i hi2, List.length_append] at e1
      have hl2 := hl.grow g2
      have hld := hl2.oneO hi
      rw [show ([cs[i]] : List CV)[0]? = some cs[i] from rfl] at hld
      simp +contextual (maxSteps := 2000000) only [go_sem, Nat.reduceEqDiff, reduceCtorEq, Nat.reduceAdd, Nat.reduceLeDiff, t25, t26, t27, t6, hl2.iaddr hi, hld, lt_true hi]
      refine wp_append lenI n2 ((he i hi2 hi).grow g2) g2 (by omega) ?_
      intro h3 s' g3 n3 _ _
      simp +contextual (maxSteps := 2000000) only [go_sem, Nat.reduceEqDiff, reduceCtorEq, Nat.reduceAdd, Nat.reduceLeDiff, t25, t26, t27]
      rw [hnx i hi2, wrap_next hi (by unfold big at hm; omega)]
      exact ⟨g3, rfl, _, rfl, n3⟩
    · rintro T L h2 ⟨g2, t25, t26, t27, s, t6, n2⟩
      rw [← hlen, List.take_length] at n2
      simp +contextual (maxSteps := 2000000) only [go_sem, Nat.reduceEqDiff, reduceCtorEq, Nat.reduceAdd, Nat.reduceLeDiff, t25, t26, t27, t6, lt_false]
      exact gcK_of ⟨g2, n2⟩ (fun hs _ => ⟨Grow.refl _, n2.scalar hs _⟩)
    · simp +contextual (maxSteps := 2000000) only [go_sem, Nat.reduceEqDiff, reduceCtorEq, Nat.reduceAdd, Nat.reduceLeDiff]
      exact ⟨g1, by simpa [rdy] using n1⟩
  · simp +contextual (maxSteps := 2000000) only [go_sem, Nat.reduceEqDiff, reduceCtorEq, Nat.reduceAdd, Nat.reduceLeDiff]
    simp
end Go.Proofs.Ytekkimfdcbgcoab.Am
