/- Contracts of the program: copies, calls over each other. -/
import Derived.Test.YtekkimfdcbgcoabA3
namespace Go.Proofs.Ytekkimfdcbgcoab.Am
open Go
set_option maxRecDepth 100000
set_option maxHeartbeats 4000000
set_option linter.unusedSimpArgs false
set_option linter.unusedVariables false
attribute [local go_sem ↓] bv_t bv_c ev_t ev_c put_same put_ne put_none kill_at pro_at lb_same lb_ne start_zero start_succ wpC_seq wpC_reg wpC_cond wpC_block wpC_skip wpC_exit wpC_ret thenQ_normal thenQ_exit thenQ_ret inBlk_normal inBlk_exit inBlk_ret wpS_nil wpS_step wpS_again wpS_guard wpO_mov wpO_load wpO_faddr wpO_nilCheck wpO_pick wpO_build wpO_bin wpO_eqb wpO_eqst wpO_eqnil wpO_not wpO_conv wpO_bytesStr wpO_iaddr wpO_idxStr wpO_field wpO_extract wpO_len wpO_lenStr wpO_cap wpO_min wpO_slice wpO_sliceStr wpO_alloc wpO_box wpO_store wpO_call wpO_callv wpO_mkfn wpO_buildSlice wpO_mkslice wpO_append wpO_appz proA_nil proA_cons tmpX_nil tmpX_tmp tmpX_cell doneB_normal doneB_ret agK_cons agK_nil agK_guard agG_tt agG_ff agG_tf agG_ft agG_undef pureB_load results_one results_two results_nil resBs_cons resBs_nil resB_tmp resB_cell
attribute [local go_sem] kill_v kill_lp_ne kill_lp_same pro_v pro_lp_same pro_lp_ne av_v av_lp optB_some optX_some valX_eq ldX_lp ldX_v faX_lp faX_v ncX_lp ncX_ptr ncX_fn boxK_one boxK_agg stL_some stK_lp_one stK_lp_agg stK_v_one stK_v_agg proM_v proM_lp callG_mk callVG_mk callvK_fn fnG_mk ptrsA_nil ptrsA_cons callH_some whenA_true whenA_false guardH_tt guardH_ff guardH_tf guardH_ft guardH_undef agV_one agV_agg lenO_sl lenStrO_str notO_bool pickO_bool convO_int eqbO_bool eqnilO_sl extractO_tup capO_sl minO_int loadL_one loadL_all storeL_eq fillA_nil fillA_one fillA_agg nat_ge neg_ge nat_lt neg_lt buildO bin_add bin_sub bin_mul bin_eql bin_neq bin_lss bin_leq bin_gtr bin_geq str_eql str_neq str_lss str_leq str_gtr str_geq retK_some endK_mk gcK_same gcK_int gcK_bool tupO_one tupO_agg rdy_self ib ii Option.map_none Option.map_some Option.some.injEq exists_eq_left' exists_eq_left ne_eq not_false_eq_true if_true if_false List.map_cons List.map_nil List.getElem?_cons_zero List.getElem?_cons_succ List.length_cons List.length_nil List.take_succ_cons List.take_zero List.take_nil List.drop_succ_cons List.drop_zero List.drop_nil List.cons_append List.nil_append List.append_nil List.set_cons_zero List.set_cons_succ Nat.zero_add forall_const true_and and_true and_self Bool.false_eq_true false_implies true_implies implies_true Bool.not_true Bool.not_false Bool.not_eq_true' Bool.not_eq_false' beq_self_eq_true Bool.bne_true Bool.bne_false
attribute [local go_sem] lenI lenS lenP lenQ lenB lenL lenT encI_0 encS_0 encP_0 encP_1 encQ_0 encQ_1 encQ_2 encQ_3 encB_0 encB_1 encL_0 encL_1 encT_0 encT_1
attribute [local go_sem low] whenA_bool guardH_bool
/-! slices.Clip(()int,int) -/
def L136_0 : List AStep := [⟨.mov (.c (.sl none 0 (some 0))), (some 2), none, []⟩]
theorem v136_0 : VS L136_0.eq_1 := rfl
def L136_1 : List AStep := [⟨.mov (.t 8), (some 2), none, []⟩]
theorem v136_1 : VS L136_1.eq_1 := rfl
def L136_2 : List AStep := ⟨.len (.t 6), (some 7), none, []⟩ :: ⟨.slice 3 1 (.t 3) none (some (.t 5)) (some (.t 7)), (some 8), none, []⟩ :: L136_1
theorem v136_2 : VS L136_2.eq_1 := rfl
def L136_3 : List AStep := ⟨.len (.t 4), (some 5), none, []⟩ :: ⟨.mov (.t 0), (some 6), none, []⟩ :: L136_2
theorem v136_3 : VS L136_3.eq_1 := rfl
def L136_4 : List AStep := ⟨.mov (.t 0), (some 3), none, []⟩ :: ⟨.mov (.t 0), (some 4), none, []⟩ :: L136_3
theorem v136_4 : VS L136_4.eq_1 := rfl
def C136_0 : ACode := .seq (.reg L136_4) .ret
theorem u136_0 : VC C136_0.eq_1 := rfl
def C136_1 : ACode := .seq (.reg L136_0) C136_0
theorem u136_1 : VC C136_1.eq_1 := rfl
def F136 : AFunc := ⟨9, [.tmp 2], C136_1⟩
theorem cF136 : compB Try.prog 136 = some F136 := by kernel_rfl
attribute [local go_sem ↓] u136_0 u136_1 v136_0 v136_1 v136_2 v136_3 v136_4
theorem c_clipI {h0 : H} (l : List Int) (v : AV) (h : H) (hl : NwI h0 h v l) : callK (bm Try.prog 136 [v] h) fun r h' => h' = h ∧ NwI h0 h r l := by
  refine bm_of cF136 ?_
  obtain ⟨w, e1, n1⟩ := hl.clipO (kd := .i64) (kd' := .i64)
  simp +contextual (maxSteps := 2000000) only [go_sem, Nat.reduceEqDiff, reduceCtorEq, Nat.reduceAdd, Nat.reduceLeDiff, F136, hl.length, e1]
  exact n1
theorem c_clipbI {h0 : H} (l : List Int) (v : AV) (h : H) (hl : NwI h0 h v l) : callK (bm Try.prog 136 [v] h) fun r h' => h' = h ∧ NwI h0 h r l ∧ ∀ i, baseOf r = some i → baseOf v = some i := by
  refine bm_of cF136 ?_
  obtain ⟨w, e1, n1⟩ := hl.clipB (kd := .i64) (kd' := .i64)
  simp +contextual (maxSteps := 2000000) only [go_sem, Nat.reduceEqDiff, reduceCtorEq, Nat.reduceAdd, Nat.reduceLeDiff, F136, hl.length, e1]
  exact n1
/-! slices.Clone(()int,int) -/
def L137_0 : List AStep := [⟨.mov (.c (.sl none 0 (some 0))), (some 2), none, []⟩]
theorem v137_0 : VS L137_0.eq_1 := rfl
def L137_1 : List AStep := [⟨.mov (.t 0), (some 3), none, []⟩, ⟨.eqnil false (.t 3) (.c (.sl none 0 (some 0))), (some 4), none, []⟩]
theorem v137_1 : VS L137_1.eq_1 := rfl
def L137_2 : List AStep := [⟨.mov (.c (.sl none 0 (some 0))), (some 2), none, []⟩]
theorem v137_2 : VS L137_2.eq_1 := rfl
def L137_3 : List AStep := [⟨.append 3 1 8 (.t 5) (.t 6), (some 7), none, []⟩, ⟨.mov (.t 7), (some 2), none, []⟩]
theorem v137_3 : VS L137_3.eq_1 := rfl
def L137_4 : List AStep := ⟨.buildSlice 3 0 [(.int .i64 0)] [], (some 5), none, []⟩ :: ⟨.mov (.t 0), (some 6), none, []⟩ :: L137_3
theorem v137_4 : VS L137_4.eq_1 := rfl
def C137_0 : ACode := .seq (.reg L137_2) .ret
theorem u137_0 : VC C137_0.eq_1 := rfl
def C137_1 : ACode := .cond (.t 4) C137_0 .skip
theorem u137_1 : VC C137_1.eq_1 := rfl
def C137_2 : ACode := .seq (.reg L137_1) C137_1
theorem u137_2 : VC C137_2.eq_1 := rfl
def C137_3 : ACode := .seq (.reg L137_4) .ret
theorem u137_3 : VC C137_3.eq_1 := rfl
def C137_4 : ACode := .seq C137_2 C137_3
theorem u137_4 : VC C137_4.eq_1 := rfl
def C137_5 : ACode := .seq (.reg L137_0) C137_4
theorem u137_5 : VC C137_5.eq_1 := rfl
def F137 : AFunc := ⟨8, [.tmp 2], C137_5⟩
theorem cF137 : compB Try.prog 137 = some F137 := by kernel_rfl
attribute [local go_sem ↓] u137_0 u137_1 u137_2 u137_3 u137_4 u137_5 v137_0 v137_1 v137_2 v137_3 v137_4
theorem c_clone0I (l : List Int) (v : AV) (h : H) (hl : SlI h v l) (hn : l.length ≤ big) : callK (bm Try.prog 137 [v] h) fun r h' => Grow h h' ∧ NwI h h' r l := by
  refine bm_of cF137 ?_
  obtain ⟨b, e1, e2⟩ := hl.isNil
  simp +contextual (maxSteps := 2000000) only [go_sem, Nat.reduceEqDiff, reduceCtorEq, Nat.reduceAdd, Nat.reduceLeDiff, F137, e1]
  cases b with
  | true =>
    obtain rfl := e2 rfl
    simp +contextual (maxSteps := 2000000) only [go_sem, Nat.reduceEqDiff, reduceCtorEq, Nat.reduceAdd, Nat.reduceLeDiff]
    exact ⟨Grow.refl h, .nil⟩
  | false =>
    simp +contextual (maxSteps := 2000000) only [go_sem, Nat.reduceEqDiff, reduceCtorEq, Nat.reduceAdd, Nat.reduceLeDiff]
    refine wp_lit (enc := encI) (k := 1) (l := []) rfl rfl ?_
    intro h1 w g1 n1 _
    simp +contextual (maxSteps := 2000000) only [go_sem, Nat.reduceEqDiff, reduceCtorEq, Nat.reduceAdd, Nat.reduceLeDiff]
    refine wp_append lenI n1 (hl.grow g1) g1 (by have := hn; unfold big at this; simp; omega) ?_
    intro h2 s g2 n2 _ _
    simp +contextual (maxSteps := 2000000) only [go_sem, Nat.reduceEqDiff, reduceCtorEq, Nat.reduceAdd, Nat.reduceLeDiff]
    exact gcK_of ⟨g2, n2⟩ (fun hs _ => ⟨Grow.refl h, n2.scalar hs h⟩)
/-! impl.clone(int) -/
def L109_0 : List AStep := [⟨.mov (.c (.sl none 0 (some 0))), (some 2), none, []⟩]
theorem v109_0 : VS L109_0.eq_1 := rfl
def L109_1 : List AStep := [⟨.call 136 [(.t 4)], (some 5), none, []⟩, ⟨.mov (.t 5), (some 2), none, []⟩]
theorem v109_1 : VS L109_1.eq_1 := rfl
def L109_2 : List AStep := ⟨.mov (.t 0), (some 3), none, []⟩ :: ⟨.call 137 [(.t 3)], (some 4), none, []⟩ :: L109_1
theorem v109_2 : VS L109_2.eq_1 := rfl
def C109_0 : ACode := .seq (.reg L109_2) .ret
theorem u109_0 : VC C109_0.eq_1 := rfl
def C109_1 : ACode := .seq (.reg L109_0) C109_0
theorem u109_1 : VC C109_1.eq_1 := rfl
def F109 : AFunc := ⟨6, [.tmp 2], C109_1⟩
theorem cF109 : compB Try.prog 109 = some F109 := by kernel_rfl
attribute [local go_sem ↓] u109_0 u109_1 v109_0 v109_1 v109_2
theorem c_cloneI (l : List Int) (v : AV) (h : H) (hl : SlI h v l) (hn : l.length ≤ big) : callK (bm Try.prog 109 [v] h) fun r h' => Grow h h' ∧ NwI h h' r l := by
  refine bm_of cF109 ?_
  simp +contextual (maxSteps := 2000000) only [go_sem, Nat.reduceEqDiff, reduceCtorEq, Nat.reduceAdd, Nat.reduceLeDiff, F109]
  refine wp_call (c_clone0I l v h hl hn) ?_
  rintro r h1 ⟨g1, n1⟩
  simp +contextual (maxSteps := 2000000) only [go_sem, Nat.reduceEqDiff, reduceCtorEq, Nat.reduceAdd, Nat.reduceLeDiff]
  refine wp_call (c_clipI l r h1 n1) ?_
  rintro r2 h2 ⟨rfl, n2⟩
  simp +contextual (maxSteps := 2000000) only [go_sem, Nat.reduceEqDiff, reduceCtorEq, Nat.reduceAdd, Nat.reduceLeDiff]
  exact gcK_of ⟨g1, n2⟩ (fun hs _ => ⟨Grow.refl h, n2.scalar hs h⟩)
/-! slices.Clip(()impl.Pair,impl.Pair) -/
def L113_0 : List AStep := [⟨.mov (.c (.sl none 0 (some 0))), (some 2), none, []⟩]
theorem v113_0 : VS L113_0.eq_1 := rfl
def L113_1 : List AStep := [⟨.mov (.t 8), (some 2), none, []⟩]
theorem v113_1 : VS L113_1.eq_1 := rfl
def L113_2 : List AStep := ⟨.len (.t 6), (some 7), none, []⟩ :: ⟨.slice 64 2 (.t 3) none (some (.t 5)) (some (.t 7)), (some 8), none, []⟩ :: L113_1
theorem v113_2 : VS L113_2.eq_1 := rfl
def L113_3 : List AStep := ⟨.len (.t 4), (some 5), none, []⟩ :: ⟨.mov (.t 0), (some 6), none, []⟩ :: L113_2
theorem v113_3 : VS L113_3.eq_1 := rfl
def L113_4 : List AStep := ⟨.mov (.t 0), (some 3), none, []⟩ :: ⟨.mov (.t 0), (some 4), none, []⟩ :: L113_3
theorem v113_4 : VS L113_4.eq_1 := rfl
def C113_0 : ACode := .seq (.reg L113_4) .ret
theorem u113_0 : VC C113_0.eq_1 := rfl
def C113_1 : ACode := .seq (.reg L113_0) C113_0
theorem u113_1 : VC C113_1.eq_1 := rfl
def F113 : AFunc := ⟨9, [.tmp 2], C113_1⟩
theorem cF113 : compB Try.prog 113 = some F113 := by kernel_rfl
attribute [local go_sem ↓] u113_0 u113_1 v113_0 v113_1 v113_2 v113_3 v113_4
theorem c_clipP {h0 : H} (l : List Pair) (v : AV) (h : H) (hl : NwP h0 h v l) : callK (bm Try.prog 113 [v] h) fun r h' => h' = h ∧ NwP h0 h r l := by
  refine bm_of cF113 ?_
  obtain ⟨w, e1, n1⟩ := hl.clipO (kd := .i64) (kd' := .i64)
  simp +contextual (maxSteps := 2000000) only [go_sem, Nat.reduceEqDiff, reduceCtorEq, Nat.reduceAdd, Nat.reduceLeDiff, F113, hl.length, e1]
  exact n1
theorem c_clipbP {h0 : H} (l : List Pair) (v : AV) (h : H) (hl : NwP h0 h v l) : callK (bm Try.prog 113 [v] h) fun r h' => h' = h ∧ NwP h0 h r l ∧ ∀ i, baseOf r = some i → baseOf v = some i := by
  refine bm_of cF113 ?_
  obtain ⟨w, e1, n1⟩ := hl.clipB (kd := .i64) (kd' := .i64)
  simp +contextual (maxSteps := 2000000) only [go_sem, Nat.reduceEqDiff, reduceCtorEq, Nat.reduceAdd, Nat.reduceLeDiff, F113, hl.length, e1]
  exact n1
/-! slices.Clone(()impl.Pair,impl.Pair) -/
def L125_0 : List AStep := [⟨.mov (.c (.sl none 0 (some 0))), (some 2), none, []⟩]
theorem v125_0 : VS L125_0.eq_1 := rfl
def L125_1 : List AStep := [⟨.mov (.t 0), (some 3), none, []⟩, ⟨.eqnil false (.t 3) (.c (.sl none 0 (some 0))), (some 4), none, []⟩]
theorem v125_1 : VS L125_1.eq_1 := rfl
def L125_2 : List AStep := [⟨.mov (.c (.sl none 0 (some 0))), (some 2), none, []⟩]
theorem v125_2 : VS L125_2.eq_1 := rfl
def L125_3 : List AStep := [⟨.append 64 2 24 (.t 5) (.t 6), (some 7), none, []⟩, ⟨.mov (.t 7), (some 2), none, []⟩]
theorem v125_3 : VS L125_3.eq_1 := rfl
def L125_4 : List AStep := ⟨.buildSlice 64 0 [(.str (strOfNums [])), (.int .i64 0)] [], (some 5), none, []⟩ :: ⟨.mov (.t 0), (some 6), none, []⟩ :: L125_3
theorem v125_4 : VS L125_4.eq_1 := rfl
def C125_0 : ACode := .seq (.reg L125_2) .ret
theorem u125_0 : VC C125_0.eq_1 := rfl
def C125_1 : ACode := .cond (.t 4) C125_0 .skip
theorem u125_1 : VC C125_1.eq_1 := rfl
def C125_2 : ACode := .seq (.reg L125_1) C125_1
theorem u125_2 : VC C125_2.eq_1 := rfl
def C125_3 : ACode := .seq (.reg L125_4) .ret
theorem u125_3 : VC C125_3.eq_1 := rfl
def C125_4 : ACode := .seq C125_2 C125_3
theorem u125_4 : VC C125_4.eq_1 := rfl
def C125_5 : ACode := .seq (.reg L125_0) C125_4
theorem u125_5 : VC C125_5.eq_1 := rfl
def F125 : AFunc := ⟨8, [.tmp 2], C125_5⟩
theorem cF125 : compB Try.prog 125 = some F125 := by kernel_rfl
attribute [local go_sem ↓] u125_0 u125_1 u125_2 u125_3 u125_4 u125_5 v125_0 v125_1 v125_2 v125_3 v125_4
theorem c_clone0P (l : List Pair) (v : AV) (h : H) (hl : SlP h v l) (hn : l.length ≤ big) : callK (bm Try.prog 125 [v] h) fun r h' => Grow h h' ∧ NwP h h' r l := by
  refine bm_of cF125 ?_
  obtain ⟨b, e1, e2⟩ := hl.isNil
  simp +contextual (maxSteps := 2000000) only [go_sem, Nat.reduceEqDiff, reduceCtorEq, Nat.reduceAdd, Nat.reduceLeDiff, F125, e1]
  cases b with
  | true =>
    obtain rfl := e2 rfl
    simp +contextual (maxSteps := 2000000) only [go_sem, Nat.reduceEqDiff, reduceCtorEq, Nat.reduceAdd, Nat.reduceLeDiff]
    exact ⟨Grow.refl h, .nil⟩
  | false =>
    simp +contextual (maxSteps := 2000000) only [go_sem, Nat.reduceEqDiff, reduceCtorEq, Nat.reduceAdd, Nat.reduceLeDiff]
    refine wp_lit (enc := encP) (k := 2) (l := []) rfl rfl ?_
    intro h1 w g1 n1 _
    simp +contextual (maxSteps := 2000000) only [go_sem, Nat.reduceEqDiff, reduceCtorEq, Nat.reduceAdd, Nat.reduceLeDiff]
    refine wp_append lenP n1 (hl.grow g1) g1 (by have := hn; unfold big at this; simp; omega) ?_
    intro h2 s g2 n2 _ _
    simp +contextual (maxSteps := 2000000) only [go_sem, Nat.reduceEqDiff, reduceCtorEq, Nat.reduceAdd, Nat.reduceLeDiff]
    exact gcK_of ⟨g2, n2⟩ (fun hs _ => ⟨Grow.refl h, n2.scalar hs h⟩)
/-! impl.clone(impl.Pair) -/
def L80_0 : List AStep := [⟨.mov (.c (.sl none 0 (some 0))), (some 2), none, []⟩]
theorem v80_0 : VS L80_0.eq_1 := rfl
def L80_1 : List AStep := [⟨.call 113 [(.t 4)], (some 5), none, []⟩, ⟨.mov (.t 5), (some 2), none, []⟩]
theorem v80_1 : VS L80_1.eq_1 := rfl
def L80_2 : List AStep := ⟨.mov (.t 0), (some 3), none, []⟩ :: ⟨.call 125 [(.t 3)], (some 4), none, []⟩ :: L80_1
theorem v80_2 : VS L80_2.eq_1 := rfl
def C80_0 : ACode := .seq (.reg L80_2) .ret
theorem u80_0 : VC C80_0.eq_1 := rfl
def C80_1 : ACode := .seq (.reg L80_0) C80_0
theorem u80_1 : VC C80_1.eq_1 := rfl
def F80 : AFunc := ⟨6, [.tmp 2], C80_1⟩
theorem cF80 : compB Try.prog 80 = some F80 := by kernel_rfl
attribute [local go_sem ↓] u80_0 u80_1 v80_0 v80_1 v80_2
theorem c_cloneP (l : List Pair) (v : AV) (h : H) (hl : SlP h v l) (hn : l.length ≤ big) : callK (bm Try.prog 80 [v] h) fun r h' => Grow h h' ∧ NwP h h' r l := by
  refine bm_of cF80 ?_
  simp +contextual (maxSteps := 2000000) only [go_sem, Nat.reduceEqDiff, reduceCtorEq, Nat.reduceAdd, Nat.reduceLeDiff, F80]
  refine wp_call (c_clone0P l v h hl hn) ?_
  rintro r h1 ⟨g1, n1⟩
  simp +contextual (maxSteps := 2000000) only [go_sem, Nat.reduceEqDiff, reduceCtorEq, Nat.reduceAdd, Nat.reduceLeDiff]
  refine wp_call (c_clipP l r h1 n1) ?_
  rintro r2 h2 ⟨rfl, n2⟩
  simp +contextual (maxSteps := 2000000) only [go_sem, Nat.reduceEqDiff, reduceCtorEq, Nat.reduceAdd, Nat.reduceLeDiff]
  exact gcK_of ⟨g1, n2⟩ (fun hs _ => ⟨Grow.refl h, n2.scalar hs h⟩)
/-! slices.Clip(()impl.Problem,impl.Problem) -/
def L114_0 : List AStep := [⟨.mov (.c (.sl none 0 (some 0))), (some 2), none, []⟩]
theorem v114_0 : VS L114_0.eq_1 := rfl
def L114_1 : List AStep := [⟨.mov (.t 8), (some 2), none, []⟩]
theorem v114_1 : VS L114_1.eq_1 := rfl
def L114_2 : List AStep := ⟨.len (.t 6), (some 7), none, []⟩ :: ⟨.slice 52 2 (.t 3) none (some (.t 5)) (some (.t 7)), (some 8), none, []⟩ :: L114_1
theorem v114_2 : VS L114_2.eq_1 := rfl
def L114_3 : List AStep := ⟨.len (.t 4), (some 5), none, []⟩ :: ⟨.mov (.t 0), (some 6), none, []⟩ :: L114_2
theorem v114_3 : VS L114_3.eq_1 := rfl
def L114_4 : List AStep := ⟨.mov (.t 0), (some 3), none, []⟩ :: ⟨.mov (.t 0), (some 4), none, []⟩ :: L114_3
theorem v114_4 : VS L114_4.eq_1 := rfl
def C114_0 : ACode := .seq (.reg L114_4) .ret
theorem u114_0 : VC C114_0.eq_1 := rfl
def C114_1 : ACode := .seq (.reg L114_0) C114_0
theorem u114_1 : VC C114_1.eq_1 := rfl
def F114 : AFunc := ⟨9, [.tmp 2], C114_1⟩
theorem cF114 : compB Try.prog 114 = some F114 := by kernel_rfl
attribute [local go_sem ↓] u114_0 u114_1 v114_0 v114_1 v114_2 v114_3 v114_4
theorem c_clipB {h0 : H} (l : List Problem) (v : AV) (h : H) (hl : NwB h0 h v l) : callK (bm Try.prog 114 [v] h) fun r h' => h' = h ∧ NwB h0 h r l := by
  refine bm_of cF114 ?_
  obtain ⟨w, e1, n1⟩ := hl.clipO (kd := .i64) (kd' := .i64)
  simp +contextual (maxSteps := 2000000) only [go_sem, Nat.reduceEqDiff, reduceCtorEq, Nat.reduceAdd, Nat.reduceLeDiff, F114, hl.length, e1]
  exact n1
theorem c_clipbB {h0 : H} (l : List Problem) (v : AV) (h : H) (hl : NwB h0 h v l) : callK (bm Try.prog 114 [v] h) fun r h' => h' = h ∧ NwB h0 h r l ∧ ∀ i, baseOf r = some i → baseOf v = some i := by
  refine bm_of cF114 ?_
  obtain ⟨w, e1, n1⟩ := hl.clipB (kd := .i64) (kd' := .i64)
  simp +contextual (maxSteps := 2000000) only [go_sem, Nat.reduceEqDiff, reduceCtorEq, Nat.reduceAdd, Nat.reduceLeDiff, F114, hl.length, e1]
  exact n1
/-! slices.Clip(()string,string) -/
def L142_0 : List AStep := [⟨.mov (.c (.sl none 0 (some 0))), (some 2), none, []⟩]
theorem v142_0 : VS L142_0.eq_1 := rfl
def L142_1 : List AStep := [⟨.mov (.t 8), (some 2), none, []⟩]
theorem v142_1 : VS L142_1.eq_1 := rfl
def L142_2 : List AStep := ⟨.len (.t 6), (some 7), none, []⟩ :: ⟨.slice 9 1 (.t 3) none (some (.t 5)) (some (.t 7)), (some 8), none, []⟩ :: L142_1
theorem v142_2 : VS L142_2.eq_1 := rfl
def L142_3 : List AStep := ⟨.len (.t 4), (some 5), none, []⟩ :: ⟨.mov (.t 0), (some 6), none, []⟩ :: L142_2
theorem v142_3 : VS L142_3.eq_1 := rfl
def L142_4 : List AStep := ⟨.mov (.t 0), (some 3), none, []⟩ :: ⟨.mov (.t 0), (some 4), none, []⟩ :: L142_3
theorem v142_4 : VS L142_4.eq_1 := rfl
def C142_0 : ACode := .seq (.reg L142_4) .ret
theorem u142_0 : VC C142_0.eq_1 := rfl
def C142_1 : ACode := .seq (.reg L142_0) C142_0
theorem u142_1 : VC C142_1.eq_1 := rfl
def F142 : AFunc := ⟨9, [.tmp 2], C142_1⟩
theorem cF142 : compB Try.prog 142 = some F142 := by kernel_rfl
attribute [local go_sem ↓] u142_0 u142_1 v142_0 v142_1 v142_2 v142_3 v142_4
theorem c_clipS {h0 : H} (l : List ByteArray) (v : AV) (h : H) (hl : NwS h0 h v l) : callK (bm Try.prog 142 [v] h) fun r h' => h' = h ∧ NwS h0 h r l := by
  refine bm_of cF142 ?_
  obtain ⟨w, e1, n1⟩ := hl.clipO (kd := .i64) (kd' := .i64)
  simp +contextual (maxSteps := 2000000) only [go_sem, Nat.reduceEqDiff, reduceCtorEq, Nat.reduceAdd, Nat.reduceLeDiff, F142, hl.length, e1]
  exact n1
theorem c_clipbS {h0 : H} (l : List ByteArray) (v : AV) (h : H) (hl : NwS h0 h v l) : callK (bm Try.prog 142 [v] h) fun r h' => h' = h ∧ NwS h0 h r l ∧ ∀ i, baseOf r = some i → baseOf v = some i := by
  refine bm_of cF142 ?_
  obtain ⟨w, e1, n1⟩ := hl.clipB (kd := .i64) (kd' := .i64)
  simp +contextual (maxSteps := 2000000) only [go_sem, Nat.reduceEqDiff, reduceCtorEq, Nat.reduceAdd, Nat.reduceLeDiff, F142, hl.length, e1]
  exact n1
/-! (impl.Flat).copyOf -/
def L61_0 : List AStep := [⟨.box 29 (.t 0), (some 1), none, []⟩, ⟨.alloc 29 [(.sl none 0 (some 0)), (.sl none 0 (some 0))], (some 2), none, []⟩]
theorem v61_0 : VS L61_0.eq_1 := rfl
def L61_1 : List AStep := [⟨.build [(.sl none 0 (some 0)), (.sl none 0 (some 0))] [(0, 1, (.t 5)), (1, 1, (.t 8))], (some 9), none, []⟩, ⟨.store 2 (.t 2) (.t 9), none, none, []⟩]
theorem v61_1 : VS L61_1.eq_1 := rfl
def L61_2 : List AStep := ⟨.call 109 [(.t 4)], (some 5), none, [(.load 1 false (.t 6), (some 7), none)]⟩ :: ⟨.call 80 [(.t 7)], (some 8), none, []⟩ :: L61_1
theorem v61_2 : VS L61_2.eq_1 := rfl
def L61_3 : List AStep := ⟨.faddr 1 (.t 1), (some 6), none, []⟩ :: ⟨.load 1 false (.t 6), (some 7), none, []⟩ :: L61_2
theorem v61_3 : VS L61_3.eq_1 := rfl
def L61_4 : List AStep := ⟨.faddr 0 (.t 1), (some 3), none, []⟩ :: ⟨.load 1 false (.t 3), (some 4), none, []⟩ :: L61_3
theorem v61_4 : VS L61_4.eq_1 := rfl
def C61_0 : ACode := .seq (.reg L61_4) .ret
theorem u61_0 : VC C61_0.eq_1 := rfl
def C61_1 : ACode := .seq (.reg L61_0) C61_0
theorem u61_1 : VC C61_1.eq_1 := rfl
def F61 : AFunc := ⟨10, [.cell 2 2 true], C61_1⟩
theorem cF61 : compB Try.prog 61 = some F61 := by kernel_rfl
attribute [local go_sem ↓] u61_0 u61_1 v61_0 v61_1 v61_2 v61_3 v61_4
theorem c_copyOfF (f : Flat) (p n : CV) (h : H) (hf : SlF h p n f) (hn : smF f) : callK (bm Try.prog 61 [.agg [p, n]] h) fun r h' => Grow h h' ∧ ∃ p' n', r = .agg [p', n'] ∧ NwF h h' p' n' f := by
  refine bm_of cF61 ?_
  simp +contextual (maxSteps := 2000000) only [go_sem, Nat.reduceEqDiff, reduceCtorEq, Nat.reduceAdd, Nat.reduceLeDiff, F61]
  refine wp_call (c_cloneI _ _ h hf.pl hn.pl) ?_
  rintro r h1 ⟨g1, n1⟩
  obtain ⟨p', rfl⟩ := n1.one
  simp +contextual (maxSteps := 2000000) only [go_sem, Nat.reduceEqDiff, reduceCtorEq, Nat.reduceAdd, Nat.reduceLeDiff]
  refine wp_call (c_cloneP _ _ h1 (hf.nl.grow g1) hn.nl.1) ?_
  rintro r h2 ⟨g2, n2⟩
  obtain ⟨n', rfl⟩ := n2.one
  simp +contextual (maxSteps := 2000000) only [go_sem, Nat.reduceEqDiff, reduceCtorEq, Nat.reduceAdd, Nat.reduceLeDiff]
  have n3 : NwF h h2 p' n' f := ⟨n1.grow g2, n2.from g1.n, n1.apart n2⟩
  exact gcK_of ⟨g1.trans g2, _, _, rfl, n3⟩ (fun hs _ => ⟨Grow.refl h, _, _, rfl, n3.scalar hs h⟩)
/-! (impl.Flat).put -/
def L82_0 : List AStep := [⟨.box 29 (.t 0), (some 3), none, []⟩, ⟨.alloc 29 [(.sl none 0 (some 0)), (.sl none 0 (some 0))], (some 6), none, []⟩]
theorem v82_0 : VS L82_0.eq_1 := rfl
def L82_1 : List AStep := [⟨.alloc 29 [(.sl none 0 (some 0)), (.sl none 0 (some 0))], (some 7), none, []⟩, ⟨.store 2 (.t 7) (.t 10), none, none, []⟩]
theorem v82_1 : VS L82_1.eq_1 := rfl
def L82_2 : List AStep := ⟨.load 2 true (.t 3), (some 9), none, []⟩ :: ⟨.call 61 [(.t 9)], (some 10), none, []⟩ :: L82_1
theorem v82_2 : VS L82_2.eq_1 := rfl
def L82_3 : List AStep := [⟨.mov (.t 14), (some 8), none, []⟩]
theorem v82_3 : VS L82_3.eq_1 := rfl
def L82_4 : List AStep := ⟨.mov (.t 1), (some 13), none, []⟩ :: ⟨.call 62 [(.t 12), (.t 13)], (some 14), none, []⟩ :: L82_3
theorem v82_4 : VS L82_4.eq_1 := rfl
def L82_5 : List AStep := ⟨.faddr 1 (.t 7), (some 11), none, []⟩ :: ⟨.load 1 false (.t 11), (some 12), none, []⟩ :: L82_4
theorem v82_5 : VS L82_5.eq_1 := rfl
def L82_6 : List AStep := [⟨.mov (.t 8), (some 15), none, []⟩, ⟨.bin .geq (.t 15) (.c (.int .i64 0)), (some 16), none, []⟩]
theorem v82_6 : VS L82_6.eq_1 := rfl
def L82_7 : List AStep := [⟨.store 1 (.t 22) (.t 20), none, none, []⟩]
theorem v82_7 : VS L82_7.eq_1 := rfl
def L82_8 : List AStep := ⟨.iaddr 2 (.t 18) (.t 19), (some 21), none, []⟩ :: ⟨.faddr 1 (.t 21), (some 22), none, []⟩ :: L82_7
theorem v82_8 : VS L82_8.eq_1 := rfl
def L82_9 : List AStep := ⟨.mov (.t 8), (some 19), none, []⟩ :: ⟨.mov (.t 2), (some 20), none, []⟩ :: L82_8
theorem v82_9 : VS L82_9.eq_1 := rfl
def L82_10 : List AStep := ⟨.faddr 1 (.t 7), (some 17), none, []⟩ :: ⟨.load 1 false (.t 17), (some 18), none, []⟩ :: L82_9
theorem v82_10 : VS L82_10.eq_1 := rfl
def L82_11 : List AStep := [⟨.store 1 (.t 30) (.t 29), none, none, []⟩]
theorem v82_11 : VS L82_11.eq_1 := rfl
def L82_12 : List AStep := ⟨.append 64 2 24 (.t 24) (.t 28), (some 29), none, []⟩ :: ⟨.faddr 1 (.t 7), (some 30), none, []⟩ :: L82_11
theorem v82_12 : VS L82_12.eq_1 := rfl
def L82_13 : List AStep := ⟨.build [(.str (strOfNums [])), (.int .i64 0)] [(0, 1, (.t 25)), (1, 1, (.t 26))], (some 27), none, []⟩ :: ⟨.buildSlice 64 1 [(.str (strOfNums [])), (.int .i64 0)] [(0, 2, (.t 27))], (some 28), none, []⟩ :: L82_12
theorem v82_13 : VS L82_13.eq_1 := rfl
def L82_14 : List AStep := ⟨.mov (.t 1), (some 25), none, []⟩ :: ⟨.mov (.t 2), (some 26), none, []⟩ :: L82_13
theorem v82_14 : VS L82_14.eq_1 := rfl
def L82_15 : List AStep := ⟨.faddr 1 (.t 7), (some 23), none, []⟩ :: ⟨.load 1 false (.t 23), (some 24), none, []⟩ :: L82_14
theorem v82_15 : VS L82_15.eq_1 := rfl
def L82_16 : List AStep := [⟨.load 2 true (.t 7), (some 31), none, []⟩, ⟨.store 2 (.t 6) (.t 31), none, none, []⟩]
theorem v82_16 : VS L82_16.eq_1 := rfl
def C82_0 : ACode := .cond (.t 16) (.reg L82_10) (.reg L82_15)
theorem u82_0 : VC C82_0.eq_1 := rfl
def C82_1 : ACode := .seq (.reg L82_6) C82_0
theorem u82_1 : VC C82_1.eq_1 := rfl
def C82_2 : ACode := .seq (.reg L82_5) C82_1
theorem u82_2 : VC C82_2.eq_1 := rfl
def C82_3 : ACode := .seq (.reg L82_16) .ret
theorem u82_3 : VC C82_3.eq_1 := rfl
def C82_4 : ACode := .seq C82_2 C82_3
theorem u82_4 : VC C82_4.eq_1 := rfl
def C82_5 : ACode := .seq (.reg L82_2) C82_4
theorem u82_5 : VC C82_5.eq_1 := rfl
def C82_6 : ACode := .seq (.reg L82_0) C82_5
theorem u82_6 : VC C82_6.eq_1 := rfl
def F82 : AFunc := ⟨32, [.cell 6 2 true], C82_6⟩
theorem cF82 : compB Try.prog 82 = some F82 := by kernel_rfl
attribute [local go_sem ↓] u82_0 u82_1 u82_2 u82_3 u82_4 u82_5 u82_6 v82_0 v82_1 v82_2 v82_3 v82_4 v82_5 v82_6 v82_7 v82_8 v82_9 v82_10 v82_11 v82_12 v82_13 v82_14 v82_15 v82_16
theorem c_put (f : Flat) (p n : CV) (s : ByteArray) (k : Int) (h : H) (hf : SlF h p n f) (hn : smF f) :
    callK (bm Try.prog 82 [.agg [p, n], .one (.str s), .one (.int .i64 k)] h) fun r h' => Grow h h' ∧ ∃ p' n', r = .agg [p', n'] ∧ NwF h h' p' n' ⟨f.pl, putP f.nl ⟨s, k⟩⟩ := by
  refine bm_of cF82 ?_
  simp +contextual (maxSteps := 2000000) only [go_sem, Nat.reduceEqDiff, reduceCtorEq, Nat.reduceAdd, Nat.reduceLeDiff, F82]
  refine wp_call (c_copyOfF f p n h hf hn) ?_
  rintro r h1 ⟨g1, p', n', rfl, n1⟩
  rcases idx_cases (fun q : Pair => decide (q.name = s)) f.nl with e | ⟨j, hj, e, hs⟩ <;> (replace e := (show pairAt f.nl s = _ from e))
  · simp +contextual (maxSteps := 2000000) only [go_sem, Nat.reduceEqDiff, reduceCtorEq, Nat.reduceAdd, Nat.reduceLeDiff, c_pairAtI _ _ _ _ n1.sl.nl hn.nl, e]
    refine wp_lit (enc := encP) (k := 2) (l := [⟨s, k⟩]) rfl rfl ?_
    intro h2 w g2 n2 _
    simp +contextual (maxSteps := 2000000) only [go_sem, Nat.reduceEqDiff, reduceCtorEq, Nat.reduceAdd, Nat.reduceLeDiff]
    have n3 := n1.grow g2
    refine wp_append lenP n3.nl (n2.sl lenP) (g1.trans g2) (by have := hn.nl.1; unfold big at this; simp; omega) ?_
    intro h3 s' g3 n4 st hb
    obtain ⟨c, rfl⟩ := n4.one
    simp +contextual (maxSteps := 2000000) only [go_sem, Nat.reduceEqDiff, reduceCtorEq, Nat.reduceAdd, Nat.reduceLeDiff]
    have n5 : NwF h h3 p' c ⟨f.pl, putP f.nl ⟨s, k⟩⟩ := by
      rw [putP_none e]
      refine ⟨n3.pl.stay st n3.sep, n4, fun i hi hj => ?_⟩
      rcases hb i hj with hb | hb
      · exact n3.sep i hi hb
      · have := (n3.pl.lt hi).1; omega
    exact gcK_of ⟨g3, _, _, rfl, n5⟩ (fun hs _ => ⟨Grow.refl h, _, _, rfl, n5.scalar hs h⟩)
  · simp +contextual (maxSteps := 2000000) only [go_sem, Nat.reduceEqDiff, reduceCtorEq, Nat.reduceAdd, Nat.reduceLeDiff, c_pairAtI _ _ _ _ n1.sl.nl hn.nl, e, n1.nl.iaddr hj]
    have hs : f.nl[j].name = s := of_decide_eq_true hs
    refine wp_set (x := (⟨s, k⟩ : Pair)) (off := 1) (vs := [.int .i64 k]) lenP n1.nl hj rfl (by simp [encP, hs]) (Nat.le_of_ble_eq_true rfl) g1 ?_
    intro h2 g2 n2 st
    simp +contextual (maxSteps := 2000000) only [go_sem, Nat.reduceEqDiff, reduceCtorEq, Nat.reduceAdd, Nat.reduceLeDiff]
    have n5 : NwF h h2 p' n' ⟨f.pl, putP f.nl ⟨s, k⟩⟩ := by
      rw [putP_some e]
      exact ⟨n1.pl.stay st n1.sep, n2, n1.sep⟩
    exact gcK_of ⟨g2, _, _, rfl, n5⟩ (fun hs _ => ⟨Grow.refl h, _, _, rfl, n5.scalar hs h⟩)
/-! impl.checked -/
def L56_0 : List AStep := [⟨.mov (.c (.bool false)), (some 5), none, []⟩]
theorem v56_0 : VS L56_0.eq_1 := rfl
def L56_1 : List AStep := ⟨.box 29 (.t 0), (some 2), none, []⟩ :: ⟨.alloc 29 [(.sl none 0 (some 0)), (.sl none 0 (some 0))], (some 4), none, []⟩ :: L56_0
theorem v56_1 : VS L56_1.eq_1 := rfl
def L56_2 : List AStep := [⟨.pick (.t 8) (.c (.bool true)) (.t 11), (some 12), none, []⟩]
theorem v56_2 : VS L56_2.eq_1 := rfl
def L56_3 : List AStep := ⟨.call 32 [(.t 9)], (some 10), (some (8, false)), []⟩ :: ⟨.not (.t 10), (some 11), (some (8, false)), []⟩ :: L56_2
theorem v56_3 : VS L56_3.eq_1 := rfl
def L56_4 : List AStep := ⟨.mov (.t 7), (some 8), none, []⟩ :: ⟨.load 2 true (.t 2), (some 9), (some (8, false)), []⟩ :: L56_3
theorem v56_4 : VS L56_4.eq_1 := rfl
def L56_5 : List AStep := ⟨.mov (.t 1), (some 6), none, []⟩ :: ⟨.not (.t 6), (some 7), none, []⟩ :: L56_4
theorem v56_5 : VS L56_5.eq_1 := rfl
def L56_6 : List AStep := [⟨.mov (.c (.bool false)), (some 5), none, []⟩]
theorem v56_6 : VS L56_6.eq_1 := rfl
def L56_7 : List AStep := ⟨.build [(.sl none 0 (some 0)), (.sl none 0 (some 0))] [], (some 13), none, []⟩ :: ⟨.store 2 (.t 4) (.t 13), none, none, []⟩ :: L56_6
theorem v56_7 : VS L56_7.eq_1 := rfl
def L56_8 : List AStep := [⟨.store 2 (.t 4) (.t 15), none, none, []⟩, ⟨.mov (.c (.bool true)), (some 5), none, []⟩]
theorem v56_8 : VS L56_8.eq_1 := rfl
def L56_9 : List AStep := ⟨.load 2 true (.t 2), (some 14), none, []⟩ :: ⟨.call 61 [(.t 14)], (some 15), none, []⟩ :: L56_8
theorem v56_9 : VS L56_9.eq_1 := rfl
def C56_0 : ACode := .seq (.reg L56_7) .ret
theorem u56_0 : VC C56_0.eq_1 := rfl
def C56_1 : ACode := .cond (.t 12) C56_0 .skip
theorem u56_1 : VC C56_1.eq_1 := rfl
def C56_2 : ACode := .seq (.reg L56_5) C56_1
theorem u56_2 : VC C56_2.eq_1 := rfl
def C56_3 : ACode := .seq (.reg L56_9) .ret
theorem u56_3 : VC C56_3.eq_1 := rfl
def C56_4 : ACode := .seq C56_2 C56_3
theorem u56_4 : VC C56_4.eq_1 := rfl
def C56_5 : ACode := .seq (.reg L56_1) C56_4
theorem u56_5 : VC C56_5.eq_1 := rfl
def F56 : AFunc := ⟨16, [.cell 4 2 true, .tmp 5], C56_5⟩
theorem cF56 : compB Try.prog 56 = some F56 := by kernel_rfl
attribute [local go_sem ↓] u56_0 u56_1 u56_2 u56_3 u56_4 u56_5 v56_0 v56_1 v56_2 v56_3 v56_4 v56_5 v56_6 v56_7 v56_8 v56_9
theorem c_checked (f : Flat) (p n : CV) (b : Bool) (h : H) (hf : SlF h p n f) (hn : smF f) :
    callK (bm Try.prog 56 [.agg [p, n], .one (.bool b)] h) fun r h' => Grow h h' ∧ ∃ p' n', r = .tup [.agg [p', n'], .one (.bool (b && okFlat f))] ∧ NwF h h' p' n' (if (b && okFlat f) = true then f else ⟨[], []⟩) := by
  refine bm_of cF56 ?_
  simp +contextual (maxSteps := 2000000) only [go_sem, Nat.reduceEqDiff, reduceCtorEq, Nat.reduceAdd, Nat.reduceLeDiff, F56, c_ValidFlat _ _ _ _ hf.pl hf.nl hn]
  cases b with
  | false =>
    simp +contextual (maxSteps := 2000000) only [go_sem, Nat.reduceEqDiff, reduceCtorEq, Nat.reduceAdd, Nat.reduceLeDiff, Bool.false_and, if_false]
    exact ⟨Grow.refl h, _, _, rfl, .nil⟩
  | true =>
    cases hok : okFlat f with
    | false =>
      simp +contextual (maxSteps := 2000000) only [go_sem, Nat.reduceEqDiff, reduceCtorEq, Nat.reduceAdd, Nat.reduceLeDiff, hok, Bool.true_and, if_false]
      exact ⟨Grow.refl h, _, _, rfl, .nil⟩
    | true =>
      simp +contextual (maxSteps := 2000000) only [go_sem, Nat.reduceEqDiff, reduceCtorEq, Nat.reduceAdd, Nat.reduceLeDiff, hok, Bool.true_and, if_true]
      refine wp_call (c_copyOfF f p n h hf hn) ?_
      rintro r h1 ⟨g1, p', n', rfl, n1⟩
      simp +contextual (maxSteps := 2000000) only [go_sem, Nat.reduceEqDiff, reduceCtorEq, Nat.reduceAdd, Nat.reduceLeDiff]
      exact gcK_of ⟨g1, _, _, rfl, n1⟩ (fun hs _ => ⟨Grow.refl h, _, _, rfl, n1.scalar (by simpa [AV.scalar, AV.scalars, CV.scalar] using hs) h⟩)
end Go.Proofs.Ytekkimfdcbgcoab.Am
