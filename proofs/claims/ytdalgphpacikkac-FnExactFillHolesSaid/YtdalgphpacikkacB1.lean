/- Contracts of the program: copies, calls over each other. -/
import Derived.Test.YtdalgphpacikkacA3
namespace Go.Proofs.Ytdalgphpacikkac.Am
open Go
set_option maxRecDepth 100000
set_option maxHeartbeats 4000000
set_option linter.unusedSimpArgs false
set_option linter.unusedVariables false
attribute [local go_sem ↓] bv_t bv_c ev_t ev_c put_same put_ne put_none kill_at pro_at lb_same lb_ne start_zero start_succ wpC_seq wpC_reg wpC_cond wpC_block wpC_skip wpC_exit wpC_ret thenQ_normal thenQ_exit thenQ_ret inBlk_normal inBlk_exit inBlk_ret wpS_nil wpS_step wpS_again wpS_guard wpO_mov wpO_load wpO_faddr wpO_nilCheck wpO_pick wpO_build wpO_bin wpO_eqb wpO_eqst wpO_eqnil wpO_not wpO_conv wpO_bytesStr wpO_iaddr wpO_idxStr wpO_field wpO_extract wpO_len wpO_lenStr wpO_cap wpO_min wpO_slice wpO_sliceStr wpO_alloc wpO_box wpO_store wpO_call wpO_callv wpO_mkfn wpO_buildSlice wpO_mkslice wpO_append wpO_appz proA_nil proA_cons tmpX_nil tmpX_tmp tmpX_cell doneB_normal doneB_ret agK_cons agK_nil agK_guard agG_tt agG_ff agG_tf agG_ft agG_undef pureB_load results_one results_two results_nil resBs_cons resBs_nil resB_tmp resB_cell
attribute [local go_sem] kill_v kill_lp_ne kill_lp_same pro_v pro_lp_same pro_lp_ne av_v av_lp optB_some optX_some valX_eq ldX_lp ldX_v faX_lp faX_v ncX_lp ncX_ptr ncX_fn boxK_one boxK_agg stL_some stK_lp_one stK_lp_agg stK_v_one stK_v_agg proM_v proM_lp callG_mk callVG_mk callvK_fn fnG_mk ptrsA_nil ptrsA_cons callH_some whenA_true whenA_false guardH_tt guardH_ff guardH_tf guardH_ft guardH_undef agV_one agV_agg lenO_sl lenStrO_str notO_bool pickO_bool convO_int eqbO_bool eqnilO_sl extractO_tup capO_sl minO_int loadL_one loadL_all storeL_eq fillA_nil fillA_one fillA_agg nat_ge neg_ge nat_lt neg_lt buildO bin_add bin_sub bin_mul bin_eql bin_neq bin_lss bin_leq bin_gtr bin_geq str_eql str_neq str_lss str_leq str_gtr str_geq retK_some endK_mk gcK_same gcK_int gcK_bool tupO_one tupO_agg rdy_self ib ii Option.map_none Option.map_some Option.some.injEq exists_eq_left' exists_eq_left ne_eq not_false_eq_true if_true if_false List.map_cons List.map_nil List.getElem?_cons_zero List.getElem?_cons_succ List.length_cons List.length_nil List.take_succ_cons List.take_zero List.take_nil List.drop_succ_cons List.drop_zero List.drop_nil List.cons_append List.nil_append List.append_nil List.set_cons_zero List.set_cons_succ Nat.zero_add forall_const true_and and_true and_self Bool.false_eq_true false_implies true_implies implies_true Bool.not_true Bool.not_false Bool.not_eq_true' Bool.not_eq_false' beq_self_eq_true Bool.bne_true Bool.bne_false
attribute [local go_sem] lenI lenS lenP lenQ lenB lenL lenT encI_0 encS_0 encP_0 encP_1 encQ_0 encQ_1 encQ_2 encQ_3 encB_0 encB_1 encL_0 encL_1 encT_0 encT_1
attribute [local go_sem low] whenA_bool guardH_bool
/-! slices.Clip(()int,int) -/
def L141_0 : List AStep := [⟨.mov (.c (.sl none 0 (some 0))), (some 2), none, []⟩]
theorem v141_0 : VS L141_0.eq_1 := rfl
def L141_1 : List AStep := [⟨.mov (.t 8), (some 2), none, []⟩]
theorem v141_1 : VS L141_1.eq_1 := rfl
def L141_2 : List AStep := ⟨.len (.t 6), (some 7), none, []⟩ :: ⟨.slice 3 1 (.t 3) none (some (.t 5)) (some (.t 7)), (some 8), none, []⟩ :: L141_1
theorem v141_2 : VS L141_2.eq_1 := rfl
def L141_3 : List AStep := ⟨.len (.t 4), (some 5), none, []⟩ :: ⟨.mov (.t 0), (some 6), none, []⟩ :: L141_2
theorem v141_3 : VS L141_3.eq_1 := rfl
def L141_4 : List AStep := ⟨.mov (.t 0), (some 3), none, []⟩ :: ⟨.mov (.t 0), (some 4), none, []⟩ :: L141_3
theorem v141_4 : VS L141_4.eq_1 := rfl
def C141_0 : ACode := .seq (.reg L141_4) .ret
theorem u141_0 : VC C141_0.eq_1 := rfl
def C141_1 : ACode := .seq (.reg L141_0) C141_0
theorem u141_1 : VC C141_1.eq_1 := rfl
def F141 : AFunc := ⟨9, [.tmp 2], C141_1⟩
theorem cF141 : compB Try.prog 141 = some F141 := by kernel_rfl
attribute [local go_sem ↓] u141_0 u141_1 v141_0 v141_1 v141_2 v141_3 v141_4
theorem c_clipI {h0 : H} (l : List Int) (v : AV) (h : H) (hl : NwI h0 h v l) : callK (bm Try.prog 141 [v] h) fun r h' => h' = h ∧ NwI h0 h r l := by
  refine bm_of cF141 ?_
  obtain ⟨w, e1, n1⟩ := hl.clipO (kd := .i64) (kd' := .i64)
  simp +contextual (maxSteps := 2000000) only [go_sem, Nat.reduceEqDiff, reduceCtorEq, Nat.reduceAdd, Nat.reduceLeDiff, F141, hl.length, e1]
  exact n1
theorem c_clipbI {h0 : H} (l : List Int) (v : AV) (h : H) (hl : NwI h0 h v l) : callK (bm Try.prog 141 [v] h) fun r h' => h' = h ∧ NwI h0 h r l ∧ ∀ i, baseOf r = some i → baseOf v = some i := by
  refine bm_of cF141 ?_
  obtain ⟨w, e1, n1⟩ := hl.clipB (kd := .i64) (kd' := .i64)
  simp +contextual (maxSteps := 2000000) only [go_sem, Nat.reduceEqDiff, reduceCtorEq, Nat.reduceAdd, Nat.reduceLeDiff, F141, hl.length, e1]
  exact n1
/-! slices.Clone(()int,int) -/
def L142_0 : List AStep := [⟨.mov (.c (.sl none 0 (some 0))), (some 2), none, []⟩]
theorem v142_0 : VS L142_0.eq_1 := rfl
def L142_1 : List AStep := [⟨.mov (.t 0), (some 3), none, []⟩, ⟨.eqnil false (.t 3) (.c (.sl none 0 (some 0))), (some 4), none, []⟩]
theorem v142_1 : VS L142_1.eq_1 := rfl
def L142_2 : List AStep := [⟨.mov (.c (.sl none 0 (some 0))), (some 2), none, []⟩]
theorem v142_2 : VS L142_2.eq_1 := rfl
def L142_3 : List AStep := [⟨.append 3 1 8 (.t 5) (.t 6), (some 7), none, []⟩, ⟨.mov (.t 7), (some 2), none, []⟩]
theorem v142_3 : VS L142_3.eq_1 := rfl
def L142_4 : List AStep := ⟨.buildSlice 3 0 [(.int .i64 0)] [], (some 5), none, []⟩ :: ⟨.mov (.t 0), (some 6), none, []⟩ :: L142_3
theorem v142_4 : VS L142_4.eq_1 := rfl
def C142_0 : ACode := .seq (.reg L142_2) .ret
theorem u142_0 : VC C142_0.eq_1 := rfl
def C142_1 : ACode := .cond (.t 4) C142_0 .skip
theorem u142_1 : VC C142_1.eq_1 := rfl
def C142_2 : ACode := .seq (.reg L142_1) C142_1
theorem u142_2 : VC C142_2.eq_1 := rfl
def C142_3 : ACode := .seq (.reg L142_4) .ret
theorem u142_3 : VC C142_3.eq_1 := rfl
def C142_4 : ACode := .seq C142_2 C142_3
theorem u142_4 : VC C142_4.eq_1 := rfl
def C142_5 : ACode := .seq (.reg L142_0) C142_4
theorem u142_5 : VC C142_5.eq_1 := rfl
def F142 : AFunc := ⟨8, [.tmp 2], C142_5⟩
theorem cF142 : compB Try.prog 142 = some F142 := by kernel_rfl
attribute [local go_sem ↓] u142_0 u142_1 u142_2 u142_3 u142_4 u142_5 v142_0 v142_1 v142_2 v142_3 v142_4
theorem c_clone0I (l : List Int) (v : AV) (h : H) (hl : SlI h v l) (hn : l.length ≤ big) : callK (bm Try.prog 142 [v] h) fun r h' => Grow h h' ∧ NwI h h' r l := by
  refine bm_of cF142 ?_
  obtain ⟨b, e1, e2⟩ := hl.isNil
  simp +contextual (maxSteps := 2000000) only [go_sem, Nat.reduceEqDiff, reduceCtorEq, Nat.reduceAdd, Nat.reduceLeDiff, F142, e1]
  cases b with
  | true =>
    obtain rfl := e2 rfl
    simp +contextual (maxSteps := 2000000) only [go_sem, Nat.reduceEqDiff, reduceCtorEq, Nat.reduceAdd, Nat.reduceLeDiff]
    exact ⟨Grow.refl h, .nil⟩
  | false =>
    simp +contextual (maxSteps := 2000000) only [go_sem, Nat.reduceEqDiff, reduceCtorEq, Nat.reduceAdd, Nat.reduceLeDiff]
    refine wp_lit (enc := encI) (k := 1) (l := []) rfl rfl ?_
    intro h1 w g1 n1 _
    simp +contextual (maxSteps := 2000000) only [go_sem, Nat.reduceEqDiff, reduceCtorEq, Nat.reduceAdd, Nat.reduceLeDiff]
    refine wp_append lenI n1 (hl.grow g1) g1 (by have := hn; unfold big at this; simp; omega) ?_
    intro h2 s g2 n2 _ _
    simp +contextual (maxSteps := 2000000) only [go_sem, Nat.reduceEqDiff, reduceCtorEq, Nat.reduceAdd, Nat.reduceLeDiff]
    exact gcK_of ⟨g2, n2⟩ (fun hs _ => ⟨Grow.refl h, n2.scalar hs h⟩)
/-! impl.clone(int) -/
def L110_0 : List AStep := [⟨.mov (.c (.sl none 0 (some 0))), (some 2), none, []⟩]
theorem v110_0 : VS L110_0.eq_1 := rfl
def L110_1 : List AStep := [⟨.call 141 [(.t 4)], (some 5), none, []⟩, ⟨.mov (.t 5), (some 2), none, []⟩]
theorem v110_1 : VS L110_1.eq_1 := rfl
def L110_2 : List AStep := ⟨.mov (.t 0), (some 3), none, []⟩ :: ⟨.call 142 [(.t 3)], (some 4), none, []⟩ :: L110_1
theorem v110_2 : VS L110_2.eq_1 := rfl
def C110_0 : ACode := .seq (.reg L110_2) .ret
theorem u110_0 : VC C110_0.eq_1 := rfl
def C110_1 : ACode := .seq (.reg L110_0) C110_0
theorem u110_1 : VC C110_1.eq_1 := rfl
def F110 : AFunc := ⟨6, [.tmp 2], C110_1⟩
theorem cF110 : compB Try.prog 110 = some F110 := by kernel_rfl
attribute [local go_sem ↓] u110_0 u110_1 v110_0 v110_1 v110_2
theorem c_cloneI (l : List Int) (v : AV) (h : H) (hl : SlI h v l) (hn : l.length ≤ big) : callK (bm Try.prog 110 [v] h) fun r h' => Grow h h' ∧ NwI h h' r l := by
  refine bm_of cF110 ?_
  simp +contextual (maxSteps := 2000000) only [go_sem, Nat.reduceEqDiff, reduceCtorEq, Nat.reduceAdd, Nat.reduceLeDiff, F110]
  refine wp_call (c_clone0I l v h hl hn) ?_
  rintro r h1 ⟨g1, n1⟩
  simp +contextual (maxSteps := 2000000) only [go_sem, Nat.reduceEqDiff, reduceCtorEq, Nat.reduceAdd, Nat.reduceLeDiff]
  refine wp_call (c_clipI l r h1 n1) ?_
  rintro r2 h2 ⟨rfl, n2⟩
  simp +contextual (maxSteps := 2000000) only [go_sem, Nat.reduceEqDiff, reduceCtorEq, Nat.reduceAdd, Nat.reduceLeDiff]
  exact gcK_of ⟨g1, n2⟩ (fun hs _ => ⟨Grow.refl h, n2.scalar hs h⟩)
/-! slices.Clip(()impl.Pair,impl.Pair) -/
def L137_0 : List AStep := [⟨.mov (.c (.sl none 0 (some 0))), (some 2), none, []⟩]
theorem v137_0 : VS L137_0.eq_1 := rfl
def L137_1 : List AStep := [⟨.mov (.t 8), (some 2), none, []⟩]
theorem v137_1 : VS L137_1.eq_1 := rfl
def L137_2 : List AStep := ⟨.len (.t 6), (some 7), none, []⟩ :: ⟨.slice 106 2 (.t 3) none (some (.t 5)) (some (.t 7)), (some 8), none, []⟩ :: L137_1
theorem v137_2 : VS L137_2.eq_1 := rfl
def L137_3 : List AStep := ⟨.len (.t 4), (some 5), none, []⟩ :: ⟨.mov (.t 0), (some 6), none, []⟩ :: L137_2
theorem v137_3 : VS L137_3.eq_1 := rfl
def L137_4 : List AStep := ⟨.mov (.t 0), (some 3), none, []⟩ :: ⟨.mov (.t 0), (some 4), none, []⟩ :: L137_3
theorem v137_4 : VS L137_4.eq_1 := rfl
def C137_0 : ACode := .seq (.reg L137_4) .ret
theorem u137_0 : VC C137_0.eq_1 := rfl
def C137_1 : ACode := .seq (.reg L137_0) C137_0
theorem u137_1 : VC C137_1.eq_1 := rfl
def F137 : AFunc := ⟨9, [.tmp 2], C137_1⟩
theorem cF137 : compB Try.prog 137 = some F137 := by kernel_rfl
attribute [local go_sem ↓] u137_0 u137_1 v137_0 v137_1 v137_2 v137_3 v137_4
theorem c_clipP {h0 : H} (l : List Pair) (v : AV) (h : H) (hl : NwP h0 h v l) : callK (bm Try.prog 137 [v] h) fun r h' => h' = h ∧ NwP h0 h r l := by
  refine bm_of cF137 ?_
  obtain ⟨w, e1, n1⟩ := hl.clipO (kd := .i64) (kd' := .i64)
  simp +contextual (maxSteps := 2000000) only [go_sem, Nat.reduceEqDiff, reduceCtorEq, Nat.reduceAdd, Nat.reduceLeDiff, F137, hl.length, e1]
  exact n1
theorem c_clipbP {h0 : H} (l : List Pair) (v : AV) (h : H) (hl : NwP h0 h v l) : callK (bm Try.prog 137 [v] h) fun r h' => h' = h ∧ NwP h0 h r l ∧ ∀ i, baseOf r = some i → baseOf v = some i := by
  refine bm_of cF137 ?_
  obtain ⟨w, e1, n1⟩ := hl.clipB (kd := .i64) (kd' := .i64)
  simp +contextual (maxSteps := 2000000) only [go_sem, Nat.reduceEqDiff, reduceCtorEq, Nat.reduceAdd, Nat.reduceLeDiff, F137, hl.length, e1]
  exact n1
/-! slices.Clone(()impl.Pair,impl.Pair) -/
def L138_0 : List AStep := [⟨.mov (.c (.sl none 0 (some 0))), (some 2), none, []⟩]
theorem v138_0 : VS L138_0.eq_1 := rfl
def L138_1 : List AStep := [⟨.mov (.t 0), (some 3), none, []⟩, ⟨.eqnil false (.t 3) (.c (.sl none 0 (some 0))), (some 4), none, []⟩]
theorem v138_1 : VS L138_1.eq_1 := rfl
def L138_2 : List AStep := [⟨.mov (.c (.sl none 0 (some 0))), (some 2), none, []⟩]
theorem v138_2 : VS L138_2.eq_1 := rfl
def L138_3 : List AStep := [⟨.append 106 2 24 (.t 5) (.t 6), (some 7), none, []⟩, ⟨.mov (.t 7), (some 2), none, []⟩]
theorem v138_3 : VS L138_3.eq_1 := rfl
def L138_4 : List AStep := ⟨.buildSlice 106 0 [(.str (strOfNums [])), (.int .i64 0)] [], (some 5), none, []⟩ :: ⟨.mov (.t 0), (some 6), none, []⟩ :: L138_3
theorem v138_4 : VS L138_4.eq_1 := rfl
def C138_0 : ACode := .seq (.reg L138_2) .ret
theorem u138_0 : VC C138_0.eq_1 := rfl
def C138_1 : ACode := .cond (.t 4) C138_0 .skip
theorem u138_1 : VC C138_1.eq_1 := rfl
def C138_2 : ACode := .seq (.reg L138_1) C138_1
theorem u138_2 : VC C138_2.eq_1 := rfl
def C138_3 : ACode := .seq (.reg L138_4) .ret
theorem u138_3 : VC C138_3.eq_1 := rfl
def C138_4 : ACode := .seq C138_2 C138_3
theorem u138_4 : VC C138_4.eq_1 := rfl
def C138_5 : ACode := .seq (.reg L138_0) C138_4
theorem u138_5 : VC C138_5.eq_1 := rfl
def F138 : AFunc := ⟨8, [.tmp 2], C138_5⟩
theorem cF138 : compB Try.prog 138 = some F138 := by kernel_rfl
attribute [local go_sem ↓] u138_0 u138_1 u138_2 u138_3 u138_4 u138_5 v138_0 v138_1 v138_2 v138_3 v138_4
theorem c_clone0P (l : List Pair) (v : AV) (h : H) (hl : SlP h v l) (hn : l.length ≤ big) : callK (bm Try.prog 138 [v] h) fun r h' => Grow h h' ∧ NwP h h' r l := by
  refine bm_of cF138 ?_
  obtain ⟨b, e1, e2⟩ := hl.isNil
  simp +contextual (maxSteps := 2000000) only [go_sem, Nat.reduceEqDiff, reduceCtorEq, Nat.reduceAdd, Nat.reduceLeDiff, F138, e1]
  cases b with
  | true =>
    obtain rfl := e2 rfl
    simp +contextual (maxSteps := 2000000) only [go_sem, Nat.reduceEqDiff, reduceCtorEq, Nat.reduceAdd, Nat.reduceLeDiff]
    exact ⟨Grow.refl h, .nil⟩
  | false =>
    simp +contextual (maxSteps := 2000000) only [go_sem, Nat.reduceEqDiff, reduceCtorEq, Nat.reduceAdd, Nat.reduceLeDiff]
    refine wp_lit (enc := encP) (k := 2) (l := []) rfl rfl ?_
    intro h1 w g1 n1 _
    simp +contextual (maxSteps := 2000000) only [go_sem, Nat.reduceEqDiff, reduceCtorEq, Nat.reduceAdd, Nat.reduceLeDiff]
    refine wp_append lenP n1 (hl.grow g1) g1 (by have := hn; unfold big at this; simp; omega) ?_
    intro h2 s g2 n2 _ _
    simp +contextual (maxSteps := 2000000) only [go_sem, Nat.reduceEqDiff, reduceCtorEq, Nat.reduceAdd, Nat.reduceLeDiff]
    exact gcK_of ⟨g2, n2⟩ (fun hs _ => ⟨Grow.refl h, n2.scalar hs h⟩)
/-! impl.clone(impl.Pair) -/
def L102_0 : List AStep := [⟨.mov (.c (.sl none 0 (some 0))), (some 2), none, []⟩]
theorem v102_0 : VS L102_0.eq_1 := rfl
def L102_1 : List AStep := [⟨.call 137 [(.t 4)], (some 5), none, []⟩, ⟨.mov (.t 5), (some 2), none, []⟩]
theorem v102_1 : VS L102_1.eq_1 := rfl
def L102_2 : List AStep := ⟨.mov (.t 0), (some 3), none, []⟩ :: ⟨.call 138 [(.t 3)], (some 4), none, []⟩ :: L102_1
theorem v102_2 : VS L102_2.eq_1 := rfl
def C102_0 : ACode := .seq (.reg L102_2) .ret
theorem u102_0 : VC C102_0.eq_1 := rfl
def C102_1 : ACode := .seq (.reg L102_0) C102_0
theorem u102_1 : VC C102_1.eq_1 := rfl
def F102 : AFunc := ⟨6, [.tmp 2], C102_1⟩
theorem cF102 : compB Try.prog 102 = some F102 := by kernel_rfl
attribute [local go_sem ↓] u102_0 u102_1 v102_0 v102_1 v102_2
theorem c_cloneP (l : List Pair) (v : AV) (h : H) (hl : SlP h v l) (hn : l.length ≤ big) : callK (bm Try.prog 102 [v] h) fun r h' => Grow h h' ∧ NwP h h' r l := by
  refine bm_of cF102 ?_
  simp +contextual (maxSteps := 2000000) only [go_sem, Nat.reduceEqDiff, reduceCtorEq, Nat.reduceAdd, Nat.reduceLeDiff, F102]
  refine wp_call (c_clone0P l v h hl hn) ?_
  rintro r h1 ⟨g1, n1⟩
  simp +contextual (maxSteps := 2000000) only [go_sem, Nat.reduceEqDiff, reduceCtorEq, Nat.reduceAdd, Nat.reduceLeDiff]
  refine wp_call (c_clipP l r h1 n1) ?_
  rintro r2 h2 ⟨rfl, n2⟩
  simp +contextual (maxSteps := 2000000) only [go_sem, Nat.reduceEqDiff, reduceCtorEq, Nat.reduceAdd, Nat.reduceLeDiff]
  exact gcK_of ⟨g1, n2⟩ (fun hs _ => ⟨Grow.refl h, n2.scalar hs h⟩)
/-! slices.Clip(()impl.Place,impl.Place) -/
def L135_0 : List AStep := [⟨.mov (.c (.sl none 0 (some 0))), (some 2), none, []⟩]
theorem v135_0 : VS L135_0.eq_1 := rfl
def L135_1 : List AStep := [⟨.mov (.t 8), (some 2), none, []⟩]
theorem v135_1 : VS L135_1.eq_1 := rfl
def L135_2 : List AStep := ⟨.len (.t 6), (some 7), none, []⟩ :: ⟨.slice 86 2 (.t 3) none (some (.t 5)) (some (.t 7)), (some 8), none, []⟩ :: L135_1
theorem v135_2 : VS L135_2.eq_1 := rfl
def L135_3 : List AStep := ⟨.len (.t 4), (some 5), none, []⟩ :: ⟨.mov (.t 0), (some 6), none, []⟩ :: L135_2
theorem v135_3 : VS L135_3.eq_1 := rfl
def L135_4 : List AStep := ⟨.mov (.t 0), (some 3), none, []⟩ :: ⟨.mov (.t 0), (some 4), none, []⟩ :: L135_3
theorem v135_4 : VS L135_4.eq_1 := rfl
def C135_0 : ACode := .seq (.reg L135_4) .ret
theorem u135_0 : VC C135_0.eq_1 := rfl
def C135_1 : ACode := .seq (.reg L135_0) C135_0
theorem u135_1 : VC C135_1.eq_1 := rfl
def F135 : AFunc := ⟨9, [.tmp 2], C135_1⟩
theorem cF135 : compB Try.prog 135 = some F135 := by kernel_rfl
attribute [local go_sem ↓] u135_0 u135_1 v135_0 v135_1 v135_2 v135_3 v135_4
theorem c_clipL {h0 : H} (l : List Place) (v : AV) (h : H) (hl : NwL h0 h v l) : callK (bm Try.prog 135 [v] h) fun r h' => h' = h ∧ NwL h0 h r l := by
  refine bm_of cF135 ?_
  obtain ⟨w, e1, n1⟩ := hl.clipO (kd := .i64) (kd' := .i64)
  simp +contextual (maxSteps := 2000000) only [go_sem, Nat.reduceEqDiff, reduceCtorEq, Nat.reduceAdd, Nat.reduceLeDiff, F135, hl.length, e1]
  exact n1
theorem c_clipbL {h0 : H} (l : List Place) (v : AV) (h : H) (hl : NwL h0 h v l) : callK (bm Try.prog 135 [v] h) fun r h' => h' = h ∧ NwL h0 h r l ∧ ∀ i, baseOf r = some i → baseOf v = some i := by
  refine bm_of cF135 ?_
  obtain ⟨w, e1, n1⟩ := hl.clipB (kd := .i64) (kd' := .i64)
  simp +contextual (maxSteps := 2000000) only [go_sem, Nat.reduceEqDiff, reduceCtorEq, Nat.reduceAdd, Nat.reduceLeDiff, F135, hl.length, e1]
  exact n1
/-! slices.Clone(()impl.Place,impl.Place) -/
def L136_0 : List AStep := [⟨.mov (.c (.sl none 0 (some 0))), (some 2), none, []⟩]
theorem v136_0 : VS L136_0.eq_1 := rfl
def L136_1 : List AStep := [⟨.mov (.t 0), (some 3), none, []⟩, ⟨.eqnil false (.t 3) (.c (.sl none 0 (some 0))), (some 4), none, []⟩]
theorem v136_1 : VS L136_1.eq_1 := rfl
def L136_2 : List AStep := [⟨.mov (.c (.sl none 0 (some 0))), (some 2), none, []⟩]
theorem v136_2 : VS L136_2.eq_1 := rfl
def L136_3 : List AStep := [⟨.append 86 2 16 (.t 5) (.t 6), (some 7), none, []⟩, ⟨.mov (.t 7), (some 2), none, []⟩]
theorem v136_3 : VS L136_3.eq_1 := rfl
def L136_4 : List AStep := ⟨.buildSlice 86 0 [(.bool false), (.int .i64 0)] [], (some 5), none, []⟩ :: ⟨.mov (.t 0), (some 6), none, []⟩ :: L136_3
theorem v136_4 : VS L136_4.eq_1 := rfl
def C136_0 : ACode := .seq (.reg L136_2) .ret
theorem u136_0 : VC C136_0.eq_1 := rfl
def C136_1 : ACode := .cond (.t 4) C136_0 .skip
theorem u136_1 : VC C136_1.eq_1 := rfl
def C136_2 : ACode := .seq (.reg L136_1) C136_1
theorem u136_2 : VC C136_2.eq_1 := rfl
def C136_3 : ACode := .seq (.reg L136_4) .ret
theorem u136_3 : VC C136_3.eq_1 := rfl
def C136_4 : ACode := .seq C136_2 C136_3
theorem u136_4 : VC C136_4.eq_1 := rfl
def C136_5 : ACode := .seq (.reg L136_0) C136_4
theorem u136_5 : VC C136_5.eq_1 := rfl
def F136 : AFunc := ⟨8, [.tmp 2], C136_5⟩
theorem cF136 : compB Try.prog 136 = some F136 := by kernel_rfl
attribute [local go_sem ↓] u136_0 u136_1 u136_2 u136_3 u136_4 u136_5 v136_0 v136_1 v136_2 v136_3 v136_4
theorem c_clone0L (l : List Place) (v : AV) (h : H) (hl : SlL h v l) (hn : l.length ≤ big) : callK (bm Try.prog 136 [v] h) fun r h' => Grow h h' ∧ NwL h h' r l := by
  refine bm_of cF136 ?_
  obtain ⟨b, e1, e2⟩ := hl.isNil
  simp +contextual (maxSteps := 2000000) only [go_sem, Nat.reduceEqDiff, reduceCtorEq, Nat.reduceAdd, Nat.reduceLeDiff, F136, e1]
  cases b with
  | true =>
    obtain rfl := e2 rfl
    simp +contextual (maxSteps := 2000000) only [go_sem, Nat.reduceEqDiff, reduceCtorEq, Nat.reduceAdd, Nat.reduceLeDiff]
    exact ⟨Grow.refl h, .nil⟩
  | false =>
    simp +contextual (maxSteps := 2000000) only [go_sem, Nat.reduceEqDiff, reduceCtorEq, Nat.reduceAdd, Nat.reduceLeDiff]
    refine wp_lit (enc := encL) (k := 2) (l := []) rfl rfl ?_
    intro h1 w g1 n1 _
    simp +contextual (maxSteps := 2000000) only [go_sem, Nat.reduceEqDiff, reduceCtorEq, Nat.reduceAdd, Nat.reduceLeDiff]
    refine wp_append lenL n1 (hl.grow g1) g1 (by have := hn; unfold big at this; simp; omega) ?_
    intro h2 s g2 n2 _ _
    simp +contextual (maxSteps := 2000000) only [go_sem, Nat.reduceEqDiff, reduceCtorEq, Nat.reduceAdd, Nat.reduceLeDiff]
    exact gcK_of ⟨g2, n2⟩ (fun hs _ => ⟨Grow.refl h, n2.scalar hs h⟩)
/-! impl.clone(impl.Place) -/
def L100_0 : List AStep := [⟨.mov (.c (.sl none 0 (some 0))), (some 2), none, []⟩]
theorem v100_0 : VS L100_0.eq_1 := rfl
def L100_1 : List AStep := [⟨.call 135 [(.t 4)], (some 5), none, []⟩, ⟨.mov (.t 5), (some 2), none, []⟩]
theorem v100_1 : VS L100_1.eq_1 := rfl
def L100_2 : List AStep := ⟨.mov (.t 0), (some 3), none, []⟩ :: ⟨.call 136 [(.t 3)], (some 4), none, []⟩ :: L100_1
theorem v100_2 : VS L100_2.eq_1 := rfl
def C100_0 : ACode := .seq (.reg L100_2) .ret
theorem u100_0 : VC C100_0.eq_1 := rfl
def C100_1 : ACode := .seq (.reg L100_0) C100_0
theorem u100_1 : VC C100_1.eq_1 := rfl
def F100 : AFunc := ⟨6, [.tmp 2], C100_1⟩
theorem cF100 : compB Try.prog 100 = some F100 := by kernel_rfl
attribute [local go_sem ↓] u100_0 u100_1 v100_0 v100_1 v100_2
theorem c_cloneL (l : List Place) (v : AV) (h : H) (hl : SlL h v l) (hn : l.length ≤ big) : callK (bm Try.prog 100 [v] h) fun r h' => Grow h h' ∧ NwL h h' r l := by
  refine bm_of cF100 ?_
  simp +contextual (maxSteps := 2000000) only [go_sem, Nat.reduceEqDiff, reduceCtorEq, Nat.reduceAdd, Nat.reduceLeDiff, F100]
  refine wp_call (c_clone0L l v h hl hn) ?_
  rintro r h1 ⟨g1, n1⟩
  simp +contextual (maxSteps := 2000000) only [go_sem, Nat.reduceEqDiff, reduceCtorEq, Nat.reduceAdd, Nat.reduceLeDiff]
  refine wp_call (c_clipL l r h1 n1) ?_
  rintro r2 h2 ⟨rfl, n2⟩
  simp +contextual (maxSteps := 2000000) only [go_sem, Nat.reduceEqDiff, reduceCtorEq, Nat.reduceAdd, Nat.reduceLeDiff]
  exact gcK_of ⟨g1, n2⟩ (fun hs _ => ⟨Grow.refl h, n2.scalar hs h⟩)
/-! (impl.Flat).copyOf -/
def L64_0 : List AStep := [⟨.box 33 (.t 0), (some 1), none, []⟩, ⟨.alloc 33 [(.sl none 0 (some 0)), (.sl none 0 (some 0))], (some 2), none, []⟩]
theorem v64_0 : VS L64_0.eq_1 := rfl
def L64_1 : List AStep := [⟨.build [(.sl none 0 (some 0)), (.sl none 0 (some 0))] [(0, 1, (.t 5)), (1, 1, (.t 8))], (some 9), none, []⟩, ⟨.store 2 (.t 2) (.t 9), none, none, []⟩]
theorem v64_1 : VS L64_1.eq_1 := rfl
def L64_2 : List AStep := ⟨.call 110 [(.t 4)], (some 5), none, [(.load 1 false (.t 6), (some 7), none)]⟩ :: ⟨.call 102 [(.t 7)], (some 8), none, []⟩ :: L64_1
theorem v64_2 : VS L64_2.eq_1 := rfl
def L64_3 : List AStep := ⟨.faddr 1 (.t 1), (some 6), none, []⟩ :: ⟨.load 1 false (.t 6), (some 7), none, []⟩ :: L64_2
theorem v64_3 : VS L64_3.eq_1 := rfl
def L64_4 : List AStep := ⟨.faddr 0 (.t 1), (some 3), none, []⟩ :: ⟨.load 1 false (.t 3), (some 4), none, []⟩ :: L64_3
theorem v64_4 : VS L64_4.eq_1 := rfl
def C64_0 : ACode := .seq (.reg L64_4) .ret
theorem u64_0 : VC C64_0.eq_1 := rfl
def C64_1 : ACode := .seq (.reg L64_0) C64_0
theorem u64_1 : VC C64_1.eq_1 := rfl
def F64 : AFunc := ⟨10, [.cell 2 2 true], C64_1⟩
theorem cF64 : compB Try.prog 64 = some F64 := by kernel_rfl
attribute [local go_sem ↓] u64_0 u64_1 v64_0 v64_1 v64_2 v64_3 v64_4
theorem c_copyOfF (f : Flat) (p n : CV) (h : H) (hf : SlF h p n f) (hn : smF f) : callK (bm Try.prog 64 [.agg [p, n]] h) fun r h' => Grow h h' ∧ ∃ p' n', r = .agg [p', n'] ∧ NwF h h' p' n' f := by
  refine bm_of cF64 ?_
  simp +contextual (maxSteps := 2000000) only [go_sem, Nat.reduceEqDiff, reduceCtorEq, Nat.reduceAdd, Nat.reduceLeDiff, F64]
  refine wp_call (c_cloneI _ _ h hf.pl hn.pl) ?_
  rintro r h1 ⟨g1, n1⟩
  obtain ⟨p', rfl⟩ := n1.one
  simp +contextual (maxSteps := 2000000) only [go_sem, Nat.reduceEqDiff, reduceCtorEq, Nat.reduceAdd, Nat.reduceLeDiff]
  refine wp_call (c_cloneP _ _ h1 (hf.nl.grow g1) hn.nl.1) ?_
  rintro r h2 ⟨g2, n2⟩
  obtain ⟨n', rfl⟩ := n2.one
  simp +contextual (maxSteps := 2000000) only [go_sem, Nat.reduceEqDiff, reduceCtorEq, Nat.reduceAdd, Nat.reduceLeDiff]
  have n3 : NwF h h2 p' n' f := ⟨n1.grow g2, n2.from g1.n, n1.apart n2⟩
  exact gcK_of ⟨g1.trans g2, _, _, rfl, n3⟩ (fun hs _ => ⟨Grow.refl h, _, _, rfl, n3.scalar hs h⟩)
/-! (impl.Flat).put -/
def L101_0 : List AStep := [⟨.box 33 (.t 0), (some 3), none, []⟩, ⟨.alloc 33 [(.sl none 0 (some 0)), (.sl none 0 (some 0))], (some 6), none, []⟩]
theorem v101_0 : VS L101_0.eq_1 := rfl
def L101_1 : List AStep := [⟨.alloc 33 [(.sl none 0 (some 0)), (.sl none 0 (some 0))], (some 7), none, []⟩, ⟨.store 2 (.t 7) (.t 10), none, none, []⟩]
theorem v101_1 : VS L101_1.eq_1 := rfl
def L101_2 : List AStep := ⟨.load 2 true (.t 3), (some 9), none, []⟩ :: ⟨.call 64 [(.t 9)], (some 10), none, []⟩ :: L101_1
theorem v101_2 : VS L101_2.eq_1 := rfl
def L101_3 : List AStep := [⟨.mov (.t 14), (some 8), none, []⟩]
theorem v101_3 : VS L101_3.eq_1 := rfl
def L101_4 : List AStep := ⟨.mov (.t 1), (some 13), none, []⟩ :: ⟨.call 96 [(.t 12), (.t 13)], (some 14), none, []⟩ :: L101_3
theorem v101_4 : VS L101_4.eq_1 := rfl
def L101_5 : List AStep := ⟨.faddr 1 (.t 7), (some 11), none, []⟩ :: ⟨.load 1 false (.t 11), (some 12), none, []⟩ :: L101_4
theorem v101_5 : VS L101_5.eq_1 := rfl
def L101_6 : List AStep := [⟨.mov (.t 8), (some 15), none, []⟩, ⟨.bin .geq (.t 15) (.c (.int .i64 0)), (some 16), none, []⟩]
theorem v101_6 : VS L101_6.eq_1 := rfl
def L101_7 : List AStep := [⟨.store 1 (.t 22) (.t 20), none, none, []⟩]
theorem v101_7 : VS L101_7.eq_1 := rfl
def L101_8 : List AStep := ⟨.iaddr 2 (.t 18) (.t 19), (some 21), none, []⟩ :: ⟨.faddr 1 (.t 21), (some 22), none, []⟩ :: L101_7
theorem v101_8 : VS L101_8.eq_1 := rfl
def L101_9 : List AStep := ⟨.mov (.t 8), (some 19), none, []⟩ :: ⟨.mov (.t 2), (some 20), none, []⟩ :: L101_8
theorem v101_9 : VS L101_9.eq_1 := rfl
def L101_10 : List AStep := ⟨.faddr 1 (.t 7), (some 17), none, []⟩ :: ⟨.load 1 false (.t 17), (some 18), none, []⟩ :: L101_9
theorem v101_10 : VS L101_10.eq_1 := rfl
def L101_11 : List AStep := [⟨.store 1 (.t 30) (.t 29), none, none, []⟩]
theorem v101_11 : VS L101_11.eq_1 := rfl
def L101_12 : List AStep := ⟨.append 106 2 24 (.t 24) (.t 28), (some 29), none, []⟩ :: ⟨.faddr 1 (.t 7), (some 30), none, []⟩ :: L101_11
theorem v101_12 : VS L101_12.eq_1 := rfl
def L101_13 : List AStep := ⟨.build [(.str (strOfNums [])), (.int .i64 0)] [(0, 1, (.t 25)), (1, 1, (.t 26))], (some 27), none, []⟩ :: ⟨.buildSlice 106 1 [(.str (strOfNums [])), (.int .i64 0)] [(0, 2, (.t 27))], (some 28), none, []⟩ :: L101_12
theorem v101_13 : VS L101_13.eq_1 := rfl
def L101_14 : List AStep := ⟨.mov (.t 1), (some 25), none, []⟩ :: ⟨.mov (.t 2), (some 26), none, []⟩ :: L101_13
theorem v101_14 : VS L101_14.eq_1 := rfl
def L101_15 : List AStep := ⟨.faddr 1 (.t 7), (some 23), none, []⟩ :: ⟨.load 1 false (.t 23), (some 24), none, []⟩ :: L101_14
theorem v101_15 : VS L101_15.eq_1 := rfl
def L101_16 : List AStep := [⟨.load 2 true (.t 7), (some 31), none, []⟩, ⟨.store 2 (.t 6) (.t 31), none, none, []⟩]
theorem v101_16 : VS L101_16.eq_1 := rfl
def C101_0 : ACode := .cond (.t 16) (.reg L101_10) (.reg L101_15)
theorem u101_0 : VC C101_0.eq_1 := rfl
def C101_1 : ACode := .seq (.reg L101_6) C101_0
theorem u101_1 : VC C101_1.eq_1 := rfl
def C101_2 : ACode := .seq (.reg L101_5) C101_1
theorem u101_2 : VC C101_2.eq_1 := rfl
def C101_3 : ACode := .seq (.reg L101_16) .ret
theorem u101_3 : VC C101_3.eq_1 := rfl
def C101_4 : ACode := .seq C101_2 C101_3
theorem u101_4 : VC C101_4.eq_1 := rfl
def C101_5 : ACode := .seq (.reg L101_2) C101_4
theorem u101_5 : VC C101_5.eq_1 := rfl
def C101_6 : ACode := .seq (.reg L101_0) C101_5
theorem u101_6 : VC C101_6.eq_1 := rfl
def F101 : AFunc := ⟨32, [.cell 6 2 true], C101_6⟩
theorem cF101 : compB Try.prog 101 = some F101 := by kernel_rfl
attribute [local go_sem ↓] u101_0 u101_1 u101_2 u101_3 u101_4 u101_5 u101_6 v101_0 v101_1 v101_2 v101_3 v101_4 v101_5 v101_6 v101_7 v101_8 v101_9 v101_10 v101_11 v101_12 v101_13 v101_14 v101_15 v101_16
theorem c_put (f : Flat) (p n : CV) (s : ByteArray) (k : Int) (h : H) (hf : SlF h p n f) (hn : smF f) :
    callK (bm Try.prog 101 [.agg [p, n], .one (.str s), .one (.int .i64 k)] h) fun r h' => Grow h h' ∧ ∃ p' n', r = .agg [p', n'] ∧ NwF h h' p' n' ⟨f.pl, putP f.nl ⟨s, k⟩⟩ := by
  refine bm_of cF101 ?_
  simp +contextual (maxSteps := 2000000) only [go_sem, Nat.reduceEqDiff, reduceCtorEq, Nat.reduceAdd, Nat.reduceLeDiff, F101]
  refine wp_call (c_copyOfF f p n h hf hn) ?_
  rintro r h1 ⟨g1, p', n', rfl, n1⟩
  rcases idx_cases (fun q : Pair => decide (q.name = s)) f.nl with e | ⟨j, hj, e, hs⟩ <;> (replace e := (show pairAt f.nl s = _ from e))
  · simp +contextual (maxSteps := 2000000) only [go_sem, Nat.reduceEqDiff, reduceCtorEq, Nat.reduceAdd, Nat.reduceLeDiff, c_pairAtI _ _ _ _ n1.sl.nl hn.nl, e]
    refine wp_lit (enc := encP) (k := 2) (l := [⟨s, k⟩]) rfl rfl ?_
    intro h2 w g2 n2 _
    simp +contextual (maxSteps := 2000000) only [go_sem, Nat.reduceEqDiff, reduceCtorEq, Nat.reduceAdd, Nat.reduceLeDiff]
    have n3 := n1.grow g2
    refine wp_append lenP n3.nl (n2.sl lenP) (g1.trans g2) (by have := hn.nl.1; unfold big at this; simp; omega) ?_
    intro h3 s' g3 n4 st hb
    obtain ⟨c, rfl⟩ := n4.one
    simp +contextual (maxSteps := 2000000) only [go_sem, Nat.reduceEqDiff, reduceCtorEq, Nat.reduceAdd, Nat.reduceLeDiff]
    have n5 : NwF h h3 p' c ⟨f.pl, putP f.nl ⟨s, k⟩⟩ := by
      rw [putP_none e]
      refine ⟨n3.pl.stay st n3.sep, n4, fun i hi hj => ?_⟩
      rcases hb i hj with hb | hb
      · exact n3.sep i hi hb
      · have := (n3.pl.lt hi).1; omega
    exact gcK_of ⟨g3, _, _, rfl, n5⟩ (fun hs _ => ⟨Grow.refl h, _, _, rfl, n5.scalar hs h⟩)
  · simp +contextual (maxSteps := 2000000) only [go_sem, Nat.reduceEqDiff, reduceCtorEq, Nat.reduceAdd, Nat.reduceLeDiff, c_pairAtI _ _ _ _ n1.sl.nl hn.nl, e, n1.nl.iaddr hj]
    have hs : f.nl[j].name = s := of_decide_eq_true hs
    refine wp_set (x := (⟨s, k⟩ : Pair)) (off := 1) (vs := [.int .i64 k]) lenP n1.nl hj rfl (by simp [encP, hs]) (Nat.le_of_ble_eq_true rfl) g1 ?_
    intro h2 g2 n2 st
    simp +contextual (maxSteps := 2000000) only [go_sem, Nat.reduceEqDiff, reduceCtorEq, Nat.reduceAdd, Nat.reduceLeDiff]
    have n5 : NwF h h2 p' n' ⟨f.pl, putP f.nl ⟨s, k⟩⟩ := by
      rw [putP_some e]
      exact ⟨n1.pl.stay st n1.sep, n2, n1.sep⟩
    exact gcK_of ⟨g2, _, _, rfl, n5⟩ (fun hs _ => ⟨Grow.refl h, _, _, rfl, n5.scalar hs h⟩)
/-! impl.checked -/
def L50_0 : List AStep := [⟨.mov (.c (.bool false)), (some 5), none, []⟩]
theorem v50_0 : VS L50_0.eq_1 := rfl
def L50_1 : List AStep := ⟨.box 33 (.t 0), (some 2), none, []⟩ :: ⟨.alloc 33 [(.sl none 0 (some 0)), (.sl none 0 (some 0))], (some 4), none, []⟩ :: L50_0
theorem v50_1 : VS L50_1.eq_1 := rfl
def L50_2 : List AStep := [⟨.pick (.t 8) (.c (.bool true)) (.t 11), (some 12), none, []⟩]
theorem v50_2 : VS L50_2.eq_1 := rfl
def L50_3 : List AStep := ⟨.call 48 [(.t 9)], (some 10), (some (8, false)), []⟩ :: ⟨.not (.t 10), (some 11), (some (8, false)), []⟩ :: L50_2
theorem v50_3 : VS L50_3.eq_1 := rfl
def L50_4 : List AStep := ⟨.mov (.t 7), (some 8), none, []⟩ :: ⟨.load 2 true (.t 2), (some 9), (some (8, false)), []⟩ :: L50_3
theorem v50_4 : VS L50_4.eq_1 := rfl
def L50_5 : List AStep := ⟨.mov (.t 1), (some 6), none, []⟩ :: ⟨.not (.t 6), (some 7), none, []⟩ :: L50_4
theorem v50_5 : VS L50_5.eq_1 := rfl
def L50_6 : List AStep := [⟨.mov (.c (.bool false)), (some 5), none, []⟩]
theorem v50_6 : VS L50_6.eq_1 := rfl
def L50_7 : List AStep := ⟨.build [(.sl none 0 (some 0)), (.sl none 0 (some 0))] [], (some 13), none, []⟩ :: ⟨.store 2 (.t 4) (.t 13), none, none, []⟩ :: L50_6
theorem v50_7 : VS L50_7.eq_1 := rfl
def L50_8 : List AStep := [⟨.store 2 (.t 4) (.t 15), none, none, []⟩, ⟨.mov (.c (.bool true)), (some 5), none, []⟩]
theorem v50_8 : VS L50_8.eq_1 := rfl
def L50_9 : List AStep := ⟨.load 2 true (.t 2), (some 14), none, []⟩ :: ⟨.call 64 [(.t 14)], (some 15), none, []⟩ :: L50_8
theorem v50_9 : VS L50_9.eq_1 := rfl
def C50_0 : ACode := .seq (.reg L50_7) .ret
theorem u50_0 : VC C50_0.eq_1 := rfl
def C50_1 : ACode := .cond (.t 12) C50_0 .skip
theorem u50_1 : VC C50_1.eq_1 := rfl
def C50_2 : ACode := .seq (.reg L50_5) C50_1
theorem u50_2 : VC C50_2.eq_1 := rfl
def C50_3 : ACode := .seq (.reg L50_9) .ret
theorem u50_3 : VC C50_3.eq_1 := rfl
def C50_4 : ACode := .seq C50_2 C50_3
theorem u50_4 : VC C50_4.eq_1 := rfl
def C50_5 : ACode := .seq (.reg L50_1) C50_4
theorem u50_5 : VC C50_5.eq_1 := rfl
def F50 : AFunc := ⟨16, [.cell 4 2 true, .tmp 5], C50_5⟩
theorem cF50 : compB Try.prog 50 = some F50 := by kernel_rfl
attribute [local go_sem ↓] u50_0 u50_1 u50_2 u50_3 u50_4 u50_5 v50_0 v50_1 v50_2 v50_3 v50_4 v50_5 v50_6 v50_7 v50_8 v50_9
theorem c_checked (f : Flat) (p n : CV) (b : Bool) (h : H) (hf : SlF h p n f) (hn : smF f) :
    callK (bm Try.prog 50 [.agg [p, n], .one (.bool b)] h) fun r h' => Grow h h' ∧ ∃ p' n', r = .tup [.agg [p', n'], .one (.bool (b && okFlat f))] ∧ NwF h h' p' n' (if (b && okFlat f) = true then f else ⟨[], []⟩) := by
  refine bm_of cF50 ?_
  simp +contextual (maxSteps := 2000000) only [go_sem, Nat.reduceEqDiff, reduceCtorEq, Nat.reduceAdd, Nat.reduceLeDiff, F50, c_ValidFlat _ _ _ _ hf.pl hf.nl hn]
  cases b with
  | false =>
    simp +contextual (maxSteps := 2000000) only [go_sem, Nat.reduceEqDiff, reduceCtorEq, Nat.reduceAdd, Nat.reduceLeDiff, Bool.false_and, if_false]
    exact ⟨Grow.refl h, _, _, rfl, .nil⟩
  | true =>
    cases hok : okFlat f with
    | false =>
      simp +contextual (maxSteps := 2000000) only [go_sem, Nat.reduceEqDiff, reduceCtorEq, Nat.reduceAdd, Nat.reduceLeDiff, hok, Bool.true_and, if_false]
      exact ⟨Grow.refl h, _, _, rfl, .nil⟩
    | true =>
      simp +contextual (maxSteps := 2000000) only [go_sem, Nat.reduceEqDiff, reduceCtorEq, Nat.reduceAdd, Nat.reduceLeDiff, hok, Bool.true_and, if_true]
      refine wp_call (c_copyOfF f p n h hf hn) ?_
      rintro r h1 ⟨g1, p', n', rfl, n1⟩
      simp +contextual (maxSteps := 2000000) only [go_sem, Nat.reduceEqDiff, reduceCtorEq, Nat.reduceAdd, Nat.reduceLeDiff]
      exact gcK_of ⟨g1, _, _, rfl, n1⟩ (fun hs _ => ⟨Grow.refl h, _, _, rfl, n1.scalar (by simpa [AV.scalar, AV.scalars, CV.scalar] using hs) h⟩)
end Go.Proofs.Ytdalgphpacikkac.Am
