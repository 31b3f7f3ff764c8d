/- Contracts of the program: copies, calls over each other. -/
import Derived.Test.YtdalgphpacikkaaGreatA3
namespace Go.Proofs.YtdalgphpacikkaaGreat.Am
open Go
set_option maxRecDepth 100000
set_option maxHeartbeats 4000000
set_option linter.unusedSimpArgs false
set_option linter.unusedVariables false
attribute [local go_sem ↓] bv_t bv_c ev_t ev_c put_same put_ne put_none kill_at pro_at lb_same lb_ne start_zero start_succ wpC_seq wpC_reg wpC_cond wpC_block wpC_skip wpC_exit wpC_ret thenQ_normal thenQ_exit thenQ_ret inBlk_normal inBlk_exit inBlk_ret wpS_nil wpS_step wpS_again wpS_guard wpO_mov wpO_load wpO_faddr wpO_nilCheck wpO_pick wpO_build wpO_bin wpO_eqb wpO_eqst wpO_eqnil wpO_not wpO_conv wpO_bytesStr wpO_iaddr wpO_idxStr wpO_field wpO_extract wpO_len wpO_lenStr wpO_cap wpO_min wpO_slice wpO_sliceStr wpO_alloc wpO_box wpO_store wpO_call wpO_callv wpO_mkfn wpO_buildSlice wpO_mkslice wpO_append wpO_appz proA_nil proA_cons tmpX_nil tmpX_tmp tmpX_cell doneB_normal doneB_ret agK_cons agK_nil agK_guard agG_tt agG_ff agG_tf agG_ft agG_undef pureB_load results_one results_two results_nil resBs_cons resBs_nil resB_tmp resB_cell
attribute [local go_sem] kill_v kill_lp_ne kill_lp_same pro_v pro_lp_same pro_lp_ne av_v av_lp optB_some optX_some valX_eq ldX_lp ldX_v faX_lp faX_v ncX_lp ncX_ptr ncX_fn boxK_one boxK_agg stL_some stK_lp_one stK_lp_agg stK_v_one stK_v_agg proM_v proM_lp callG_mk callVG_mk callvK_fn fnG_mk ptrsA_nil ptrsA_cons callH_some whenA_true whenA_false guardH_tt guardH_ff guardH_tf guardH_ft guardH_undef agV_one agV_agg lenO_sl lenStrO_str notO_bool pickO_bool convO_int eqbO_bool eqnilO_sl extractO_tup capO_sl minO_int loadL_one loadL_all storeL_eq fillA_nil fillA_one fillA_agg nat_ge neg_ge nat_lt neg_lt buildO bin_add bin_sub bin_mul bin_eql bin_neq bin_lss bin_leq bin_gtr bin_geq str_eql str_neq str_lss str_leq str_gtr str_geq retK_some endK_mk gcK_same gcK_int gcK_bool tupO_one tupO_agg rdy_self ib ii Option.map_none Option.map_some Option.some.injEq exists_eq_left' exists_eq_left ne_eq not_false_eq_true if_true if_false List.map_cons List.map_nil List.getElem?_cons_zero List.getElem?_cons_succ List.length_cons List.length_nil List.take_succ_cons List.take_zero List.take_nil List.drop_succ_cons List.drop_zero List.drop_nil List.cons_append List.nil_append List.append_nil List.set_cons_zero List.set_cons_succ Nat.zero_add forall_const true_and and_true and_self Bool.false_eq_true false_implies true_implies implies_true Bool.not_true Bool.not_false Bool.not_eq_true' Bool.not_eq_false' beq_self_eq_true Bool.bne_true Bool.bne_false
attribute [local go_sem] lenI lenS lenP lenQ lenB lenL lenT encI_0 encS_0 encP_0 encP_1 encQ_0 encQ_1 encQ_2 encQ_3 encB_0 encB_1 encL_0 encL_1 encT_0 encT_1
attribute [local go_sem low] whenA_bool guardH_bool
/-! slices.Clip(()int,int) -/
def L65_0 : List AStep := [⟨.mov (.c (.sl none 0 (some 0))), (some 2), none, []⟩]
theorem v65_0 : VS L65_0.eq_1 := rfl
def L65_1 : List AStep := [⟨.mov (.t 8), (some 2), none, []⟩]
theorem v65_1 : VS L65_1.eq_1 := rfl
def L65_2 : List AStep := ⟨.len (.t 6), (some 7), none, []⟩ :: ⟨.slice 3 1 (.t 3) none (some (.t 5)) (some (.t 7)), (some 8), none, []⟩ :: L65_1
theorem v65_2 : VS L65_2.eq_1 := rfl
def L65_3 : List AStep := ⟨.len (.t 4), (some 5), none, []⟩ :: ⟨.mov (.t 0), (some 6), none, []⟩ :: L65_2
theorem v65_3 : VS L65_3.eq_1 := rfl
def L65_4 : List AStep := ⟨.mov (.t 0), (some 3), none, []⟩ :: ⟨.mov (.t 0), (some 4), none, []⟩ :: L65_3
theorem v65_4 : VS L65_4.eq_1 := rfl
def C65_0 : ACode := .seq (.reg L65_4) .ret
theorem u65_0 : VC C65_0.eq_1 := rfl
def C65_1 : ACode := .seq (.reg L65_0) C65_0
theorem u65_1 : VC C65_1.eq_1 := rfl
def F65 : AFunc := ⟨9, [.tmp 2], C65_1⟩
theorem cF65 : compB Tryz.prog 65 = some F65 := by kernel_rfl
attribute [local go_sem ↓] u65_0 u65_1 v65_0 v65_1 v65_2 v65_3 v65_4
theorem c_clipI {h0 : H} (l : List Int) (v : AV) (h : H) (hl : NwI h0 h v l) : callK (bm Tryz.prog 65 [v] h) fun r h' => h' = h ∧ NwI h0 h r l := by
  refine bm_of cF65 ?_
  obtain ⟨w, e1, n1⟩ := hl.clipO (kd := .i64) (kd' := .i64)
  simp +contextual (maxSteps := 2000000) only [go_sem, Nat.reduceEqDiff, reduceCtorEq, Nat.reduceAdd, Nat.reduceLeDiff, F65, hl.length, e1]
  exact n1
theorem c_clipbI {h0 : H} (l : List Int) (v : AV) (h : H) (hl : NwI h0 h v l) : callK (bm Tryz.prog 65 [v] h) fun r h' => h' = h ∧ NwI h0 h r l ∧ ∀ i, baseOf r = some i → baseOf v = some i := by
  refine bm_of cF65 ?_
  obtain ⟨w, e1, n1⟩ := hl.clipB (kd := .i64) (kd' := .i64)
  simp +contextual (maxSteps := 2000000) only [go_sem, Nat.reduceEqDiff, reduceCtorEq, Nat.reduceAdd, Nat.reduceLeDiff, F65, hl.length, e1]
  exact n1
/-! slices.Clone(()int,int) -/
def L66_0 : List AStep := [⟨.mov (.c (.sl none 0 (some 0))), (some 2), none, []⟩]
theorem v66_0 : VS L66_0.eq_1 := rfl
def L66_1 : List AStep := [⟨.mov (.t 0), (some 3), none, []⟩, ⟨.eqnil false (.t 3) (.c (.sl none 0 (some 0))), (some 4), none, []⟩]
theorem v66_1 : VS L66_1.eq_1 := rfl
def L66_2 : List AStep := [⟨.mov (.c (.sl none 0 (some 0))), (some 2), none, []⟩]
theorem v66_2 : VS L66_2.eq_1 := rfl
def L66_3 : List AStep := [⟨.append 3 1 8 (.t 5) (.t 6), (some 7), none, []⟩, ⟨.mov (.t 7), (some 2), none, []⟩]
theorem v66_3 : VS L66_3.eq_1 := rfl
def L66_4 : List AStep := ⟨.buildSlice 3 0 [(.int .i64 0)] [], (some 5), none, []⟩ :: ⟨.mov (.t 0), (some 6), none, []⟩ :: L66_3
theorem v66_4 : VS L66_4.eq_1 := rfl
def C66_0 : ACode := .seq (.reg L66_2) .ret
theorem u66_0 : VC C66_0.eq_1 := rfl
def C66_1 : ACode := .cond (.t 4) C66_0 .skip
theorem u66_1 : VC C66_1.eq_1 := rfl
def C66_2 : ACode := .seq (.reg L66_1) C66_1
theorem u66_2 : VC C66_2.eq_1 := rfl
def C66_3 : ACode := .seq (.reg L66_4) .ret
theorem u66_3 : VC C66_3.eq_1 := rfl
def C66_4 : ACode := .seq C66_2 C66_3
theorem u66_4 : VC C66_4.eq_1 := rfl
def C66_5 : ACode := .seq (.reg L66_0) C66_4
theorem u66_5 : VC C66_5.eq_1 := rfl
def F66 : AFunc := ⟨8, [.tmp 2], C66_5⟩
theorem cF66 : compB Tryz.prog 66 = some F66 := by kernel_rfl
attribute [local go_sem ↓] u66_0 u66_1 u66_2 u66_3 u66_4 u66_5 v66_0 v66_1 v66_2 v66_3 v66_4
theorem c_clone0I (l : List Int) (v : AV) (h : H) (hl : SlI h v l) (hn : l.length ≤ big) : callK (bm Tryz.prog 66 [v] h) fun r h' => Grow h h' ∧ NwI h h' r l := by
  refine bm_of cF66 ?_
  obtain ⟨b, e1, e2⟩ := hl.isNil
  simp +contextual (maxSteps := 2000000) only [go_sem, Nat.reduceEqDiff, reduceCtorEq, Nat.reduceAdd, Nat.reduceLeDiff, F66, e1]
  cases b with
  | true =>
    obtain rfl := e2 rfl
    simp +contextual (maxSteps := 2000000) only [go_sem, Nat.reduceEqDiff, reduceCtorEq, Nat.reduceAdd, Nat.reduceLeDiff]
    exact ⟨Grow.refl h, .nil⟩
  | false =>
    simp +contextual (maxSteps := 2000000) only [go_sem, Nat.reduceEqDiff, reduceCtorEq, Nat.reduceAdd, Nat.reduceLeDiff]
    refine wp_lit (enc := encI) (k := 1) (l := []) rfl rfl ?_
    intro h1 w g1 n1 _
    simp +contextual (maxSteps := 2000000) only [go_sem, Nat.reduceEqDiff, reduceCtorEq, Nat.reduceAdd, Nat.reduceLeDiff]
    refine wp_append lenI n1 (hl.grow g1) g1 (by have := hn; unfold big at this; simp; omega) ?_
    intro h2 s g2 n2 _ _
    simp +contextual (maxSteps := 2000000) only [go_sem, Nat.reduceEqDiff, reduceCtorEq, Nat.reduceAdd, Nat.reduceLeDiff]
    exact gcK_of ⟨g2, n2⟩ (fun hs _ => ⟨Grow.refl h, n2.scalar hs h⟩)
/-! impl.clone(int) -/
def L45_0 : List AStep := [⟨.mov (.c (.sl none 0 (some 0))), (some 2), none, []⟩]
theorem v45_0 : VS L45_0.eq_1 := rfl
def L45_1 : List AStep := [⟨.call 65 [(.t 4)], (some 5), none, []⟩, ⟨.mov (.t 5), (some 2), none, []⟩]
theorem v45_1 : VS L45_1.eq_1 := rfl
def L45_2 : List AStep := ⟨.mov (.t 0), (some 3), none, []⟩ :: ⟨.call 66 [(.t 3)], (some 4), none, []⟩ :: L45_1
theorem v45_2 : VS L45_2.eq_1 := rfl
def C45_0 : ACode := .seq (.reg L45_2) .ret
theorem u45_0 : VC C45_0.eq_1 := rfl
def C45_1 : ACode := .seq (.reg L45_0) C45_0
theorem u45_1 : VC C45_1.eq_1 := rfl
def F45 : AFunc := ⟨6, [.tmp 2], C45_1⟩
theorem cF45 : compB Tryz.prog 45 = some F45 := by kernel_rfl
attribute [local go_sem ↓] u45_0 u45_1 v45_0 v45_1 v45_2
theorem c_cloneI (l : List Int) (v : AV) (h : H) (hl : SlI h v l) (hn : l.length ≤ big) : callK (bm Tryz.prog 45 [v] h) fun r h' => Grow h h' ∧ NwI h h' r l := by
  refine bm_of cF45 ?_
  simp +contextual (maxSteps := 2000000) only [go_sem, Nat.reduceEqDiff, reduceCtorEq, Nat.reduceAdd, Nat.reduceLeDiff, F45]
  refine wp_call (c_clone0I l v h hl hn) ?_
  rintro r h1 ⟨g1, n1⟩
  simp +contextual (maxSteps := 2000000) only [go_sem, Nat.reduceEqDiff, reduceCtorEq, Nat.reduceAdd, Nat.reduceLeDiff]
  refine wp_call (c_clipI l r h1 n1) ?_
  rintro r2 h2 ⟨rfl, n2⟩
  simp +contextual (maxSteps := 2000000) only [go_sem, Nat.reduceEqDiff, reduceCtorEq, Nat.reduceAdd, Nat.reduceLeDiff]
  exact gcK_of ⟨g1, n2⟩ (fun hs _ => ⟨Grow.refl h, n2.scalar hs h⟩)
/-! slices.Clip(()impl.Pair,impl.Pair) -/
def L67_0 : List AStep := [⟨.mov (.c (.sl none 0 (some 0))), (some 2), none, []⟩]
theorem v67_0 : VS L67_0.eq_1 := rfl
def L67_1 : List AStep := [⟨.mov (.t 8), (some 2), none, []⟩]
theorem v67_1 : VS L67_1.eq_1 := rfl
def L67_2 : List AStep := ⟨.len (.t 6), (some 7), none, []⟩ :: ⟨.slice 81 2 (.t 3) none (some (.t 5)) (some (.t 7)), (some 8), none, []⟩ :: L67_1
theorem v67_2 : VS L67_2.eq_1 := rfl
def L67_3 : List AStep := ⟨.len (.t 4), (some 5), none, []⟩ :: ⟨.mov (.t 0), (some 6), none, []⟩ :: L67_2
theorem v67_3 : VS L67_3.eq_1 := rfl
def L67_4 : List AStep := ⟨.mov (.t 0), (some 3), none, []⟩ :: ⟨.mov (.t 0), (some 4), none, []⟩ :: L67_3
theorem v67_4 : VS L67_4.eq_1 := rfl
def C67_0 : ACode := .seq (.reg L67_4) .ret
theorem u67_0 : VC C67_0.eq_1 := rfl
def C67_1 : ACode := .seq (.reg L67_0) C67_0
theorem u67_1 : VC C67_1.eq_1 := rfl
def F67 : AFunc := ⟨9, [.tmp 2], C67_1⟩
theorem cF67 : compB Tryz.prog 67 = some F67 := by kernel_rfl
attribute [local go_sem ↓] u67_0 u67_1 v67_0 v67_1 v67_2 v67_3 v67_4
theorem c_clipP {h0 : H} (l : List Pair) (v : AV) (h : H) (hl : NwP h0 h v l) : callK (bm Tryz.prog 67 [v] h) fun r h' => h' = h ∧ NwP h0 h r l := by
  refine bm_of cF67 ?_
  obtain ⟨w, e1, n1⟩ := hl.clipO (kd := .i64) (kd' := .i64)
  simp +contextual (maxSteps := 2000000) only [go_sem, Nat.reduceEqDiff, reduceCtorEq, Nat.reduceAdd, Nat.reduceLeDiff, F67, hl.length, e1]
  exact n1
theorem c_clipbP {h0 : H} (l : List Pair) (v : AV) (h : H) (hl : NwP h0 h v l) : callK (bm Tryz.prog 67 [v] h) fun r h' => h' = h ∧ NwP h0 h r l ∧ ∀ i, baseOf r = some i → baseOf v = some i := by
  refine bm_of cF67 ?_
  obtain ⟨w, e1, n1⟩ := hl.clipB (kd := .i64) (kd' := .i64)
  simp +contextual (maxSteps := 2000000) only [go_sem, Nat.reduceEqDiff, reduceCtorEq, Nat.reduceAdd, Nat.reduceLeDiff, F67, hl.length, e1]
  exact n1
/-! slices.Clone(()impl.Pair,impl.Pair) -/
def L68_0 : List AStep := [⟨.mov (.c (.sl none 0 (some 0))), (some 2), none, []⟩]
theorem v68_0 : VS L68_0.eq_1 := rfl
def L68_1 : List AStep := [⟨.mov (.t 0), (some 3), none, []⟩, ⟨.eqnil false (.t 3) (.c (.sl none 0 (some 0))), (some 4), none, []⟩]
theorem v68_1 : VS L68_1.eq_1 := rfl
def L68_2 : List AStep := [⟨.mov (.c (.sl none 0 (some 0))), (some 2), none, []⟩]
theorem v68_2 : VS L68_2.eq_1 := rfl
def L68_3 : List AStep := [⟨.append 81 2 24 (.t 5) (.t 6), (some 7), none, []⟩, ⟨.mov (.t 7), (some 2), none, []⟩]
theorem v68_3 : VS L68_3.eq_1 := rfl
def L68_4 : List AStep := ⟨.buildSlice 81 0 [(.str (strOfNums [])), (.int .i64 0)] [], (some 5), none, []⟩ :: ⟨.mov (.t 0), (some 6), none, []⟩ :: L68_3
theorem v68_4 : VS L68_4.eq_1 := rfl
def C68_0 : ACode := .seq (.reg L68_2) .ret
theorem u68_0 : VC C68_0.eq_1 := rfl
def C68_1 : ACode := .cond (.t 4) C68_0 .skip
theorem u68_1 : VC C68_1.eq_1 := rfl
def C68_2 : ACode := .seq (.reg L68_1) C68_1
theorem u68_2 : VC C68_2.eq_1 := rfl
def C68_3 : ACode := .seq (.reg L68_4) .ret
theorem u68_3 : VC C68_3.eq_1 := rfl
def C68_4 : ACode := .seq C68_2 C68_3
theorem u68_4 : VC C68_4.eq_1 := rfl
def C68_5 : ACode := .seq (.reg L68_0) C68_4
theorem u68_5 : VC C68_5.eq_1 := rfl
def F68 : AFunc := ⟨8, [.tmp 2], C68_5⟩
theorem cF68 : compB Tryz.prog 68 = some F68 := by kernel_rfl
attribute [local go_sem ↓] u68_0 u68_1 u68_2 u68_3 u68_4 u68_5 v68_0 v68_1 v68_2 v68_3 v68_4
theorem c_clone0P (l : List Pair) (v : AV) (h : H) (hl : SlP h v l) (hn : l.length ≤ big) : callK (bm Tryz.prog 68 [v] h) fun r h' => Grow h h' ∧ NwP h h' r l := by
  refine bm_of cF68 ?_
  obtain ⟨b, e1, e2⟩ := hl.isNil
  simp +contextual (maxSteps := 2000000) only [go_sem, Nat.reduceEqDiff, reduceCtorEq, Nat.reduceAdd, Nat.reduceLeDiff, F68, e1]
  cases b with
  | true =>
    obtain rfl := e2 rfl
    simp +contextual (maxSteps := 2000000) only [go_sem, Nat.reduceEqDiff, reduceCtorEq, Nat.reduceAdd, Nat.reduceLeDiff]
    exact ⟨Grow.refl h, .nil⟩
  | false =>
    simp +contextual (maxSteps := 2000000) only [go_sem, Nat.reduceEqDiff, reduceCtorEq, Nat.reduceAdd, Nat.reduceLeDiff]
    refine wp_lit (enc := encP) (k := 2) (l := []) rfl rfl ?_
    intro h1 w g1 n1 _
    simp +contextual (maxSteps := 2000000) only [go_sem, Nat.reduceEqDiff, reduceCtorEq, Nat.reduceAdd, Nat.reduceLeDiff]
    refine wp_append lenP n1 (hl.grow g1) g1 (by have := hn; unfold big at this; simp; omega) ?_
    intro h2 s g2 n2 _ _
    simp +contextual (maxSteps := 2000000) only [go_sem, Nat.reduceEqDiff, reduceCtorEq, Nat.reduceAdd, Nat.reduceLeDiff]
    exact gcK_of ⟨g2, n2⟩ (fun hs _ => ⟨Grow.refl h, n2.scalar hs h⟩)
/-! impl.clone(impl.Pair) -/
def L46_0 : List AStep := [⟨.mov (.c (.sl none 0 (some 0))), (some 2), none, []⟩]
theorem v46_0 : VS L46_0.eq_1 := rfl
def L46_1 : List AStep := [⟨.call 67 [(.t 4)], (some 5), none, []⟩, ⟨.mov (.t 5), (some 2), none, []⟩]
theorem v46_1 : VS L46_1.eq_1 := rfl
def L46_2 : List AStep := ⟨.mov (.t 0), (some 3), none, []⟩ :: ⟨.call 68 [(.t 3)], (some 4), none, []⟩ :: L46_1
theorem v46_2 : VS L46_2.eq_1 := rfl
def C46_0 : ACode := .seq (.reg L46_2) .ret
theorem u46_0 : VC C46_0.eq_1 := rfl
def C46_1 : ACode := .seq (.reg L46_0) C46_0
theorem u46_1 : VC C46_1.eq_1 := rfl
def F46 : AFunc := ⟨6, [.tmp 2], C46_1⟩
theorem cF46 : compB Tryz.prog 46 = some F46 := by kernel_rfl
attribute [local go_sem ↓] u46_0 u46_1 v46_0 v46_1 v46_2
theorem c_cloneP (l : List Pair) (v : AV) (h : H) (hl : SlP h v l) (hn : l.length ≤ big) : callK (bm Tryz.prog 46 [v] h) fun r h' => Grow h h' ∧ NwP h h' r l := by
  refine bm_of cF46 ?_
  simp +contextual (maxSteps := 2000000) only [go_sem, Nat.reduceEqDiff, reduceCtorEq, Nat.reduceAdd, Nat.reduceLeDiff, F46]
  refine wp_call (c_clone0P l v h hl hn) ?_
  rintro r h1 ⟨g1, n1⟩
  simp +contextual (maxSteps := 2000000) only [go_sem, Nat.reduceEqDiff, reduceCtorEq, Nat.reduceAdd, Nat.reduceLeDiff]
  refine wp_call (c_clipP l r h1 n1) ?_
  rintro r2 h2 ⟨rfl, n2⟩
  simp +contextual (maxSteps := 2000000) only [go_sem, Nat.reduceEqDiff, reduceCtorEq, Nat.reduceAdd, Nat.reduceLeDiff]
  exact gcK_of ⟨g1, n2⟩ (fun hs _ => ⟨Grow.refl h, n2.scalar hs h⟩)
/-! slices.Clip(()impl.Param,impl.Param) -/
def L63_0 : List AStep := [⟨.mov (.c (.sl none 0 (some 0))), (some 2), none, []⟩]
theorem v63_0 : VS L63_0.eq_1 := rfl
def L63_1 : List AStep := [⟨.mov (.t 8), (some 2), none, []⟩]
theorem v63_1 : VS L63_1.eq_1 := rfl
def L63_2 : List AStep := ⟨.len (.t 6), (some 7), none, []⟩ :: ⟨.slice 79 4 (.t 3) none (some (.t 5)) (some (.t 7)), (some 8), none, []⟩ :: L63_1
theorem v63_2 : VS L63_2.eq_1 := rfl
def L63_3 : List AStep := ⟨.len (.t 4), (some 5), none, []⟩ :: ⟨.mov (.t 0), (some 6), none, []⟩ :: L63_2
theorem v63_3 : VS L63_3.eq_1 := rfl
def L63_4 : List AStep := ⟨.mov (.t 0), (some 3), none, []⟩ :: ⟨.mov (.t 0), (some 4), none, []⟩ :: L63_3
theorem v63_4 : VS L63_4.eq_1 := rfl
def C63_0 : ACode := .seq (.reg L63_4) .ret
theorem u63_0 : VC C63_0.eq_1 := rfl
def C63_1 : ACode := .seq (.reg L63_0) C63_0
theorem u63_1 : VC C63_1.eq_1 := rfl
def F63 : AFunc := ⟨9, [.tmp 2], C63_1⟩
theorem cF63 : compB Tryz.prog 63 = some F63 := by kernel_rfl
attribute [local go_sem ↓] u63_0 u63_1 v63_0 v63_1 v63_2 v63_3 v63_4
theorem c_clipQ {h0 : H} (l : List Param) (v : AV) (h : H) (hl : NwQ h0 h v l) : callK (bm Tryz.prog 63 [v] h) fun r h' => h' = h ∧ NwQ h0 h r l := by
  refine bm_of cF63 ?_
  obtain ⟨w, e1, n1⟩ := hl.clipO (kd := .i64) (kd' := .i64)
  simp +contextual (maxSteps := 2000000) only [go_sem, Nat.reduceEqDiff, reduceCtorEq, Nat.reduceAdd, Nat.reduceLeDiff, F63, hl.length, e1]
  exact n1
theorem c_clipbQ {h0 : H} (l : List Param) (v : AV) (h : H) (hl : NwQ h0 h v l) : callK (bm Tryz.prog 63 [v] h) fun r h' => h' = h ∧ NwQ h0 h r l ∧ ∀ i, baseOf r = some i → baseOf v = some i := by
  refine bm_of cF63 ?_
  obtain ⟨w, e1, n1⟩ := hl.clipB (kd := .i64) (kd' := .i64)
  simp +contextual (maxSteps := 2000000) only [go_sem, Nat.reduceEqDiff, reduceCtorEq, Nat.reduceAdd, Nat.reduceLeDiff, F63, hl.length, e1]
  exact n1
/-! slices.Clone(()impl.Param,impl.Param) -/
def L64_0 : List AStep := [⟨.mov (.c (.sl none 0 (some 0))), (some 2), none, []⟩]
theorem v64_0 : VS L64_0.eq_1 := rfl
def L64_1 : List AStep := [⟨.mov (.t 0), (some 3), none, []⟩, ⟨.eqnil false (.t 3) (.c (.sl none 0 (some 0))), (some 4), none, []⟩]
theorem v64_1 : VS L64_1.eq_1 := rfl
def L64_2 : List AStep := [⟨.mov (.c (.sl none 0 (some 0))), (some 2), none, []⟩]
theorem v64_2 : VS L64_2.eq_1 := rfl
def L64_3 : List AStep := [⟨.append 79 4 40 (.t 5) (.t 6), (some 7), none, []⟩, ⟨.mov (.t 7), (some 2), none, []⟩]
theorem v64_3 : VS L64_3.eq_1 := rfl
def L64_4 : List AStep := ⟨.buildSlice 79 0 [(.str (strOfNums [])), (.int .i64 0), (.bool false), (.int .i64 0)] [], (some 5), none, []⟩ :: ⟨.mov (.t 0), (some 6), none, []⟩ :: L64_3
theorem v64_4 : VS L64_4.eq_1 := rfl
def C64_0 : ACode := .seq (.reg L64_2) .ret
theorem u64_0 : VC C64_0.eq_1 := rfl
def C64_1 : ACode := .cond (.t 4) C64_0 .skip
theorem u64_1 : VC C64_1.eq_1 := rfl
def C64_2 : ACode := .seq (.reg L64_1) C64_1
theorem u64_2 : VC C64_2.eq_1 := rfl
def C64_3 : ACode := .seq (.reg L64_4) .ret
theorem u64_3 : VC C64_3.eq_1 := rfl
def C64_4 : ACode := .seq C64_2 C64_3
theorem u64_4 : VC C64_4.eq_1 := rfl
def C64_5 : ACode := .seq (.reg L64_0) C64_4
theorem u64_5 : VC C64_5.eq_1 := rfl
def F64 : AFunc := ⟨8, [.tmp 2], C64_5⟩
theorem cF64 : compB Tryz.prog 64 = some F64 := by kernel_rfl
attribute [local go_sem ↓] u64_0 u64_1 u64_2 u64_3 u64_4 u64_5 v64_0 v64_1 v64_2 v64_3 v64_4
theorem c_clone0Q (l : List Param) (v : AV) (h : H) (hl : SlQ h v l) (hn : l.length ≤ big) : callK (bm Tryz.prog 64 [v] h) fun r h' => Grow h h' ∧ NwQ h h' r l := by
  refine bm_of cF64 ?_
  obtain ⟨b, e1, e2⟩ := hl.isNil
  simp +contextual (maxSteps := 2000000) only [go_sem, Nat.reduceEqDiff, reduceCtorEq, Nat.reduceAdd, Nat.reduceLeDiff, F64, e1]
  cases b with
  | true =>
    obtain rfl := e2 rfl
    simp +contextual (maxSteps := 2000000) only [go_sem, Nat.reduceEqDiff, reduceCtorEq, Nat.reduceAdd, Nat.reduceLeDiff]
    exact ⟨Grow.refl h, .nil⟩
  | false =>
    simp +contextual (maxSteps := 2000000) only [go_sem, Nat.reduceEqDiff, reduceCtorEq, Nat.reduceAdd, Nat.reduceLeDiff]
    refine wp_lit (enc := encQ) (k := 4) (l := []) rfl rfl ?_
    intro h1 w g1 n1 _
    simp +contextual (maxSteps := 2000000) only [go_sem, Nat.reduceEqDiff, reduceCtorEq, Nat.reduceAdd, Nat.reduceLeDiff]
    refine wp_append lenQ n1 (hl.grow g1) g1 (by have := hn; unfold big at this; simp; omega) ?_
    intro h2 s g2 n2 _ _
    simp +contextual (maxSteps := 2000000) only [go_sem, Nat.reduceEqDiff, reduceCtorEq, Nat.reduceAdd, Nat.reduceLeDiff]
    exact gcK_of ⟨g2, n2⟩ (fun hs _ => ⟨Grow.refl h, n2.scalar hs h⟩)
/-! impl.clone(impl.Param) -/
def L44_0 : List AStep := [⟨.mov (.c (.sl none 0 (some 0))), (some 2), none, []⟩]
theorem v44_0 : VS L44_0.eq_1 := rfl
def L44_1 : List AStep := [⟨.call 63 [(.t 4)], (some 5), none, []⟩, ⟨.mov (.t 5), (some 2), none, []⟩]
theorem v44_1 : VS L44_1.eq_1 := rfl
def L44_2 : List AStep := ⟨.mov (.t 0), (some 3), none, []⟩ :: ⟨.call 64 [(.t 3)], (some 4), none, []⟩ :: L44_1
theorem v44_2 : VS L44_2.eq_1 := rfl
def C44_0 : ACode := .seq (.reg L44_2) .ret
theorem u44_0 : VC C44_0.eq_1 := rfl
def C44_1 : ACode := .seq (.reg L44_0) C44_0
theorem u44_1 : VC C44_1.eq_1 := rfl
def F44 : AFunc := ⟨6, [.tmp 2], C44_1⟩
theorem cF44 : compB Tryz.prog 44 = some F44 := by kernel_rfl
attribute [local go_sem ↓] u44_0 u44_1 v44_0 v44_1 v44_2
theorem c_cloneQ (l : List Param) (v : AV) (h : H) (hl : SlQ h v l) (hn : l.length ≤ big) : callK (bm Tryz.prog 44 [v] h) fun r h' => Grow h h' ∧ NwQ h h' r l := by
  refine bm_of cF44 ?_
  simp +contextual (maxSteps := 2000000) only [go_sem, Nat.reduceEqDiff, reduceCtorEq, Nat.reduceAdd, Nat.reduceLeDiff, F44]
  refine wp_call (c_clone0Q l v h hl hn) ?_
  rintro r h1 ⟨g1, n1⟩
  simp +contextual (maxSteps := 2000000) only [go_sem, Nat.reduceEqDiff, reduceCtorEq, Nat.reduceAdd, Nat.reduceLeDiff]
  refine wp_call (c_clipQ l r h1 n1) ?_
  rintro r2 h2 ⟨rfl, n2⟩
  simp +contextual (maxSteps := 2000000) only [go_sem, Nat.reduceEqDiff, reduceCtorEq, Nat.reduceAdd, Nat.reduceLeDiff]
  exact gcK_of ⟨g1, n2⟩ (fun hs _ => ⟨Grow.refl h, n2.scalar hs h⟩)
/-! slices.Clip(()impl.Problem,impl.Problem) -/
def L81_0 : List AStep := [⟨.mov (.c (.sl none 0 (some 0))), (some 2), none, []⟩]
theorem v81_0 : VS L81_0.eq_1 := rfl
def L81_1 : List AStep := [⟨.mov (.t 8), (some 2), none, []⟩]
theorem v81_1 : VS L81_1.eq_1 := rfl
def L81_2 : List AStep := ⟨.len (.t 6), (some 7), none, []⟩ :: ⟨.slice 96 2 (.t 3) none (some (.t 5)) (some (.t 7)), (some 8), none, []⟩ :: L81_1
theorem v81_2 : VS L81_2.eq_1 := rfl
def L81_3 : List AStep := ⟨.len (.t 4), (some 5), none, []⟩ :: ⟨.mov (.t 0), (some 6), none, []⟩ :: L81_2
theorem v81_3 : VS L81_3.eq_1 := rfl
def L81_4 : List AStep := ⟨.mov (.t 0), (some 3), none, []⟩ :: ⟨.mov (.t 0), (some 4), none, []⟩ :: L81_3
theorem v81_4 : VS L81_4.eq_1 := rfl
def C81_0 : ACode := .seq (.reg L81_4) .ret
theorem u81_0 : VC C81_0.eq_1 := rfl
def C81_1 : ACode := .seq (.reg L81_0) C81_0
theorem u81_1 : VC C81_1.eq_1 := rfl
def F81 : AFunc := ⟨9, [.tmp 2], C81_1⟩
theorem cF81 : compB Tryz.prog 81 = some F81 := by kernel_rfl
attribute [local go_sem ↓] u81_0 u81_1 v81_0 v81_1 v81_2 v81_3 v81_4
theorem c_clipB {h0 : H} (l : List Problem) (v : AV) (h : H) (hl : NwB h0 h v l) : callK (bm Tryz.prog 81 [v] h) fun r h' => h' = h ∧ NwB h0 h r l := by
  refine bm_of cF81 ?_
  obtain ⟨w, e1, n1⟩ := hl.clipO (kd := .i64) (kd' := .i64)
  simp +contextual (maxSteps := 2000000) only [go_sem, Nat.reduceEqDiff, reduceCtorEq, Nat.reduceAdd, Nat.reduceLeDiff, F81, hl.length, e1]
  exact n1
theorem c_clipbB {h0 : H} (l : List Problem) (v : AV) (h : H) (hl : NwB h0 h v l) : callK (bm Tryz.prog 81 [v] h) fun r h' => h' = h ∧ NwB h0 h r l ∧ ∀ i, baseOf r = some i → baseOf v = some i := by
  refine bm_of cF81 ?_
  obtain ⟨w, e1, n1⟩ := hl.clipB (kd := .i64) (kd' := .i64)
  simp +contextual (maxSteps := 2000000) only [go_sem, Nat.reduceEqDiff, reduceCtorEq, Nat.reduceAdd, Nat.reduceLeDiff, F81, hl.length, e1]
  exact n1
/-! (impl.Flat).copyOf -/
def L28_0 : List AStep := [⟨.box 36 (.t 0), (some 1), none, []⟩, ⟨.alloc 36 [(.sl none 0 (some 0)), (.sl none 0 (some 0))], (some 2), none, []⟩]
theorem v28_0 : VS L28_0.eq_1 := rfl
def L28_1 : List AStep := [⟨.build [(.sl none 0 (some 0)), (.sl none 0 (some 0))] [(0, 1, (.t 5)), (1, 1, (.t 8))], (some 9), none, []⟩, ⟨.store 2 (.t 2) (.t 9), none, none, []⟩]
theorem v28_1 : VS L28_1.eq_1 := rfl
def L28_2 : List AStep := ⟨.call 45 [(.t 4)], (some 5), none, [(.load 1 false (.t 6), (some 7), none)]⟩ :: ⟨.call 46 [(.t 7)], (some 8), none, []⟩ :: L28_1
theorem v28_2 : VS L28_2.eq_1 := rfl
def L28_3 : List AStep := ⟨.faddr 1 (.t 1), (some 6), none, []⟩ :: ⟨.load 1 false (.t 6), (some 7), none, []⟩ :: L28_2
theorem v28_3 : VS L28_3.eq_1 := rfl
def L28_4 : List AStep := ⟨.faddr 0 (.t 1), (some 3), none, []⟩ :: ⟨.load 1 false (.t 3), (some 4), none, []⟩ :: L28_3
theorem v28_4 : VS L28_4.eq_1 := rfl
def C28_0 : ACode := .seq (.reg L28_4) .ret
theorem u28_0 : VC C28_0.eq_1 := rfl
def C28_1 : ACode := .seq (.reg L28_0) C28_0
theorem u28_1 : VC C28_1.eq_1 := rfl
def F28 : AFunc := ⟨10, [.cell 2 2 true], C28_1⟩
theorem cF28 : compB Tryz.prog 28 = some F28 := by kernel_rfl
attribute [local go_sem ↓] u28_0 u28_1 v28_0 v28_1 v28_2 v28_3 v28_4
theorem c_copyOfF (f : Flat) (p n : CV) (h : H) (hf : SlF h p n f) (hn : smF f) : callK (bm Tryz.prog 28 [.agg [p, n]] h) fun r h' => Grow h h' ∧ ∃ p' n', r = .agg [p', n'] ∧ NwF h h' p' n' f := by
  refine bm_of cF28 ?_
  simp +contextual (maxSteps := 2000000) only [go_sem, Nat.reduceEqDiff, reduceCtorEq, Nat.reduceAdd, Nat.reduceLeDiff, F28]
  refine wp_call (c_cloneI _ _ h hf.pl hn.pl) ?_
  rintro r h1 ⟨g1, n1⟩
  obtain ⟨p', rfl⟩ := n1.one
  simp +contextual (maxSteps := 2000000) only [go_sem, Nat.reduceEqDiff, reduceCtorEq, Nat.reduceAdd, Nat.reduceLeDiff]
  refine wp_call (c_cloneP _ _ h1 (hf.nl.grow g1) hn.nl.1) ?_
  rintro r h2 ⟨g2, n2⟩
  obtain ⟨n', rfl⟩ := n2.one
  simp +contextual (maxSteps := 2000000) only [go_sem, Nat.reduceEqDiff, reduceCtorEq, Nat.reduceAdd, Nat.reduceLeDiff]
  have n3 : NwF h h2 p' n' f := ⟨n1.grow g2, n2.from g1.n, n1.apart n2⟩
  exact gcK_of ⟨g1.trans g2, _, _, rfl, n3⟩ (fun hs _ => ⟨Grow.refl h, _, _, rfl, n3.scalar hs h⟩)
/-! (impl.Signature).copyOf -/
def L27_0 : List AStep := [⟨.box 33 (.t 0), (some 1), none, []⟩, ⟨.alloc 33 [(.sl none 0 (some 0))], (some 2), none, []⟩]
theorem v27_0 : VS L27_0.eq_1 := rfl
def L27_1 : List AStep := [⟨.store 1 (.t 2) (.t 6), none, none, []⟩]
theorem v27_1 : VS L27_1.eq_1 := rfl
def L27_2 : List AStep := ⟨.call 44 [(.t 4)], (some 5), none, []⟩ :: ⟨.build [(.sl none 0 (some 0))] [(0, 1, (.t 5))], (some 6), none, []⟩ :: L27_1
theorem v27_2 : VS L27_2.eq_1 := rfl
def L27_3 : List AStep := ⟨.faddr 0 (.t 1), (some 3), none, []⟩ :: ⟨.load 1 false (.t 3), (some 4), none, []⟩ :: L27_2
theorem v27_3 : VS L27_3.eq_1 := rfl
def C27_0 : ACode := .seq (.reg L27_3) .ret
theorem u27_0 : VC C27_0.eq_1 := rfl
def C27_1 : ACode := .seq (.reg L27_0) C27_0
theorem u27_1 : VC C27_1.eq_1 := rfl
def F27 : AFunc := ⟨7, [.cell 2 1 true], C27_1⟩
theorem cF27 : compB Tryz.prog 27 = some F27 := by kernel_rfl
attribute [local go_sem ↓] u27_0 u27_1 v27_0 v27_1 v27_2 v27_3
theorem c_copyOfS (l : List Param) (v : CV) (h : H) (hl : SlQ h (.one v) l) (hn : l.length ≤ big) : callK (bm Tryz.prog 27 [.agg [v]] h) fun r h' => Grow h h' ∧ ∃ w, r = .agg [w] ∧ NwQ h h' (.one w) l := by
  refine bm_of cF27 ?_
  simp +contextual (maxSteps := 2000000) only [go_sem, Nat.reduceEqDiff, reduceCtorEq, Nat.reduceAdd, Nat.reduceLeDiff, F27]
  refine wp_call (c_cloneQ _ _ h hl hn) ?_
  rintro r h1 ⟨g1, n1⟩
  obtain ⟨w, rfl⟩ := n1.one
  simp +contextual (maxSteps := 2000000) only [go_sem, Nat.reduceEqDiff, reduceCtorEq, Nat.reduceAdd, Nat.reduceLeDiff]
  exact gcK_of ⟨g1, _, rfl, n1⟩ (fun hs _ => ⟨Grow.refl h, _, rfl, n1.scalar (by simpa [AV.scalar] using hs) h⟩)
end Go.Proofs.YtdalgphpacikkaaGreat.Am
