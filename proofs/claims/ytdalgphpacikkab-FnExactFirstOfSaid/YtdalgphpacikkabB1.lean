/- Contracts of the program: copies, calls over each other. -/
import Derived.Test.YtdalgphpacikkabA3
namespace Go.Proofs.Ytdalgphpacikkab.Am
open Go
set_option maxRecDepth 100000
set_option maxHeartbeats 4000000
set_option linter.unusedSimpArgs false
set_option linter.unusedVariables false
attribute [local go_sem ↓] bv_t bv_c ev_t ev_c put_same put_ne put_none kill_at pro_at lb_same lb_ne start_zero start_succ wpC_seq wpC_reg wpC_cond wpC_block wpC_skip wpC_exit wpC_ret thenQ_normal thenQ_exit thenQ_ret inBlk_normal inBlk_exit inBlk_ret wpS_nil wpS_step wpS_again wpS_guard wpO_mov wpO_load wpO_faddr wpO_nilCheck wpO_pick wpO_build wpO_bin wpO_eqb wpO_eqst wpO_eqnil wpO_not wpO_conv wpO_bytesStr wpO_iaddr wpO_idxStr wpO_field wpO_extract wpO_len wpO_lenStr wpO_cap wpO_min wpO_slice wpO_sliceStr wpO_alloc wpO_box wpO_store wpO_call wpO_callv wpO_mkfn wpO_buildSlice wpO_mkslice wpO_append wpO_appz proA_nil proA_cons tmpX_nil tmpX_tmp tmpX_cell doneB_normal doneB_ret agK_cons agK_nil agK_guard agG_tt agG_ff agG_tf agG_ft agG_undef pureB_load results_one results_two results_nil resBs_cons resBs_nil resB_tmp resB_cell
attribute [local go_sem] kill_v kill_lp_ne kill_lp_same pro_v pro_lp_same pro_lp_ne av_v av_lp optB_some optX_some valX_eq ldX_lp ldX_v faX_lp faX_v ncX_lp ncX_ptr ncX_fn boxK_one boxK_agg stL_some stK_lp_one stK_lp_agg stK_v_one stK_v_agg proM_v proM_lp callG_mk callVG_mk callvK_fn fnG_mk ptrsA_nil ptrsA_cons callH_some whenA_true whenA_false guardH_tt guardH_ff guardH_tf guardH_ft guardH_undef agV_one agV_agg lenO_sl lenStrO_str notO_bool pickO_bool convO_int eqbO_bool eqnilO_sl extractO_tup capO_sl minO_int loadL_one loadL_all storeL_eq fillA_nil fillA_one fillA_agg nat_ge neg_ge nat_lt neg_lt buildO bin_add bin_sub bin_mul bin_eql bin_neq bin_lss bin_leq bin_gtr bin_geq str_eql str_neq str_lss str_leq str_gtr str_geq retK_some endK_mk gcK_same gcK_int gcK_bool tupO_one tupO_agg rdy_self ib ii Option.map_none Option.map_some Option.some.injEq exists_eq_left' exists_eq_left ne_eq not_false_eq_true if_true if_false List.map_cons List.map_nil List.getElem?_cons_zero List.getElem?_cons_succ List.length_cons List.length_nil List.take_succ_cons List.take_zero List.take_nil List.drop_succ_cons List.drop_zero List.drop_nil List.cons_append List.nil_append List.append_nil List.set_cons_zero List.set_cons_succ Nat.zero_add forall_const true_and and_true and_self Bool.false_eq_true false_implies true_implies implies_true Bool.not_true Bool.not_false Bool.not_eq_true' Bool.not_eq_false' beq_self_eq_true Bool.bne_true Bool.bne_false
attribute [local go_sem] lenI lenS lenP lenQ lenB lenL lenT encI_0 encS_0 encP_0 encP_1 encQ_0 encQ_1 encQ_2 encQ_3 encB_0 encB_1 encL_0 encL_1 encT_0 encT_1
attribute [local go_sem low] whenA_bool guardH_bool
/-! slices.Clip(()int,int) -/
def L77_0 : List AStep := [⟨.mov (.c (.sl none 0 (some 0))), (some 2), none, []⟩]
theorem v77_0 : VS L77_0.eq_1 := rfl
def L77_1 : List AStep := [⟨.mov (.t 8), (some 2), none, []⟩]
theorem v77_1 : VS L77_1.eq_1 := rfl
def L77_2 : List AStep := ⟨.len (.t 6), (some 7), none, []⟩ :: ⟨.slice 3 1 (.t 3) none (some (.t 5)) (some (.t 7)), (some 8), none, []⟩ :: L77_1
theorem v77_2 : VS L77_2.eq_1 := rfl
def L77_3 : List AStep := ⟨.len (.t 4), (some 5), none, []⟩ :: ⟨.mov (.t 0), (some 6), none, []⟩ :: L77_2
theorem v77_3 : VS L77_3.eq_1 := rfl
def L77_4 : List AStep := ⟨.mov (.t 0), (some 3), none, []⟩ :: ⟨.mov (.t 0), (some 4), none, []⟩ :: L77_3
theorem v77_4 : VS L77_4.eq_1 := rfl
def C77_0 : ACode := .seq (.reg L77_4) .ret
theorem u77_0 : VC C77_0.eq_1 := rfl
def C77_1 : ACode := .seq (.reg L77_0) C77_0
theorem u77_1 : VC C77_1.eq_1 := rfl
def F77 : AFunc := ⟨9, [.tmp 2], C77_1⟩
theorem cF77 : compB Try.prog 77 = some F77 := by kernel_rfl
attribute [local go_sem ↓] u77_0 u77_1 v77_0 v77_1 v77_2 v77_3 v77_4
theorem c_clipI {h0 : H} (l : List Int) (v : AV) (h : H) (hl : NwI h0 h v l) : callK (bm Try.prog 77 [v] h) fun r h' => h' = h ∧ NwI h0 h r l := by
  refine bm_of cF77 ?_
  obtain ⟨w, e1, n1⟩ := hl.clipO (kd := .i64) (kd' := .i64)
  simp +contextual (maxSteps := 2000000) only [go_sem, Nat.reduceEqDiff, reduceCtorEq, Nat.reduceAdd, Nat.reduceLeDiff, F77, hl.length, e1]
  exact n1
theorem c_clipbI {h0 : H} (l : List Int) (v : AV) (h : H) (hl : NwI h0 h v l) : callK (bm Try.prog 77 [v] h) fun r h' => h' = h ∧ NwI h0 h r l ∧ ∀ i, baseOf r = some i → baseOf v = some i := by
  refine bm_of cF77 ?_
  obtain ⟨w, e1, n1⟩ := hl.clipB (kd := .i64) (kd' := .i64)
  simp +contextual (maxSteps := 2000000) only [go_sem, Nat.reduceEqDiff, reduceCtorEq, Nat.reduceAdd, Nat.reduceLeDiff, F77, hl.length, e1]
  exact n1
/-! slices.Clone(()int,int) -/
def L123_0 : List AStep := [⟨.mov (.c (.sl none 0 (some 0))), (some 2), none, []⟩]
theorem v123_0 : VS L123_0.eq_1 := rfl
def L123_1 : List AStep := [⟨.mov (.t 0), (some 3), none, []⟩, ⟨.eqnil false (.t 3) (.c (.sl none 0 (some 0))), (some 4), none, []⟩]
theorem v123_1 : VS L123_1.eq_1 := rfl
def L123_2 : List AStep := [⟨.mov (.c (.sl none 0 (some 0))), (some 2), none, []⟩]
theorem v123_2 : VS L123_2.eq_1 := rfl
def L123_3 : List AStep := [⟨.append 3 1 8 (.t 5) (.t 6), (some 7), none, []⟩, ⟨.mov (.t 7), (some 2), none, []⟩]
theorem v123_3 : VS L123_3.eq_1 := rfl
def L123_4 : List AStep := ⟨.buildSlice 3 0 [(.int .i64 0)] [], (some 5), none, []⟩ :: ⟨.mov (.t 0), (some 6), none, []⟩ :: L123_3
theorem v123_4 : VS L123_4.eq_1 := rfl
def C123_0 : ACode := .seq (.reg L123_2) .ret
theorem u123_0 : VC C123_0.eq_1 := rfl
def C123_1 : ACode := .cond (.t 4) C123_0 .skip
theorem u123_1 : VC C123_1.eq_1 := rfl
def C123_2 : ACode := .seq (.reg L123_1) C123_1
theorem u123_2 : VC C123_2.eq_1 := rfl
def C123_3 : ACode := .seq (.reg L123_4) .ret
theorem u123_3 : VC C123_3.eq_1 := rfl
def C123_4 : ACode := .seq C123_2 C123_3
theorem u123_4 : VC C123_4.eq_1 := rfl
def C123_5 : ACode := .seq (.reg L123_0) C123_4
theorem u123_5 : VC C123_5.eq_1 := rfl
def F123 : AFunc := ⟨8, [.tmp 2], C123_5⟩
theorem cF123 : compB Try.prog 123 = some F123 := by kernel_rfl
attribute [local go_sem ↓] u123_0 u123_1 u123_2 u123_3 u123_4 u123_5 v123_0 v123_1 v123_2 v123_3 v123_4
theorem c_clone0I (l : List Int) (v : AV) (h : H) (hl : SlI h v l) (hn : l.length ≤ big) : callK (bm Try.prog 123 [v] h) fun r h' => Grow h h' ∧ NwI h h' r l := by
  refine bm_of cF123 ?_
  obtain ⟨b, e1, e2⟩ := hl.isNil
  simp +contextual (maxSteps := 2000000) only [go_sem, Nat.reduceEqDiff, reduceCtorEq, Nat.reduceAdd, Nat.reduceLeDiff, F123, e1]
  cases b with
  | true =>
    obtain rfl := e2 rfl
    simp +contextual (maxSteps := 2000000) only [go_sem, Nat.reduceEqDiff, reduceCtorEq, Nat.reduceAdd, Nat.reduceLeDiff]
    exact ⟨Grow.refl h, .nil⟩
  | false =>
    simp +contextual (maxSteps := 2000000) only [go_sem, Nat.reduceEqDiff, reduceCtorEq, Nat.reduceAdd, Nat.reduceLeDiff]
    refine wp_lit (enc := encI) (k := 1) (l := []) rfl rfl ?_
    intro h1 w g1 n1 _
    simp +contextual (maxSteps := 2000000) only [go_sem, Nat.reduceEqDiff, reduceCtorEq, Nat.reduceAdd, Nat.reduceLeDiff]
    refine wp_append lenI n1 (hl.grow g1) g1 (by have := hn; unfold big at this; simp; omega) ?_
    intro h2 s g2 n2 _ _
    simp +contextual (maxSteps := 2000000) only [go_sem, Nat.reduceEqDiff, reduceCtorEq, Nat.reduceAdd, Nat.reduceLeDiff]
    exact gcK_of ⟨g2, n2⟩ (fun hs _ => ⟨Grow.refl h, n2.scalar hs h⟩)
/-! impl.clone(int) -/
def L97_0 : List AStep := [⟨.mov (.c (.sl none 0 (some 0))), (some 2), none, []⟩]
theorem v97_0 : VS L97_0.eq_1 := rfl
def L97_1 : List AStep := [⟨.call 77 [(.t 4)], (some 5), none, []⟩, ⟨.mov (.t 5), (some 2), none, []⟩]
theorem v97_1 : VS L97_1.eq_1 := rfl
def L97_2 : List AStep := ⟨.mov (.t 0), (some 3), none, []⟩ :: ⟨.call 123 [(.t 3)], (some 4), none, []⟩ :: L97_1
theorem v97_2 : VS L97_2.eq_1 := rfl
def C97_0 : ACode := .seq (.reg L97_2) .ret
theorem u97_0 : VC C97_0.eq_1 := rfl
def C97_1 : ACode := .seq (.reg L97_0) C97_0
theorem u97_1 : VC C97_1.eq_1 := rfl
def F97 : AFunc := ⟨6, [.tmp 2], C97_1⟩
theorem cF97 : compB Try.prog 97 = some F97 := by kernel_rfl
attribute [local go_sem ↓] u97_0 u97_1 v97_0 v97_1 v97_2
theorem c_cloneI (l : List Int) (v : AV) (h : H) (hl : SlI h v l) (hn : l.length ≤ big) : callK (bm Try.prog 97 [v] h) fun r h' => Grow h h' ∧ NwI h h' r l := by
  refine bm_of cF97 ?_
  simp +contextual (maxSteps := 2000000) only [go_sem, Nat.reduceEqDiff, reduceCtorEq, Nat.reduceAdd, Nat.reduceLeDiff, F97]
  refine wp_call (c_clone0I l v h hl hn) ?_
  rintro r h1 ⟨g1, n1⟩
  simp +contextual (maxSteps := 2000000) only [go_sem, Nat.reduceEqDiff, reduceCtorEq, Nat.reduceAdd, Nat.reduceLeDiff]
  refine wp_call (c_clipI l r h1 n1) ?_
  rintro r2 h2 ⟨rfl, n2⟩
  simp +contextual (maxSteps := 2000000) only [go_sem, Nat.reduceEqDiff, reduceCtorEq, Nat.reduceAdd, Nat.reduceLeDiff]
  exact gcK_of ⟨g1, n2⟩ (fun hs _ => ⟨Grow.refl h, n2.scalar hs h⟩)
/-! slices.Clip(()impl.Pair,impl.Pair) -/
def L115_0 : List AStep := [⟨.mov (.c (.sl none 0 (some 0))), (some 2), none, []⟩]
theorem v115_0 : VS L115_0.eq_1 := rfl
def L115_1 : List AStep := [⟨.mov (.t 8), (some 2), none, []⟩]
theorem v115_1 : VS L115_1.eq_1 := rfl
def L115_2 : List AStep := ⟨.len (.t 6), (some 7), none, []⟩ :: ⟨.slice 109 2 (.t 3) none (some (.t 5)) (some (.t 7)), (some 8), none, []⟩ :: L115_1
theorem v115_2 : VS L115_2.eq_1 := rfl
def L115_3 : List AStep := ⟨.len (.t 4), (some 5), none, []⟩ :: ⟨.mov (.t 0), (some 6), none, []⟩ :: L115_2
theorem v115_3 : VS L115_3.eq_1 := rfl
def L115_4 : List AStep := ⟨.mov (.t 0), (some 3), none, []⟩ :: ⟨.mov (.t 0), (some 4), none, []⟩ :: L115_3
theorem v115_4 : VS L115_4.eq_1 := rfl
def C115_0 : ACode := .seq (.reg L115_4) .ret
theorem u115_0 : VC C115_0.eq_1 := rfl
def C115_1 : ACode := .seq (.reg L115_0) C115_0
theorem u115_1 : VC C115_1.eq_1 := rfl
def F115 : AFunc := ⟨9, [.tmp 2], C115_1⟩
theorem cF115 : compB Try.prog 115 = some F115 := by kernel_rfl
attribute [local go_sem ↓] u115_0 u115_1 v115_0 v115_1 v115_2 v115_3 v115_4
theorem c_clipP {h0 : H} (l : List Pair) (v : AV) (h : H) (hl : NwP h0 h v l) : callK (bm Try.prog 115 [v] h) fun r h' => h' = h ∧ NwP h0 h r l := by
  refine bm_of cF115 ?_
  obtain ⟨w, e1, n1⟩ := hl.clipO (kd := .i64) (kd' := .i64)
  simp +contextual (maxSteps := 2000000) only [go_sem, Nat.reduceEqDiff, reduceCtorEq, Nat.reduceAdd, Nat.reduceLeDiff, F115, hl.length, e1]
  exact n1
theorem c_clipbP {h0 : H} (l : List Pair) (v : AV) (h : H) (hl : NwP h0 h v l) : callK (bm Try.prog 115 [v] h) fun r h' => h' = h ∧ NwP h0 h r l ∧ ∀ i, baseOf r = some i → baseOf v = some i := by
  refine bm_of cF115 ?_
  obtain ⟨w, e1, n1⟩ := hl.clipB (kd := .i64) (kd' := .i64)
  simp +contextual (maxSteps := 2000000) only [go_sem, Nat.reduceEqDiff, reduceCtorEq, Nat.reduceAdd, Nat.reduceLeDiff, F115, hl.length, e1]
  exact n1
/-! slices.Clone(()impl.Pair,impl.Pair) -/
def L124_0 : List AStep := [⟨.mov (.c (.sl none 0 (some 0))), (some 2), none, []⟩]
theorem v124_0 : VS L124_0.eq_1 := rfl
def L124_1 : List AStep := [⟨.mov (.t 0), (some 3), none, []⟩, ⟨.eqnil false (.t 3) (.c (.sl none 0 (some 0))), (some 4), none, []⟩]
theorem v124_1 : VS L124_1.eq_1 := rfl
def L124_2 : List AStep := [⟨.mov (.c (.sl none 0 (some 0))), (some 2), none, []⟩]
theorem v124_2 : VS L124_2.eq_1 := rfl
def L124_3 : List AStep := [⟨.append 109 2 24 (.t 5) (.t 6), (some 7), none, []⟩, ⟨.mov (.t 7), (some 2), none, []⟩]
theorem v124_3 : VS L124_3.eq_1 := rfl
def L124_4 : List AStep := ⟨.buildSlice 109 0 [(.str (strOfNums [])), (.int .i64 0)] [], (some 5), none, []⟩ :: ⟨.mov (.t 0), (some 6), none, []⟩ :: L124_3
theorem v124_4 : VS L124_4.eq_1 := rfl
def C124_0 : ACode := .seq (.reg L124_2) .ret
theorem u124_0 : VC C124_0.eq_1 := rfl
def C124_1 : ACode := .cond (.t 4) C124_0 .skip
theorem u124_1 : VC C124_1.eq_1 := rfl
def C124_2 : ACode := .seq (.reg L124_1) C124_1
theorem u124_2 : VC C124_2.eq_1 := rfl
def C124_3 : ACode := .seq (.reg L124_4) .ret
theorem u124_3 : VC C124_3.eq_1 := rfl
def C124_4 : ACode := .seq C124_2 C124_3
theorem u124_4 : VC C124_4.eq_1 := rfl
def C124_5 : ACode := .seq (.reg L124_0) C124_4
theorem u124_5 : VC C124_5.eq_1 := rfl
def F124 : AFunc := ⟨8, [.tmp 2], C124_5⟩
theorem cF124 : compB Try.prog 124 = some F124 := by kernel_rfl
attribute [local go_sem ↓] u124_0 u124_1 u124_2 u124_3 u124_4 u124_5 v124_0 v124_1 v124_2 v124_3 v124_4
theorem c_clone0P (l : List Pair) (v : AV) (h : H) (hl : SlP h v l) (hn : l.length ≤ big) : callK (bm Try.prog 124 [v] h) fun r h' => Grow h h' ∧ NwP h h' r l := by
  refine bm_of cF124 ?_
  obtain ⟨b, e1, e2⟩ := hl.isNil
  simp +contextual (maxSteps := 2000000) only [go_sem, Nat.reduceEqDiff, reduceCtorEq, Nat.reduceAdd, Nat.reduceLeDiff, F124, e1]
  cases b with
  | true =>
    obtain rfl := e2 rfl
    simp +contextual (maxSteps := 2000000) only [go_sem, Nat.reduceEqDiff, reduceCtorEq, Nat.reduceAdd, Nat.reduceLeDiff]
    exact ⟨Grow.refl h, .nil⟩
  | false =>
    simp +contextual (maxSteps := 2000000) only [go_sem, Nat.reduceEqDiff, reduceCtorEq, Nat.reduceAdd, Nat.reduceLeDiff]
    refine wp_lit (enc := encP) (k := 2) (l := []) rfl rfl ?_
    intro h1 w g1 n1 _
    simp +contextual (maxSteps := 2000000) only [go_sem, Nat.reduceEqDiff, reduceCtorEq, Nat.reduceAdd, Nat.reduceLeDiff]
    refine wp_append lenP n1 (hl.grow g1) g1 (by have := hn; unfold big at this; simp; omega) ?_
    intro h2 s g2 n2 _ _
    simp +contextual (maxSteps := 2000000) only [go_sem, Nat.reduceEqDiff, reduceCtorEq, Nat.reduceAdd, Nat.reduceLeDiff]
    exact gcK_of ⟨g2, n2⟩ (fun hs _ => ⟨Grow.refl h, n2.scalar hs h⟩)
/-! impl.clone(impl.Pair) -/
def L98_0 : List AStep := [⟨.mov (.c (.sl none 0 (some 0))), (some 2), none, []⟩]
theorem v98_0 : VS L98_0.eq_1 := rfl
def L98_1 : List AStep := [⟨.call 115 [(.t 4)], (some 5), none, []⟩, ⟨.mov (.t 5), (some 2), none, []⟩]
theorem v98_1 : VS L98_1.eq_1 := rfl
def L98_2 : List AStep := ⟨.mov (.t 0), (some 3), none, []⟩ :: ⟨.call 124 [(.t 3)], (some 4), none, []⟩ :: L98_1
theorem v98_2 : VS L98_2.eq_1 := rfl
def C98_0 : ACode := .seq (.reg L98_2) .ret
theorem u98_0 : VC C98_0.eq_1 := rfl
def C98_1 : ACode := .seq (.reg L98_0) C98_0
theorem u98_1 : VC C98_1.eq_1 := rfl
def F98 : AFunc := ⟨6, [.tmp 2], C98_1⟩
theorem cF98 : compB Try.prog 98 = some F98 := by kernel_rfl
attribute [local go_sem ↓] u98_0 u98_1 v98_0 v98_1 v98_2
theorem c_cloneP (l : List Pair) (v : AV) (h : H) (hl : SlP h v l) (hn : l.length ≤ big) : callK (bm Try.prog 98 [v] h) fun r h' => Grow h h' ∧ NwP h h' r l := by
  refine bm_of cF98 ?_
  simp +contextual (maxSteps := 2000000) only [go_sem, Nat.reduceEqDiff, reduceCtorEq, Nat.reduceAdd, Nat.reduceLeDiff, F98]
  refine wp_call (c_clone0P l v h hl hn) ?_
  rintro r h1 ⟨g1, n1⟩
  simp +contextual (maxSteps := 2000000) only [go_sem, Nat.reduceEqDiff, reduceCtorEq, Nat.reduceAdd, Nat.reduceLeDiff]
  refine wp_call (c_clipP l r h1 n1) ?_
  rintro r2 h2 ⟨rfl, n2⟩
  simp +contextual (maxSteps := 2000000) only [go_sem, Nat.reduceEqDiff, reduceCtorEq, Nat.reduceAdd, Nat.reduceLeDiff]
  exact gcK_of ⟨g1, n2⟩ (fun hs _ => ⟨Grow.refl h, n2.scalar hs h⟩)
/-! slices.Clip(()impl.Problem,impl.Problem) -/
def L116_0 : List AStep := [⟨.mov (.c (.sl none 0 (some 0))), (some 2), none, []⟩]
theorem v116_0 : VS L116_0.eq_1 := rfl
def L116_1 : List AStep := [⟨.mov (.t 8), (some 2), none, []⟩]
theorem v116_1 : VS L116_1.eq_1 := rfl
def L116_2 : List AStep := ⟨.len (.t 6), (some 7), none, []⟩ :: ⟨.slice 88 2 (.t 3) none (some (.t 5)) (some (.t 7)), (some 8), none, []⟩ :: L116_1
theorem v116_2 : VS L116_2.eq_1 := rfl
def L116_3 : List AStep := ⟨.len (.t 4), (some 5), none, []⟩ :: ⟨.mov (.t 0), (some 6), none, []⟩ :: L116_2
theorem v116_3 : VS L116_3.eq_1 := rfl
def L116_4 : List AStep := ⟨.mov (.t 0), (some 3), none, []⟩ :: ⟨.mov (.t 0), (some 4), none, []⟩ :: L116_3
theorem v116_4 : VS L116_4.eq_1 := rfl
def C116_0 : ACode := .seq (.reg L116_4) .ret
theorem u116_0 : VC C116_0.eq_1 := rfl
def C116_1 : ACode := .seq (.reg L116_0) C116_0
theorem u116_1 : VC C116_1.eq_1 := rfl
def F116 : AFunc := ⟨9, [.tmp 2], C116_1⟩
theorem cF116 : compB Try.prog 116 = some F116 := by kernel_rfl
attribute [local go_sem ↓] u116_0 u116_1 v116_0 v116_1 v116_2 v116_3 v116_4
theorem c_clipB {h0 : H} (l : List Problem) (v : AV) (h : H) (hl : NwB h0 h v l) : callK (bm Try.prog 116 [v] h) fun r h' => h' = h ∧ NwB h0 h r l := by
  refine bm_of cF116 ?_
  obtain ⟨w, e1, n1⟩ := hl.clipO (kd := .i64) (kd' := .i64)
  simp +contextual (maxSteps := 2000000) only [go_sem, Nat.reduceEqDiff, reduceCtorEq, Nat.reduceAdd, Nat.reduceLeDiff, F116, hl.length, e1]
  exact n1
theorem c_clipbB {h0 : H} (l : List Problem) (v : AV) (h : H) (hl : NwB h0 h v l) : callK (bm Try.prog 116 [v] h) fun r h' => h' = h ∧ NwB h0 h r l ∧ ∀ i, baseOf r = some i → baseOf v = some i := by
  refine bm_of cF116 ?_
  obtain ⟨w, e1, n1⟩ := hl.clipB (kd := .i64) (kd' := .i64)
  simp +contextual (maxSteps := 2000000) only [go_sem, Nat.reduceEqDiff, reduceCtorEq, Nat.reduceAdd, Nat.reduceLeDiff, F116, hl.length, e1]
  exact n1
/-! slices.Clip(()string,string) -/
def L87_0 : List AStep := [⟨.mov (.c (.sl none 0 (some 0))), (some 2), none, []⟩]
theorem v87_0 : VS L87_0.eq_1 := rfl
def L87_1 : List AStep := [⟨.mov (.t 8), (some 2), none, []⟩]
theorem v87_1 : VS L87_1.eq_1 := rfl
def L87_2 : List AStep := ⟨.len (.t 6), (some 7), none, []⟩ :: ⟨.slice 9 1 (.t 3) none (some (.t 5)) (some (.t 7)), (some 8), none, []⟩ :: L87_1
theorem v87_2 : VS L87_2.eq_1 := rfl
def L87_3 : List AStep := ⟨.len (.t 4), (some 5), none, []⟩ :: ⟨.mov (.t 0), (some 6), none, []⟩ :: L87_2
theorem v87_3 : VS L87_3.eq_1 := rfl
def L87_4 : List AStep := ⟨.mov (.t 0), (some 3), none, []⟩ :: ⟨.mov (.t 0), (some 4), none, []⟩ :: L87_3
theorem v87_4 : VS L87_4.eq_1 := rfl
def C87_0 : ACode := .seq (.reg L87_4) .ret
theorem u87_0 : VC C87_0.eq_1 := rfl
def C87_1 : ACode := .seq (.reg L87_0) C87_0
theorem u87_1 : VC C87_1.eq_1 := rfl
def F87 : AFunc := ⟨9, [.tmp 2], C87_1⟩
theorem cF87 : compB Try.prog 87 = some F87 := by kernel_rfl
attribute [local go_sem ↓] u87_0 u87_1 v87_0 v87_1 v87_2 v87_3 v87_4
theorem c_clipS {h0 : H} (l : List ByteArray) (v : AV) (h : H) (hl : NwS h0 h v l) : callK (bm Try.prog 87 [v] h) fun r h' => h' = h ∧ NwS h0 h r l := by
  refine bm_of cF87 ?_
  obtain ⟨w, e1, n1⟩ := hl.clipO (kd := .i64) (kd' := .i64)
  simp +contextual (maxSteps := 2000000) only [go_sem, Nat.reduceEqDiff, reduceCtorEq, Nat.reduceAdd, Nat.reduceLeDiff, F87, hl.length, e1]
  exact n1
theorem c_clipbS {h0 : H} (l : List ByteArray) (v : AV) (h : H) (hl : NwS h0 h v l) : callK (bm Try.prog 87 [v] h) fun r h' => h' = h ∧ NwS h0 h r l ∧ ∀ i, baseOf r = some i → baseOf v = some i := by
  refine bm_of cF87 ?_
  obtain ⟨w, e1, n1⟩ := hl.clipB (kd := .i64) (kd' := .i64)
  simp +contextual (maxSteps := 2000000) only [go_sem, Nat.reduceEqDiff, reduceCtorEq, Nat.reduceAdd, Nat.reduceLeDiff, F87, hl.length, e1]
  exact n1
/-! (impl.Flat).copyOf -/
def L63_0 : List AStep := [⟨.box 39 (.t 0), (some 1), none, []⟩, ⟨.alloc 39 [(.sl none 0 (some 0)), (.sl none 0 (some 0))], (some 2), none, []⟩]
theorem v63_0 : VS L63_0.eq_1 := rfl
def L63_1 : List AStep := [⟨.build [(.sl none 0 (some 0)), (.sl none 0 (some 0))] [(0, 1, (.t 5)), (1, 1, (.t 8))], (some 9), none, []⟩, ⟨.store 2 (.t 2) (.t 9), none, none, []⟩]
theorem v63_1 : VS L63_1.eq_1 := rfl
def L63_2 : List AStep := ⟨.call 97 [(.t 4)], (some 5), none, [(.load 1 false (.t 6), (some 7), none)]⟩ :: ⟨.call 98 [(.t 7)], (some 8), none, []⟩ :: L63_1
theorem v63_2 : VS L63_2.eq_1 := rfl
def L63_3 : List AStep := ⟨.faddr 1 (.t 1), (some 6), none, []⟩ :: ⟨.load 1 false (.t 6), (some 7), none, []⟩ :: L63_2
theorem v63_3 : VS L63_3.eq_1 := rfl
def L63_4 : List AStep := ⟨.faddr 0 (.t 1), (some 3), none, []⟩ :: ⟨.load 1 false (.t 3), (some 4), none, []⟩ :: L63_3
theorem v63_4 : VS L63_4.eq_1 := rfl
def C63_0 : ACode := .seq (.reg L63_4) .ret
theorem u63_0 : VC C63_0.eq_1 := rfl
def C63_1 : ACode := .seq (.reg L63_0) C63_0
theorem u63_1 : VC C63_1.eq_1 := rfl
def F63 : AFunc := ⟨10, [.cell 2 2 true], C63_1⟩
theorem cF63 : compB Try.prog 63 = some F63 := by kernel_rfl
attribute [local go_sem ↓] u63_0 u63_1 v63_0 v63_1 v63_2 v63_3 v63_4
theorem c_copyOfF (f : Flat) (p n : CV) (h : H) (hf : SlF h p n f) (hn : smF f) : callK (bm Try.prog 63 [.agg [p, n]] h) fun r h' => Grow h h' ∧ ∃ p' n', r = .agg [p', n'] ∧ NwF h h' p' n' f := by
  refine bm_of cF63 ?_
  simp +contextual (maxSteps := 2000000) only [go_sem, Nat.reduceEqDiff, reduceCtorEq, Nat.reduceAdd, Nat.reduceLeDiff, F63]
  refine wp_call (c_cloneI _ _ h hf.pl hn.pl) ?_
  rintro r h1 ⟨g1, n1⟩
  obtain ⟨p', rfl⟩ := n1.one
  simp +contextual (maxSteps := 2000000) only [go_sem, Nat.reduceEqDiff, reduceCtorEq, Nat.reduceAdd, Nat.reduceLeDiff]
  refine wp_call (c_cloneP _ _ h1 (hf.nl.grow g1) hn.nl.1) ?_
  rintro r h2 ⟨g2, n2⟩
  obtain ⟨n', rfl⟩ := n2.one
  simp +contextual (maxSteps := 2000000) only [go_sem, Nat.reduceEqDiff, reduceCtorEq, Nat.reduceAdd, Nat.reduceLeDiff]
  have n3 : NwF h h2 p' n' f := ⟨n1.grow g2, n2.from g1.n, n1.apart n2⟩
  exact gcK_of ⟨g1.trans g2, _, _, rfl, n3⟩ (fun hs _ => ⟨Grow.refl h, _, _, rfl, n3.scalar hs h⟩)
end Go.Proofs.Ytdalgphpacikkab.Am
