/- Contracts of the program: copies, calls over each other. -/
import Derived.Test.YtdalgphpacikkaaA3
namespace Go.Proofs.Ytdalgphpacikkaa.Am
open Go
set_option maxRecDepth 100000
set_option maxHeartbeats 4000000
set_option linter.unusedSimpArgs false
set_option linter.unusedVariables false
attribute [local go_sem ↓] bv_t bv_c ev_t ev_c put_same put_ne put_none kill_at pro_at lb_same lb_ne start_zero start_succ wpC_seq wpC_reg wpC_cond wpC_block wpC_skip wpC_exit wpC_ret thenQ_normal thenQ_exit thenQ_ret inBlk_normal inBlk_exit inBlk_ret wpS_nil wpS_step wpS_again wpS_guard wpO_mov wpO_load wpO_faddr wpO_nilCheck wpO_pick wpO_build wpO_bin wpO_eqb wpO_eqst wpO_eqnil wpO_not wpO_conv wpO_bytesStr wpO_iaddr wpO_idxStr wpO_field wpO_extract wpO_len wpO_lenStr wpO_cap wpO_min wpO_slice wpO_sliceStr wpO_alloc wpO_box wpO_store wpO_call wpO_callv wpO_mkfn wpO_buildSlice wpO_mkslice wpO_append wpO_appz proA_nil proA_cons tmpX_nil tmpX_tmp tmpX_cell doneB_normal doneB_ret agK_cons agK_nil agK_guard agG_tt agG_ff agG_tf agG_ft agG_undef pureB_load results_one results_two results_nil resBs_cons resBs_nil resB_tmp resB_cell
attribute [local go_sem] kill_v kill_lp_ne kill_lp_same pro_v pro_lp_same pro_lp_ne av_v av_lp optB_some optX_some valX_eq ldX_lp ldX_v faX_lp faX_v ncX_lp ncX_ptr ncX_fn boxK_one boxK_agg stL_some stK_lp_one stK_lp_agg stK_v_one stK_v_agg proM_v proM_lp callG_mk callVG_mk callvK_fn fnG_mk ptrsA_nil ptrsA_cons callH_some whenA_true whenA_false guardH_tt guardH_ff guardH_tf guardH_ft guardH_undef agV_one agV_agg lenO_sl lenStrO_str notO_bool pickO_bool convO_int eqbO_bool eqnilO_sl extractO_tup capO_sl minO_int loadL_one loadL_all storeL_eq fillA_nil fillA_one fillA_agg nat_ge neg_ge nat_lt neg_lt buildO bin_add bin_sub bin_mul bin_eql bin_neq bin_lss bin_leq bin_gtr bin_geq str_eql str_neq str_lss str_leq str_gtr str_geq retK_some endK_mk gcK_same gcK_int gcK_bool tupO_one tupO_agg rdy_self ib ii Option.map_none Option.map_some Option.some.injEq exists_eq_left' exists_eq_left ne_eq not_false_eq_true if_true if_false List.map_cons List.map_nil List.getElem?_cons_zero List.getElem?_cons_succ List.length_cons List.length_nil List.take_succ_cons List.take_zero List.take_nil List.drop_succ_cons List.drop_zero List.drop_nil List.cons_append List.nil_append List.append_nil List.set_cons_zero List.set_cons_succ Nat.zero_add forall_const true_and and_true and_self Bool.false_eq_true false_implies true_implies implies_true Bool.not_true Bool.not_false Bool.not_eq_true' Bool.not_eq_false' beq_self_eq_true Bool.bne_true Bool.bne_false
attribute [local go_sem] lenI lenS lenP lenQ lenB lenL lenT encI_0 encS_0 encP_0 encP_1 encQ_0 encQ_1 encQ_2 encQ_3 encB_0 encB_1 encL_0 encL_1 encT_0 encT_1
attribute [local go_sem low] whenA_bool guardH_bool
/-! slices.Clip(()int,int) -/
def L100_0 : List AStep := [⟨.mov (.c (.sl none 0 (some 0))), (some 2), none, []⟩]
theorem v100_0 : VS L100_0.eq_1 := rfl
def L100_1 : List AStep := [⟨.mov (.t 8), (some 2), none, []⟩]
theorem v100_1 : VS L100_1.eq_1 := rfl
def L100_2 : List AStep := ⟨.len (.t 6), (some 7), none, []⟩ :: ⟨.slice 3 1 (.t 3) none (some (.t 5)) (some (.t 7)), (some 8), none, []⟩ :: L100_1
theorem v100_2 : VS L100_2.eq_1 := rfl
def L100_3 : List AStep := ⟨.len (.t 4), (some 5), none, []⟩ :: ⟨.mov (.t 0), (some 6), none, []⟩ :: L100_2
theorem v100_3 : VS L100_3.eq_1 := rfl
def L100_4 : List AStep := ⟨.mov (.t 0), (some 3), none, []⟩ :: ⟨.mov (.t 0), (some 4), none, []⟩ :: L100_3
theorem v100_4 : VS L100_4.eq_1 := rfl
def C100_0 : ACode := .seq (.reg L100_4) .ret
theorem u100_0 : VC C100_0.eq_1 := rfl
def C100_1 : ACode := .seq (.reg L100_0) C100_0
theorem u100_1 : VC C100_1.eq_1 := rfl
def F100 : AFunc := ⟨9, [.tmp 2], C100_1⟩
theorem cF100 : compB Try.prog 100 = some F100 := by kernel_rfl
attribute [local go_sem ↓] u100_0 u100_1 v100_0 v100_1 v100_2 v100_3 v100_4
theorem c_clipI {h0 : H} (l : List Int) (v : AV) (h : H) (hl : NwI h0 h v l) : callK (bm Try.prog 100 [v] h) fun r h' => h' = h ∧ NwI h0 h r l := by
  refine bm_of cF100 ?_
  obtain ⟨w, e1, n1⟩ := hl.clipO (kd := .i64) (kd' := .i64)
  simp +contextual (maxSteps := 2000000) only [go_sem, Nat.reduceEqDiff, reduceCtorEq, Nat.reduceAdd, Nat.reduceLeDiff, F100, hl.length, e1]
  exact n1
theorem c_clipbI {h0 : H} (l : List Int) (v : AV) (h : H) (hl : NwI h0 h v l) : callK (bm Try.prog 100 [v] h) fun r h' => h' = h ∧ NwI h0 h r l ∧ ∀ i, baseOf r = some i → baseOf v = some i := by
  refine bm_of cF100 ?_
  obtain ⟨w, e1, n1⟩ := hl.clipB (kd := .i64) (kd' := .i64)
  simp +contextual (maxSteps := 2000000) only [go_sem, Nat.reduceEqDiff, reduceCtorEq, Nat.reduceAdd, Nat.reduceLeDiff, F100, hl.length, e1]
  exact n1
/-! slices.Clone(()int,int) -/
def L101_0 : List AStep := [⟨.mov (.c (.sl none 0 (some 0))), (some 2), none, []⟩]
theorem v101_0 : VS L101_0.eq_1 := rfl
def L101_1 : List AStep := [⟨.mov (.t 0), (some 3), none, []⟩, ⟨.eqnil false (.t 3) (.c (.sl none 0 (some 0))), (some 4), none, []⟩]
theorem v101_1 : VS L101_1.eq_1 := rfl
def L101_2 : List AStep := [⟨.mov (.c (.sl none 0 (some 0))), (some 2), none, []⟩]
theorem v101_2 : VS L101_2.eq_1 := rfl
def L101_3 : List AStep := [⟨.append 3 1 8 (.t 5) (.t 6), (some 7), none, []⟩, ⟨.mov (.t 7), (some 2), none, []⟩]
theorem v101_3 : VS L101_3.eq_1 := rfl
def L101_4 : List AStep := ⟨.buildSlice 3 0 [(.int .i64 0)] [], (some 5), none, []⟩ :: ⟨.mov (.t 0), (some 6), none, []⟩ :: L101_3
theorem v101_4 : VS L101_4.eq_1 := rfl
def C101_0 : ACode := .seq (.reg L101_2) .ret
theorem u101_0 : VC C101_0.eq_1 := rfl
def C101_1 : ACode := .cond (.t 4) C101_0 .skip
theorem u101_1 : VC C101_1.eq_1 := rfl
def C101_2 : ACode := .seq (.reg L101_1) C101_1
theorem u101_2 : VC C101_2.eq_1 := rfl
def C101_3 : ACode := .seq (.reg L101_4) .ret
theorem u101_3 : VC C101_3.eq_1 := rfl
def C101_4 : ACode := .seq C101_2 C101_3
theorem u101_4 : VC C101_4.eq_1 := rfl
def C101_5 : ACode := .seq (.reg L101_0) C101_4
theorem u101_5 : VC C101_5.eq_1 := rfl
def F101 : AFunc := ⟨8, [.tmp 2], C101_5⟩
theorem cF101 : compB Try.prog 101 = some F101 := by kernel_rfl
attribute [local go_sem ↓] u101_0 u101_1 u101_2 u101_3 u101_4 u101_5 v101_0 v101_1 v101_2 v101_3 v101_4
theorem c_clone0I (l : List Int) (v : AV) (h : H) (hl : SlI h v l) (hn : l.length ≤ big) : callK (bm Try.prog 101 [v] h) fun r h' => Grow h h' ∧ NwI h h' r l := by
  refine bm_of cF101 ?_
  obtain ⟨b, e1, e2⟩ := hl.isNil
  simp +contextual (maxSteps := 2000000) only [go_sem, Nat.reduceEqDiff, reduceCtorEq, Nat.reduceAdd, Nat.reduceLeDiff, F101, e1]
  cases b with
  | true =>
    obtain rfl := e2 rfl
    simp +contextual (maxSteps := 2000000) only [go_sem, Nat.reduceEqDiff, reduceCtorEq, Nat.reduceAdd, Nat.reduceLeDiff]
    exact ⟨Grow.refl h, .nil⟩
  | false =>
    simp +contextual (maxSteps := 2000000) only [go_sem, Nat.reduceEqDiff, reduceCtorEq, Nat.reduceAdd, Nat.reduceLeDiff]
    refine wp_lit (enc := encI) (k := 1) (l := []) rfl rfl ?_
    intro h1 w g1 n1 _
    simp +contextual (maxSteps := 2000000) only [go_sem, Nat.reduceEqDiff, reduceCtorEq, Nat.reduceAdd, Nat.reduceLeDiff]
    refine wp_append lenI n1 (hl.grow g1) g1 (by have := hn; unfold big at this; simp; omega) ?_
    intro h2 s g2 n2 _ _
    simp +contextual (maxSteps := 2000000) only [go_sem, Nat.reduceEqDiff, reduceCtorEq, Nat.reduceAdd, Nat.reduceLeDiff]
    exact gcK_of ⟨g2, n2⟩ (fun hs _ => ⟨Grow.refl h, n2.scalar hs h⟩)
/-! impl.clone(int) -/
def L74_0 : List AStep := [⟨.mov (.c (.sl none 0 (some 0))), (some 2), none, []⟩]
theorem v74_0 : VS L74_0.eq_1 := rfl
def L74_1 : List AStep := [⟨.call 100 [(.t 4)], (some 5), none, []⟩, ⟨.mov (.t 5), (some 2), none, []⟩]
theorem v74_1 : VS L74_1.eq_1 := rfl
def L74_2 : List AStep := ⟨.mov (.t 0), (some 3), none, []⟩ :: ⟨.call 101 [(.t 3)], (some 4), none, []⟩ :: L74_1
theorem v74_2 : VS L74_2.eq_1 := rfl
def C74_0 : ACode := .seq (.reg L74_2) .ret
theorem u74_0 : VC C74_0.eq_1 := rfl
def C74_1 : ACode := .seq (.reg L74_0) C74_0
theorem u74_1 : VC C74_1.eq_1 := rfl
def F74 : AFunc := ⟨6, [.tmp 2], C74_1⟩
theorem cF74 : compB Try.prog 74 = some F74 := by kernel_rfl
attribute [local go_sem ↓] u74_0 u74_1 v74_0 v74_1 v74_2
theorem c_cloneI (l : List Int) (v : AV) (h : H) (hl : SlI h v l) (hn : l.length ≤ big) : callK (bm Try.prog 74 [v] h) fun r h' => Grow h h' ∧ NwI h h' r l := by
  refine bm_of cF74 ?_
  simp +contextual (maxSteps := 2000000) only [go_sem, Nat.reduceEqDiff, reduceCtorEq, Nat.reduceAdd, Nat.reduceLeDiff, F74]
  refine wp_call (c_clone0I l v h hl hn) ?_
  rintro r h1 ⟨g1, n1⟩
  simp +contextual (maxSteps := 2000000) only [go_sem, Nat.reduceEqDiff, reduceCtorEq, Nat.reduceAdd, Nat.reduceLeDiff]
  refine wp_call (c_clipI l r h1 n1) ?_
  rintro r2 h2 ⟨rfl, n2⟩
  simp +contextual (maxSteps := 2000000) only [go_sem, Nat.reduceEqDiff, reduceCtorEq, Nat.reduceAdd, Nat.reduceLeDiff]
  exact gcK_of ⟨g1, n2⟩ (fun hs _ => ⟨Grow.refl h, n2.scalar hs h⟩)
/-! slices.Clip(()impl.Pair,impl.Pair) -/
def L76_0 : List AStep := [⟨.mov (.c (.sl none 0 (some 0))), (some 2), none, []⟩]
theorem v76_0 : VS L76_0.eq_1 := rfl
def L76_1 : List AStep := [⟨.mov (.t 8), (some 2), none, []⟩]
theorem v76_1 : VS L76_1.eq_1 := rfl
def L76_2 : List AStep := ⟨.len (.t 6), (some 7), none, []⟩ :: ⟨.slice 98 2 (.t 3) none (some (.t 5)) (some (.t 7)), (some 8), none, []⟩ :: L76_1
theorem v76_2 : VS L76_2.eq_1 := rfl
def L76_3 : List AStep := ⟨.len (.t 4), (some 5), none, []⟩ :: ⟨.mov (.t 0), (some 6), none, []⟩ :: L76_2
theorem v76_3 : VS L76_3.eq_1 := rfl
def L76_4 : List AStep := ⟨.mov (.t 0), (some 3), none, []⟩ :: ⟨.mov (.t 0), (some 4), none, []⟩ :: L76_3
theorem v76_4 : VS L76_4.eq_1 := rfl
def C76_0 : ACode := .seq (.reg L76_4) .ret
theorem u76_0 : VC C76_0.eq_1 := rfl
def C76_1 : ACode := .seq (.reg L76_0) C76_0
theorem u76_1 : VC C76_1.eq_1 := rfl
def F76 : AFunc := ⟨9, [.tmp 2], C76_1⟩
theorem cF76 : compB Try.prog 76 = some F76 := by kernel_rfl
attribute [local go_sem ↓] u76_0 u76_1 v76_0 v76_1 v76_2 v76_3 v76_4
theorem c_clipP {h0 : H} (l : List Pair) (v : AV) (h : H) (hl : NwP h0 h v l) : callK (bm Try.prog 76 [v] h) fun r h' => h' = h ∧ NwP h0 h r l := by
  refine bm_of cF76 ?_
  obtain ⟨w, e1, n1⟩ := hl.clipO (kd := .i64) (kd' := .i64)
  simp +contextual (maxSteps := 2000000) only [go_sem, Nat.reduceEqDiff, reduceCtorEq, Nat.reduceAdd, Nat.reduceLeDiff, F76, hl.length, e1]
  exact n1
theorem c_clipbP {h0 : H} (l : List Pair) (v : AV) (h : H) (hl : NwP h0 h v l) : callK (bm Try.prog 76 [v] h) fun r h' => h' = h ∧ NwP h0 h r l ∧ ∀ i, baseOf r = some i → baseOf v = some i := by
  refine bm_of cF76 ?_
  obtain ⟨w, e1, n1⟩ := hl.clipB (kd := .i64) (kd' := .i64)
  simp +contextual (maxSteps := 2000000) only [go_sem, Nat.reduceEqDiff, reduceCtorEq, Nat.reduceAdd, Nat.reduceLeDiff, F76, hl.length, e1]
  exact n1
/-! slices.Clip(()impl.Problem,impl.Problem) -/
def L78_0 : List AStep := [⟨.mov (.c (.sl none 0 (some 0))), (some 2), none, []⟩]
theorem v78_0 : VS L78_0.eq_1 := rfl
def L78_1 : List AStep := [⟨.mov (.t 8), (some 2), none, []⟩]
theorem v78_1 : VS L78_1.eq_1 := rfl
def L78_2 : List AStep := ⟨.len (.t 6), (some 7), none, []⟩ :: ⟨.slice 82 2 (.t 3) none (some (.t 5)) (some (.t 7)), (some 8), none, []⟩ :: L78_1
theorem v78_2 : VS L78_2.eq_1 := rfl
def L78_3 : List AStep := ⟨.len (.t 4), (some 5), none, []⟩ :: ⟨.mov (.t 0), (some 6), none, []⟩ :: L78_2
theorem v78_3 : VS L78_3.eq_1 := rfl
def L78_4 : List AStep := ⟨.mov (.t 0), (some 3), none, []⟩ :: ⟨.mov (.t 0), (some 4), none, []⟩ :: L78_3
theorem v78_4 : VS L78_4.eq_1 := rfl
def C78_0 : ACode := .seq (.reg L78_4) .ret
theorem u78_0 : VC C78_0.eq_1 := rfl
def C78_1 : ACode := .seq (.reg L78_0) C78_0
theorem u78_1 : VC C78_1.eq_1 := rfl
def F78 : AFunc := ⟨9, [.tmp 2], C78_1⟩
theorem cF78 : compB Try.prog 78 = some F78 := by kernel_rfl
attribute [local go_sem ↓] u78_0 u78_1 v78_0 v78_1 v78_2 v78_3 v78_4
theorem c_clipB {h0 : H} (l : List Problem) (v : AV) (h : H) (hl : NwB h0 h v l) : callK (bm Try.prog 78 [v] h) fun r h' => h' = h ∧ NwB h0 h r l := by
  refine bm_of cF78 ?_
  obtain ⟨w, e1, n1⟩ := hl.clipO (kd := .i64) (kd' := .i64)
  simp +contextual (maxSteps := 2000000) only [go_sem, Nat.reduceEqDiff, reduceCtorEq, Nat.reduceAdd, Nat.reduceLeDiff, F78, hl.length, e1]
  exact n1
theorem c_clipbB {h0 : H} (l : List Problem) (v : AV) (h : H) (hl : NwB h0 h v l) : callK (bm Try.prog 78 [v] h) fun r h' => h' = h ∧ NwB h0 h r l ∧ ∀ i, baseOf r = some i → baseOf v = some i := by
  refine bm_of cF78 ?_
  obtain ⟨w, e1, n1⟩ := hl.clipB (kd := .i64) (kd' := .i64)
  simp +contextual (maxSteps := 2000000) only [go_sem, Nat.reduceEqDiff, reduceCtorEq, Nat.reduceAdd, Nat.reduceLeDiff, F78, hl.length, e1]
  exact n1
end Go.Proofs.Ytdalgphpacikkaa.Am
