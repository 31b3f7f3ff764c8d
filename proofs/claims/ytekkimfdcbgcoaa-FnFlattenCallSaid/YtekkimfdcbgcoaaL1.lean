/- Contracts of the laws: comparisons. -/
import Derived.Test.YtekkimfdcbgcoaaDat
namespace Go.Proofs.Ytekkimfdcbgcoaa.Am
open Go
set_option maxRecDepth 100000
set_option maxHeartbeats 4000000
set_option linter.unusedSimpArgs false
set_option linter.unusedVariables false
attribute [local go_sem ↓] bv_t bv_c ev_t ev_c put_same put_ne put_none kill_at pro_at lb_same lb_ne start_zero start_succ wpC_seq wpC_reg wpC_cond wpC_block wpC_skip wpC_exit wpC_ret thenQ_normal thenQ_exit thenQ_ret inBlk_normal inBlk_exit inBlk_ret wpS_nil wpS_step wpS_again wpS_guard wpO_mov wpO_load wpO_faddr wpO_nilCheck wpO_pick wpO_build wpO_bin wpO_eqb wpO_eqst wpO_eqnil wpO_not wpO_conv wpO_bytesStr wpO_iaddr wpO_idxStr wpO_field wpO_extract wpO_len wpO_lenStr wpO_cap wpO_min wpO_slice wpO_sliceStr wpO_alloc wpO_box wpO_store wpO_call wpO_callv wpO_mkfn wpO_buildSlice wpO_mkslice wpO_append wpO_appz proA_nil proA_cons tmpX_nil tmpX_tmp tmpX_cell doneB_normal doneB_ret agK_cons agK_nil agK_guard agG_tt agG_ff agG_tf agG_ft agG_undef pureB_load results_one results_two results_nil resBs_cons resBs_nil resB_tmp resB_cell
attribute [local go_sem] kill_v kill_lp_ne kill_lp_same pro_v pro_lp_same pro_lp_ne av_v av_lp optB_some optX_some valX_eq ldX_lp ldX_v faX_lp faX_v ncX_lp ncX_ptr ncX_fn boxK_one boxK_agg stL_some stK_lp_one stK_lp_agg stK_v_one stK_v_agg proM_v proM_lp callG_mk callVG_mk callvK_fn fnG_mk ptrsA_nil ptrsA_cons callH_some whenA_true whenA_false guardH_tt guardH_ff guardH_tf guardH_ft guardH_undef agV_one agV_agg lenO_sl lenStrO_str notO_bool pickO_bool convO_int eqbO_bool eqnilO_sl extractO_tup capO_sl minO_int loadL_one loadL_all storeL_eq fillA_nil fillA_one fillA_agg nat_ge neg_ge nat_lt neg_lt buildO bin_add bin_sub bin_mul bin_eql bin_neq bin_lss bin_leq bin_gtr bin_geq str_eql str_neq str_lss str_leq str_gtr str_geq retK_some endK_mk gcK_same gcK_int gcK_bool tupO_one tupO_agg rdy_self ib ii Option.map_none Option.map_some Option.some.injEq exists_eq_left' exists_eq_left ne_eq not_false_eq_true if_true if_false List.map_cons List.map_nil List.getElem?_cons_zero List.getElem?_cons_succ List.length_cons List.length_nil List.take_succ_cons List.take_zero List.take_nil List.drop_succ_cons List.drop_zero List.drop_nil List.cons_append List.nil_append List.append_nil List.set_cons_zero List.set_cons_succ Nat.zero_add forall_const true_and and_true and_self Bool.false_eq_true false_implies true_implies implies_true Bool.not_true Bool.not_false Bool.not_eq_true' Bool.not_eq_false' beq_self_eq_true Bool.bne_true Bool.bne_false
attribute [local go_sem] lenI lenS lenP lenQ lenB lenL lenT encI_0 encS_0 encP_0 encP_1 encQ_0 encQ_1 encQ_2 encQ_3 encB_0 encB_1 encL_0 encL_1 encT_0 encT_1
attribute [local go_sem low] whenA_bool guardH_bool
/-! laws.equalInts -/
def L20_0 : List AStep := [⟨.mov (.c (.bool false)), (some 4), none, []⟩]
theorem v20_0 : VS L20_0.eq_1 := rfl
def L20_1 : List AStep := [⟨.bin .neq (.t 7) (.t 9), (some 10), none, []⟩]
theorem v20_1 : VS L20_1.eq_1 := rfl
def L20_2 : List AStep := ⟨.mov (.t 1), (some 8), none, []⟩ :: ⟨.len (.t 8), (some 9), none, []⟩ :: L20_1
theorem v20_2 : VS L20_2.eq_1 := rfl
def L20_3 : List AStep := ⟨.mov (.t 0), (some 6), none, []⟩ :: ⟨.len (.t 6), (some 7), none, []⟩ :: L20_2
theorem v20_3 : VS L20_3.eq_1 := rfl
def L20_4 : List AStep := [⟨.mov (.c (.bool false)), (some 4), none, []⟩]
theorem v20_4 : VS L20_4.eq_1 := rfl
def L20_5 : List AStep := [⟨.mov (.c (.int .i64 0)), (some 5), none, []⟩]
theorem v20_5 : VS L20_5.eq_1 := rfl
def L20_6 : List AStep := [⟨.len (.t 12), (some 13), none, []⟩, ⟨.bin .lss (.t 11) (.t 13), (some 14), none, []⟩]
theorem v20_6 : VS L20_6.eq_1 := rfl
def L20_7 : List AStep := ⟨.mov (.t 5), (some 11), none, []⟩ :: ⟨.mov (.t 0), (some 12), none, []⟩ :: L20_6
theorem v20_7 : VS L20_7.eq_1 := rfl
def L20_8 : List AStep := [⟨.bin .neq (.t 20) (.t 24), (some 25), none, []⟩]
theorem v20_8 : VS L20_8.eq_1 := rfl
def L20_9 : List AStep := ⟨.iaddr 1 (.t 21) (.t 22), (some 23), none, []⟩ :: ⟨.load 1 false (.t 23), (some 24), none, []⟩ :: L20_8
theorem v20_9 : VS L20_9.eq_1 := rfl
def L20_10 : List AStep := ⟨.mov (.t 1), (some 21), none, []⟩ :: ⟨.mov (.t 5), (some 22), none, []⟩ :: L20_9
theorem v20_10 : VS L20_10.eq_1 := rfl
def L20_11 : List AStep := ⟨.iaddr 1 (.t 17) (.t 18), (some 19), none, []⟩ :: ⟨.load 1 false (.t 19), (some 20), none, []⟩ :: L20_10
theorem v20_11 : VS L20_11.eq_1 := rfl
def L20_12 : List AStep := ⟨.mov (.t 0), (some 17), none, []⟩ :: ⟨.mov (.t 5), (some 18), none, []⟩ :: L20_11
theorem v20_12 : VS L20_12.eq_1 := rfl
def L20_13 : List AStep := [⟨.mov (.c (.bool false)), (some 4), none, []⟩]
theorem v20_13 : VS L20_13.eq_1 := rfl
def L20_14 : List AStep := [⟨.mov (.t 16), (some 5), none, []⟩]
theorem v20_14 : VS L20_14.eq_1 := rfl
def L20_15 : List AStep := ⟨.mov (.t 5), (some 15), none, []⟩ :: ⟨.bin .add (.t 15) (.c (.int .i64 1)), (some 16), none, []⟩ :: L20_14
theorem v20_15 : VS L20_15.eq_1 := rfl
def L20_16 : List AStep := [⟨.mov (.c (.bool true)), (some 4), none, []⟩]
theorem v20_16 : VS L20_16.eq_1 := rfl
def C20_0 : ACode := .seq (.reg L20_4) .ret
theorem u20_0 : VC C20_0.eq_1 := rfl
def C20_1 : ACode := .cond (.t 10) C20_0 .skip
theorem u20_1 : VC C20_1.eq_1 := rfl
def C20_2 : ACode := .seq (.reg L20_3) C20_1
theorem u20_2 : VC C20_2.eq_1 := rfl
def C20_3 : ACode := .cond (.t 14) .skip (.exit 0)
theorem u20_3 : VC C20_3.eq_1 := rfl
def C20_4 : ACode := .seq (.reg L20_7) C20_3
theorem u20_4 : VC C20_4.eq_1 := rfl
def C20_5 : ACode := .seq (.reg L20_13) .ret
theorem u20_5 : VC C20_5.eq_1 := rfl
def C20_6 : ACode := .cond (.t 25) C20_5 .skip
theorem u20_6 : VC C20_6.eq_1 := rfl
def C20_7 : ACode := .seq (.reg L20_12) C20_6
theorem u20_7 : VC C20_7.eq_1 := rfl
def C20_8 : ACode := .block 1 C20_7
theorem u20_8 : VC C20_8.eq_1 := rfl
def C20_9 : ACode := .seq C20_8 (.reg L20_15)
theorem u20_9 : VC C20_9.eq_1 := rfl
def C20_10 : ACode := .seq C20_4 C20_9
theorem u20_10 : VC C20_10.eq_1 := rfl
def C20_11 : ACode := .block 0 (.loop C20_10)
theorem u20_11 : VC C20_11.eq_1 := rfl
def C20_12 : ACode := .seq (.reg L20_5) C20_11
theorem u20_12 : VC C20_12.eq_1 := rfl
def C20_13 : ACode := .seq (.reg L20_16) .ret
theorem u20_13 : VC C20_13.eq_1 := rfl
def C20_14 : ACode := .seq C20_12 C20_13
theorem u20_14 : VC C20_14.eq_1 := rfl
def C20_15 : ACode := .seq C20_2 C20_14
theorem u20_15 : VC C20_15.eq_1 := rfl
def C20_16 : ACode := .seq (.reg L20_0) C20_15
theorem u20_16 : VC C20_16.eq_1 := rfl
def F20 : AFunc := ⟨26, [.tmp 4], C20_16⟩
theorem cF20 : compB Try.prog 20 = some F20 := by kernel_rfl
attribute [local go_sem ↓] u20_0 u20_1 u20_2 u20_3 u20_4 u20_5 u20_6 u20_7 u20_8 u20_9 u20_10 u20_11 u20_12 u20_13 u20_14 u20_15 u20_16 v20_0 v20_1 v20_2 v20_3 v20_4 v20_5 v20_6 v20_7 v20_8 v20_9 v20_10 v20_11 v20_12 v20_13 v20_14 v20_15 v20_16
theorem c_equalInts (l m : List Int) (v w : AV) (h : H) (hl : SlI h v l) (hm : SlI h w m) (hn : l.length ≤ big) : bm Try.prog 20 [v, w] h = some (ib (decide (l = m)), h) := by
  refine bm_eq cF20 ?_
  by_cases hlen : l.length = m.length
  case neg =>
    have e1 : decide ((l.length : Int) = (m.length : Int)) = false := decide_eq_false (by omega)
    simp +contextual (maxSteps := 2000000) only [go_sem, Nat.reduceEqDiff, reduceCtorEq, Nat.reduceAdd, Nat.reduceLeDiff, F20, hl.len, hm.len, e1]
    rw [ne_len e1]
  have e1 : decide ((l.length : Int) = (m.length : Int)) = true := decide_eq_true (by omega)
  simp +contextual (maxSteps := 2000000) only [go_sem, Nat.reduceEqDiff, reduceCtorEq, Nat.reduceAdd, Nat.reduceLeDiff, F20, hl.len, hm.len, e1]
  refine wpC_loop (fun i T L h' => h' = h ∧ T 0 = .v v ∧ T 1 = .v w ∧ T 5 = .v (.one (.int .i64 i)) ∧ Upto (eqAt l m) i) l.length ?_ ?_ (Nat.zero_le _) ?_
  · rintro i T L h' hi ⟨rfl, t0, t1, t5, hu⟩
    have him : i < m.length := by omega
    have e2 := eqAt_eq hi him
    simp +contextual (maxSteps := 2000000) only [go_sem, Nat.reduceEqDiff, reduceCtorEq, Nat.reduceAdd, Nat.reduceLeDiff, t0, t1, t5, hl.len, hm.len, hl.iaddr hi, hm.iaddr him, hl.oneO hi, hm.oneO him, lt_true hi]
    (repeat' (first | refine And.intro ?_ ?_ | intro _)) <;> first | rfl | rw [wrap_next hi (big_lt hn)] | (refine hu.next ?_; rw [e2]; (simp_all; done)) | (rw [ne_at (l := l) (m := m) (i := i)]; rw [e2]; (simp_all; done))
  · rintro T L h' ⟨rfl, t0, t1, t5, hu⟩
    simp +contextual (maxSteps := 2000000) only [go_sem, Nat.reduceEqDiff, reduceCtorEq, Nat.reduceAdd, Nat.reduceLeDiff, t0, t1, t5, hl.len, hm.len, lt_false, decide_eq_true (eq_of_upto hlen hu)]
  · simp +contextual (maxSteps := 2000000) only [go_sem, Nat.reduceEqDiff, reduceCtorEq, Nat.reduceAdd, Nat.reduceLeDiff]
    (repeat' (first | refine And.intro ?_ ?_ | intro _)) <;> first | rfl | exact Upto.zero
/-! laws.equalPairs -/
def L56_0 : List AStep := [⟨.mov (.c (.bool false)), (some 4), none, []⟩]
theorem v56_0 : VS L56_0.eq_1 := rfl
def L56_1 : List AStep := [⟨.bin .neq (.t 7) (.t 9), (some 10), none, []⟩]
theorem v56_1 : VS L56_1.eq_1 := rfl
def L56_2 : List AStep := ⟨.mov (.t 1), (some 8), none, []⟩ :: ⟨.len (.t 8), (some 9), none, []⟩ :: L56_1
theorem v56_2 : VS L56_2.eq_1 := rfl
def L56_3 : List AStep := ⟨.mov (.t 0), (some 6), none, []⟩ :: ⟨.len (.t 6), (some 7), none, []⟩ :: L56_2
theorem v56_3 : VS L56_3.eq_1 := rfl
def L56_4 : List AStep := [⟨.mov (.c (.bool false)), (some 4), none, []⟩]
theorem v56_4 : VS L56_4.eq_1 := rfl
def L56_5 : List AStep := [⟨.mov (.c (.int .i64 0)), (some 5), none, []⟩]
theorem v56_5 : VS L56_5.eq_1 := rfl
def L56_6 : List AStep := [⟨.len (.t 12), (some 13), none, []⟩, ⟨.bin .lss (.t 11) (.t 13), (some 14), none, []⟩]
theorem v56_6 : VS L56_6.eq_1 := rfl
def L56_7 : List AStep := ⟨.mov (.t 5), (some 11), none, []⟩ :: ⟨.mov (.t 0), (some 12), none, []⟩ :: L56_6
theorem v56_7 : VS L56_7.eq_1 := rfl
def L56_8 : List AStep := [⟨.eqst true [2, 1] (.t 20) (.t 24), (some 25), none, []⟩]
theorem v56_8 : VS L56_8.eq_1 := rfl
def L56_9 : List AStep := ⟨.iaddr 2 (.t 21) (.t 22), (some 23), none, []⟩ :: ⟨.load 2 true (.t 23), (some 24), none, []⟩ :: L56_8
theorem v56_9 : VS L56_9.eq_1 := rfl
def L56_10 : List AStep := ⟨.mov (.t 1), (some 21), none, []⟩ :: ⟨.mov (.t 5), (some 22), none, []⟩ :: L56_9
theorem v56_10 : VS L56_10.eq_1 := rfl
def L56_11 : List AStep := ⟨.iaddr 2 (.t 17) (.t 18), (some 19), none, []⟩ :: ⟨.load 2 true (.t 19), (some 20), none, []⟩ :: L56_10
theorem v56_11 : VS L56_11.eq_1 := rfl
def L56_12 : List AStep := ⟨.mov (.t 0), (some 17), none, []⟩ :: ⟨.mov (.t 5), (some 18), none, []⟩ :: L56_11
theorem v56_12 : VS L56_12.eq_1 := rfl
def L56_13 : List AStep := [⟨.mov (.c (.bool false)), (some 4), none, []⟩]
theorem v56_13 : VS L56_13.eq_1 := rfl
def L56_14 : List AStep := [⟨.mov (.t 16), (some 5), none, []⟩]
theorem v56_14 : VS L56_14.eq_1 := rfl
def L56_15 : List AStep := ⟨.mov (.t 5), (some 15), none, []⟩ :: ⟨.bin .add (.t 15) (.c (.int .i64 1)), (some 16), none, []⟩ :: L56_14
theorem v56_15 : VS L56_15.eq_1 := rfl
def L56_16 : List AStep := [⟨.mov (.c (.bool true)), (some 4), none, []⟩]
theorem v56_16 : VS L56_16.eq_1 := rfl
def C56_0 : ACode := .seq (.reg L56_4) .ret
theorem u56_0 : VC C56_0.eq_1 := rfl
def C56_1 : ACode := .cond (.t 10) C56_0 .skip
theorem u56_1 : VC C56_1.eq_1 := rfl
def C56_2 : ACode := .seq (.reg L56_3) C56_1
theorem u56_2 : VC C56_2.eq_1 := rfl
def C56_3 : ACode := .cond (.t 14) .skip (.exit 0)
theorem u56_3 : VC C56_3.eq_1 := rfl
def C56_4 : ACode := .seq (.reg L56_7) C56_3
theorem u56_4 : VC C56_4.eq_1 := rfl
def C56_5 : ACode := .seq (.reg L56_13) .ret
theorem u56_5 : VC C56_5.eq_1 := rfl
def C56_6 : ACode := .cond (.t 25) C56_5 .skip
theorem u56_6 : VC C56_6.eq_1 := rfl
def C56_7 : ACode := .seq (.reg L56_12) C56_6
theorem u56_7 : VC C56_7.eq_1 := rfl
def C56_8 : ACode := .block 1 C56_7
theorem u56_8 : VC C56_8.eq_1 := rfl
def C56_9 : ACode := .seq C56_8 (.reg L56_15)
theorem u56_9 : VC C56_9.eq_1 := rfl
def C56_10 : ACode := .seq C56_4 C56_9
theorem u56_10 : VC C56_10.eq_1 := rfl
def C56_11 : ACode := .block 0 (.loop C56_10)
theorem u56_11 : VC C56_11.eq_1 := rfl
def C56_12 : ACode := .seq (.reg L56_5) C56_11
theorem u56_12 : VC C56_12.eq_1 := rfl
def C56_13 : ACode := .seq (.reg L56_16) .ret
theorem u56_13 : VC C56_13.eq_1 := rfl
def C56_14 : ACode := .seq C56_12 C56_13
theorem u56_14 : VC C56_14.eq_1 := rfl
def C56_15 : ACode := .seq C56_2 C56_14
theorem u56_15 : VC C56_15.eq_1 := rfl
def C56_16 : ACode := .seq (.reg L56_0) C56_15
theorem u56_16 : VC C56_16.eq_1 := rfl
def F56 : AFunc := ⟨26, [.tmp 4], C56_16⟩
theorem cF56 : compB Try.prog 56 = some F56 := by kernel_rfl
attribute [local go_sem ↓] u56_0 u56_1 u56_2 u56_3 u56_4 u56_5 u56_6 u56_7 u56_8 u56_9 u56_10 u56_11 u56_12 u56_13 u56_14 u56_15 u56_16 v56_0 v56_1 v56_2 v56_3 v56_4 v56_5 v56_6 v56_7 v56_8 v56_9 v56_10 v56_11 v56_12 v56_13 v56_14 v56_15 v56_16
theorem c_equalPairs (l m : List Pair) (v w : AV) (h : H) (hl : SlP h v l) (hm : SlP h w m) (hn : l.length ≤ big) : bm Try.prog 56 [v, w] h = some (ib (decide (l = m)), h) := by
  refine bm_eq cF56 ?_
  by_cases hlen : l.length = m.length
  case neg =>
    have e1 : decide ((l.length : Int) = (m.length : Int)) = false := decide_eq_false (by omega)
    simp +contextual (maxSteps := 2000000) only [go_sem, Nat.reduceEqDiff, reduceCtorEq, Nat.reduceAdd, Nat.reduceLeDiff, F56, hl.len, hm.len, e1]
    rw [ne_len e1]
  have e1 : decide ((l.length : Int) = (m.length : Int)) = true := decide_eq_true (by omega)
  simp +contextual (maxSteps := 2000000) only [go_sem, Nat.reduceEqDiff, reduceCtorEq, Nat.reduceAdd, Nat.reduceLeDiff, F56, hl.len, hm.len, e1]
  refine wpC_loop (fun i T L h' => h' = h ∧ T 0 = .v v ∧ T 1 = .v w ∧ T 5 = .v (.one (.int .i64 i)) ∧ Upto (eqAt l m) i) l.length ?_ ?_ (Nat.zero_le _) ?_
  · rintro i T L h' hi ⟨rfl, t0, t1, t5, hu⟩
    have him : i < m.length := by omega
    have e2 := eqAt_eq hi him
    simp +contextual (maxSteps := 2000000) only [go_sem, Nat.reduceEqDiff, reduceCtorEq, Nat.reduceAdd, Nat.reduceLeDiff, t0, t1, t5, hl.len, hm.len, hl.iaddr hi, hm.iaddr him, hl.whole hi, hm.whole him, eqP, lt_true hi]
    (repeat' (first | refine And.intro ?_ ?_ | intro _)) <;> first | rfl | rw [wrap_next hi (big_lt hn)] | (refine hu.next ?_; rw [e2]; (simp_all; done)) | (rw [ne_at (l := l) (m := m) (i := i)]; rw [e2]; (simp_all; done))
  · rintro T L h' ⟨rfl, t0, t1, t5, hu⟩
    simp +contextual (maxSteps := 2000000) only [go_sem, Nat.reduceEqDiff, reduceCtorEq, Nat.reduceAdd, Nat.reduceLeDiff, t0, t1, t5, hl.len, hm.len, lt_false, decide_eq_true (eq_of_upto hlen hu)]
  · simp +contextual (maxSteps := 2000000) only [go_sem, Nat.reduceEqDiff, reduceCtorEq, Nat.reduceAdd, Nat.reduceLeDiff]
    (repeat' (first | refine And.intro ?_ ?_ | intro _)) <;> first | rfl | exact Upto.zero
/-! laws.equalFlat -/
def L14_0 : List AStep := [⟨.mov (.c (.bool false)), (some 4), none, []⟩]
theorem v14_0 : VS L14_0.eq_1 := rfl
def L14_1 : List AStep := ⟨.box 27 (.t 0), (some 2), none, []⟩ :: ⟨.box 27 (.t 1), (some 3), none, []⟩ :: L14_0
theorem v14_1 : VS L14_1.eq_1 := rfl
def L14_2 : List AStep := [⟨.mov (.t 16), (some 4), none, []⟩]
theorem v14_2 : VS L14_2.eq_1 := rfl
def L14_3 : List AStep := ⟨.call 56 [(.t 12), (.t 14)], (some 15), (some (10, true)), []⟩ :: ⟨.pick (.t 10) (.t 15) (.c (.bool false)), (some 16), none, []⟩ :: L14_2
theorem v14_3 : VS L14_3.eq_1 := rfl
def L14_4 : List AStep := ⟨.faddr 1 (.t 3), (some 13), (some (10, true)), []⟩ :: ⟨.load 1 false (.t 13), (some 14), (some (10, true)), []⟩ :: L14_3
theorem v14_4 : VS L14_4.eq_1 := rfl
def L14_5 : List AStep := ⟨.faddr 1 (.t 2), (some 11), (some (10, true)), []⟩ :: ⟨.load 1 false (.t 11), (some 12), (some (10, true)), []⟩ :: L14_4
theorem v14_5 : VS L14_5.eq_1 := rfl
def L14_6 : List AStep := ⟨.call 20 [(.t 6), (.t 8)], (some 9), none, []⟩ :: ⟨.mov (.t 9), (some 10), none, []⟩ :: L14_5
theorem v14_6 : VS L14_6.eq_1 := rfl
def L14_7 : List AStep := ⟨.faddr 0 (.t 3), (some 7), none, []⟩ :: ⟨.load 1 false (.t 7), (some 8), none, []⟩ :: L14_6
theorem v14_7 : VS L14_7.eq_1 := rfl
def L14_8 : List AStep := ⟨.faddr 0 (.t 2), (some 5), none, []⟩ :: ⟨.load 1 false (.t 5), (some 6), none, []⟩ :: L14_7
theorem v14_8 : VS L14_8.eq_1 := rfl
def C14_0 : ACode := .seq (.reg L14_8) .ret
theorem u14_0 : VC C14_0.eq_1 := rfl
def C14_1 : ACode := .seq (.reg L14_1) C14_0
theorem u14_1 : VC C14_1.eq_1 := rfl
def F14 : AFunc := ⟨17, [.tmp 4], C14_1⟩
theorem cF14 : compB Try.prog 14 = some F14 := by kernel_rfl
attribute [local go_sem ↓] u14_0 u14_1 v14_0 v14_1 v14_2 v14_3 v14_4 v14_5 v14_6 v14_7 v14_8
theorem c_equalFlat (f g : Flat) (pv nv pw nw : CV) (h : H) (hp : SlI h (.one pv) f.pl) (hq : SlP h (.one nv) f.nl) (kp : SlI h (.one pw) g.pl) (kq : SlP h (.one nw) g.nl) (h1 : f.pl.length ≤ big) (h2 : f.nl.length ≤ big) :
    bm Try.prog 14 [.agg [pv, nv], .agg [pw, nw]] h = some (ib (decide (f = g)), h) := by
  refine bm_eq cF14 ?_
  obtain ⟨fp, fn⟩ := f
  obtain ⟨gp, gn⟩ := g
  simp +contextual (maxSteps := 2000000) only [go_sem, Nat.reduceEqDiff, reduceCtorEq, Nat.reduceAdd, Nat.reduceLeDiff, F14, c_equalInts _ _ _ _ _ hp kp h1, c_equalPairs _ _ _ _ _ hq kq h2, Flat.mk.injEq]
  try ((repeat' (first | refine And.intro ?_ ?_ | intro _)) <;> first | simp_all)
end Go.Proofs.Ytekkimfdcbgcoaa.Am
