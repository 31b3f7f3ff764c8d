/- Contracts of the laws: comparisons. -/
import Derived.Test.YtnphlonhogcedaaDat
namespace Go.Proofs.Ytnphlonhogcedaa.Am
open Go
set_option maxRecDepth 100000
set_option maxHeartbeats 4000000
set_option linter.unusedSimpArgs false
set_option linter.unusedVariables false
attribute [local go_sem ↓] bv_t bv_c ev_t ev_c put_same put_ne put_none kill_at pro_at lb_same lb_ne start_zero start_succ wpC_seq wpC_reg wpC_cond wpC_block wpC_skip wpC_exit wpC_ret thenQ_normal thenQ_exit thenQ_ret inBlk_normal inBlk_exit inBlk_ret wpS_nil wpS_step wpS_again wpS_guard wpO_mov wpO_load wpO_faddr wpO_nilCheck wpO_pick wpO_build wpO_bin wpO_eqb wpO_eqst wpO_eqnil wpO_not wpO_conv wpO_bytesStr wpO_iaddr wpO_idxStr wpO_field wpO_extract wpO_len wpO_lenStr wpO_cap wpO_min wpO_slice wpO_sliceStr wpO_alloc wpO_box wpO_store wpO_call wpO_callv wpO_mkfn wpO_buildSlice wpO_mkslice wpO_append wpO_appz proA_nil proA_cons tmpX_nil tmpX_tmp tmpX_cell doneB_normal doneB_ret agK_cons agK_nil agK_guard agG_tt agG_ff agG_tf agG_ft agG_undef pureB_load results_one results_two results_nil resBs_cons resBs_nil resB_tmp resB_cell
attribute [local go_sem] kill_v kill_lp_ne kill_lp_same pro_v pro_lp_same pro_lp_ne av_v av_lp optB_some optX_some valX_eq ldX_lp ldX_v faX_lp faX_v ncX_lp ncX_ptr ncX_fn boxK_one boxK_agg stL_some stK_lp_one stK_lp_agg stK_v_one stK_v_agg proM_v proM_lp callG_mk callVG_mk callvK_fn fnG_mk ptrsA_nil ptrsA_cons callH_some whenA_true whenA_false guardH_tt guardH_ff guardH_tf guardH_ft guardH_undef agV_one agV_agg lenO_sl lenStrO_str notO_bool pickO_bool convO_int eqbO_bool eqnilO_sl extractO_tup capO_sl minO_int loadL_one loadL_all storeL_eq fillA_nil fillA_one fillA_agg nat_ge neg_ge nat_lt neg_lt buildO bin_add bin_sub bin_mul bin_eql bin_neq bin_lss bin_leq bin_gtr bin_geq str_eql str_neq str_lss str_leq str_gtr str_geq retK_some endK_mk gcK_same gcK_int gcK_bool tupO_one tupO_agg rdy_self ib ii Option.map_none Option.map_some Option.some.injEq exists_eq_left' exists_eq_left ne_eq not_false_eq_true if_true if_false List.map_cons List.map_nil List.getElem?_cons_zero List.getElem?_cons_succ List.length_cons List.length_nil List.take_succ_cons List.take_zero List.take_nil List.drop_succ_cons List.drop_zero List.drop_nil List.cons_append List.nil_append List.append_nil List.set_cons_zero List.set_cons_succ Nat.zero_add forall_const true_and and_true and_self Bool.false_eq_true false_implies true_implies implies_true Bool.not_true Bool.not_false Bool.not_eq_true' Bool.not_eq_false' beq_self_eq_true Bool.bne_true Bool.bne_false
attribute [local go_sem] lenI lenS lenP lenQ lenB lenL lenT encI_0 encS_0 encP_0 encP_1 encQ_0 encQ_1 encQ_2 encQ_3 encB_0 encB_1 encL_0 encL_1 encT_0 encT_1
attribute [local go_sem low] whenA_bool guardH_bool
/-! laws.equalInts -/
def L20_0 : List AStep := [⟨.mov (.c (.bool false)), (some 4), none, []⟩]
theorem v20_0 : VS L20_0.eq_1 := rfl
def L20_1 : List AStep := [⟨.bin .neq (.t 7) (.t 9), (some 10), none, []⟩]
theorem v20_1 : VS L20_1.eq_1 := rfl
def L20_2 : List AStep := ⟨.mov (.t 1), (some 8), none, []⟩ :: ⟨.len (.t 8), (some 9), none, []⟩ :: L20_1
theorem v20_2 : VS L20_2.eq_1 := rfl
def L20_3 : List AStep := ⟨.mov (.t 0), (some 6), none, []⟩ :: ⟨.len (.t 6), (some 7), none, []⟩ :: L20_2
theorem v20_3 : VS L20_3.eq_1 := rfl
def L20_4 : List AStep := [⟨.mov (.c (.bool false)), (some 4), none, []⟩]
theorem v20_4 : VS L20_4.eq_1 := rfl
def L20_5 : List AStep := [⟨.mov (.c (.int .i64 0)), (some 5), none, []⟩]
theorem v20_5 : VS L20_5.eq_1 := rfl
def L20_6 : List AStep := [⟨.len (.t 12), (some 13), none, []⟩, ⟨.bin .lss (.t 11) (.t 13), (some 14), none, []⟩]
theorem v20_6 : VS L20_6.eq_1 := rfl
def L20_7 : List AStep := ⟨.mov (.t 5), (some 11), none, []⟩ :: ⟨.mov (.t 0), (some 12), none, []⟩ :: L20_6
theorem v20_7 : VS L20_7.eq_1 := rfl
def L20_8 : List AStep := [⟨.bin .neq (.t 20) (.t 24), (some 25), none, []⟩]
theorem v20_8 : VS L20_8.eq_1 := rfl
def L20_9 : List AStep := ⟨.iaddr 1 (.t 21) (.t 22), (some 23), none, []⟩ :: ⟨.load 1 false (.t 23), (some 24), none, []⟩ :: L20_8
theorem v20_9 : VS L20_9.eq_1 := rfl
def L20_10 : List AStep := ⟨.mov (.t 1), (some 21), none, []⟩ :: ⟨.mov (.t 5), (some 22), none, []⟩ :: L20_9
theorem v20_10 : VS L20_10.eq_1 := rfl
def L20_11 : List AStep := ⟨.iaddr 1 (.t 17) (.t 18), (some 19), none, []⟩ :: ⟨.load 1 false (.t 19), (some 20), none, []⟩ :: L20_10
theorem v20_11 : VS L20_11.eq_1 := rfl
def L20_12 : List AStep := ⟨.mov (.t 0), (some 17), none, []⟩ :: ⟨.mov (.t 5), (some 18), none, []⟩ :: L20_11
theorem v20_12 : VS L20_12.eq_1 := rfl
def L20_13 : List AStep := [⟨.mov (.c (.bool false)), (some 4), none, []⟩]
theorem v20_13 : VS L20_13.eq_1 := rfl
def L20_14 : List AStep := [⟨.mov (.t 16), (some 5), none, []⟩]
theorem v20_14 : VS L20_14.eq_1 := rfl
def L20_15 : List AStep := ⟨.mov (.t 5), (some 15), none, []⟩ :: ⟨.bin .add (.t 15) (.c (.int .i64 1)), (some 16), none, []⟩ :: L20_14
theorem v20_15 : VS L20_15.eq_1 := rfl
def L20_16 : List AStep := [⟨.mov (.c (.bool true)), (some 4), none, []⟩]
theorem v20_16 : VS L20_16.eq_1 := rfl
def C20_0 : ACode := .seq (.reg L20_4) .ret
theorem u20_0 : VC C20_0.eq_1 := rfl
def C20_1 : ACode := .cond (.t 10) C20_0 .skip
theorem u20_1 : VC C20_1.eq_1 := rfl
def C20_2 : ACode := .seq (.reg L20_3) C20_1
theorem u20_2 : VC C20_2.eq_1 := rfl
def C20_3 : ACode := .cond (.t 14) .skip (.exit 0)
theorem u20_3 : VC C20_3.eq_1 := rfl
def C20_4 : ACode := .seq (.reg L20_7) C20_3
theorem u20_4 : VC C20_4.eq_1 := rfl
def C20_5 : ACode := .seq (.reg L20_13) .ret
theorem u20_5 : VC C20_5.eq_1 := rfl
def C20_6 : ACode := .cond (.t 25) C20_5 .skip
theorem u20_6 : VC C20_6.eq_1 := rfl
def C20_7 : ACode := .seq (.reg L20_12) C20_6
theorem u20_7 : VC C20_7.eq_1 := rfl
def C20_8 : ACode := .block 1 C20_7
theorem u20_8 : VC C20_8.eq_1 := rfl
def C20_9 : ACode := .seq C20_8 (.reg L20_15)
theorem u20_9 : VC C20_9.eq_1 := rfl
def C20_10 : ACode := .seq C20_4 C20_9
theorem u20_10 : VC C20_10.eq_1 := rfl
def C20_11 : ACode := .block 0 (.loop C20_10)
theorem u20_11 : VC C20_11.eq_1 := rfl
def C20_12 : ACode := .seq (.reg L20_5) C20_11
theorem u20_12 : VC C20_12.eq_1 := rfl
def C20_13 : ACode := .seq (.reg L20_16) .ret
theorem u20_13 : VC C20_13.eq_1 := rfl
def C20_14 : ACode := .seq C20_12 C20_13
theorem u20_14 : VC C20_14.eq_1 := rfl
def C20_15 : ACode := .seq C20_2 C20_14
theorem u20_15 : VC C20_15.eq_1 := rfl
def C20_16 : ACode := .seq (.reg L20_0) C20_15
theorem u20_16 : VC C20_16.eq_1 := rfl
def F20 : AFunc := ⟨26, [.tmp 4], C20_16⟩
theorem cF20 : compB Try.prog 20 = some F20 := by kernel_rfl
attribute [local go_sem ↓] u20_0 u20_1 u20_2 u20_3 u20_4 u20_5 u20_6 u20_7 u20_8 u20_9 u20_10 u20_11 u20_12 u20_13 u20_14 u20_15 u20_16 v20_0 v20_1 v20_2 v20_3 v20_4 v20_5 v20_6 v20_7 v20_8 v20_9 v20_10 v20_11 v20_12 v20_13 v20_14 v20_15 v20_16
theorem c_equalInts (l m : List Int) (v w : AV) (h : H) (hl : SlI h v l) (hm : SlI h w m) (hn : l.length ≤ big) : bm Try.prog 20 [v, w] h = some (ib (decide (l = m)), h) := by
  refine bm_eq cF20 ?_
  by_cases hlen : l.length = m.length
  case neg =>
    have e1 : decide ((l.length : Int) = (m.length : Int)) = false := decide_eq_false (by omega)
    simp +contextual (maxSteps := 2000000) only [go_sem, Nat.reduceEqDiff, reduceCtorEq, Nat.reduceAdd, Nat.reduceLeDiff, F20, hl.len, hm.len, e1]
    rw [ne_len e1]
  have e1 : decide ((l.length : Int) = (m.length : Int)) = true := decide_eq_true (by omega)
  simp +contextual (maxSteps := 2000000) only [go_sem, Nat.reduceEqDiff, reduceCtorEq, Nat.reduceAdd, Nat.reduceLeDiff, F20, hl.len, hm.len, e1]
  refine wpC_loop (fun i T L h' => h' = h ∧ T 0 = .v v ∧ T 1 = .v w ∧ T 5 = .v (.one (.int .i64 i)) ∧ Upto (eqAt l m) i) l.length ?_ ?_ (Nat.zero_le _) ?_
  · rintro i T L h' hi ⟨rfl, t0, t1, t5, hu⟩
    have him : i < m.length := by omega
    have e2 := eqAt_eq hi him
    simp +contextual (maxSteps := 2000000) only [go_sem, Nat.reduceEqDiff, reduceCtorEq, Nat.reduceAdd, Nat.reduceLeDiff, t0, t1, t5, hl.len, hm.len, hl.iaddr hi, hm.iaddr him, hl.oneO hi, hm.oneO him, lt_true hi]
    (repeat' (first | refine And.intro ?_ ?_ | intro _)) <;> first | rfl | rw [wrap_next hi (big_lt hn)] | (refine hu.next ?_; rw [e2]; (simp_all; done)) | (rw [ne_at (l := l) (m := m) (i := i)]; rw [e2]; (simp_all; done))
  · rintro T L h' ⟨rfl, t0, t1, t5, hu⟩
    simp +contextual (maxSteps := 2000000) only [go_sem, Nat.reduceEqDiff, reduceCtorEq, Nat.reduceAdd, Nat.reduceLeDiff, t0, t1, t5, hl.len, hm.len, lt_false, decide_eq_true (eq_of_upto hlen hu)]
  · simp +contextual (maxSteps := 2000000) only [go_sem, Nat.reduceEqDiff, reduceCtorEq, Nat.reduceAdd, Nat.reduceLeDiff]
    (repeat' (first | refine And.intro ?_ ?_ | intro _)) <;> first | rfl | exact Upto.zero
/-! laws.equalPairs -/
def L80_0 : List AStep := [⟨.mov (.c (.bool false)), (some 4), none, []⟩]
theorem v80_0 : VS L80_0.eq_1 := rfl
def L80_1 : List AStep := [⟨.bin .neq (.t 7) (.t 9), (some 10), none, []⟩]
theorem v80_1 : VS L80_1.eq_1 := rfl
def L80_2 : List AStep := ⟨.mov (.t 1), (some 8), none, []⟩ :: ⟨.len (.t 8), (some 9), none, []⟩ :: L80_1
theorem v80_2 : VS L80_2.eq_1 := rfl
def L80_3 : List AStep := ⟨.mov (.t 0), (some 6), none, []⟩ :: ⟨.len (.t 6), (some 7), none, []⟩ :: L80_2
theorem v80_3 : VS L80_3.eq_1 := rfl
def L80_4 : List AStep := [⟨.mov (.c (.bool false)), (some 4), none, []⟩]
theorem v80_4 : VS L80_4.eq_1 := rfl
def L80_5 : List AStep := [⟨.mov (.c (.int .i64 0)), (some 5), none, []⟩]
theorem v80_5 : VS L80_5.eq_1 := rfl
def L80_6 : List AStep := [⟨.len (.t 12), (some 13), none, []⟩, ⟨.bin .lss (.t 11) (.t 13), (some 14), none, []⟩]
theorem v80_6 : VS L80_6.eq_1 := rfl
def L80_7 : List AStep := ⟨.mov (.t 5), (some 11), none, []⟩ :: ⟨.mov (.t 0), (some 12), none, []⟩ :: L80_6
theorem v80_7 : VS L80_7.eq_1 := rfl
def L80_8 : List AStep := [⟨.eqst true [2, 1] (.t 20) (.t 24), (some 25), none, []⟩]
theorem v80_8 : VS L80_8.eq_1 := rfl
def L80_9 : List AStep := ⟨.iaddr 2 (.t 21) (.t 22), (some 23), none, []⟩ :: ⟨.load 2 true (.t 23), (some 24), none, []⟩ :: L80_8
theorem v80_9 : VS L80_9.eq_1 := rfl
def L80_10 : List AStep := ⟨.mov (.t 1), (some 21), none, []⟩ :: ⟨.mov (.t 5), (some 22), none, []⟩ :: L80_9
theorem v80_10 : VS L80_10.eq_1 := rfl
def L80_11 : List AStep := ⟨.iaddr 2 (.t 17) (.t 18), (some 19), none, []⟩ :: ⟨.load 2 true (.t 19), (some 20), none, []⟩ :: L80_10
theorem v80_11 : VS L80_11.eq_1 := rfl
def L80_12 : List AStep := ⟨.mov (.t 0), (some 17), none, []⟩ :: ⟨.mov (.t 5), (some 18), none, []⟩ :: L80_11
theorem v80_12 : VS L80_12.eq_1 := rfl
def L80_13 : List AStep := [⟨.mov (.c (.bool false)), (some 4), none, []⟩]
theorem v80_13 : VS L80_13.eq_1 := rfl
def L80_14 : List AStep := [⟨.mov (.t 16), (some 5), none, []⟩]
theorem v80_14 : VS L80_14.eq_1 := rfl
def L80_15 : List AStep := ⟨.mov (.t 5), (some 15), none, []⟩ :: ⟨.bin .add (.t 15) (.c (.int .i64 1)), (some 16), none, []⟩ :: L80_14
theorem v80_15 : VS L80_15.eq_1 := rfl
def L80_16 : List AStep := [⟨.mov (.c (.bool true)), (some 4), none, []⟩]
theorem v80_16 : VS L80_16.eq_1 := rfl
def C80_0 : ACode := .seq (.reg L80_4) .ret
theorem u80_0 : VC C80_0.eq_1 := rfl
def C80_1 : ACode := .cond (.t 10) C80_0 .skip
theorem u80_1 : VC C80_1.eq_1 := rfl
def C80_2 : ACode := .seq (.reg L80_3) C80_1
theorem u80_2 : VC C80_2.eq_1 := rfl
def C80_3 : ACode := .cond (.t 14) .skip (.exit 0)
theorem u80_3 : VC C80_3.eq_1 := rfl
def C80_4 : ACode := .seq (.reg L80_7) C80_3
theorem u80_4 : VC C80_4.eq_1 := rfl
def C80_5 : ACode := .seq (.reg L80_13) .ret
theorem u80_5 : VC C80_5.eq_1 := rfl
def C80_6 : ACode := .cond (.t 25) C80_5 .skip
theorem u80_6 : VC C80_6.eq_1 := rfl
def C80_7 : ACode := .seq (.reg L80_12) C80_6
theorem u80_7 : VC C80_7.eq_1 := rfl
def C80_8 : ACode := .block 1 C80_7
theorem u80_8 : VC C80_8.eq_1 := rfl
def C80_9 : ACode := .seq C80_8 (.reg L80_15)
theorem u80_9 : VC C80_9.eq_1 := rfl
def C80_10 : ACode := .seq C80_4 C80_9
theorem u80_10 : VC C80_10.eq_1 := rfl
def C80_11 : ACode := .block 0 (.loop C80_10)
theorem u80_11 : VC C80_11.eq_1 := rfl
def C80_12 : ACode := .seq (.reg L80_5) C80_11
theorem u80_12 : VC C80_12.eq_1 := rfl
def C80_13 : ACode := .seq (.reg L80_16) .ret
theorem u80_13 : VC C80_13.eq_1 := rfl
def C80_14 : ACode := .seq C80_12 C80_13
theorem u80_14 : VC C80_14.eq_1 := rfl
def C80_15 : ACode := .seq C80_2 C80_14
theorem u80_15 : VC C80_15.eq_1 := rfl
def C80_16 : ACode := .seq (.reg L80_0) C80_15
theorem u80_16 : VC C80_16.eq_1 := rfl
def F80 : AFunc := ⟨26, [.tmp 4], C80_16⟩
theorem cF80 : compB Try.prog 80 = some F80 := by kernel_rfl
attribute [local go_sem ↓] u80_0 u80_1 u80_2 u80_3 u80_4 u80_5 u80_6 u80_7 u80_8 u80_9 u80_10 u80_11 u80_12 u80_13 u80_14 u80_15 u80_16 v80_0 v80_1 v80_2 v80_3 v80_4 v80_5 v80_6 v80_7 v80_8 v80_9 v80_10 v80_11 v80_12 v80_13 v80_14 v80_15 v80_16
theorem c_equalPairs (l m : List Pair) (v w : AV) (h : H) (hl : SlP h v l) (hm : SlP h w m) (hn : l.length ≤ big) : bm Try.prog 80 [v, w] h = some (ib (decide (l = m)), h) := by
  refine bm_eq cF80 ?_
  by_cases hlen : l.length = m.length
  case neg =>
    have e1 : decide ((l.length : Int) = (m.length : Int)) = false := decide_eq_false (by omega)
    simp +contextual (maxSteps := 2000000) only [go_sem, Nat.reduceEqDiff, reduceCtorEq, Nat.reduceAdd, Nat.reduceLeDiff, F80, hl.len, hm.len, e1]
    rw [ne_len e1]
  have e1 : decide ((l.length : Int) = (m.length : Int)) = true := decide_eq_true (by omega)
  simp +contextual (maxSteps := 2000000) only [go_sem, Nat.reduceEqDiff, reduceCtorEq, Nat.reduceAdd, Nat.reduceLeDiff, F80, hl.len, hm.len, e1]
  refine wpC_loop (fun i T L h' => h' = h ∧ T 0 = .v v ∧ T 1 = .v w ∧ T 5 = .v (.one (.int .i64 i)) ∧ Upto (eqAt l m) i) l.length ?_ ?_ (Nat.zero_le _) ?_
  · rintro i T L h' hi ⟨rfl, t0, t1, t5, hu⟩
    have him : i < m.length := by omega
    have e2 := eqAt_eq hi him
    simp +contextual (maxSteps := 2000000) only [go_sem, Nat.reduceEqDiff, reduceCtorEq, Nat.reduceAdd, Nat.reduceLeDiff, t0, t1, t5, hl.len, hm.len, hl.iaddr hi, hm.iaddr him, hl.whole hi, hm.whole him, eqP, lt_true hi]
    (repeat' (first | refine And.intro ?_ ?_ | intro _)) <;> first | rfl | rw [wrap_next hi (big_lt hn)] | (refine hu.next ?_; rw [e2]; (simp_all; done)) | (rw [ne_at (l := l) (m := m) (i := i)]; rw [e2]; (simp_all; done))
  · rintro T L h' ⟨rfl, t0, t1, t5, hu⟩
    simp +contextual (maxSteps := 2000000) only [go_sem, Nat.reduceEqDiff, reduceCtorEq, Nat.reduceAdd, Nat.reduceLeDiff, t0, t1, t5, hl.len, hm.len, lt_false, decide_eq_true (eq_of_upto hlen hu)]
  · simp +contextual (maxSteps := 2000000) only [go_sem, Nat.reduceEqDiff, reduceCtorEq, Nat.reduceAdd, Nat.reduceLeDiff]
    (repeat' (first | refine And.intro ?_ ?_ | intro _)) <;> first | rfl | exact Upto.zero
/-! laws.equalFlat -/
def L18_0 : List AStep := [⟨.mov (.c (.bool false)), (some 4), none, []⟩]
theorem v18_0 : VS L18_0.eq_1 := rfl
def L18_1 : List AStep := ⟨.box 30 (.t 0), (some 2), none, []⟩ :: ⟨.box 30 (.t 1), (some 3), none, []⟩ :: L18_0
theorem v18_1 : VS L18_1.eq_1 := rfl
def L18_2 : List AStep := [⟨.mov (.t 16), (some 4), none, []⟩]
theorem v18_2 : VS L18_2.eq_1 := rfl
def L18_3 : List AStep := ⟨.call 80 [(.t 12), (.t 14)], (some 15), (some (10, true)), []⟩ :: ⟨.pick (.t 10) (.t 15) (.c (.bool false)), (some 16), none, []⟩ :: L18_2
theorem v18_3 : VS L18_3.eq_1 := rfl
def L18_4 : List AStep := ⟨.faddr 1 (.t 3), (some 13), (some (10, true)), []⟩ :: ⟨.load 1 false (.t 13), (some 14), (some (10, true)), []⟩ :: L18_3
theorem v18_4 : VS L18_4.eq_1 := rfl
def L18_5 : List AStep := ⟨.faddr 1 (.t 2), (some 11), (some (10, true)), []⟩ :: ⟨.load 1 false (.t 11), (some 12), (some (10, true)), []⟩ :: L18_4
theorem v18_5 : VS L18_5.eq_1 := rfl
def L18_6 : List AStep := ⟨.call 20 [(.t 6), (.t 8)], (some 9), none, []⟩ :: ⟨.mov (.t 9), (some 10), none, []⟩ :: L18_5
theorem v18_6 : VS L18_6.eq_1 := rfl
def L18_7 : List AStep := ⟨.faddr 0 (.t 3), (some 7), none, []⟩ :: ⟨.load 1 false (.t 7), (some 8), none, []⟩ :: L18_6
theorem v18_7 : VS L18_7.eq_1 := rfl
def L18_8 : List AStep := ⟨.faddr 0 (.t 2), (some 5), none, []⟩ :: ⟨.load 1 false (.t 5), (some 6), none, []⟩ :: L18_7
theorem v18_8 : VS L18_8.eq_1 := rfl
def C18_0 : ACode := .seq (.reg L18_8) .ret
theorem u18_0 : VC C18_0.eq_1 := rfl
def C18_1 : ACode := .seq (.reg L18_1) C18_0
theorem u18_1 : VC C18_1.eq_1 := rfl
def F18 : AFunc := ⟨17, [.tmp 4], C18_1⟩
theorem cF18 : compB Try.prog 18 = some F18 := by kernel_rfl
attribute [local go_sem ↓] u18_0 u18_1 v18_0 v18_1 v18_2 v18_3 v18_4 v18_5 v18_6 v18_7 v18_8
theorem c_equalFlat (f g : Flat) (pv nv pw nw : CV) (h : H) (hp : SlI h (.one pv) f.pl) (hq : SlP h (.one nv) f.nl) (kp : SlI h (.one pw) g.pl) (kq : SlP h (.one nw) g.nl) (h1 : f.pl.length ≤ big) (h2 : f.nl.length ≤ big) :
    bm Try.prog 18 [.agg [pv, nv], .agg [pw, nw]] h = some (ib (decide (f = g)), h) := by
  refine bm_eq cF18 ?_
  obtain ⟨fp, fn⟩ := f
  obtain ⟨gp, gn⟩ := g
  simp +contextual (maxSteps := 2000000) only [go_sem, Nat.reduceEqDiff, reduceCtorEq, Nat.reduceAdd, Nat.reduceLeDiff, F18, c_equalInts _ _ _ _ _ hp kp h1, c_equalPairs _ _ _ _ _ hq kq h2, Flat.mk.injEq]
  try ((repeat' (first | refine And.intro ?_ ?_ | intro _)) <;> first | simp_all)
/-! laws.equalHoles -/
def L24_0 : List AStep := [⟨.mov (.c (.bool false)), (some 4), none, []⟩]
theorem v24_0 : VS L24_0.eq_1 := rfl
def L24_1 : List AStep := ⟨.box 41 (.t 0), (some 2), none, []⟩ :: ⟨.box 41 (.t 1), (some 3), none, []⟩ :: L24_0
theorem v24_1 : VS L24_1.eq_1 := rfl
def L24_2 : List AStep := [⟨.bin .neq (.t 8) (.t 11), (some 12), none, []⟩]
theorem v24_2 : VS L24_2.eq_1 := rfl
def L24_3 : List AStep := ⟨.load 1 false (.t 9), (some 10), none, []⟩ :: ⟨.len (.t 10), (some 11), none, []⟩ :: L24_2
theorem v24_3 : VS L24_3.eq_1 := rfl
def L24_4 : List AStep := ⟨.len (.t 7), (some 8), none, []⟩ :: ⟨.faddr 0 (.t 3), (some 9), none, []⟩ :: L24_3
theorem v24_4 : VS L24_4.eq_1 := rfl
def L24_5 : List AStep := ⟨.faddr 0 (.t 2), (some 6), none, []⟩ :: ⟨.load 1 false (.t 6), (some 7), none, []⟩ :: L24_4
theorem v24_5 : VS L24_5.eq_1 := rfl
def L24_6 : List AStep := [⟨.mov (.c (.bool false)), (some 4), none, []⟩]
theorem v24_6 : VS L24_6.eq_1 := rfl
def L24_7 : List AStep := [⟨.mov (.c (.int .i64 0)), (some 5), none, []⟩]
theorem v24_7 : VS L24_7.eq_1 := rfl
def L24_8 : List AStep := [⟨.bin .lss (.t 13) (.t 16), (some 17), none, []⟩]
theorem v24_8 : VS L24_8.eq_1 := rfl
def L24_9 : List AStep := ⟨.load 1 false (.t 14), (some 15), none, []⟩ :: ⟨.len (.t 15), (some 16), none, []⟩ :: L24_8
theorem v24_9 : VS L24_9.eq_1 := rfl
def L24_10 : List AStep := ⟨.mov (.t 5), (some 13), none, []⟩ :: ⟨.faddr 0 (.t 2), (some 14), none, []⟩ :: L24_9
theorem v24_10 : VS L24_10.eq_1 := rfl
def L24_11 : List AStep := [⟨.eqst true [0, 1] (.t 24) (.t 29), (some 30), none, []⟩]
theorem v24_11 : VS L24_11.eq_1 := rfl
def L24_12 : List AStep := ⟨.iaddr 2 (.t 26) (.t 27), (some 28), none, []⟩ :: ⟨.load 2 true (.t 28), (some 29), none, []⟩ :: L24_11
theorem v24_12 : VS L24_12.eq_1 := rfl
def L24_13 : List AStep := ⟨.load 1 false (.t 25), (some 26), none, []⟩ :: ⟨.mov (.t 5), (some 27), none, []⟩ :: L24_12
theorem v24_13 : VS L24_13.eq_1 := rfl
def L24_14 : List AStep := ⟨.load 2 true (.t 23), (some 24), none, []⟩ :: ⟨.faddr 0 (.t 3), (some 25), none, []⟩ :: L24_13
theorem v24_14 : VS L24_14.eq_1 := rfl
def L24_15 : List AStep := ⟨.mov (.t 5), (some 22), none, []⟩ :: ⟨.iaddr 2 (.t 21) (.t 22), (some 23), none, []⟩ :: L24_14
theorem v24_15 : VS L24_15.eq_1 := rfl
def L24_16 : List AStep := ⟨.faddr 0 (.t 2), (some 20), none, []⟩ :: ⟨.load 1 false (.t 20), (some 21), none, []⟩ :: L24_15
theorem v24_16 : VS L24_16.eq_1 := rfl
def L24_17 : List AStep := [⟨.mov (.c (.bool false)), (some 4), none, []⟩]
theorem v24_17 : VS L24_17.eq_1 := rfl
def L24_18 : List AStep := [⟨.mov (.t 19), (some 5), none, []⟩]
theorem v24_18 : VS L24_18.eq_1 := rfl
def L24_19 : List AStep := ⟨.mov (.t 5), (some 18), none, []⟩ :: ⟨.bin .add (.t 18) (.c (.int .i64 1)), (some 19), none, []⟩ :: L24_18
theorem v24_19 : VS L24_19.eq_1 := rfl
def L24_20 : List AStep := [⟨.call 80 [(.t 32), (.t 34)], (some 35), none, []⟩, ⟨.mov (.t 35), (some 4), none, []⟩]
theorem v24_20 : VS L24_20.eq_1 := rfl
def L24_21 : List AStep := ⟨.faddr 1 (.t 3), (some 33), none, []⟩ :: ⟨.load 1 false (.t 33), (some 34), none, []⟩ :: L24_20
theorem v24_21 : VS L24_21.eq_1 := rfl
def L24_22 : List AStep := ⟨.faddr 1 (.t 2), (some 31), none, []⟩ :: ⟨.load 1 false (.t 31), (some 32), none, []⟩ :: L24_21
theorem v24_22 : VS L24_22.eq_1 := rfl
def C24_0 : ACode := .seq (.reg L24_6) .ret
theorem u24_0 : VC C24_0.eq_1 := rfl
def C24_1 : ACode := .cond (.t 12) C24_0 .skip
theorem u24_1 : VC C24_1.eq_1 := rfl
def C24_2 : ACode := .seq (.reg L24_5) C24_1
theorem u24_2 : VC C24_2.eq_1 := rfl
def C24_3 : ACode := .cond (.t 17) .skip (.exit 0)
theorem u24_3 : VC C24_3.eq_1 := rfl
def C24_4 : ACode := .seq (.reg L24_10) C24_3
theorem u24_4 : VC C24_4.eq_1 := rfl
def C24_5 : ACode := .seq (.reg L24_17) .ret
theorem u24_5 : VC C24_5.eq_1 := rfl
def C24_6 : ACode := .cond (.t 30) C24_5 .skip
theorem u24_6 : VC C24_6.eq_1 := rfl
def C24_7 : ACode := .seq (.reg L24_16) C24_6
theorem u24_7 : VC C24_7.eq_1 := rfl
def C24_8 : ACode := .block 1 C24_7
theorem u24_8 : VC C24_8.eq_1 := rfl
def C24_9 : ACode := .seq C24_8 (.reg L24_19)
theorem u24_9 : VC C24_9.eq_1 := rfl
def C24_10 : ACode := .seq C24_4 C24_9
theorem u24_10 : VC C24_10.eq_1 := rfl
def C24_11 : ACode := .block 0 (.loop C24_10)
theorem u24_11 : VC C24_11.eq_1 := rfl
def C24_12 : ACode := .seq (.reg L24_7) C24_11
theorem u24_12 : VC C24_12.eq_1 := rfl
def C24_13 : ACode := .seq (.reg L24_22) .ret
theorem u24_13 : VC C24_13.eq_1 := rfl
def C24_14 : ACode := .seq C24_12 C24_13
theorem u24_14 : VC C24_14.eq_1 := rfl
def C24_15 : ACode := .seq C24_2 C24_14
theorem u24_15 : VC C24_15.eq_1 := rfl
def C24_16 : ACode := .seq (.reg L24_1) C24_15
theorem u24_16 : VC C24_16.eq_1 := rfl
def F24 : AFunc := ⟨36, [.tmp 4], C24_16⟩
theorem cF24 : compB Try.prog 24 = some F24 := by kernel_rfl
attribute [local go_sem ↓] u24_0 u24_1 u24_2 u24_3 u24_4 u24_5 u24_6 u24_7 u24_8 u24_9 u24_10 u24_11 u24_12 u24_13 u24_14 u24_15 u24_16 v24_0 v24_1 v24_2 v24_3 v24_4 v24_5 v24_6 v24_7 v24_8 v24_9 v24_10 v24_11 v24_12 v24_13 v24_14 v24_15 v24_16 v24_17 v24_18 v24_19 v24_20 v24_21 v24_22
theorem c_equalHoles (f g : Holes) (pv nv pw nw : CV) (h : H) (hp : SlL h (.one pv) f.pl) (hq : SlP h (.one nv) f.nl) (kp : SlL h (.one pw) g.pl) (kq : SlP h (.one nw) g.nl) (h1 : f.pl.length ≤ big) (h2 : f.nl.length ≤ big) :
    bm Try.prog 24 [.agg [pv, nv], .agg [pw, nw]] h = some (ib (decide (f = g)), h) := by
  refine bm_eq cF24 ?_
  obtain ⟨fp, fn⟩ := f
  obtain ⟨gp, gn⟩ := g
  by_cases hlen : fp.length = gp.length
  case neg =>
    have e1 : decide ((fp.length : Int) = (gp.length : Int)) = false := decide_eq_false (by omega)
    have e3 := ne_len e1
    simp +contextual (maxSteps := 2000000) only [go_sem, Nat.reduceEqDiff, reduceCtorEq, Nat.reduceAdd, Nat.reduceLeDiff, F24, hp.len, kp.len, e1, Holes.mk.injEq]
    (simp_all; done)
  have e1 : decide ((fp.length : Int) = (gp.length : Int)) = true := decide_eq_true (by omega)
  simp +contextual (maxSteps := 2000000) only [go_sem, Nat.reduceEqDiff, reduceCtorEq, Nat.reduceAdd, Nat.reduceLeDiff, F24, hp.len, kp.len, e1]
  refine wpC_loop (fun i T L h' => h' = h ∧ T 2 = .lp 2 0 ∧ T 3 = .lp 3 0 ∧ (L 2).2 = [pv, nv] ∧ (L 3).2 = [pw, nw] ∧ T 5 = .v (.one (.int .i64 i)) ∧ Upto (eqAt fp gp) i) fp.length ?_ ?_ (Nat.zero_le _) ?_
  · rintro i T L h' hi ⟨rfl, t2, t3, l2, l3, t5, hu⟩
    have him : i < gp.length := by omega
    have e2 := eqAt_eq hi him
    simp +contextual (maxSteps := 2000000) only [go_sem, Nat.reduceEqDiff, reduceCtorEq, Nat.reduceAdd, Nat.reduceLeDiff, t2, t3, l2, l3, t5, hp.len, kp.len, hp.iaddr hi, kp.iaddr him, hp.whole hi, kp.whole him, eqL, lt_true hi, Holes.mk.injEq]
    (repeat' (first | refine And.intro ?_ ?_ | intro _)) <;> first | rfl | rw [wrap_next hi (big_lt h1)] | (refine hu.next ?_; rw [e2]; (simp_all; done)) | (have e4 := ne_at (l := fp) (m := gp) (i := i) (by rw [e2]; simp_all); simp_all; done)
  · rintro T L h' ⟨rfl, t2, t3, l2, l3, t5, hu⟩
    have e3 := eq_of_upto hlen hu
    simp +contextual (maxSteps := 2000000) only [go_sem, Nat.reduceEqDiff, reduceCtorEq, Nat.reduceAdd, Nat.reduceLeDiff, t2, t3, l2, l3, t5, hp.len, kp.len, lt_false, c_equalPairs _ _ _ _ _ hq kq h2, Holes.mk.injEq, e3]
    try (simp_all; done)
  · simp +contextual (maxSteps := 2000000) only [go_sem, Nat.reduceEqDiff, reduceCtorEq, Nat.reduceAdd, Nat.reduceLeDiff]
    (repeat' (first | refine And.intro ?_ ?_ | intro _)) <;> first | rfl | exact Upto.zero
end Go.Proofs.Ytnphlonhogcedaa.Am
