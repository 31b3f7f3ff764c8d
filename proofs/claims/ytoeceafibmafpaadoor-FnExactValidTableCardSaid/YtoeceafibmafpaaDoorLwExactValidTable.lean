/- The law FnExactValidTable. -/
import Derived.Test.YtoeceafibmafpaaDoorTB
namespace Go.Proofs.YtoeceafibmafpaaDoor.Am
open Go
set_option maxRecDepth 100000
set_option maxHeartbeats 4000000
set_option linter.unusedSimpArgs false
set_option linter.unusedVariables false
attribute [local go_sem ↓] bv_t bv_c ev_t ev_c put_same put_ne put_none kill_at pro_at lb_same lb_ne start_zero start_succ wpC_seq wpC_reg wpC_cond wpC_block wpC_skip wpC_exit wpC_ret thenQ_normal thenQ_exit thenQ_ret inBlk_normal inBlk_exit inBlk_ret wpS_nil wpS_step wpS_again wpS_guard wpO_mov wpO_load wpO_faddr wpO_nilCheck wpO_pick wpO_build wpO_bin wpO_eqb wpO_eqst wpO_eqnil wpO_not wpO_conv wpO_bytesStr wpO_iaddr wpO_idxStr wpO_field wpO_extract wpO_len wpO_lenStr wpO_cap wpO_min wpO_slice wpO_sliceStr wpO_alloc wpO_box wpO_store wpO_call wpO_callv wpO_mkfn wpO_buildSlice wpO_mkslice wpO_append wpO_appz proA_nil proA_cons tmpX_nil tmpX_tmp tmpX_cell doneB_normal doneB_ret agK_cons agK_nil agK_guard agG_tt agG_ff agG_tf agG_ft agG_undef pureB_load results_one results_two results_nil resBs_cons resBs_nil resB_tmp resB_cell
attribute [local go_sem] kill_v kill_lp_ne kill_lp_same pro_v pro_lp_same pro_lp_ne av_v av_lp optB_some optX_some valX_eq ldX_lp ldX_v faX_lp faX_v ncX_lp ncX_ptr ncX_fn boxK_one boxK_agg stL_some stK_lp_one stK_lp_agg stK_v_one stK_v_agg proM_v proM_lp callG_mk callVG_mk callvK_fn fnG_mk ptrsA_nil ptrsA_cons callH_some whenA_true whenA_false guardH_tt guardH_ff guardH_tf guardH_ft guardH_undef agV_one agV_agg lenO_sl lenStrO_str notO_bool pickO_bool convO_int eqbO_bool eqnilO_sl extractO_tup capO_sl minO_int loadL_one loadL_all storeL_eq fillA_nil fillA_one fillA_agg nat_ge neg_ge nat_lt neg_lt buildO bin_add bin_sub bin_mul bin_eql bin_neq bin_lss bin_leq bin_gtr bin_geq str_eql str_neq str_lss str_leq str_gtr str_geq retK_some endK_mk gcK_same gcK_int gcK_bool tupO_one tupO_agg rdy_self ib ii Option.map_none Option.map_some Option.some.injEq exists_eq_left' exists_eq_left ne_eq not_false_eq_true if_true if_false List.map_cons List.map_nil List.getElem?_cons_zero List.getElem?_cons_succ List.length_cons List.length_nil List.take_succ_cons List.take_zero List.take_nil List.drop_succ_cons List.drop_zero List.drop_nil List.cons_append List.nil_append List.append_nil List.set_cons_zero List.set_cons_succ Nat.zero_add forall_const true_and and_true and_self Bool.false_eq_true false_implies true_implies implies_true Bool.not_true Bool.not_false Bool.not_eq_true' Bool.not_eq_false' beq_self_eq_true Bool.bne_true Bool.bne_false
attribute [local go_sem] lenI lenS lenP lenQ lenB lenL lenT encI_0 encS_0 encP_0 encP_1 encQ_0 encQ_1 encQ_2 encQ_3 encB_0 encB_1 encL_0 encL_1 encT_0 encT_1
attribute [local go_sem low] whenA_bool guardH_bool
/-! laws.FnExactValidTable -/
def L7_0 : List AStep := [⟨.mov (.c (.bool false)), (some 2), none, []⟩]
theorem v7_0 : VS L7_0.eq_1 := rfl
def L7_1 : List AStep := [⟨.mov (.c (.int .i64 1048576)), (some 3), none, []⟩]
theorem v7_1 : VS L7_1.eq_1 := rfl
def L7_2 : List AStep := [⟨.call 27 [(.t 7), (.t 8)], (some 9), none, []⟩, ⟨.mov (.t 9), (some 3), none, []⟩]
theorem v7_2 : VS L7_2.eq_1 := rfl
def L7_3 : List AStep := ⟨.mov (.t 0), (some 7), none, []⟩ :: ⟨.mov (.t 3), (some 8), none, []⟩ :: L7_2
theorem v7_3 : VS L7_3.eq_1 := rfl
def L7_4 : List AStep := [⟨.mov (.t 3), (some 10), none, []⟩, ⟨.bin .lss (.t 10) (.c (.int .i64 0)), (some 11), none, []⟩]
theorem v7_4 : VS L7_4.eq_1 := rfl
def L7_5 : List AStep := [⟨.mov (.c (.bool true)), (some 2), none, []⟩]
theorem v7_5 : VS L7_5.eq_1 := rfl
def L7_6 : List AStep := [⟨.call 21 [(.t 13)], (some 14), none, []⟩, ⟨.mov (.t 14), (some 4), none, []⟩]
theorem v7_6 : VS L7_6.eq_1 := rfl
def L7_7 : List AStep := ⟨.mov (.t 0), (some 12), none, []⟩ :: ⟨.call 28 [(.t 12)], (some 13), none, []⟩ :: L7_6
theorem v7_7 : VS L7_7.eq_1 := rfl
def L7_8 : List AStep := [⟨.mov (.t 16), (some 5), none, []⟩]
theorem v7_8 : VS L7_8.eq_1 := rfl
def L7_9 : List AStep := ⟨.mov (.t 0), (some 15), none, []⟩ :: ⟨.call 28 [(.t 15)], (some 16), none, []⟩ :: L7_8
theorem v7_9 : VS L7_9.eq_1 := rfl
def L7_10 : List AStep := [⟨.mov (.t 18), (some 6), none, []⟩]
theorem v7_10 : VS L7_10.eq_1 := rfl
def L7_11 : List AStep := ⟨.mov (.t 5), (some 17), none, []⟩ :: ⟨.call 20 [(.t 17)], (some 18), none, []⟩ :: L7_10
theorem v7_11 : VS L7_11.eq_1 := rfl
def L7_12 : List AStep := [⟨.eqb true (.t 19) (.t 20), (some 21), none, []⟩]
theorem v7_12 : VS L7_12.eq_1 := rfl
def L7_13 : List AStep := ⟨.mov (.t 6), (some 19), none, []⟩ :: ⟨.mov (.t 4), (some 20), none, []⟩ :: L7_12
theorem v7_13 : VS L7_13.eq_1 := rfl
def L7_14 : List AStep := [⟨.mov (.c (.bool false)), (some 2), none, []⟩]
theorem v7_14 : VS L7_14.eq_1 := rfl
def L7_15 : List AStep := [⟨.not (.t 25), (some 26), none, []⟩]
theorem v7_15 : VS L7_15.eq_1 := rfl
def L7_16 : List AStep := ⟨.call 28 [(.t 23)], (some 24), none, []⟩ :: ⟨.call 29 [(.t 22), (.t 24)], (some 25), none, []⟩ :: L7_15
theorem v7_16 : VS L7_16.eq_1 := rfl
def L7_17 : List AStep := ⟨.mov (.t 5), (some 22), none, []⟩ :: ⟨.mov (.t 0), (some 23), none, []⟩ :: L7_16
theorem v7_17 : VS L7_17.eq_1 := rfl
def L7_18 : List AStep := [⟨.mov (.c (.bool false)), (some 2), none, []⟩]
theorem v7_18 : VS L7_18.eq_1 := rfl
def L7_19 : List AStep := [⟨.mov (.c (.bool true)), (some 2), none, []⟩]
theorem v7_19 : VS L7_19.eq_1 := rfl
def C7_0 : ACode := .seq (.reg L7_5) .ret
theorem u7_0 : VC C7_0.eq_1 := rfl
def C7_1 : ACode := .cond (.t 11) C7_0 .skip
theorem u7_1 : VC C7_1.eq_1 := rfl
def C7_2 : ACode := .seq (.reg L7_4) C7_1
theorem u7_2 : VC C7_2.eq_1 := rfl
def C7_3 : ACode := .seq (.reg L7_14) .ret
theorem u7_3 : VC C7_3.eq_1 := rfl
def C7_4 : ACode := .cond (.t 21) C7_3 .skip
theorem u7_4 : VC C7_4.eq_1 := rfl
def C7_5 : ACode := .seq (.reg L7_13) C7_4
theorem u7_5 : VC C7_5.eq_1 := rfl
def C7_6 : ACode := .seq (.reg L7_18) .ret
theorem u7_6 : VC C7_6.eq_1 := rfl
def C7_7 : ACode := .cond (.t 26) C7_6 .skip
theorem u7_7 : VC C7_7.eq_1 := rfl
def C7_8 : ACode := .seq (.reg L7_17) C7_7
theorem u7_8 : VC C7_8.eq_1 := rfl
def C7_9 : ACode := .seq (.reg L7_19) .ret
theorem u7_9 : VC C7_9.eq_1 := rfl
def C7_10 : ACode := .seq C7_8 C7_9
theorem u7_10 : VC C7_10.eq_1 := rfl
def C7_11 : ACode := .seq C7_5 C7_10
theorem u7_11 : VC C7_11.eq_1 := rfl
def C7_12 : ACode := .seq (.reg L7_11) C7_11
theorem u7_12 : VC C7_12.eq_1 := rfl
def C7_13 : ACode := .seq (.reg L7_9) C7_12
theorem u7_13 : VC C7_13.eq_1 := rfl
def C7_14 : ACode := .seq (.reg L7_7) C7_13
theorem u7_14 : VC C7_14.eq_1 := rfl
def C7_15 : ACode := .seq C7_2 C7_14
theorem u7_15 : VC C7_15.eq_1 := rfl
def C7_16 : ACode := .seq (.reg L7_3) C7_15
theorem u7_16 : VC C7_16.eq_1 := rfl
def C7_17 : ACode := .seq (.reg L7_1) C7_16
theorem u7_17 : VC C7_17.eq_1 := rfl
def C7_18 : ACode := .seq (.reg L7_0) C7_17
theorem u7_18 : VC C7_18.eq_1 := rfl
def F7 : AFunc := ⟨27, [.tmp 2], C7_18⟩
theorem cF7 : compB Tryd.prog 7 = some F7 := by kernel_rfl
attribute [local go_sem ↓] u7_0 u7_1 u7_2 u7_3 u7_4 u7_5 u7_6 u7_7 u7_8 u7_9 u7_10 u7_11 u7_12 u7_13 u7_14 u7_15 u7_16 u7_17 u7_18 v7_0 v7_1 v7_2 v7_3 v7_4 v7_5 v7_6 v7_7 v7_8 v7_9 v7_10 v7_11 v7_12 v7_13 v7_14 v7_15 v7_16 v7_17 v7_18 v7_19
theorem law7 (h : H) (avs : List AV) (hok : okVs Tryd.prog h 6 [ 56 ] avs) : callK (bm Tryd.prog 7 avs h) fun r _ => r = ib true := by
  obtain ⟨v0, avs, rfl, hv0, hok⟩ := okVs_cons hok
  obtain rfl := okVs_nil hok
  obtain ⟨p0, x0, rfl, d0⟩ := dW (m := 0) hv0
  refine bm_of cF7 ?_
  have z0 := k_szW x0 p0 1048576 h (by omega) (by omega) d0
  by_cases y0 : szr 1048576 (wtW x0) < 0
  · simp +contextual (maxSteps := 2000000) only [go_sem, Nat.reduceEqDiff, reduceCtorEq, Nat.reduceAdd, Nat.reduceLeDiff, F7, z0, decide_eq_true y0]
  obtain ⟨e0, u0⟩ := szr_ge y0
  have s0 : miniW x0 := wtW_sm (by omega)
  simp +contextual (maxSteps := 2000000) only [go_sem, Nat.reduceEqDiff, reduceCtorEq, Nat.reduceAdd, Nat.reduceLeDiff, F7, z0, decide_eq_false y0]
  refine wp_call (k_toW x0 p0 h d0 s0) ?_
  rintro r h1 ⟨g1, p1, R1, rfl, a1⟩
  simp +contextual (maxSteps := 2000000) only [go_sem, Nat.reduceEqDiff, reduceCtorEq, Nat.reduceAdd, Nat.reduceLeDiff, k_sValidTable x0 p1 h1 a1.sl s0]
  refine wp_call (k_toW x0 p0 h1 (d0.grow g1) s0) ?_
  rintro r h2 ⟨g2, p2, R2, rfl, a2⟩
  simp +contextual (maxSteps := 2000000) only [go_sem, Nat.reduceEqDiff, reduceCtorEq, Nat.reduceAdd, Nat.reduceLeDiff]
  refine wp_call (k_iValidTable x0 p2 h2 a2.sl s0) ?_
  rintro r h3 ⟨g3, rfl⟩
  simp +contextual (maxSteps := 2000000) only [go_sem, Nat.reduceEqDiff, reduceCtorEq, Nat.reduceAdd, Nat.reduceLeDiff, beq_self_eq_true]
  refine wp_call (k_toW x0 p0 h3 (d0.grow ((g1.trans g2).trans g3)) s0) ?_
  rintro r h4 ⟨g4, p4, R4, rfl, a4⟩
  have q0 := k_eqW x0 x0 p2 p4 h4 (a2.sl.grow (g3.trans g4)) a4.sl s0
  simp +contextual (maxSteps := 2000000) only [go_sem, Nat.reduceEqDiff, reduceCtorEq, Nat.reduceAdd, Nat.reduceLeDiff, q0, decide_true]
  try exact gcK_of rfl (fun _ _ => rfl)
end Go.Proofs.YtoeceafibmafpaaDoor.Am
