/- The law FnExactSignatureText. -/
import Derived.Test.YtoeceafibmafpaaDoorK
import Derived.Test.YtoeceafibmafpaaDoorTI
import Derived.Test.YtoeceafibmafpaaDoorL1
import Derived.Test.YtoeceafibmafpaaDoorDom
namespace Go.Proofs.YtoeceafibmafpaaDoor.Am
open Go
set_option maxRecDepth 100000
set_option maxHeartbeats 4000000
set_option linter.unusedSimpArgs false
set_option linter.unusedVariables false
attribute [local go_sem ↓] bv_t bv_c ev_t ev_c put_same put_ne put_none kill_at pro_at lb_same lb_ne start_zero start_succ wpC_seq wpC_reg wpC_cond wpC_block wpC_skip wpC_exit wpC_ret thenQ_normal thenQ_exit thenQ_ret inBlk_normal inBlk_exit inBlk_ret wpS_nil wpS_step wpS_again wpS_guard wpO_mov wpO_load wpO_faddr wpO_nilCheck wpO_pick wpO_build wpO_bin wpO_eqb wpO_eqst wpO_eqnil wpO_not wpO_conv wpO_bytesStr wpO_iaddr wpO_idxStr wpO_field wpO_extract wpO_len wpO_lenStr wpO_cap wpO_min wpO_slice wpO_sliceStr wpO_alloc wpO_box wpO_store wpO_call wpO_callv wpO_mkfn wpO_buildSlice wpO_mkslice wpO_append wpO_appz proA_nil proA_cons tmpX_nil tmpX_tmp tmpX_cell doneB_normal doneB_ret agK_cons agK_nil agK_guard agG_tt agG_ff agG_tf agG_ft agG_undef pureB_load results_one results_two results_nil resBs_cons resBs_nil resB_tmp resB_cell
attribute [local go_sem] kill_v kill_lp_ne kill_lp_same pro_v pro_lp_same pro_lp_ne av_v av_lp optB_some optX_some valX_eq ldX_lp ldX_v faX_lp faX_v ncX_lp ncX_ptr ncX_fn boxK_one boxK_agg stL_some stK_lp_one stK_lp_agg stK_v_one stK_v_agg proM_v proM_lp callG_mk callVG_mk callvK_fn fnG_mk ptrsA_nil ptrsA_cons callH_some whenA_true whenA_false guardH_tt guardH_ff guardH_tf guardH_ft guardH_undef agV_one agV_agg lenO_sl lenStrO_str notO_bool pickO_bool convO_int eqbO_bool eqnilO_sl extractO_tup capO_sl minO_int loadL_one loadL_all storeL_eq fillA_nil fillA_one fillA_agg nat_ge neg_ge nat_lt neg_lt buildO bin_add bin_sub bin_mul bin_eql bin_neq bin_lss bin_leq bin_gtr bin_geq str_eql str_neq str_lss str_leq str_gtr str_geq retK_some endK_mk gcK_same gcK_int gcK_bool tupO_one tupO_agg rdy_self ib ii Option.map_none Option.map_some Option.some.injEq exists_eq_left' exists_eq_left ne_eq not_false_eq_true if_true if_false List.map_cons List.map_nil List.getElem?_cons_zero List.getElem?_cons_succ List.length_cons List.length_nil List.take_succ_cons List.take_zero List.take_nil List.drop_succ_cons List.drop_zero List.drop_nil List.cons_append List.nil_append List.append_nil List.set_cons_zero List.set_cons_succ Nat.zero_add forall_const true_and and_true and_self Bool.false_eq_true false_implies true_implies implies_true Bool.not_true Bool.not_false Bool.not_eq_true' Bool.not_eq_false' beq_self_eq_true Bool.bne_true Bool.bne_false
attribute [local go_sem] lenI lenS lenP lenQ lenB lenL lenT encI_0 encS_0 encP_0 encP_1 encQ_0 encQ_1 encQ_2 encQ_3 encB_0 encB_1 encL_0 encL_1 encT_0 encT_1
attribute [local go_sem low] whenA_bool guardH_bool
/-! laws.FnExactSignatureText -/
def L4_0 : List AStep := [⟨.box 33 (.t 0), (some 1), none, []⟩, ⟨.mov (.c (.bool false)), (some 2), none, []⟩]
theorem v4_0 : VS L4_0.eq_1 := rfl
def L4_1 : List AStep := [⟨.mov (.c (.int .i64 1048576)), (some 3), none, []⟩]
theorem v4_1 : VS L4_1.eq_1 := rfl
def L4_2 : List AStep := [⟨.call 14 [(.t 7), (.t 8)], (some 9), none, []⟩, ⟨.mov (.t 9), (some 3), none, []⟩]
theorem v4_2 : VS L4_2.eq_1 := rfl
def L4_3 : List AStep := ⟨.load 1 true (.t 1), (some 7), none, []⟩ :: ⟨.mov (.t 3), (some 8), none, []⟩ :: L4_2
theorem v4_3 : VS L4_3.eq_1 := rfl
def L4_4 : List AStep := [⟨.mov (.t 3), (some 10), none, []⟩, ⟨.bin .lss (.t 10) (.c (.int .i64 0)), (some 11), none, []⟩]
theorem v4_4 : VS L4_4.eq_1 := rfl
def L4_5 : List AStep := [⟨.mov (.c (.bool true)), (some 2), none, []⟩]
theorem v4_5 : VS L4_5.eq_1 := rfl
def L4_6 : List AStep := [⟨.call 15 [(.t 13)], (some 14), none, []⟩, ⟨.mov (.t 14), (some 4), none, []⟩]
theorem v4_6 : VS L4_6.eq_1 := rfl
def L4_7 : List AStep := ⟨.load 1 true (.t 1), (some 12), none, []⟩ :: ⟨.call 16 [(.t 12)], (some 13), none, []⟩ :: L4_6
theorem v4_7 : VS L4_7.eq_1 := rfl
def L4_8 : List AStep := [⟨.alloc 38 [(.sl none 0 (some 0))], (some 5), none, []⟩, ⟨.store 1 (.t 5) (.t 16), none, none, []⟩]
theorem v4_8 : VS L4_8.eq_1 := rfl
def L4_9 : List AStep := ⟨.load 1 true (.t 1), (some 15), none, []⟩ :: ⟨.call 16 [(.t 15)], (some 16), none, []⟩ :: L4_8
theorem v4_9 : VS L4_9.eq_1 := rfl
def L4_10 : List AStep := [⟨.mov (.t 18), (some 6), none, []⟩]
theorem v4_10 : VS L4_10.eq_1 := rfl
def L4_11 : List AStep := ⟨.load 1 true (.t 5), (some 17), none, []⟩ :: ⟨.call 17 [(.t 17)], (some 18), none, []⟩ :: L4_10
theorem v4_11 : VS L4_11.eq_1 := rfl
def L4_12 : List AStep := [⟨.bin .neq (.t 19) (.t 20), (some 21), none, []⟩]
theorem v4_12 : VS L4_12.eq_1 := rfl
def L4_13 : List AStep := ⟨.mov (.t 6), (some 19), none, []⟩ :: ⟨.mov (.t 4), (some 20), none, []⟩ :: L4_12
theorem v4_13 : VS L4_13.eq_1 := rfl
def L4_14 : List AStep := [⟨.mov (.c (.bool false)), (some 2), none, []⟩]
theorem v4_14 : VS L4_14.eq_1 := rfl
def L4_15 : List AStep := [⟨.not (.t 25), (some 26), none, []⟩]
theorem v4_15 : VS L4_15.eq_1 := rfl
def L4_16 : List AStep := ⟨.call 16 [(.t 23)], (some 24), none, [(.load 1 true (.t 5), (some 22), none)]⟩ :: ⟨.call 18 [(.t 22), (.t 24)], (some 25), none, []⟩ :: L4_15
theorem v4_16 : VS L4_16.eq_1 := rfl
def L4_17 : List AStep := ⟨.load 1 true (.t 5), (some 22), none, []⟩ :: ⟨.load 1 true (.t 1), (some 23), none, []⟩ :: L4_16
theorem v4_17 : VS L4_17.eq_1 := rfl
def L4_18 : List AStep := [⟨.mov (.c (.bool false)), (some 2), none, []⟩]
theorem v4_18 : VS L4_18.eq_1 := rfl
def L4_19 : List AStep := [⟨.mov (.c (.bool true)), (some 2), none, []⟩]
theorem v4_19 : VS L4_19.eq_1 := rfl
def C4_0 : ACode := .seq (.reg L4_5) .ret
theorem u4_0 : VC C4_0.eq_1 := rfl
def C4_1 : ACode := .cond (.t 11) C4_0 .skip
theorem u4_1 : VC C4_1.eq_1 := rfl
def C4_2 : ACode := .seq (.reg L4_4) C4_1
theorem u4_2 : VC C4_2.eq_1 := rfl
def C4_3 : ACode := .seq (.reg L4_14) .ret
theorem u4_3 : VC C4_3.eq_1 := rfl
def C4_4 : ACode := .cond (.t 21) C4_3 .skip
theorem u4_4 : VC C4_4.eq_1 := rfl
def C4_5 : ACode := .seq (.reg L4_13) C4_4
theorem u4_5 : VC C4_5.eq_1 := rfl
def C4_6 : ACode := .seq (.reg L4_18) .ret
theorem u4_6 : VC C4_6.eq_1 := rfl
def C4_7 : ACode := .cond (.t 26) C4_6 .skip
theorem u4_7 : VC C4_7.eq_1 := rfl
def C4_8 : ACode := .seq (.reg L4_17) C4_7
theorem u4_8 : VC C4_8.eq_1 := rfl
def C4_9 : ACode := .seq (.reg L4_19) .ret
theorem u4_9 : VC C4_9.eq_1 := rfl
def C4_10 : ACode := .seq C4_8 C4_9
theorem u4_10 : VC C4_10.eq_1 := rfl
def C4_11 : ACode := .seq C4_5 C4_10
theorem u4_11 : VC C4_11.eq_1 := rfl
def C4_12 : ACode := .seq (.reg L4_11) C4_11
theorem u4_12 : VC C4_12.eq_1 := rfl
def C4_13 : ACode := .seq (.reg L4_9) C4_12
theorem u4_13 : VC C4_13.eq_1 := rfl
def C4_14 : ACode := .seq (.reg L4_7) C4_13
theorem u4_14 : VC C4_14.eq_1 := rfl
def C4_15 : ACode := .seq C4_2 C4_14
theorem u4_15 : VC C4_15.eq_1 := rfl
def C4_16 : ACode := .seq (.reg L4_3) C4_15
theorem u4_16 : VC C4_16.eq_1 := rfl
def C4_17 : ACode := .seq (.reg L4_1) C4_16
theorem u4_17 : VC C4_17.eq_1 := rfl
def C4_18 : ACode := .seq (.reg L4_0) C4_17
theorem u4_18 : VC C4_18.eq_1 := rfl
def F4 : AFunc := ⟨27, [.tmp 2], C4_18⟩
theorem cF4 : compB Tryd.prog 4 = some F4 := by kernel_rfl
attribute [local go_sem ↓] u4_0 u4_1 u4_2 u4_3 u4_4 u4_5 u4_6 u4_7 u4_8 u4_9 u4_10 u4_11 u4_12 u4_13 u4_14 u4_15 u4_16 u4_17 u4_18 v4_0 v4_1 v4_2 v4_3 v4_4 v4_5 v4_6 v4_7 v4_8 v4_9 v4_10 v4_11 v4_12 v4_13 v4_14 v4_15 v4_16 v4_17 v4_18 v4_19
theorem law4 (h : H) (avs : List AV) (hok : okVs Tryd.prog h 6 [ 33 ] avs) : callK (bm Tryd.prog 4 avs h) fun r _ => r = ib true := by
  obtain ⟨v0, avs, rfl, hv0, hok⟩ := okVs_cons hok
  obtain rfl := okVs_nil hok
  obtain ⟨p0, x0, rfl, d0⟩ := dG hv0
  refine bm_of cF4 ?_
  have z0 := k_szG x0 p0 1048576 h (by omega) (by omega) d0
  by_cases y0 : szr 1048576 (wtG x0) < 0
  · simp +contextual (maxSteps := 2000000) only [go_sem, Nat.reduceEqDiff, reduceCtorEq, Nat.reduceAdd, Nat.reduceLeDiff, F4, z0, decide_eq_true y0]
  obtain ⟨e0, u0⟩ := szr_ge y0
  have s0 : miniG x0 := wtG_sm (by omega)
  simp +contextual (maxSteps := 2000000) only [go_sem, Nat.reduceEqDiff, reduceCtorEq, Nat.reduceAdd, Nat.reduceLeDiff, F4, z0, decide_eq_false y0]
  refine wp_call (k_toG x0 p0 h d0 s0) ?_
  rintro r h1 ⟨g1, p1, rfl, a1⟩
  simp +contextual (maxSteps := 2000000) only [go_sem, Nat.reduceEqDiff, reduceCtorEq, Nat.reduceAdd, Nat.reduceLeDiff]
  refine wp_call (k_sSignatureText x0 p1 h1 a1.sl s0) ?_
  rintro r h2 ⟨g2, rfl⟩
  simp +contextual (maxSteps := 2000000) only [go_sem, Nat.reduceEqDiff, reduceCtorEq, Nat.reduceAdd, Nat.reduceLeDiff]
  refine wp_call (k_toG x0 p0 h2 (d0.grow (g1.trans g2)) s0) ?_
  rintro r h3 ⟨g3, p3, rfl, a3⟩
  simp +contextual (maxSteps := 2000000) only [go_sem, Nat.reduceEqDiff, reduceCtorEq, Nat.reduceAdd, Nat.reduceLeDiff]
  refine wp_call (k_iSignatureText x0 p3 h3 a3.sl s0) ?_
  rintro r h4 ⟨g4, rfl⟩
  simp +contextual (maxSteps := 2000000) only [go_sem, Nat.reduceEqDiff, reduceCtorEq, Nat.reduceAdd, Nat.reduceLeDiff, decide_true]
  refine wp_call (k_toG x0 p0 h4 (d0.grow (((g1.trans g2).trans g3).trans g4)) s0) ?_
  rintro r h5 ⟨g5, p5, rfl, a5⟩
  have q0 := k_eqG x0 x0 p3 p5 h5 (a3.sl.grow (g4.trans g5)) a5.sl s0
  simp +contextual (maxSteps := 2000000) only [go_sem, Nat.reduceEqDiff, reduceCtorEq, Nat.reduceAdd, Nat.reduceLeDiff, q0, decide_true]
  try exact gcK_of rfl (fun _ _ => rfl)
end Go.Proofs.YtoeceafibmafpaaDoor.Am
