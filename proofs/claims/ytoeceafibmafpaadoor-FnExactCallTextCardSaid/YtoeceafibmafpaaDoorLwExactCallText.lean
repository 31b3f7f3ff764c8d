/- The law FnExactCallText. -/
import Derived.Test.YtoeceafibmafpaaDoorTU
import Derived.Test.YtoeceafibmafpaaDoorM1
import Derived.Test.YtoeceafibmafpaaDoorN1
namespace Go.Proofs.YtoeceafibmafpaaDoor.Am
open Go
set_option maxRecDepth 100000
set_option maxHeartbeats 4000000
set_option linter.unusedSimpArgs false
set_option linter.unusedVariables false
attribute [local go_sem ↓] bv_t bv_c ev_t ev_c put_same put_ne put_none kill_at pro_at lb_same lb_ne start_zero start_succ wpC_seq wpC_reg wpC_cond wpC_block wpC_skip wpC_exit wpC_ret thenQ_normal thenQ_exit thenQ_ret inBlk_normal inBlk_exit inBlk_ret wpS_nil wpS_step wpS_again wpS_guard wpO_mov wpO_load wpO_faddr wpO_nilCheck wpO_pick wpO_build wpO_bin wpO_eqb wpO_eqst wpO_eqnil wpO_not wpO_conv wpO_bytesStr wpO_iaddr wpO_idxStr wpO_field wpO_extract wpO_len wpO_lenStr wpO_cap wpO_min wpO_slice wpO_sliceStr wpO_alloc wpO_box wpO_store wpO_call wpO_callv wpO_mkfn wpO_buildSlice wpO_mkslice wpO_append wpO_appz proA_nil proA_cons tmpX_nil tmpX_tmp tmpX_cell doneB_normal doneB_ret agK_cons agK_nil agK_guard agG_tt agG_ff agG_tf agG_ft agG_undef pureB_load results_one results_two results_nil resBs_cons resBs_nil resB_tmp resB_cell
attribute [local go_sem] kill_v kill_lp_ne kill_lp_same pro_v pro_lp_same pro_lp_ne av_v av_lp optB_some optX_some valX_eq ldX_lp ldX_v faX_lp faX_v ncX_lp ncX_ptr ncX_fn boxK_one boxK_agg stL_some stK_lp_one stK_lp_agg stK_v_one stK_v_agg proM_v proM_lp callG_mk callVG_mk callvK_fn fnG_mk ptrsA_nil ptrsA_cons callH_some whenA_true whenA_false guardH_tt guardH_ff guardH_tf guardH_ft guardH_undef agV_one agV_agg lenO_sl lenStrO_str notO_bool pickO_bool convO_int eqbO_bool eqnilO_sl extractO_tup capO_sl minO_int loadL_one loadL_all storeL_eq fillA_nil fillA_one fillA_agg nat_ge neg_ge nat_lt neg_lt buildO bin_add bin_sub bin_mul bin_eql bin_neq bin_lss bin_leq bin_gtr bin_geq str_eql str_neq str_lss str_leq str_gtr str_geq retK_some endK_mk gcK_same gcK_int gcK_bool tupO_one tupO_agg rdy_self ib ii Option.map_none Option.map_some Option.some.injEq exists_eq_left' exists_eq_left ne_eq not_false_eq_true if_true if_false List.map_cons List.map_nil List.getElem?_cons_zero List.getElem?_cons_succ List.length_cons List.length_nil List.take_succ_cons List.take_zero List.take_nil List.drop_succ_cons List.drop_zero List.drop_nil List.cons_append List.nil_append List.append_nil List.set_cons_zero List.set_cons_succ Nat.zero_add forall_const true_and and_true and_self Bool.false_eq_true false_implies true_implies implies_true Bool.not_true Bool.not_false Bool.not_eq_true' Bool.not_eq_false' beq_self_eq_true Bool.bne_true Bool.bne_false
attribute [local go_sem] lenI lenS lenP lenQ lenB lenL lenT encI_0 encS_0 encP_0 encP_1 encQ_0 encQ_1 encQ_2 encQ_3 encB_0 encB_1 encL_0 encL_1 encT_0 encT_1
attribute [local go_sem low] whenA_bool guardH_bool
/-! laws.FnExactCallText -/
def L8_0 : List AStep := [⟨.box 63 (.t 0), (some 1), none, []⟩, ⟨.mov (.c (.bool false)), (some 2), none, []⟩]
theorem v8_0 : VS L8_0.eq_1 := rfl
def L8_1 : List AStep := [⟨.mov (.c (.int .i64 1048576)), (some 3), none, []⟩]
theorem v8_1 : VS L8_1.eq_1 := rfl
def L8_2 : List AStep := [⟨.call 30 [(.t 7), (.t 8)], (some 9), none, []⟩, ⟨.mov (.t 9), (some 3), none, []⟩]
theorem v8_2 : VS L8_2.eq_1 := rfl
def L8_3 : List AStep := ⟨.load 1 true (.t 1), (some 7), none, []⟩ :: ⟨.mov (.t 3), (some 8), none, []⟩ :: L8_2
theorem v8_3 : VS L8_3.eq_1 := rfl
def L8_4 : List AStep := [⟨.mov (.t 3), (some 10), none, []⟩, ⟨.bin .lss (.t 10) (.c (.int .i64 0)), (some 11), none, []⟩]
theorem v8_4 : VS L8_4.eq_1 := rfl
def L8_5 : List AStep := [⟨.mov (.c (.bool true)), (some 2), none, []⟩]
theorem v8_5 : VS L8_5.eq_1 := rfl
def L8_6 : List AStep := [⟨.call 31 [(.t 13)], (some 14), none, []⟩, ⟨.mov (.t 14), (some 4), none, []⟩]
theorem v8_6 : VS L8_6.eq_1 := rfl
def L8_7 : List AStep := ⟨.load 1 true (.t 1), (some 12), none, []⟩ :: ⟨.call 32 [(.t 12)], (some 13), none, []⟩ :: L8_6
theorem v8_7 : VS L8_7.eq_1 := rfl
def L8_8 : List AStep := [⟨.alloc 68 [(.sl none 0 (some 0))], (some 5), none, []⟩, ⟨.store 1 (.t 5) (.t 16), none, none, []⟩]
theorem v8_8 : VS L8_8.eq_1 := rfl
def L8_9 : List AStep := ⟨.load 1 true (.t 1), (some 15), none, []⟩ :: ⟨.call 32 [(.t 15)], (some 16), none, []⟩ :: L8_8
theorem v8_9 : VS L8_9.eq_1 := rfl
def L8_10 : List AStep := [⟨.mov (.t 18), (some 6), none, []⟩]
theorem v8_10 : VS L8_10.eq_1 := rfl
def L8_11 : List AStep := ⟨.load 1 true (.t 5), (some 17), none, []⟩ :: ⟨.call 33 [(.t 17)], (some 18), none, []⟩ :: L8_10
theorem v8_11 : VS L8_11.eq_1 := rfl
def L8_12 : List AStep := [⟨.bin .neq (.t 19) (.t 20), (some 21), none, []⟩]
theorem v8_12 : VS L8_12.eq_1 := rfl
def L8_13 : List AStep := ⟨.mov (.t 6), (some 19), none, []⟩ :: ⟨.mov (.t 4), (some 20), none, []⟩ :: L8_12
theorem v8_13 : VS L8_13.eq_1 := rfl
def L8_14 : List AStep := [⟨.mov (.c (.bool false)), (some 2), none, []⟩]
theorem v8_14 : VS L8_14.eq_1 := rfl
def L8_15 : List AStep := [⟨.not (.t 25), (some 26), none, []⟩]
theorem v8_15 : VS L8_15.eq_1 := rfl
def L8_16 : List AStep := ⟨.call 32 [(.t 23)], (some 24), none, [(.load 1 true (.t 5), (some 22), none)]⟩ :: ⟨.call 34 [(.t 22), (.t 24)], (some 25), none, []⟩ :: L8_15
theorem v8_16 : VS L8_16.eq_1 := rfl
def L8_17 : List AStep := ⟨.load 1 true (.t 5), (some 22), none, []⟩ :: ⟨.load 1 true (.t 1), (some 23), none, []⟩ :: L8_16
theorem v8_17 : VS L8_17.eq_1 := rfl
def L8_18 : List AStep := [⟨.mov (.c (.bool false)), (some 2), none, []⟩]
theorem v8_18 : VS L8_18.eq_1 := rfl
def L8_19 : List AStep := [⟨.mov (.c (.bool true)), (some 2), none, []⟩]
theorem v8_19 : VS L8_19.eq_1 := rfl
def C8_0 : ACode := .seq (.reg L8_5) .ret
theorem u8_0 : VC C8_0.eq_1 := rfl
def C8_1 : ACode := .cond (.t 11) C8_0 .skip
theorem u8_1 : VC C8_1.eq_1 := rfl
def C8_2 : ACode := .seq (.reg L8_4) C8_1
theorem u8_2 : VC C8_2.eq_1 := rfl
def C8_3 : ACode := .seq (.reg L8_14) .ret
theorem u8_3 : VC C8_3.eq_1 := rfl
def C8_4 : ACode := .cond (.t 21) C8_3 .skip
theorem u8_4 : VC C8_4.eq_1 := rfl
def C8_5 : ACode := .seq (.reg L8_13) C8_4
theorem u8_5 : VC C8_5.eq_1 := rfl
def C8_6 : ACode := .seq (.reg L8_18) .ret
theorem u8_6 : VC C8_6.eq_1 := rfl
def C8_7 : ACode := .cond (.t 26) C8_6 .skip
theorem u8_7 : VC C8_7.eq_1 := rfl
def C8_8 : ACode := .seq (.reg L8_17) C8_7
theorem u8_8 : VC C8_8.eq_1 := rfl
def C8_9 : ACode := .seq (.reg L8_19) .ret
theorem u8_9 : VC C8_9.eq_1 := rfl
def C8_10 : ACode := .seq C8_8 C8_9
theorem u8_10 : VC C8_10.eq_1 := rfl
def C8_11 : ACode := .seq C8_5 C8_10
theorem u8_11 : VC C8_11.eq_1 := rfl
def C8_12 : ACode := .seq (.reg L8_11) C8_11
theorem u8_12 : VC C8_12.eq_1 := rfl
def C8_13 : ACode := .seq (.reg L8_9) C8_12
theorem u8_13 : VC C8_13.eq_1 := rfl
def C8_14 : ACode := .seq (.reg L8_7) C8_13
theorem u8_14 : VC C8_14.eq_1 := rfl
def C8_15 : ACode := .seq C8_2 C8_14
theorem u8_15 : VC C8_15.eq_1 := rfl
def C8_16 : ACode := .seq (.reg L8_3) C8_15
theorem u8_16 : VC C8_16.eq_1 := rfl
def C8_17 : ACode := .seq (.reg L8_1) C8_16
theorem u8_17 : VC C8_17.eq_1 := rfl
def C8_18 : ACode := .seq (.reg L8_0) C8_17
theorem u8_18 : VC C8_18.eq_1 := rfl
def F8 : AFunc := ⟨27, [.tmp 2], C8_18⟩
theorem cF8 : compB Tryd.prog 8 = some F8 := by kernel_rfl
attribute [local go_sem ↓] u8_0 u8_1 u8_2 u8_3 u8_4 u8_5 u8_6 u8_7 u8_8 u8_9 u8_10 u8_11 u8_12 u8_13 u8_14 u8_15 u8_16 u8_17 u8_18 v8_0 v8_1 v8_2 v8_3 v8_4 v8_5 v8_6 v8_7 v8_8 v8_9 v8_10 v8_11 v8_12 v8_13 v8_14 v8_15 v8_16 v8_17 v8_18 v8_19
theorem law8 (h : H) (avs : List AV) (hok : okVs Tryd.prog h 6 [ 63 ] avs) : callK (bm Tryd.prog 8 avs h) fun r _ => r = ib true := by
  obtain ⟨v0, avs, rfl, hv0, hok⟩ := okVs_cons hok
  obtain rfl := okVs_nil hok
  obtain ⟨p0, x0, rfl, d0⟩ := dC (m := 0) hv0
  refine bm_of cF8 ?_
  have z0 := k_szC x0 p0 1048576 h (by omega) (by omega) d0
  by_cases y0 : szr 1048576 (wtC x0) < 0
  · simp +contextual (maxSteps := 2000000) only [go_sem, Nat.reduceEqDiff, reduceCtorEq, Nat.reduceAdd, Nat.reduceLeDiff, F8, z0, decide_eq_true y0]
  obtain ⟨e0, u0⟩ := szr_ge y0
  have s0 : miniC x0 := wtC_sm (by omega)
  simp +contextual (maxSteps := 2000000) only [go_sem, Nat.reduceEqDiff, reduceCtorEq, Nat.reduceAdd, Nat.reduceLeDiff, F8, z0, decide_eq_false y0]
  refine wp_call (k_toC x0 p0 h d0 s0) ?_
  rintro r h1 ⟨g1, p1, R1, rfl, a1⟩
  simp +contextual (maxSteps := 2000000) only [go_sem, Nat.reduceEqDiff, reduceCtorEq, Nat.reduceAdd, Nat.reduceLeDiff]
  refine wp_call (k_sCallText x0 p1 h1 a1.sl s0) ?_
  rintro r h2 ⟨g2, rfl⟩
  simp +contextual (maxSteps := 2000000) only [go_sem, Nat.reduceEqDiff, reduceCtorEq, Nat.reduceAdd, Nat.reduceLeDiff]
  refine wp_call (k_toC x0 p0 h2 (d0.grow (g1.trans g2)) s0) ?_
  rintro r h3 ⟨g3, p3, R3, rfl, a3⟩
  simp +contextual (maxSteps := 2000000) only [go_sem, Nat.reduceEqDiff, reduceCtorEq, Nat.reduceAdd, Nat.reduceLeDiff]
  refine wp_call (k_iCallText x0 p3 h3 a3.sl s0) ?_
  rintro r h4 ⟨g4, rfl⟩
  simp +contextual (maxSteps := 2000000) only [go_sem, Nat.reduceEqDiff, reduceCtorEq, Nat.reduceAdd, Nat.reduceLeDiff, decide_true]
  refine wp_call (k_toC x0 p0 h4 (d0.grow (((g1.trans g2).trans g3).trans g4)) s0) ?_
  rintro r h5 ⟨g5, p5, R5, rfl, a5⟩
  have q0 := k_eqC x0 x0 p3 p5 h5 (a3.sl.grow (g4.trans g5)) a5.sl s0
  simp +contextual (maxSteps := 2000000) only [go_sem, Nat.reduceEqDiff, reduceCtorEq, Nat.reduceAdd, Nat.reduceLeDiff, q0, decide_true]
  try exact gcK_of rfl (fun _ _ => rfl)
end Go.Proofs.YtoeceafibmafpaaDoor.Am
