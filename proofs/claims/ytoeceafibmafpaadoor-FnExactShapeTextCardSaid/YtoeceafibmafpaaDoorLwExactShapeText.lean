/- The law FnExactShapeText. -/
import Derived.Test.YtoeceafibmafpaaDoorK
import Derived.Test.YtoeceafibmafpaaDoorTZ
namespace Go.Proofs.YtoeceafibmafpaaDoor.Am
open Go
set_option maxRecDepth 100000
set_option maxHeartbeats 4000000
set_option linter.unusedSimpArgs false
set_option linter.unusedVariables false
attribute [local go_sem ↓] bv_t bv_c ev_t ev_c put_same put_ne put_none kill_at pro_at lb_same lb_ne start_zero start_succ wpC_seq wpC_reg wpC_cond wpC_block wpC_skip wpC_exit wpC_ret thenQ_normal thenQ_exit thenQ_ret inBlk_normal inBlk_exit inBlk_ret wpS_nil wpS_step wpS_again wpS_guard wpO_mov wpO_load wpO_faddr wpO_nilCheck wpO_pick wpO_build wpO_bin wpO_eqb wpO_eqst wpO_eqnil wpO_not wpO_conv wpO_bytesStr wpO_iaddr wpO_idxStr wpO_field wpO_extract wpO_len wpO_lenStr wpO_cap wpO_min wpO_slice wpO_sliceStr wpO_alloc wpO_box wpO_store wpO_call wpO_callv wpO_mkfn wpO_buildSlice wpO_mkslice wpO_append wpO_appz proA_nil proA_cons tmpX_nil tmpX_tmp tmpX_cell doneB_normal doneB_ret agK_cons agK_nil agK_guard agG_tt agG_ff agG_tf agG_ft agG_undef pureB_load results_one results_two results_nil resBs_cons resBs_nil resB_tmp resB_cell
attribute [local go_sem] kill_v kill_lp_ne kill_lp_same pro_v pro_lp_same pro_lp_ne av_v av_lp optB_some optX_some valX_eq ldX_lp ldX_v faX_lp faX_v ncX_lp ncX_ptr ncX_fn boxK_one boxK_agg stL_some stK_lp_one stK_lp_agg stK_v_one stK_v_agg proM_v proM_lp callG_mk callVG_mk callvK_fn fnG_mk ptrsA_nil ptrsA_cons callH_some whenA_true whenA_false guardH_tt guardH_ff guardH_tf guardH_ft guardH_undef agV_one agV_agg lenO_sl lenStrO_str notO_bool pickO_bool convO_int eqbO_bool eqnilO_sl extractO_tup capO_sl minO_int loadL_one loadL_all storeL_eq fillA_nil fillA_one fillA_agg nat_ge neg_ge nat_lt neg_lt buildO bin_add bin_sub bin_mul bin_eql bin_neq bin_lss bin_leq bin_gtr bin_geq str_eql str_neq str_lss str_leq str_gtr str_geq retK_some endK_mk gcK_same gcK_int gcK_bool tupO_one tupO_agg rdy_self ib ii Option.map_none Option.map_some Option.some.injEq exists_eq_left' exists_eq_left ne_eq not_false_eq_true if_true if_false List.map_cons List.map_nil List.getElem?_cons_zero List.getElem?_cons_succ List.length_cons List.length_nil List.take_succ_cons List.take_zero List.take_nil List.drop_succ_cons List.drop_zero List.drop_nil List.cons_append List.nil_append List.append_nil List.set_cons_zero List.set_cons_succ Nat.zero_add forall_const true_and and_true and_self Bool.false_eq_true false_implies true_implies implies_true Bool.not_true Bool.not_false Bool.not_eq_true' Bool.not_eq_false' beq_self_eq_true Bool.bne_true Bool.bne_false
attribute [local go_sem] lenI lenS lenP lenQ lenB lenL lenT encI_0 encS_0 encP_0 encP_1 encQ_0 encQ_1 encQ_2 encQ_3 encB_0 encB_1 encL_0 encL_1 encT_0 encT_1
attribute [local go_sem low] whenA_bool guardH_bool
/-! laws.FnExactShapeText -/
def L3_0 : List AStep := [⟨.box 24 (.t 0), (some 1), none, []⟩, ⟨.mov (.c (.bool false)), (some 2), none, []⟩]
theorem v3_0 : VS L3_0.eq_1 := rfl
def L3_1 : List AStep := [⟨.mov (.c (.int .i64 1048576)), (some 3), none, []⟩]
theorem v3_1 : VS L3_1.eq_1 := rfl
def L3_2 : List AStep := [⟨.call 9 [(.t 7), (.t 8)], (some 9), none, []⟩, ⟨.mov (.t 9), (some 3), none, []⟩]
theorem v3_2 : VS L3_2.eq_1 := rfl
def L3_3 : List AStep := ⟨.load 2 true (.t 1), (some 7), none, []⟩ :: ⟨.mov (.t 3), (some 8), none, []⟩ :: L3_2
theorem v3_3 : VS L3_3.eq_1 := rfl
def L3_4 : List AStep := [⟨.mov (.t 3), (some 10), none, []⟩, ⟨.bin .lss (.t 10) (.c (.int .i64 0)), (some 11), none, []⟩]
theorem v3_4 : VS L3_4.eq_1 := rfl
def L3_5 : List AStep := [⟨.mov (.c (.bool true)), (some 2), none, []⟩]
theorem v3_5 : VS L3_5.eq_1 := rfl
def L3_6 : List AStep := [⟨.call 10 [(.t 13)], (some 14), none, []⟩, ⟨.mov (.t 14), (some 4), none, []⟩]
theorem v3_6 : VS L3_6.eq_1 := rfl
def L3_7 : List AStep := ⟨.load 2 true (.t 1), (some 12), none, []⟩ :: ⟨.call 11 [(.t 12)], (some 13), none, []⟩ :: L3_6
theorem v3_7 : VS L3_7.eq_1 := rfl
def L3_8 : List AStep := [⟨.alloc 27 [(.int .i64 0), (.sl none 0 (some 0))], (some 5), none, []⟩, ⟨.store 2 (.t 5) (.t 16), none, none, []⟩]
theorem v3_8 : VS L3_8.eq_1 := rfl
def L3_9 : List AStep := ⟨.load 2 true (.t 1), (some 15), none, []⟩ :: ⟨.call 11 [(.t 15)], (some 16), none, []⟩ :: L3_8
theorem v3_9 : VS L3_9.eq_1 := rfl
def L3_10 : List AStep := [⟨.mov (.t 18), (some 6), none, []⟩]
theorem v3_10 : VS L3_10.eq_1 := rfl
def L3_11 : List AStep := ⟨.load 2 true (.t 5), (some 17), none, []⟩ :: ⟨.call 12 [(.t 17)], (some 18), none, []⟩ :: L3_10
theorem v3_11 : VS L3_11.eq_1 := rfl
def L3_12 : List AStep := [⟨.bin .neq (.t 19) (.t 20), (some 21), none, []⟩]
theorem v3_12 : VS L3_12.eq_1 := rfl
def L3_13 : List AStep := ⟨.mov (.t 6), (some 19), none, []⟩ :: ⟨.mov (.t 4), (some 20), none, []⟩ :: L3_12
theorem v3_13 : VS L3_13.eq_1 := rfl
def L3_14 : List AStep := [⟨.mov (.c (.bool false)), (some 2), none, []⟩]
theorem v3_14 : VS L3_14.eq_1 := rfl
def L3_15 : List AStep := [⟨.not (.t 25), (some 26), none, []⟩]
theorem v3_15 : VS L3_15.eq_1 := rfl
def L3_16 : List AStep := ⟨.call 11 [(.t 23)], (some 24), none, [(.load 2 true (.t 5), (some 22), none)]⟩ :: ⟨.call 13 [(.t 22), (.t 24)], (some 25), none, []⟩ :: L3_15
theorem v3_16 : VS L3_16.eq_1 := rfl
def L3_17 : List AStep := ⟨.load 2 true (.t 5), (some 22), none, []⟩ :: ⟨.load 2 true (.t 1), (some 23), none, []⟩ :: L3_16
theorem v3_17 : VS L3_17.eq_1 := rfl
def L3_18 : List AStep := [⟨.mov (.c (.bool false)), (some 2), none, []⟩]
theorem v3_18 : VS L3_18.eq_1 := rfl
def L3_19 : List AStep := [⟨.mov (.c (.bool true)), (some 2), none, []⟩]
theorem v3_19 : VS L3_19.eq_1 := rfl
def C3_0 : ACode := .seq (.reg L3_5) .ret
theorem u3_0 : VC C3_0.eq_1 := rfl
def C3_1 : ACode := .cond (.t 11) C3_0 .skip
theorem u3_1 : VC C3_1.eq_1 := rfl
def C3_2 : ACode := .seq (.reg L3_4) C3_1
theorem u3_2 : VC C3_2.eq_1 := rfl
def C3_3 : ACode := .seq (.reg L3_14) .ret
theorem u3_3 : VC C3_3.eq_1 := rfl
def C3_4 : ACode := .cond (.t 21) C3_3 .skip
theorem u3_4 : VC C3_4.eq_1 := rfl
def C3_5 : ACode := .seq (.reg L3_13) C3_4
theorem u3_5 : VC C3_5.eq_1 := rfl
def C3_6 : ACode := .seq (.reg L3_18) .ret
theorem u3_6 : VC C3_6.eq_1 := rfl
def C3_7 : ACode := .cond (.t 26) C3_6 .skip
theorem u3_7 : VC C3_7.eq_1 := rfl
def C3_8 : ACode := .seq (.reg L3_17) C3_7
theorem u3_8 : VC C3_8.eq_1 := rfl
def C3_9 : ACode := .seq (.reg L3_19) .ret
theorem u3_9 : VC C3_9.eq_1 := rfl
def C3_10 : ACode := .seq C3_8 C3_9
theorem u3_10 : VC C3_10.eq_1 := rfl
def C3_11 : ACode := .seq C3_5 C3_10
theorem u3_11 : VC C3_11.eq_1 := rfl
def C3_12 : ACode := .seq (.reg L3_11) C3_11
theorem u3_12 : VC C3_12.eq_1 := rfl
def C3_13 : ACode := .seq (.reg L3_9) C3_12
theorem u3_13 : VC C3_13.eq_1 := rfl
def C3_14 : ACode := .seq (.reg L3_7) C3_13
theorem u3_14 : VC C3_14.eq_1 := rfl
def C3_15 : ACode := .seq C3_2 C3_14
theorem u3_15 : VC C3_15.eq_1 := rfl
def C3_16 : ACode := .seq (.reg L3_3) C3_15
theorem u3_16 : VC C3_16.eq_1 := rfl
def C3_17 : ACode := .seq (.reg L3_1) C3_16
theorem u3_17 : VC C3_17.eq_1 := rfl
def C3_18 : ACode := .seq (.reg L3_0) C3_17
theorem u3_18 : VC C3_18.eq_1 := rfl
def F3 : AFunc := ⟨27, [.tmp 2], C3_18⟩
theorem cF3 : compB Tryd.prog 3 = some F3 := by kernel_rfl
attribute [local go_sem ↓] u3_0 u3_1 u3_2 u3_3 u3_4 u3_5 u3_6 u3_7 u3_8 u3_9 u3_10 u3_11 u3_12 u3_13 u3_14 u3_15 u3_16 u3_17 u3_18 v3_0 v3_1 v3_2 v3_3 v3_4 v3_5 v3_6 v3_7 v3_8 v3_9 v3_10 v3_11 v3_12 v3_13 v3_14 v3_15 v3_16 v3_17 v3_18 v3_19
theorem law3 (h : H) (avs : List AV) (hok : okVs Tryd.prog h 6 [ 24 ] avs) : callK (bm Tryd.prog 3 avs h) fun r _ => r = ib true := by
  obtain ⟨v0, avs, rfl, hv0, hok⟩ := okVs_cons hok
  obtain rfl := okVs_nil hok
  obtain ⟨c0, p0, x0, rfl, d0⟩ := dX hv0
  refine bm_of cF3 ?_
  have z0 := k_szX x0 c0 p0 1048576 h (by omega) (by omega) d0
  by_cases y0 : szr 1048576 (wtX x0) < 0
  · simp +contextual (maxSteps := 2000000) only [go_sem, Nat.reduceEqDiff, reduceCtorEq, Nat.reduceAdd, Nat.reduceLeDiff, F3, z0, decide_eq_true y0]
  obtain ⟨e0, u0⟩ := szr_ge y0
  have s0 : miniX x0 := wtX_sm (by omega)
  simp +contextual (maxSteps := 2000000) only [go_sem, Nat.reduceEqDiff, reduceCtorEq, Nat.reduceAdd, Nat.reduceLeDiff, F3, z0, decide_eq_false y0]
  refine wp_call (k_toX x0 c0 p0 h d0 s0) ?_
  rintro r h1 ⟨g1, c1, p1, rfl, a1⟩
  have ws := k_sShapeText x0 c1 p1 h1 a1.sl s0
  simp +contextual (maxSteps := 2000000) only [go_sem, Nat.reduceEqDiff, reduceCtorEq, Nat.reduceAdd, Nat.reduceLeDiff, ws]
  refine wp_call (k_toX x0 c0 p0 h1 (d0.grow g1) s0) ?_
  rintro r h2 ⟨g2, c2, p2, rfl, a2⟩
  simp +contextual (maxSteps := 2000000) only [go_sem, Nat.reduceEqDiff, reduceCtorEq, Nat.reduceAdd, Nat.reduceLeDiff]
  refine wp_call (k_iShapeText x0 c2 p2 h2 a2.sl s0) ?_
  rintro r h3 ⟨g3, rfl⟩
  simp +contextual (maxSteps := 2000000) only [go_sem, Nat.reduceEqDiff, reduceCtorEq, Nat.reduceAdd, Nat.reduceLeDiff, decide_true]
  refine wp_call (k_toX x0 c0 p0 h3 (d0.grow ((g1.trans g2).trans g3)) s0) ?_
  rintro r h4 ⟨g4, c4, p4, rfl, a4⟩
  have q0 := k_eqX x0 x0 c2 p2 c4 p4 h4 (a2.sl.grow (g3.trans g4)) a4.sl s0
  simp +contextual (maxSteps := 2000000) only [go_sem, Nat.reduceEqDiff, reduceCtorEq, Nat.reduceAdd, Nat.reduceLeDiff, q0, decide_true]
  try exact gcK_of rfl (fun _ _ => rfl)
end Go.Proofs.YtoeceafibmafpaaDoor.Am
