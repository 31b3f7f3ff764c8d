/- The law FnExactSameFlat. -/
import Derived.Test.YtdalgphpacikkacK
import Derived.Test.YtdalgphpacikkacSE
namespace Go.Proofs.Ytdalgphpacikkac.Am
open Go
set_option maxRecDepth 100000
set_option maxHeartbeats 4000000
set_option linter.unusedSimpArgs false
set_option linter.unusedVariables false
attribute [local go_sem ↓] bv_t bv_c ev_t ev_c put_same put_ne put_none kill_at pro_at lb_same lb_ne start_zero start_succ wpC_seq wpC_reg wpC_cond wpC_block wpC_skip wpC_exit wpC_ret thenQ_normal thenQ_exit thenQ_ret inBlk_normal inBlk_exit inBlk_ret wpS_nil wpS_step wpS_again wpS_guard wpO_mov wpO_load wpO_faddr wpO_nilCheck wpO_pick wpO_build wpO_bin wpO_eqb wpO_eqst wpO_eqnil wpO_not wpO_conv wpO_bytesStr wpO_iaddr wpO_idxStr wpO_field wpO_extract wpO_len wpO_lenStr wpO_cap wpO_min wpO_slice wpO_sliceStr wpO_alloc wpO_box wpO_store wpO_call wpO_callv wpO_mkfn wpO_buildSlice wpO_mkslice wpO_append wpO_appz proA_nil proA_cons tmpX_nil tmpX_tmp tmpX_cell doneB_normal doneB_ret agK_cons agK_nil agK_guard agG_tt agG_ff agG_tf agG_ft agG_undef pureB_load results_one results_two results_nil resBs_cons resBs_nil resB_tmp resB_cell
attribute [local go_sem] kill_v kill_lp_ne kill_lp_same pro_v pro_lp_same pro_lp_ne av_v av_lp optB_some optX_some valX_eq ldX_lp ldX_v faX_lp faX_v ncX_lp ncX_ptr ncX_fn boxK_one boxK_agg stL_some stK_lp_one stK_lp_agg stK_v_one stK_v_agg proM_v proM_lp callG_mk callVG_mk callvK_fn fnG_mk ptrsA_nil ptrsA_cons callH_some whenA_true whenA_false guardH_tt guardH_ff guardH_tf guardH_ft guardH_undef agV_one agV_agg lenO_sl lenStrO_str notO_bool pickO_bool convO_int eqbO_bool eqnilO_sl extractO_tup capO_sl minO_int loadL_one loadL_all storeL_eq fillA_nil fillA_one fillA_agg nat_ge neg_ge nat_lt neg_lt buildO bin_add bin_sub bin_mul bin_eql bin_neq bin_lss bin_leq bin_gtr bin_geq str_eql str_neq str_lss str_leq str_gtr str_geq retK_some endK_mk gcK_same gcK_int gcK_bool tupO_one tupO_agg rdy_self ib ii Option.map_none Option.map_some Option.some.injEq exists_eq_left' exists_eq_left ne_eq not_false_eq_true if_true if_false List.map_cons List.map_nil List.getElem?_cons_zero List.getElem?_cons_succ List.length_cons List.length_nil List.take_succ_cons List.take_zero List.take_nil List.drop_succ_cons List.drop_zero List.drop_nil List.cons_append List.nil_append List.append_nil List.set_cons_zero List.set_cons_succ Nat.zero_add forall_const true_and and_true and_self Bool.false_eq_true false_implies true_implies implies_true Bool.not_true Bool.not_false Bool.not_eq_true' Bool.not_eq_false' beq_self_eq_true Bool.bne_true Bool.bne_false
attribute [local go_sem] lenI lenS lenP lenQ lenB lenL lenT encI_0 encS_0 encP_0 encP_1 encQ_0 encQ_1 encQ_2 encQ_3 encB_0 encB_1 encL_0 encL_1 encT_0 encT_1
attribute [local go_sem low] whenA_bool guardH_bool
/-! laws.FnExactSameFlat -/
def L6_0 : List AStep := [⟨.mov (.c (.bool false)), (some 4), none, []⟩]
theorem v6_0 : VS L6_0.eq_1 := rfl
def L6_1 : List AStep := ⟨.box 28 (.t 0), (some 2), none, []⟩ :: ⟨.box 28 (.t 1), (some 3), none, []⟩ :: L6_0
theorem v6_1 : VS L6_1.eq_1 := rfl
def L6_2 : List AStep := [⟨.mov (.c (.int .i64 1048576)), (some 5), none, []⟩]
theorem v6_2 : VS L6_2.eq_1 := rfl
def L6_3 : List AStep := [⟨.call 9 [(.t 10), (.t 11)], (some 12), none, []⟩, ⟨.mov (.t 12), (some 5), none, []⟩]
theorem v6_3 : VS L6_3.eq_1 := rfl
def L6_4 : List AStep := ⟨.load 2 true (.t 2), (some 10), none, []⟩ :: ⟨.mov (.t 5), (some 11), none, []⟩ :: L6_3
theorem v6_4 : VS L6_4.eq_1 := rfl
def L6_5 : List AStep := [⟨.mov (.t 5), (some 13), none, []⟩, ⟨.bin .lss (.t 13) (.c (.int .i64 0)), (some 14), none, []⟩]
theorem v6_5 : VS L6_5.eq_1 := rfl
def L6_6 : List AStep := [⟨.mov (.c (.bool true)), (some 4), none, []⟩]
theorem v6_6 : VS L6_6.eq_1 := rfl
def L6_7 : List AStep := [⟨.call 9 [(.t 15), (.t 16)], (some 17), none, []⟩, ⟨.mov (.t 17), (some 5), none, []⟩]
theorem v6_7 : VS L6_7.eq_1 := rfl
def L6_8 : List AStep := ⟨.load 2 true (.t 3), (some 15), none, []⟩ :: ⟨.mov (.t 5), (some 16), none, []⟩ :: L6_7
theorem v6_8 : VS L6_8.eq_1 := rfl
def L6_9 : List AStep := [⟨.mov (.t 5), (some 18), none, []⟩, ⟨.bin .lss (.t 18) (.c (.int .i64 0)), (some 19), none, []⟩]
theorem v6_9 : VS L6_9.eq_1 := rfl
def L6_10 : List AStep := [⟨.mov (.c (.bool true)), (some 4), none, []⟩]
theorem v6_10 : VS L6_10.eq_1 := rfl
def L6_11 : List AStep := [⟨.call 33 [(.t 21), (.t 23)], (some 24), none, []⟩, ⟨.mov (.t 24), (some 6), none, []⟩]
theorem v6_11 : VS L6_11.eq_1 := rfl
def L6_12 : List AStep := ⟨.call 12 [(.t 20)], (some 21), none, [(.load 2 true (.t 3), (some 22), none)]⟩ :: ⟨.call 12 [(.t 22)], (some 23), none, []⟩ :: L6_11
theorem v6_12 : VS L6_12.eq_1 := rfl
def L6_13 : List AStep := ⟨.load 2 true (.t 2), (some 20), none, []⟩ :: ⟨.load 2 true (.t 3), (some 22), none, []⟩ :: L6_12
theorem v6_13 : VS L6_13.eq_1 := rfl
def L6_14 : List AStep := [⟨.alloc 33 [(.sl none 0 (some 0)), (.sl none 0 (some 0))], (some 7), none, []⟩, ⟨.store 2 (.t 7) (.t 26), none, none, []⟩]
theorem v6_14 : VS L6_14.eq_1 := rfl
def L6_15 : List AStep := ⟨.load 2 true (.t 2), (some 25), none, []⟩ :: ⟨.call 12 [(.t 25)], (some 26), none, []⟩ :: L6_14
theorem v6_15 : VS L6_15.eq_1 := rfl
def L6_16 : List AStep := [⟨.alloc 33 [(.sl none 0 (some 0)), (.sl none 0 (some 0))], (some 8), none, []⟩, ⟨.store 2 (.t 8) (.t 28), none, none, []⟩]
theorem v6_16 : VS L6_16.eq_1 := rfl
def L6_17 : List AStep := ⟨.load 2 true (.t 3), (some 27), none, []⟩ :: ⟨.call 12 [(.t 27)], (some 28), none, []⟩ :: L6_16
theorem v6_17 : VS L6_17.eq_1 := rfl
def L6_18 : List AStep := [⟨.call 34 [(.t 29), (.t 30)], (some 31), none, []⟩, ⟨.mov (.t 31), (some 9), none, []⟩]
theorem v6_18 : VS L6_18.eq_1 := rfl
def L6_19 : List AStep := ⟨.load 2 true (.t 7), (some 29), none, []⟩ :: ⟨.load 2 true (.t 8), (some 30), none, []⟩ :: L6_18
theorem v6_19 : VS L6_19.eq_1 := rfl
def L6_20 : List AStep := [⟨.eqb true (.t 32) (.t 33), (some 34), none, []⟩]
theorem v6_20 : VS L6_20.eq_1 := rfl
def L6_21 : List AStep := ⟨.mov (.t 9), (some 32), none, []⟩ :: ⟨.mov (.t 6), (some 33), none, []⟩ :: L6_20
theorem v6_21 : VS L6_21.eq_1 := rfl
def L6_22 : List AStep := [⟨.mov (.c (.bool false)), (some 4), none, []⟩]
theorem v6_22 : VS L6_22.eq_1 := rfl
def L6_23 : List AStep := [⟨.not (.t 38), (some 39), none, []⟩]
theorem v6_23 : VS L6_23.eq_1 := rfl
def L6_24 : List AStep := ⟨.call 12 [(.t 36)], (some 37), none, [(.load 2 true (.t 7), (some 35), none)]⟩ :: ⟨.call 14 [(.t 35), (.t 37)], (some 38), none, []⟩ :: L6_23
theorem v6_24 : VS L6_24.eq_1 := rfl
def L6_25 : List AStep := ⟨.load 2 true (.t 7), (some 35), none, []⟩ :: ⟨.load 2 true (.t 2), (some 36), none, []⟩ :: L6_24
theorem v6_25 : VS L6_25.eq_1 := rfl
def L6_26 : List AStep := [⟨.mov (.c (.bool false)), (some 4), none, []⟩]
theorem v6_26 : VS L6_26.eq_1 := rfl
def L6_27 : List AStep := [⟨.not (.t 43), (some 44), none, []⟩]
theorem v6_27 : VS L6_27.eq_1 := rfl
def L6_28 : List AStep := ⟨.call 12 [(.t 41)], (some 42), none, [(.load 2 true (.t 8), (some 40), none)]⟩ :: ⟨.call 14 [(.t 40), (.t 42)], (some 43), none, []⟩ :: L6_27
theorem v6_28 : VS L6_28.eq_1 := rfl
def L6_29 : List AStep := ⟨.load 2 true (.t 8), (some 40), none, []⟩ :: ⟨.load 2 true (.t 3), (some 41), none, []⟩ :: L6_28
theorem v6_29 : VS L6_29.eq_1 := rfl
def L6_30 : List AStep := [⟨.mov (.c (.bool false)), (some 4), none, []⟩]
theorem v6_30 : VS L6_30.eq_1 := rfl
def L6_31 : List AStep := [⟨.mov (.c (.bool true)), (some 4), none, []⟩]
theorem v6_31 : VS L6_31.eq_1 := rfl
def C6_0 : ACode := .seq (.reg L6_6) .ret
theorem u6_0 : VC C6_0.eq_1 := rfl
def C6_1 : ACode := .cond (.t 14) C6_0 .skip
theorem u6_1 : VC C6_1.eq_1 := rfl
def C6_2 : ACode := .seq (.reg L6_5) C6_1
theorem u6_2 : VC C6_2.eq_1 := rfl
def C6_3 : ACode := .seq (.reg L6_10) .ret
theorem u6_3 : VC C6_3.eq_1 := rfl
def C6_4 : ACode := .cond (.t 19) C6_3 .skip
theorem u6_4 : VC C6_4.eq_1 := rfl
def C6_5 : ACode := .seq (.reg L6_9) C6_4
theorem u6_5 : VC C6_5.eq_1 := rfl
def C6_6 : ACode := .seq (.reg L6_22) .ret
theorem u6_6 : VC C6_6.eq_1 := rfl
def C6_7 : ACode := .cond (.t 34) C6_6 .skip
theorem u6_7 : VC C6_7.eq_1 := rfl
def C6_8 : ACode := .seq (.reg L6_21) C6_7
theorem u6_8 : VC C6_8.eq_1 := rfl
def C6_9 : ACode := .seq (.reg L6_26) .ret
theorem u6_9 : VC C6_9.eq_1 := rfl
def C6_10 : ACode := .cond (.t 39) C6_9 .skip
theorem u6_10 : VC C6_10.eq_1 := rfl
def C6_11 : ACode := .seq (.reg L6_25) C6_10
theorem u6_11 : VC C6_11.eq_1 := rfl
def C6_12 : ACode := .seq (.reg L6_30) .ret
theorem u6_12 : VC C6_12.eq_1 := rfl
def C6_13 : ACode := .cond (.t 44) C6_12 .skip
theorem u6_13 : VC C6_13.eq_1 := rfl
def C6_14 : ACode := .seq (.reg L6_29) C6_13
theorem u6_14 : VC C6_14.eq_1 := rfl
def C6_15 : ACode := .seq (.reg L6_31) .ret
theorem u6_15 : VC C6_15.eq_1 := rfl
def C6_16 : ACode := .seq C6_14 C6_15
theorem u6_16 : VC C6_16.eq_1 := rfl
def C6_17 : ACode := .seq C6_11 C6_16
theorem u6_17 : VC C6_17.eq_1 := rfl
def C6_18 : ACode := .seq C6_8 C6_17
theorem u6_18 : VC C6_18.eq_1 := rfl
def C6_19 : ACode := .seq (.reg L6_19) C6_18
theorem u6_19 : VC C6_19.eq_1 := rfl
def C6_20 : ACode := .seq (.reg L6_17) C6_19
theorem u6_20 : VC C6_20.eq_1 := rfl
def C6_21 : ACode := .seq (.reg L6_15) C6_20
theorem u6_21 : VC C6_21.eq_1 := rfl
def C6_22 : ACode := .seq (.reg L6_13) C6_21
theorem u6_22 : VC C6_22.eq_1 := rfl
def C6_23 : ACode := .seq C6_5 C6_22
theorem u6_23 : VC C6_23.eq_1 := rfl
def C6_24 : ACode := .seq (.reg L6_8) C6_23
theorem u6_24 : VC C6_24.eq_1 := rfl
def C6_25 : ACode := .seq C6_2 C6_24
theorem u6_25 : VC C6_25.eq_1 := rfl
def C6_26 : ACode := .seq (.reg L6_4) C6_25
theorem u6_26 : VC C6_26.eq_1 := rfl
def C6_27 : ACode := .seq (.reg L6_2) C6_26
theorem u6_27 : VC C6_27.eq_1 := rfl
def C6_28 : ACode := .seq (.reg L6_1) C6_27
theorem u6_28 : VC C6_28.eq_1 := rfl
def F6 : AFunc := ⟨45, [.tmp 4], C6_28⟩
theorem cF6 : compB Try.prog 6 = some F6 := by kernel_rfl
attribute [local go_sem ↓] u6_0 u6_1 u6_2 u6_3 u6_4 u6_5 u6_6 u6_7 u6_8 u6_9 u6_10 u6_11 u6_12 u6_13 u6_14 u6_15 u6_16 u6_17 u6_18 u6_19 u6_20 u6_21 u6_22 u6_23 u6_24 u6_25 u6_26 u6_27 u6_28 v6_0 v6_1 v6_2 v6_3 v6_4 v6_5 v6_6 v6_7 v6_8 v6_9 v6_10 v6_11 v6_12 v6_13 v6_14 v6_15 v6_16 v6_17 v6_18 v6_19 v6_20 v6_21 v6_22 v6_23 v6_24 v6_25 v6_26 v6_27 v6_28 v6_29 v6_30 v6_31
theorem law6 (h : H) (avs : List AV) (hok : okVs Try.prog h 6 [ 28, 28 ] avs) : callK (bm Try.prog 6 avs h) fun r _ => r = ib true := by
  obtain ⟨v0, avs, rfl, hv0, hok⟩ := okVs_cons hok
  obtain ⟨v1, avs, rfl, hv1, hok⟩ := okVs_cons hok
  obtain rfl := okVs_nil hok
  obtain ⟨p0, n0, x0, rfl, d0⟩ := dF hv0
  obtain ⟨p1, n1, x1, rfl, d1⟩ := dF hv1
  refine bm_of cF6 ?_
  have z0 := k_szF x0 p0 n0 1048576 h (by omega) (by omega) d0
  by_cases y0 : szr 1048576 (wtF x0) < 0
  · simp +contextual (maxSteps := 2000000) only [go_sem, Nat.reduceEqDiff, reduceCtorEq, Nat.reduceAdd, Nat.reduceLeDiff, F6, z0, decide_eq_true y0]
  have z1 := k_szF x1 p1 n1 (szr 1048576 (wtF x0)) h (by omega) (by unfold szr; split <;> omega) d1
  by_cases y1 : szr (szr 1048576 (wtF x0)) (wtF x1) < 0
  · simp +contextual (maxSteps := 2000000) only [go_sem, Nat.reduceEqDiff, reduceCtorEq, Nat.reduceAdd, Nat.reduceLeDiff, F6, z0, z1, decide_eq_false y0, decide_eq_true y1]
  obtain ⟨e0, u0⟩ := szr_ge y0
  obtain ⟨e1, u1⟩ := szr_ge y1
  have s0 : miniF x0 := wtF_sm (by omega)
  have s1 : miniF x1 := wtF_sm (by omega)
  simp +contextual (maxSteps := 2000000) only [go_sem, Nat.reduceEqDiff, reduceCtorEq, Nat.reduceAdd, Nat.reduceLeDiff, F6, z0, z1, decide_eq_false y0, decide_eq_false y1]
  refine wp_call (k_toF x0 p0 n0 h (d0.grow (Grow.refl h)) s0) ?_
  rintro r h1 ⟨g1, p0a, n0a, rfl, a0a⟩
  simp +contextual (maxSteps := 2000000) only [go_sem, Nat.reduceEqDiff, reduceCtorEq, Nat.reduceAdd, Nat.reduceLeDiff]
  refine wp_call (k_toF x1 p1 n1 h1 (d1.grow ((Grow.refl h).trans g1)) s1) ?_
  rintro r h2 ⟨g2, p1a, n1a, rfl, a1a⟩
  have ws := k_sSameFlat x0 x1 p0a n0a p1a n1a h2 (a0a.sl.grow g2) (a1a.sl) s0 s1
  simp +contextual (maxSteps := 2000000) only [go_sem, Nat.reduceEqDiff, reduceCtorEq, Nat.reduceAdd, Nat.reduceLeDiff, ws]
  refine wp_call (k_toF x0 p0 n0 h2 (d0.grow (((Grow.refl h).trans g1).trans g2)) s0) ?_
  rintro r h3 ⟨g3, p0b, n0b, rfl, a0b⟩
  simp +contextual (maxSteps := 2000000) only [go_sem, Nat.reduceEqDiff, reduceCtorEq, Nat.reduceAdd, Nat.reduceLeDiff]
  refine wp_call (k_toF x1 p1 n1 h3 (d1.grow ((((Grow.refl h).trans g1).trans g2).trans g3)) s1) ?_
  rintro r h4 ⟨g4, p1b, n1b, rfl, a1b⟩
  have gi := k_iSameFlat x0 x1 p0b n0b p1b n1b h4 (a0b.sl.grow g4) (a1b.sl) s0 s1
  simp +contextual (maxSteps := 2000000) only [go_sem, Nat.reduceEqDiff, reduceCtorEq, Nat.reduceAdd, Nat.reduceLeDiff, gi, decide_true]
  refine wp_call (k_toF x0 p0 n0 h4 (d0.grow (((((Grow.refl h).trans g1).trans g2).trans g3).trans g4)) s0) ?_
  rintro r h5 ⟨g5, p0c, n0c, rfl, a0c⟩
  have q0 := k_eqF x0 x0 p0b n0b p0c n0c h5 (a0b.sl.grow (g4.trans g5)) a0c.sl s0
  simp +contextual (maxSteps := 2000000) only [go_sem, Nat.reduceEqDiff, reduceCtorEq, Nat.reduceAdd, Nat.reduceLeDiff, q0, decide_true]
  refine wp_call (k_toF x1 p1 n1 h5 (d1.grow ((((((Grow.refl h).trans g1).trans g2).trans g3).trans g4).trans g5)) s1) ?_
  rintro r h6 ⟨g6, p1c, n1c, rfl, a1c⟩
  have q1 := k_eqF x1 x1 p1b n1b p1c n1c h6 (a1b.sl.grow (g5.trans g6)) a1c.sl s1
  simp +contextual (maxSteps := 2000000) only [go_sem, Nat.reduceEqDiff, reduceCtorEq, Nat.reduceAdd, Nat.reduceLeDiff, q1, decide_true]
  try exact gcK_of rfl (fun _ _ => rfl)
end Go.Proofs.Ytdalgphpacikkac.Am
