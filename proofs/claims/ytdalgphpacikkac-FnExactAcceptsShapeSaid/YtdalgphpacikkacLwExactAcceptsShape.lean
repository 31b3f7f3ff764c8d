/- The law FnExactAcceptsShape. -/
import Derived.Test.YtdalgphpacikkacK
import Derived.Test.YtdalgphpacikkacXS
namespace Go.Proofs.Ytdalgphpacikkac.Am
open Go
set_option maxRecDepth 100000
set_option maxHeartbeats 4000000
set_option linter.unusedSimpArgs false
set_option linter.unusedVariables false
attribute [local go_sem ↓] bv_t bv_c ev_t ev_c put_same put_ne put_none kill_at pro_at lb_same lb_ne start_zero start_succ wpC_seq wpC_reg wpC_cond wpC_block wpC_skip wpC_exit wpC_ret thenQ_normal thenQ_exit thenQ_ret inBlk_normal inBlk_exit inBlk_ret wpS_nil wpS_step wpS_again wpS_guard wpO_mov wpO_load wpO_faddr wpO_nilCheck wpO_pick wpO_build wpO_bin wpO_eqb wpO_eqst wpO_eqnil wpO_not wpO_conv wpO_bytesStr wpO_iaddr wpO_idxStr wpO_field wpO_extract wpO_len wpO_lenStr wpO_cap wpO_min wpO_slice wpO_sliceStr wpO_alloc wpO_box wpO_store wpO_call wpO_callv wpO_mkfn wpO_buildSlice wpO_mkslice wpO_append wpO_appz proA_nil proA_cons tmpX_nil tmpX_tmp tmpX_cell doneB_normal doneB_ret agK_cons agK_nil agK_guard agG_tt agG_ff agG_tf agG_ft agG_undef pureB_load results_one results_two results_nil resBs_cons resBs_nil resB_tmp resB_cell
attribute [local go_sem] kill_v kill_lp_ne kill_lp_same pro_v pro_lp_same pro_lp_ne av_v av_lp optB_some optX_some valX_eq ldX_lp ldX_v faX_lp faX_v ncX_lp ncX_ptr ncX_fn boxK_one boxK_agg stL_some stK_lp_one stK_lp_agg stK_v_one stK_v_agg proM_v proM_lp callG_mk callVG_mk callvK_fn fnG_mk ptrsA_nil ptrsA_cons callH_some whenA_true whenA_false guardH_tt guardH_ff guardH_tf guardH_ft guardH_undef agV_one agV_agg lenO_sl lenStrO_str notO_bool pickO_bool convO_int eqbO_bool eqnilO_sl extractO_tup capO_sl minO_int loadL_one loadL_all storeL_eq fillA_nil fillA_one fillA_agg nat_ge neg_ge nat_lt neg_lt buildO bin_add bin_sub bin_mul bin_eql bin_neq bin_lss bin_leq bin_gtr bin_geq str_eql str_neq str_lss str_leq str_gtr str_geq retK_some endK_mk gcK_same gcK_int gcK_bool tupO_one tupO_agg rdy_self ib ii Option.map_none Option.map_some Option.some.injEq exists_eq_left' exists_eq_left ne_eq not_false_eq_true if_true if_false List.map_cons List.map_nil List.getElem?_cons_zero List.getElem?_cons_succ List.length_cons List.length_nil List.take_succ_cons List.take_zero List.take_nil List.drop_succ_cons List.drop_zero List.drop_nil List.cons_append List.nil_append List.append_nil List.set_cons_zero List.set_cons_succ Nat.zero_add forall_const true_and and_true and_self Bool.false_eq_true false_implies true_implies implies_true Bool.not_true Bool.not_false Bool.not_eq_true' Bool.not_eq_false' beq_self_eq_true Bool.bne_true Bool.bne_false
attribute [local go_sem] lenI lenS lenP lenQ lenB lenL lenT encI_0 encS_0 encP_0 encP_1 encQ_0 encQ_1 encQ_2 encQ_3 encB_0 encB_1 encL_0 encL_1 encT_0 encT_1
attribute [local go_sem low] whenA_bool guardH_bool
/-! laws.FnExactAcceptsShape -/
def L5_0 : List AStep := [⟨.mov (.c (.bool false)), (some 4), none, []⟩]
theorem v5_0 : VS L5_0.eq_1 := rfl
def L5_1 : List AStep := ⟨.box 60 (.t 0), (some 2), none, []⟩ :: ⟨.box 63 (.t 1), (some 3), none, []⟩ :: L5_0
theorem v5_1 : VS L5_1.eq_1 := rfl
def L5_2 : List AStep := [⟨.mov (.c (.int .i64 1048576)), (some 5), none, []⟩]
theorem v5_2 : VS L5_2.eq_1 := rfl
def L5_3 : List AStep := [⟨.call 25 [(.t 10), (.t 11)], (some 12), none, []⟩, ⟨.mov (.t 12), (some 5), none, []⟩]
theorem v5_3 : VS L5_3.eq_1 := rfl
def L5_4 : List AStep := ⟨.load 1 true (.t 2), (some 10), none, []⟩ :: ⟨.mov (.t 5), (some 11), none, []⟩ :: L5_3
theorem v5_4 : VS L5_4.eq_1 := rfl
def L5_5 : List AStep := [⟨.mov (.t 5), (some 13), none, []⟩, ⟨.bin .lss (.t 13) (.c (.int .i64 0)), (some 14), none, []⟩]
theorem v5_5 : VS L5_5.eq_1 := rfl
def L5_6 : List AStep := [⟨.mov (.c (.bool true)), (some 4), none, []⟩]
theorem v5_6 : VS L5_6.eq_1 := rfl
def L5_7 : List AStep := [⟨.call 26 [(.t 15), (.t 16)], (some 17), none, []⟩, ⟨.mov (.t 17), (some 5), none, []⟩]
theorem v5_7 : VS L5_7.eq_1 := rfl
def L5_8 : List AStep := ⟨.load 2 true (.t 3), (some 15), none, []⟩ :: ⟨.mov (.t 5), (some 16), none, []⟩ :: L5_7
theorem v5_8 : VS L5_8.eq_1 := rfl
def L5_9 : List AStep := [⟨.mov (.t 5), (some 18), none, []⟩, ⟨.bin .lss (.t 18) (.c (.int .i64 0)), (some 19), none, []⟩]
theorem v5_9 : VS L5_9.eq_1 := rfl
def L5_10 : List AStep := [⟨.mov (.c (.bool true)), (some 4), none, []⟩]
theorem v5_10 : VS L5_10.eq_1 := rfl
def L5_11 : List AStep := [⟨.call 27 [(.t 21), (.t 23)], (some 24), none, []⟩, ⟨.mov (.t 24), (some 6), none, []⟩]
theorem v5_11 : VS L5_11.eq_1 := rfl
def L5_12 : List AStep := ⟨.call 28 [(.t 20)], (some 21), none, [(.load 2 true (.t 3), (some 22), none)]⟩ :: ⟨.call 29 [(.t 22)], (some 23), none, []⟩ :: L5_11
theorem v5_12 : VS L5_12.eq_1 := rfl
def L5_13 : List AStep := ⟨.load 1 true (.t 2), (some 20), none, []⟩ :: ⟨.load 2 true (.t 3), (some 22), none, []⟩ :: L5_12
theorem v5_13 : VS L5_13.eq_1 := rfl
def L5_14 : List AStep := [⟨.alloc 69 [(.sl none 0 (some 0))], (some 7), none, []⟩, ⟨.store 1 (.t 7) (.t 26), none, none, []⟩]
theorem v5_14 : VS L5_14.eq_1 := rfl
def L5_15 : List AStep := ⟨.load 1 true (.t 2), (some 25), none, []⟩ :: ⟨.call 28 [(.t 25)], (some 26), none, []⟩ :: L5_14
theorem v5_15 : VS L5_15.eq_1 := rfl
def L5_16 : List AStep := [⟨.alloc 71 [(.int .i64 0), (.sl none 0 (some 0))], (some 8), none, []⟩, ⟨.store 2 (.t 8) (.t 28), none, none, []⟩]
theorem v5_16 : VS L5_16.eq_1 := rfl
def L5_17 : List AStep := ⟨.load 2 true (.t 3), (some 27), none, []⟩ :: ⟨.call 29 [(.t 27)], (some 28), none, []⟩ :: L5_16
theorem v5_17 : VS L5_17.eq_1 := rfl
def L5_18 : List AStep := [⟨.call 30 [(.t 29), (.t 30)], (some 31), none, []⟩, ⟨.mov (.t 31), (some 9), none, []⟩]
theorem v5_18 : VS L5_18.eq_1 := rfl
def L5_19 : List AStep := ⟨.load 1 true (.t 7), (some 29), none, []⟩ :: ⟨.load 2 true (.t 8), (some 30), none, []⟩ :: L5_18
theorem v5_19 : VS L5_19.eq_1 := rfl
def L5_20 : List AStep := [⟨.eqb true (.t 32) (.t 33), (some 34), none, []⟩]
theorem v5_20 : VS L5_20.eq_1 := rfl
def L5_21 : List AStep := ⟨.mov (.t 9), (some 32), none, []⟩ :: ⟨.mov (.t 6), (some 33), none, []⟩ :: L5_20
theorem v5_21 : VS L5_21.eq_1 := rfl
def L5_22 : List AStep := [⟨.mov (.c (.bool false)), (some 4), none, []⟩]
theorem v5_22 : VS L5_22.eq_1 := rfl
def L5_23 : List AStep := [⟨.not (.t 38), (some 39), none, []⟩]
theorem v5_23 : VS L5_23.eq_1 := rfl
def L5_24 : List AStep := ⟨.call 28 [(.t 36)], (some 37), none, [(.load 1 true (.t 7), (some 35), none)]⟩ :: ⟨.call 31 [(.t 35), (.t 37)], (some 38), none, []⟩ :: L5_23
theorem v5_24 : VS L5_24.eq_1 := rfl
def L5_25 : List AStep := ⟨.load 1 true (.t 7), (some 35), none, []⟩ :: ⟨.load 1 true (.t 2), (some 36), none, []⟩ :: L5_24
theorem v5_25 : VS L5_25.eq_1 := rfl
def L5_26 : List AStep := [⟨.mov (.c (.bool false)), (some 4), none, []⟩]
theorem v5_26 : VS L5_26.eq_1 := rfl
def L5_27 : List AStep := [⟨.not (.t 43), (some 44), none, []⟩]
theorem v5_27 : VS L5_27.eq_1 := rfl
def L5_28 : List AStep := ⟨.call 29 [(.t 41)], (some 42), none, [(.load 2 true (.t 8), (some 40), none)]⟩ :: ⟨.call 32 [(.t 40), (.t 42)], (some 43), none, []⟩ :: L5_27
theorem v5_28 : VS L5_28.eq_1 := rfl
def L5_29 : List AStep := ⟨.load 2 true (.t 8), (some 40), none, []⟩ :: ⟨.load 2 true (.t 3), (some 41), none, []⟩ :: L5_28
theorem v5_29 : VS L5_29.eq_1 := rfl
def L5_30 : List AStep := [⟨.mov (.c (.bool false)), (some 4), none, []⟩]
theorem v5_30 : VS L5_30.eq_1 := rfl
def L5_31 : List AStep := [⟨.mov (.c (.bool true)), (some 4), none, []⟩]
theorem v5_31 : VS L5_31.eq_1 := rfl
def C5_0 : ACode := .seq (.reg L5_6) .ret
theorem u5_0 : VC C5_0.eq_1 := rfl
def C5_1 : ACode := .cond (.t 14) C5_0 .skip
theorem u5_1 : VC C5_1.eq_1 := rfl
def C5_2 : ACode := .seq (.reg L5_5) C5_1
theorem u5_2 : VC C5_2.eq_1 := rfl
def C5_3 : ACode := .seq (.reg L5_10) .ret
theorem u5_3 : VC C5_3.eq_1 := rfl
def C5_4 : ACode := .cond (.t 19) C5_3 .skip
theorem u5_4 : VC C5_4.eq_1 := rfl
def C5_5 : ACode := .seq (.reg L5_9) C5_4
theorem u5_5 : VC C5_5.eq_1 := rfl
def C5_6 : ACode := .seq (.reg L5_22) .ret
theorem u5_6 : VC C5_6.eq_1 := rfl
def C5_7 : ACode := .cond (.t 34) C5_6 .skip
theorem u5_7 : VC C5_7.eq_1 := rfl
def C5_8 : ACode := .seq (.reg L5_21) C5_7
theorem u5_8 : VC C5_8.eq_1 := rfl
def C5_9 : ACode := .seq (.reg L5_26) .ret
theorem u5_9 : VC C5_9.eq_1 := rfl
def C5_10 : ACode := .cond (.t 39) C5_9 .skip
theorem u5_10 : VC C5_10.eq_1 := rfl
def C5_11 : ACode := .seq (.reg L5_25) C5_10
theorem u5_11 : VC C5_11.eq_1 := rfl
def C5_12 : ACode := .seq (.reg L5_30) .ret
theorem u5_12 : VC C5_12.eq_1 := rfl
def C5_13 : ACode := .cond (.t 44) C5_12 .skip
theorem u5_13 : VC C5_13.eq_1 := rfl
def C5_14 : ACode := .seq (.reg L5_29) C5_13
theorem u5_14 : VC C5_14.eq_1 := rfl
def C5_15 : ACode := .seq (.reg L5_31) .ret
theorem u5_15 : VC C5_15.eq_1 := rfl
def C5_16 : ACode := .seq C5_14 C5_15
theorem u5_16 : VC C5_16.eq_1 := rfl
def C5_17 : ACode := .seq C5_11 C5_16
theorem u5_17 : VC C5_17.eq_1 := rfl
def C5_18 : ACode := .seq C5_8 C5_17
theorem u5_18 : VC C5_18.eq_1 := rfl
def C5_19 : ACode := .seq (.reg L5_19) C5_18
theorem u5_19 : VC C5_19.eq_1 := rfl
def C5_20 : ACode := .seq (.reg L5_17) C5_19
theorem u5_20 : VC C5_20.eq_1 := rfl
def C5_21 : ACode := .seq (.reg L5_15) C5_20
theorem u5_21 : VC C5_21.eq_1 := rfl
def C5_22 : ACode := .seq (.reg L5_13) C5_21
theorem u5_22 : VC C5_22.eq_1 := rfl
def C5_23 : ACode := .seq C5_5 C5_22
theorem u5_23 : VC C5_23.eq_1 := rfl
def C5_24 : ACode := .seq (.reg L5_8) C5_23
theorem u5_24 : VC C5_24.eq_1 := rfl
def C5_25 : ACode := .seq C5_2 C5_24
theorem u5_25 : VC C5_25.eq_1 := rfl
def C5_26 : ACode := .seq (.reg L5_4) C5_25
theorem u5_26 : VC C5_26.eq_1 := rfl
def C5_27 : ACode := .seq (.reg L5_2) C5_26
theorem u5_27 : VC C5_27.eq_1 := rfl
def C5_28 : ACode := .seq (.reg L5_1) C5_27
theorem u5_28 : VC C5_28.eq_1 := rfl
def F5 : AFunc := ⟨45, [.tmp 4], C5_28⟩
theorem cF5 : compB Try.prog 5 = some F5 := by kernel_rfl
attribute [local go_sem ↓] u5_0 u5_1 u5_2 u5_3 u5_4 u5_5 u5_6 u5_7 u5_8 u5_9 u5_10 u5_11 u5_12 u5_13 u5_14 u5_15 u5_16 u5_17 u5_18 u5_19 u5_20 u5_21 u5_22 u5_23 u5_24 u5_25 u5_26 u5_27 u5_28 v5_0 v5_1 v5_2 v5_3 v5_4 v5_5 v5_6 v5_7 v5_8 v5_9 v5_10 v5_11 v5_12 v5_13 v5_14 v5_15 v5_16 v5_17 v5_18 v5_19 v5_20 v5_21 v5_22 v5_23 v5_24 v5_25 v5_26 v5_27 v5_28 v5_29 v5_30 v5_31
theorem law5 (h : H) (avs : List AV) (hok : okVs Try.prog h 6 [ 60, 63 ] avs) : callK (bm Try.prog 5 avs h) fun r _ => r = ib true := by
  obtain ⟨v0, avs, rfl, hv0, hok⟩ := okVs_cons hok
  obtain ⟨v1, avs, rfl, hv1, hok⟩ := okVs_cons hok
  obtain rfl := okVs_nil hok
  obtain ⟨p0, x0, rfl, d0⟩ := dG hv0
  obtain ⟨c1, p1, x1, rfl, d1⟩ := dX hv1
  refine bm_of cF5 ?_
  have z0 := k_szG x0 p0 1048576 h (by omega) (by omega) d0
  by_cases y0 : szr 1048576 (wtG x0) < 0
  · simp +contextual (maxSteps := 2000000) only [go_sem, Nat.reduceEqDiff, reduceCtorEq, Nat.reduceAdd, Nat.reduceLeDiff, F5, z0, decide_eq_true y0]
  have z1 := k_szX x1 c1 p1 (szr 1048576 (wtG x0)) h (by omega) (by unfold szr; split <;> omega) d1
  by_cases y1 : szr (szr 1048576 (wtG x0)) (wtX x1) < 0
  · simp +contextual (maxSteps := 2000000) only [go_sem, Nat.reduceEqDiff, reduceCtorEq, Nat.reduceAdd, Nat.reduceLeDiff, F5, z0, z1, decide_eq_false y0, decide_eq_true y1]
  obtain ⟨e0, u0⟩ := szr_ge y0
  obtain ⟨e1, u1⟩ := szr_ge y1
  have s0 : miniG x0 := wtG_sm (by omega)
  have s1 : miniX x1 := wtX_sm (by omega)
  simp +contextual (maxSteps := 2000000) only [go_sem, Nat.reduceEqDiff, reduceCtorEq, Nat.reduceAdd, Nat.reduceLeDiff, F5, z0, z1, decide_eq_false y0, decide_eq_false y1]
  refine wp_call (k_toG x0 p0 h (d0.grow (Grow.refl h)) s0) ?_
  rintro r h1 ⟨g1, p0a, rfl, a0a⟩
  simp +contextual (maxSteps := 2000000) only [go_sem, Nat.reduceEqDiff, reduceCtorEq, Nat.reduceAdd, Nat.reduceLeDiff]
  refine wp_call (k_toX x1 c1 p1 h1 (d1.grow ((Grow.refl h).trans g1)) s1) ?_
  rintro r h2 ⟨g2, c1a, p1a, rfl, a1a⟩
  have ws := k_sAcceptsShape x0 x1 p0a c1a p1a h2 (a0a.sl.grow g2) (a1a.sl) s0 s1
  simp +contextual (maxSteps := 2000000) only [go_sem, Nat.reduceEqDiff, reduceCtorEq, Nat.reduceAdd, Nat.reduceLeDiff, ws]
  refine wp_call (k_toG x0 p0 h2 (d0.grow (((Grow.refl h).trans g1).trans g2)) s0) ?_
  rintro r h3 ⟨g3, p0b, rfl, a0b⟩
  simp +contextual (maxSteps := 2000000) only [go_sem, Nat.reduceEqDiff, reduceCtorEq, Nat.reduceAdd, Nat.reduceLeDiff]
  refine wp_call (k_toX x1 c1 p1 h3 (d1.grow ((((Grow.refl h).trans g1).trans g2).trans g3)) s1) ?_
  rintro r h4 ⟨g4, c1b, p1b, rfl, a1b⟩
  have gi := k_iAcceptsShape x0 x1 p0b c1b p1b h4 (a0b.sl.grow g4) (a1b.sl) s0 s1
  simp +contextual (maxSteps := 2000000) only [go_sem, Nat.reduceEqDiff, reduceCtorEq, Nat.reduceAdd, Nat.reduceLeDiff, gi, decide_true]
  refine wp_call (k_toG x0 p0 h4 (d0.grow (((((Grow.refl h).trans g1).trans g2).trans g3).trans g4)) s0) ?_
  rintro r h5 ⟨g5, p0c, rfl, a0c⟩
  have q0 := k_eqG x0 x0 p0b p0c h5 (a0b.sl.grow (g4.trans g5)) a0c.sl s0
  simp +contextual (maxSteps := 2000000) only [go_sem, Nat.reduceEqDiff, reduceCtorEq, Nat.reduceAdd, Nat.reduceLeDiff, q0, decide_true]
  refine wp_call (k_toX x1 c1 p1 h5 (d1.grow ((((((Grow.refl h).trans g1).trans g2).trans g3).trans g4).trans g5)) s1) ?_
  rintro r h6 ⟨g6, c1c, p1c, rfl, a1c⟩
  have q1 := k_eqX x1 x1 c1b p1b c1c p1c h6 (a1b.sl.grow (g5.trans g6)) a1c.sl s1
  simp +contextual (maxSteps := 2000000) only [go_sem, Nat.reduceEqDiff, reduceCtorEq, Nat.reduceAdd, Nat.reduceLeDiff, q1, decide_true]
  try exact gcK_of rfl (fun _ _ => rfl)
end Go.Proofs.Ytdalgphpacikkac.Am
