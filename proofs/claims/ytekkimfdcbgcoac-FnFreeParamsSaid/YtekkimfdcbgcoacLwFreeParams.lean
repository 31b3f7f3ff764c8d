/- The law FnFreeParams. -/
import Derived.Test.YtekkimfdcbgcoacPF
import Derived.Test.YtekkimfdcbgcoacDP
namespace Go.Proofs.Ytekkimfdcbgcoac.Am
open Go
attribute [local go_sem] loadL_agg
set_option maxRecDepth 100000
set_option maxHeartbeats 4000000
set_option linter.unusedSimpArgs false
set_option linter.unusedVariables false
attribute [local go_sem ↓] bv_t bv_c ev_t ev_c put_same put_ne put_none kill_at pro_at lb_same lb_ne start_zero start_succ wpC_seq wpC_reg wpC_cond wpC_block wpC_skip wpC_exit wpC_ret thenQ_normal thenQ_exit thenQ_ret inBlk_normal inBlk_exit inBlk_ret wpS_nil wpS_step wpS_again wpS_guard wpO_mov wpO_load wpO_faddr wpO_nilCheck wpO_pick wpO_build wpO_bin wpO_eqb wpO_eqst wpO_eqnil wpO_not wpO_conv wpO_bytesStr wpO_iaddr wpO_idxStr wpO_field wpO_extract wpO_len wpO_lenStr wpO_cap wpO_min wpO_slice wpO_sliceStr wpO_alloc wpO_box wpO_store wpO_call wpO_callv wpO_mkfn wpO_buildSlice wpO_mkslice wpO_append wpO_appz proA_nil proA_cons tmpX_nil tmpX_tmp tmpX_cell doneB_normal doneB_ret agK_cons agK_nil agK_guard agG_tt agG_ff agG_tf agG_ft agG_undef pureB_load results_one results_two results_nil resBs_cons resBs_nil resB_tmp resB_cell
attribute [local go_sem] kill_v kill_lp_ne kill_lp_same pro_v pro_lp_same pro_lp_ne av_v av_lp optB_some optX_some valX_eq ldX_lp ldX_v faX_lp faX_v ncX_lp ncX_ptr ncX_fn boxK_one boxK_agg stL_some stK_lp_one stK_lp_agg stK_v_one stK_v_agg proM_v proM_lp callG_mk callVG_mk callvK_fn fnG_mk ptrsA_nil ptrsA_cons callH_some whenA_true whenA_false guardH_tt guardH_ff guardH_tf guardH_ft guardH_undef agV_one agV_agg lenO_sl lenStrO_str notO_bool pickO_bool convO_int eqbO_bool eqnilO_sl extractO_tup capO_sl minO_int loadL_one loadL_all storeL_eq fillA_nil fillA_one fillA_agg nat_ge neg_ge nat_lt neg_lt buildO bin_add bin_sub bin_mul bin_eql bin_neq bin_lss bin_leq bin_gtr bin_geq str_eql str_neq str_lss str_leq str_gtr str_geq retK_some endK_mk gcK_same gcK_int gcK_bool tupO_one tupO_agg rdy_self ib ii Option.map_none Option.map_some Option.some.injEq exists_eq_left' exists_eq_left ne_eq not_false_eq_true if_true if_false List.map_cons List.map_nil List.getElem?_cons_zero List.getElem?_cons_succ List.length_cons List.length_nil List.take_succ_cons List.take_zero List.take_nil List.drop_succ_cons List.drop_zero List.drop_nil List.cons_append List.nil_append List.append_nil List.set_cons_zero List.set_cons_succ Nat.zero_add forall_const true_and and_true and_self Bool.false_eq_true false_implies true_implies implies_true Bool.not_true Bool.not_false Bool.not_eq_true' Bool.not_eq_false' beq_self_eq_true Bool.bne_true Bool.bne_false
attribute [local go_sem] lenI lenS lenP lenQ lenB lenL lenT encI_0 encS_0 encP_0 encP_1 encQ_0 encQ_1 encQ_2 encQ_3 encB_0 encB_1 encL_0 encL_1 encT_0 encT_1
attribute [local go_sem low] whenA_bool guardH_bool
/-! laws.FnFreeParams -/
def L3_0 : List AStep := [⟨.mov (.c (.bool false)), (some 2), none, []⟩]
theorem v3_0 : VS L3_0.eq_1 := rfl
def L3_1 : List AStep := [⟨.bin .gtr (.t 9) (.c (.int .i64 1048576)), (some 10), none, []⟩]
theorem v3_1 : VS L3_1.eq_1 := rfl
def L3_2 : List AStep := ⟨.mov (.t 0), (some 8), none, []⟩ :: ⟨.len (.t 8), (some 9), none, []⟩ :: L3_1
theorem v3_2 : VS L3_2.eq_1 := rfl
def L3_3 : List AStep := [⟨.mov (.c (.bool true)), (some 2), none, []⟩]
theorem v3_3 : VS L3_3.eq_1 := rfl
def L3_4 : List AStep := [⟨.alloc 31 [(.sl none 0 (some 0)), (.sl none 0 (some 0)), (.sl none 0 (some 0))], (some 3), none, []⟩, ⟨.store 3 (.t 3) (.t 12), none, none, []⟩]
theorem v3_4 : VS L3_4.eq_1 := rfl
def L3_5 : List AStep := ⟨.mov (.t 0), (some 11), none, []⟩ :: ⟨.call 9 [(.t 11)], (some 12), none, []⟩ :: L3_4
theorem v3_5 : VS L3_5.eq_1 := rfl
def L3_6 : List AStep := [⟨.mov (.t 14), (some 4), none, []⟩]
theorem v3_6 : VS L3_6.eq_1 := rfl
def L3_7 : List AStep := ⟨.load 3 true (.t 3), (some 13), none, []⟩ :: ⟨.call 10 [(.t 13)], (some 14), none, []⟩ :: L3_6
theorem v3_7 : VS L3_7.eq_1 := rfl
def L3_8 : List AStep := [⟨.not (.t 22), (some 23), (some (20, false)), []⟩, ⟨.pick (.t 20) (.c (.bool true)) (.t 23), (some 24), none, []⟩]
theorem v3_8 : VS L3_8.eq_1 := rfl
def L3_9 : List AStep := ⟨.load 3 true (.t 3), (some 21), (some (20, false)), []⟩ :: ⟨.call 13 [(.t 21)], (some 22), (some (20, false)), []⟩ :: L3_8
theorem v3_9 : VS L3_9.eq_1 := rfl
def L3_10 : List AStep := ⟨.not (.t 18), (some 19), none, []⟩ :: ⟨.mov (.t 19), (some 20), none, []⟩ :: L3_9
theorem v3_10 : VS L3_10.eq_1 := rfl
def L3_11 : List AStep := ⟨.call 12 [(.t 16)], (some 17), none, []⟩ :: ⟨.call 11 [(.t 15), (.t 17)], (some 18), none, []⟩ :: L3_10
theorem v3_11 : VS L3_11.eq_1 := rfl
def L3_12 : List AStep := ⟨.mov (.t 4), (some 15), none, []⟩ :: ⟨.load 3 true (.t 3), (some 16), none, []⟩ :: L3_11
theorem v3_12 : VS L3_12.eq_1 := rfl
def L3_13 : List AStep := [⟨.mov (.t 28), (some 2), none, []⟩]
theorem v3_13 : VS L3_13.eq_1 := rfl
def L3_14 : List AStep := ⟨.call 12 [(.t 26)], (some 27), none, []⟩ :: ⟨.call 11 [(.t 25), (.t 27)], (some 28), none, []⟩ :: L3_13
theorem v3_14 : VS L3_14.eq_1 := rfl
def L3_15 : List AStep := ⟨.mov (.t 4), (some 25), none, []⟩ :: ⟨.load 3 true (.t 3), (some 26), none, []⟩ :: L3_14
theorem v3_15 : VS L3_15.eq_1 := rfl
def L3_16 : List AStep := [⟨.mov (.t 36), (some 6), none, []⟩]
theorem v3_16 : VS L3_16.eq_1 := rfl
def L3_17 : List AStep := ⟨.alloc 39 [(.sl none 0 (some 0))], (some 5), none, []⟩ :: ⟨.store 1 (.t 5) (.t 35), none, none, []⟩ :: L3_16
theorem v3_17 : VS L3_17.eq_1 := rfl
def L3_18 : List AStep := ⟨.extract (.t 29) 0, (some 35), none, []⟩ :: ⟨.extract (.t 29) 1, (some 36), none, []⟩ :: L3_17
theorem v3_18 : VS L3_18.eq_1 := rfl
def L3_19 : List AStep := ⟨.call 14 [(.t 31), (.t 33)], (some 34), none, []⟩ :: ⟨.mov (.t 34), (some 29), none, []⟩ :: L3_18
theorem v3_19 : VS L3_19.eq_1 := rfl
def L3_20 : List AStep := ⟨.faddr 1 (.t 3), (some 32), none, []⟩ :: ⟨.load 2 true (.t 32), (some 33), none, []⟩ :: L3_19
theorem v3_20 : VS L3_20.eq_1 := rfl
def L3_21 : List AStep := ⟨.faddr 0 (.t 3), (some 30), none, []⟩ :: ⟨.load 1 true (.t 30), (some 31), none, []⟩ :: L3_20
theorem v3_21 : VS L3_21.eq_1 := rfl
def L3_22 : List AStep := [⟨.mov (.c (.int .i64 0)), (some 7), none, []⟩]
theorem v3_22 : VS L3_22.eq_1 := rfl
def L3_23 : List AStep := [⟨.pick (.t 43) (.t 44) (.c (.bool false)), (some 45), none, []⟩]
theorem v3_23 : VS L3_23.eq_1 := rfl
def L3_24 : List AStep := ⟨.mov (.t 42), (some 43), none, []⟩ :: ⟨.mov (.t 6), (some 44), (some (43, true)), []⟩ :: L3_23
theorem v3_24 : VS L3_24.eq_1 := rfl
def L3_25 : List AStep := ⟨.len (.t 40), (some 41), none, []⟩ :: ⟨.bin .lss (.t 37) (.t 41), (some 42), none, []⟩ :: L3_24
theorem v3_25 : VS L3_25.eq_1 := rfl
def L3_26 : List AStep := ⟨.faddr 0 (.t 38), (some 39), none, []⟩ :: ⟨.load 1 false (.t 39), (some 40), none, []⟩ :: L3_25
theorem v3_26 : VS L3_26.eq_1 := rfl
def L3_27 : List AStep := ⟨.mov (.t 7), (some 37), none, []⟩ :: ⟨.faddr 0 (.t 3), (some 38), none, []⟩ :: L3_26
theorem v3_27 : VS L3_27.eq_1 := rfl
def L3_28 : List AStep := [⟨.pick (.t 55) (.t 71) (.c (.bool false)), (some 72), none, []⟩]
theorem v3_28 : VS L3_28.eq_1 := rfl
def L3_29 : List AStep := ⟨.call 16 [(.t 62), (.t 69)], (some 70), (some (55, true)), [(.load 1 false (.t 56), (some 57), (some (55, true))), (.load 1 false (.t 60), (some 61), (some (55, true)))]⟩ :: ⟨.eqb false (.t 61) (.t 70), (some 71), (some (55, true)), []⟩ :: L3_28
theorem v3_29 : VS L3_29.eq_1 := rfl
def L3_30 : List AStep := ⟨.faddr 0 (.t 67), (some 68), (some (55, true)), []⟩ :: ⟨.load 1 false (.t 68), (some 69), (some (55, true)), []⟩ :: L3_29
theorem v3_30 : VS L3_30.eq_1 := rfl
def L3_31 : List AStep := ⟨.mov (.t 7), (some 66), (some (55, true)), []⟩ :: ⟨.iaddr 4 (.t 65) (.t 66), (some 67), (some (55, true)), []⟩ :: L3_30
theorem v3_31 : VS L3_31.eq_1 := rfl
def L3_32 : List AStep := ⟨.faddr 0 (.t 63), (some 64), (some (55, true)), []⟩ :: ⟨.load 1 false (.t 64), (some 65), (some (55, true)), []⟩ :: L3_31
theorem v3_32 : VS L3_32.eq_1 := rfl
def L3_33 : List AStep := ⟨.mov (.t 4), (some 62), (some (55, true)), []⟩ :: ⟨.faddr 0 (.t 3), (some 63), (some (55, true)), []⟩ :: L3_32
theorem v3_33 : VS L3_33.eq_1 := rfl
def L3_34 : List AStep := ⟨.faddr 0 (.t 59), (some 60), (some (55, true)), []⟩ :: ⟨.load 1 false (.t 60), (some 61), (some (55, true)), []⟩ :: L3_33
theorem v3_34 : VS L3_34.eq_1 := rfl
def L3_35 : List AStep := ⟨.mov (.t 7), (some 58), (some (55, true)), []⟩ :: ⟨.iaddr 3 (.t 57) (.t 58), (some 59), (some (55, true)), []⟩ :: L3_34
theorem v3_35 : VS L3_35.eq_1 := rfl
def L3_36 : List AStep := ⟨.faddr 0 (.t 5), (some 56), (some (55, true)), []⟩ :: ⟨.load 1 false (.t 56), (some 57), (some (55, true)), []⟩ :: L3_35
theorem v3_36 : VS L3_36.eq_1 := rfl
def L3_37 : List AStep := ⟨.call 15 [(.t 53)], (some 54), none, []⟩ :: ⟨.mov (.t 54), (some 55), none, []⟩ :: L3_36
theorem v3_37 : VS L3_37.eq_1 := rfl
def L3_38 : List AStep := ⟨.iaddr 4 (.t 50) (.t 51), (some 52), none, []⟩ :: ⟨.load 4 true (.t 52), (some 53), none, []⟩ :: L3_37
theorem v3_38 : VS L3_38.eq_1 := rfl
def L3_39 : List AStep := ⟨.load 1 false (.t 49), (some 50), none, []⟩ :: ⟨.mov (.t 7), (some 51), none, []⟩ :: L3_38
theorem v3_39 : VS L3_39.eq_1 := rfl
def L3_40 : List AStep := ⟨.faddr 0 (.t 3), (some 48), none, []⟩ :: ⟨.faddr 0 (.t 48), (some 49), none, []⟩ :: L3_39
theorem v3_40 : VS L3_40.eq_1 := rfl
def L3_41 : List AStep := [⟨.mov (.c (.bool false)), (some 2), none, []⟩]
theorem v3_41 : VS L3_41.eq_1 := rfl
def L3_42 : List AStep := [⟨.mov (.t 47), (some 7), none, []⟩]
theorem v3_42 : VS L3_42.eq_1 := rfl
def L3_43 : List AStep := ⟨.mov (.t 7), (some 46), none, []⟩ :: ⟨.bin .add (.t 46) (.c (.int .i64 1)), (some 47), none, []⟩ :: L3_42
theorem v3_43 : VS L3_43.eq_1 := rfl
def L3_44 : List AStep := [⟨.mov (.t 6), (some 73), none, []⟩, ⟨.mov (.t 73), (some 2), none, []⟩]
theorem v3_44 : VS L3_44.eq_1 := rfl
def C3_0 : ACode := .seq (.reg L3_3) .ret
theorem u3_0 : VC C3_0.eq_1 := rfl
def C3_1 : ACode := .cond (.t 10) C3_0 .skip
theorem u3_1 : VC C3_1.eq_1 := rfl
def C3_2 : ACode := .seq (.reg L3_2) C3_1
theorem u3_2 : VC C3_2.eq_1 := rfl
def C3_3 : ACode := .seq (.reg L3_15) .ret
theorem u3_3 : VC C3_3.eq_1 := rfl
def C3_4 : ACode := .cond (.t 24) C3_3 .skip
theorem u3_4 : VC C3_4.eq_1 := rfl
def C3_5 : ACode := .seq (.reg L3_12) C3_4
theorem u3_5 : VC C3_5.eq_1 := rfl
def C3_6 : ACode := .cond (.t 45) .skip (.exit 0)
theorem u3_6 : VC C3_6.eq_1 := rfl
def C3_7 : ACode := .seq (.reg L3_27) C3_6
theorem u3_7 : VC C3_7.eq_1 := rfl
def C3_8 : ACode := .seq (.reg L3_41) .ret
theorem u3_8 : VC C3_8.eq_1 := rfl
def C3_9 : ACode := .cond (.t 72) C3_8 .skip
theorem u3_9 : VC C3_9.eq_1 := rfl
def C3_10 : ACode := .seq (.reg L3_40) C3_9
theorem u3_10 : VC C3_10.eq_1 := rfl
def C3_11 : ACode := .block 1 C3_10
theorem u3_11 : VC C3_11.eq_1 := rfl
def C3_12 : ACode := .seq C3_11 (.reg L3_43)
theorem u3_12 : VC C3_12.eq_1 := rfl
def C3_13 : ACode := .seq C3_7 C3_12
theorem u3_13 : VC C3_13.eq_1 := rfl
def C3_14 : ACode := .block 0 (.loop C3_13)
theorem u3_14 : VC C3_14.eq_1 := rfl
def C3_15 : ACode := .seq (.reg L3_22) C3_14
theorem u3_15 : VC C3_15.eq_1 := rfl
def C3_16 : ACode := .seq (.reg L3_44) .ret
theorem u3_16 : VC C3_16.eq_1 := rfl
def C3_17 : ACode := .seq C3_15 C3_16
theorem u3_17 : VC C3_17.eq_1 := rfl
def C3_18 : ACode := .seq (.reg L3_21) C3_17
theorem u3_18 : VC C3_18.eq_1 := rfl
def C3_19 : ACode := .seq C3_5 C3_18
theorem u3_19 : VC C3_19.eq_1 := rfl
def C3_20 : ACode := .seq (.reg L3_7) C3_19
theorem u3_20 : VC C3_20.eq_1 := rfl
def C3_21 : ACode := .seq (.reg L3_5) C3_20
theorem u3_21 : VC C3_21.eq_1 := rfl
def C3_22 : ACode := .seq C3_2 C3_21
theorem u3_22 : VC C3_22.eq_1 := rfl
def C3_23 : ACode := .seq (.reg L3_0) C3_22
theorem u3_23 : VC C3_23.eq_1 := rfl
def F3 : AFunc := ⟨74, [.tmp 2], C3_23⟩
theorem cF3 : compB Try.prog 3 = some F3 := by kernel_rfl
attribute [local go_sem ↓] u3_0 u3_1 u3_2 u3_3 u3_4 u3_5 u3_6 u3_7 u3_8 u3_9 u3_10 u3_11 u3_12 u3_13 u3_14 u3_15 u3_16 u3_17 u3_18 u3_19 u3_20 u3_21 u3_22 u3_23 v3_0 v3_1 v3_2 v3_3 v3_4 v3_5 v3_6 v3_7 v3_8 v3_9 v3_10 v3_11 v3_12 v3_13 v3_14 v3_15 v3_16 v3_17 v3_18 v3_19 v3_20 v3_21 v3_22 v3_23 v3_24 v3_25 v3_26 v3_27 v3_28 v3_29 v3_30 v3_31 v3_32 v3_33 v3_34 v3_35 v3_36 v3_37 v3_38 v3_39 v3_40 v3_41 v3_42 v3_43 v3_44
theorem law3 (h : H) (avs : List AV) (hok : okVs Try.prog h 6 [ 22 ] avs) : callK (bm Try.prog 3 avs h) fun r _ => r = ib true := by
  obtain ⟨v0, avs, rfl, hv0, hok⟩ := okVs_cons hok
  obtain rfl := okVs_nil hok
  obtain ⟨v, code, rfl, s0, hc, k0⟩ := dBytes hv0
  refine bm_of cF3 ?_
  cases b0 : decide ((code.length : Int) > 1048576) with
  | true => simp +contextual (maxSteps := 2000000) only [go_sem, Nat.reduceEqDiff, reduceCtorEq, Nat.reduceAdd, Nat.reduceLeDiff, F3, s0.len, b0]
  | false =>
  simp +contextual (maxSteps := 2000000) only [go_sem, Nat.reduceEqDiff, reduceCtorEq, Nat.reduceAdd, Nat.reduceLeDiff, F3, s0.len, b0]
  refine wp_call (c_drawFreeParams code v h s0 hc) ?_
  rintro q h1 ⟨g1, u, x, y, l, f, rfl, sq, sf, tl, mf⟩
  have sd : SlD h1 u x y ⟨l, f⟩ := ⟨⟨sq⟩, sf⟩
  have md : miniD ⟨l, f⟩ := ⟨tl.mini, mf⟩
  simp +contextual (maxSteps := 2000000) only [go_sem, Nat.reduceEqDiff, reduceCtorEq, Nat.reduceAdd, Nat.reduceLeDiff]
  refine wp_call (k_iFreeParams ⟨l, f⟩ u x y h1 sd md) ?_
  rintro q2 h2 ⟨g2, w2, rfl, n2⟩
  have sd2 : SlD h2 u x y ⟨l, f⟩ := ⟨sd.g.grow g2, sd.f.grow g2⟩
  simp +contextual (maxSteps := 2000000) only [go_sem, Nat.reduceEqDiff, reduceCtorEq, Nat.reduceAdd, Nat.reduceLeDiff]
  refine wp_call (k_sFreeParams ⟨l, f⟩ u x y h2 sd2 md) ?_
  rintro q3 h3 ⟨g3, w3, rfl, n3⟩
  have sd3 : SlD h3 u x y ⟨l, f⟩ := ⟨sd2.g.grow g3, sd2.f.grow g3⟩
  have s2 : SlS h3 (.one w2) (freeAll l f) := (n2.out.grow g3).sl lenS
  have hz : (freeAll l f).length ≤ big := miniZ.all
  have eqs : ∀ (h' : H) (a b : CV), SlS h' (.one a) (freeAll l f) → SlS h' (.one b) (freeAll l f) → bm Try.prog 11 [.one a, .one b] h' = some (ib true, h') := fun h' a b x y => by
    have := c_equalTexts (freeAll l f) (freeAll l f) _ _ h' x y hz
    rwa [decide_eq_true rfl] at this
  have eq1 := eqs h3 w2 w3 s2 (n3.out.sl lenS)
  have ev := k_iValidPartial ⟨l, f⟩ u x y h3 sd3 md
  cases b1 : partOk l f with
  | false =>
    simp +contextual (maxSteps := 2000000) only [go_sem, Nat.reduceEqDiff, reduceCtorEq, Nat.reduceAdd, Nat.reduceLeDiff, eq1, ev, b1]
    refine wp_call (k_sFreeParams ⟨l, f⟩ u x y h3 sd3 md) ?_
    rintro q4 h4 ⟨g4, w4, rfl, n4⟩
    have eq2 := eqs h4 w2 w4 (s2.grow g4) (n4.out.sl lenS)
    simp +contextual (maxSteps := 2000000) only [go_sem, Nat.reduceEqDiff, reduceCtorEq, Nat.reduceAdd, Nat.reduceLeDiff, eq2]
    exact gcK_of rfl (fun _ _ => rfl)
  | true =>
  simp +contextual (maxSteps := 2000000) only [go_sem, Nat.reduceEqDiff, reduceCtorEq, Nat.reduceAdd, Nat.reduceLeDiff, eq1, ev, b1]
  refine wp_call (k_iBindPart l f u x y h3 sd3.g sd3.f md.g md.f) ?_
  rintro q4 h4 ⟨g4, v4, r4, rfl, y4⟩
  have e0 : bindPartF l f = boundS l f := by unfold bindPartF; rw [b1]; rfl
  rw [e0] at y4
  obtain ⟨rs, X⟩ := y4.sl.ex
  have s4 := s2.grow g4
  have sq4 := sd3.g.out.grow g4
  have hl8 := okSig_len (part_fits b1).1
  simp +contextual (maxSteps := 2000000) only [go_sem, Nat.reduceEqDiff, reduceCtorEq, Nat.reduceAdd, Nat.reduceLeDiff, b1]
  refine wpC_loop (fun i T L h' => h' = h4 ∧ T 3 = .lp 3 0 ∧ (L 3).2 = [u, x, y] ∧ T 4 = .v (.one w2) ∧ T 5 = .lp 5 0 ∧ (L 5).2 = [v4] ∧ T 6 = .v (.one (.bool true)) ∧ T 7 = .v (.one (.int .i64 (i : Nat)))) l.length ?_ ?_ (Nat.zero_le _) ?_
  · rintro i T L h' hi ⟨rfl, t3, l3, t4, t5, l5, t6, t7⟩
    have hs : i < (boundS l f).length := by rw [boundS_len]; exact hi
    have hi1 : i < rs.length := by rw [X.len]; exact hs
    have hx := (X.el i hi1).given
    rw [getY_eq hs] at hx
    have es := c_singleL l[i] h'
    have eh := c_hasText (freeAll l f) (.one w2) l[i].name h' s4 hz
    rw [show freeAll l f = freeF (fun _ => true) l f from rfl, free_has b1 hi, isFree_eq hi hs, Bool.and_true] at eh
    cases b : single l[i] with
    | false =>
      simp +contextual (maxSteps := 2000000) only [go_sem, Nat.reduceEqDiff, reduceCtorEq, Nat.reduceAdd, Nat.reduceLeDiff, t3, l3, t4, t5, l5, t6, t7, sq4.len, sq4.iaddr hi, sq4.whole hi, es, b, lt_true hi]
      rw [wrap_next hi (by omega)]
    | true =>
      rw [b, Bool.true_and] at eh
      have en : ∀ b : Bool, (b == !b) = false := fun b => by cases b <;> rfl
      simp +contextual (maxSteps := 2000000) only [go_sem, Nat.reduceEqDiff, reduceCtorEq, Nat.reduceAdd, Nat.reduceLeDiff, t3, l3, t4, t5, l5, t6, t7, sq4.len, sq4.iaddr hi, sq4.whole hi, sq4.fieldO hi, X.out.iaddr hi1, X.out.fieldO hi1, encY, es, b, eh, hx, en, lt_true hi]
      rw [wrap_next hi (by omega)]
  · rintro T L h' ⟨rfl, t3, l3, t4, t5, l5, t6, t7⟩
    simp +contextual (maxSteps := 2000000) only [go_sem, Nat.reduceEqDiff, reduceCtorEq, Nat.reduceAdd, Nat.reduceLeDiff, t3, l3, t4, t5, l5, t6, t7, sq4.len, lt_false]
    try exact gcK_of rfl (fun _ _ => rfl)
  · simp +contextual (maxSteps := 2000000) only [go_sem, Nat.reduceEqDiff, reduceCtorEq, Nat.reduceAdd, Nat.reduceLeDiff]
    rfl
end Go.Proofs.Ytekkimfdcbgcoac.Am
