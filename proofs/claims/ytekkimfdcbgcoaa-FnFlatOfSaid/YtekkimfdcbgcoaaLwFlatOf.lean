/- The law FnFlatOf. -/
import Derived.Test.YtekkimfdcbgcoaaL1
import Derived.Test.YtekkimfdcbgcoaaDF
namespace Go.Proofs.Ytekkimfdcbgcoaa.Am
open Go
set_option maxRecDepth 100000
set_option maxHeartbeats 4000000
set_option linter.unusedSimpArgs false
set_option linter.unusedVariables false
attribute [local go_sem ↓] bv_t bv_c ev_t ev_c put_same put_ne put_none kill_at pro_at lb_same lb_ne start_zero start_succ wpC_seq wpC_reg wpC_cond wpC_block wpC_skip wpC_exit wpC_ret thenQ_normal thenQ_exit thenQ_ret inBlk_normal inBlk_exit inBlk_ret wpS_nil wpS_step wpS_again wpS_guard wpO_mov wpO_load wpO_faddr wpO_nilCheck wpO_pick wpO_build wpO_bin wpO_eqb wpO_eqst wpO_eqnil wpO_not wpO_conv wpO_bytesStr wpO_iaddr wpO_idxStr wpO_field wpO_extract wpO_len wpO_lenStr wpO_cap wpO_min wpO_slice wpO_sliceStr wpO_alloc wpO_box wpO_store wpO_call wpO_callv wpO_mkfn wpO_buildSlice wpO_mkslice wpO_append wpO_appz proA_nil proA_cons tmpX_nil tmpX_tmp tmpX_cell doneB_normal doneB_ret agK_cons agK_nil agK_guard agG_tt agG_ff agG_tf agG_ft agG_undef pureB_load results_one results_two results_nil resBs_cons resBs_nil resB_tmp resB_cell
attribute [local go_sem] kill_v kill_lp_ne kill_lp_same pro_v pro_lp_same pro_lp_ne av_v av_lp optB_some optX_some valX_eq ldX_lp ldX_v faX_lp faX_v ncX_lp ncX_ptr ncX_fn boxK_one boxK_agg stL_some stK_lp_one stK_lp_agg stK_v_one stK_v_agg proM_v proM_lp callG_mk callVG_mk callvK_fn fnG_mk ptrsA_nil ptrsA_cons callH_some whenA_true whenA_false guardH_tt guardH_ff guardH_tf guardH_ft guardH_undef agV_one agV_agg lenO_sl lenStrO_str notO_bool pickO_bool convO_int eqbO_bool eqnilO_sl extractO_tup capO_sl minO_int loadL_one loadL_all storeL_eq fillA_nil fillA_one fillA_agg nat_ge neg_ge nat_lt neg_lt buildO bin_add bin_sub bin_mul bin_eql bin_neq bin_lss bin_leq bin_gtr bin_geq str_eql str_neq str_lss str_leq str_gtr str_geq retK_some endK_mk gcK_same gcK_int gcK_bool tupO_one tupO_agg rdy_self ib ii Option.map_none Option.map_some Option.some.injEq exists_eq_left' exists_eq_left ne_eq not_false_eq_true if_true if_false List.map_cons List.map_nil List.getElem?_cons_zero List.getElem?_cons_succ List.length_cons List.length_nil List.take_succ_cons List.take_zero List.take_nil List.drop_succ_cons List.drop_zero List.drop_nil List.cons_append List.nil_append List.append_nil List.set_cons_zero List.set_cons_succ Nat.zero_add forall_const true_and and_true and_self Bool.false_eq_true false_implies true_implies implies_true Bool.not_true Bool.not_false Bool.not_eq_true' Bool.not_eq_false' beq_self_eq_true Bool.bne_true Bool.bne_false
attribute [local go_sem] lenI lenS lenP lenQ lenB lenL lenT encI_0 encS_0 encP_0 encP_1 encQ_0 encQ_1 encQ_2 encQ_3 encB_0 encB_1 encL_0 encL_1 encT_0 encT_1
attribute [local go_sem low] whenA_bool guardH_bool
theorem eqX_self (x : Shape) (h' : H) (p q r s : CV) (a : SlX h' p q x) (b : SlX h' r s x) (m : miniX x) : bm Try.prog 34 [.agg [p, q], .agg [r, s]] h' = some (ib true, h') := by
  obtain rfl := a.c
  obtain rfl := b.c
  have := c_equalShape x x q s h' a.out b.out (Nat.le_trans m.len (by decide))
  rwa [decide_eq_true rfl] at this
/-! laws.FnFlatOf -/
def L8_0 : List AStep := [⟨.mov (.c (.bool false)), (some 2), none, []⟩]
theorem v8_0 : VS L8_0.eq_1 := rfl
def L8_1 : List AStep := [⟨.bin .gtr (.t 7) (.c (.int .i64 1048576)), (some 8), none, []⟩]
theorem v8_1 : VS L8_1.eq_1 := rfl
def L8_2 : List AStep := ⟨.mov (.t 0), (some 6), none, []⟩ :: ⟨.len (.t 6), (some 7), none, []⟩ :: L8_1
theorem v8_2 : VS L8_2.eq_1 := rfl
def L8_3 : List AStep := [⟨.mov (.c (.bool true)), (some 2), none, []⟩]
theorem v8_3 : VS L8_3.eq_1 := rfl
def L8_4 : List AStep := [⟨.alloc 67 [(.int .i64 0), (.sl none 0 (some 0))], (some 3), none, []⟩, ⟨.store 2 (.t 3) (.t 10), none, none, []⟩]
theorem v8_4 : VS L8_4.eq_1 := rfl
def L8_5 : List AStep := ⟨.mov (.t 0), (some 9), none, []⟩ :: ⟨.call 37 [(.t 9)], (some 10), none, []⟩ :: L8_4
theorem v8_5 : VS L8_5.eq_1 := rfl
def L8_6 : List AStep := [⟨.alloc 27 [(.sl none 0 (some 0)), (.sl none 0 (some 0))], (some 4), none, []⟩, ⟨.store 2 (.t 4) (.t 12), none, none, []⟩]
theorem v8_6 : VS L8_6.eq_1 := rfl
def L8_7 : List AStep := ⟨.load 2 true (.t 3), (some 11), none, []⟩ :: ⟨.call 38 [(.t 11)], (some 12), none, []⟩ :: L8_6
theorem v8_7 : VS L8_7.eq_1 := rfl
def L8_8 : List AStep := [⟨.not (.t 20), (some 21), (some (18, false)), []⟩, ⟨.pick (.t 18) (.c (.bool true)) (.t 21), (some 22), none, []⟩]
theorem v8_8 : VS L8_8.eq_1 := rfl
def L8_9 : List AStep := ⟨.load 2 true (.t 3), (some 19), (some (18, false)), []⟩ :: ⟨.call 36 [(.t 19)], (some 20), (some (18, false)), []⟩ :: L8_8
theorem v8_9 : VS L8_9.eq_1 := rfl
def L8_10 : List AStep := ⟨.not (.t 16), (some 17), none, []⟩ :: ⟨.mov (.t 17), (some 18), none, []⟩ :: L8_9
theorem v8_10 : VS L8_10.eq_1 := rfl
def L8_11 : List AStep := ⟨.call 39 [(.t 14)], (some 15), none, [(.load 2 true (.t 4), (some 13), none)]⟩ :: ⟨.call 14 [(.t 13), (.t 15)], (some 16), none, []⟩ :: L8_10
theorem v8_11 : VS L8_11.eq_1 := rfl
def L8_12 : List AStep := ⟨.load 2 true (.t 4), (some 13), none, []⟩ :: ⟨.load 2 true (.t 3), (some 14), none, []⟩ :: L8_11
theorem v8_12 : VS L8_12.eq_1 := rfl
def L8_13 : List AStep := [⟨.mov (.t 26), (some 2), none, []⟩]
theorem v8_13 : VS L8_13.eq_1 := rfl
def L8_14 : List AStep := ⟨.call 39 [(.t 24)], (some 25), none, [(.load 2 true (.t 4), (some 23), none)]⟩ :: ⟨.call 14 [(.t 23), (.t 25)], (some 26), none, []⟩ :: L8_13
theorem v8_14 : VS L8_14.eq_1 := rfl
def L8_15 : List AStep := ⟨.load 2 true (.t 4), (some 23), none, []⟩ :: ⟨.load 2 true (.t 3), (some 24), none, []⟩ :: L8_14
theorem v8_15 : VS L8_15.eq_1 := rfl
def L8_16 : List AStep := [⟨.mov (.c (.int .i64 0)), (some 5), none, []⟩]
theorem v8_16 : VS L8_16.eq_1 := rfl
def L8_17 : List AStep := [⟨.bin .lss (.t 27) (.t 30), (some 31), none, []⟩]
theorem v8_17 : VS L8_17.eq_1 := rfl
def L8_18 : List AStep := ⟨.load 1 false (.t 28), (some 29), none, []⟩ :: ⟨.len (.t 29), (some 30), none, []⟩ :: L8_17
theorem v8_18 : VS L8_18.eq_1 := rfl
def L8_19 : List AStep := ⟨.mov (.t 5), (some 27), none, []⟩ :: ⟨.faddr 1 (.t 4), (some 28), none, []⟩ :: L8_18
theorem v8_19 : VS L8_19.eq_1 := rfl
def L8_20 : List AStep := [⟨.bin .neq (.t 39) (.c (.int .i64 0)), (some 40), none, []⟩]
theorem v8_20 : VS L8_20.eq_1 := rfl
def L8_21 : List AStep := ⟨.faddr 1 (.t 37), (some 38), none, []⟩ :: ⟨.load 1 false (.t 38), (some 39), none, []⟩ :: L8_20
theorem v8_21 : VS L8_21.eq_1 := rfl
def L8_22 : List AStep := ⟨.mov (.t 5), (some 36), none, []⟩ :: ⟨.iaddr 2 (.t 35) (.t 36), (some 37), none, []⟩ :: L8_21
theorem v8_22 : VS L8_22.eq_1 := rfl
def L8_23 : List AStep := ⟨.faddr 1 (.t 4), (some 34), none, []⟩ :: ⟨.load 1 false (.t 34), (some 35), none, []⟩ :: L8_22
theorem v8_23 : VS L8_23.eq_1 := rfl
def L8_24 : List AStep := [⟨.mov (.c (.bool false)), (some 2), none, []⟩]
theorem v8_24 : VS L8_24.eq_1 := rfl
def L8_25 : List AStep := [⟨.mov (.t 33), (some 5), none, []⟩]
theorem v8_25 : VS L8_25.eq_1 := rfl
def L8_26 : List AStep := ⟨.mov (.t 5), (some 32), none, []⟩ :: ⟨.bin .add (.t 32) (.c (.int .i64 1)), (some 33), none, []⟩ :: L8_25
theorem v8_26 : VS L8_26.eq_1 := rfl
def L8_27 : List AStep := [⟨.mov (.t 52), (some 2), none, []⟩]
theorem v8_27 : VS L8_27.eq_1 := rfl
def L8_28 : List AStep := ⟨.bin .eql (.t 48) (.t 50), (some 51), (some (45, true)), []⟩ :: ⟨.pick (.t 45) (.t 51) (.c (.bool false)), (some 52), none, []⟩ :: L8_27
theorem v8_28 : VS L8_28.eq_1 := rfl
def L8_29 : List AStep := ⟨.faddr 0 (.t 3), (some 49), (some (45, true)), []⟩ :: ⟨.load 1 false (.t 49), (some 50), (some (45, true)), []⟩ :: L8_28
theorem v8_29 : VS L8_29.eq_1 := rfl
def L8_30 : List AStep := ⟨.load 1 false (.t 46), (some 47), (some (45, true)), []⟩ :: ⟨.len (.t 47), (some 48), (some (45, true)), []⟩ :: L8_29
theorem v8_30 : VS L8_30.eq_1 := rfl
def L8_31 : List AStep := ⟨.mov (.t 44), (some 45), none, []⟩ :: ⟨.faddr 0 (.t 4), (some 46), (some (45, true)), []⟩ :: L8_30
theorem v8_31 : VS L8_31.eq_1 := rfl
def L8_32 : List AStep := ⟨.call 33 [(.t 41)], (some 42), none, [(.load 2 true (.t 3), (some 43), none)]⟩ :: ⟨.call 34 [(.t 42), (.t 43)], (some 44), none, []⟩ :: L8_31
theorem v8_32 : VS L8_32.eq_1 := rfl
def L8_33 : List AStep := ⟨.load 2 true (.t 4), (some 41), none, []⟩ :: ⟨.load 2 true (.t 3), (some 43), none, []⟩ :: L8_32
theorem v8_33 : VS L8_33.eq_1 := rfl
def C8_0 : ACode := .seq (.reg L8_3) .ret
theorem u8_0 : VC C8_0.eq_1 := rfl
def C8_1 : ACode := .cond (.t 8) C8_0 .skip
theorem u8_1 : VC C8_1.eq_1 := rfl
def C8_2 : ACode := .seq (.reg L8_2) C8_1
theorem u8_2 : VC C8_2.eq_1 := rfl
def C8_3 : ACode := .seq (.reg L8_15) .ret
theorem u8_3 : VC C8_3.eq_1 := rfl
def C8_4 : ACode := .cond (.t 22) C8_3 .skip
theorem u8_4 : VC C8_4.eq_1 := rfl
def C8_5 : ACode := .seq (.reg L8_12) C8_4
theorem u8_5 : VC C8_5.eq_1 := rfl
def C8_6 : ACode := .cond (.t 31) .skip (.exit 0)
theorem u8_6 : VC C8_6.eq_1 := rfl
def C8_7 : ACode := .seq (.reg L8_19) C8_6
theorem u8_7 : VC C8_7.eq_1 := rfl
def C8_8 : ACode := .seq (.reg L8_24) .ret
theorem u8_8 : VC C8_8.eq_1 := rfl
def C8_9 : ACode := .cond (.t 40) C8_8 .skip
theorem u8_9 : VC C8_9.eq_1 := rfl
def C8_10 : ACode := .seq (.reg L8_23) C8_9
theorem u8_10 : VC C8_10.eq_1 := rfl
def C8_11 : ACode := .block 1 C8_10
theorem u8_11 : VC C8_11.eq_1 := rfl
def C8_12 : ACode := .seq C8_11 (.reg L8_26)
theorem u8_12 : VC C8_12.eq_1 := rfl
def C8_13 : ACode := .seq C8_7 C8_12
theorem u8_13 : VC C8_13.eq_1 := rfl
def C8_14 : ACode := .block 0 (.loop C8_13)
theorem u8_14 : VC C8_14.eq_1 := rfl
def C8_15 : ACode := .seq (.reg L8_16) C8_14
theorem u8_15 : VC C8_15.eq_1 := rfl
def C8_16 : ACode := .seq (.reg L8_33) .ret
theorem u8_16 : VC C8_16.eq_1 := rfl
def C8_17 : ACode := .seq C8_15 C8_16
theorem u8_17 : VC C8_17.eq_1 := rfl
def C8_18 : ACode := .seq C8_5 C8_17
theorem u8_18 : VC C8_18.eq_1 := rfl
def C8_19 : ACode := .seq (.reg L8_7) C8_18
theorem u8_19 : VC C8_19.eq_1 := rfl
def C8_20 : ACode := .seq (.reg L8_5) C8_19
theorem u8_20 : VC C8_20.eq_1 := rfl
def C8_21 : ACode := .seq C8_2 C8_20
theorem u8_21 : VC C8_21.eq_1 := rfl
def C8_22 : ACode := .seq (.reg L8_0) C8_21
theorem u8_22 : VC C8_22.eq_1 := rfl
def F8 : AFunc := ⟨53, [.tmp 2], C8_22⟩
theorem cF8 : compB Try.prog 8 = some F8 := by kernel_rfl
attribute [local go_sem ↓] u8_0 u8_1 u8_2 u8_3 u8_4 u8_5 u8_6 u8_7 u8_8 u8_9 u8_10 u8_11 u8_12 u8_13 u8_14 u8_15 u8_16 u8_17 u8_18 u8_19 u8_20 u8_21 u8_22 v8_0 v8_1 v8_2 v8_3 v8_4 v8_5 v8_6 v8_7 v8_8 v8_9 v8_10 v8_11 v8_12 v8_13 v8_14 v8_15 v8_16 v8_17 v8_18 v8_19 v8_20 v8_21 v8_22 v8_23 v8_24 v8_25 v8_26 v8_27 v8_28 v8_29 v8_30 v8_31 v8_32 v8_33
theorem law8 (h : H) (avs : List AV) (hok : okVs Try.prog h 6 [ 22 ] avs) : callK (bm Try.prog 8 avs h) fun r _ => r = ib true := by
  obtain ⟨v0, avs, rfl, hv0, hok⟩ := okVs_cons hok
  obtain rfl := okVs_nil hok
  obtain ⟨v, code, rfl, s0, hc, k0⟩ := dBytes hv0
  refine bm_of cF8 ?_
  cases b0 : decide ((code.length : Int) > 1048576) with
  | true => simp +contextual (maxSteps := 2000000) only [go_sem, Nat.reduceEqDiff, reduceCtorEq, Nat.reduceAdd, Nat.reduceLeDiff, F8, s0.len, b0]
  | false =>
  simp +contextual (maxSteps := 2000000) only [go_sem, Nat.reduceEqDiff, reduceCtorEq, Nat.reduceAdd, Nat.reduceLeDiff, F8, s0.len, b0]
  refine wp_call (c_drawFlatOf code v h s0 hc) ?_
  rintro q h1 ⟨g1, x, y, s1, rfl, zf, mf⟩
  have mo : miniF (zeroF s1) := .zero
  have eqs : ∀ (h' : H) (p q r s : CV), SlF h' p q (zeroF s1) → SlF h' r s (zeroF s1) → bm Try.prog 14 [.agg [p, q], .agg [r, s]] h' = some (ib true, h') := fun h' p q r s a b => by
    have := c_equalFlat (zeroF s1) (zeroF s1) p q r s h' a.pl a.nl b.pl b.nl (Nat.le_trans mo.pl (by decide)) (Nat.le_trans mo.nl (by decide))
    rwa [decide_eq_true rfl] at this
  simp +contextual (maxSteps := 2000000) only [go_sem, Nat.reduceEqDiff, reduceCtorEq, Nat.reduceAdd, Nat.reduceLeDiff]
  refine wp_call (k_iFlatOf s1 x y h1 zf.sl mf) ?_
  rintro q h2 ⟨g2, c, d, rfl, zo⟩
  have zf2 := zf.sl.grow g2
  simp +contextual (maxSteps := 2000000) only [go_sem, Nat.reduceEqDiff, reduceCtorEq, Nat.reduceAdd, Nat.reduceLeDiff]
  refine wp_call (k_sFlatOf s1 x y h2 zf2 mf) ?_
  rintro q h3 ⟨g3, c3, d3, rfl, zw⟩
  have zf3 := zf2.grow g3
  have zo3 := (zo.grow g3).sl
  have eq1 := eqs h3 _ _ _ _ zo3 zw.sl
  have ev := c_ValidShape s1 x y h3 zf3 mf
  cases b1 : okShape s1 with
  | false =>
    simp +contextual (maxSteps := 2000000) only [go_sem, Nat.reduceEqDiff, reduceCtorEq, Nat.reduceAdd, Nat.reduceLeDiff, eq1, ev, b1]
    refine wp_call (k_sFlatOf s1 x y h3 zf3 mf) ?_
    rintro q h4 ⟨g4, c4, d4, rfl, z4⟩
    have eq2 := eqs h4 _ _ _ _ (zo3.grow g4) z4.sl
    simp +contextual (maxSteps := 2000000) only [go_sem, Nat.reduceEqDiff, reduceCtorEq, Nat.reduceAdd, Nat.reduceLeDiff, eq2]
    exact gcK_of rfl (fun _ _ => rfl)
  | true =>
  have hn := mo.nl
  have ez : ∀ i (hi : i < (zeroF s1).nl.length), (zeroF s1).nl[i].value = 0 := fun i hi => by
    simp only [zeroF_ok b1, flatS, List.getElem_map, zeroP]
  have el : ((zeroF s1).pl.length : Int) = s1.count := by
    have hk := b1
    unfold okShape at hk
    simp only [Bool.and_eq_true, decide_eq_true_iff] at hk
    rw [zeroF_ok b1]
    simp only [flatS, List.length_replicate]
    omega
  simp +contextual (maxSteps := 2000000) only [go_sem, Nat.reduceEqDiff, reduceCtorEq, Nat.reduceAdd, Nat.reduceLeDiff, eq1, ev, b1]
  refine wpC_loop (fun i T L h' => h' = h3 ∧ T 3 = .lp 3 0 ∧ (L 3).2 = [x, y] ∧ T 4 = .lp 4 0 ∧ (L 4).2 = [c, d] ∧ T 5 = .v (.one (.int .i64 (i : Nat)))) (zeroF s1).nl.length ?_ ?_ (Nat.zero_le _) ?_
  · rintro i T L h' hi ⟨rfl, t3, l3, t4, l4, t5⟩
    have e0 := ez i hi
    have e1 : decide ((zeroF s1).nl[i].value = 0) = true := decide_eq_true e0
    simp +contextual (maxSteps := 2000000) only [go_sem, Nat.reduceEqDiff, reduceCtorEq, Nat.reduceAdd, Nat.reduceLeDiff, t3, l3, t4, l4, t5, zo3.nl.len, zo3.nl.iaddr hi, zo3.nl.fieldO hi, lt_true hi, e1]
    rw [wrap_next hi (by omega)]
  · rintro T L h' ⟨rfl, t3, l3, t4, l4, t5⟩
    simp +contextual (maxSteps := 2000000) only [go_sem, Nat.reduceEqDiff, reduceCtorEq, Nat.reduceAdd, Nat.reduceLeDiff, t3, l3, t4, l4, t5, zo3.nl.len, lt_false]
    refine wp_call (k_iShapeOf (zeroF s1) c d h' zo3 mo) ?_
    rintro q h4 ⟨g4, c4, d4, rfl, z4⟩
    rw [zeroF_ok b1, shape_zero b1] at z4
    have eq2 := eqX_self s1 h4 _ _ _ _ z4.sl (zf3.grow g4) mf
    have zo4 := zo3.grow g4
    have hx := zf.c
    subst hx
    have hl : lenO (.one c) = some (ii s1.count) := by rw [zo4.pl.len, el]
    simp +contextual (maxSteps := 2000000) only [go_sem, Nat.reduceEqDiff, reduceCtorEq, Nat.reduceAdd, Nat.reduceLeDiff, t3, l3, t4, l4, eq2, hl, decide_true]
    exact gcK_of rfl (fun _ _ => rfl)
  · simp +contextual (maxSteps := 2000000) only [go_sem, Nat.reduceEqDiff, reduceCtorEq, Nat.reduceAdd, Nat.reduceLeDiff]
    rfl
end Go.Proofs.Ytekkimfdcbgcoaa.Am
