/- The law FnSortFlat. -/
import Derived.Test.YtekkimfdcbgcoaaL1
import Derived.Test.YtekkimfdcbgcoaaDF
namespace Go.Proofs.Ytekkimfdcbgcoaa.Am
open Go
set_option maxRecDepth 100000
set_option maxHeartbeats 4000000
set_option linter.unusedSimpArgs false
set_option linter.unusedVariables false
attribute [local go_sem ↓] bv_t bv_c ev_t ev_c put_same put_ne put_none kill_at pro_at lb_same lb_ne start_zero start_succ wpC_seq wpC_reg wpC_cond wpC_block wpC_skip wpC_exit wpC_ret thenQ_normal thenQ_exit thenQ_ret inBlk_normal inBlk_exit inBlk_ret wpS_nil wpS_step wpS_again wpS_guard wpO_mov wpO_load wpO_faddr wpO_nilCheck wpO_pick wpO_build wpO_bin wpO_eqb wpO_eqst wpO_eqnil wpO_not wpO_conv wpO_bytesStr wpO_iaddr wpO_idxStr wpO_field wpO_extract wpO_len wpO_lenStr wpO_cap wpO_min wpO_slice wpO_sliceStr wpO_alloc wpO_box wpO_store wpO_call wpO_callv wpO_mkfn wpO_buildSlice wpO_mkslice wpO_append wpO_appz proA_nil proA_cons tmpX_nil tmpX_tmp tmpX_cell doneB_normal doneB_ret agK_cons agK_nil agK_guard agG_tt agG_ff agG_tf agG_ft agG_undef pureB_load results_one results_two results_nil resBs_cons resBs_nil resB_tmp resB_cell
attribute [local go_sem] kill_v kill_lp_ne kill_lp_same pro_v pro_lp_same pro_lp_ne av_v av_lp optB_some optX_some valX_eq ldX_lp ldX_v faX_lp faX_v ncX_lp ncX_ptr ncX_fn boxK_one boxK_agg stL_some stK_lp_one stK_lp_agg stK_v_one stK_v_agg proM_v proM_lp callG_mk callVG_mk callvK_fn fnG_mk ptrsA_nil ptrsA_cons callH_some whenA_true whenA_false guardH_tt guardH_ff guardH_tf guardH_ft guardH_undef agV_one agV_agg lenO_sl lenStrO_str notO_bool pickO_bool convO_int eqbO_bool eqnilO_sl extractO_tup capO_sl minO_int loadL_one loadL_all storeL_eq fillA_nil fillA_one fillA_agg nat_ge neg_ge nat_lt neg_lt buildO bin_add bin_sub bin_mul bin_eql bin_neq bin_lss bin_leq bin_gtr bin_geq str_eql str_neq str_lss str_leq str_gtr str_geq retK_some endK_mk gcK_same gcK_int gcK_bool tupO_one tupO_agg rdy_self ib ii Option.map_none Option.map_some Option.some.injEq exists_eq_left' exists_eq_left ne_eq not_false_eq_true if_true if_false List.map_cons List.map_nil List.getElem?_cons_zero List.getElem?_cons_succ List.length_cons List.length_nil List.take_succ_cons List.take_zero List.take_nil List.drop_succ_cons List.drop_zero List.drop_nil List.cons_append List.nil_append List.append_nil List.set_cons_zero List.set_cons_succ Nat.zero_add forall_const true_and and_true and_self Bool.false_eq_true false_implies true_implies implies_true Bool.not_true Bool.not_false Bool.not_eq_true' Bool.not_eq_false' beq_self_eq_true Bool.bne_true Bool.bne_false
attribute [local go_sem] lenI lenS lenP lenQ lenB lenL lenT encI_0 encS_0 encP_0 encP_1 encQ_0 encQ_1 encQ_2 encQ_3 encB_0 encB_1 encL_0 encL_1 encT_0 encT_1
attribute [local go_sem low] whenA_bool guardH_bool
/-! laws.FnSortFlat -/
def L4_0 : List AStep := [⟨.mov (.c (.bool false)), (some 2), none, []⟩]
theorem v4_0 : VS L4_0.eq_1 := rfl
def L4_1 : List AStep := [⟨.bin .gtr (.t 7) (.c (.int .i64 1048576)), (some 8), none, []⟩]
theorem v4_1 : VS L4_1.eq_1 := rfl
def L4_2 : List AStep := ⟨.mov (.t 0), (some 6), none, []⟩ :: ⟨.len (.t 6), (some 7), none, []⟩ :: L4_1
theorem v4_2 : VS L4_2.eq_1 := rfl
def L4_3 : List AStep := [⟨.mov (.c (.bool true)), (some 2), none, []⟩]
theorem v4_3 : VS L4_3.eq_1 := rfl
def L4_4 : List AStep := [⟨.alloc 27 [(.sl none 0 (some 0)), (.sl none 0 (some 0))], (some 3), none, []⟩, ⟨.store 2 (.t 3) (.t 10), none, none, []⟩]
theorem v4_4 : VS L4_4.eq_1 := rfl
def L4_5 : List AStep := ⟨.mov (.t 0), (some 9), none, []⟩ :: ⟨.call 22 [(.t 9)], (some 10), none, []⟩ :: L4_4
theorem v4_5 : VS L4_5.eq_1 := rfl
def L4_6 : List AStep := [⟨.alloc 27 [(.sl none 0 (some 0)), (.sl none 0 (some 0))], (some 4), none, []⟩, ⟨.store 2 (.t 4) (.t 12), none, none, []⟩]
theorem v4_6 : VS L4_6.eq_1 := rfl
def L4_7 : List AStep := ⟨.load 2 true (.t 3), (some 11), none, []⟩ :: ⟨.call 23 [(.t 11)], (some 12), none, []⟩ :: L4_6
theorem v4_7 : VS L4_7.eq_1 := rfl
def L4_8 : List AStep := [⟨.not (.t 20), (some 21), (some (18, false)), []⟩, ⟨.pick (.t 18) (.c (.bool true)) (.t 21), (some 22), none, []⟩]
theorem v4_8 : VS L4_8.eq_1 := rfl
def L4_9 : List AStep := ⟨.load 2 true (.t 3), (some 19), (some (18, false)), []⟩ :: ⟨.call 17 [(.t 19)], (some 20), (some (18, false)), []⟩ :: L4_8
theorem v4_9 : VS L4_9.eq_1 := rfl
def L4_10 : List AStep := ⟨.not (.t 16), (some 17), none, []⟩ :: ⟨.mov (.t 17), (some 18), none, []⟩ :: L4_9
theorem v4_10 : VS L4_10.eq_1 := rfl
def L4_11 : List AStep := ⟨.call 24 [(.t 14)], (some 15), none, [(.load 2 true (.t 4), (some 13), none)]⟩ :: ⟨.call 14 [(.t 13), (.t 15)], (some 16), none, []⟩ :: L4_10
theorem v4_11 : VS L4_11.eq_1 := rfl
def L4_12 : List AStep := ⟨.load 2 true (.t 4), (some 13), none, []⟩ :: ⟨.load 2 true (.t 3), (some 14), none, []⟩ :: L4_11
theorem v4_12 : VS L4_12.eq_1 := rfl
def L4_13 : List AStep := [⟨.mov (.t 26), (some 2), none, []⟩]
theorem v4_13 : VS L4_13.eq_1 := rfl
def L4_14 : List AStep := ⟨.call 24 [(.t 24)], (some 25), none, [(.load 2 true (.t 4), (some 23), none)]⟩ :: ⟨.call 14 [(.t 23), (.t 25)], (some 26), none, []⟩ :: L4_13
theorem v4_14 : VS L4_14.eq_1 := rfl
def L4_15 : List AStep := ⟨.load 2 true (.t 4), (some 23), none, []⟩ :: ⟨.load 2 true (.t 3), (some 24), none, []⟩ :: L4_14
theorem v4_15 : VS L4_15.eq_1 := rfl
def L4_16 : List AStep := [⟨.mov (.c (.int .i64 1)), (some 5), none, []⟩]
theorem v4_16 : VS L4_16.eq_1 := rfl
def L4_17 : List AStep := [⟨.bin .lss (.t 27) (.t 30), (some 31), none, []⟩]
theorem v4_17 : VS L4_17.eq_1 := rfl
def L4_18 : List AStep := ⟨.load 1 false (.t 28), (some 29), none, []⟩ :: ⟨.len (.t 29), (some 30), none, []⟩ :: L4_17
theorem v4_18 : VS L4_18.eq_1 := rfl
def L4_19 : List AStep := ⟨.mov (.t 5), (some 27), none, []⟩ :: ⟨.faddr 1 (.t 4), (some 28), none, []⟩ :: L4_18
theorem v4_19 : VS L4_19.eq_1 := rfl
def L4_20 : List AStep := [⟨.load 1 false (.t 45), (some 46), none, []⟩, ⟨.bin .geq (.t 40) (.t 46), (some 47), none, []⟩]
theorem v4_20 : VS L4_20.eq_1 := rfl
def L4_21 : List AStep := ⟨.iaddr 2 (.t 42) (.t 43), (some 44), none, []⟩ :: ⟨.faddr 0 (.t 44), (some 45), none, []⟩ :: L4_20
theorem v4_21 : VS L4_21.eq_1 := rfl
def L4_22 : List AStep := ⟨.load 1 false (.t 41), (some 42), none, []⟩ :: ⟨.mov (.t 5), (some 43), none, []⟩ :: L4_21
theorem v4_22 : VS L4_22.eq_1 := rfl
def L4_23 : List AStep := ⟨.load 1 false (.t 39), (some 40), none, []⟩ :: ⟨.faddr 1 (.t 4), (some 41), none, []⟩ :: L4_22
theorem v4_23 : VS L4_23.eq_1 := rfl
def L4_24 : List AStep := ⟨.iaddr 2 (.t 35) (.t 37), (some 38), none, []⟩ :: ⟨.faddr 0 (.t 38), (some 39), none, []⟩ :: L4_23
theorem v4_24 : VS L4_24.eq_1 := rfl
def L4_25 : List AStep := ⟨.mov (.t 5), (some 36), none, []⟩ :: ⟨.bin .sub (.t 36) (.c (.int .i64 1)), (some 37), none, []⟩ :: L4_24
theorem v4_25 : VS L4_25.eq_1 := rfl
def L4_26 : List AStep := ⟨.faddr 1 (.t 4), (some 34), none, []⟩ :: ⟨.load 1 false (.t 34), (some 35), none, []⟩ :: L4_25
theorem v4_26 : VS L4_26.eq_1 := rfl
def L4_27 : List AStep := [⟨.mov (.c (.bool false)), (some 2), none, []⟩]
theorem v4_27 : VS L4_27.eq_1 := rfl
def L4_28 : List AStep := [⟨.mov (.t 33), (some 5), none, []⟩]
theorem v4_28 : VS L4_28.eq_1 := rfl
def L4_29 : List AStep := ⟨.mov (.t 5), (some 32), none, []⟩ :: ⟨.bin .add (.t 32) (.c (.int .i64 1)), (some 33), none, []⟩ :: L4_28
theorem v4_29 : VS L4_29.eq_1 := rfl
def L4_30 : List AStep := [⟨.pick (.t 51) (.t 55) (.c (.bool false)), (some 56), none, []⟩, ⟨.mov (.t 56), (some 2), none, []⟩]
theorem v4_30 : VS L4_30.eq_1 := rfl
def L4_31 : List AStep := ⟨.call 23 [(.t 52)], (some 53), (some (51, true)), [(.load 2 true (.t 4), (some 54), (some (51, true)))]⟩ :: ⟨.call 14 [(.t 53), (.t 54)], (some 55), (some (51, true)), []⟩ :: L4_30
theorem v4_31 : VS L4_31.eq_1 := rfl
def L4_32 : List AStep := ⟨.load 2 true (.t 4), (some 52), (some (51, true)), []⟩ :: ⟨.load 2 true (.t 4), (some 54), (some (51, true)), []⟩ :: L4_31
theorem v4_32 : VS L4_32.eq_1 := rfl
def L4_33 : List AStep := ⟨.call 25 [(.t 48), (.t 49)], (some 50), none, []⟩ :: ⟨.mov (.t 50), (some 51), none, []⟩ :: L4_32
theorem v4_33 : VS L4_33.eq_1 := rfl
def L4_34 : List AStep := ⟨.load 2 true (.t 4), (some 48), none, []⟩ :: ⟨.load 2 true (.t 3), (some 49), none, []⟩ :: L4_33
theorem v4_34 : VS L4_34.eq_1 := rfl
def C4_0 : ACode := .seq (.reg L4_3) .ret
theorem u4_0 : VC C4_0.eq_1 := rfl
def C4_1 : ACode := .cond (.t 8) C4_0 .skip
theorem u4_1 : VC C4_1.eq_1 := rfl
def C4_2 : ACode := .seq (.reg L4_2) C4_1
theorem u4_2 : VC C4_2.eq_1 := rfl
def C4_3 : ACode := .seq (.reg L4_15) .ret
theorem u4_3 : VC C4_3.eq_1 := rfl
def C4_4 : ACode := .cond (.t 22) C4_3 .skip
theorem u4_4 : VC C4_4.eq_1 := rfl
def C4_5 : ACode := .seq (.reg L4_12) C4_4
theorem u4_5 : VC C4_5.eq_1 := rfl
def C4_6 : ACode := .cond (.t 31) .skip (.exit 0)
theorem u4_6 : VC C4_6.eq_1 := rfl
def C4_7 : ACode := .seq (.reg L4_19) C4_6
theorem u4_7 : VC C4_7.eq_1 := rfl
def C4_8 : ACode := .seq (.reg L4_27) .ret
theorem u4_8 : VC C4_8.eq_1 := rfl
def C4_9 : ACode := .cond (.t 47) C4_8 .skip
theorem u4_9 : VC C4_9.eq_1 := rfl
def C4_10 : ACode := .seq (.reg L4_26) C4_9
theorem u4_10 : VC C4_10.eq_1 := rfl
def C4_11 : ACode := .block 1 C4_10
theorem u4_11 : VC C4_11.eq_1 := rfl
def C4_12 : ACode := .seq C4_11 (.reg L4_29)
theorem u4_12 : VC C4_12.eq_1 := rfl
def C4_13 : ACode := .seq C4_7 C4_12
theorem u4_13 : VC C4_13.eq_1 := rfl
def C4_14 : ACode := .block 0 (.loop C4_13)
theorem u4_14 : VC C4_14.eq_1 := rfl
def C4_15 : ACode := .seq (.reg L4_16) C4_14
theorem u4_15 : VC C4_15.eq_1 := rfl
def C4_16 : ACode := .seq (.reg L4_34) .ret
theorem u4_16 : VC C4_16.eq_1 := rfl
def C4_17 : ACode := .seq C4_15 C4_16
theorem u4_17 : VC C4_17.eq_1 := rfl
def C4_18 : ACode := .seq C4_5 C4_17
theorem u4_18 : VC C4_18.eq_1 := rfl
def C4_19 : ACode := .seq (.reg L4_7) C4_18
theorem u4_19 : VC C4_19.eq_1 := rfl
def C4_20 : ACode := .seq (.reg L4_5) C4_19
theorem u4_20 : VC C4_20.eq_1 := rfl
def C4_21 : ACode := .seq C4_2 C4_20
theorem u4_21 : VC C4_21.eq_1 := rfl
def C4_22 : ACode := .seq (.reg L4_0) C4_21
theorem u4_22 : VC C4_22.eq_1 := rfl
def F4 : AFunc := ⟨57, [.tmp 2], C4_22⟩
theorem cF4 : compB Try.prog 4 = some F4 := by kernel_rfl
attribute [local go_sem ↓] u4_0 u4_1 u4_2 u4_3 u4_4 u4_5 u4_6 u4_7 u4_8 u4_9 u4_10 u4_11 u4_12 u4_13 u4_14 u4_15 u4_16 u4_17 u4_18 u4_19 u4_20 u4_21 u4_22 v4_0 v4_1 v4_2 v4_3 v4_4 v4_5 v4_6 v4_7 v4_8 v4_9 v4_10 v4_11 v4_12 v4_13 v4_14 v4_15 v4_16 v4_17 v4_18 v4_19 v4_20 v4_21 v4_22 v4_23 v4_24 v4_25 v4_26 v4_27 v4_28 v4_29 v4_30 v4_31 v4_32 v4_33 v4_34
theorem law4 (h : H) (avs : List AV) (hok : okVs Try.prog h 6 [ 22 ] avs) : callK (bm Try.prog 4 avs h) fun r _ => r = ib true := by
  obtain ⟨v0, avs, rfl, hv0, hok⟩ := okVs_cons hok
  obtain rfl := okVs_nil hok
  obtain ⟨v, code, rfl, s0, hc, k0⟩ := dBytes hv0
  refine bm_of cF4 ?_
  cases b0 : decide ((code.length : Int) > 1048576) with
  | true => simp +contextual (maxSteps := 2000000) only [go_sem, Nat.reduceEqDiff, reduceCtorEq, Nat.reduceAdd, Nat.reduceLeDiff, F4, s0.len, b0]
  | false =>
  simp +contextual (maxSteps := 2000000) only [go_sem, Nat.reduceEqDiff, reduceCtorEq, Nat.reduceAdd, Nat.reduceLeDiff, F4, s0.len, b0]
  refine wp_call (c_drawSortFlat code v h s0 hc) ?_
  rintro q h1 ⟨g1, x, y, f, rfl, zf, mf⟩
  simp +contextual (maxSteps := 2000000) only [go_sem, Nat.reduceEqDiff, reduceCtorEq, Nat.reduceAdd, Nat.reduceLeDiff]
  refine wp_call (k_iSortFlat f x y h1 zf.sl mf) ?_
  rintro q h2 ⟨g2, c, d, rfl, zo⟩
  have zf2 := zf.sl.grow g2
  simp +contextual (maxSteps := 2000000) only [go_sem, Nat.reduceEqDiff, reduceCtorEq, Nat.reduceAdd, Nat.reduceLeDiff]
  refine wp_call (k_sSortFlat f x y h2 zf2 mf) ?_
  rintro q h3 ⟨g3, c3, d3, rfl, zw⟩
  have zf3 := zf2.grow g3
  have zo3 := (zo.grow g3).sl
  have mo : miniF (sortF f) := .sort
  have eqs : ∀ (h' : H) (p q r s : CV), SlF h' p q (sortF f) → SlF h' r s (sortF f) → bm Try.prog 14 [.agg [p, q], .agg [r, s]] h' = some (ib true, h') := fun h' p q r s a b => by
    have := c_equalFlat (sortF f) (sortF f) p q r s h' a.pl a.nl b.pl b.nl (Nat.le_trans mo.pl (by decide)) (Nat.le_trans mo.nl (by decide))
    rwa [decide_eq_true rfl] at this
  have eq1 := eqs h3 _ _ _ _ zo3 zw.sl
  have ev := c_ValidFlat f x y h3 zf3.pl zf3.nl mf.sm
  cases b1 : okFlat f with
  | false =>
    simp +contextual (maxSteps := 2000000) only [go_sem, Nat.reduceEqDiff, reduceCtorEq, Nat.reduceAdd, Nat.reduceLeDiff, eq1, ev, b1]
    refine wp_call (k_sSortFlat f x y h3 zf3 mf) ?_
    rintro q h4 ⟨g4, c4, d4, rfl, z4⟩
    have eq2 := eqs h4 _ _ _ _ (zo3.grow g4) z4.sl
    simp +contextual (maxSteps := 2000000) only [go_sem, Nat.reduceEqDiff, reduceCtorEq, Nat.reduceAdd, Nat.reduceLeDiff, eq2]
    exact gcK_of rfl (fun _ _ => rfl)
  | true =>
  have es := sortF_ok b1
  have hl : (sortF f).nl.length ≤ 8 := (okFlat_sm (sort_ok b1)).2.1
  simp +contextual (maxSteps := 2000000) only [go_sem, Nat.reduceEqDiff, reduceCtorEq, Nat.reduceAdd, Nat.reduceLeDiff, eq1, ev, b1]
  refine wpC_loop (fun i T L h' => h' = h3 ∧ T 3 = .lp 3 0 ∧ (L 3).2 = [x, y] ∧ T 4 = .lp 4 0 ∧ (L 4).2 = [c, d] ∧ T 5 = .v (.one (.int .i64 ((i + 1 : Nat) : Int)))) ((sortF f).nl.length - 1) ?_ ?_ (Nat.zero_le _) ?_
  · rintro i T L h' hi ⟨rfl, t3, l3, t4, l4, t5⟩
    have hi1 : i + 1 < (sortF f).nl.length := by omega
    have hi0 : i < (sortF f).nl.length := by omega
    have e1 : sLess (sortF f).nl[i].name (sortF f).nl[i + 1].name = true := by
      simp only [es]
      exact sort_up (okFlat_apart b1) (by rw [es] at hi1; exact hi1)
    simp +contextual (maxSteps := 2000000) only [go_sem, Nat.reduceEqDiff, reduceCtorEq, Nat.reduceAdd, Nat.reduceLeDiff, t3, l3, t4, l4, t5, zo3.nl.len, zo3.nl.iaddr hi0, zo3.nl.iaddr hi1, zo3.nl.fieldO hi0, zo3.nl.fieldO hi1, lt_true hi1, wrap_pred (show i < 2 ^ 62 by omega), e1]
    rw [wrap_next (n := 100) (i := i + 1) (by omega) (by omega)]
  · rintro T L h' ⟨rfl, t3, l3, t4, l4, t5⟩
    have e1 : decide ((((sortF f).nl.length - 1 + 1 : Nat) : Int) < ((sortF f).nl.length : Int)) = false := decide_eq_false (by omega)
    have e2 := k_iSameFlat (sortF f) f c d x y h' zo3 zf3 mo mf
    rw [sameF_sort b1] at e2
    simp +contextual (maxSteps := 2000000) only [go_sem, Nat.reduceEqDiff, reduceCtorEq, Nat.reduceAdd, Nat.reduceLeDiff, t3, l3, t4, l4, t5, zo3.nl.len, e1, e2]
    refine wp_call (k_iSortFlat (sortF f) c d h' zo3 mo) ?_
    rintro q h4 ⟨g4, c4, d4, rfl, z4⟩
    rw [sortF_idem b1] at z4
    have eq2 := eqs h4 _ _ _ _ z4.sl (zo3.grow g4)
    simp +contextual (maxSteps := 2000000) only [go_sem, Nat.reduceEqDiff, reduceCtorEq, Nat.reduceAdd, Nat.reduceLeDiff, t3, l3, t4, l4, eq2]
    exact gcK_of rfl (fun _ _ => rfl)
  · simp +contextual (maxSteps := 2000000) only [go_sem, Nat.reduceEqDiff, reduceCtorEq, Nat.reduceAdd, Nat.reduceLeDiff]
    rfl
end Go.Proofs.Ytekkimfdcbgcoaa.Am
