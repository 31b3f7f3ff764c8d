/- The law FnShapeOf. -/
import Derived.Test.YtekkimfdcbgcoaaL1
import Derived.Test.YtekkimfdcbgcoaaDF
namespace Go.Proofs.Ytekkimfdcbgcoaa.Am
open Go
set_option maxRecDepth 100000
set_option maxHeartbeats 4000000
set_option linter.unusedSimpArgs false
set_option linter.unusedVariables false
attribute [local go_sem ↓] bv_t bv_c ev_t ev_c put_same put_ne put_none kill_at pro_at lb_same lb_ne start_zero start_succ wpC_seq wpC_reg wpC_cond wpC_block wpC_skip wpC_exit wpC_ret thenQ_normal thenQ_exit thenQ_ret inBlk_normal inBlk_exit inBlk_ret wpS_nil wpS_step wpS_again wpS_guard wpO_mov wpO_load wpO_faddr wpO_nilCheck wpO_pick wpO_build wpO_bin wpO_eqb wpO_eqst wpO_eqnil wpO_not wpO_conv wpO_bytesStr wpO_iaddr wpO_idxStr wpO_field wpO_extract wpO_len wpO_lenStr wpO_cap wpO_min wpO_slice wpO_sliceStr wpO_alloc wpO_box wpO_store wpO_call wpO_callv wpO_mkfn wpO_buildSlice wpO_mkslice wpO_append wpO_appz proA_nil proA_cons tmpX_nil tmpX_tmp tmpX_cell doneB_normal doneB_ret agK_cons agK_nil agK_guard agG_tt agG_ff agG_tf agG_ft agG_undef pureB_load results_one results_two results_nil resBs_cons resBs_nil resB_tmp resB_cell
attribute [local go_sem] kill_v kill_lp_ne kill_lp_same pro_v pro_lp_same pro_lp_ne av_v av_lp optB_some optX_some valX_eq ldX_lp ldX_v faX_lp faX_v ncX_lp ncX_ptr ncX_fn boxK_one boxK_agg stL_some stK_lp_one stK_lp_agg stK_v_one stK_v_agg proM_v proM_lp callG_mk callVG_mk callvK_fn fnG_mk ptrsA_nil ptrsA_cons callH_some whenA_true whenA_false guardH_tt guardH_ff guardH_tf guardH_ft guardH_undef agV_one agV_agg lenO_sl lenStrO_str notO_bool pickO_bool convO_int eqbO_bool eqnilO_sl extractO_tup capO_sl minO_int loadL_one loadL_all storeL_eq fillA_nil fillA_one fillA_agg nat_ge neg_ge nat_lt neg_lt buildO bin_add bin_sub bin_mul bin_eql bin_neq bin_lss bin_leq bin_gtr bin_geq str_eql str_neq str_lss str_leq str_gtr str_geq retK_some endK_mk gcK_same gcK_int gcK_bool tupO_one tupO_agg rdy_self ib ii Option.map_none Option.map_some Option.some.injEq exists_eq_left' exists_eq_left ne_eq not_false_eq_true if_true if_false List.map_cons List.map_nil List.getElem?_cons_zero List.getElem?_cons_succ List.length_cons List.length_nil List.take_succ_cons List.take_zero List.take_nil List.drop_succ_cons List.drop_zero List.drop_nil List.cons_append List.nil_append List.append_nil List.set_cons_zero List.set_cons_succ Nat.zero_add forall_const true_and and_true and_self Bool.false_eq_true false_implies true_implies implies_true Bool.not_true Bool.not_false Bool.not_eq_true' Bool.not_eq_false' beq_self_eq_true Bool.bne_true Bool.bne_false
attribute [local go_sem] lenI lenS lenP lenQ lenB lenL lenT encI_0 encS_0 encP_0 encP_1 encQ_0 encQ_1 encQ_2 encQ_3 encB_0 encB_1 encL_0 encL_1 encT_0 encT_1
attribute [local go_sem low] whenA_bool guardH_bool
theorem eqX_self (x : Shape) (h' : H) (p q r s : CV) (a : SlX h' p q x) (b : SlX h' r s x) (m : miniX x) : bm Try.prog 34 [.agg [p, q], .agg [r, s]] h' = some (ib true, h') := by
  obtain rfl := a.c
  obtain rfl := b.c
  have := c_equalShape x x q s h' a.out b.out (Nat.le_trans m.len (by decide))
  rwa [decide_eq_true rfl] at this
/-! laws.FnShapeOf -/
def L7_0 : List AStep := [⟨.mov (.c (.bool false)), (some 2), none, []⟩]
theorem v7_0 : VS L7_0.eq_1 := rfl
def L7_1 : List AStep := [⟨.bin .gtr (.t 6) (.c (.int .i64 1048576)), (some 7), none, []⟩]
theorem v7_1 : VS L7_1.eq_1 := rfl
def L7_2 : List AStep := ⟨.mov (.t 0), (some 5), none, []⟩ :: ⟨.len (.t 5), (some 6), none, []⟩ :: L7_1
theorem v7_2 : VS L7_2.eq_1 := rfl
def L7_3 : List AStep := [⟨.mov (.c (.bool true)), (some 2), none, []⟩]
theorem v7_3 : VS L7_3.eq_1 := rfl
def L7_4 : List AStep := [⟨.alloc 27 [(.sl none 0 (some 0)), (.sl none 0 (some 0))], (some 3), none, []⟩, ⟨.store 2 (.t 3) (.t 9), none, none, []⟩]
theorem v7_4 : VS L7_4.eq_1 := rfl
def L7_5 : List AStep := ⟨.mov (.t 0), (some 8), none, []⟩ :: ⟨.call 32 [(.t 8)], (some 9), none, []⟩ :: L7_4
theorem v7_5 : VS L7_5.eq_1 := rfl
def L7_6 : List AStep := [⟨.alloc 67 [(.int .i64 0), (.sl none 0 (some 0))], (some 4), none, []⟩, ⟨.store 2 (.t 4) (.t 11), none, none, []⟩]
theorem v7_6 : VS L7_6.eq_1 := rfl
def L7_7 : List AStep := ⟨.load 2 true (.t 3), (some 10), none, []⟩ :: ⟨.call 33 [(.t 10)], (some 11), none, []⟩ :: L7_6
theorem v7_7 : VS L7_7.eq_1 := rfl
def L7_8 : List AStep := [⟨.not (.t 19), (some 20), (some (17, false)), []⟩, ⟨.pick (.t 17) (.c (.bool true)) (.t 20), (some 21), none, []⟩]
theorem v7_8 : VS L7_8.eq_1 := rfl
def L7_9 : List AStep := ⟨.load 2 true (.t 3), (some 18), (some (17, false)), []⟩ :: ⟨.call 17 [(.t 18)], (some 19), (some (17, false)), []⟩ :: L7_8
theorem v7_9 : VS L7_9.eq_1 := rfl
def L7_10 : List AStep := ⟨.not (.t 15), (some 16), none, []⟩ :: ⟨.mov (.t 16), (some 17), none, []⟩ :: L7_9
theorem v7_10 : VS L7_10.eq_1 := rfl
def L7_11 : List AStep := ⟨.call 35 [(.t 13)], (some 14), none, [(.load 2 true (.t 4), (some 12), none)]⟩ :: ⟨.call 34 [(.t 12), (.t 14)], (some 15), none, []⟩ :: L7_10
theorem v7_11 : VS L7_11.eq_1 := rfl
def L7_12 : List AStep := ⟨.load 2 true (.t 4), (some 12), none, []⟩ :: ⟨.load 2 true (.t 3), (some 13), none, []⟩ :: L7_11
theorem v7_12 : VS L7_12.eq_1 := rfl
def L7_13 : List AStep := [⟨.mov (.t 25), (some 2), none, []⟩]
theorem v7_13 : VS L7_13.eq_1 := rfl
def L7_14 : List AStep := ⟨.call 35 [(.t 23)], (some 24), none, [(.load 2 true (.t 4), (some 22), none)]⟩ :: ⟨.call 34 [(.t 22), (.t 24)], (some 25), none, []⟩ :: L7_13
theorem v7_14 : VS L7_14.eq_1 := rfl
def L7_15 : List AStep := ⟨.load 2 true (.t 4), (some 22), none, []⟩ :: ⟨.load 2 true (.t 3), (some 23), none, []⟩ :: L7_14
theorem v7_15 : VS L7_15.eq_1 := rfl
def L7_16 : List AStep := [⟨.mov (.t 51), (some 2), none, []⟩]
theorem v7_16 : VS L7_16.eq_1 := rfl
def L7_17 : List AStep := ⟨.bin .eql (.t 46) (.t 49), (some 50), (some (43, true)), []⟩ :: ⟨.pick (.t 43) (.t 50) (.c (.bool false)), (some 51), none, []⟩ :: L7_16
theorem v7_17 : VS L7_17.eq_1 := rfl
def L7_18 : List AStep := ⟨.load 1 false (.t 47), (some 48), (some (43, true)), []⟩ :: ⟨.len (.t 48), (some 49), (some (43, true)), []⟩ :: L7_17
theorem v7_18 : VS L7_18.eq_1 := rfl
def L7_19 : List AStep := ⟨.len (.t 45), (some 46), (some (43, true)), []⟩ :: ⟨.faddr 1 (.t 3), (some 47), (some (43, true)), []⟩ :: L7_18
theorem v7_19 : VS L7_19.eq_1 := rfl
def L7_20 : List AStep := ⟨.faddr 1 (.t 4), (some 44), (some (43, true)), []⟩ :: ⟨.load 1 false (.t 44), (some 45), (some (43, true)), []⟩ :: L7_19
theorem v7_20 : VS L7_20.eq_1 := rfl
def L7_21 : List AStep := ⟨.pick (.t 35) (.t 41) (.c (.bool false)), (some 42), none, []⟩ :: ⟨.mov (.t 42), (some 43), none, []⟩ :: L7_20
theorem v7_21 : VS L7_21.eq_1 := rfl
def L7_22 : List AStep := ⟨.len (.t 39), (some 40), (some (35, true)), []⟩ :: ⟨.bin .eql (.t 37) (.t 40), (some 41), (some (35, true)), []⟩ :: L7_21
theorem v7_22 : VS L7_22.eq_1 := rfl
def L7_23 : List AStep := ⟨.faddr 0 (.t 3), (some 38), (some (35, true)), []⟩ :: ⟨.load 1 false (.t 38), (some 39), (some (35, true)), []⟩ :: L7_22
theorem v7_23 : VS L7_23.eq_1 := rfl
def L7_24 : List AStep := ⟨.faddr 0 (.t 4), (some 36), (some (35, true)), []⟩ :: ⟨.load 1 false (.t 36), (some 37), (some (35, true)), []⟩ :: L7_23
theorem v7_24 : VS L7_24.eq_1 := rfl
def L7_25 : List AStep := ⟨.pick (.t 28) (.t 33) (.c (.bool false)), (some 34), none, []⟩ :: ⟨.mov (.t 34), (some 35), none, []⟩ :: L7_24
theorem v7_25 : VS L7_25.eq_1 := rfl
def L7_26 : List AStep := ⟨.call 33 [(.t 30)], (some 31), (some (28, true)), [(.load 2 true (.t 4), (some 32), (some (28, true)))]⟩ :: ⟨.call 34 [(.t 31), (.t 32)], (some 33), (some (28, true)), []⟩ :: L7_25
theorem v7_26 : VS L7_26.eq_1 := rfl
def L7_27 : List AStep := ⟨.load 2 true (.t 4), (some 32), (some (28, true)), []⟩ :: ⟨.call 23 [(.t 29)], (some 30), (some (28, true)), [(.load 2 true (.t 4), (some 32), (some (28, true)))]⟩ :: L7_26
theorem v7_27 : VS L7_27.eq_1 := rfl
def L7_28 : List AStep := ⟨.mov (.t 27), (some 28), none, []⟩ :: ⟨.load 2 true (.t 3), (some 29), (some (28, true)), []⟩ :: L7_27
theorem v7_28 : VS L7_28.eq_1 := rfl
def L7_29 : List AStep := ⟨.load 2 true (.t 4), (some 26), none, []⟩ :: ⟨.call 36 [(.t 26)], (some 27), none, []⟩ :: L7_28
theorem v7_29 : VS L7_29.eq_1 := rfl
def C7_0 : ACode := .seq (.reg L7_3) .ret
theorem u7_0 : VC C7_0.eq_1 := rfl
def C7_1 : ACode := .cond (.t 7) C7_0 .skip
theorem u7_1 : VC C7_1.eq_1 := rfl
def C7_2 : ACode := .seq (.reg L7_2) C7_1
theorem u7_2 : VC C7_2.eq_1 := rfl
def C7_3 : ACode := .seq (.reg L7_15) .ret
theorem u7_3 : VC C7_3.eq_1 := rfl
def C7_4 : ACode := .cond (.t 21) C7_3 .skip
theorem u7_4 : VC C7_4.eq_1 := rfl
def C7_5 : ACode := .seq (.reg L7_12) C7_4
theorem u7_5 : VC C7_5.eq_1 := rfl
def C7_6 : ACode := .seq (.reg L7_29) .ret
theorem u7_6 : VC C7_6.eq_1 := rfl
def C7_7 : ACode := .seq C7_5 C7_6
theorem u7_7 : VC C7_7.eq_1 := rfl
def C7_8 : ACode := .seq (.reg L7_7) C7_7
theorem u7_8 : VC C7_8.eq_1 := rfl
def C7_9 : ACode := .seq (.reg L7_5) C7_8
theorem u7_9 : VC C7_9.eq_1 := rfl
def C7_10 : ACode := .seq C7_2 C7_9
theorem u7_10 : VC C7_10.eq_1 := rfl
def C7_11 : ACode := .seq (.reg L7_0) C7_10
theorem u7_11 : VC C7_11.eq_1 := rfl
def F7 : AFunc := ⟨52, [.tmp 2], C7_11⟩
theorem cF7 : compB Try.prog 7 = some F7 := by kernel_rfl
attribute [local go_sem ↓] u7_0 u7_1 u7_2 u7_3 u7_4 u7_5 u7_6 u7_7 u7_8 u7_9 u7_10 u7_11 v7_0 v7_1 v7_2 v7_3 v7_4 v7_5 v7_6 v7_7 v7_8 v7_9 v7_10 v7_11 v7_12 v7_13 v7_14 v7_15 v7_16 v7_17 v7_18 v7_19 v7_20 v7_21 v7_22 v7_23 v7_24 v7_25 v7_26 v7_27 v7_28 v7_29
theorem law7 (h : H) (avs : List AV) (hok : okVs Try.prog h 6 [ 22 ] avs) : callK (bm Try.prog 7 avs h) fun r _ => r = ib true := by
  obtain ⟨v0, avs, rfl, hv0, hok⟩ := okVs_cons hok
  obtain rfl := okVs_nil hok
  obtain ⟨v, code, rfl, s0, hc, k0⟩ := dBytes hv0
  refine bm_of cF7 ?_
  cases b0 : decide ((code.length : Int) > 1048576) with
  | true => simp +contextual (maxSteps := 2000000) only [go_sem, Nat.reduceEqDiff, reduceCtorEq, Nat.reduceAdd, Nat.reduceLeDiff, F7, s0.len, b0]
  | false =>
  simp +contextual (maxSteps := 2000000) only [go_sem, Nat.reduceEqDiff, reduceCtorEq, Nat.reduceAdd, Nat.reduceLeDiff, F7, s0.len, b0]
  refine wp_call (c_drawShapeOf code v h s0 hc) ?_
  rintro q h1 ⟨g1, x, y, f, rfl, zf, mf⟩
  have mo : miniX (shapeF f) := .shape
  simp +contextual (maxSteps := 2000000) only [go_sem, Nat.reduceEqDiff, reduceCtorEq, Nat.reduceAdd, Nat.reduceLeDiff]
  refine wp_call (k_iShapeOf f x y h1 zf.sl mf) ?_
  rintro q h2 ⟨g2, c, d, rfl, zo⟩
  have zf2 := zf.sl.grow g2
  simp +contextual (maxSteps := 2000000) only [go_sem, Nat.reduceEqDiff, reduceCtorEq, Nat.reduceAdd, Nat.reduceLeDiff]
  refine wp_call (k_sShapeOf f x y h2 zf2 mf) ?_
  rintro q h3 ⟨g3, c3, d3, rfl, zw⟩
  have zf3 := zf2.grow g3
  have zo3 := (zo.grow g3).sl
  have eq1 := eqX_self (shapeF f) h3 _ _ _ _ zo3 zw.sl mo
  have ev := c_ValidFlat f x y h3 zf3.pl zf3.nl mf.sm
  cases b1 : okFlat f with
  | false =>
    simp +contextual (maxSteps := 2000000) only [go_sem, Nat.reduceEqDiff, reduceCtorEq, Nat.reduceAdd, Nat.reduceLeDiff, eq1, ev, b1]
    refine wp_call (k_sShapeOf f x y h3 zf3 mf) ?_
    rintro q h4 ⟨g4, c4, d4, rfl, z4⟩
    have eq2 := eqX_self (shapeF f) h4 _ _ _ _ (zo3.grow g4) z4.sl mo
    simp +contextual (maxSteps := 2000000) only [go_sem, Nat.reduceEqDiff, reduceCtorEq, Nat.reduceAdd, Nat.reduceLeDiff, eq2]
    exact gcK_of rfl (fun _ _ => rfl)
  | true =>
  have ex := c_ValidShape (shapeF f) c d h3 zo3 mo
  rw [shape_ok b1] at ex
  simp +contextual (maxSteps := 2000000) only [go_sem, Nat.reduceEqDiff, reduceCtorEq, Nat.reduceAdd, Nat.reduceLeDiff, eq1, ev, b1, ex]
  refine wp_call (k_iSortFlat f x y h3 zf3 mf) ?_
  rintro q h4 ⟨g4, c4, d4, rfl, z4⟩
  simp +contextual (maxSteps := 2000000) only [go_sem, Nat.reduceEqDiff, reduceCtorEq, Nat.reduceAdd, Nat.reduceLeDiff]
  refine wp_call (k_iShapeOf (sortF f) c4 d4 h4 z4.sl .sort) ?_
  rintro q h5 ⟨g5, c5, d5, rfl, z5⟩
  rw [shape_sort b1] at z5
  have eq3 := eqX_self (shapeF f) h5 _ _ _ _ z5.sl ((zo3.grow g4).grow g5) mo
  have zo5 := (zo3.grow g4).grow g5
  have zf5 := (zf3.grow g4).grow g5
  have e4 : c = .int .i64 f.pl.length := by rw [zo5.c, shapeF_ok b1]
  have e5 : (shapeF f).names.length = f.nl.length := by rw [shapeF_ok b1]; simp [isort_len]
  have hl := zo5.out.len
  rw [e5] at hl
  subst e4
  simp +contextual (maxSteps := 2000000) only [go_sem, Nat.reduceEqDiff, reduceCtorEq, Nat.reduceAdd, Nat.reduceLeDiff, eq3, zf5.pl.len, hl, zf5.nl.len, decide_true]
  exact gcK_of rfl (fun _ _ => rfl)
end Go.Proofs.Ytekkimfdcbgcoaa.Am
