/- The law FnValidShape. -/
import Derived.Test.YtekkimfdcbgcoaaL1
import Derived.Test.YtekkimfdcbgcoaaDF
namespace Go.Proofs.Ytekkimfdcbgcoaa.Am
open Go
set_option maxRecDepth 100000
set_option maxHeartbeats 4000000
set_option linter.unusedSimpArgs false
set_option linter.unusedVariables false
attribute [local go_sem ↓] bv_t bv_c ev_t ev_c put_same put_ne put_none kill_at pro_at lb_same lb_ne start_zero start_succ wpC_seq wpC_reg wpC_cond wpC_block wpC_skip wpC_exit wpC_ret thenQ_normal thenQ_exit thenQ_ret inBlk_normal inBlk_exit inBlk_ret wpS_nil wpS_step wpS_again wpS_guard wpO_mov wpO_load wpO_faddr wpO_nilCheck wpO_pick wpO_build wpO_bin wpO_eqb wpO_eqst wpO_eqnil wpO_not wpO_conv wpO_bytesStr wpO_iaddr wpO_idxStr wpO_field wpO_extract wpO_len wpO_lenStr wpO_cap wpO_min wpO_slice wpO_sliceStr wpO_alloc wpO_box wpO_store wpO_call wpO_callv wpO_mkfn wpO_buildSlice wpO_mkslice wpO_append wpO_appz proA_nil proA_cons tmpX_nil tmpX_tmp tmpX_cell doneB_normal doneB_ret agK_cons agK_nil agK_guard agG_tt agG_ff agG_tf agG_ft agG_undef pureB_load results_one results_two results_nil resBs_cons resBs_nil resB_tmp resB_cell
attribute [local go_sem] kill_v kill_lp_ne kill_lp_same pro_v pro_lp_same pro_lp_ne av_v av_lp optB_some optX_some valX_eq ldX_lp ldX_v faX_lp faX_v ncX_lp ncX_ptr ncX_fn boxK_one boxK_agg stL_some stK_lp_one stK_lp_agg stK_v_one stK_v_agg proM_v proM_lp callG_mk callVG_mk callvK_fn fnG_mk ptrsA_nil ptrsA_cons callH_some whenA_true whenA_false guardH_tt guardH_ff guardH_tf guardH_ft guardH_undef agV_one agV_agg lenO_sl lenStrO_str notO_bool pickO_bool convO_int eqbO_bool eqnilO_sl extractO_tup capO_sl minO_int loadL_one loadL_all storeL_eq fillA_nil fillA_one fillA_agg nat_ge neg_ge nat_lt neg_lt buildO bin_add bin_sub bin_mul bin_eql bin_neq bin_lss bin_leq bin_gtr bin_geq str_eql str_neq str_lss str_leq str_gtr str_geq retK_some endK_mk gcK_same gcK_int gcK_bool tupO_one tupO_agg rdy_self ib ii Option.map_none Option.map_some Option.some.injEq exists_eq_left' exists_eq_left ne_eq not_false_eq_true if_true if_false List.map_cons List.map_nil List.getElem?_cons_zero List.getElem?_cons_succ List.length_cons List.length_nil List.take_succ_cons List.take_zero List.take_nil List.drop_succ_cons List.drop_zero List.drop_nil List.cons_append List.nil_append List.append_nil List.set_cons_zero List.set_cons_succ Nat.zero_add forall_const true_and and_true and_self Bool.false_eq_true false_implies true_implies implies_true Bool.not_true Bool.not_false Bool.not_eq_true' Bool.not_eq_false' beq_self_eq_true Bool.bne_true Bool.bne_false
attribute [local go_sem] lenI lenS lenP lenQ lenB lenL lenT encI_0 encS_0 encP_0 encP_1 encQ_0 encQ_1 encQ_2 encQ_3 encB_0 encB_1 encL_0 encL_1 encT_0 encT_1
attribute [local go_sem low] whenA_bool guardH_bool
theorem eqX_self (x : Shape) (h' : H) (p q r s : CV) (a : SlX h' p q x) (b : SlX h' r s x) (m : miniX x) : bm Try.prog 34 [.agg [p, q], .agg [r, s]] h' = some (ib true, h') := by
  obtain rfl := a.c
  obtain rfl := b.c
  have := c_equalShape x x q s h' a.out b.out (Nat.le_trans m.len (by decide))
  rwa [decide_eq_true rfl] at this
/-! laws.FnValidShape -/
def L9_0 : List AStep := [⟨.mov (.c (.bool false)), (some 2), none, []⟩]
theorem v9_0 : VS L9_0.eq_1 := rfl
def L9_1 : List AStep := [⟨.bin .gtr (.t 6) (.c (.int .i64 1048576)), (some 7), none, []⟩]
theorem v9_1 : VS L9_1.eq_1 := rfl
def L9_2 : List AStep := ⟨.mov (.t 0), (some 5), none, []⟩ :: ⟨.len (.t 5), (some 6), none, []⟩ :: L9_1
theorem v9_2 : VS L9_2.eq_1 := rfl
def L9_3 : List AStep := [⟨.mov (.c (.bool true)), (some 2), none, []⟩]
theorem v9_3 : VS L9_3.eq_1 := rfl
def L9_4 : List AStep := [⟨.alloc 67 [(.int .i64 0), (.sl none 0 (some 0))], (some 3), none, []⟩, ⟨.store 2 (.t 3) (.t 9), none, none, []⟩]
theorem v9_4 : VS L9_4.eq_1 := rfl
def L9_5 : List AStep := ⟨.mov (.t 0), (some 8), none, []⟩ :: ⟨.call 40 [(.t 8)], (some 9), none, []⟩ :: L9_4
theorem v9_5 : VS L9_5.eq_1 := rfl
def L9_6 : List AStep := [⟨.mov (.t 11), (some 4), none, []⟩]
theorem v9_6 : VS L9_6.eq_1 := rfl
def L9_7 : List AStep := ⟨.load 2 true (.t 3), (some 10), none, []⟩ :: ⟨.call 36 [(.t 10)], (some 11), none, []⟩ :: L9_6
theorem v9_7 : VS L9_7.eq_1 := rfl
def L9_8 : List AStep := [⟨.not (.t 17), (some 18), (some (16, false)), []⟩, ⟨.pick (.t 16) (.c (.bool true)) (.t 18), (some 19), none, []⟩]
theorem v9_8 : VS L9_8.eq_1 := rfl
def L9_9 : List AStep := ⟨.mov (.t 15), (some 16), none, []⟩ :: ⟨.mov (.t 4), (some 17), (some (16, false)), []⟩ :: L9_8
theorem v9_9 : VS L9_9.eq_1 := rfl
def L9_10 : List AStep := ⟨.call 41 [(.t 13)], (some 14), none, []⟩ :: ⟨.eqb true (.t 12) (.t 14), (some 15), none, []⟩ :: L9_9
theorem v9_10 : VS L9_10.eq_1 := rfl
def L9_11 : List AStep := ⟨.mov (.t 4), (some 12), none, []⟩ :: ⟨.load 2 true (.t 3), (some 13), none, []⟩ :: L9_10
theorem v9_11 : VS L9_11.eq_1 := rfl
def L9_12 : List AStep := [⟨.mov (.t 23), (some 2), none, []⟩]
theorem v9_12 : VS L9_12.eq_1 := rfl
def L9_13 : List AStep := ⟨.call 41 [(.t 21)], (some 22), none, []⟩ :: ⟨.eqb false (.t 20) (.t 22), (some 23), none, []⟩ :: L9_12
theorem v9_13 : VS L9_13.eq_1 := rfl
def L9_14 : List AStep := ⟨.mov (.t 4), (some 20), none, []⟩ :: ⟨.load 2 true (.t 3), (some 21), none, []⟩ :: L9_13
theorem v9_14 : VS L9_14.eq_1 := rfl
def L9_15 : List AStep := [⟨.mov (.t 33), (some 2), none, []⟩]
theorem v9_15 : VS L9_15.eq_1 := rfl
def L9_16 : List AStep := ⟨.call 17 [(.t 31)], (some 32), (some (29, true)), []⟩ :: ⟨.pick (.t 29) (.t 32) (.c (.bool false)), (some 33), none, []⟩ :: L9_15
theorem v9_16 : VS L9_16.eq_1 := rfl
def L9_17 : List AStep := ⟨.load 2 true (.t 3), (some 30), (some (29, true)), []⟩ :: ⟨.call 38 [(.t 30)], (some 31), (some (29, true)), []⟩ :: L9_16
theorem v9_17 : VS L9_17.eq_1 := rfl
def L9_18 : List AStep := ⟨.call 34 [(.t 26), (.t 27)], (some 28), none, []⟩ :: ⟨.mov (.t 28), (some 29), none, []⟩ :: L9_17
theorem v9_18 : VS L9_18.eq_1 := rfl
def L9_19 : List AStep := ⟨.call 38 [(.t 24)], (some 25), none, [(.load 2 true (.t 3), (some 27), none)]⟩ :: ⟨.call 33 [(.t 25)], (some 26), none, [(.load 2 true (.t 3), (some 27), none)]⟩ :: L9_18
theorem v9_19 : VS L9_19.eq_1 := rfl
def L9_20 : List AStep := ⟨.load 2 true (.t 3), (some 24), none, []⟩ :: ⟨.load 2 true (.t 3), (some 27), none, []⟩ :: L9_19
theorem v9_20 : VS L9_20.eq_1 := rfl
def C9_0 : ACode := .seq (.reg L9_3) .ret
theorem u9_0 : VC C9_0.eq_1 := rfl
def C9_1 : ACode := .cond (.t 7) C9_0 .skip
theorem u9_1 : VC C9_1.eq_1 := rfl
def C9_2 : ACode := .seq (.reg L9_2) C9_1
theorem u9_2 : VC C9_2.eq_1 := rfl
def C9_3 : ACode := .seq (.reg L9_14) .ret
theorem u9_3 : VC C9_3.eq_1 := rfl
def C9_4 : ACode := .cond (.t 19) C9_3 .skip
theorem u9_4 : VC C9_4.eq_1 := rfl
def C9_5 : ACode := .seq (.reg L9_11) C9_4
theorem u9_5 : VC C9_5.eq_1 := rfl
def C9_6 : ACode := .seq (.reg L9_20) .ret
theorem u9_6 : VC C9_6.eq_1 := rfl
def C9_7 : ACode := .seq C9_5 C9_6
theorem u9_7 : VC C9_7.eq_1 := rfl
def C9_8 : ACode := .seq (.reg L9_7) C9_7
theorem u9_8 : VC C9_8.eq_1 := rfl
def C9_9 : ACode := .seq (.reg L9_5) C9_8
theorem u9_9 : VC C9_9.eq_1 := rfl
def C9_10 : ACode := .seq C9_2 C9_9
theorem u9_10 : VC C9_10.eq_1 := rfl
def C9_11 : ACode := .seq (.reg L9_0) C9_10
theorem u9_11 : VC C9_11.eq_1 := rfl
def F9 : AFunc := ⟨34, [.tmp 2], C9_11⟩
theorem cF9 : compB Try.prog 9 = some F9 := by kernel_rfl
attribute [local go_sem ↓] u9_0 u9_1 u9_2 u9_3 u9_4 u9_5 u9_6 u9_7 u9_8 u9_9 u9_10 u9_11 v9_0 v9_1 v9_2 v9_3 v9_4 v9_5 v9_6 v9_7 v9_8 v9_9 v9_10 v9_11 v9_12 v9_13 v9_14 v9_15 v9_16 v9_17 v9_18 v9_19 v9_20
theorem law9 (h : H) (avs : List AV) (hok : okVs Try.prog h 6 [ 22 ] avs) : callK (bm Try.prog 9 avs h) fun r _ => r = ib true := by
  obtain ⟨v0, avs, rfl, hv0, hok⟩ := okVs_cons hok
  obtain rfl := okVs_nil hok
  obtain ⟨v, code, rfl, s0, hc, k0⟩ := dBytes hv0
  refine bm_of cF9 ?_
  cases b0 : decide ((code.length : Int) > 1048576) with
  | true => simp +contextual (maxSteps := 2000000) only [go_sem, Nat.reduceEqDiff, reduceCtorEq, Nat.reduceAdd, Nat.reduceLeDiff, F9, s0.len, b0]
  | false =>
  simp +contextual (maxSteps := 2000000) only [go_sem, Nat.reduceEqDiff, reduceCtorEq, Nat.reduceAdd, Nat.reduceLeDiff, F9, s0.len, b0]
  refine wp_call (c_drawValidShape code v h s0 hc) ?_
  rintro q h1 ⟨g1, x, y, s1, rfl, zf, mf⟩
  have ev := c_ValidShape s1 x y h1 zf.sl mf
  have ew := k_sValidShape s1 x y h1 zf.sl mf
  cases b1 : okShape s1 with
  | false =>
    simp +contextual (maxSteps := 2000000) only [go_sem, Nat.reduceEqDiff, reduceCtorEq, Nat.reduceAdd, Nat.reduceLeDiff, ev, ew, b1]
    exact gcK_of rfl (fun _ _ => rfl)
  | true =>
  have mo : miniF (zeroF s1) := .zero
  simp +contextual (maxSteps := 2000000) only [go_sem, Nat.reduceEqDiff, reduceCtorEq, Nat.reduceAdd, Nat.reduceLeDiff, ev, ew, b1]
  refine wp_call (k_iFlatOf s1 x y h1 zf.sl mf) ?_
  rintro q h2 ⟨g2, c, d, rfl, zo⟩
  simp +contextual (maxSteps := 2000000) only [go_sem, Nat.reduceEqDiff, reduceCtorEq, Nat.reduceAdd, Nat.reduceLeDiff]
  refine wp_call (k_iShapeOf (zeroF s1) c d h2 zo.sl mo) ?_
  rintro q h3 ⟨g3, c3, d3, rfl, z3⟩
  rw [zeroF_ok b1, shape_zero b1] at z3
  have zf3 := (zf.sl.grow g2).grow g3
  have eq2 := eqX_self s1 h3 _ _ _ _ z3.sl zf3 mf
  simp +contextual (maxSteps := 2000000) only [go_sem, Nat.reduceEqDiff, reduceCtorEq, Nat.reduceAdd, Nat.reduceLeDiff, eq2]
  refine wp_call (k_iFlatOf s1 x y h3 zf3 mf) ?_
  rintro q h4 ⟨g4, c4, d4, rfl, z4⟩
  have ek := c_ValidFlat (zeroF s1) c4 d4 h4 z4.sl.pl z4.sl.nl mo.sm
  rw [zeroF_ok b1, okShape_flat b1] at ek
  simp +contextual (maxSteps := 2000000) only [go_sem, Nat.reduceEqDiff, reduceCtorEq, Nat.reduceAdd, Nat.reduceLeDiff, ek]
  exact gcK_of rfl (fun _ _ => rfl)
end Go.Proofs.Ytekkimfdcbgcoaa.Am
