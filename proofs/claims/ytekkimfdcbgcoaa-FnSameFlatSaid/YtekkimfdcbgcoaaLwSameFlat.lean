/- The law FnSameFlat. -/
import Derived.Test.YtekkimfdcbgcoaaL1
import Derived.Test.YtekkimfdcbgcoaaDF
namespace Go.Proofs.Ytekkimfdcbgcoaa.Am
open Go
set_option maxRecDepth 100000
set_option maxHeartbeats 4000000
set_option linter.unusedSimpArgs false
set_option linter.unusedVariables false
attribute [local go_sem ↓] bv_t bv_c ev_t ev_c put_same put_ne put_none kill_at pro_at lb_same lb_ne start_zero start_succ wpC_seq wpC_reg wpC_cond wpC_block wpC_skip wpC_exit wpC_ret thenQ_normal thenQ_exit thenQ_ret inBlk_normal inBlk_exit inBlk_ret wpS_nil wpS_step wpS_again wpS_guard wpO_mov wpO_load wpO_faddr wpO_nilCheck wpO_pick wpO_build wpO_bin wpO_eqb wpO_eqst wpO_eqnil wpO_not wpO_conv wpO_bytesStr wpO_iaddr wpO_idxStr wpO_field wpO_extract wpO_len wpO_lenStr wpO_cap wpO_min wpO_slice wpO_sliceStr wpO_alloc wpO_box wpO_store wpO_call wpO_callv wpO_mkfn wpO_buildSlice wpO_mkslice wpO_append wpO_appz proA_nil proA_cons tmpX_nil tmpX_tmp tmpX_cell doneB_normal doneB_ret agK_cons agK_nil agK_guard agG_tt agG_ff agG_tf agG_ft agG_undef pureB_load results_one results_two results_nil resBs_cons resBs_nil resB_tmp resB_cell
attribute [local go_sem] kill_v kill_lp_ne kill_lp_same pro_v pro_lp_same pro_lp_ne av_v av_lp optB_some optX_some valX_eq ldX_lp ldX_v faX_lp faX_v ncX_lp ncX_ptr ncX_fn boxK_one boxK_agg stL_some stK_lp_one stK_lp_agg stK_v_one stK_v_agg proM_v proM_lp callG_mk callVG_mk callvK_fn fnG_mk ptrsA_nil ptrsA_cons callH_some whenA_true whenA_false guardH_tt guardH_ff guardH_tf guardH_ft guardH_undef agV_one agV_agg lenO_sl lenStrO_str notO_bool pickO_bool convO_int eqbO_bool eqnilO_sl extractO_tup capO_sl minO_int loadL_one loadL_all storeL_eq fillA_nil fillA_one fillA_agg nat_ge neg_ge nat_lt neg_lt buildO bin_add bin_sub bin_mul bin_eql bin_neq bin_lss bin_leq bin_gtr bin_geq str_eql str_neq str_lss str_leq str_gtr str_geq retK_some endK_mk gcK_same gcK_int gcK_bool tupO_one tupO_agg rdy_self ib ii Option.map_none Option.map_some Option.some.injEq exists_eq_left' exists_eq_left ne_eq not_false_eq_true if_true if_false List.map_cons List.map_nil List.getElem?_cons_zero List.getElem?_cons_succ List.length_cons List.length_nil List.take_succ_cons List.take_zero List.take_nil List.drop_succ_cons List.drop_zero List.drop_nil List.cons_append List.nil_append List.append_nil List.set_cons_zero List.set_cons_succ Nat.zero_add forall_const true_and and_true and_self Bool.false_eq_true false_implies true_implies implies_true Bool.not_true Bool.not_false Bool.not_eq_true' Bool.not_eq_false' beq_self_eq_true Bool.bne_true Bool.bne_false
attribute [local go_sem] lenI lenS lenP lenQ lenB lenL lenT encI_0 encS_0 encP_0 encP_1 encQ_0 encQ_1 encQ_2 encQ_3 encB_0 encB_1 encL_0 encL_1 encT_0 encT_1
attribute [local go_sem low] whenA_bool guardH_bool
/-! laws.FnSameFlat -/
def L5_0 : List AStep := [⟨.mov (.c (.bool false)), (some 2), none, []⟩]
theorem v5_0 : VS L5_0.eq_1 := rfl
def L5_1 : List AStep := [⟨.bin .gtr (.t 7) (.c (.int .i64 1048576)), (some 8), none, []⟩]
theorem v5_1 : VS L5_1.eq_1 := rfl
def L5_2 : List AStep := ⟨.mov (.t 0), (some 6), none, []⟩ :: ⟨.len (.t 6), (some 7), none, []⟩ :: L5_1
theorem v5_2 : VS L5_2.eq_1 := rfl
def L5_3 : List AStep := [⟨.mov (.c (.bool true)), (some 2), none, []⟩]
theorem v5_3 : VS L5_3.eq_1 := rfl
def L5_4 : List AStep := [⟨.store 2 (.t 4) (.t 13), none, none, []⟩]
theorem v5_4 : VS L5_4.eq_1 := rfl
def L5_5 : List AStep := ⟨.alloc 27 [(.sl none 0 (some 0)), (.sl none 0 (some 0))], (some 4), none, []⟩ :: ⟨.store 2 (.t 3) (.t 12), none, none, []⟩ :: L5_4
theorem v5_5 : VS L5_5.eq_1 := rfl
def L5_6 : List AStep := ⟨.extract (.t 9) 1, (some 13), none, []⟩ :: ⟨.alloc 27 [(.sl none 0 (some 0)), (.sl none 0 (some 0))], (some 3), none, []⟩ :: L5_5
theorem v5_6 : VS L5_6.eq_1 := rfl
def L5_7 : List AStep := ⟨.mov (.t 11), (some 9), none, []⟩ :: ⟨.extract (.t 9) 0, (some 12), none, []⟩ :: L5_6
theorem v5_7 : VS L5_7.eq_1 := rfl
def L5_8 : List AStep := ⟨.mov (.t 0), (some 10), none, []⟩ :: ⟨.call 26 [(.t 10)], (some 11), none, []⟩ :: L5_7
theorem v5_8 : VS L5_8.eq_1 := rfl
def L5_9 : List AStep := [⟨.call 25 [(.t 14), (.t 15)], (some 16), none, []⟩, ⟨.mov (.t 16), (some 5), none, []⟩]
theorem v5_9 : VS L5_9.eq_1 := rfl
def L5_10 : List AStep := ⟨.load 2 true (.t 3), (some 14), none, []⟩ :: ⟨.load 2 true (.t 4), (some 15), none, []⟩ :: L5_9
theorem v5_10 : VS L5_10.eq_1 := rfl
def L5_11 : List AStep := [⟨.pick (.t 27) (.c (.bool true)) (.t 30), (some 31), none, []⟩]
theorem v5_11 : VS L5_11.eq_1 := rfl
def L5_12 : List AStep := ⟨.call 17 [(.t 28)], (some 29), (some (27, false)), []⟩ :: ⟨.not (.t 29), (some 30), (some (27, false)), []⟩ :: L5_11
theorem v5_12 : VS L5_12.eq_1 := rfl
def L5_13 : List AStep := ⟨.mov (.t 26), (some 27), none, []⟩ :: ⟨.load 2 true (.t 4), (some 28), (some (27, false)), []⟩ :: L5_12
theorem v5_13 : VS L5_13.eq_1 := rfl
def L5_14 : List AStep := ⟨.not (.t 24), (some 25), (some (22, false)), []⟩ :: ⟨.pick (.t 22) (.c (.bool true)) (.t 25), (some 26), none, []⟩ :: L5_13
theorem v5_14 : VS L5_14.eq_1 := rfl
def L5_15 : List AStep := ⟨.load 2 true (.t 3), (some 23), (some (22, false)), []⟩ :: ⟨.call 17 [(.t 23)], (some 24), (some (22, false)), []⟩ :: L5_14
theorem v5_15 : VS L5_15.eq_1 := rfl
def L5_16 : List AStep := ⟨.eqb true (.t 17) (.t 20), (some 21), none, []⟩ :: ⟨.mov (.t 21), (some 22), none, []⟩ :: L5_15
theorem v5_16 : VS L5_16.eq_1 := rfl
def L5_17 : List AStep := ⟨.load 2 true (.t 4), (some 19), none, []⟩ :: ⟨.call 27 [(.t 18), (.t 19)], (some 20), none, []⟩ :: L5_16
theorem v5_17 : VS L5_17.eq_1 := rfl
def L5_18 : List AStep := ⟨.mov (.t 5), (some 17), none, []⟩ :: ⟨.load 2 true (.t 3), (some 18), none, []⟩ :: L5_17
theorem v5_18 : VS L5_18.eq_1 := rfl
def L5_19 : List AStep := [⟨.eqb false (.t 32) (.t 35), (some 36), none, []⟩, ⟨.mov (.t 36), (some 2), none, []⟩]
theorem v5_19 : VS L5_19.eq_1 := rfl
def L5_20 : List AStep := ⟨.load 2 true (.t 4), (some 34), none, []⟩ :: ⟨.call 27 [(.t 33), (.t 34)], (some 35), none, []⟩ :: L5_19
theorem v5_20 : VS L5_20.eq_1 := rfl
def L5_21 : List AStep := ⟨.mov (.t 5), (some 32), none, []⟩ :: ⟨.load 2 true (.t 3), (some 33), none, []⟩ :: L5_20
theorem v5_21 : VS L5_21.eq_1 := rfl
def L5_22 : List AStep := [⟨.mov (.t 50), (some 2), none, []⟩]
theorem v5_22 : VS L5_22.eq_1 := rfl
def L5_23 : List AStep := ⟨.eqb false (.t 43) (.t 48), (some 49), (some (42, true)), []⟩ :: ⟨.pick (.t 42) (.t 49) (.c (.bool false)), (some 50), none, []⟩ :: L5_22
theorem v5_23 : VS L5_23.eq_1 := rfl
def L5_24 : List AStep := ⟨.call 23 [(.t 46)], (some 47), (some (42, true)), []⟩ :: ⟨.call 14 [(.t 45), (.t 47)], (some 48), (some (42, true)), []⟩ :: L5_23
theorem v5_24 : VS L5_24.eq_1 := rfl
def L5_25 : List AStep := ⟨.load 2 true (.t 4), (some 46), (some (42, true)), []⟩ :: ⟨.call 23 [(.t 44)], (some 45), (some (42, true)), [(.load 2 true (.t 4), (some 46), (some (42, true)))]⟩ :: L5_24
theorem v5_25 : VS L5_25.eq_1 := rfl
def L5_26 : List AStep := ⟨.mov (.t 5), (some 43), (some (42, true)), []⟩ :: ⟨.load 2 true (.t 3), (some 44), (some (42, true)), []⟩ :: L5_25
theorem v5_26 : VS L5_26.eq_1 := rfl
def L5_27 : List AStep := ⟨.eqb false (.t 39) (.t 40), (some 41), none, []⟩ :: ⟨.mov (.t 41), (some 42), none, []⟩ :: L5_26
theorem v5_27 : VS L5_27.eq_1 := rfl
def L5_28 : List AStep := ⟨.mov (.t 5), (some 40), none, []⟩ :: ⟨.call 25 [(.t 37), (.t 38)], (some 39), none, []⟩ :: L5_27
theorem v5_28 : VS L5_28.eq_1 := rfl
def L5_29 : List AStep := ⟨.load 2 true (.t 4), (some 37), none, []⟩ :: ⟨.load 2 true (.t 3), (some 38), none, []⟩ :: L5_28
theorem v5_29 : VS L5_29.eq_1 := rfl
def C5_0 : ACode := .seq (.reg L5_3) .ret
theorem u5_0 : VC C5_0.eq_1 := rfl
def C5_1 : ACode := .cond (.t 8) C5_0 .skip
theorem u5_1 : VC C5_1.eq_1 := rfl
def C5_2 : ACode := .seq (.reg L5_2) C5_1
theorem u5_2 : VC C5_2.eq_1 := rfl
def C5_3 : ACode := .seq (.reg L5_21) .ret
theorem u5_3 : VC C5_3.eq_1 := rfl
def C5_4 : ACode := .cond (.t 31) C5_3 .skip
theorem u5_4 : VC C5_4.eq_1 := rfl
def C5_5 : ACode := .seq (.reg L5_18) C5_4
theorem u5_5 : VC C5_5.eq_1 := rfl
def C5_6 : ACode := .seq (.reg L5_29) .ret
theorem u5_6 : VC C5_6.eq_1 := rfl
def C5_7 : ACode := .seq C5_5 C5_6
theorem u5_7 : VC C5_7.eq_1 := rfl
def C5_8 : ACode := .seq (.reg L5_10) C5_7
theorem u5_8 : VC C5_8.eq_1 := rfl
def C5_9 : ACode := .seq (.reg L5_8) C5_8
theorem u5_9 : VC C5_9.eq_1 := rfl
def C5_10 : ACode := .seq C5_2 C5_9
theorem u5_10 : VC C5_10.eq_1 := rfl
def C5_11 : ACode := .seq (.reg L5_0) C5_10
theorem u5_11 : VC C5_11.eq_1 := rfl
def F5 : AFunc := ⟨51, [.tmp 2], C5_11⟩
theorem cF5 : compB Try.prog 5 = some F5 := by kernel_rfl
attribute [local go_sem ↓] u5_0 u5_1 u5_2 u5_3 u5_4 u5_5 u5_6 u5_7 u5_8 u5_9 u5_10 u5_11 v5_0 v5_1 v5_2 v5_3 v5_4 v5_5 v5_6 v5_7 v5_8 v5_9 v5_10 v5_11 v5_12 v5_13 v5_14 v5_15 v5_16 v5_17 v5_18 v5_19 v5_20 v5_21 v5_22 v5_23 v5_24 v5_25 v5_26 v5_27 v5_28 v5_29
theorem law5 (h : H) (avs : List AV) (hok : okVs Try.prog h 6 [ 22 ] avs) : callK (bm Try.prog 5 avs h) fun r _ => r = ib true := by
  obtain ⟨v0, avs, rfl, hv0, hok⟩ := okVs_cons hok
  obtain rfl := okVs_nil hok
  obtain ⟨v, code, rfl, s0, hc, k0⟩ := dBytes hv0
  refine bm_of cF5 ?_
  cases b0 : decide ((code.length : Int) > 1048576) with
  | true => simp +contextual (maxSteps := 2000000) only [go_sem, Nat.reduceEqDiff, reduceCtorEq, Nat.reduceAdd, Nat.reduceLeDiff, F5, s0.len, b0]
  | false =>
  simp +contextual (maxSteps := 2000000) only [go_sem, Nat.reduceEqDiff, reduceCtorEq, Nat.reduceAdd, Nat.reduceLeDiff, F5, s0.len, b0]
  refine wp_call (c_drawSameFlat code v h s0 hc) ?_
  rintro q h1 ⟨g1, x, y, u, w, f, g, rfl, zf, zg, mf, mg⟩
  have e1 := k_iSameFlat f g x y u w h1 zf.sl zg.sl mf mg
  have e2 := k_sSameFlat f g x y u w h1 zf.sl zg.sl mf mg
  have e3 := k_iSameFlat g f u w x y h1 zg.sl zf.sl mg mf
  rw [sameF_comm] at e3
  have v1 := c_ValidFlat f x y h1 zf.sl.pl zf.sl.nl mf.sm
  have v2 := c_ValidFlat g u w h1 zg.sl.pl zg.sl.nl mg.sm
  cases b1 : okFlat f with
  | false =>
    simp +contextual (maxSteps := 2000000) only [go_sem, Nat.reduceEqDiff, reduceCtorEq, Nat.reduceAdd, Nat.reduceLeDiff, e1, e2, v1, b1]
    exact gcK_of rfl (fun _ _ => rfl)
  | true =>
  cases b2 : okFlat g with
  | false =>
    simp +contextual (maxSteps := 2000000) only [go_sem, Nat.reduceEqDiff, reduceCtorEq, Nat.reduceAdd, Nat.reduceLeDiff, e1, e2, v1, b1, v2, b2]
    exact gcK_of rfl (fun _ _ => rfl)
  | true =>
  simp +contextual (maxSteps := 2000000) only [go_sem, Nat.reduceEqDiff, reduceCtorEq, Nat.reduceAdd, Nat.reduceLeDiff, e1, e2, e3, v1, b1, v2, b2]
  refine wp_call (k_iSortFlat f x y h1 zf.sl mf) ?_
  rintro q h2 ⟨g2, c, d, rfl, zo⟩
  simp +contextual (maxSteps := 2000000) only [go_sem, Nat.reduceEqDiff, reduceCtorEq, Nat.reduceAdd, Nat.reduceLeDiff]
  refine wp_call (k_iSortFlat g u w h2 (zg.sl.grow g2) mg) ?_
  rintro q h3 ⟨g3, c3, d3, rfl, zw⟩
  have mo : miniF (sortF f) := .sort
  have eq1 := c_equalFlat (sortF f) (sortF g) c d c3 d3 h3 (zo.grow g3).sl.pl (zo.grow g3).sl.nl zw.sl.pl zw.sl.nl (Nat.le_trans mo.pl (by decide)) (Nat.le_trans mo.nl (by decide))
  rw [← sameF_sorts b1 b2] at eq1
  simp +contextual (maxSteps := 2000000) only [go_sem, Nat.reduceEqDiff, reduceCtorEq, Nat.reduceAdd, Nat.reduceLeDiff, eq1]
  exact gcK_of rfl (fun _ _ => rfl)
end Go.Proofs.Ytekkimfdcbgcoaa.Am
