/- The law FnAcceptsWrapped. -/
import Derived.Test.YtekkimfdcbgcoabDV
import Derived.Test.YtekkimfdcbgcoabPB
namespace Go.Proofs.Ytekkimfdcbgcoab.Am
open Go
attribute [local go_sem] loadL_agg
set_option maxRecDepth 100000
set_option maxHeartbeats 4000000
set_option linter.unusedSimpArgs false
set_option linter.unusedVariables false
attribute [local go_sem ↓] bv_t bv_c ev_t ev_c put_same put_ne put_none kill_at pro_at lb_same lb_ne start_zero start_succ wpC_seq wpC_reg wpC_cond wpC_block wpC_skip wpC_exit wpC_ret thenQ_normal thenQ_exit thenQ_ret inBlk_normal inBlk_exit inBlk_ret wpS_nil wpS_step wpS_again wpS_guard wpO_mov wpO_load wpO_faddr wpO_nilCheck wpO_pick wpO_build wpO_bin wpO_eqb wpO_eqst wpO_eqnil wpO_not wpO_conv wpO_bytesStr wpO_iaddr wpO_idxStr wpO_field wpO_extract wpO_len wpO_lenStr wpO_cap wpO_min wpO_slice wpO_sliceStr wpO_alloc wpO_box wpO_store wpO_call wpO_callv wpO_mkfn wpO_buildSlice wpO_mkslice wpO_append wpO_appz proA_nil proA_cons tmpX_nil tmpX_tmp tmpX_cell doneB_normal doneB_ret agK_cons agK_nil agK_guard agG_tt agG_ff agG_tf agG_ft agG_undef pureB_load results_one results_two results_nil resBs_cons resBs_nil resB_tmp resB_cell
attribute [local go_sem] kill_v kill_lp_ne kill_lp_same pro_v pro_lp_same pro_lp_ne av_v av_lp optB_some optX_some valX_eq ldX_lp ldX_v faX_lp faX_v ncX_lp ncX_ptr ncX_fn boxK_one boxK_agg stL_some stK_lp_one stK_lp_agg stK_v_one stK_v_agg proM_v proM_lp callG_mk callVG_mk callvK_fn fnG_mk ptrsA_nil ptrsA_cons callH_some whenA_true whenA_false guardH_tt guardH_ff guardH_tf guardH_ft guardH_undef agV_one agV_agg lenO_sl lenStrO_str notO_bool pickO_bool convO_int eqbO_bool eqnilO_sl extractO_tup capO_sl minO_int loadL_one loadL_all storeL_eq fillA_nil fillA_one fillA_agg nat_ge neg_ge nat_lt neg_lt buildO bin_add bin_sub bin_mul bin_eql bin_neq bin_lss bin_leq bin_gtr bin_geq str_eql str_neq str_lss str_leq str_gtr str_geq retK_some endK_mk gcK_same gcK_int gcK_bool tupO_one tupO_agg rdy_self ib ii Option.map_none Option.map_some Option.some.injEq exists_eq_left' exists_eq_left ne_eq not_false_eq_true if_true if_false List.map_cons List.map_nil List.getElem?_cons_zero List.getElem?_cons_succ List.length_cons List.length_nil List.take_succ_cons List.take_zero List.take_nil List.drop_succ_cons List.drop_zero List.drop_nil List.cons_append List.nil_append List.append_nil List.set_cons_zero List.set_cons_succ Nat.zero_add forall_const true_and and_true and_self Bool.false_eq_true false_implies true_implies implies_true Bool.not_true Bool.not_false Bool.not_eq_true' Bool.not_eq_false' beq_self_eq_true Bool.bne_true Bool.bne_false
attribute [local go_sem] lenI lenS lenP lenQ lenB lenL lenT encI_0 encS_0 encP_0 encP_1 encQ_0 encQ_1 encQ_2 encQ_3 encB_0 encB_1 encL_0 encL_1 encT_0 encT_1
attribute [local go_sem low] whenA_bool guardH_bool
/-! laws.FnAcceptsWrapped -/
def L11_0 : List AStep := [⟨.mov (.c (.bool false)), (some 2), none, []⟩]
theorem v11_0 : VS L11_0.eq_1 := rfl
def L11_1 : List AStep := [⟨.bin .gtr (.t 10) (.c (.int .i64 1048576)), (some 11), none, []⟩]
theorem v11_1 : VS L11_1.eq_1 := rfl
def L11_2 : List AStep := ⟨.mov (.t 0), (some 9), none, []⟩ :: ⟨.len (.t 9), (some 10), none, []⟩ :: L11_1
theorem v11_2 : VS L11_2.eq_1 := rfl
def L11_3 : List AStep := [⟨.mov (.c (.bool true)), (some 2), none, []⟩]
theorem v11_3 : VS L11_3.eq_1 := rfl
def L11_4 : List AStep := [⟨.store 1 (.t 4) (.t 16), none, none, []⟩, ⟨.store 2 (.t 5) (.t 17), none, none, []⟩]
theorem v11_4 : VS L11_4.eq_1 := rfl
def L11_5 : List AStep := ⟨.alloc 29 [(.sl none 0 (some 0)), (.sl none 0 (some 0))], (some 5), none, []⟩ :: ⟨.store 1 (.t 3) (.t 15), none, none, []⟩ :: L11_4
theorem v11_5 : VS L11_5.eq_1 := rfl
def L11_6 : List AStep := ⟨.alloc 25 [(.sl none 0 (some 0))], (some 3), none, []⟩ :: ⟨.alloc 25 [(.sl none 0 (some 0))], (some 4), none, []⟩ :: L11_5
theorem v11_6 : VS L11_6.eq_1 := rfl
def L11_7 : List AStep := ⟨.extract (.t 12) 1, (some 16), none, []⟩ :: ⟨.extract (.t 12) 2, (some 17), none, []⟩ :: L11_6
theorem v11_7 : VS L11_7.eq_1 := rfl
def L11_8 : List AStep := ⟨.mov (.t 14), (some 12), none, []⟩ :: ⟨.extract (.t 12) 0, (some 15), none, []⟩ :: L11_7
theorem v11_8 : VS L11_8.eq_1 := rfl
def L11_9 : List AStep := ⟨.mov (.t 0), (some 13), none, []⟩ :: ⟨.call 38 [(.t 13)], (some 14), none, []⟩ :: L11_8
theorem v11_9 : VS L11_9.eq_1 := rfl
def L11_10 : List AStep := [⟨.mov (.t 21), (some 6), none, []⟩]
theorem v11_10 : VS L11_10.eq_1 := rfl
def L11_11 : List AStep := ⟨.load 2 true (.t 5), (some 20), none, []⟩ :: ⟨.call 41 [(.t 18), (.t 19), (.t 20)], (some 21), none, []⟩ :: L11_10
theorem v11_11 : VS L11_11.eq_1 := rfl
def L11_12 : List AStep := ⟨.load 1 true (.t 3), (some 18), none, []⟩ :: ⟨.load 1 true (.t 4), (some 19), none, []⟩ :: L11_11
theorem v11_12 : VS L11_12.eq_1 := rfl
def L11_13 : List AStep := [⟨.pick (.t 38) (.c (.bool true)) (.t 41), (some 42), none, []⟩]
theorem v11_13 : VS L11_13.eq_1 := rfl
def L11_14 : List AStep := ⟨.call 32 [(.t 39)], (some 40), (some (38, false)), []⟩ :: ⟨.not (.t 40), (some 41), (some (38, false)), []⟩ :: L11_13
theorem v11_14 : VS L11_14.eq_1 := rfl
def L11_15 : List AStep := ⟨.mov (.t 37), (some 38), none, []⟩ :: ⟨.load 2 true (.t 5), (some 39), (some (38, false)), []⟩ :: L11_14
theorem v11_15 : VS L11_15.eq_1 := rfl
def L11_16 : List AStep := ⟨.not (.t 35), (some 36), (some (33, false)), []⟩ :: ⟨.pick (.t 33) (.c (.bool true)) (.t 36), (some 37), none, []⟩ :: L11_15
theorem v11_16 : VS L11_16.eq_1 := rfl
def L11_17 : List AStep := ⟨.load 1 true (.t 4), (some 34), (some (33, false)), []⟩ :: ⟨.call 31 [(.t 34)], (some 35), (some (33, false)), []⟩ :: L11_16
theorem v11_17 : VS L11_17.eq_1 := rfl
def L11_18 : List AStep := ⟨.pick (.t 28) (.c (.bool true)) (.t 31), (some 32), none, []⟩ :: ⟨.mov (.t 32), (some 33), none, []⟩ :: L11_17
theorem v11_18 : VS L11_18.eq_1 := rfl
def L11_19 : List AStep := ⟨.call 48 [(.t 29)], (some 30), (some (28, false)), []⟩ :: ⟨.not (.t 30), (some 31), (some (28, false)), []⟩ :: L11_18
theorem v11_19 : VS L11_19.eq_1 := rfl
def L11_20 : List AStep := ⟨.mov (.t 27), (some 28), none, []⟩ :: ⟨.load 1 true (.t 3), (some 29), (some (28, false)), []⟩ :: L11_19
theorem v11_20 : VS L11_20.eq_1 := rfl
def L11_21 : List AStep := ⟨.call 47 [(.t 23), (.t 24), (.t 25)], (some 26), none, []⟩ :: ⟨.eqb true (.t 22) (.t 26), (some 27), none, []⟩ :: L11_20
theorem v11_21 : VS L11_21.eq_1 := rfl
def L11_22 : List AStep := ⟨.load 1 true (.t 4), (some 24), none, []⟩ :: ⟨.load 2 true (.t 5), (some 25), none, []⟩ :: L11_21
theorem v11_22 : VS L11_22.eq_1 := rfl
def L11_23 : List AStep := ⟨.mov (.t 6), (some 22), none, []⟩ :: ⟨.load 1 true (.t 3), (some 23), none, []⟩ :: L11_22
theorem v11_23 : VS L11_23.eq_1 := rfl
def L11_24 : List AStep := [⟨.mov (.t 48), (some 2), none, []⟩]
theorem v11_24 : VS L11_24.eq_1 := rfl
def L11_25 : List AStep := ⟨.call 47 [(.t 44), (.t 45), (.t 46)], (some 47), none, []⟩ :: ⟨.eqb false (.t 43) (.t 47), (some 48), none, []⟩ :: L11_24
theorem v11_25 : VS L11_25.eq_1 := rfl
def L11_26 : List AStep := ⟨.load 1 true (.t 4), (some 45), none, []⟩ :: ⟨.load 2 true (.t 5), (some 46), none, []⟩ :: L11_25
theorem v11_26 : VS L11_26.eq_1 := rfl
def L11_27 : List AStep := ⟨.mov (.t 6), (some 43), none, []⟩ :: ⟨.load 1 true (.t 3), (some 44), none, []⟩ :: L11_26
theorem v11_27 : VS L11_27.eq_1 := rfl
def L11_28 : List AStep := [⟨.mov (.t 54), (some 8), none, []⟩]
theorem v11_28 : VS L11_28.eq_1 := rfl
def L11_29 : List AStep := ⟨.alloc 29 [(.sl none 0 (some 0)), (.sl none 0 (some 0))], (some 7), none, []⟩ :: ⟨.store 2 (.t 7) (.t 53), none, none, []⟩ :: L11_28
theorem v11_29 : VS L11_29.eq_1 := rfl
def L11_30 : List AStep := ⟨.extract (.t 49) 0, (some 53), none, []⟩ :: ⟨.extract (.t 49) 1, (some 54), none, []⟩ :: L11_29
theorem v11_30 : VS L11_30.eq_1 := rfl
def L11_31 : List AStep := ⟨.call 43 [(.t 50), (.t 51)], (some 52), none, []⟩ :: ⟨.mov (.t 52), (some 49), none, []⟩ :: L11_30
theorem v11_31 : VS L11_31.eq_1 := rfl
def L11_32 : List AStep := ⟨.load 1 true (.t 3), (some 50), none, []⟩ :: ⟨.load 2 true (.t 5), (some 51), none, []⟩ :: L11_31
theorem v11_32 : VS L11_32.eq_1 := rfl
def L11_33 : List AStep := [⟨.pick (.t 63) (.t 70) (.c (.bool false)), (some 71), none, []⟩, ⟨.mov (.t 71), (some 2), none, []⟩]
theorem v11_33 : VS L11_33.eq_1 := rfl
def L11_34 : List AStep := ⟨.call 18 [(.t 67), (.t 68)], (some 69), (some (66, false)), []⟩ :: ⟨.pick (.t 66) (.c (.bool true)) (.t 69), (some 70), (some (63, true)), []⟩ :: L11_33
theorem v11_34 : VS L11_34.eq_1 := rfl
def L11_35 : List AStep := ⟨.load 1 true (.t 3), (some 67), (some (66, false)), []⟩ :: ⟨.load 2 true (.t 5), (some 68), (some (66, false)), []⟩ :: L11_34
theorem v11_35 : VS L11_35.eq_1 := rfl
def L11_36 : List AStep := ⟨.not (.t 64), (some 65), (some (63, true)), []⟩ :: ⟨.mov (.t 65), (some 66), (some (63, true)), []⟩ :: L11_35
theorem v11_36 : VS L11_36.eq_1 := rfl
def L11_37 : List AStep := ⟨.mov (.t 62), (some 63), none, []⟩ :: ⟨.mov (.t 6), (some 64), (some (63, true)), []⟩ :: L11_36
theorem v11_37 : VS L11_37.eq_1 := rfl
def L11_38 : List AStep := ⟨.pick (.t 57) (.t 60) (.c (.bool false)), (some 61), none, []⟩ :: ⟨.eqb false (.t 55) (.t 61), (some 62), none, []⟩ :: L11_37
theorem v11_38 : VS L11_38.eq_1 := rfl
def L11_39 : List AStep := ⟨.load 2 true (.t 7), (some 59), (some (57, true)), []⟩ :: ⟨.call 18 [(.t 58), (.t 59)], (some 60), (some (57, true)), []⟩ :: L11_38
theorem v11_39 : VS L11_39.eq_1 := rfl
def L11_40 : List AStep := ⟨.mov (.t 56), (some 57), none, []⟩ :: ⟨.load 1 true (.t 4), (some 58), (some (57, true)), []⟩ :: L11_39
theorem v11_40 : VS L11_40.eq_1 := rfl
def L11_41 : List AStep := ⟨.mov (.t 6), (some 55), none, []⟩ :: ⟨.mov (.t 8), (some 56), none, []⟩ :: L11_40
theorem v11_41 : VS L11_41.eq_1 := rfl
def C11_0 : ACode := .seq (.reg L11_3) .ret
theorem u11_0 : VC C11_0.eq_1 := rfl
def C11_1 : ACode := .cond (.t 11) C11_0 .skip
theorem u11_1 : VC C11_1.eq_1 := rfl
def C11_2 : ACode := .seq (.reg L11_2) C11_1
theorem u11_2 : VC C11_2.eq_1 := rfl
def C11_3 : ACode := .seq (.reg L11_27) .ret
theorem u11_3 : VC C11_3.eq_1 := rfl
def C11_4 : ACode := .cond (.t 42) C11_3 .skip
theorem u11_4 : VC C11_4.eq_1 := rfl
def C11_5 : ACode := .seq (.reg L11_23) C11_4
theorem u11_5 : VC C11_5.eq_1 := rfl
def C11_6 : ACode := .seq (.reg L11_41) .ret
theorem u11_6 : VC C11_6.eq_1 := rfl
def C11_7 : ACode := .seq (.reg L11_32) C11_6
theorem u11_7 : VC C11_7.eq_1 := rfl
def C11_8 : ACode := .seq C11_5 C11_7
theorem u11_8 : VC C11_8.eq_1 := rfl
def C11_9 : ACode := .seq (.reg L11_12) C11_8
theorem u11_9 : VC C11_9.eq_1 := rfl
def C11_10 : ACode := .seq (.reg L11_9) C11_9
theorem u11_10 : VC C11_10.eq_1 := rfl
def C11_11 : ACode := .seq C11_2 C11_10
theorem u11_11 : VC C11_11.eq_1 := rfl
def C11_12 : ACode := .seq (.reg L11_0) C11_11
theorem u11_12 : VC C11_12.eq_1 := rfl
def F11 : AFunc := ⟨72, [.tmp 2], C11_12⟩
theorem cF11 : compB Try.prog 11 = some F11 := by kernel_rfl
attribute [local go_sem ↓] u11_0 u11_1 u11_2 u11_3 u11_4 u11_5 u11_6 u11_7 u11_8 u11_9 u11_10 u11_11 u11_12 v11_0 v11_1 v11_2 v11_3 v11_4 v11_5 v11_6 v11_7 v11_8 v11_9 v11_10 v11_11 v11_12 v11_13 v11_14 v11_15 v11_16 v11_17 v11_18 v11_19 v11_20 v11_21 v11_22 v11_23 v11_24 v11_25 v11_26 v11_27 v11_28 v11_29 v11_30 v11_31 v11_32 v11_33 v11_34 v11_35 v11_36 v11_37 v11_38 v11_39 v11_40 v11_41
theorem law11 (h : H) (avs : List AV) (hok : okVs Try.prog h 6 [ 22 ] avs) : callK (bm Try.prog 11 avs h) fun r _ => r = ib true := by
  obtain ⟨v0, avs, rfl, hv0, hok⟩ := okVs_cons hok
  obtain rfl := okVs_nil hok
  obtain ⟨v, code, rfl, s0, hc, k0⟩ := dBytes hv0
  refine bm_of cF11 ?_
  cases b0 : decide ((code.length : Int) > 1048576) with
  | true => simp +contextual (maxSteps := 2000000) only [go_sem, Nat.reduceEqDiff, reduceCtorEq, Nat.reduceAdd, Nat.reduceLeDiff, F11, s0.len, b0]
  | false =>
  simp +contextual (maxSteps := 2000000) only [go_sem, Nat.reduceEqDiff, reduceCtorEq, Nat.reduceAdd, Nat.reduceLeDiff, F11, s0.len, b0]
  refine wp_call (c_drawAcceptsWrapped code v h s0 hc) ?_
  rintro q h1 ⟨g1, x, x2, u, w, l, m, f, rfl, sg, sm, sf, tl, tm, mf⟩
  have ml := tl.mini
  have mm := tm.mini
  have e1 := k_iAcceptsWrapped l m f x x2 u w h1 sg sm sf ml mm mf
  have e2 := k_sAcceptsWrapped l m f x x2 u w h1 sg sm sf ml mm mf
  have e3 := c_IsWrapper l x h1 sg ml
  have e4 := c_ValidSignature m x2 h1 sm.out mm.sm
  have e5 := c_ValidFlat f u w h1 sf.pl sf.nl mf.sm
  have ebb : ∀ b : Bool, (b == b) = true := fun b => by cases b <;> rfl
  have enb : ∀ b : Bool, (!(b == b)) = false := fun b => by cases b <;> rfl
  cases b1 : isWrap l with
  | false =>
    rw [b1] at e3
    simp +contextual (maxSteps := 2000000) only [go_sem, Nat.reduceEqDiff, reduceCtorEq, Nat.reduceAdd, Nat.reduceLeDiff, e1, e2, e3, ebb, enb]
    exact gcK_of rfl (fun _ _ => rfl)
  | true =>
  rw [b1] at e3
  cases b2 : okSig m with
  | false =>
    rw [b2] at e4
    simp +contextual (maxSteps := 2000000) only [go_sem, Nat.reduceEqDiff, reduceCtorEq, Nat.reduceAdd, Nat.reduceLeDiff, e1, e2, e3, e4, ebb, enb]
    exact gcK_of rfl (fun _ _ => rfl)
  | true =>
  rw [b2] at e4
  cases b3 : okFlat f with
  | false =>
    rw [b3] at e5
    simp +contextual (maxSteps := 2000000) only [go_sem, Nat.reduceEqDiff, reduceCtorEq, Nat.reduceAdd, Nat.reduceLeDiff, e1, e2, e3, e4, e5, ebb, enb]
    exact gcK_of rfl (fun _ _ => rfl)
  | true =>
  rw [b3] at e5
  simp +contextual (maxSteps := 2000000) only [go_sem, Nat.reduceEqDiff, reduceCtorEq, Nat.reduceAdd, Nat.reduceLeDiff, e1, e2, e3, e4, e5, ebb, enb]
  refine wp_call (k_iPassedFlat l f x u w h1 sg sf ml mf) ?_
  rintro r h2 ⟨g2, c, d, rfl, y⟩
  have ea := k_iAccepts m (passF l f) x2 c d h2 (sm.grow g2) y.sl mm .pass
  have eb := k_iAccepts l f x u w h2 (sg.grow g2) (sf.grow g2) ml mf
  cases b4 : passOk l f with
  | false =>
    have ew : wrapAcc l m f = false := by unfold wrapAcc; rw [b4]; rfl
    simp +contextual (maxSteps := 2000000) only [go_sem, Nat.reduceEqDiff, reduceCtorEq, Nat.reduceAdd, Nat.reduceLeDiff, ew, b4]
    try exact gcK_of rfl (fun _ _ => rfl)
  | true =>
    have acc : acceptsF l f = true := by unfold passOk at b4; rw [Bool.and_eq_true] at b4; exact b4.1
    rw [acc] at eb
    cases b5 : acceptsF m (passF l f) with
    | false =>
      have ew : wrapAcc l m f = false := by unfold wrapAcc; rw [b5, Bool.and_false]
      rw [b5] at ea
      simp +contextual (maxSteps := 2000000) only [go_sem, Nat.reduceEqDiff, reduceCtorEq, Nat.reduceAdd, Nat.reduceLeDiff, ew, b4, ea]
      try exact gcK_of rfl (fun _ _ => rfl)
    | true =>
      have ew : wrapAcc l m f = true := by unfold wrapAcc; rw [b4, b5]; rfl
      rw [b5] at ea
      simp +contextual (maxSteps := 2000000) only [go_sem, Nat.reduceEqDiff, reduceCtorEq, Nat.reduceAdd, Nat.reduceLeDiff, ew, b4, ea, eb]
      try exact gcK_of rfl (fun _ _ => rfl)
end Go.Proofs.Ytekkimfdcbgcoab.Am
