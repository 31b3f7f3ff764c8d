/- The law FnWrappedSignature. -/
import Derived.Test.YtekkimfdcbgcoabDV
import Derived.Test.YtekkimfdcbgcoabWI
import Derived.Test.YtekkimfdcbgcoabWW
import Derived.Test.YtekkimfdcbgcoabPB
namespace Go.Proofs.Ytekkimfdcbgcoab.Am
open Go
attribute [local go_sem] loadL_agg
set_option maxRecDepth 100000
set_option maxHeartbeats 4000000
set_option linter.unusedSimpArgs false
set_option linter.unusedVariables false
attribute [local go_sem ↓] bv_t bv_c ev_t ev_c put_same put_ne put_none kill_at pro_at lb_same lb_ne start_zero start_succ wpC_seq wpC_reg wpC_cond wpC_block wpC_skip wpC_exit wpC_ret thenQ_normal thenQ_exit thenQ_ret inBlk_normal inBlk_exit inBlk_ret wpS_nil wpS_step wpS_again wpS_guard wpO_mov wpO_load wpO_faddr wpO_nilCheck wpO_pick wpO_build wpO_bin wpO_eqb wpO_eqst wpO_eqnil wpO_not wpO_conv wpO_bytesStr wpO_iaddr wpO_idxStr wpO_field wpO_extract wpO_len wpO_lenStr wpO_cap wpO_min wpO_slice wpO_sliceStr wpO_alloc wpO_box wpO_store wpO_call wpO_callv wpO_mkfn wpO_buildSlice wpO_mkslice wpO_append wpO_appz proA_nil proA_cons tmpX_nil tmpX_tmp tmpX_cell doneB_normal doneB_ret agK_cons agK_nil agK_guard agG_tt agG_ff agG_tf agG_ft agG_undef pureB_load results_one results_two results_nil resBs_cons resBs_nil resB_tmp resB_cell
attribute [local go_sem] kill_v kill_lp_ne kill_lp_same pro_v pro_lp_same pro_lp_ne av_v av_lp optB_some optX_some valX_eq ldX_lp ldX_v faX_lp faX_v ncX_lp ncX_ptr ncX_fn boxK_one boxK_agg stL_some stK_lp_one stK_lp_agg stK_v_one stK_v_agg proM_v proM_lp callG_mk callVG_mk callvK_fn fnG_mk ptrsA_nil ptrsA_cons callH_some whenA_true whenA_false guardH_tt guardH_ff guardH_tf guardH_ft guardH_undef agV_one agV_agg lenO_sl lenStrO_str notO_bool pickO_bool convO_int eqbO_bool eqnilO_sl extractO_tup capO_sl minO_int loadL_one loadL_all storeL_eq fillA_nil fillA_one fillA_agg nat_ge neg_ge nat_lt neg_lt buildO bin_add bin_sub bin_mul bin_eql bin_neq bin_lss bin_leq bin_gtr bin_geq str_eql str_neq str_lss str_leq str_gtr str_geq retK_some endK_mk gcK_same gcK_int gcK_bool tupO_one tupO_agg rdy_self ib ii Option.map_none Option.map_some Option.some.injEq exists_eq_left' exists_eq_left ne_eq not_false_eq_true if_true if_false List.map_cons List.map_nil List.getElem?_cons_zero List.getElem?_cons_succ List.length_cons List.length_nil List.take_succ_cons List.take_zero List.take_nil List.drop_succ_cons List.drop_zero List.drop_nil List.cons_append List.nil_append List.append_nil List.set_cons_zero List.set_cons_succ Nat.zero_add forall_const true_and and_true and_self Bool.false_eq_true false_implies true_implies implies_true Bool.not_true Bool.not_false Bool.not_eq_true' Bool.not_eq_false' beq_self_eq_true Bool.bne_true Bool.bne_false
attribute [local go_sem] lenI lenS lenP lenQ lenB lenL lenT encI_0 encS_0 encP_0 encP_1 encQ_0 encQ_1 encQ_2 encQ_3 encB_0 encB_1 encL_0 encL_1 encT_0 encT_1
attribute [local go_sem low] whenA_bool guardH_bool
/-! laws.FnWrappedSignature -/
def L9_0 : List AStep := [⟨.mov (.c (.bool false)), (some 2), none, []⟩]
theorem v9_0 : VS L9_0.eq_1 := rfl
def L9_1 : List AStep := [⟨.bin .gtr (.t 11) (.c (.int .i64 1048576)), (some 12), none, []⟩]
theorem v9_1 : VS L9_1.eq_1 := rfl
def L9_2 : List AStep := ⟨.mov (.t 0), (some 10), none, []⟩ :: ⟨.len (.t 10), (some 11), none, []⟩ :: L9_1
theorem v9_2 : VS L9_2.eq_1 := rfl
def L9_3 : List AStep := [⟨.mov (.c (.bool true)), (some 2), none, []⟩]
theorem v9_3 : VS L9_3.eq_1 := rfl
def L9_4 : List AStep := [⟨.store 1 (.t 4) (.t 17), none, none, []⟩, ⟨.store 2 (.t 5) (.t 18), none, none, []⟩]
theorem v9_4 : VS L9_4.eq_1 := rfl
def L9_5 : List AStep := ⟨.alloc 29 [(.sl none 0 (some 0)), (.sl none 0 (some 0))], (some 5), none, []⟩ :: ⟨.store 1 (.t 3) (.t 16), none, none, []⟩ :: L9_4
theorem v9_5 : VS L9_5.eq_1 := rfl
def L9_6 : List AStep := ⟨.alloc 25 [(.sl none 0 (some 0))], (some 3), none, []⟩ :: ⟨.alloc 25 [(.sl none 0 (some 0))], (some 4), none, []⟩ :: L9_5
theorem v9_6 : VS L9_6.eq_1 := rfl
def L9_7 : List AStep := ⟨.extract (.t 13) 1, (some 17), none, []⟩ :: ⟨.extract (.t 13) 2, (some 18), none, []⟩ :: L9_6
theorem v9_7 : VS L9_7.eq_1 := rfl
def L9_8 : List AStep := ⟨.mov (.t 15), (some 13), none, []⟩ :: ⟨.extract (.t 13) 0, (some 16), none, []⟩ :: L9_7
theorem v9_8 : VS L9_8.eq_1 := rfl
def L9_9 : List AStep := ⟨.mov (.t 0), (some 14), none, []⟩ :: ⟨.call 38 [(.t 14)], (some 15), none, []⟩ :: L9_8
theorem v9_9 : VS L9_9.eq_1 := rfl
def L9_10 : List AStep := [⟨.mov (.t 24), (some 7), none, []⟩]
theorem v9_10 : VS L9_10.eq_1 := rfl
def L9_11 : List AStep := ⟨.alloc 25 [(.sl none 0 (some 0))], (some 6), none, []⟩ :: ⟨.store 1 (.t 6) (.t 23), none, none, []⟩ :: L9_10
theorem v9_11 : VS L9_11.eq_1 := rfl
def L9_12 : List AStep := ⟨.extract (.t 19) 0, (some 23), none, []⟩ :: ⟨.extract (.t 19) 1, (some 24), none, []⟩ :: L9_11
theorem v9_12 : VS L9_12.eq_1 := rfl
def L9_13 : List AStep := ⟨.call 39 [(.t 20), (.t 21)], (some 22), none, []⟩ :: ⟨.mov (.t 22), (some 19), none, []⟩ :: L9_12
theorem v9_13 : VS L9_13.eq_1 := rfl
def L9_14 : List AStep := ⟨.load 1 true (.t 3), (some 20), none, []⟩ :: ⟨.load 1 true (.t 4), (some 21), none, []⟩ :: L9_13
theorem v9_14 : VS L9_14.eq_1 := rfl
def L9_15 : List AStep := [⟨.mov (.t 30), (some 9), none, []⟩]
theorem v9_15 : VS L9_15.eq_1 := rfl
def L9_16 : List AStep := ⟨.alloc 25 [(.sl none 0 (some 0))], (some 8), none, []⟩ :: ⟨.store 1 (.t 8) (.t 29), none, none, []⟩ :: L9_15
theorem v9_16 : VS L9_16.eq_1 := rfl
def L9_17 : List AStep := ⟨.extract (.t 25) 0, (some 29), none, []⟩ :: ⟨.extract (.t 25) 1, (some 30), none, []⟩ :: L9_16
theorem v9_17 : VS L9_17.eq_1 := rfl
def L9_18 : List AStep := ⟨.call 40 [(.t 26), (.t 27)], (some 28), none, []⟩ :: ⟨.mov (.t 28), (some 25), none, []⟩ :: L9_17
theorem v9_18 : VS L9_18.eq_1 := rfl
def L9_19 : List AStep := ⟨.load 1 true (.t 3), (some 26), none, []⟩ :: ⟨.load 1 true (.t 4), (some 27), none, []⟩ :: L9_18
theorem v9_19 : VS L9_19.eq_1 := rfl
def L9_20 : List AStep := [⟨.not (.t 46), (some 47), (some (44, false)), []⟩, ⟨.pick (.t 44) (.c (.bool true)) (.t 47), (some 48), none, []⟩]
theorem v9_20 : VS L9_20.eq_1 := rfl
def L9_21 : List AStep := ⟨.load 2 true (.t 5), (some 45), (some (44, false)), []⟩ :: ⟨.call 32 [(.t 45)], (some 46), (some (44, false)), []⟩ :: L9_20
theorem v9_21 : VS L9_21.eq_1 := rfl
def L9_22 : List AStep := ⟨.pick (.t 40) (.c (.bool true)) (.t 42), (some 43), none, []⟩ :: ⟨.mov (.t 43), (some 44), none, []⟩ :: L9_21
theorem v9_22 : VS L9_22.eq_1 := rfl
def L9_23 : List AStep := ⟨.mov (.t 7), (some 41), (some (40, false)), []⟩ :: ⟨.not (.t 41), (some 42), (some (40, false)), []⟩ :: L9_22
theorem v9_23 : VS L9_23.eq_1 := rfl
def L9_24 : List AStep := ⟨.pick (.t 35) (.c (.bool true)) (.t 38), (some 39), none, []⟩ :: ⟨.mov (.t 39), (some 40), none, []⟩ :: L9_23
theorem v9_24 : VS L9_24.eq_1 := rfl
def L9_25 : List AStep := ⟨.mov (.t 9), (some 37), (some (35, false)), []⟩ :: ⟨.eqb true (.t 36) (.t 37), (some 38), (some (35, false)), []⟩ :: L9_24
theorem v9_25 : VS L9_25.eq_1 := rfl
def L9_26 : List AStep := ⟨.mov (.t 34), (some 35), none, []⟩ :: ⟨.mov (.t 7), (some 36), (some (35, false)), []⟩ :: L9_25
theorem v9_26 : VS L9_26.eq_1 := rfl
def L9_27 : List AStep := ⟨.call 15 [(.t 31), (.t 32)], (some 33), none, []⟩ :: ⟨.not (.t 33), (some 34), none, []⟩ :: L9_26
theorem v9_27 : VS L9_27.eq_1 := rfl
def L9_28 : List AStep := ⟨.load 1 true (.t 6), (some 31), none, []⟩ :: ⟨.load 1 true (.t 8), (some 32), none, []⟩ :: L9_27
theorem v9_28 : VS L9_28.eq_1 := rfl
def L9_29 : List AStep := [⟨.mov (.t 56), (some 2), none, []⟩]
theorem v9_29 : VS L9_29.eq_1 := rfl
def L9_30 : List AStep := ⟨.eqb false (.t 53) (.t 54), (some 55), (some (52, true)), []⟩ :: ⟨.pick (.t 52) (.t 55) (.c (.bool false)), (some 56), none, []⟩ :: L9_29
theorem v9_30 : VS L9_30.eq_1 := rfl
def L9_31 : List AStep := ⟨.mov (.t 7), (some 53), (some (52, true)), []⟩ :: ⟨.mov (.t 9), (some 54), (some (52, true)), []⟩ :: L9_30
theorem v9_31 : VS L9_31.eq_1 := rfl
def L9_32 : List AStep := ⟨.call 15 [(.t 49), (.t 50)], (some 51), none, []⟩ :: ⟨.mov (.t 51), (some 52), none, []⟩ :: L9_31
theorem v9_32 : VS L9_32.eq_1 := rfl
def L9_33 : List AStep := ⟨.load 1 true (.t 6), (some 49), none, []⟩ :: ⟨.load 1 true (.t 8), (some 50), none, []⟩ :: L9_32
theorem v9_33 : VS L9_33.eq_1 := rfl
def L9_34 : List AStep := [⟨.mov (.t 64), (some 2), none, []⟩]
theorem v9_34 : VS L9_34.eq_1 := rfl
def L9_35 : List AStep := ⟨.call 41 [(.t 60), (.t 61), (.t 62)], (some 63), none, []⟩ :: ⟨.eqb false (.t 59) (.t 63), (some 64), none, []⟩ :: L9_34
theorem v9_35 : VS L9_35.eq_1 := rfl
def L9_36 : List AStep := ⟨.load 2 true (.t 5), (some 62), none, []⟩ :: ⟨.call 18 [(.t 57), (.t 58)], (some 59), none, [(.load 1 true (.t 3), (some 60), none), (.load 1 true (.t 4), (some 61), none), (.load 2 true (.t 5), (some 62), none)]⟩ :: L9_35
theorem v9_36 : VS L9_36.eq_1 := rfl
def L9_37 : List AStep := ⟨.load 1 true (.t 3), (some 60), none, []⟩ :: ⟨.load 1 true (.t 4), (some 61), none, []⟩ :: L9_36
theorem v9_37 : VS L9_37.eq_1 := rfl
def L9_38 : List AStep := ⟨.load 1 true (.t 6), (some 57), none, []⟩ :: ⟨.load 2 true (.t 5), (some 58), none, []⟩ :: L9_37
theorem v9_38 : VS L9_38.eq_1 := rfl
def C9_0 : ACode := .seq (.reg L9_3) .ret
theorem u9_0 : VC C9_0.eq_1 := rfl
def C9_1 : ACode := .cond (.t 12) C9_0 .skip
theorem u9_1 : VC C9_1.eq_1 := rfl
def C9_2 : ACode := .seq (.reg L9_2) C9_1
theorem u9_2 : VC C9_2.eq_1 := rfl
def C9_3 : ACode := .seq (.reg L9_33) .ret
theorem u9_3 : VC C9_3.eq_1 := rfl
def C9_4 : ACode := .cond (.t 48) C9_3 .skip
theorem u9_4 : VC C9_4.eq_1 := rfl
def C9_5 : ACode := .seq (.reg L9_28) C9_4
theorem u9_5 : VC C9_5.eq_1 := rfl
def C9_6 : ACode := .seq (.reg L9_38) .ret
theorem u9_6 : VC C9_6.eq_1 := rfl
def C9_7 : ACode := .seq C9_5 C9_6
theorem u9_7 : VC C9_7.eq_1 := rfl
def C9_8 : ACode := .seq (.reg L9_19) C9_7
theorem u9_8 : VC C9_8.eq_1 := rfl
def C9_9 : ACode := .seq (.reg L9_14) C9_8
theorem u9_9 : VC C9_9.eq_1 := rfl
def C9_10 : ACode := .seq (.reg L9_9) C9_9
theorem u9_10 : VC C9_10.eq_1 := rfl
def C9_11 : ACode := .seq C9_2 C9_10
theorem u9_11 : VC C9_11.eq_1 := rfl
def C9_12 : ACode := .seq (.reg L9_0) C9_11
theorem u9_12 : VC C9_12.eq_1 := rfl
def F9 : AFunc := ⟨65, [.tmp 2], C9_12⟩
theorem cF9 : compB Try.prog 9 = some F9 := by kernel_rfl
attribute [local go_sem ↓] u9_0 u9_1 u9_2 u9_3 u9_4 u9_5 u9_6 u9_7 u9_8 u9_9 u9_10 u9_11 u9_12 v9_0 v9_1 v9_2 v9_3 v9_4 v9_5 v9_6 v9_7 v9_8 v9_9 v9_10 v9_11 v9_12 v9_13 v9_14 v9_15 v9_16 v9_17 v9_18 v9_19 v9_20 v9_21 v9_22 v9_23 v9_24 v9_25 v9_26 v9_27 v9_28 v9_29 v9_30 v9_31 v9_32 v9_33 v9_34 v9_35 v9_36 v9_37 v9_38
theorem law9 (h : H) (avs : List AV) (hok : okVs Try.prog h 6 [ 22 ] avs) : callK (bm Try.prog 9 avs h) fun r _ => r = ib true := by
  obtain ⟨v0, avs, rfl, hv0, hok⟩ := okVs_cons hok
  obtain rfl := okVs_nil hok
  obtain ⟨v, code, rfl, s0, hc, k0⟩ := dBytes hv0
  refine bm_of cF9 ?_
  cases b0 : decide ((code.length : Int) > 1048576) with
  | true => simp +contextual (maxSteps := 2000000) only [go_sem, Nat.reduceEqDiff, reduceCtorEq, Nat.reduceAdd, Nat.reduceLeDiff, F9, s0.len, b0]
  | false =>
  simp +contextual (maxSteps := 2000000) only [go_sem, Nat.reduceEqDiff, reduceCtorEq, Nat.reduceAdd, Nat.reduceLeDiff, F9, s0.len, b0]
  refine wp_call (c_drawAcceptsWrapped code v h s0 hc) ?_
  rintro q h1 ⟨g1, x, x2, u, w, l, m, f, rfl, sg, sm, sf, tl, tm, mf⟩
  have ml := tl.mini
  have mm := tm.mini
  simp +contextual (maxSteps := 2000000) only [go_sem, Nat.reduceEqDiff, reduceCtorEq, Nat.reduceAdd, Nat.reduceLeDiff]
  refine wp_call (k_iWrappedSignature l m x x2 h1 sg sm ml mm) ?_
  rintro r h2 ⟨g2, c, rfl, y⟩
  simp +contextual (maxSteps := 2000000) only [go_sem, Nat.reduceEqDiff, reduceCtorEq, Nat.reduceAdd, Nat.reduceLeDiff]
  refine wp_call (k_sWrappedSignature l m x x2 h2 (sg.grow g2) (sm.grow g2) ml mm) ?_
  rintro r h3 ⟨g3, c2, rfl, y2⟩
  have sg := sg.grow (g2.trans g3)
  have sm := sm.grow (g2.trans g3)
  have sf := sf.grow (g2.trans g3)
  have so : SlG h3 c (wrapSig l m) := ⟨(y.sl lenQ).grow g3⟩
  have mw : miniG (wrapSig l m) := .wrapSig
  have eq : bm Try.prog 15 [.agg [c], .agg [c2]] h3 = some (ib true, h3) := by
    have := c_equalSignature (wrapSig l m) (wrapSig l m) c c2 h3 so.out (y2.sl lenQ) (Nat.le_trans mw.len (by decide))
    rwa [decide_eq_true rfl] at this
  have ebb : ∀ b : Bool, (b == b) = true := fun b => by cases b <;> rfl
  have enb : ∀ b : Bool, (!(b == b)) = false := fun b => by cases b <;> rfl
  have ev := c_ValidFlat f u w h3 sf.pl sf.nl mf.sm
  cases b1 : wrapOk l m with
  | false =>
    simp +contextual (maxSteps := 2000000) only [go_sem, Nat.reduceEqDiff, reduceCtorEq, Nat.reduceAdd, Nat.reduceLeDiff, eq, ebb, enb]
    exact gcK_of rfl (fun _ _ => rfl)
  | true =>
  cases b2 : okFlat f with
  | false =>
    rw [b2] at ev
    simp +contextual (maxSteps := 2000000) only [go_sem, Nat.reduceEqDiff, reduceCtorEq, Nat.reduceAdd, Nat.reduceLeDiff, eq, ebb, enb, ev]
    exact gcK_of rfl (fun _ _ => rfl)
  | true =>
  rw [b2] at ev
  have e1 := k_iAccepts (wrapSig l m) f c u w h3 so sf mw mf
  rw [wrap_accepts b1 b2] at e1
  have e2 := k_iAcceptsWrapped l m f x x2 u w h3 sg sm sf ml mm mf
  simp +contextual (maxSteps := 2000000) only [go_sem, Nat.reduceEqDiff, reduceCtorEq, Nat.reduceAdd, Nat.reduceLeDiff, eq, ebb, enb, ev, e1, e2]
  try exact gcK_of rfl (fun _ _ => rfl)
end Go.Proofs.Ytekkimfdcbgcoab.Am
