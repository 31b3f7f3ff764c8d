/- The law FnFullFlat. -/
import Derived.Test.YtekkimfdcbgcoacPF
import Derived.Test.YtekkimfdcbgcoacDY
namespace Go.Proofs.Ytekkimfdcbgcoac.Am
open Go
attribute [local go_sem] loadL_agg
set_option maxRecDepth 100000
set_option maxHeartbeats 4000000
set_option linter.unusedSimpArgs false
set_option linter.unusedVariables false
attribute [local go_sem ↓] bv_t bv_c ev_t ev_c put_same put_ne put_none kill_at pro_at lb_same lb_ne start_zero start_succ wpC_seq wpC_reg wpC_cond wpC_block wpC_skip wpC_exit wpC_ret thenQ_normal thenQ_exit thenQ_ret inBlk_normal inBlk_exit inBlk_ret wpS_nil wpS_step wpS_again wpS_guard wpO_mov wpO_load wpO_faddr wpO_nilCheck wpO_pick wpO_build wpO_bin wpO_eqb wpO_eqst wpO_eqnil wpO_not wpO_conv wpO_bytesStr wpO_iaddr wpO_idxStr wpO_field wpO_extract wpO_len wpO_lenStr wpO_cap wpO_min wpO_slice wpO_sliceStr wpO_alloc wpO_box wpO_store wpO_call wpO_callv wpO_mkfn wpO_buildSlice wpO_mkslice wpO_append wpO_appz proA_nil proA_cons tmpX_nil tmpX_tmp tmpX_cell doneB_normal doneB_ret agK_cons agK_nil agK_guard agG_tt agG_ff agG_tf agG_ft agG_undef pureB_load results_one results_two results_nil resBs_cons resBs_nil resB_tmp resB_cell
attribute [local go_sem] kill_v kill_lp_ne kill_lp_same pro_v pro_lp_same pro_lp_ne av_v av_lp optB_some optX_some valX_eq ldX_lp ldX_v faX_lp faX_v ncX_lp ncX_ptr ncX_fn boxK_one boxK_agg stL_some stK_lp_one stK_lp_agg stK_v_one stK_v_agg proM_v proM_lp callG_mk callVG_mk callvK_fn fnG_mk ptrsA_nil ptrsA_cons callH_some whenA_true whenA_false guardH_tt guardH_ff guardH_tf guardH_ft guardH_undef agV_one agV_agg lenO_sl lenStrO_str notO_bool pickO_bool convO_int eqbO_bool eqnilO_sl extractO_tup capO_sl minO_int loadL_one loadL_all storeL_eq fillA_nil fillA_one fillA_agg nat_ge neg_ge nat_lt neg_lt buildO bin_add bin_sub bin_mul bin_eql bin_neq bin_lss bin_leq bin_gtr bin_geq str_eql str_neq str_lss str_leq str_gtr str_geq retK_some endK_mk gcK_same gcK_int gcK_bool tupO_one tupO_agg rdy_self ib ii Option.map_none Option.map_some Option.some.injEq exists_eq_left' exists_eq_left ne_eq not_false_eq_true if_true if_false List.map_cons List.map_nil List.getElem?_cons_zero List.getElem?_cons_succ List.length_cons List.length_nil List.take_succ_cons List.take_zero List.take_nil List.drop_succ_cons List.drop_zero List.drop_nil List.cons_append List.nil_append List.append_nil List.set_cons_zero List.set_cons_succ Nat.zero_add forall_const true_and and_true and_self Bool.false_eq_true false_implies true_implies implies_true Bool.not_true Bool.not_false Bool.not_eq_true' Bool.not_eq_false' beq_self_eq_true Bool.bne_true Bool.bne_false
attribute [local go_sem] lenI lenS lenP lenQ lenB lenL lenT encI_0 encS_0 encP_0 encP_1 encQ_0 encQ_1 encQ_2 encQ_3 encB_0 encB_1 encL_0 encL_1 encT_0 encT_1
attribute [local go_sem low] whenA_bool guardH_bool
/-! laws.FnFullFlat -/
def L7_0 : List AStep := [⟨.mov (.c (.bool false)), (some 2), none, []⟩]
theorem v7_0 : VS L7_0.eq_1 := rfl
def L7_1 : List AStep := [⟨.bin .gtr (.t 14) (.c (.int .i64 1048576)), (some 15), none, []⟩]
theorem v7_1 : VS L7_1.eq_1 := rfl
def L7_2 : List AStep := ⟨.mov (.t 0), (some 13), none, []⟩ :: ⟨.len (.t 13), (some 14), none, []⟩ :: L7_1
theorem v7_2 : VS L7_2.eq_1 := rfl
def L7_3 : List AStep := [⟨.mov (.c (.bool true)), (some 2), none, []⟩]
theorem v7_3 : VS L7_3.eq_1 := rfl
def L7_4 : List AStep := [⟨.store 2 (.t 4) (.t 20), none, none, []⟩]
theorem v7_4 : VS L7_4.eq_1 := rfl
def L7_5 : List AStep := ⟨.alloc 29 [(.sl none 0 (some 0)), (.sl none 0 (some 0))], (some 4), none, []⟩ :: ⟨.store 3 (.t 3) (.t 19), none, none, []⟩ :: L7_4
theorem v7_5 : VS L7_5.eq_1 := rfl
def L7_6 : List AStep := ⟨.extract (.t 16) 1, (some 20), none, []⟩ :: ⟨.alloc 31 [(.sl none 0 (some 0)), (.sl none 0 (some 0)), (.sl none 0 (some 0))], (some 3), none, []⟩ :: L7_5
theorem v7_6 : VS L7_6.eq_1 := rfl
def L7_7 : List AStep := ⟨.mov (.t 18), (some 16), none, []⟩ :: ⟨.extract (.t 16) 0, (some 19), none, []⟩ :: L7_6
theorem v7_7 : VS L7_7.eq_1 := rfl
def L7_8 : List AStep := ⟨.mov (.t 0), (some 17), none, []⟩ :: ⟨.call 34 [(.t 17)], (some 18), none, []⟩ :: L7_7
theorem v7_8 : VS L7_8.eq_1 := rfl
def L7_9 : List AStep := [⟨.mov (.t 26), (some 6), none, []⟩]
theorem v7_9 : VS L7_9.eq_1 := rfl
def L7_10 : List AStep := ⟨.alloc 29 [(.sl none 0 (some 0)), (.sl none 0 (some 0))], (some 5), none, []⟩ :: ⟨.store 2 (.t 5) (.t 25), none, none, []⟩ :: L7_9
theorem v7_10 : VS L7_10.eq_1 := rfl
def L7_11 : List AStep := ⟨.extract (.t 21) 0, (some 25), none, []⟩ :: ⟨.extract (.t 21) 1, (some 26), none, []⟩ :: L7_10
theorem v7_11 : VS L7_11.eq_1 := rfl
def L7_12 : List AStep := ⟨.call 35 [(.t 22), (.t 23)], (some 24), none, []⟩ :: ⟨.mov (.t 24), (some 21), none, []⟩ :: L7_11
theorem v7_12 : VS L7_12.eq_1 := rfl
def L7_13 : List AStep := ⟨.load 3 true (.t 3), (some 22), none, []⟩ :: ⟨.load 2 true (.t 4), (some 23), none, []⟩ :: L7_12
theorem v7_13 : VS L7_13.eq_1 := rfl
def L7_14 : List AStep := [⟨.mov (.t 32), (some 8), none, []⟩]
theorem v7_14 : VS L7_14.eq_1 := rfl
def L7_15 : List AStep := ⟨.alloc 29 [(.sl none 0 (some 0)), (.sl none 0 (some 0))], (some 7), none, []⟩ :: ⟨.store 2 (.t 7) (.t 31), none, none, []⟩ :: L7_14
theorem v7_15 : VS L7_15.eq_1 := rfl
def L7_16 : List AStep := ⟨.extract (.t 27) 0, (some 31), none, []⟩ :: ⟨.extract (.t 27) 1, (some 32), none, []⟩ :: L7_15
theorem v7_16 : VS L7_16.eq_1 := rfl
def L7_17 : List AStep := ⟨.call 36 [(.t 28), (.t 29)], (some 30), none, []⟩ :: ⟨.mov (.t 30), (some 27), none, []⟩ :: L7_16
theorem v7_17 : VS L7_17.eq_1 := rfl
def L7_18 : List AStep := ⟨.load 3 true (.t 3), (some 28), none, []⟩ :: ⟨.load 2 true (.t 4), (some 29), none, []⟩ :: L7_17
theorem v7_18 : VS L7_18.eq_1 := rfl
def L7_19 : List AStep := [⟨.pick (.t 42) (.c (.bool true)) (.t 44), (some 45), none, []⟩]
theorem v7_19 : VS L7_19.eq_1 := rfl
def L7_20 : List AStep := ⟨.mov (.t 6), (some 43), (some (42, false)), []⟩ :: ⟨.not (.t 43), (some 44), (some (42, false)), []⟩ :: L7_19
theorem v7_20 : VS L7_20.eq_1 := rfl
def L7_21 : List AStep := ⟨.pick (.t 37) (.c (.bool true)) (.t 40), (some 41), none, []⟩ :: ⟨.mov (.t 41), (some 42), none, []⟩ :: L7_20
theorem v7_21 : VS L7_21.eq_1 := rfl
def L7_22 : List AStep := ⟨.mov (.t 8), (some 39), (some (37, false)), []⟩ :: ⟨.eqb true (.t 38) (.t 39), (some 40), (some (37, false)), []⟩ :: L7_21
theorem v7_22 : VS L7_22.eq_1 := rfl
def L7_23 : List AStep := ⟨.mov (.t 36), (some 37), none, []⟩ :: ⟨.mov (.t 6), (some 38), (some (37, false)), []⟩ :: L7_22
theorem v7_23 : VS L7_23.eq_1 := rfl
def L7_24 : List AStep := ⟨.call 37 [(.t 33), (.t 34)], (some 35), none, []⟩ :: ⟨.not (.t 35), (some 36), none, []⟩ :: L7_23
theorem v7_24 : VS L7_24.eq_1 := rfl
def L7_25 : List AStep := ⟨.load 2 true (.t 5), (some 33), none, []⟩ :: ⟨.load 2 true (.t 7), (some 34), none, []⟩ :: L7_24
theorem v7_25 : VS L7_25.eq_1 := rfl
def L7_26 : List AStep := [⟨.mov (.t 53), (some 2), none, []⟩]
theorem v7_26 : VS L7_26.eq_1 := rfl
def L7_27 : List AStep := ⟨.eqb false (.t 50) (.t 51), (some 52), (some (49, true)), []⟩ :: ⟨.pick (.t 49) (.t 52) (.c (.bool false)), (some 53), none, []⟩ :: L7_26
theorem v7_27 : VS L7_27.eq_1 := rfl
def L7_28 : List AStep := ⟨.mov (.t 6), (some 50), (some (49, true)), []⟩ :: ⟨.mov (.t 8), (some 51), (some (49, true)), []⟩ :: L7_27
theorem v7_28 : VS L7_28.eq_1 := rfl
def L7_29 : List AStep := ⟨.call 37 [(.t 46), (.t 47)], (some 48), none, []⟩ :: ⟨.mov (.t 48), (some 49), none, []⟩ :: L7_28
theorem v7_29 : VS L7_29.eq_1 := rfl
def L7_30 : List AStep := ⟨.load 2 true (.t 5), (some 46), none, []⟩ :: ⟨.load 2 true (.t 7), (some 47), none, []⟩ :: L7_29
theorem v7_30 : VS L7_30.eq_1 := rfl
def L7_31 : List AStep := [⟨.store 2 (.t 9) (.t 59), none, none, []⟩, ⟨.mov (.t 60), (some 10), none, []⟩]
theorem v7_31 : VS L7_31.eq_1 := rfl
def L7_32 : List AStep := ⟨.extract (.t 54) 1, (some 60), none, []⟩ :: ⟨.alloc 29 [(.sl none 0 (some 0)), (.sl none 0 (some 0))], (some 9), none, []⟩ :: L7_31
theorem v7_32 : VS L7_32.eq_1 := rfl
def L7_33 : List AStep := ⟨.mov (.t 58), (some 54), none, []⟩ :: ⟨.extract (.t 54) 0, (some 59), none, []⟩ :: L7_32
theorem v7_33 : VS L7_33.eq_1 := rfl
def L7_34 : List AStep := ⟨.load 2 true (.t 4), (some 57), none, []⟩ :: ⟨.call 38 [(.t 56), (.t 57)], (some 58), none, []⟩ :: L7_33
theorem v7_34 : VS L7_34.eq_1 := rfl
def L7_35 : List AStep := ⟨.faddr 1 (.t 3), (some 55), none, []⟩ :: ⟨.load 2 true (.t 55), (some 56), none, []⟩ :: L7_34
theorem v7_35 : VS L7_35.eq_1 := rfl
def L7_36 : List AStep := [⟨.mov (.t 66), (some 12), none, []⟩]
theorem v7_36 : VS L7_36.eq_1 := rfl
def L7_37 : List AStep := ⟨.alloc 29 [(.sl none 0 (some 0)), (.sl none 0 (some 0))], (some 11), none, []⟩ :: ⟨.store 2 (.t 11) (.t 65), none, none, []⟩ :: L7_36
theorem v7_37 : VS L7_37.eq_1 := rfl
def L7_38 : List AStep := ⟨.extract (.t 61) 0, (some 65), none, []⟩ :: ⟨.extract (.t 61) 1, (some 66), none, []⟩ :: L7_37
theorem v7_38 : VS L7_38.eq_1 := rfl
def L7_39 : List AStep := ⟨.call 35 [(.t 62), (.t 63)], (some 64), none, []⟩ :: ⟨.mov (.t 64), (some 61), none, []⟩ :: L7_38
theorem v7_39 : VS L7_39.eq_1 := rfl
def L7_40 : List AStep := ⟨.load 3 true (.t 3), (some 62), none, []⟩ :: ⟨.build [(.sl none 0 (some 0)), (.sl none 0 (some 0))] [], (some 63), none, []⟩ :: L7_39
theorem v7_40 : VS L7_40.eq_1 := rfl
def L7_41 : List AStep := [⟨.pick (.t 76) (.t 80) (.c (.bool false)), (some 81), none, []⟩, ⟨.mov (.t 81), (some 2), none, []⟩]
theorem v7_41 : VS L7_41.eq_1 := rfl
def L7_42 : List AStep := ⟨.load 2 true (.t 78), (some 79), (some (76, true)), []⟩ :: ⟨.call 37 [(.t 77), (.t 79)], (some 80), (some (76, true)), []⟩ :: L7_41
theorem v7_42 : VS L7_42.eq_1 := rfl
def L7_43 : List AStep := ⟨.load 2 true (.t 11), (some 77), (some (76, true)), []⟩ :: ⟨.faddr 1 (.t 3), (some 78), (some (76, true)), []⟩ :: L7_42
theorem v7_43 : VS L7_43.eq_1 := rfl
def L7_44 : List AStep := ⟨.pick (.t 73) (.t 74) (.c (.bool false)), (some 75), none, []⟩ :: ⟨.mov (.t 75), (some 76), none, []⟩ :: L7_43
theorem v7_44 : VS L7_44.eq_1 := rfl
def L7_45 : List AStep := ⟨.mov (.t 72), (some 73), none, []⟩ :: ⟨.mov (.t 12), (some 74), (some (73, true)), []⟩ :: L7_44
theorem v7_45 : VS L7_45.eq_1 := rfl
def L7_46 : List AStep := ⟨.call 37 [(.t 69), (.t 70)], (some 71), (some (68, true)), []⟩ :: ⟨.pick (.t 68) (.t 71) (.c (.bool false)), (some 72), none, []⟩ :: L7_45
theorem v7_46 : VS L7_46.eq_1 := rfl
def L7_47 : List AStep := ⟨.load 2 true (.t 5), (some 69), (some (68, true)), []⟩ :: ⟨.load 2 true (.t 9), (some 70), (some (68, true)), []⟩ :: L7_46
theorem v7_47 : VS L7_47.eq_1 := rfl
def L7_48 : List AStep := ⟨.mov (.t 10), (some 67), none, []⟩ :: ⟨.mov (.t 67), (some 68), none, []⟩ :: L7_47
theorem v7_48 : VS L7_48.eq_1 := rfl
def C7_0 : ACode := .seq (.reg L7_3) .ret
theorem u7_0 : VC C7_0.eq_1 := rfl
def C7_1 : ACode := .cond (.t 15) C7_0 .skip
theorem u7_1 : VC C7_1.eq_1 := rfl
def C7_2 : ACode := .seq (.reg L7_2) C7_1
theorem u7_2 : VC C7_2.eq_1 := rfl
def C7_3 : ACode := .seq (.reg L7_30) .ret
theorem u7_3 : VC C7_3.eq_1 := rfl
def C7_4 : ACode := .cond (.t 45) C7_3 .skip
theorem u7_4 : VC C7_4.eq_1 := rfl
def C7_5 : ACode := .seq (.reg L7_25) C7_4
theorem u7_5 : VC C7_5.eq_1 := rfl
def C7_6 : ACode := .seq (.reg L7_48) .ret
theorem u7_6 : VC C7_6.eq_1 := rfl
def C7_7 : ACode := .seq (.reg L7_40) C7_6
theorem u7_7 : VC C7_7.eq_1 := rfl
def C7_8 : ACode := .seq (.reg L7_35) C7_7
theorem u7_8 : VC C7_8.eq_1 := rfl
def C7_9 : ACode := .seq C7_5 C7_8
theorem u7_9 : VC C7_9.eq_1 := rfl
def C7_10 : ACode := .seq (.reg L7_18) C7_9
theorem u7_10 : VC C7_10.eq_1 := rfl
def C7_11 : ACode := .seq (.reg L7_13) C7_10
theorem u7_11 : VC C7_11.eq_1 := rfl
def C7_12 : ACode := .seq (.reg L7_8) C7_11
theorem u7_12 : VC C7_12.eq_1 := rfl
def C7_13 : ACode := .seq C7_2 C7_12
theorem u7_13 : VC C7_13.eq_1 := rfl
def C7_14 : ACode := .seq (.reg L7_0) C7_13
theorem u7_14 : VC C7_14.eq_1 := rfl
def F7 : AFunc := ⟨82, [.tmp 2], C7_14⟩
theorem cF7 : compB Try.prog 7 = some F7 := by kernel_rfl
attribute [local go_sem ↓] u7_0 u7_1 u7_2 u7_3 u7_4 u7_5 u7_6 u7_7 u7_8 u7_9 u7_10 u7_11 u7_12 u7_13 u7_14 v7_0 v7_1 v7_2 v7_3 v7_4 v7_5 v7_6 v7_7 v7_8 v7_9 v7_10 v7_11 v7_12 v7_13 v7_14 v7_15 v7_16 v7_17 v7_18 v7_19 v7_20 v7_21 v7_22 v7_23 v7_24 v7_25 v7_26 v7_27 v7_28 v7_29 v7_30 v7_31 v7_32 v7_33 v7_34 v7_35 v7_36 v7_37 v7_38 v7_39 v7_40 v7_41 v7_42 v7_43 v7_44 v7_45 v7_46 v7_47 v7_48
theorem law7 (h : H) (avs : List AV) (hok : okVs Try.prog h 6 [ 22 ] avs) : callK (bm Try.prog 7 avs h) fun r _ => r = ib true := by
  obtain ⟨v0, avs, rfl, hv0, hok⟩ := okVs_cons hok
  obtain rfl := okVs_nil hok
  obtain ⟨v, code, rfl, s0, hc, k0⟩ := dBytes hv0
  refine bm_of cF7 ?_
  cases b0 : decide ((code.length : Int) > 1048576) with
  | true => simp +contextual (maxSteps := 2000000) only [go_sem, Nat.reduceEqDiff, reduceCtorEq, Nat.reduceAdd, Nat.reduceLeDiff, F7, s0.len, b0]
  | false =>
  simp +contextual (maxSteps := 2000000) only [go_sem, Nat.reduceEqDiff, reduceCtorEq, Nat.reduceAdd, Nat.reduceLeDiff, F7, s0.len, b0]
  refine wp_call (c_drawFullFlat code v h s0 hc) ?_
  rintro q h1 ⟨g1, u, x, y, c, d, l, f, g, rfl, sq, sf, sg, tl, mf, mg⟩
  have sd : SlD h1 u x y ⟨l, f⟩ := ⟨⟨sq⟩, sf⟩
  have md : miniD ⟨l, f⟩ := ⟨tl.mini, mf⟩
  simp +contextual (maxSteps := 2000000) only [go_sem, Nat.reduceEqDiff, reduceCtorEq, Nat.reduceAdd, Nat.reduceLeDiff]
  refine wp_call (k_iFullFlat ⟨l, f⟩ g u x y c d h1 sd sg md mg) ?_
  rintro r h2 ⟨g2, c2, d2, rfl, z2⟩
  have sd2 : SlD h2 u x y ⟨l, f⟩ := ⟨sd.g.grow g2, sd.f.grow g2⟩
  have sg2 := sg.grow g2
  simp +contextual (maxSteps := 2000000) only [go_sem, Nat.reduceEqDiff, reduceCtorEq, Nat.reduceAdd, Nat.reduceLeDiff]
  refine wp_call (k_sFullFlat ⟨l, f⟩ g u x y c d h2 sd2 sg2 md mg) ?_
  rintro r h3 ⟨g3, c3, d3, rfl, z3⟩
  have sd3 : SlD h3 u x y ⟨l, f⟩ := ⟨sd2.g.grow g3, sd2.f.grow g3⟩
  have sg3 := sg2.grow g3
  have so := z2.sl.grow g3
  have mF : miniF (orF (FullF l f g)) := .full
  have eqs : ∀ (h' : H) (p q r s : CV) (F : Flat), miniF F → SlF h' p q F → SlF h' r s F → bm Try.prog 37 [.agg [p, q], .agg [r, s]] h' = some (ib true, h') := fun h' p q r s F mF a b => by
    have := c_equalFlat F F p q r s h' a.pl a.nl b.pl b.nl (Nat.le_trans mF.pl (by decide)) (Nat.le_trans mF.nl (by decide))
    rwa [decide_eq_true rfl] at this
  have eq := eqs h3 c2 d2 c3 d3 _ mF so z3.sl
  have ebb : ∀ b : Bool, (b == b) = true := fun b => by cases b <;> rfl
  have enb : ∀ b : Bool, (!(b == b)) = false := fun b => by cases b <;> rfl
  cases b1 : (FullF l f g).isSome with
  | false =>
    simp +contextual (maxSteps := 2000000) only [go_sem, Nat.reduceEqDiff, reduceCtorEq, Nat.reduceAdd, Nat.reduceLeDiff, eq, ebb, enb]
    exact gcK_of rfl (fun _ _ => rfl)
  | true =>
  have hp : partOk l f = true := by
    unfold FullF at b1
    split at b1
    · assumption
    · simp at b1
  have ef : FullF l f g = OverFlat f g := by unfold FullF; rw [if_pos hp]
  have en := full_nil hp
  simp +contextual (maxSteps := 2000000) only [go_sem, Nat.reduceEqDiff, reduceCtorEq, Nat.reduceAdd, Nat.reduceLeDiff, eq, ebb, enb]
  refine wp_call (k_iOverFlat f g x y c d h3 sd3.f sg3 mf mg) ?_
  rintro r h4 ⟨g4, c4, d4, rfl, z4⟩
  rw [ef] at so mF b1
  have b1' := b1
  have sd4 : SlD h4 u x y ⟨l, f⟩ := ⟨sd3.g.grow g4, sd3.f.grow g4⟩
  have so4 := so.grow g4
  have snil : SlF h4 (.sl none 0 (some 0)) (.sl none 0 (some 0)) ⟨[], []⟩ := (NwF.nil (h0 := h4)).sl
  simp +contextual (maxSteps := 2000000) only [go_sem, Nat.reduceEqDiff, reduceCtorEq, Nat.reduceAdd, Nat.reduceLeDiff]
  refine wp_call (k_iFullFlat ⟨l, f⟩ ⟨[], []⟩ u x y _ _ h4 sd4 snil md .nil) ?_
  rintro r h5 ⟨g5, c5, d5, rfl, z5⟩
  rw [en] at z5 ⊢
  have z5 : NwF h4 h5 c5 d5 f := z5
  have q1 := eqs h5 c2 d2 c4 d4 _ mF (so4.grow g5) (z4.sl.grow g5)
  have q2 := eqs h5 c5 d5 x y f mf z5.sl (sd4.f.grow g5)
  simp +contextual (maxSteps := 2000000) only [go_sem, Nat.reduceEqDiff, reduceCtorEq, Nat.reduceAdd, Nat.reduceLeDiff, q1, q2, b1', Option.isSome_some]
  try exact gcK_of rfl (fun _ _ => rfl)
end Go.Proofs.Ytekkimfdcbgcoac.Am
