/- The law FnPartialOf. -/
import Derived.Test.YtekkimfdcbgcoacPF
import Derived.Test.YtekkimfdcbgcoacDP
namespace Go.Proofs.Ytekkimfdcbgcoac.Am
open Go
set_option maxRecDepth 100000
set_option maxHeartbeats 4000000
set_option linter.unusedSimpArgs false
set_option linter.unusedVariables false
attribute [local go_sem ↓] bv_t bv_c ev_t ev_c put_same put_ne put_none kill_at pro_at lb_same lb_ne start_zero start_succ wpC_seq wpC_reg wpC_cond wpC_block wpC_skip wpC_exit wpC_ret thenQ_normal thenQ_exit thenQ_ret inBlk_normal inBlk_exit inBlk_ret wpS_nil wpS_step wpS_again wpS_guard wpO_mov wpO_load wpO_faddr wpO_nilCheck wpO_pick wpO_build wpO_bin wpO_eqb wpO_eqst wpO_eqnil wpO_not wpO_conv wpO_bytesStr wpO_iaddr wpO_idxStr wpO_field wpO_extract wpO_len wpO_lenStr wpO_cap wpO_min wpO_slice wpO_sliceStr wpO_alloc wpO_box wpO_store wpO_call wpO_callv wpO_mkfn wpO_buildSlice wpO_mkslice wpO_append wpO_appz proA_nil proA_cons tmpX_nil tmpX_tmp tmpX_cell doneB_normal doneB_ret agK_cons agK_nil agK_guard agG_tt agG_ff agG_tf agG_ft agG_undef pureB_load results_one results_two results_nil resBs_cons resBs_nil resB_tmp resB_cell
attribute [local go_sem] kill_v kill_lp_ne kill_lp_same pro_v pro_lp_same pro_lp_ne av_v av_lp optB_some optX_some valX_eq ldX_lp ldX_v faX_lp faX_v ncX_lp ncX_ptr ncX_fn boxK_one boxK_agg stL_some stK_lp_one stK_lp_agg stK_v_one stK_v_agg proM_v proM_lp callG_mk callVG_mk callvK_fn fnG_mk ptrsA_nil ptrsA_cons callH_some whenA_true whenA_false guardH_tt guardH_ff guardH_tf guardH_ft guardH_undef agV_one agV_agg lenO_sl lenStrO_str notO_bool pickO_bool convO_int eqbO_bool eqnilO_sl extractO_tup capO_sl minO_int loadL_one loadL_all storeL_eq fillA_nil fillA_one fillA_agg nat_ge neg_ge nat_lt neg_lt buildO bin_add bin_sub bin_mul bin_eql bin_neq bin_lss bin_leq bin_gtr bin_geq str_eql str_neq str_lss str_leq str_gtr str_geq retK_some endK_mk gcK_same gcK_int gcK_bool tupO_one tupO_agg rdy_self ib ii Option.map_none Option.map_some Option.some.injEq exists_eq_left' exists_eq_left ne_eq not_false_eq_true if_true if_false List.map_cons List.map_nil List.getElem?_cons_zero List.getElem?_cons_succ List.length_cons List.length_nil List.take_succ_cons List.take_zero List.take_nil List.drop_succ_cons List.drop_zero List.drop_nil List.cons_append List.nil_append List.append_nil List.set_cons_zero List.set_cons_succ Nat.zero_add forall_const true_and and_true and_self Bool.false_eq_true false_implies true_implies implies_true Bool.not_true Bool.not_false Bool.not_eq_true' Bool.not_eq_false' beq_self_eq_true Bool.bne_true Bool.bne_false
attribute [local go_sem] lenI lenS lenP lenQ lenB lenL lenT encI_0 encS_0 encP_0 encP_1 encQ_0 encQ_1 encQ_2 encQ_3 encB_0 encB_1 encL_0 encL_1 encT_0 encT_1
attribute [local go_sem low] whenA_bool guardH_bool
theorem partF_ok {l : List Param} {f : Flat} (h : partOk l f = true) : partF l f = ⟨l, f⟩ := by
  unfold partF
  rw [if_pos h]
/-! laws.FnPartialOf -/
def L6_0 : List AStep := [⟨.mov (.c (.bool false)), (some 2), none, []⟩]
theorem v6_0 : VS L6_0.eq_1 := rfl
def L6_1 : List AStep := [⟨.bin .gtr (.t 14) (.c (.int .i64 1048576)), (some 15), none, []⟩]
theorem v6_1 : VS L6_1.eq_1 := rfl
def L6_2 : List AStep := ⟨.mov (.t 0), (some 13), none, []⟩ :: ⟨.len (.t 13), (some 14), none, []⟩ :: L6_1
theorem v6_2 : VS L6_2.eq_1 := rfl
def L6_3 : List AStep := [⟨.mov (.c (.bool true)), (some 2), none, []⟩]
theorem v6_3 : VS L6_3.eq_1 := rfl
def L6_4 : List AStep := [⟨.store 2 (.t 4) (.t 20), none, none, []⟩]
theorem v6_4 : VS L6_4.eq_1 := rfl
def L6_5 : List AStep := ⟨.alloc 29 [(.sl none 0 (some 0)), (.sl none 0 (some 0))], (some 4), none, []⟩ :: ⟨.store 1 (.t 3) (.t 19), none, none, []⟩ :: L6_4
theorem v6_5 : VS L6_5.eq_1 := rfl
def L6_6 : List AStep := ⟨.extract (.t 16) 1, (some 20), none, []⟩ :: ⟨.alloc 25 [(.sl none 0 (some 0))], (some 3), none, []⟩ :: L6_5
theorem v6_6 : VS L6_6.eq_1 := rfl
def L6_7 : List AStep := ⟨.mov (.t 18), (some 16), none, []⟩ :: ⟨.extract (.t 16) 0, (some 19), none, []⟩ :: L6_6
theorem v6_7 : VS L6_7.eq_1 := rfl
def L6_8 : List AStep := ⟨.mov (.t 0), (some 17), none, []⟩ :: ⟨.call 28 [(.t 17)], (some 18), none, []⟩ :: L6_7
theorem v6_8 : VS L6_8.eq_1 := rfl
def L6_9 : List AStep := [⟨.mov (.t 26), (some 6), none, []⟩]
theorem v6_9 : VS L6_9.eq_1 := rfl
def L6_10 : List AStep := ⟨.alloc 31 [(.sl none 0 (some 0)), (.sl none 0 (some 0)), (.sl none 0 (some 0))], (some 5), none, []⟩ :: ⟨.store 3 (.t 5) (.t 25), none, none, []⟩ :: L6_9
theorem v6_10 : VS L6_10.eq_1 := rfl
def L6_11 : List AStep := ⟨.extract (.t 21) 0, (some 25), none, []⟩ :: ⟨.extract (.t 21) 1, (some 26), none, []⟩ :: L6_10
theorem v6_11 : VS L6_11.eq_1 := rfl
def L6_12 : List AStep := ⟨.call 29 [(.t 22), (.t 23)], (some 24), none, []⟩ :: ⟨.mov (.t 24), (some 21), none, []⟩ :: L6_11
theorem v6_12 : VS L6_12.eq_1 := rfl
def L6_13 : List AStep := ⟨.load 1 true (.t 3), (some 22), none, []⟩ :: ⟨.load 2 true (.t 4), (some 23), none, []⟩ :: L6_12
theorem v6_13 : VS L6_13.eq_1 := rfl
def L6_14 : List AStep := [⟨.mov (.t 32), (some 8), none, []⟩]
theorem v6_14 : VS L6_14.eq_1 := rfl
def L6_15 : List AStep := ⟨.alloc 31 [(.sl none 0 (some 0)), (.sl none 0 (some 0)), (.sl none 0 (some 0))], (some 7), none, []⟩ :: ⟨.store 3 (.t 7) (.t 31), none, none, []⟩ :: L6_14
theorem v6_15 : VS L6_15.eq_1 := rfl
def L6_16 : List AStep := ⟨.extract (.t 27) 0, (some 31), none, []⟩ :: ⟨.extract (.t 27) 1, (some 32), none, []⟩ :: L6_15
theorem v6_16 : VS L6_16.eq_1 := rfl
def L6_17 : List AStep := ⟨.call 30 [(.t 28), (.t 29)], (some 30), none, []⟩ :: ⟨.mov (.t 30), (some 27), none, []⟩ :: L6_16
theorem v6_17 : VS L6_17.eq_1 := rfl
def L6_18 : List AStep := ⟨.load 1 true (.t 3), (some 28), none, []⟩ :: ⟨.load 2 true (.t 4), (some 29), none, []⟩ :: L6_17
theorem v6_18 : VS L6_18.eq_1 := rfl
def L6_19 : List AStep := [⟨.pick (.t 42) (.c (.bool true)) (.t 44), (some 45), none, []⟩]
theorem v6_19 : VS L6_19.eq_1 := rfl
def L6_20 : List AStep := ⟨.mov (.t 6), (some 43), (some (42, false)), []⟩ :: ⟨.not (.t 43), (some 44), (some (42, false)), []⟩ :: L6_19
theorem v6_20 : VS L6_20.eq_1 := rfl
def L6_21 : List AStep := ⟨.pick (.t 37) (.c (.bool true)) (.t 40), (some 41), none, []⟩ :: ⟨.mov (.t 41), (some 42), none, []⟩ :: L6_20
theorem v6_21 : VS L6_21.eq_1 := rfl
def L6_22 : List AStep := ⟨.mov (.t 8), (some 39), (some (37, false)), []⟩ :: ⟨.eqb true (.t 38) (.t 39), (some 40), (some (37, false)), []⟩ :: L6_21
theorem v6_22 : VS L6_22.eq_1 := rfl
def L6_23 : List AStep := ⟨.mov (.t 36), (some 37), none, []⟩ :: ⟨.mov (.t 6), (some 38), (some (37, false)), []⟩ :: L6_22
theorem v6_23 : VS L6_23.eq_1 := rfl
def L6_24 : List AStep := ⟨.call 31 [(.t 33), (.t 34)], (some 35), none, []⟩ :: ⟨.not (.t 35), (some 36), none, []⟩ :: L6_23
theorem v6_24 : VS L6_24.eq_1 := rfl
def L6_25 : List AStep := ⟨.load 3 true (.t 5), (some 33), none, []⟩ :: ⟨.load 3 true (.t 7), (some 34), none, []⟩ :: L6_24
theorem v6_25 : VS L6_25.eq_1 := rfl
def L6_26 : List AStep := [⟨.mov (.t 53), (some 2), none, []⟩]
theorem v6_26 : VS L6_26.eq_1 := rfl
def L6_27 : List AStep := ⟨.eqb false (.t 50) (.t 51), (some 52), (some (49, true)), []⟩ :: ⟨.pick (.t 49) (.t 52) (.c (.bool false)), (some 53), none, []⟩ :: L6_26
theorem v6_27 : VS L6_27.eq_1 := rfl
def L6_28 : List AStep := ⟨.mov (.t 6), (some 50), (some (49, true)), []⟩ :: ⟨.mov (.t 8), (some 51), (some (49, true)), []⟩ :: L6_27
theorem v6_28 : VS L6_28.eq_1 := rfl
def L6_29 : List AStep := ⟨.call 31 [(.t 46), (.t 47)], (some 48), none, []⟩ :: ⟨.mov (.t 48), (some 49), none, []⟩ :: L6_28
theorem v6_29 : VS L6_29.eq_1 := rfl
def L6_30 : List AStep := ⟨.load 3 true (.t 5), (some 46), none, []⟩ :: ⟨.load 3 true (.t 7), (some 47), none, []⟩ :: L6_29
theorem v6_30 : VS L6_30.eq_1 := rfl
def L6_31 : List AStep := [⟨.mov (.t 59), (some 10), none, []⟩]
theorem v6_31 : VS L6_31.eq_1 := rfl
def L6_32 : List AStep := ⟨.alloc 39 [(.sl none 0 (some 0))], (some 9), none, []⟩ :: ⟨.store 1 (.t 9) (.t 58), none, none, []⟩ :: L6_31
theorem v6_32 : VS L6_32.eq_1 := rfl
def L6_33 : List AStep := ⟨.extract (.t 54) 0, (some 58), none, []⟩ :: ⟨.extract (.t 54) 1, (some 59), none, []⟩ :: L6_32
theorem v6_33 : VS L6_33.eq_1 := rfl
def L6_34 : List AStep := ⟨.call 21 [(.t 55), (.t 56)], (some 57), none, []⟩ :: ⟨.mov (.t 57), (some 54), none, []⟩ :: L6_33
theorem v6_34 : VS L6_34.eq_1 := rfl
def L6_35 : List AStep := ⟨.load 3 true (.t 5), (some 55), none, []⟩ :: ⟨.build [(.sl none 0 (some 0)), (.sl none 0 (some 0))] [], (some 56), none, []⟩ :: L6_34
theorem v6_35 : VS L6_35.eq_1 := rfl
def L6_36 : List AStep := [⟨.mov (.t 65), (some 12), none, []⟩]
theorem v6_36 : VS L6_36.eq_1 := rfl
def L6_37 : List AStep := ⟨.alloc 39 [(.sl none 0 (some 0))], (some 11), none, []⟩ :: ⟨.store 1 (.t 11) (.t 64), none, none, []⟩ :: L6_36
theorem v6_37 : VS L6_37.eq_1 := rfl
def L6_38 : List AStep := ⟨.extract (.t 60) 0, (some 64), none, []⟩ :: ⟨.extract (.t 60) 1, (some 65), none, []⟩ :: L6_37
theorem v6_38 : VS L6_38.eq_1 := rfl
def L6_39 : List AStep := ⟨.call 32 [(.t 61), (.t 62)], (some 63), none, []⟩ :: ⟨.mov (.t 63), (some 60), none, []⟩ :: L6_38
theorem v6_39 : VS L6_39.eq_1 := rfl
def L6_40 : List AStep := ⟨.load 1 true (.t 3), (some 61), none, []⟩ :: ⟨.load 2 true (.t 4), (some 62), none, []⟩ :: L6_39
theorem v6_40 : VS L6_40.eq_1 := rfl
def L6_41 : List AStep := [⟨.mov (.t 77), (some 2), none, []⟩]
theorem v6_41 : VS L6_41.eq_1 := rfl
def L6_42 : List AStep := ⟨.call 13 [(.t 75)], (some 76), (some (74, true)), []⟩ :: ⟨.pick (.t 74) (.t 76) (.c (.bool false)), (some 77), none, []⟩ :: L6_41
theorem v6_42 : VS L6_42.eq_1 := rfl
def L6_43 : List AStep := ⟨.mov (.t 73), (some 74), none, []⟩ :: ⟨.load 3 true (.t 5), (some 75), (some (74, true)), []⟩ :: L6_42
theorem v6_43 : VS L6_43.eq_1 := rfl
def L6_44 : List AStep := ⟨.call 33 [(.t 70), (.t 71)], (some 72), (some (69, true)), []⟩ :: ⟨.pick (.t 69) (.t 72) (.c (.bool false)), (some 73), none, []⟩ :: L6_43
theorem v6_44 : VS L6_44.eq_1 := rfl
def L6_45 : List AStep := ⟨.load 1 true (.t 9), (some 70), (some (69, true)), []⟩ :: ⟨.load 1 true (.t 11), (some 71), (some (69, true)), []⟩ :: L6_44
theorem v6_45 : VS L6_45.eq_1 := rfl
def L6_46 : List AStep := ⟨.eqb false (.t 66) (.t 67), (some 68), none, []⟩ :: ⟨.mov (.t 68), (some 69), none, []⟩ :: L6_45
theorem v6_46 : VS L6_46.eq_1 := rfl
def L6_47 : List AStep := ⟨.mov (.t 10), (some 66), none, []⟩ :: ⟨.mov (.t 12), (some 67), none, []⟩ :: L6_46
theorem v6_47 : VS L6_47.eq_1 := rfl
def C6_0 : ACode := .seq (.reg L6_3) .ret
theorem u6_0 : VC C6_0.eq_1 := rfl
def C6_1 : ACode := .cond (.t 15) C6_0 .skip
theorem u6_1 : VC C6_1.eq_1 := rfl
def C6_2 : ACode := .seq (.reg L6_2) C6_1
theorem u6_2 : VC C6_2.eq_1 := rfl
def C6_3 : ACode := .seq (.reg L6_30) .ret
theorem u6_3 : VC C6_3.eq_1 := rfl
def C6_4 : ACode := .cond (.t 45) C6_3 .skip
theorem u6_4 : VC C6_4.eq_1 := rfl
def C6_5 : ACode := .seq (.reg L6_25) C6_4
theorem u6_5 : VC C6_5.eq_1 := rfl
def C6_6 : ACode := .seq (.reg L6_47) .ret
theorem u6_6 : VC C6_6.eq_1 := rfl
def C6_7 : ACode := .seq (.reg L6_40) C6_6
theorem u6_7 : VC C6_7.eq_1 := rfl
def C6_8 : ACode := .seq (.reg L6_35) C6_7
theorem u6_8 : VC C6_8.eq_1 := rfl
def C6_9 : ACode := .seq C6_5 C6_8
theorem u6_9 : VC C6_9.eq_1 := rfl
def C6_10 : ACode := .seq (.reg L6_18) C6_9
theorem u6_10 : VC C6_10.eq_1 := rfl
def C6_11 : ACode := .seq (.reg L6_13) C6_10
theorem u6_11 : VC C6_11.eq_1 := rfl
def C6_12 : ACode := .seq (.reg L6_8) C6_11
theorem u6_12 : VC C6_12.eq_1 := rfl
def C6_13 : ACode := .seq C6_2 C6_12
theorem u6_13 : VC C6_13.eq_1 := rfl
def C6_14 : ACode := .seq (.reg L6_0) C6_13
theorem u6_14 : VC C6_14.eq_1 := rfl
def F6 : AFunc := ⟨78, [.tmp 2], C6_14⟩
theorem cF6 : compB Try.prog 6 = some F6 := by kernel_rfl
attribute [local go_sem ↓] u6_0 u6_1 u6_2 u6_3 u6_4 u6_5 u6_6 u6_7 u6_8 u6_9 u6_10 u6_11 u6_12 u6_13 u6_14 v6_0 v6_1 v6_2 v6_3 v6_4 v6_5 v6_6 v6_7 v6_8 v6_9 v6_10 v6_11 v6_12 v6_13 v6_14 v6_15 v6_16 v6_17 v6_18 v6_19 v6_20 v6_21 v6_22 v6_23 v6_24 v6_25 v6_26 v6_27 v6_28 v6_29 v6_30 v6_31 v6_32 v6_33 v6_34 v6_35 v6_36 v6_37 v6_38 v6_39 v6_40 v6_41 v6_42 v6_43 v6_44 v6_45 v6_46 v6_47
theorem law6 (h : H) (avs : List AV) (hok : okVs Try.prog h 6 [ 22 ] avs) : callK (bm Try.prog 6 avs h) fun r _ => r = ib true := by
  obtain ⟨v0, avs, rfl, hv0, hok⟩ := okVs_cons hok
  obtain rfl := okVs_nil hok
  obtain ⟨v, code, rfl, s0, hc, k0⟩ := dBytes hv0
  refine bm_of cF6 ?_
  cases b0 : decide ((code.length : Int) > 1048576) with
  | true => simp +contextual (maxSteps := 2000000) only [go_sem, Nat.reduceEqDiff, reduceCtorEq, Nat.reduceAdd, Nat.reduceLeDiff, F6, s0.len, b0]
  | false =>
  simp +contextual (maxSteps := 2000000) only [go_sem, Nat.reduceEqDiff, reduceCtorEq, Nat.reduceAdd, Nat.reduceLeDiff, F6, s0.len, b0]
  refine wp_call (c_drawPartialOf code v h s0 hc) ?_
  rintro q h1 ⟨g1, u, x, y, l, f, rfl, sq, sf, tl, mf⟩
  have sg : SlG h1 u l := ⟨sq⟩
  have ml := tl.mini
  have mp : miniD (partF l f) := by
    unfold partF
    split
    · exact ⟨ml, mf⟩
    · exact ⟨miniG.nil, miniF.nil⟩
  simp +contextual (maxSteps := 2000000) only [go_sem, Nat.reduceEqDiff, reduceCtorEq, Nat.reduceAdd, Nat.reduceLeDiff]
  refine wp_call (k_iPartialOf l f u x y h1 sg sf ml mf) ?_
  rintro q2 h2 ⟨g2, a2, c2, d2, rfl, n2⟩
  have sg2 := sg.grow g2
  have sf2 := sf.grow g2
  simp +contextual (maxSteps := 2000000) only [go_sem, Nat.reduceEqDiff, reduceCtorEq, Nat.reduceAdd, Nat.reduceLeDiff]
  refine wp_call (k_sPartialOf l f u x y h2 sg2 sf2 ml mf) ?_
  rintro q3 h3 ⟨g3, a3, c3, d3, rfl, n3⟩
  have sd3 := (n2.grow g3).sl
  have eq1 := c_equalPartial (partF l f) a2 c2 d2 a3 c3 d3 h3 sd3 n3.sl mp
  cases b1 : partOk l f with
  | false =>
    simp +contextual (maxSteps := 2000000) only [go_sem, Nat.reduceEqDiff, reduceCtorEq, Nat.reduceAdd, Nat.reduceLeDiff, eq1, b1]
    exact gcK_of rfl (fun _ _ => rfl)
  | true =>
  rw [partF_ok b1] at sd3 mp
  have snil : SlF h3 (.sl none 0 (some 0)) (.sl none 0 (some 0)) ⟨[], []⟩ := (NwF.nil (h0 := h3)).sl
  have ebb : ∀ b : Bool, (b == b) = true := fun b => by cases b <;> rfl
  simp +contextual (maxSteps := 2000000) only [go_sem, Nat.reduceEqDiff, reduceCtorEq, Nat.reduceAdd, Nat.reduceLeDiff, eq1, b1]
  refine wp_call (k_iCallPartial ⟨l, f⟩ ⟨[], []⟩ f a2 c2 d2 _ _ h3 sd3 snil mp .nil (full_nil b1)) ?_
  rintro q4 h4 ⟨g4, v4, r4, rfl, y4⟩
  simp +contextual (maxSteps := 2000000) only [go_sem, Nat.reduceEqDiff, reduceCtorEq, Nat.reduceAdd, Nat.reduceLeDiff]
  refine wp_call (k_iBind l f u x y h4 ((sg2.grow g3).grow g4) ((sf2.grow g3).grow g4) ml mf) ?_
  rintro q5 h5 ⟨g5, v5, r5, rfl, y5⟩
  have eq2 := c_equalBinding (bindF l f) v4 v5 h5 (y4.grow g5).sl y5.sl .bind
  have ev := k_iValidPartial ⟨l, f⟩ a2 c2 d2 h5 ⟨(sd3.g.grow g4).grow g5, (sd3.f.grow g4).grow g5⟩ mp
  simp +contextual (maxSteps := 2000000) only [go_sem, Nat.reduceEqDiff, reduceCtorEq, Nat.reduceAdd, Nat.reduceLeDiff, ebb, eq2, ev, b1]
  exact gcK_of rfl (fun _ _ => rfl)
end Go.Proofs.Ytekkimfdcbgcoac.Am
