/- The law FnMethodSignaturePartial. -/
import Derived.Test.YtekkimfdcbgcoabMS
namespace Go.Proofs.Ytekkimfdcbgcoab.Am
open Go
attribute [local go_sem] loadL_agg
set_option maxRecDepth 100000
set_option maxHeartbeats 4000000
set_option linter.unusedSimpArgs false
set_option linter.unusedVariables false
attribute [local go_sem ↓] bv_t bv_c ev_t ev_c put_same put_ne put_none kill_at pro_at lb_same lb_ne start_zero start_succ wpC_seq wpC_reg wpC_cond wpC_block wpC_skip wpC_exit wpC_ret thenQ_normal thenQ_exit thenQ_ret inBlk_normal inBlk_exit inBlk_ret wpS_nil wpS_step wpS_again wpS_guard wpO_mov wpO_load wpO_faddr wpO_nilCheck wpO_pick wpO_build wpO_bin wpO_eqb wpO_eqst wpO_eqnil wpO_not wpO_conv wpO_bytesStr wpO_iaddr wpO_idxStr wpO_field wpO_extract wpO_len wpO_lenStr wpO_cap wpO_min wpO_slice wpO_sliceStr wpO_alloc wpO_box wpO_store wpO_call wpO_callv wpO_mkfn wpO_buildSlice wpO_mkslice wpO_append wpO_appz proA_nil proA_cons tmpX_nil tmpX_tmp tmpX_cell doneB_normal doneB_ret agK_cons agK_nil agK_guard agG_tt agG_ff agG_tf agG_ft agG_undef pureB_load results_one results_two results_nil resBs_cons resBs_nil resB_tmp resB_cell
attribute [local go_sem] kill_v kill_lp_ne kill_lp_same pro_v pro_lp_same pro_lp_ne av_v av_lp optB_some optX_some valX_eq ldX_lp ldX_v faX_lp faX_v ncX_lp ncX_ptr ncX_fn boxK_one boxK_agg stL_some stK_lp_one stK_lp_agg stK_v_one stK_v_agg proM_v proM_lp callG_mk callVG_mk callvK_fn fnG_mk ptrsA_nil ptrsA_cons callH_some whenA_true whenA_false guardH_tt guardH_ff guardH_tf guardH_ft guardH_undef agV_one agV_agg lenO_sl lenStrO_str notO_bool pickO_bool convO_int eqbO_bool eqnilO_sl extractO_tup capO_sl minO_int loadL_one loadL_all storeL_eq fillA_nil fillA_one fillA_agg nat_ge neg_ge nat_lt neg_lt buildO bin_add bin_sub bin_mul bin_eql bin_neq bin_lss bin_leq bin_gtr bin_geq str_eql str_neq str_lss str_leq str_gtr str_geq retK_some endK_mk gcK_same gcK_int gcK_bool tupO_one tupO_agg rdy_self ib ii Option.map_none Option.map_some Option.some.injEq exists_eq_left' exists_eq_left ne_eq not_false_eq_true if_true if_false List.map_cons List.map_nil List.getElem?_cons_zero List.getElem?_cons_succ List.length_cons List.length_nil List.take_succ_cons List.take_zero List.take_nil List.drop_succ_cons List.drop_zero List.drop_nil List.cons_append List.nil_append List.append_nil List.set_cons_zero List.set_cons_succ Nat.zero_add forall_const true_and and_true and_self Bool.false_eq_true false_implies true_implies implies_true Bool.not_true Bool.not_false Bool.not_eq_true' Bool.not_eq_false' beq_self_eq_true Bool.bne_true Bool.bne_false
attribute [local go_sem] lenI lenS lenP lenQ lenB lenL lenT encI_0 encS_0 encP_0 encP_1 encQ_0 encQ_1 encQ_2 encQ_3 encB_0 encB_1 encL_0 encL_1 encT_0 encT_1
attribute [local go_sem low] whenA_bool guardH_bool
/-! laws.FnMethodSignaturePartial -/
def L4_0 : List AStep := [⟨.mov (.c (.bool false)), (some 2), none, []⟩]
theorem v4_0 : VS L4_0.eq_1 := rfl
def L4_1 : List AStep := [⟨.bin .gtr (.t 13) (.c (.int .i64 1048576)), (some 14), none, []⟩]
theorem v4_1 : VS L4_1.eq_1 := rfl
def L4_2 : List AStep := ⟨.mov (.t 0), (some 12), none, []⟩ :: ⟨.len (.t 12), (some 13), none, []⟩ :: L4_1
theorem v4_2 : VS L4_2.eq_1 := rfl
def L4_3 : List AStep := [⟨.mov (.c (.bool true)), (some 2), none, []⟩]
theorem v4_3 : VS L4_3.eq_1 := rfl
def L4_4 : List AStep := [⟨.alloc 25 [(.sl none 0 (some 0))], (some 3), none, []⟩, ⟨.store 1 (.t 3) (.t 16), none, none, []⟩]
theorem v4_4 : VS L4_4.eq_1 := rfl
def L4_5 : List AStep := ⟨.mov (.t 0), (some 15), none, []⟩ :: ⟨.call 19 [(.t 15)], (some 16), none, []⟩ :: L4_4
theorem v4_5 : VS L4_5.eq_1 := rfl
def L4_6 : List AStep := [⟨.store 1 (.t 4) (.t 20), none, none, []⟩, ⟨.mov (.t 21), (some 5), none, []⟩]
theorem v4_6 : VS L4_6.eq_1 := rfl
def L4_7 : List AStep := ⟨.extract (.t 17) 1, (some 21), none, []⟩ :: ⟨.alloc 25 [(.sl none 0 (some 0))], (some 4), none, []⟩ :: L4_6
theorem v4_7 : VS L4_7.eq_1 := rfl
def L4_8 : List AStep := ⟨.mov (.t 19), (some 17), none, []⟩ :: ⟨.extract (.t 17) 0, (some 20), none, []⟩ :: L4_7
theorem v4_8 : VS L4_8.eq_1 := rfl
def L4_9 : List AStep := ⟨.load 1 true (.t 3), (some 18), none, []⟩ :: ⟨.call 13 [(.t 18)], (some 19), none, []⟩ :: L4_8
theorem v4_9 : VS L4_9.eq_1 := rfl
def L4_10 : List AStep := [⟨.store 1 (.t 6) (.t 25), none, none, []⟩, ⟨.mov (.t 26), (some 7), none, []⟩]
theorem v4_10 : VS L4_10.eq_1 := rfl
def L4_11 : List AStep := ⟨.extract (.t 22) 1, (some 26), none, []⟩ :: ⟨.alloc 25 [(.sl none 0 (some 0))], (some 6), none, []⟩ :: L4_10
theorem v4_11 : VS L4_11.eq_1 := rfl
def L4_12 : List AStep := ⟨.mov (.t 24), (some 22), none, []⟩ :: ⟨.extract (.t 22) 0, (some 25), none, []⟩ :: L4_11
theorem v4_12 : VS L4_12.eq_1 := rfl
def L4_13 : List AStep := ⟨.load 1 true (.t 3), (some 23), none, []⟩ :: ⟨.call 14 [(.t 23)], (some 24), none, []⟩ :: L4_12
theorem v4_13 : VS L4_13.eq_1 := rfl
def L4_14 : List AStep := [⟨.pick (.t 36) (.c (.bool true)) (.t 38), (some 39), none, []⟩]
theorem v4_14 : VS L4_14.eq_1 := rfl
def L4_15 : List AStep := ⟨.mov (.t 5), (some 37), (some (36, false)), []⟩ :: ⟨.not (.t 37), (some 38), (some (36, false)), []⟩ :: L4_14
theorem v4_15 : VS L4_15.eq_1 := rfl
def L4_16 : List AStep := ⟨.pick (.t 31) (.c (.bool true)) (.t 34), (some 35), none, []⟩ :: ⟨.mov (.t 35), (some 36), none, []⟩ :: L4_15
theorem v4_16 : VS L4_16.eq_1 := rfl
def L4_17 : List AStep := ⟨.mov (.t 7), (some 33), (some (31, false)), []⟩ :: ⟨.eqb true (.t 32) (.t 33), (some 34), (some (31, false)), []⟩ :: L4_16
theorem v4_17 : VS L4_17.eq_1 := rfl
def L4_18 : List AStep := ⟨.mov (.t 30), (some 31), none, []⟩ :: ⟨.mov (.t 5), (some 32), (some (31, false)), []⟩ :: L4_17
theorem v4_18 : VS L4_18.eq_1 := rfl
def L4_19 : List AStep := ⟨.call 15 [(.t 27), (.t 28)], (some 29), none, []⟩ :: ⟨.not (.t 29), (some 30), none, []⟩ :: L4_18
theorem v4_19 : VS L4_19.eq_1 := rfl
def L4_20 : List AStep := ⟨.load 1 true (.t 4), (some 27), none, []⟩ :: ⟨.load 1 true (.t 6), (some 28), none, []⟩ :: L4_19
theorem v4_20 : VS L4_20.eq_1 := rfl
def L4_21 : List AStep := [⟨.mov (.t 47), (some 2), none, []⟩]
theorem v4_21 : VS L4_21.eq_1 := rfl
def L4_22 : List AStep := ⟨.eqb false (.t 44) (.t 45), (some 46), (some (43, true)), []⟩ :: ⟨.pick (.t 43) (.t 46) (.c (.bool false)), (some 47), none, []⟩ :: L4_21
theorem v4_22 : VS L4_22.eq_1 := rfl
def L4_23 : List AStep := ⟨.mov (.t 5), (some 44), (some (43, true)), []⟩ :: ⟨.mov (.t 7), (some 45), (some (43, true)), []⟩ :: L4_22
theorem v4_23 : VS L4_23.eq_1 := rfl
def L4_24 : List AStep := ⟨.call 15 [(.t 40), (.t 41)], (some 42), none, []⟩ :: ⟨.mov (.t 42), (some 43), none, []⟩ :: L4_23
theorem v4_24 : VS L4_24.eq_1 := rfl
def L4_25 : List AStep := ⟨.load 1 true (.t 4), (some 40), none, []⟩ :: ⟨.load 1 true (.t 6), (some 41), none, []⟩ :: L4_24
theorem v4_25 : VS L4_25.eq_1 := rfl
def L4_26 : List AStep := [⟨.store 3 (.t 8) (.t 53), none, none, []⟩, ⟨.mov (.t 54), (some 9), none, []⟩]
theorem v4_26 : VS L4_26.eq_1 := rfl
def L4_27 : List AStep := ⟨.extract (.t 48) 1, (some 54), none, []⟩ :: ⟨.alloc 44 [(.sl none 0 (some 0)), (.sl none 0 (some 0)), (.sl none 0 (some 0))], (some 8), none, []⟩ :: L4_26
theorem v4_27 : VS L4_27.eq_1 := rfl
def L4_28 : List AStep := ⟨.mov (.t 52), (some 48), none, []⟩ :: ⟨.extract (.t 48) 0, (some 53), none, []⟩ :: L4_27
theorem v4_28 : VS L4_28.eq_1 := rfl
def L4_29 : List AStep := ⟨.build [(.sl none 0 (some 0)), (.sl none 0 (some 0))] [(0, 1, (.t 50))], (some 51), none, []⟩ :: ⟨.call 20 [(.t 49), (.t 51)], (some 52), none, []⟩ :: L4_28
theorem v4_29 : VS L4_29.eq_1 := rfl
def L4_30 : List AStep := ⟨.load 1 true (.t 3), (some 49), none, []⟩ :: ⟨.buildSlice 3 1 [(.int .i64 0)] [(0, 1, (.c (.int .i64 3)))], (some 50), none, []⟩ :: L4_29
theorem v4_30 : VS L4_30.eq_1 := rfl
def L4_31 : List AStep := [⟨.store 1 (.t 10) (.t 58), none, none, []⟩, ⟨.mov (.t 59), (some 11), none, []⟩]
theorem v4_31 : VS L4_31.eq_1 := rfl
def L4_32 : List AStep := ⟨.extract (.t 55) 1, (some 59), none, []⟩ :: ⟨.alloc 25 [(.sl none 0 (some 0))], (some 10), none, []⟩ :: L4_31
theorem v4_32 : VS L4_32.eq_1 := rfl
def L4_33 : List AStep := ⟨.mov (.t 57), (some 55), none, []⟩ :: ⟨.extract (.t 55) 0, (some 58), none, []⟩ :: L4_32
theorem v4_33 : VS L4_33.eq_1 := rfl
def L4_34 : List AStep := ⟨.load 3 true (.t 8), (some 56), none, []⟩ :: ⟨.call 21 [(.t 56)], (some 57), none, []⟩ :: L4_33
theorem v4_34 : VS L4_34.eq_1 := rfl
def L4_35 : List AStep := [⟨.pick (.t 69) (.t 77) (.c (.bool false)), (some 78), none, []⟩, ⟨.mov (.t 78), (some 2), none, []⟩]
theorem v4_35 : VS L4_35.eq_1 := rfl
def L4_36 : List AStep := ⟨.bin .sub (.t 75) (.c (.int .i64 1)), (some 76), (some (69, true)), []⟩ :: ⟨.bin .eql (.t 72) (.t 76), (some 77), (some (69, true)), []⟩ :: L4_35
theorem v4_36 : VS L4_36.eq_1 := rfl
def L4_37 : List AStep := ⟨.load 1 false (.t 73), (some 74), (some (69, true)), []⟩ :: ⟨.len (.t 74), (some 75), (some (69, true)), []⟩ :: L4_36
theorem v4_37 : VS L4_37.eq_1 := rfl
def L4_38 : List AStep := ⟨.len (.t 71), (some 72), (some (69, true)), []⟩ :: ⟨.faddr 0 (.t 3), (some 73), (some (69, true)), []⟩ :: L4_37
theorem v4_38 : VS L4_38.eq_1 := rfl
def L4_39 : List AStep := ⟨.faddr 0 (.t 4), (some 70), (some (69, true)), []⟩ :: ⟨.load 1 false (.t 70), (some 71), (some (69, true)), []⟩ :: L4_38
theorem v4_39 : VS L4_39.eq_1 := rfl
def L4_40 : List AStep := ⟨.pick (.t 64) (.t 67) (.c (.bool false)), (some 68), none, []⟩ :: ⟨.mov (.t 68), (some 69), none, []⟩ :: L4_39
theorem v4_40 : VS L4_40.eq_1 := rfl
def L4_41 : List AStep := ⟨.load 1 true (.t 4), (some 66), (some (64, true)), []⟩ :: ⟨.call 15 [(.t 65), (.t 66)], (some 67), (some (64, true)), []⟩ :: L4_40
theorem v4_41 : VS L4_41.eq_1 := rfl
def L4_42 : List AStep := ⟨.mov (.t 63), (some 64), none, []⟩ :: ⟨.load 1 true (.t 10), (some 65), (some (64, true)), []⟩ :: L4_41
theorem v4_42 : VS L4_42.eq_1 := rfl
def L4_43 : List AStep := ⟨.mov (.t 11), (some 62), (some (61, true)), []⟩ :: ⟨.pick (.t 61) (.t 62) (.c (.bool false)), (some 63), none, []⟩ :: L4_42
theorem v4_43 : VS L4_43.eq_1 := rfl
def L4_44 : List AStep := ⟨.mov (.t 9), (some 60), none, []⟩ :: ⟨.mov (.t 60), (some 61), none, []⟩ :: L4_43
theorem v4_44 : VS L4_44.eq_1 := rfl
def C4_0 : ACode := .seq (.reg L4_3) .ret
theorem u4_0 : VC C4_0.eq_1 := rfl
def C4_1 : ACode := .cond (.t 14) C4_0 .skip
theorem u4_1 : VC C4_1.eq_1 := rfl
def C4_2 : ACode := .seq (.reg L4_2) C4_1
theorem u4_2 : VC C4_2.eq_1 := rfl
def C4_3 : ACode := .seq (.reg L4_25) .ret
theorem u4_3 : VC C4_3.eq_1 := rfl
def C4_4 : ACode := .cond (.t 39) C4_3 .skip
theorem u4_4 : VC C4_4.eq_1 := rfl
def C4_5 : ACode := .seq (.reg L4_20) C4_4
theorem u4_5 : VC C4_5.eq_1 := rfl
def C4_6 : ACode := .seq (.reg L4_44) .ret
theorem u4_6 : VC C4_6.eq_1 := rfl
def C4_7 : ACode := .seq (.reg L4_34) C4_6
theorem u4_7 : VC C4_7.eq_1 := rfl
def C4_8 : ACode := .seq (.reg L4_30) C4_7
theorem u4_8 : VC C4_8.eq_1 := rfl
def C4_9 : ACode := .seq C4_5 C4_8
theorem u4_9 : VC C4_9.eq_1 := rfl
def C4_10 : ACode := .seq (.reg L4_13) C4_9
theorem u4_10 : VC C4_10.eq_1 := rfl
def C4_11 : ACode := .seq (.reg L4_9) C4_10
theorem u4_11 : VC C4_11.eq_1 := rfl
def C4_12 : ACode := .seq (.reg L4_5) C4_11
theorem u4_12 : VC C4_12.eq_1 := rfl
def C4_13 : ACode := .seq C4_2 C4_12
theorem u4_13 : VC C4_13.eq_1 := rfl
def C4_14 : ACode := .seq (.reg L4_0) C4_13
theorem u4_14 : VC C4_14.eq_1 := rfl
def F4 : AFunc := ⟨79, [.tmp 2], C4_14⟩
theorem cF4 : compB Try.prog 4 = some F4 := by kernel_rfl
attribute [local go_sem ↓] u4_0 u4_1 u4_2 u4_3 u4_4 u4_5 u4_6 u4_7 u4_8 u4_9 u4_10 u4_11 u4_12 u4_13 u4_14 v4_0 v4_1 v4_2 v4_3 v4_4 v4_5 v4_6 v4_7 v4_8 v4_9 v4_10 v4_11 v4_12 v4_13 v4_14 v4_15 v4_16 v4_17 v4_18 v4_19 v4_20 v4_21 v4_22 v4_23 v4_24 v4_25 v4_26 v4_27 v4_28 v4_29 v4_30 v4_31 v4_32 v4_33 v4_34 v4_35 v4_36 v4_37 v4_38 v4_39 v4_40 v4_41 v4_42 v4_43 v4_44
theorem law4 (h : H) (avs : List AV) (hok : okVs Try.prog h 6 [ 22 ] avs) : callK (bm Try.prog 4 avs h) fun r _ => r = ib true := by
  obtain ⟨v0, avs, rfl, hv0, hok⟩ := okVs_cons hok
  obtain rfl := okVs_nil hok
  obtain ⟨v, code, rfl, s0, hc, k0⟩ := dBytes hv0
  refine bm_of cF4 ?_
  cases b0 : decide ((code.length : Int) > 1048576) with
  | true => simp +contextual (maxSteps := 2000000) only [go_sem, Nat.reduceEqDiff, reduceCtorEq, Nat.reduceAdd, Nat.reduceLeDiff, F4, s0.len, b0]
  | false =>
  simp +contextual (maxSteps := 2000000) only [go_sem, Nat.reduceEqDiff, reduceCtorEq, Nat.reduceAdd, Nat.reduceLeDiff, F4, s0.len, b0]
  refine wp_call (c_drawMethodSignature code v h s0 hc) ?_
  rintro q h1 ⟨g1, x, l, rfl, zq, tl⟩
  have sg : SlG h1 x l := ⟨zq.sl lenQ⟩
  have ml := tl.mini
  simp +contextual (maxSteps := 2000000) only [go_sem, Nat.reduceEqDiff, reduceCtorEq, Nat.reduceAdd, Nat.reduceLeDiff]
  refine wp_call (k_iMethodSignature l x h1 sg ml) ?_
  rintro r h2 ⟨g2, c, rfl, y⟩
  simp +contextual (maxSteps := 2000000) only [go_sem, Nat.reduceEqDiff, reduceCtorEq, Nat.reduceAdd, Nat.reduceLeDiff]
  refine wp_call (k_sMethodSignature l x h2 (sg.grow g2) ml) ?_
  rintro r h3 ⟨g3, c2, rfl, y2⟩
  have sg := sg.grow (g2.trans g3)
  have so : SlG h3 c (methF l) := ⟨(y.sl lenQ).grow g3⟩
  have mw : miniG (methF l) := ml.meth
  have eqs : ∀ (h' : H) (a b : CV), SlG h' a (methF l) → SlG h' b (methF l) → bm Try.prog 15 [.agg [a], .agg [b]] h' = some (ib true, h') := fun h' a b x y => by
    have := c_equalSignature (methF l) (methF l) a b h' x.out y.out (Nat.le_trans mw.len (by decide))
    rwa [decide_eq_true rfl] at this
  have eq := eqs h3 c c2 so ⟨y2.sl lenQ⟩
  have ebb : ∀ b : Bool, (b == b) = true := fun b => by cases b <;> rfl
  have enb : ∀ b : Bool, (!(b == b)) = false := fun b => by cases b <;> rfl
  cases b1 : methOk l with
  | false =>
    simp +contextual (maxSteps := 2000000) only [go_sem, Nat.reduceEqDiff, reduceCtorEq, Nat.reduceAdd, Nat.reduceLeDiff, eq, ebb, enb]
    exact gcK_of rfl (fun _ _ => rfl)
  | true =>
  obtain ⟨a, t, rfl, ok, ha, em⟩ := meth_parts b1
  obtain ⟨h1p, h2p, h3p⟩ := method_part (v := 3) ok ha rfl
  rw [em] at so eqs
  simp +contextual (maxSteps := 2000000) only [go_sem, Nat.reduceEqDiff, reduceCtorEq, Nat.reduceAdd, Nat.reduceLeDiff, eq, ebb, enb]
  refine wp_lit (enc := encI) (k := 1) (l := [3]) rfl rfl ?_
  intro h4 w4 g4 n4 _
  obtain ⟨c4, rfl⟩ := n4.one
  have sf : SlF h4 c4 (.sl none 0 (some 0)) ⟨[3], []⟩ := ⟨n4.sl lenI, Sl.nil lenP⟩
  have mf : miniF ⟨[3], []⟩ := .of rfl
  have sg4 := sg.grow g4
  have so4 := so.grow g4
  simp +contextual (maxSteps := 2000000) only [go_sem, Nat.reduceEqDiff, reduceCtorEq, Nat.reduceAdd, Nat.reduceLeDiff]
  refine wp_call (k_iPartialOf (a :: t) ⟨[3], []⟩ x _ _ h4 sg4 sf ml mf) ?_
  rintro r h5 ⟨g5, q5, p5, n5, rfl, z5⟩
  have ep : partF (a :: t) ⟨[3], []⟩ = ⟨a :: t, ⟨[3], []⟩⟩ := by unfold partF; rw [if_pos h1p]
  rw [ep] at z5
  have sg5 := sg4.grow g5
  have so5 := so4.grow g5
  simp +contextual (maxSteps := 2000000) only [go_sem, Nat.reduceEqDiff, reduceCtorEq, Nat.reduceAdd, Nat.reduceLeDiff]
  refine wp_call (k_iPartialSignature ⟨a :: t, ⟨[3], []⟩⟩ q5 p5 n5 h5 z5.sl ⟨ml, mf⟩) ?_
  rintro r h6 ⟨g6, c6, rfl, z6⟩
  have h2p' : psOk (a :: t) ⟨[3], []⟩ = true := h2p
  have z6 : NwQ h5 h6 (.one c6) (psF (a :: t) ⟨[3], []⟩) := z6
  rw [h3p] at z6
  have sg6 := sg5.grow g6
  have so6 := so5.grow g6
  have e6 := eqs h6 c6 c ⟨z6.sl lenQ⟩ so6
  have hs : IntKind.i64.wrap (((t.length + 1 : Nat) : Int) - 1) = (t.length : Int) := wrap_pred (by have := ml.len; simp at this; omega)
  simp +contextual (maxSteps := 2000000) only [go_sem, Nat.reduceEqDiff, reduceCtorEq, Nat.reduceAdd, Nat.reduceLeDiff, h1p, h2p', e6, so6.out.len, sg6.out.len, hs, decide_true]
  try exact gcK_of rfl (fun _ _ => rfl)
end Go.Proofs.Ytekkimfdcbgcoab.Am
