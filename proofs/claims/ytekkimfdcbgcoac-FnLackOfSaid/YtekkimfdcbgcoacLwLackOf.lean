/- The law FnLackOf. -/
import Derived.Test.YtekkimfdcbgcoacPF
import Derived.Test.YtekkimfdcbgcoacDP
namespace Go.Proofs.Ytekkimfdcbgcoac.Am
open Go
attribute [local go_sem] loadL_agg
set_option maxRecDepth 100000
set_option maxHeartbeats 4000000
set_option linter.unusedSimpArgs false
set_option linter.unusedVariables false
attribute [local go_sem ↓] bv_t bv_c ev_t ev_c put_same put_ne put_none kill_at pro_at lb_same lb_ne start_zero start_succ wpC_seq wpC_reg wpC_cond wpC_block wpC_skip wpC_exit wpC_ret thenQ_normal thenQ_exit thenQ_ret inBlk_normal inBlk_exit inBlk_ret wpS_nil wpS_step wpS_again wpS_guard wpO_mov wpO_load wpO_faddr wpO_nilCheck wpO_pick wpO_build wpO_bin wpO_eqb wpO_eqst wpO_eqnil wpO_not wpO_conv wpO_bytesStr wpO_iaddr wpO_idxStr wpO_field wpO_extract wpO_len wpO_lenStr wpO_cap wpO_min wpO_slice wpO_sliceStr wpO_alloc wpO_box wpO_store wpO_call wpO_callv wpO_mkfn wpO_buildSlice wpO_mkslice wpO_append wpO_appz proA_nil proA_cons tmpX_nil tmpX_tmp tmpX_cell doneB_normal doneB_ret agK_cons agK_nil agK_guard agG_tt agG_ff agG_tf agG_ft agG_undef pureB_load results_one results_two results_nil resBs_cons resBs_nil resB_tmp resB_cell
attribute [local go_sem] kill_v kill_lp_ne kill_lp_same pro_v pro_lp_same pro_lp_ne av_v av_lp optB_some optX_some valX_eq ldX_lp ldX_v faX_lp faX_v ncX_lp ncX_ptr ncX_fn boxK_one boxK_agg stL_some stK_lp_one stK_lp_agg stK_v_one stK_v_agg proM_v proM_lp callG_mk callVG_mk callvK_fn fnG_mk ptrsA_nil ptrsA_cons callH_some whenA_true whenA_false guardH_tt guardH_ff guardH_tf guardH_ft guardH_undef agV_one agV_agg lenO_sl lenStrO_str notO_bool pickO_bool convO_int eqbO_bool eqnilO_sl extractO_tup capO_sl minO_int loadL_one loadL_all storeL_eq fillA_nil fillA_one fillA_agg nat_ge neg_ge nat_lt neg_lt buildO bin_add bin_sub bin_mul bin_eql bin_neq bin_lss bin_leq bin_gtr bin_geq str_eql str_neq str_lss str_leq str_gtr str_geq retK_some endK_mk gcK_same gcK_int gcK_bool tupO_one tupO_agg rdy_self ib ii Option.map_none Option.map_some Option.some.injEq exists_eq_left' exists_eq_left ne_eq not_false_eq_true if_true if_false List.map_cons List.map_nil List.getElem?_cons_zero List.getElem?_cons_succ List.length_cons List.length_nil List.take_succ_cons List.take_zero List.take_nil List.drop_succ_cons List.drop_zero List.drop_nil List.cons_append List.nil_append List.append_nil List.set_cons_zero List.set_cons_succ Nat.zero_add forall_const true_and and_true and_self Bool.false_eq_true false_implies true_implies implies_true Bool.not_true Bool.not_false Bool.not_eq_true' Bool.not_eq_false' beq_self_eq_true Bool.bne_true Bool.bne_false
attribute [local go_sem] lenI lenS lenP lenQ lenB lenL lenT encI_0 encS_0 encP_0 encP_1 encQ_0 encQ_1 encQ_2 encQ_3 encB_0 encB_1 encL_0 encL_1 encT_0 encT_1
attribute [local go_sem low] whenA_bool guardH_bool
def needAt (l : List Param) (s : ByteArray) : Bool := match l[(paramAt l s).toNat]? with | some p => !p.has | none => false
/-! laws.FnLackOf -/
def L4_0 : List AStep := [⟨.mov (.c (.bool false)), (some 2), none, []⟩]
theorem v4_0 : VS L4_0.eq_1 := rfl
def L4_1 : List AStep := [⟨.bin .gtr (.t 12) (.c (.int .i64 1048576)), (some 13), none, []⟩]
theorem v4_1 : VS L4_1.eq_1 := rfl
def L4_2 : List AStep := ⟨.mov (.t 0), (some 11), none, []⟩ :: ⟨.len (.t 11), (some 12), none, []⟩ :: L4_1
theorem v4_2 : VS L4_2.eq_1 := rfl
def L4_3 : List AStep := [⟨.mov (.c (.bool true)), (some 2), none, []⟩]
theorem v4_3 : VS L4_3.eq_1 := rfl
def L4_4 : List AStep := [⟨.alloc 31 [(.sl none 0 (some 0)), (.sl none 0 (some 0)), (.sl none 0 (some 0))], (some 3), none, []⟩, ⟨.store 3 (.t 3) (.t 15), none, none, []⟩]
theorem v4_4 : VS L4_4.eq_1 := rfl
def L4_5 : List AStep := ⟨.mov (.t 0), (some 14), none, []⟩ :: ⟨.call 17 [(.t 14)], (some 15), none, []⟩ :: L4_4
theorem v4_5 : VS L4_5.eq_1 := rfl
def L4_6 : List AStep := [⟨.mov (.t 17), (some 4), none, []⟩]
theorem v4_6 : VS L4_6.eq_1 := rfl
def L4_7 : List AStep := ⟨.load 3 true (.t 3), (some 16), none, []⟩ :: ⟨.call 18 [(.t 16)], (some 17), none, []⟩ :: L4_6
theorem v4_7 : VS L4_7.eq_1 := rfl
def L4_8 : List AStep := [⟨.not (.t 25), (some 26), (some (23, false)), []⟩, ⟨.pick (.t 23) (.c (.bool true)) (.t 26), (some 27), none, []⟩]
theorem v4_8 : VS L4_8.eq_1 := rfl
def L4_9 : List AStep := ⟨.load 3 true (.t 3), (some 24), (some (23, false)), []⟩ :: ⟨.call 13 [(.t 24)], (some 25), (some (23, false)), []⟩ :: L4_8
theorem v4_9 : VS L4_9.eq_1 := rfl
def L4_10 : List AStep := ⟨.not (.t 21), (some 22), none, []⟩ :: ⟨.mov (.t 22), (some 23), none, []⟩ :: L4_9
theorem v4_10 : VS L4_10.eq_1 := rfl
def L4_11 : List AStep := ⟨.call 19 [(.t 19)], (some 20), none, []⟩ :: ⟨.call 11 [(.t 18), (.t 20)], (some 21), none, []⟩ :: L4_10
theorem v4_11 : VS L4_11.eq_1 := rfl
def L4_12 : List AStep := ⟨.mov (.t 4), (some 18), none, []⟩ :: ⟨.load 3 true (.t 3), (some 19), none, []⟩ :: L4_11
theorem v4_12 : VS L4_12.eq_1 := rfl
def L4_13 : List AStep := [⟨.mov (.t 31), (some 2), none, []⟩]
theorem v4_13 : VS L4_13.eq_1 := rfl
def L4_14 : List AStep := ⟨.call 19 [(.t 29)], (some 30), none, []⟩ :: ⟨.call 11 [(.t 28), (.t 30)], (some 31), none, []⟩ :: L4_13
theorem v4_14 : VS L4_14.eq_1 := rfl
def L4_15 : List AStep := ⟨.mov (.t 4), (some 28), none, []⟩ :: ⟨.load 3 true (.t 3), (some 29), none, []⟩ :: L4_14
theorem v4_15 : VS L4_15.eq_1 := rfl
def L4_16 : List AStep := [⟨.mov (.t 33), (some 5), none, []⟩]
theorem v4_16 : VS L4_16.eq_1 := rfl
def L4_17 : List AStep := ⟨.load 3 true (.t 3), (some 32), none, []⟩ :: ⟨.call 10 [(.t 32)], (some 33), none, []⟩ :: L4_16
theorem v4_17 : VS L4_17.eq_1 := rfl
def L4_18 : List AStep := [⟨.mov (.c (.int .i64 0)), (some 6), none, []⟩]
theorem v4_18 : VS L4_18.eq_1 := rfl
def L4_19 : List AStep := [⟨.mov (.c (.int .i64 0)), (some 7), none, []⟩]
theorem v4_19 : VS L4_19.eq_1 := rfl
def L4_20 : List AStep := [⟨.len (.t 35), (some 36), none, []⟩, ⟨.bin .lss (.t 34) (.t 36), (some 37), none, []⟩]
theorem v4_20 : VS L4_20.eq_1 := rfl
def L4_21 : List AStep := ⟨.mov (.t 7), (some 34), none, []⟩ :: ⟨.mov (.t 5), (some 35), none, []⟩ :: L4_20
theorem v4_21 : VS L4_21.eq_1 := rfl
def L4_22 : List AStep := [⟨.load 1 false (.t 51), (some 52), none, []⟩, ⟨.not (.t 52), (some 53), none, []⟩]
theorem v4_22 : VS L4_22.eq_1 := rfl
def L4_23 : List AStep := ⟨.iaddr 4 (.t 42) (.t 49), (some 50), none, []⟩ :: ⟨.faddr 2 (.t 50), (some 51), none, []⟩ :: L4_22
theorem v4_23 : VS L4_23.eq_1 := rfl
def L4_24 : List AStep := ⟨.load 1 false (.t 47), (some 48), none, []⟩ :: ⟨.call 20 [(.t 44), (.t 48)], (some 49), none, [(.load 1 false (.t 41), (some 42), none)]⟩ :: L4_23
theorem v4_24 : VS L4_24.eq_1 := rfl
def L4_25 : List AStep := ⟨.mov (.t 7), (some 46), none, []⟩ :: ⟨.iaddr 1 (.t 45) (.t 46), (some 47), none, []⟩ :: L4_24
theorem v4_25 : VS L4_25.eq_1 := rfl
def L4_26 : List AStep := ⟨.load 1 true (.t 43), (some 44), none, []⟩ :: ⟨.mov (.t 5), (some 45), none, []⟩ :: L4_25
theorem v4_26 : VS L4_26.eq_1 := rfl
def L4_27 : List AStep := ⟨.load 1 false (.t 41), (some 42), none, []⟩ :: ⟨.faddr 0 (.t 3), (some 43), none, []⟩ :: L4_26
theorem v4_27 : VS L4_27.eq_1 := rfl
def L4_28 : List AStep := ⟨.faddr 0 (.t 3), (some 40), none, []⟩ :: ⟨.faddr 0 (.t 40), (some 41), none, []⟩ :: L4_27
theorem v4_28 : VS L4_28.eq_1 := rfl
def L4_29 : List AStep := [⟨.mov (.t 55), (some 6), none, []⟩]
theorem v4_29 : VS L4_29.eq_1 := rfl
def L4_30 : List AStep := ⟨.mov (.t 6), (some 54), none, []⟩ :: ⟨.bin .add (.t 54) (.c (.int .i64 1)), (some 55), none, []⟩ :: L4_29
theorem v4_30 : VS L4_30.eq_1 := rfl
def L4_31 : List AStep := [⟨.mov (.t 39), (some 7), none, []⟩]
theorem v4_31 : VS L4_31.eq_1 := rfl
def L4_32 : List AStep := ⟨.mov (.t 7), (some 38), none, []⟩ :: ⟨.bin .add (.t 38) (.c (.int .i64 1)), (some 39), none, []⟩ :: L4_31
theorem v4_32 : VS L4_32.eq_1 := rfl
def L4_33 : List AStep := [⟨.mov (.c (.int .i64 0)), (some 8), none, []⟩]
theorem v4_33 : VS L4_33.eq_1 := rfl
def L4_34 : List AStep := [⟨.len (.t 57), (some 58), none, []⟩, ⟨.bin .lss (.t 56) (.t 58), (some 59), none, []⟩]
theorem v4_34 : VS L4_34.eq_1 := rfl
def L4_35 : List AStep := ⟨.mov (.t 8), (some 56), none, []⟩ :: ⟨.mov (.t 4), (some 57), none, []⟩ :: L4_34
theorem v4_35 : VS L4_35.eq_1 := rfl
def L4_36 : List AStep := [⟨.not (.t 67), (some 68), none, []⟩]
theorem v4_36 : VS L4_36.eq_1 := rfl
def L4_37 : List AStep := ⟨.load 1 false (.t 65), (some 66), none, []⟩ :: ⟨.call 16 [(.t 62), (.t 66)], (some 67), none, []⟩ :: L4_36
theorem v4_37 : VS L4_37.eq_1 := rfl
def L4_38 : List AStep := ⟨.mov (.t 8), (some 64), none, []⟩ :: ⟨.iaddr 1 (.t 63) (.t 64), (some 65), none, []⟩ :: L4_37
theorem v4_38 : VS L4_38.eq_1 := rfl
def L4_39 : List AStep := ⟨.mov (.t 5), (some 62), none, []⟩ :: ⟨.mov (.t 4), (some 63), none, []⟩ :: L4_38
theorem v4_39 : VS L4_39.eq_1 := rfl
def L4_40 : List AStep := [⟨.mov (.c (.bool false)), (some 2), none, []⟩]
theorem v4_40 : VS L4_40.eq_1 := rfl
def L4_41 : List AStep := [⟨.mov (.t 61), (some 8), none, []⟩]
theorem v4_41 : VS L4_41.eq_1 := rfl
def L4_42 : List AStep := ⟨.mov (.t 8), (some 60), none, []⟩ :: ⟨.bin .add (.t 60) (.c (.int .i64 1)), (some 61), none, []⟩ :: L4_41
theorem v4_42 : VS L4_42.eq_1 := rfl
def L4_43 : List AStep := [⟨.mov (.t 74), (some 10), none, []⟩]
theorem v4_43 : VS L4_43.eq_1 := rfl
def L4_44 : List AStep := ⟨.alloc 39 [(.sl none 0 (some 0))], (some 9), none, []⟩ :: ⟨.store 1 (.t 9) (.t 73), none, none, []⟩ :: L4_43
theorem v4_44 : VS L4_44.eq_1 := rfl
def L4_45 : List AStep := ⟨.extract (.t 69) 0, (some 73), none, []⟩ :: ⟨.extract (.t 69) 1, (some 74), none, []⟩ :: L4_44
theorem v4_45 : VS L4_45.eq_1 := rfl
def L4_46 : List AStep := ⟨.call 21 [(.t 70), (.t 71)], (some 72), none, []⟩ :: ⟨.mov (.t 72), (some 69), none, []⟩ :: L4_45
theorem v4_46 : VS L4_46.eq_1 := rfl
def L4_47 : List AStep := ⟨.load 3 true (.t 3), (some 70), none, []⟩ :: ⟨.build [(.sl none 0 (some 0)), (.sl none 0 (some 0))] [], (some 71), none, []⟩ :: L4_46
theorem v4_47 : VS L4_47.eq_1 := rfl
def L4_48 : List AStep := [⟨.mov (.t 84), (some 2), none, []⟩]
theorem v4_48 : VS L4_48.eq_1 := rfl
def L4_49 : List AStep := ⟨.eqb false (.t 80) (.t 82), (some 83), (some (79, true)), []⟩ :: ⟨.pick (.t 79) (.t 83) (.c (.bool false)), (some 84), none, []⟩ :: L4_48
theorem v4_49 : VS L4_49.eq_1 := rfl
def L4_50 : List AStep := ⟨.mov (.t 6), (some 81), (some (79, true)), []⟩ :: ⟨.bin .eql (.t 81) (.c (.int .i64 0)), (some 82), (some (79, true)), []⟩ :: L4_49
theorem v4_50 : VS L4_50.eq_1 := rfl
def L4_51 : List AStep := ⟨.mov (.t 78), (some 79), none, []⟩ :: ⟨.mov (.t 10), (some 80), (some (79, true)), []⟩ :: L4_50
theorem v4_51 : VS L4_51.eq_1 := rfl
def L4_52 : List AStep := ⟨.len (.t 76), (some 77), none, []⟩ :: ⟨.bin .eql (.t 75) (.t 77), (some 78), none, []⟩ :: L4_51
theorem v4_52 : VS L4_52.eq_1 := rfl
def L4_53 : List AStep := ⟨.mov (.t 6), (some 75), none, []⟩ :: ⟨.mov (.t 4), (some 76), none, []⟩ :: L4_52
theorem v4_53 : VS L4_53.eq_1 := rfl
def C4_0 : ACode := .seq (.reg L4_3) .ret
theorem u4_0 : VC C4_0.eq_1 := rfl
def C4_1 : ACode := .cond (.t 13) C4_0 .skip
theorem u4_1 : VC C4_1.eq_1 := rfl
def C4_2 : ACode := .seq (.reg L4_2) C4_1
theorem u4_2 : VC C4_2.eq_1 := rfl
def C4_3 : ACode := .seq (.reg L4_15) .ret
theorem u4_3 : VC C4_3.eq_1 := rfl
def C4_4 : ACode := .cond (.t 27) C4_3 .skip
theorem u4_4 : VC C4_4.eq_1 := rfl
def C4_5 : ACode := .seq (.reg L4_12) C4_4
theorem u4_5 : VC C4_5.eq_1 := rfl
def C4_6 : ACode := .cond (.t 37) .skip (.exit 0)
theorem u4_6 : VC C4_6.eq_1 := rfl
def C4_7 : ACode := .seq (.reg L4_21) C4_6
theorem u4_7 : VC C4_7.eq_1 := rfl
def C4_8 : ACode := .cond (.t 53) (.reg L4_30) .skip
theorem u4_8 : VC C4_8.eq_1 := rfl
def C4_9 : ACode := .seq (.reg L4_28) C4_8
theorem u4_9 : VC C4_9.eq_1 := rfl
def C4_10 : ACode := .block 1 C4_9
theorem u4_10 : VC C4_10.eq_1 := rfl
def C4_11 : ACode := .seq C4_10 (.reg L4_32)
theorem u4_11 : VC C4_11.eq_1 := rfl
def C4_12 : ACode := .seq C4_7 C4_11
theorem u4_12 : VC C4_12.eq_1 := rfl
def C4_13 : ACode := .block 0 (.loop C4_12)
theorem u4_13 : VC C4_13.eq_1 := rfl
def C4_14 : ACode := .seq (.reg L4_19) C4_13
theorem u4_14 : VC C4_14.eq_1 := rfl
def C4_15 : ACode := .cond (.t 59) .skip (.exit 2)
theorem u4_15 : VC C4_15.eq_1 := rfl
def C4_16 : ACode := .seq (.reg L4_35) C4_15
theorem u4_16 : VC C4_16.eq_1 := rfl
def C4_17 : ACode := .seq (.reg L4_40) .ret
theorem u4_17 : VC C4_17.eq_1 := rfl
def C4_18 : ACode := .cond (.t 68) C4_17 .skip
theorem u4_18 : VC C4_18.eq_1 := rfl
def C4_19 : ACode := .seq (.reg L4_39) C4_18
theorem u4_19 : VC C4_19.eq_1 := rfl
def C4_20 : ACode := .block 3 C4_19
theorem u4_20 : VC C4_20.eq_1 := rfl
def C4_21 : ACode := .seq C4_20 (.reg L4_42)
theorem u4_21 : VC C4_21.eq_1 := rfl
def C4_22 : ACode := .seq C4_16 C4_21
theorem u4_22 : VC C4_22.eq_1 := rfl
def C4_23 : ACode := .block 2 (.loop C4_22)
theorem u4_23 : VC C4_23.eq_1 := rfl
def C4_24 : ACode := .seq (.reg L4_33) C4_23
theorem u4_24 : VC C4_24.eq_1 := rfl
def C4_25 : ACode := .seq (.reg L4_53) .ret
theorem u4_25 : VC C4_25.eq_1 := rfl
def C4_26 : ACode := .seq (.reg L4_47) C4_25
theorem u4_26 : VC C4_26.eq_1 := rfl
def C4_27 : ACode := .seq C4_24 C4_26
theorem u4_27 : VC C4_27.eq_1 := rfl
def C4_28 : ACode := .seq C4_14 C4_27
theorem u4_28 : VC C4_28.eq_1 := rfl
def C4_29 : ACode := .seq (.reg L4_18) C4_28
theorem u4_29 : VC C4_29.eq_1 := rfl
def C4_30 : ACode := .seq (.reg L4_17) C4_29
theorem u4_30 : VC C4_30.eq_1 := rfl
def C4_31 : ACode := .seq C4_5 C4_30
theorem u4_31 : VC C4_31.eq_1 := rfl
def C4_32 : ACode := .seq (.reg L4_7) C4_31
theorem u4_32 : VC C4_32.eq_1 := rfl
def C4_33 : ACode := .seq (.reg L4_5) C4_32
theorem u4_33 : VC C4_33.eq_1 := rfl
def C4_34 : ACode := .seq C4_2 C4_33
theorem u4_34 : VC C4_34.eq_1 := rfl
def C4_35 : ACode := .seq (.reg L4_0) C4_34
theorem u4_35 : VC C4_35.eq_1 := rfl
def F4 : AFunc := ⟨85, [.tmp 2], C4_35⟩
theorem cF4 : compB Try.prog 4 = some F4 := by kernel_rfl
attribute [local go_sem ↓] u4_0 u4_1 u4_2 u4_3 u4_4 u4_5 u4_6 u4_7 u4_8 u4_9 u4_10 u4_11 u4_12 u4_13 u4_14 u4_15 u4_16 u4_17 u4_18 u4_19 u4_20 u4_21 u4_22 u4_23 u4_24 u4_25 u4_26 u4_27 u4_28 u4_29 u4_30 u4_31 u4_32 u4_33 u4_34 u4_35 v4_0 v4_1 v4_2 v4_3 v4_4 v4_5 v4_6 v4_7 v4_8 v4_9 v4_10 v4_11 v4_12 v4_13 v4_14 v4_15 v4_16 v4_17 v4_18 v4_19 v4_20 v4_21 v4_22 v4_23 v4_24 v4_25 v4_26 v4_27 v4_28 v4_29 v4_30 v4_31 v4_32 v4_33 v4_34 v4_35 v4_36 v4_37 v4_38 v4_39 v4_40 v4_41 v4_42 v4_43 v4_44 v4_45 v4_46 v4_47 v4_48 v4_49 v4_50 v4_51 v4_52 v4_53
theorem law4 (h : H) (avs : List AV) (hok : okVs Try.prog h 6 [ 22 ] avs) : callK (bm Try.prog 4 avs h) fun r _ => r = ib true := by
  obtain ⟨v0, avs, rfl, hv0, hok⟩ := okVs_cons hok
  obtain rfl := okVs_nil hok
  obtain ⟨v, code, rfl, s0, hc, k0⟩ := dBytes hv0
  refine bm_of cF4 ?_
  cases b0 : decide ((code.length : Int) > 1048576) with
  | true => simp +contextual (maxSteps := 2000000) only [go_sem, Nat.reduceEqDiff, reduceCtorEq, Nat.reduceAdd, Nat.reduceLeDiff, F4, s0.len, b0]
  | false =>
  simp +contextual (maxSteps := 2000000) only [go_sem, Nat.reduceEqDiff, reduceCtorEq, Nat.reduceAdd, Nat.reduceLeDiff, F4, s0.len, b0]
  refine wp_call (c_drawLackOf code v h s0 hc) ?_
  rintro q h1 ⟨g1, u, x, y, l, f, rfl, sq, sf, tl, mf⟩
  have sd : SlD h1 u x y ⟨l, f⟩ := ⟨⟨sq⟩, sf⟩
  have md : miniD ⟨l, f⟩ := ⟨tl.mini, mf⟩
  simp +contextual (maxSteps := 2000000) only [go_sem, Nat.reduceEqDiff, reduceCtorEq, Nat.reduceAdd, Nat.reduceLeDiff]
  refine wp_call (k_iLackOf ⟨l, f⟩ u x y h1 sd md) ?_
  rintro q2 h2 ⟨g2, w2, rfl, n2⟩
  have sd2 : SlD h2 u x y ⟨l, f⟩ := ⟨sd.g.grow g2, sd.f.grow g2⟩
  simp +contextual (maxSteps := 2000000) only [go_sem, Nat.reduceEqDiff, reduceCtorEq, Nat.reduceAdd, Nat.reduceLeDiff]
  refine wp_call (k_sLackOf ⟨l, f⟩ u x y h2 sd2 md) ?_
  rintro q3 h3 ⟨g3, w3, rfl, n3⟩
  have sd3 : SlD h3 u x y ⟨l, f⟩ := ⟨sd2.g.grow g3, sd2.f.grow g3⟩
  have s2 : SlS h3 (.one w2) (lackF l f) := (n2.out.grow g3).sl lenS
  have hz : (lackF l f).length ≤ big := miniZ.all
  have eqs : ∀ (h' : H) (a b : CV), SlS h' (.one a) (lackF l f) → SlS h' (.one b) (lackF l f) → bm Try.prog 11 [.one a, .one b] h' = some (ib true, h') := fun h' a b x y => by
    have := c_equalTexts (lackF l f) (lackF l f) _ _ h' x y hz
    rwa [decide_eq_true rfl] at this
  have eq1 := eqs h3 w2 w3 s2 (n3.out.sl lenS)
  have ev := k_iValidPartial ⟨l, f⟩ u x y h3 sd3 md
  cases b1 : partOk l f with
  | false =>
    simp +contextual (maxSteps := 2000000) only [go_sem, Nat.reduceEqDiff, reduceCtorEq, Nat.reduceAdd, Nat.reduceLeDiff, eq1, ev, b1]
    refine wp_call (k_sLackOf ⟨l, f⟩ u x y h3 sd3 md) ?_
    rintro q4 h4 ⟨g4, w4, rfl, n4⟩
    have eq2 := eqs h4 w2 w4 (s2.grow g4) (n4.out.sl lenS)
    simp +contextual (maxSteps := 2000000) only [go_sem, Nat.reduceEqDiff, reduceCtorEq, Nat.reduceAdd, Nat.reduceLeDiff, eq2]
    exact gcK_of rfl (fun _ _ => rfl)
  | true =>
  have ok1 := (part_fits b1).1
  have hl8 := okSig_len ok1
  simp +contextual (maxSteps := 2000000) only [go_sem, Nat.reduceEqDiff, reduceCtorEq, Nat.reduceAdd, Nat.reduceLeDiff, eq1, ev, b1]
  refine wp_call (k_iFreeParams ⟨l, f⟩ u x y h3 sd3 md) ?_
  rintro q4 h4 ⟨g4, w4, rfl, n4⟩
  have sd4 : SlD h4 u x y ⟨l, f⟩ := ⟨sd3.g.grow g4, sd3.f.grow g4⟩
  have s4 : SlS h4 (.one w4) (freeAll l f) := n4.out.sl lenS
  have s24 := s2.grow g4
  have hfl : (freeAll l f).length ≤ 8 := by
    unfold freeAll freeF
    rw [if_pos b1]
    exact Nat.le_trans pickF_len hl8
  have hll : (lackF l f).length ≤ 8 := by
    unfold lackF freeF
    rw [if_pos b1]
    exact Nat.le_trans pickF_len hl8
  have hcount := lack_count b1
  have hfree := lack_free b1
  have hin : ∀ i (hi : i < (freeAll l f).length), ∃ j, ∃ hj : j < l.length, paramAt l (freeAll l f)[i] = j := fun i hi => by
    have hm := List.getElem_mem hi
    have hm2 : (freeAll l f)[i] ∈ freeF (fun _ => true) l f := hm
    unfold freeF at hm2
    rw [if_pos b1] at hm2
    obtain ⟨j, hj, _, e⟩ := pickF_mem hm2
    refine ⟨j, hj, ?_⟩
    rw [e, nameAt_eq hj]
    exact param_self (Ord.of ok1) hj
  have ecall := fun s => c_FindParam l u s h4 sd4.g md.g ok1
  have hacc := accepts_lack b1
  have hz2 : (freeAll l f).length ≤ big := miniZ.all
  have hfull := full_nil b1
  generalize freeAll l f = fr at s4 hfl hcount hfree hin hz2
  simp +contextual (maxSteps := 2000000) only [go_sem, Nat.reduceEqDiff, reduceCtorEq, Nat.reduceAdd, Nat.reduceLeDiff]
  refine wpC_loop (fun i T L h' => h' = h4 ∧ T 3 = .lp 3 0 ∧ (L 3).2 = [u, x, y] ∧ T 4 = .v (.one w2) ∧ T 5 = .v (.one w4) ∧ T 6 = .v (.one (.int .i64 (cnt (needAt l) fr i : Nat))) ∧ T 7 = .v (.one (.int .i64 (i : Nat)))) fr.length ?_ ?_ (Nat.zero_le _) ?_
  · rintro i T L h' hi ⟨rfl, t3, l3, t4, t5, t6, t7⟩
    obtain ⟨j, hj, ej⟩ := hin i hi
    have sq4 := sd4.g.out
    have en : needAt l fr[i] = !l[j].has := by
      unfold needAt
      rw [ej, Int.toNat_natCast, List.getElem?_eq_getElem hj]
    have hc1 := cnt_le (p := needAt l) (l := fr) (i := i)
    have ec := ecall fr[i]
    rw [ej] at ec
    cases b : l[j].has with
    | true =>
      rw [b] at en
      simp +contextual (maxSteps := 2000000) only [go_sem, Nat.reduceEqDiff, reduceCtorEq, Nat.reduceAdd, Nat.reduceLeDiff, t3, l3, t4, t5, t6, t7, s4.len, s4.iaddr hi, s4.oneO hi, ec, sq4.iaddr hj, sq4.fieldO hj, b, lt_true hi]
      exact ⟨by rw [cnt_next hi, en]; rfl, by rw [wrap_next hi (by omega)]⟩
    | false =>
      rw [b] at en
      simp +contextual (maxSteps := 2000000) only [go_sem, Nat.reduceEqDiff, reduceCtorEq, Nat.reduceAdd, Nat.reduceLeDiff, t3, l3, t4, t5, t6, t7, s4.len, s4.iaddr hi, s4.oneO hi, ec, sq4.iaddr hj, sq4.fieldO hj, b, lt_true hi]
      refine ⟨?_, by rw [wrap_next hi (by omega)]⟩
      rw [cnt_next hi, en, i64_wrap (by omega) (by omega)]
      simp
  · rintro T L h' ⟨rfl, t3, l3, t4, t5, t6, t7⟩
    have e6 : cnt (needAt l) fr fr.length = (lackF l f).length := by rw [cnt_all]; exact hcount
    rw [e6] at t6
    simp +contextual (maxSteps := 2000000) only [go_sem, Nat.reduceEqDiff, reduceCtorEq, Nat.reduceAdd, Nat.reduceLeDiff, t3, l3, t4, t5, t6, t7, s4.len, lt_false]
    refine wpC_loop (fun i T L h2 => h2 = h' ∧ T 3 = .lp 3 0 ∧ (L 3).2 = [u, x, y] ∧ T 4 = .v (.one w2) ∧ T 5 = .v (.one w4) ∧ T 6 = .v (.one (.int .i64 ((lackF l f).length : Nat))) ∧ T 8 = .v (.one (.int .i64 (i : Nat)))) (lackF l f).length ?_ ?_ (Nat.zero_le _) ?_
    · rintro i T L h2 hi ⟨rfl, t3, l3, t4, t5, t6, t8⟩
      have eh := c_hasText fr (.one w4) (lackF l f)[i] h2 s4 hz2
      rw [hfree _ (List.getElem_mem hi)] at eh
      simp +contextual (maxSteps := 2000000) only [go_sem, Nat.reduceEqDiff, reduceCtorEq, Nat.reduceAdd, Nat.reduceLeDiff, t3, l3, t4, t5, t6, t8, s24.len, s24.iaddr hi, s24.oneO hi, eh, lt_true hi]
      rw [wrap_next hi (by omega)]
    · rintro T L h2 ⟨rfl, t3, l3, t4, t5, t6, t8⟩
      have snil : SlF h2 (.sl none 0 (some 0)) (.sl none 0 (some 0)) ⟨[], []⟩ := (NwF.nil (h0 := h2)).sl
      have ebb : ∀ b : Bool, (b == b) = true := fun b => by cases b <;> rfl
      simp +contextual (maxSteps := 2000000) only [go_sem, Nat.reduceEqDiff, reduceCtorEq, Nat.reduceAdd, Nat.reduceLeDiff, t3, l3, t4, t5, t6, t8, s24.len, lt_false]
      refine wp_call (k_iCallPartial ⟨l, f⟩ ⟨[], []⟩ f u x y _ _ h2 sd4 snil md .nil hfull) ?_
      rintro q5 h5 ⟨g5, v5, r5, rfl, y5⟩
      have s25 := s24.grow g5
      simp +contextual (maxSteps := 2000000) only [go_sem, Nat.reduceEqDiff, reduceCtorEq, Nat.reduceAdd, Nat.reduceLeDiff, t3, l3, t4, t5, t6, t8, s25.len, decide_true, hacc, ebb]
      exact gcK_of rfl (fun _ _ => rfl)
    · simp +contextual (maxSteps := 2000000) only [go_sem, Nat.reduceEqDiff, reduceCtorEq, Nat.reduceAdd, Nat.reduceLeDiff, t3, l3, t4, t5, t6]
      rfl
  · simp +contextual (maxSteps := 2000000) only [go_sem, Nat.reduceEqDiff, reduceCtorEq, Nat.reduceAdd, Nat.reduceLeDiff]
    exact ⟨by rw [cnt_zero]; rfl, rfl⟩
end Go.Proofs.Ytekkimfdcbgcoac.Am
