/- Contracts: the signature of a partial call, of both sides. -/
import Derived.Test.YtekkimfdcbgcoabPS
import Derived.Test.YtekkimfdcbgcoabPA
import Derived.Test.YtekkimfdcbgcoabDS
import Derived.Test.YtekkimfdcbgcoabDC
namespace Go.Proofs.Ytekkimfdcbgcoab.Am
open Go
attribute [local go_sem] loadL_agg
set_option maxRecDepth 100000
set_option maxHeartbeats 4000000
set_option linter.unusedSimpArgs false
set_option linter.unusedVariables false
attribute [local go_sem ↓] bv_t bv_c ev_t ev_c put_same put_ne put_none kill_at pro_at lb_same lb_ne start_zero start_succ wpC_seq wpC_reg wpC_cond wpC_block wpC_skip wpC_exit wpC_ret thenQ_normal thenQ_exit thenQ_ret inBlk_normal inBlk_exit inBlk_ret wpS_nil wpS_step wpS_again wpS_guard wpO_mov wpO_load wpO_faddr wpO_nilCheck wpO_pick wpO_build wpO_bin wpO_eqb wpO_eqst wpO_eqnil wpO_not wpO_conv wpO_bytesStr wpO_iaddr wpO_idxStr wpO_field wpO_extract wpO_len wpO_lenStr wpO_cap wpO_min wpO_slice wpO_sliceStr wpO_alloc wpO_box wpO_store wpO_call wpO_callv wpO_mkfn wpO_buildSlice wpO_mkslice wpO_append wpO_appz proA_nil proA_cons tmpX_nil tmpX_tmp tmpX_cell doneB_normal doneB_ret agK_cons agK_nil agK_guard agG_tt agG_ff agG_tf agG_ft agG_undef pureB_load results_one results_two results_nil resBs_cons resBs_nil resB_tmp resB_cell
attribute [local go_sem] kill_v kill_lp_ne kill_lp_same pro_v pro_lp_same pro_lp_ne av_v av_lp optB_some optX_some valX_eq ldX_lp ldX_v faX_lp faX_v ncX_lp ncX_ptr ncX_fn boxK_one boxK_agg stL_some stK_lp_one stK_lp_agg stK_v_one stK_v_agg proM_v proM_lp callG_mk callVG_mk callvK_fn fnG_mk ptrsA_nil ptrsA_cons callH_some whenA_true whenA_false guardH_tt guardH_ff guardH_tf guardH_ft guardH_undef agV_one agV_agg lenO_sl lenStrO_str notO_bool pickO_bool convO_int eqbO_bool eqnilO_sl extractO_tup capO_sl minO_int loadL_one loadL_all storeL_eq fillA_nil fillA_one fillA_agg nat_ge neg_ge nat_lt neg_lt buildO bin_add bin_sub bin_mul bin_eql bin_neq bin_lss bin_leq bin_gtr bin_geq str_eql str_neq str_lss str_leq str_gtr str_geq retK_some endK_mk gcK_same gcK_int gcK_bool tupO_one tupO_agg rdy_self ib ii Option.map_none Option.map_some Option.some.injEq exists_eq_left' exists_eq_left ne_eq not_false_eq_true if_true if_false List.map_cons List.map_nil List.getElem?_cons_zero List.getElem?_cons_succ List.length_cons List.length_nil List.take_succ_cons List.take_zero List.take_nil List.drop_succ_cons List.drop_zero List.drop_nil List.cons_append List.nil_append List.append_nil List.set_cons_zero List.set_cons_succ Nat.zero_add forall_const true_and and_true and_self Bool.false_eq_true false_implies true_implies implies_true Bool.not_true Bool.not_false Bool.not_eq_true' Bool.not_eq_false' beq_self_eq_true Bool.bne_true Bool.bne_false
attribute [local go_sem] lenI lenS lenP lenQ lenB lenL lenT encI_0 encS_0 encP_0 encP_1 encQ_0 encQ_1 encQ_2 encQ_3 encB_0 encB_1 encL_0 encL_1 encT_0 encT_1
attribute [local go_sem low] whenA_bool guardH_bool
/-! impl.PartialSignature -/
def L21_0 : List AStep := [⟨.mov (.c (.bool false)), (some 3), none, []⟩]
theorem v21_0 : VS L21_0.eq_1 := rfl
def L21_1 : List AStep := ⟨.box 44 (.t 0), (some 1), none, []⟩ :: ⟨.alloc 25 [(.sl none 0 (some 0))], (some 2), none, []⟩ :: L21_0
theorem v21_1 : VS L21_1.eq_1 := rfl
def L21_2 : List AStep := [⟨.not (.t 11), (some 12), none, []⟩]
theorem v21_2 : VS L21_2.eq_1 := rfl
def L21_3 : List AStep := ⟨.load 3 true (.t 1), (some 10), none, []⟩ :: ⟨.call 59 [(.t 10)], (some 11), none, []⟩ :: L21_2
theorem v21_3 : VS L21_3.eq_1 := rfl
def L21_4 : List AStep := [⟨.mov (.c (.bool false)), (some 3), none, []⟩]
theorem v21_4 : VS L21_4.eq_1 := rfl
def L21_5 : List AStep := ⟨.build [(.sl none 0 (some 0))] [], (some 13), none, []⟩ :: ⟨.store 1 (.t 2) (.t 13), none, none, []⟩ :: L21_4
theorem v21_5 : VS L21_5.eq_1 := rfl
def L21_6 : List AStep := [⟨.alloc 25 [(.sl none 0 (some 0))], (some 4), none, []⟩]
theorem v21_6 : VS L21_6.eq_1 := rfl
def L21_7 : List AStep := [⟨.mov (.t 17), (some 5), none, []⟩]
theorem v21_7 : VS L21_7.eq_1 := rfl
def L21_8 : List AStep := ⟨.load 1 false (.t 15), (some 16), none, []⟩ :: ⟨.len (.t 16), (some 17), none, []⟩ :: L21_7
theorem v21_8 : VS L21_8.eq_1 := rfl
def L21_9 : List AStep := ⟨.faddr 1 (.t 1), (some 14), none, []⟩ :: ⟨.faddr 0 (.t 14), (some 15), none, []⟩ :: L21_8
theorem v21_9 : VS L21_9.eq_1 := rfl
def L21_10 : List AStep := [⟨.mov (.c (.bool false)), (some 6), none, []⟩]
theorem v21_10 : VS L21_10.eq_1 := rfl
def L21_11 : List AStep := [⟨.mov (.c (.int .i64 0)), (some 22), none, []⟩]
theorem v21_11 : VS L21_11.eq_1 := rfl
def L21_12 : List AStep := ⟨.load 1 false (.t 19), (some 20), none, []⟩ :: ⟨.len (.t 20), (some 21), none, []⟩ :: L21_11
theorem v21_12 : VS L21_12.eq_1 := rfl
def L21_13 : List AStep := ⟨.faddr 0 (.t 1), (some 18), none, []⟩ :: ⟨.faddr 0 (.t 18), (some 19), none, []⟩ :: L21_12
theorem v21_13 : VS L21_13.eq_1 := rfl
def L21_14 : List AStep := [⟨.bin .lss (.t 22) (.t 21), (some 23), none, []⟩]
theorem v21_14 : VS L21_14.eq_1 := rfl
def L21_15 : List AStep := [⟨.alloc 39 [(.str (strOfNums [])), (.int .i64 0), (.bool false), (.int .i64 0)], (some 8), none, []⟩, ⟨.store 4 (.t 8) (.t 25), none, none, []⟩]
theorem v21_15 : VS L21_15.eq_1 := rfl
def L21_16 : List AStep := ⟨.iaddr 4 (.t 20) (.t 22), (some 24), none, []⟩ :: ⟨.load 4 true (.t 24), (some 25), none, []⟩ :: L21_15
theorem v21_16 : VS L21_16.eq_1 := rfl
def L21_17 : List AStep := [⟨.bin .gtr (.t 29) (.c (.int .i64 0)), (some 30), (some (28, true)), []⟩, ⟨.pick (.t 28) (.t 30) (.c (.bool false)), (some 31), none, []⟩]
theorem v21_17 : VS L21_17.eq_1 := rfl
def L21_18 : List AStep := ⟨.mov (.t 27), (some 28), none, []⟩ :: ⟨.mov (.t 5), (some 29), (some (28, true)), []⟩ :: L21_17
theorem v21_18 : VS L21_18.eq_1 := rfl
def L21_19 : List AStep := ⟨.load 4 true (.t 8), (some 26), none, []⟩ :: ⟨.call 51 [(.t 26)], (some 27), none, []⟩ :: L21_18
theorem v21_19 : VS L21_19.eq_1 := rfl
def L21_20 : List AStep := [⟨.mov (.t 33), (some 5), none, []⟩]
theorem v21_20 : VS L21_20.eq_1 := rfl
def L21_21 : List AStep := ⟨.mov (.t 5), (some 32), none, []⟩ :: ⟨.bin .sub (.t 32) (.c (.int .i64 1)), (some 33), none, []⟩ :: L21_20
theorem v21_21 : VS L21_21.eq_1 := rfl
def L21_22 : List AStep := [⟨.mov (.t 39), (some 9), none, []⟩]
theorem v21_22 : VS L21_22.eq_1 := rfl
def L21_23 : List AStep := ⟨.load 1 false (.t 37), (some 38), none, []⟩ :: ⟨.call 62 [(.t 36), (.t 38)], (some 39), none, []⟩ :: L21_22
theorem v21_23 : VS L21_23.eq_1 := rfl
def L21_24 : List AStep := ⟨.load 1 false (.t 35), (some 36), none, []⟩ :: ⟨.faddr 0 (.t 8), (some 37), none, []⟩ :: L21_23
theorem v21_24 : VS L21_24.eq_1 := rfl
def L21_25 : List AStep := ⟨.faddr 1 (.t 1), (some 34), none, []⟩ :: ⟨.faddr 1 (.t 34), (some 35), none, []⟩ :: L21_24
theorem v21_25 : VS L21_25.eq_1 := rfl
def L21_26 : List AStep := [⟨.call 63 [(.t 43)], (some 44), (some (42, true)), []⟩, ⟨.pick (.t 42) (.t 44) (.c (.bool false)), (some 45), none, []⟩]
theorem v21_26 : VS L21_26.eq_1 := rfl
def L21_27 : List AStep := ⟨.mov (.t 41), (some 42), none, []⟩ :: ⟨.load 4 true (.t 8), (some 43), (some (42, true)), []⟩ :: L21_26
theorem v21_27 : VS L21_27.eq_1 := rfl
def L21_28 : List AStep := ⟨.mov (.t 9), (some 40), none, []⟩ :: ⟨.bin .geq (.t 40) (.c (.int .i64 0)), (some 41), none, []⟩ :: L21_27
theorem v21_28 : VS L21_28.eq_1 := rfl
def L21_29 : List AStep := [⟨.store 1 (.t 54) (.t 52), none, none, []⟩]
theorem v21_29 : VS L21_29.eq_1 := rfl
def L21_30 : List AStep := ⟨.store 1 (.t 53) (.c (.bool true)), none, none, [(.load 1 false (.t 47), (some 48), none), (.load 1 false (.t 51), (some 52), none)]⟩ :: ⟨.faddr 3 (.t 8), (some 54), none, []⟩ :: L21_29
theorem v21_30 : VS L21_30.eq_1 := rfl
def L21_31 : List AStep := ⟨.load 1 false (.t 51), (some 52), none, []⟩ :: ⟨.faddr 2 (.t 8), (some 53), none, []⟩ :: L21_30
theorem v21_31 : VS L21_31.eq_1 := rfl
def L21_32 : List AStep := ⟨.iaddr 2 (.t 48) (.t 49), (some 50), none, []⟩ :: ⟨.faddr 1 (.t 50), (some 51), none, []⟩ :: L21_31
theorem v21_32 : VS L21_32.eq_1 := rfl
def L21_33 : List AStep := ⟨.load 1 false (.t 47), (some 48), none, []⟩ :: ⟨.mov (.t 9), (some 49), none, []⟩ :: L21_32
theorem v21_33 : VS L21_33.eq_1 := rfl
def L21_34 : List AStep := ⟨.faddr 1 (.t 1), (some 46), none, []⟩ :: ⟨.faddr 1 (.t 46), (some 47), none, []⟩ :: L21_33
theorem v21_34 : VS L21_34.eq_1 := rfl
def L21_35 : List AStep := [⟨.mov (.t 60), (some 6), none, []⟩]
theorem v21_35 : VS L21_35.eq_1 := rfl
def L21_36 : List AStep := ⟨.bin .eql (.t 58) (.c (.int .i64 1)), (some 59), (some (56, false)), []⟩ :: ⟨.pick (.t 56) (.c (.bool true)) (.t 59), (some 60), none, []⟩ :: L21_35
theorem v21_36 : VS L21_36.eq_1 := rfl
def L21_37 : List AStep := ⟨.faddr 1 (.t 8), (some 57), (some (56, false)), []⟩ :: ⟨.load 1 false (.t 57), (some 58), (some (56, false)), []⟩ :: L21_36
theorem v21_37 : VS L21_37.eq_1 := rfl
def L21_38 : List AStep := ⟨.mov (.t 6), (some 55), none, []⟩ :: ⟨.mov (.t 55), (some 56), none, []⟩ :: L21_37
theorem v21_38 : VS L21_38.eq_1 := rfl
def L21_39 : List AStep := [⟨.bin .eql (.t 64) (.c (.int .i64 2)), (some 65), (some (62, true)), []⟩, ⟨.pick (.t 62) (.t 65) (.c (.bool false)), (some 66), none, []⟩]
theorem v21_39 : VS L21_39.eq_1 := rfl
def L21_40 : List AStep := ⟨.faddr 1 (.t 8), (some 63), (some (62, true)), []⟩ :: ⟨.load 1 false (.t 63), (some 64), (some (62, true)), []⟩ :: L21_39
theorem v21_40 : VS L21_40.eq_1 := rfl
def L21_41 : List AStep := ⟨.mov (.t 6), (some 61), none, []⟩ :: ⟨.mov (.t 61), (some 62), none, []⟩ :: L21_40
theorem v21_41 : VS L21_41.eq_1 := rfl
def L21_42 : List AStep := [⟨.bin .eql (.t 70) (.c (.int .i64 1)), (some 71), (some (68, true)), []⟩, ⟨.pick (.t 68) (.t 71) (.c (.bool false)), (some 72), none, []⟩]
theorem v21_42 : VS L21_42.eq_1 := rfl
def L21_43 : List AStep := ⟨.faddr 1 (.t 8), (some 69), (some (68, true)), []⟩ :: ⟨.load 1 false (.t 69), (some 70), (some (68, true)), []⟩ :: L21_42
theorem v21_43 : VS L21_43.eq_1 := rfl
def L21_44 : List AStep := ⟨.mov (.t 6), (some 67), none, []⟩ :: ⟨.mov (.t 67), (some 68), none, []⟩ :: L21_43
theorem v21_44 : VS L21_44.eq_1 := rfl
def L21_45 : List AStep := [⟨.faddr 1 (.t 8), (some 73), none, []⟩, ⟨.store 1 (.t 73) (.c (.int .i64 3)), none, none, []⟩]
theorem v21_45 : VS L21_45.eq_1 := rfl
def L21_46 : List AStep := [⟨.store 1 (.t 79) (.t 78), none, none, []⟩]
theorem v21_46 : VS L21_46.eq_1 := rfl
def L21_47 : List AStep := ⟨.append 39 4 40 (.t 75) (.t 77), (some 78), none, []⟩ :: ⟨.faddr 0 (.t 4), (some 79), none, []⟩ :: L21_46
theorem v21_47 : VS L21_47.eq_1 := rfl
def L21_48 : List AStep := ⟨.load 4 true (.t 8), (some 76), none, []⟩ :: ⟨.buildSlice 39 1 [(.str (strOfNums [])), (.int .i64 0), (.bool false), (.int .i64 0)] [(0, 4, (.t 76))], (some 77), none, []⟩ :: L21_47
theorem v21_48 : VS L21_48.eq_1 := rfl
def L21_49 : List AStep := ⟨.faddr 0 (.t 4), (some 74), none, []⟩ :: ⟨.load 1 false (.t 74), (some 75), none, []⟩ :: L21_48
theorem v21_49 : VS L21_49.eq_1 := rfl
def L21_50 : List AStep := [⟨.bin .add (.t 22) (.c (.int .i64 1)), (some 80), none, []⟩, ⟨.mov (.t 80), (some 22), none, []⟩]
theorem v21_50 : VS L21_50.eq_1 := rfl
def L21_51 : List AStep := [⟨.not (.t 82), (some 83), none, []⟩]
theorem v21_51 : VS L21_51.eq_1 := rfl
def L21_52 : List AStep := ⟨.load 1 true (.t 4), (some 81), none, []⟩ :: ⟨.call 31 [(.t 81)], (some 82), none, []⟩ :: L21_51
theorem v21_52 : VS L21_52.eq_1 := rfl
def L21_53 : List AStep := [⟨.mov (.c (.bool false)), (some 3), none, []⟩]
theorem v21_53 : VS L21_53.eq_1 := rfl
def L21_54 : List AStep := ⟨.build [(.sl none 0 (some 0))] [], (some 84), none, []⟩ :: ⟨.store 1 (.t 2) (.t 84), none, none, []⟩ :: L21_53
theorem v21_54 : VS L21_54.eq_1 := rfl
def L21_55 : List AStep := [⟨.store 1 (.t 2) (.t 86), none, none, []⟩, ⟨.mov (.c (.bool true)), (some 3), none, []⟩]
theorem v21_55 : VS L21_55.eq_1 := rfl
def L21_56 : List AStep := ⟨.load 1 true (.t 4), (some 85), none, []⟩ :: ⟨.call 60 [(.t 85)], (some 86), none, []⟩ :: L21_55
theorem v21_56 : VS L21_56.eq_1 := rfl
def C21_0 : ACode := .seq (.reg L21_5) .ret
theorem u21_0 : VC C21_0.eq_1 := rfl
def C21_1 : ACode := .cond (.t 12) C21_0 .skip
theorem u21_1 : VC C21_1.eq_1 := rfl
def C21_2 : ACode := .seq (.reg L21_3) C21_1
theorem u21_2 : VC C21_2.eq_1 := rfl
def C21_3 : ACode := .cond (.t 23) .skip (.exit 0)
theorem u21_3 : VC C21_3.eq_1 := rfl
def C21_4 : ACode := .seq (.reg L21_21) (.exit 1)
theorem u21_4 : VC C21_4.eq_1 := rfl
def C21_5 : ACode := .cond (.t 31) C21_4 .skip
theorem u21_5 : VC C21_5.eq_1 := rfl
def C21_6 : ACode := .seq (.reg L21_19) C21_5
theorem u21_6 : VC C21_6.eq_1 := rfl
def C21_7 : ACode := .seq (.reg L21_34) (.reg L21_38)
theorem u21_7 : VC C21_7.eq_1 := rfl
def C21_8 : ACode := .cond (.t 45) C21_7 .skip
theorem u21_8 : VC C21_8.eq_1 := rfl
def C21_9 : ACode := .seq (.reg L21_28) C21_8
theorem u21_9 : VC C21_9.eq_1 := rfl
def C21_10 : ACode := .seq (.reg L21_25) C21_9
theorem u21_10 : VC C21_10.eq_1 := rfl
def C21_11 : ACode := .cond (.t 66) (.exit 1) .skip
theorem u21_11 : VC C21_11.eq_1 := rfl
def C21_12 : ACode := .seq (.reg L21_41) C21_11
theorem u21_12 : VC C21_12.eq_1 := rfl
def C21_13 : ACode := .cond (.t 72) (.reg L21_45) .skip
theorem u21_13 : VC C21_13.eq_1 := rfl
def C21_14 : ACode := .seq (.reg L21_44) C21_13
theorem u21_14 : VC C21_14.eq_1 := rfl
def C21_15 : ACode := .seq C21_14 (.reg L21_49)
theorem u21_15 : VC C21_15.eq_1 := rfl
def C21_16 : ACode := .seq C21_12 C21_15
theorem u21_16 : VC C21_16.eq_1 := rfl
def C21_17 : ACode := .seq C21_10 C21_16
theorem u21_17 : VC C21_17.eq_1 := rfl
def C21_18 : ACode := .seq C21_6 C21_17
theorem u21_18 : VC C21_18.eq_1 := rfl
def C21_19 : ACode := .seq (.reg L21_16) C21_18
theorem u21_19 : VC C21_19.eq_1 := rfl
def C21_20 : ACode := .block 1 C21_19
theorem u21_20 : VC C21_20.eq_1 := rfl
def C21_21 : ACode := .seq C21_20 (.reg L21_50)
theorem u21_21 : VC C21_21.eq_1 := rfl
def C21_22 : ACode := .seq C21_3 C21_21
theorem u21_22 : VC C21_22.eq_1 := rfl
def C21_23 : ACode := .seq (.reg L21_14) C21_22
theorem u21_23 : VC C21_23.eq_1 := rfl
def C21_24 : ACode := .block 0 (.loop C21_23)
theorem u21_24 : VC C21_24.eq_1 := rfl
def C21_25 : ACode := .seq (.reg L21_13) C21_24
theorem u21_25 : VC C21_25.eq_1 := rfl
def C21_26 : ACode := .seq (.reg L21_54) .ret
theorem u21_26 : VC C21_26.eq_1 := rfl
def C21_27 : ACode := .cond (.t 83) C21_26 .skip
theorem u21_27 : VC C21_27.eq_1 := rfl
def C21_28 : ACode := .seq (.reg L21_52) C21_27
theorem u21_28 : VC C21_28.eq_1 := rfl
def C21_29 : ACode := .seq (.reg L21_56) .ret
theorem u21_29 : VC C21_29.eq_1 := rfl
def C21_30 : ACode := .seq C21_28 C21_29
theorem u21_30 : VC C21_30.eq_1 := rfl
def C21_31 : ACode := .seq C21_25 C21_30
theorem u21_31 : VC C21_31.eq_1 := rfl
def C21_32 : ACode := .seq (.reg L21_10) C21_31
theorem u21_32 : VC C21_32.eq_1 := rfl
def C21_33 : ACode := .seq (.reg L21_9) C21_32
theorem u21_33 : VC C21_33.eq_1 := rfl
def C21_34 : ACode := .seq (.reg L21_6) C21_33
theorem u21_34 : VC C21_34.eq_1 := rfl
def C21_35 : ACode := .seq C21_2 C21_34
theorem u21_35 : VC C21_35.eq_1 := rfl
def C21_36 : ACode := .seq (.reg L21_1) C21_35
theorem u21_36 : VC C21_36.eq_1 := rfl
def F21 : AFunc := ⟨87, [.cell 2 1 true, .tmp 3], C21_36⟩
theorem cF21 : compB Try.prog 21 = some F21 := by kernel_rfl
attribute [local go_sem ↓] u21_0 u21_1 u21_2 u21_3 u21_4 u21_5 u21_6 u21_7 u21_8 u21_9 u21_10 u21_11 u21_12 u21_13 u21_14 u21_17 u21_18 u21_19 u21_20 u21_21 u21_22 u21_23 u21_24 u21_25 u21_26 u21_27 u21_28 u21_29 u21_30 u21_31 u21_32 u21_33 u21_34 u21_35 u21_36 v21_0 v21_1 v21_2 v21_3 v21_4 v21_5 v21_6 v21_7 v21_8 v21_9 v21_10 v21_11 v21_12 v21_13 v21_14 v21_15 v21_16 v21_17 v21_18 v21_19 v21_20 v21_21 v21_22 v21_23 v21_24 v21_25 v21_26 v21_27 v21_28 v21_29 v21_30 v21_31 v21_32 v21_33 v21_34 v21_35 v21_36 v21_37 v21_38 v21_39 v21_40 v21_41 v21_42 v21_43 v21_44 v21_45 v21_46 v21_47 v21_48 v21_50 v21_51 v21_52 v21_53 v21_54 v21_55 v21_56
theorem k_iPartialSignature (x : Part) (q p n : CV) (h : H) (a : SlD h q p n x) (m : miniD x) : callK (bm Try.prog 21 [.agg [q, p, n]] h) fun r h' => Grow h h' ∧ ∃ w, r = .tup [.agg [w], .one (.bool (psOk x.sig x.flat))] ∧ NwQ h h' (.one w) (psF x.sig x.flat) := by
  refine bm_of cF21 ?_
  obtain ⟨l, f⟩ := x
  have ev := k_iValidPartial ⟨l, f⟩ q p n h a m
  unfold psF psOk
  cases b1 : partOk l f with
  | false =>
    simp +contextual (maxSteps := 2000000) only [go_sem, Nat.reduceEqDiff, reduceCtorEq, Nat.reduceAdd, Nat.reduceLeDiff, F21, ev, b1, Bool.false_and]
    exact ⟨Grow.refl h, _, rfl, .nil⟩
  | true =>
  obtain ⟨ok1, ok2⟩ := part_fits b1
  have o := Ord.of ok1
  have hl8 := okSig_len ok1
  have hf8 := (okFlat_sm ok2).1
  have hl : SlG h q l := a.g
  have hf : SlF h p n f := a.f
  have hn : miniG l := m.g
  have hm : miniF f := m.f
  simp +contextual (maxSteps := 2000000) only [go_sem, Nat.reduceEqDiff, reduceCtorEq, Nat.reduceAdd, Nat.reduceLeDiff, F21, ev, b1, Bool.true_and, hl.out.len, hf.pl.len]
  refine wpC_loop (fun i T L h' => Grow h h' ∧ T 1 = .lp 1 0 ∧ (L 1).2 = [q, p, n] ∧ T 2 = .lp 2 0 ∧ (L 2).2 = [.sl none 0 (some 0)] ∧ T 4 = .lp 4 0 ∧ (∃ w, (L 4).2 = [w] ∧ NwQ h h' (.one w) (psT l f i)) ∧ T 5 = .v (.one (.int .i64 ((f.pl.length - min i (places l) : Nat) : Int))) ∧ T 6 = .v (.one (.bool (tb l f.nl i))) ∧ T 20 = .v (.one q) ∧ T 21 = .v (.one (.int .i64 l.length)) ∧ T 22 = .v (.one (.int .i64 i))) l.length ?_ ?_ (Nat.zero_le _) ?_
  · rintro i T L h' hi ⟨gh, t1, l1, t2, l2, t4, ⟨w, l4, z⟩, t5, t6, t20, t21, t22⟩
    have k := hl.out.grow gh
    have kf := hf.grow gh
    have zl := psT_len (l := l) (f := f) (i := i)
    have e1 := fun h => c_placed l[i] h
    have e3 := fun h => c_named l[i] h
    have ep := c_pairAtI f.nl (.one n) l[i].name h' kf.nl hm.sm.nl
    simp only [encQ] at e1 e3
    have hpl := o.place hi
    have hgp : decide (((f.pl.length - min i (places l) : Nat) : Int) > 0) = true → byPlace l[i] = true → i < f.pl.length := fun h1 h2 => by
      have := of_decide_eq_true h1
      rw [hpl] at h2
      have := of_decide_eq_true h2
      omega
    by_cases c0 : byPlace l[i] = true ∧ i < f.pl.length
    · obtain ⟨c1, c2⟩ := c0
      have hp := of_decide_eq_true (hpl.symm.trans c1)
      have e : psGone l f i l[i] = true := by unfold psGone; rw [c1, decide_eq_true (by omega)]; rfl
      have et : tb l f.nl (i + 1) = tb l f.nl i := by
        rw [tb_next, turn_step hi]
        cases c : bothP f.nl l[i] with
        | false => rw [Bool.or_false]
        | true => exact absurd c2 (bothP_late b1 hi c)
      have e5 : IntKind.i64.wrap (((f.pl.length - min i (places l) : Nat) : Int) - 1) = ((f.pl.length - min (i + 1) (places l) : Nat) : Int) := by
        rw [i64_wrap (by omega) (by omega)]; omega
      simp +contextual (maxSteps := 2000000) only [go_sem, Nat.reduceEqDiff, reduceCtorEq, Nat.reduceAdd, Nat.reduceLeDiff, t1, l1, t2, l2, t4, l4, t5, t6, t20, t21, t22, k.iaddr hi, k.whole hi, encQ, lt_true hi, e1, c1, decide_eq_true (show ((f.pl.length - min i (places l) : Nat) : Int) > 0 by omega), e5]
      exact ⟨gh, ⟨w, rfl, by rw [psT_next, psOne_gone hi e, List.append_nil]; exact z⟩, by rw [et], by rw [wrap_next hi (by omega)]⟩
    · have c2 : byPlace l[i] = true → decide (((f.pl.length - min i (places l) : Nat) : Int) > 0) = false := fun hp => decide_eq_false fun h => c0 ⟨hp, hgp (decide_eq_true h) hp⟩
      have e5 : ((f.pl.length - min i (places l) : Nat) : Int) = ((f.pl.length - min (i + 1) (places l) : Nat) : Int) := by
        cases c : byPlace l[i] with
        | true =>
          have h1 := of_decide_eq_false (c2 c)
          omega
        | false =>
          have := of_decide_eq_false (hpl.symm.trans c)
          omega
      have eg : psGone l f i l[i] = (decide (l[i].kind = 2) && bothIn l f.nl) := by
        unfold psGone
        cases c : byPlace l[i] with
        | false => rfl
        | true => rw [decide_eq_false (fun h => c0 ⟨c, by omega⟩)]; rfl
      apply joinC (P := Try.prog) (c := C21_16) (M := fun T L h2 => h2 = h' ∧ T 1 = .lp 1 0 ∧ (L 1).2 = [q, p, n] ∧ T 2 = .lp 2 0 ∧ (L 2).2 = [.sl none 0 (some 0)] ∧ T 4 = .lp 4 0 ∧ (L 4).2 = [w] ∧ T 5 = .v (.one (.int .i64 ((f.pl.length - min (i + 1) (places l) : Nat) : Int))) ∧ T 6 = .v (.one (.bool (turnB l f.nl i))) ∧ T 20 = .v (.one q) ∧ T 21 = .v (.one (.int .i64 l.length)) ∧ T 22 = .v (.one (.int .i64 i)) ∧ T 8 = .lp 8 0 ∧ (L 8).2 = encQ (setD f.nl l[i]))
      · intro J
        have ts := turn_step (m := f.nl) hi
        have pick : ∀ (G : Prop), (byPlace l[i] = false → G) → (byPlace l[i] = true → decide (((f.pl.length - min i (places l) : Nat) : Int) > 0) = false → G) → G := fun G a b => by
          cases c : byPlace l[i] with
          | false => exact a c
          | true => exact b c (c2 c)
        rcases idx_cases (fun p : Pair => decide (p.name = l[i].name)) f.nl with c | ⟨j, hj, c, _⟩
        · have c : pairAt f.nl l[i].name = -1 := c
          have eb : bothP f.nl l[i] = false := by unfold bothP; rw [c, decide_eq_false (show ¬ ((-1 : Int) ≥ 0) by omega), Bool.and_false]
          rw [eb, Bool.or_false] at ts
          rw [c] at ep
          refine pick _ (fun p1 => ?_) (fun p1 p2 => ?_)
          · simp +contextual (maxSteps := 2000000) only [go_sem, Nat.reduceEqDiff, reduceCtorEq, Nat.reduceAdd, Nat.reduceLeDiff, t1, l1, t2, l2, t4, l4, t5, t6, t20, t21, t22, k.iaddr hi, k.whole hi, encQ, lt_true hi, e1, p1, ep, decide_eq_false (show ¬ ((-1 : Int) ≥ 0) by omega)]
            refine J _ _ _ ?_
            simp +contextual (maxSteps := 2000000) only [go_sem, Nat.reduceEqDiff, reduceCtorEq, Nat.reduceAdd, Nat.reduceLeDiff, t1, l1, t2, l2, t4, l4, t5, t6, t20, t21, t22, encQ, setD_no c, ts]
            rw [e5]
          · simp +contextual (maxSteps := 2000000) only [go_sem, Nat.reduceEqDiff, reduceCtorEq, Nat.reduceAdd, Nat.reduceLeDiff, t1, l1, t2, l2, t4, l4, t5, t6, t20, t21, t22, k.iaddr hi, k.whole hi, encQ, lt_true hi, e1, p1, p2, ep, decide_eq_false (show ¬ ((-1 : Int) ≥ 0) by omega)]
            refine J _ _ _ ?_
            simp +contextual (maxSteps := 2000000) only [go_sem, Nat.reduceEqDiff, reduceCtorEq, Nat.reduceAdd, Nat.reduceLeDiff, t1, l1, t2, l2, t4, l4, t5, t6, t20, t21, t22, encQ, setD_no c, ts]
            rw [e5]
        · have c : pairAt f.nl l[i].name = j := c
          rw [c] at ep
          cases b : byName l[i] with
          | false =>
            have eb : bothP f.nl l[i] = false := by
              unfold bothP
              rw [decide_eq_false (p := l[i].kind = 1) (fun e => by simp [byName, e] at b)]
              rfl
            rw [eb, Bool.or_false] at ts
            refine pick _ (fun p1 => ?_) (fun p1 p2 => ?_)
            · simp +contextual (maxSteps := 2000000) only [go_sem, Nat.reduceEqDiff, reduceCtorEq, Nat.reduceAdd, Nat.reduceLeDiff, t1, l1, t2, l2, t4, l4, t5, t6, t20, t21, t22, k.iaddr hi, k.whole hi, encQ, lt_true hi, e1, p1, ep, decide_eq_true (show ((j : Int) ≥ 0) by omega), e3, b]
              refine J _ _ _ ?_
              simp +contextual (maxSteps := 2000000) only [go_sem, Nat.reduceEqDiff, reduceCtorEq, Nat.reduceAdd, Nat.reduceLeDiff, t1, l1, t2, l2, t4, l4, t5, t6, t20, t21, t22, encQ, setD_else b, ts]
              rw [e5]
            · simp +contextual (maxSteps := 2000000) only [go_sem, Nat.reduceEqDiff, reduceCtorEq, Nat.reduceAdd, Nat.reduceLeDiff, t1, l1, t2, l2, t4, l4, t5, t6, t20, t21, t22, k.iaddr hi, k.whole hi, encQ, lt_true hi, e1, p1, p2, ep, decide_eq_true (show ((j : Int) ≥ 0) by omega), e3, b]
              refine J _ _ _ ?_
              simp +contextual (maxSteps := 2000000) only [go_sem, Nat.reduceEqDiff, reduceCtorEq, Nat.reduceAdd, Nat.reduceLeDiff, t1, l1, t2, l2, t4, l4, t5, t6, t20, t21, t22, encQ, setD_else b, ts]
              rw [e5]
          | true =>
            have eb : bothP f.nl l[i] = decide (l[i].kind = 1) := by
              unfold bothP
              rw [c, decide_eq_true (show ((j : Int) ≥ 0) by omega), Bool.and_true]
            rw [eb] at ts
            cases ct : tb l f.nl i with
            | true =>
              rw [ct, Bool.true_or] at ts
              rw [ct] at t6
              refine pick _ (fun p1 => ?_) (fun p1 p2 => ?_)
              · simp +contextual (maxSteps := 2000000) only [go_sem, Nat.reduceEqDiff, reduceCtorEq, Nat.reduceAdd, Nat.reduceLeDiff, t1, l1, t2, l2, t4, l4, t5, t6, t20, t21, t22, k.iaddr hi, k.whole hi, encQ, lt_true hi, e1, p1, ep, decide_eq_true (show ((j : Int) ≥ 0) by omega), e3, b, kf.nl.iaddr hj, kf.nl.fieldO hj]
                refine J _ _ _ ?_
                simp +contextual (maxSteps := 2000000) only [go_sem, Nat.reduceEqDiff, reduceCtorEq, Nat.reduceAdd, Nat.reduceLeDiff, t1, l1, t2, l2, t4, l4, t5, t6, t20, t21, t22, encQ, setD_at hj c b, ts]
                rw [e5]
              · simp +contextual (maxSteps := 2000000) only [go_sem, Nat.reduceEqDiff, reduceCtorEq, Nat.reduceAdd, Nat.reduceLeDiff, t1, l1, t2, l2, t4, l4, t5, t6, t20, t21, t22, k.iaddr hi, k.whole hi, encQ, lt_true hi, e1, p1, p2, ep, decide_eq_true (show ((j : Int) ≥ 0) by omega), e3, b, kf.nl.iaddr hj, kf.nl.fieldO hj]
                refine J _ _ _ ?_
                simp +contextual (maxSteps := 2000000) only [go_sem, Nat.reduceEqDiff, reduceCtorEq, Nat.reduceAdd, Nat.reduceLeDiff, t1, l1, t2, l2, t4, l4, t5, t6, t20, t21, t22, encQ, setD_at hj c b, ts]
                rw [e5]
            | false =>
              rw [ct, Bool.false_or] at ts
              rw [ct] at t6
              refine pick _ (fun p1 => ?_) (fun p1 p2 => ?_)
              · simp +contextual (maxSteps := 2000000) only [go_sem, Nat.reduceEqDiff, reduceCtorEq, Nat.reduceAdd, Nat.reduceLeDiff, t1, l1, t2, l2, t4, l4, t5, t6, t20, t21, t22, k.iaddr hi, k.whole hi, encQ, lt_true hi, e1, p1, ep, decide_eq_true (show ((j : Int) ≥ 0) by omega), e3, b, kf.nl.iaddr hj, kf.nl.fieldO hj]
                refine J _ _ _ ?_
                simp +contextual (maxSteps := 2000000) only [go_sem, Nat.reduceEqDiff, reduceCtorEq, Nat.reduceAdd, Nat.reduceLeDiff, t1, l1, t2, l2, t4, l4, t5, t6, t20, t21, t22, encQ, setD_at hj c b, ts]
                rw [e5]
              · simp +contextual (maxSteps := 2000000) only [go_sem, Nat.reduceEqDiff, reduceCtorEq, Nat.reduceAdd, Nat.reduceLeDiff, t1, l1, t2, l2, t4, l4, t5, t6, t20, t21, t22, k.iaddr hi, k.whole hi, encQ, lt_true hi, e1, p1, p2, ep, decide_eq_true (show ((j : Int) ≥ 0) by omega), e3, b, kf.nl.iaddr hj, kf.nl.fieldO hj]
                refine J _ _ _ ?_
                simp +contextual (maxSteps := 2000000) only [go_sem, Nat.reduceEqDiff, reduceCtorEq, Nat.reduceAdd, Nat.reduceLeDiff, t1, l1, t2, l2, t4, l4, t5, t6, t20, t21, t22, encQ, setD_at hj c b, ts]
                rw [e5]
      rintro T L h2 ⟨rfl, t1, l1, t2, l2, t4, l4, t5, t6, t20, t21, t22, t8, l8⟩
      have kd : (setD f.nl l[i]).kind = l[i].kind := setD_name.2
      have e2 : psNew l f i l[i] = turnK (turnB l f.nl i) (setD f.nl l[i]) := setD_turn
      have ets := tb_next (l := l) (m := f.nl) (i := i)
      have erest : l[i].kind = 2 → turnB l f.nl i = bothIn l f.nl := fun h2 => by
        rw [turn_step hi, rest_tb o hi h2]
        have : bothP f.nl l[i] = false := by unfold bothP; rw [decide_eq_false (by omega)]; rfl
        rw [this, Bool.or_false]
      generalize setD f.nl l[i] = y at l8 kd e2
      have el8 := l8
      simp only [encQ] at el8
      rw [← kd] at eg erest
      cases b2 : decide (y.kind = 2) && turnB l f.nl i with
      | true =>
        rw [Bool.and_eq_true] at b2
        have k2 := of_decide_eq_true b2.1
        have e : psGone l f i l[i] = true := by rw [eg, b2.1, ← erest k2, b2.2]; rfl
        rw [b2.2] at t6 ets
        simp +contextual (maxSteps := 2000000) only [go_sem, Nat.reduceEqDiff, reduceCtorEq, Nat.reduceAdd, Nat.reduceLeDiff, ↓u21_16, t1, l1, t2, l2, t4, l4, t5, t6, t20, t21, t22, t8, el8, b2.1]
        exact ⟨gh, ⟨w, rfl, by rw [psT_next, psOne_gone hi e, List.append_nil]; exact z⟩, by rw [ets], by rw [wrap_next hi (by omega)]⟩
      | false =>
        have e : psGone l f i l[i] = false := by
          rw [eg]
          cases k2 : decide (y.kind = 2) with
          | false => rfl
          | true => rw [k2, erest (of_decide_eq_true k2)] at b2; exact b2
        apply joinS (P := Try.prog) (l := L21_49) (M := fun T L h4 => h4 = h2 ∧ T 1 = .lp 1 0 ∧ (L 1).2 = [q, p, n] ∧ T 2 = .lp 2 0 ∧ (L 2).2 = [.sl none 0 (some 0)] ∧ T 4 = .lp 4 0 ∧ (L 4).2 = [w] ∧ T 5 = .v (.one (.int .i64 ((f.pl.length - min (i + 1) (places l) : Nat) : Int))) ∧ T 6 = .v (.one (.bool (turnB l f.nl i))) ∧ T 20 = .v (.one q) ∧ T 21 = .v (.one (.int .i64 l.length)) ∧ T 22 = .v (.one (.int .i64 i)) ∧ T 8 = .lp 8 0 ∧ (L 8).2 = encQ (turnK (turnB l f.nl i) y))
        · intro J
          cases ct : turnB l f.nl i with
          | false =>
            rw [ct] at t6
            simp +contextual (maxSteps := 2000000) only [go_sem, Nat.reduceEqDiff, reduceCtorEq, Nat.reduceAdd, Nat.reduceLeDiff, ↓u21_16, ↓u21_15, t1, l1, t2, l2, t4, l4, t5, t6, t20, t21, t22, t8, el8]
            refine J _ _ _ ?_
            simp +contextual (maxSteps := 2000000) only [go_sem, Nat.reduceEqDiff, reduceCtorEq, Nat.reduceAdd, Nat.reduceLeDiff, t1, l1, t2, l2, t4, l4, t5, t6, t20, t21, t22, t8, el8, encQ, ct, turnK_no (t := false) (x := y) (.inl rfl)]
          | true =>
            rw [ct] at t6
            have k2 : decide (y.kind = 2) = false := by rw [ct, Bool.and_true] at b2; exact b2
            cases k1 : decide (y.kind = 1) with
            | false =>
              simp +contextual (maxSteps := 2000000) only [go_sem, Nat.reduceEqDiff, reduceCtorEq, Nat.reduceAdd, Nat.reduceLeDiff, ↓u21_16, ↓u21_15, t1, l1, t2, l2, t4, l4, t5, t6, t20, t21, t22, t8, el8, k1, k2]
              refine J _ _ _ ?_
              simp +contextual (maxSteps := 2000000) only [go_sem, Nat.reduceEqDiff, reduceCtorEq, Nat.reduceAdd, Nat.reduceLeDiff, t1, l1, t2, l2, t4, l4, t5, t6, t20, t21, t22, t8, el8, encQ, ct, turnK_no (t := true) (x := y) (.inr (of_decide_eq_false k1))]
            | true =>
              simp +contextual (maxSteps := 2000000) only [go_sem, Nat.reduceEqDiff, reduceCtorEq, Nat.reduceAdd, Nat.reduceLeDiff, ↓u21_16, ↓u21_15, t1, l1, t2, l2, t4, l4, t5, t6, t20, t21, t22, t8, el8, k1, k2]
              refine J _ _ _ ?_
              simp +contextual (maxSteps := 2000000) only [go_sem, Nat.reduceEqDiff, reduceCtorEq, Nat.reduceAdd, Nat.reduceLeDiff, t1, l1, t2, l2, t4, l4, t5, t6, t20, t21, t22, t8, el8, encQ, ct, turnK_yes (of_decide_eq_true k1)]
        rintro T L h4 ⟨rfl, t1, l1, t2, l2, t4, l4, t5, t6, t20, t21, t22, t8, l8⟩
        rw [← e2] at l8
        have l8' := l8
        simp only [encQ] at l8'
        simp +contextual (maxSteps := 2000000) only [go_sem, Nat.reduceEqDiff, reduceCtorEq, Nat.reduceAdd, Nat.reduceLeDiff, ↓v21_49, t1, l1, t2, l2, t4, l4, t5, t6, t20, t21, t22, t8, l8']
        refine wp_lit (enc := encQ) (k := 4) (l := [psNew l f i l[i]]) rfl rfl ?_
        intro h5 w5 g5 n5 _
        simp +contextual (maxSteps := 2000000) only [go_sem, Nat.reduceEqDiff, reduceCtorEq, Nat.reduceAdd, Nat.reduceLeDiff, t1, l1, t2, l2, t4, l4, t5, t6, t20, t21, t22, t8, l8']
        refine wp_append lenQ (z.grow g5) (n5.sl lenQ) (gh.trans g5) (by simp; omega) ?_
        intro h6 s6 g6 n6 st6 hb6
        obtain ⟨c6, rfl⟩ := n6.one
        simp +contextual (maxSteps := 2000000) only [go_sem, Nat.reduceEqDiff, reduceCtorEq, Nat.reduceAdd, Nat.reduceLeDiff, t1, l1, t2, l2, t4, l4, t5, t6, t20, t21, t22, t8, l8']
        exact ⟨g6, ⟨c6, rfl, by rw [psT_next, psOne_new hi e]; exact n6⟩, by rw [ets], by rw [wrap_next hi (by omega)]⟩
  · rintro T L h' ⟨gh, t1, l1, t2, l2, t4, ⟨w, l4, z⟩, t5, t6, t20, t21, t22⟩
    have ev := c_ValidSignature (psT l f l.length) w h' (z.sl lenQ) (psT_sm hn).sm
    cases b3 : okSig (psT l f l.length) with
    | false =>
      simp +contextual (maxSteps := 2000000) only [go_sem, Nat.reduceEqDiff, reduceCtorEq, Nat.reduceAdd, Nat.reduceLeDiff, t1, l1, t2, l2, t4, l4, t5, t6, t20, t21, t22, lt_false, ev, b3]
      exact gcK_of ⟨gh, _, rfl, .nil⟩ (fun _ _ => ⟨Grow.refl h, _, rfl, .nil⟩)
    | true =>
      simp +contextual (maxSteps := 2000000) only [go_sem, Nat.reduceEqDiff, reduceCtorEq, Nat.reduceAdd, Nat.reduceLeDiff, t1, l1, t2, l2, t4, l4, t5, t6, t20, t21, t22, lt_false, ev, b3]
      refine wp_call (c_copyOfS _ w h' (z.sl lenQ) (Nat.le_trans (psT_sm hn).len (by decide))) ?_
      rintro r h2 ⟨g2, c2, rfl, z2⟩
      have z2 := z2.from gh.n
      simp +contextual (maxSteps := 2000000) only [go_sem, Nat.reduceEqDiff, reduceCtorEq, Nat.reduceAdd, Nat.reduceLeDiff, t2, l2]
      exact gcK_of ⟨gh.trans g2, _, rfl, z2⟩ (fun hs _ => ⟨Grow.refl h, _, rfl, z2.scalar (by simpa [AV.scalar, AV.scalars, CV.scalar] using hs) h⟩)
  · rw [psT_zero]
    simp +contextual (maxSteps := 2000000) only [go_sem, Nat.reduceEqDiff, reduceCtorEq, Nat.reduceAdd, Nat.reduceLeDiff, tb_zero]
    exact ⟨Grow.refl h, ⟨_, rfl, .nil⟩, by simp, rfl⟩
end Go.Proofs.Ytekkimfdcbgcoab.Am
