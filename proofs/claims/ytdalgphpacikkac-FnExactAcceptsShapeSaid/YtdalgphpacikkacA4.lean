/- Contracts of the program: signatures that are valid. -/
import Derived.Test.YtdalgphpacikkacA3
namespace Go.Proofs.Ytdalgphpacikkac.Am
open Go
set_option maxRecDepth 100000
set_option maxHeartbeats 4000000
set_option linter.unusedSimpArgs false
set_option linter.unusedVariables false
attribute [local go_sem ↓] bv_t bv_c ev_t ev_c put_same put_ne put_none kill_at pro_at lb_same lb_ne start_zero start_succ wpC_seq wpC_reg wpC_cond wpC_block wpC_skip wpC_exit wpC_ret thenQ_normal thenQ_exit thenQ_ret inBlk_normal inBlk_exit inBlk_ret wpS_nil wpS_step wpS_again wpS_guard wpO_mov wpO_load wpO_faddr wpO_nilCheck wpO_pick wpO_build wpO_bin wpO_eqb wpO_eqst wpO_eqnil wpO_not wpO_conv wpO_bytesStr wpO_iaddr wpO_idxStr wpO_field wpO_extract wpO_len wpO_lenStr wpO_cap wpO_min wpO_slice wpO_sliceStr wpO_alloc wpO_box wpO_store wpO_call wpO_callv wpO_mkfn wpO_buildSlice wpO_mkslice wpO_append wpO_appz proA_nil proA_cons tmpX_nil tmpX_tmp tmpX_cell doneB_normal doneB_ret agK_cons agK_nil agK_guard agG_tt agG_ff agG_tf agG_ft agG_undef pureB_load results_one results_two results_nil resBs_cons resBs_nil resB_tmp resB_cell
attribute [local go_sem] kill_v kill_lp_ne kill_lp_same pro_v pro_lp_same pro_lp_ne av_v av_lp optB_some optX_some valX_eq ldX_lp ldX_v faX_lp faX_v ncX_lp ncX_ptr ncX_fn boxK_one boxK_agg stL_some stK_lp_one stK_lp_agg stK_v_one stK_v_agg proM_v proM_lp callG_mk callVG_mk callvK_fn fnG_mk ptrsA_nil ptrsA_cons callH_some whenA_true whenA_false guardH_tt guardH_ff guardH_tf guardH_ft guardH_undef agV_one agV_agg lenO_sl lenStrO_str notO_bool pickO_bool convO_int eqbO_bool eqnilO_sl extractO_tup capO_sl minO_int loadL_one loadL_all storeL_eq fillA_nil fillA_one fillA_agg nat_ge neg_ge nat_lt neg_lt buildO bin_add bin_sub bin_mul bin_eql bin_neq bin_lss bin_leq bin_gtr bin_geq str_eql str_neq str_lss str_leq str_gtr str_geq retK_some endK_mk gcK_same gcK_int gcK_bool tupO_one tupO_agg rdy_self ib ii Option.map_none Option.map_some Option.some.injEq exists_eq_left' exists_eq_left ne_eq not_false_eq_true if_true if_false List.map_cons List.map_nil List.getElem?_cons_zero List.getElem?_cons_succ List.length_cons List.length_nil List.take_succ_cons List.take_zero List.take_nil List.drop_succ_cons List.drop_zero List.drop_nil List.cons_append List.nil_append List.append_nil List.set_cons_zero List.set_cons_succ Nat.zero_add forall_const true_and and_true and_self Bool.false_eq_true false_implies true_implies implies_true Bool.not_true Bool.not_false Bool.not_eq_true' Bool.not_eq_false' beq_self_eq_true Bool.bne_true Bool.bne_false
attribute [local go_sem] lenI lenS lenP lenQ lenB lenL lenT encI_0 encS_0 encP_0 encP_1 encQ_0 encQ_1 encQ_2 encQ_3 encB_0 encB_1 encL_0 encL_1 encT_0 encT_1
attribute [local go_sem low] whenA_bool guardH_bool
/-! impl.ValidSignature -/
def L126_0 : List AStep := [⟨.box 69 (.t 0), (some 1), none, []⟩, ⟨.mov (.c (.bool false)), (some 2), none, []⟩]
theorem v126_0 : VS L126_0.eq_1 := rfl
def L126_1 : List AStep := [⟨.mov (.c (.bool false)), (some 3), none, []⟩]
theorem v126_1 : VS L126_1.eq_1 := rfl
def L126_2 : List AStep := [⟨.len (.t 8), (some 9), none, []⟩, ⟨.mov (.c (.int .i64 0)), (some 10), none, []⟩]
theorem v126_2 : VS L126_2.eq_1 := rfl
def L126_3 : List AStep := ⟨.faddr 0 (.t 1), (some 7), none, []⟩ :: ⟨.load 1 false (.t 7), (some 8), none, []⟩ :: L126_2
theorem v126_3 : VS L126_3.eq_1 := rfl
def L126_4 : List AStep := [⟨.bin .lss (.t 10) (.t 9), (some 11), none, []⟩]
theorem v126_4 : VS L126_4.eq_1 := rfl
def L126_5 : List AStep := [⟨.mov (.t 12), (some 4), none, []⟩, ⟨.store 4 (.t 5) (.t 14), none, none, []⟩]
theorem v126_5 : VS L126_5.eq_1 := rfl
def L126_6 : List AStep := ⟨.load 4 true (.t 13), (some 14), none, []⟩ :: ⟨.alloc 155 [(.str (strOfNums [])), (.int .i64 0), (.bool false), (.int .i64 0)], (some 5), none, []⟩ :: L126_5
theorem v126_6 : VS L126_6.eq_1 := rfl
def L126_7 : List AStep := ⟨.mov (.t 10), (some 12), none, []⟩ :: ⟨.iaddr 4 (.t 8) (.t 10), (some 13), none, []⟩ :: L126_6
theorem v126_7 : VS L126_7.eq_1 := rfl
def L126_8 : List AStep := [⟨.pick (.t 41) (.c (.bool true)) (.t 48), (some 49), none, []⟩]
theorem v126_8 : VS L126_8.eq_1 := rfl
def L126_9 : List AStep := ⟨.not (.t 46), (some 47), (some (44, true)), []⟩ :: ⟨.pick (.t 44) (.t 47) (.c (.bool false)), (some 48), (some (41, false)), []⟩ :: L126_8
theorem v126_9 : VS L126_9.eq_1 := rfl
def L126_10 : List AStep := ⟨.load 4 true (.t 5), (some 45), (some (44, true)), []⟩ :: ⟨.call 156 [(.t 45)], (some 46), (some (44, true)), []⟩ :: L126_9
theorem v126_10 : VS L126_10.eq_1 := rfl
def L126_11 : List AStep := ⟨.load 1 false (.t 42), (some 43), (some (41, false)), []⟩ :: ⟨.mov (.t 43), (some 44), (some (41, false)), []⟩ :: L126_10
theorem v126_11 : VS L126_11.eq_1 := rfl
def L126_12 : List AStep := ⟨.mov (.t 40), (some 41), none, []⟩ :: ⟨.faddr 2 (.t 5), (some 42), (some (41, false)), []⟩ :: L126_11
theorem v126_12 : VS L126_12.eq_1 := rfl
def L126_13 : List AStep := ⟨.pick (.t 35) (.t 38) (.c (.bool false)), (some 39), (some (31, false)), []⟩ :: ⟨.pick (.t 31) (.c (.bool true)) (.t 39), (some 40), none, []⟩ :: L126_12
theorem v126_13 : VS L126_13.eq_1 := rfl
def L126_14 : List AStep := ⟨.load 1 false (.t 36), (some 37), (some (35, true)), []⟩ :: ⟨.bin .neq (.t 37) (.c (.int .i64 0)), (some 38), (some (35, true)), []⟩ :: L126_13
theorem v126_14 : VS L126_14.eq_1 := rfl
def L126_15 : List AStep := ⟨.mov (.t 34), (some 35), (some (31, false)), []⟩ :: ⟨.faddr 3 (.t 5), (some 36), (some (35, true)), []⟩ :: L126_14
theorem v126_15 : VS L126_15.eq_1 := rfl
def L126_16 : List AStep := ⟨.load 1 false (.t 32), (some 33), (some (31, false)), []⟩ :: ⟨.not (.t 33), (some 34), (some (31, false)), []⟩ :: L126_15
theorem v126_16 : VS L126_16.eq_1 := rfl
def L126_17 : List AStep := ⟨.mov (.t 30), (some 31), none, []⟩ :: ⟨.faddr 2 (.t 5), (some 32), (some (31, false)), []⟩ :: L126_16
theorem v126_17 : VS L126_17.eq_1 := rfl
def L126_18 : List AStep := ⟨.not (.t 28), (some 29), (some (25, false)), []⟩ :: ⟨.pick (.t 25) (.c (.bool true)) (.t 29), (some 30), none, []⟩ :: L126_17
theorem v126_18 : VS L126_18.eq_1 := rfl
def L126_19 : List AStep := ⟨.load 1 false (.t 26), (some 27), (some (25, false)), []⟩ :: ⟨.call 128 [(.t 27)], (some 28), (some (25, false)), []⟩ :: L126_18
theorem v126_19 : VS L126_19.eq_1 := rfl
def L126_20 : List AStep := ⟨.mov (.t 24), (some 25), none, []⟩ :: ⟨.faddr 3 (.t 5), (some 26), (some (25, false)), []⟩ :: L126_19
theorem v126_20 : VS L126_20.eq_1 := rfl
def L126_21 : List AStep := ⟨.not (.t 22), (some 23), (some (19, false)), []⟩ :: ⟨.pick (.t 19) (.c (.bool true)) (.t 23), (some 24), none, []⟩ :: L126_20
theorem v126_21 : VS L126_21.eq_1 := rfl
def L126_22 : List AStep := ⟨.load 1 false (.t 20), (some 21), (some (19, false)), []⟩ :: ⟨.call 119 [(.t 21), (.c (.int .i64 0)), (.c (.int .i64 4))], (some 22), (some (19, false)), []⟩ :: L126_21
theorem v126_22 : VS L126_22.eq_1 := rfl
def L126_23 : List AStep := ⟨.mov (.t 18), (some 19), none, []⟩ :: ⟨.faddr 1 (.t 5), (some 20), (some (19, false)), []⟩ :: L126_22
theorem v126_23 : VS L126_23.eq_1 := rfl
def L126_24 : List AStep := ⟨.call 118 [(.t 16)], (some 17), none, []⟩ :: ⟨.not (.t 17), (some 18), none, []⟩ :: L126_23
theorem v126_24 : VS L126_24.eq_1 := rfl
def L126_25 : List AStep := ⟨.faddr 0 (.t 5), (some 15), none, []⟩ :: ⟨.load 1 false (.t 15), (some 16), none, []⟩ :: L126_24
theorem v126_25 : VS L126_25.eq_1 := rfl
def L126_26 : List AStep := [⟨.mov (.c (.bool false)), (some 2), none, []⟩]
theorem v126_26 : VS L126_26.eq_1 := rfl
def L126_27 : List AStep := [⟨.load 4 true (.t 5), (some 50), none, []⟩, ⟨.call 157 [(.t 50)], (some 51), none, []⟩]
theorem v126_27 : VS L126_27.eq_1 := rfl
def L126_28 : List AStep := [⟨.not (.t 55), (some 56), (some (53, true)), []⟩, ⟨.pick (.t 53) (.t 56) (.c (.bool false)), (some 57), none, []⟩]
theorem v126_28 : VS L126_28.eq_1 := rfl
def L126_29 : List AStep := ⟨.faddr 2 (.t 5), (some 54), (some (53, true)), []⟩ :: ⟨.load 1 false (.t 54), (some 55), (some (53, true)), []⟩ :: L126_28
theorem v126_29 : VS L126_29.eq_1 := rfl
def L126_30 : List AStep := ⟨.mov (.t 3), (some 52), none, []⟩ :: ⟨.mov (.t 52), (some 53), none, []⟩ :: L126_29
theorem v126_30 : VS L126_30.eq_1 := rfl
def L126_31 : List AStep := [⟨.mov (.c (.bool false)), (some 2), none, []⟩]
theorem v126_31 : VS L126_31.eq_1 := rfl
def L126_32 : List AStep := [⟨.mov (.t 59), (some 3), none, []⟩]
theorem v126_32 : VS L126_32.eq_1 := rfl
def L126_33 : List AStep := ⟨.faddr 2 (.t 5), (some 58), none, []⟩ :: ⟨.load 1 false (.t 58), (some 59), none, []⟩ :: L126_32
theorem v126_33 : VS L126_33.eq_1 := rfl
def L126_34 : List AStep := [⟨.mov (.t 4), (some 60), none, []⟩, ⟨.bin .gtr (.t 60) (.c (.int .i64 0)), (some 61), none, []⟩]
theorem v126_34 : VS L126_34.eq_1 := rfl
def L126_35 : List AStep := [⟨.load 1 false (.t 67), (some 68), none, []⟩, ⟨.mov (.t 68), (some 6), none, []⟩]
theorem v126_35 : VS L126_35.eq_1 := rfl
def L126_36 : List AStep := ⟨.iaddr 4 (.t 63) (.t 65), (some 66), none, []⟩ :: ⟨.faddr 1 (.t 66), (some 67), none, []⟩ :: L126_35
theorem v126_36 : VS L126_36.eq_1 := rfl
def L126_37 : List AStep := ⟨.mov (.t 4), (some 64), none, []⟩ :: ⟨.bin .sub (.t 64) (.c (.int .i64 1)), (some 65), none, []⟩ :: L126_36
theorem v126_37 : VS L126_37.eq_1 := rfl
def L126_38 : List AStep := ⟨.faddr 0 (.t 1), (some 62), none, []⟩ :: ⟨.load 1 false (.t 62), (some 63), none, []⟩ :: L126_37
theorem v126_38 : VS L126_38.eq_1 := rfl
def L126_39 : List AStep := [⟨.pick (.t 73) (.c (.bool true)) (.t 82), (some 83), none, []⟩]
theorem v126_39 : VS L126_39.eq_1 := rfl
def L126_40 : List AStep := ⟨.not (.t 80), (some 81), (some (78, true)), []⟩ :: ⟨.pick (.t 78) (.t 81) (.c (.bool false)), (some 82), (some (73, false)), []⟩ :: L126_39
theorem v126_40 : VS L126_40.eq_1 := rfl
def L126_41 : List AStep := ⟨.load 4 true (.t 5), (some 79), (some (78, true)), []⟩ :: ⟨.call 156 [(.t 79)], (some 80), (some (78, true)), []⟩ :: L126_40
theorem v126_41 : VS L126_41.eq_1 := rfl
def L126_42 : List AStep := ⟨.bin .eql (.t 75) (.t 76), (some 77), (some (73, false)), []⟩ :: ⟨.mov (.t 77), (some 78), (some (73, false)), []⟩ :: L126_41
theorem v126_42 : VS L126_42.eq_1 := rfl
def L126_43 : List AStep := ⟨.load 1 false (.t 74), (some 75), (some (73, false)), []⟩ :: ⟨.mov (.t 6), (some 76), (some (73, false)), []⟩ :: L126_42
theorem v126_43 : VS L126_43.eq_1 := rfl
def L126_44 : List AStep := ⟨.mov (.t 72), (some 73), none, []⟩ :: ⟨.faddr 1 (.t 5), (some 74), (some (73, false)), []⟩ :: L126_43
theorem v126_44 : VS L126_44.eq_1 := rfl
def L126_45 : List AStep := ⟨.mov (.t 6), (some 71), none, []⟩ :: ⟨.bin .lss (.t 70) (.t 71), (some 72), none, []⟩ :: L126_44
theorem v126_45 : VS L126_45.eq_1 := rfl
def L126_46 : List AStep := ⟨.faddr 1 (.t 5), (some 69), none, []⟩ :: ⟨.load 1 false (.t 69), (some 70), none, []⟩ :: L126_45
theorem v126_46 : VS L126_46.eq_1 := rfl
def L126_47 : List AStep := [⟨.mov (.c (.bool false)), (some 2), none, []⟩]
theorem v126_47 : VS L126_47.eq_1 := rfl
def L126_48 : List AStep := [⟨.call 158 [(.t 87), (.t 89)], (some 90), none, []⟩, ⟨.bin .geq (.t 90) (.c (.int .i64 0)), (some 91), none, []⟩]
theorem v126_48 : VS L126_48.eq_1 := rfl
def L126_49 : List AStep := ⟨.faddr 0 (.t 5), (some 88), none, []⟩ :: ⟨.load 1 false (.t 88), (some 89), none, []⟩ :: L126_48
theorem v126_49 : VS L126_49.eq_1 := rfl
def L126_50 : List AStep := ⟨.mov (.t 4), (some 86), none, []⟩ :: ⟨.slice 155 4 (.t 85) none (some (.t 86)) none, (some 87), none, []⟩ :: L126_49
theorem v126_50 : VS L126_50.eq_1 := rfl
def L126_51 : List AStep := ⟨.faddr 0 (.t 1), (some 84), none, []⟩ :: ⟨.load 1 false (.t 84), (some 85), none, []⟩ :: L126_50
theorem v126_51 : VS L126_51.eq_1 := rfl
def L126_52 : List AStep := [⟨.mov (.c (.bool false)), (some 2), none, []⟩]
theorem v126_52 : VS L126_52.eq_1 := rfl
def L126_53 : List AStep := [⟨.bin .add (.t 10) (.c (.int .i64 1)), (some 92), none, []⟩, ⟨.mov (.t 92), (some 10), none, []⟩]
theorem v126_53 : VS L126_53.eq_1 := rfl
def L126_54 : List AStep := [⟨.mov (.t 96), (some 2), none, []⟩]
theorem v126_54 : VS L126_54.eq_1 := rfl
def L126_55 : List AStep := ⟨.len (.t 94), (some 95), none, []⟩ :: ⟨.bin .leq (.t 95) (.c (.int .i64 8)), (some 96), none, []⟩ :: L126_54
theorem v126_55 : VS L126_55.eq_1 := rfl
def L126_56 : List AStep := ⟨.faddr 0 (.t 1), (some 93), none, []⟩ :: ⟨.load 1 false (.t 93), (some 94), none, []⟩ :: L126_55
theorem v126_56 : VS L126_56.eq_1 := rfl
def C126_0 : ACode := .cond (.t 11) .skip (.exit 0)
theorem u126_0 : VC C126_0.eq_1 := rfl
def C126_1 : ACode := .seq (.reg L126_26) .ret
theorem u126_1 : VC C126_1.eq_1 := rfl
def C126_2 : ACode := .cond (.t 49) C126_1 .skip
theorem u126_2 : VC C126_2.eq_1 := rfl
def C126_3 : ACode := .seq (.reg L126_25) C126_2
theorem u126_3 : VC C126_3.eq_1 := rfl
def C126_4 : ACode := .seq (.reg L126_31) .ret
theorem u126_4 : VC C126_4.eq_1 := rfl
def C126_5 : ACode := .cond (.t 57) C126_4 .skip
theorem u126_5 : VC C126_5.eq_1 := rfl
def C126_6 : ACode := .seq (.reg L126_30) C126_5
theorem u126_6 : VC C126_6.eq_1 := rfl
def C126_7 : ACode := .seq C126_6 (.reg L126_33)
theorem u126_7 : VC C126_7.eq_1 := rfl
def C126_8 : ACode := .cond (.t 51) C126_7 .skip
theorem u126_8 : VC C126_8.eq_1 := rfl
def C126_9 : ACode := .seq (.reg L126_27) C126_8
theorem u126_9 : VC C126_9.eq_1 := rfl
def C126_10 : ACode := .seq (.reg L126_47) .ret
theorem u126_10 : VC C126_10.eq_1 := rfl
def C126_11 : ACode := .cond (.t 83) C126_10 .skip
theorem u126_11 : VC C126_11.eq_1 := rfl
def C126_12 : ACode := .seq (.reg L126_46) C126_11
theorem u126_12 : VC C126_12.eq_1 := rfl
def C126_13 : ACode := .seq (.reg L126_38) C126_12
theorem u126_13 : VC C126_13.eq_1 := rfl
def C126_14 : ACode := .cond (.t 61) C126_13 .skip
theorem u126_14 : VC C126_14.eq_1 := rfl
def C126_15 : ACode := .seq (.reg L126_34) C126_14
theorem u126_15 : VC C126_15.eq_1 := rfl
def C126_16 : ACode := .seq (.reg L126_52) .ret
theorem u126_16 : VC C126_16.eq_1 := rfl
def C126_17 : ACode := .cond (.t 91) C126_16 .skip
theorem u126_17 : VC C126_17.eq_1 := rfl
def C126_18 : ACode := .seq (.reg L126_51) C126_17
theorem u126_18 : VC C126_18.eq_1 := rfl
def C126_19 : ACode := .seq C126_15 C126_18
theorem u126_19 : VC C126_19.eq_1 := rfl
def C126_20 : ACode := .seq C126_9 C126_19
theorem u126_20 : VC C126_20.eq_1 := rfl
def C126_21 : ACode := .seq C126_3 C126_20
theorem u126_21 : VC C126_21.eq_1 := rfl
def C126_22 : ACode := .seq (.reg L126_7) C126_21
theorem u126_22 : VC C126_22.eq_1 := rfl
def C126_23 : ACode := .block 1 C126_22
theorem u126_23 : VC C126_23.eq_1 := rfl
def C126_24 : ACode := .seq C126_23 (.reg L126_53)
theorem u126_24 : VC C126_24.eq_1 := rfl
def C126_25 : ACode := .seq C126_0 C126_24
theorem u126_25 : VC C126_25.eq_1 := rfl
def C126_26 : ACode := .seq (.reg L126_4) C126_25
theorem u126_26 : VC C126_26.eq_1 := rfl
def C126_27 : ACode := .block 0 (.loop C126_26)
theorem u126_27 : VC C126_27.eq_1 := rfl
def C126_28 : ACode := .seq (.reg L126_3) C126_27
theorem u126_28 : VC C126_28.eq_1 := rfl
def C126_29 : ACode := .seq (.reg L126_56) .ret
theorem u126_29 : VC C126_29.eq_1 := rfl
def C126_30 : ACode := .seq C126_28 C126_29
theorem u126_30 : VC C126_30.eq_1 := rfl
def C126_31 : ACode := .seq (.reg L126_1) C126_30
theorem u126_31 : VC C126_31.eq_1 := rfl
def C126_32 : ACode := .seq (.reg L126_0) C126_31
theorem u126_32 : VC C126_32.eq_1 := rfl
def F126 : AFunc := ⟨97, [.tmp 2], C126_32⟩
theorem cF126 : compB Try.prog 126 = some F126 := by kernel_rfl
attribute [local go_sem ↓] u126_0 u126_1 u126_2 u126_3 u126_4 u126_5 u126_6 u126_7 u126_8 u126_9 u126_10 u126_11 u126_12 u126_13 u126_14 u126_15 u126_16 u126_17 u126_18 u126_19 u126_20 u126_21 u126_22 u126_23 u126_24 u126_25 u126_26 u126_27 u126_28 u126_29 u126_30 u126_31 u126_32 v126_0 v126_1 v126_2 v126_3 v126_4 v126_5 v126_6 v126_7 v126_8 v126_9 v126_10 v126_11 v126_12 v126_13 v126_14 v126_15 v126_16 v126_17 v126_18 v126_19 v126_20 v126_21 v126_22 v126_23 v126_24 v126_25 v126_26 v126_27 v126_28 v126_29 v126_30 v126_31 v126_32 v126_33 v126_34 v126_35 v126_36 v126_37 v126_38 v126_39 v126_40 v126_41 v126_42 v126_43 v126_44 v126_45 v126_46 v126_47 v126_48 v126_49 v126_50 v126_51 v126_52 v126_53 v126_54 v126_55 v126_56
theorem c_ValidSignature (l : List Param) (pv : CV) (h : H) (hl : SlQ h (.one pv) l) (hn : smQ l) : bm Try.prog 126 [.agg [pv]] h = some (ib (okSig l), h) := by
  refine bm_eq cF126 ?_
  simp +contextual (maxSteps := 2000000) only [go_sem, Nat.reduceEqDiff, reduceCtorEq, Nat.reduceAdd, Nat.reduceLeDiff, F126, hl.len]
  refine wpC_loop (fun i T L h' => h' = h ∧ T 1 = .lp 1 0 ∧ (L 1).2 = [pv] ∧ T 3 = .v (.one (.bool (optAt l i))) ∧ T 8 = .v (.one pv) ∧ T 9 = .v (.one (.int .i64 l.length)) ∧ T 10 = .v (.one (.int .i64 i)) ∧ Upto (stepAt l) i) l.length ?_ ?_ (Nat.zero_le _) ?_
  · rintro i T L h' hi ⟨rfl, t1, l1, t3, t8, t9, t10, hu⟩
    obtain ⟨v', e1, s1⟩ := hl.takeO (i := i) (by omega) (kd := .i64)
    have e2 : decide (paramAt (l.take i) l[i].name ≥ 0) = !(newAt Param.name l i) := newAt_ge hi
    have e3 := stepI_eq hi hu
    have e5 := optAt_next hi
    cases i with
    | zero =>
      have e4 : decide (((0 : Nat) : Int) > 0) = false := rfl
      rw [stepI_zero hi] at e3
      simp +contextual (maxSteps := 2000000) only [go_sem, Nat.reduceEqDiff, reduceCtorEq, Nat.reduceAdd, Nat.reduceLeDiff, e2, e4, e5, optAt, t1, l1, t3, t8, t9, t10, hl.iaddr hi, hl.whole hi, lt_true hi, e1, c_isName _ _ (hn.at hi), c_in, c_isValue, c_single, c_placed, c_find _ _ _ _ s1 (hn.take _)]
      (repeat' (first | refine And.intro ?_ ?_ | intro _)) <;> first | rfl | rw [wrap_next hi hn.len] | exact hu.next (by rw [← e3]; simp_all [okParam]) | (rw [okSig_not hi (by rw [← e3]; simp_all [okParam] <;> (intros; omega))]) | simp_all
    | succ j =>
      have e4 : decide (((j + 1 : Nat) : Int) > 0) = true := decide_eq_true (by omega)
      have hj : j < l.length := by omega
      rw [stepI_succ hi] at e3
      simp +contextual (maxSteps := 2000000) only [go_sem, Nat.reduceEqDiff, reduceCtorEq, Nat.reduceAdd, Nat.reduceLeDiff, e2, e4, e5, t1, l1, t3, t8, t9, t10, hl.iaddr hi, hl.whole hi, lt_true hi, e1, c_isName _ _ (hn.at hi), c_in, c_isValue, c_single, c_placed, c_find _ _ _ _ s1 (hn.take _), wrap_pred (show j < 2 ^ 62 from Nat.lt_trans (Nat.lt_succ_self j) (Nat.lt_trans hi hn.len)), hl.iaddr hj, hl.fieldO hj]
      (repeat' (first | refine And.intro ?_ ?_ | intro _)) <;> first | rfl | rw [wrap_next hi hn.len] | exact hu.next (by rw [← e3]; simp_all [okParam]) | (rw [okSig_not hi (by rw [← e3]; simp_all [okParam] <;> (intros; omega))]) | simp_all
  · rintro T L h' ⟨rfl, t1, l1, t3, t8, t9, t10, hu⟩
    simp +contextual (maxSteps := 2000000) only [go_sem, Nat.reduceEqDiff, reduceCtorEq, Nat.reduceAdd, Nat.reduceLeDiff, t1, l1, t8, t9, t10, hl.len, lt_false, okSig_of hu]
  · simp +contextual (maxSteps := 2000000) only [go_sem, Nat.reduceEqDiff, reduceCtorEq, Nat.reduceAdd, Nat.reduceLeDiff, optAt]
    (repeat' (first | refine And.intro ?_ ?_ | intro _)) <;> first | rfl | exact Upto.zero
end Go.Proofs.Ytdalgphpacikkac.Am
