/- Contracts: calls of signatures that are drawn. -/
import Derived.Test.YtekkimfdcbgcoabDS
namespace Go.Proofs.Ytekkimfdcbgcoab.Am
open Go
set_option maxRecDepth 100000
set_option maxHeartbeats 4000000
set_option linter.unusedSimpArgs false
set_option linter.unusedVariables false
attribute [local go_sem ↓] bv_t bv_c ev_t ev_c put_same put_ne put_none kill_at pro_at lb_same lb_ne start_zero start_succ wpC_seq wpC_reg wpC_cond wpC_block wpC_skip wpC_exit wpC_ret thenQ_normal thenQ_exit thenQ_ret inBlk_normal inBlk_exit inBlk_ret wpS_nil wpS_step wpS_again wpS_guard wpO_mov wpO_load wpO_faddr wpO_nilCheck wpO_pick wpO_build wpO_bin wpO_eqb wpO_eqst wpO_eqnil wpO_not wpO_conv wpO_bytesStr wpO_iaddr wpO_idxStr wpO_field wpO_extract wpO_len wpO_lenStr wpO_cap wpO_min wpO_slice wpO_sliceStr wpO_alloc wpO_box wpO_store wpO_call wpO_callv wpO_mkfn wpO_buildSlice wpO_mkslice wpO_append wpO_appz proA_nil proA_cons tmpX_nil tmpX_tmp tmpX_cell doneB_normal doneB_ret agK_cons agK_nil agK_guard agG_tt agG_ff agG_tf agG_ft agG_undef pureB_load results_one results_two results_nil resBs_cons resBs_nil resB_tmp resB_cell
attribute [local go_sem] kill_v kill_lp_ne kill_lp_same pro_v pro_lp_same pro_lp_ne av_v av_lp optB_some optX_some valX_eq ldX_lp ldX_v faX_lp faX_v ncX_lp ncX_ptr ncX_fn boxK_one boxK_agg stL_some stK_lp_one stK_lp_agg stK_v_one stK_v_agg proM_v proM_lp callG_mk callVG_mk callvK_fn fnG_mk ptrsA_nil ptrsA_cons callH_some whenA_true whenA_false guardH_tt guardH_ff guardH_tf guardH_ft guardH_undef agV_one agV_agg lenO_sl lenStrO_str notO_bool pickO_bool convO_int eqbO_bool eqnilO_sl extractO_tup capO_sl minO_int loadL_one loadL_all storeL_eq fillA_nil fillA_one fillA_agg nat_ge neg_ge nat_lt neg_lt buildO bin_add bin_sub bin_mul bin_eql bin_neq bin_lss bin_leq bin_gtr bin_geq str_eql str_neq str_lss str_leq str_gtr str_geq retK_some endK_mk gcK_same gcK_int gcK_bool tupO_one tupO_agg rdy_self ib ii Option.map_none Option.map_some Option.some.injEq exists_eq_left' exists_eq_left ne_eq not_false_eq_true if_true if_false List.map_cons List.map_nil List.getElem?_cons_zero List.getElem?_cons_succ List.length_cons List.length_nil List.take_succ_cons List.take_zero List.take_nil List.drop_succ_cons List.drop_zero List.drop_nil List.cons_append List.nil_append List.append_nil List.set_cons_zero List.set_cons_succ Nat.zero_add forall_const true_and and_true and_self Bool.false_eq_true false_implies true_implies implies_true Bool.not_true Bool.not_false Bool.not_eq_true' Bool.not_eq_false' beq_self_eq_true Bool.bne_true Bool.bne_false
attribute [local go_sem] lenI lenS lenP lenQ lenB lenL lenT encI_0 encS_0 encP_0 encP_1 encQ_0 encQ_1 encQ_2 encQ_3 encB_0 encB_1 encL_0 encL_1 encT_0 encT_1
attribute [local go_sem low] whenA_bool guardH_bool
/-- Ways that meet again at the steps l. -/
theorem joinS {P : Program} {l : List AStep} {K : Post} {G : Prop} (M : Post) (main : (∀ T L h, M T L h → wpS P l T L (rdy h) K) → G) (join : ∀ T L h, M T L h → wpS P l T L (rdy h) K) : G := main join
def litQ (q : Param) : List CV := [.str q.name, .int .i64 q.kind, .bool q.has, .int .i64 q.dflt]
/-- Amid a parameter. -/
def CFm (b : Nat) (u x y : CV) (pl : Int) (i : Nat) (q : Param) (T : Tb) (L : Lb) : Prop :=
  T 0 = .v (.one (.ptr (some (b, 0)))) ∧ T 3 = .lp 3 0 ∧ (L 3).2 = [u] ∧ T 4 = .lp 4 0 ∧ (L 4).2 = [.sl none 0 (some 0), .sl none 0 (some 0)] ∧ T 5 = .lp 5 0 ∧ (L 5).2 = [x, y] ∧ T 6 = .v (.one (.int .i64 pl)) ∧ T 7 = .v (.one (.int .i64 i)) ∧ T 8 = .lp 8 0 ∧ (L 8).2 = [.str q.name, .int .i64 q.kind, .bool q.has, .int .i64 q.dflt] ∧ ∃ n : Int, T 9 = .v (.one (.int .i64 n))
/-! spec.callFor -/
def L86_0 : List AStep := [⟨.box 25 (.t 1), (some 3), none, []⟩, ⟨.alloc 29 [(.sl none 0 (some 0)), (.sl none 0 (some 0))], (some 4), none, []⟩]
theorem v86_0 : VS L86_0.eq_1 := rfl
def L86_1 : List AStep := [⟨.store 2 (.t 5) (.t 13), none, none, []⟩]
theorem v86_1 : VS L86_1.eq_1 := rfl
def L86_2 : List AStep := ⟨.build [(.sl none 0 (some 0)), (.sl none 0 (some 0))] [(0, 1, (.t 11)), (1, 1, (.t 12))], (some 13), none, []⟩ :: ⟨.alloc 29 [(.sl none 0 (some 0)), (.sl none 0 (some 0))], (some 5), none, []⟩ :: L86_1
theorem v86_2 : VS L86_2.eq_1 := rfl
def L86_3 : List AStep := ⟨.buildSlice 3 0 [(.int .i64 0)] [], (some 11), none, []⟩ :: ⟨.buildSlice 64 0 [(.str (strOfNums [])), (.int .i64 0)] [], (some 12), none, []⟩ :: L86_2
theorem v86_3 : VS L86_3.eq_1 := rfl
def L86_4 : List AStep := [⟨.call 69 [(.t 14), (.t 17)], (some 18), none, []⟩, ⟨.mov (.t 18), (some 6), none, []⟩]
theorem v86_4 : VS L86_4.eq_1 := rfl
def L86_5 : List AStep := ⟨.call 54 [(.t 15)], (some 16), none, []⟩ :: ⟨.bin .add (.t 16) (.c (.int .i64 1)), (some 17), none, []⟩ :: L86_4
theorem v86_5 : VS L86_5.eq_1 := rfl
def L86_6 : List AStep := ⟨.mov (.t 0), (some 14), none, []⟩ :: ⟨.load 1 true (.t 3), (some 15), none, []⟩ :: L86_5
theorem v86_6 : VS L86_6.eq_1 := rfl
def L86_7 : List AStep := [⟨.mov (.c (.int .i64 0)), (some 7), none, []⟩]
theorem v86_7 : VS L86_7.eq_1 := rfl
def L86_8 : List AStep := [⟨.pick (.t 24) (.t 28) (.c (.bool false)), (some 29), none, []⟩]
theorem v86_8 : VS L86_8.eq_1 := rfl
def L86_9 : List AStep := ⟨.len (.t 26), (some 27), (some (24, true)), []⟩ :: ⟨.bin .lss (.t 27) (.c (.int .i64 8)), (some 28), (some (24, true)), []⟩ :: L86_8
theorem v86_9 : VS L86_9.eq_1 := rfl
def L86_10 : List AStep := ⟨.faddr 1 (.t 5), (some 25), (some (24, true)), []⟩ :: ⟨.load 1 false (.t 25), (some 26), (some (24, true)), []⟩ :: L86_9
theorem v86_10 : VS L86_10.eq_1 := rfl
def L86_11 : List AStep := ⟨.bin .lss (.t 19) (.t 22), (some 23), none, []⟩ :: ⟨.mov (.t 23), (some 24), none, []⟩ :: L86_10
theorem v86_11 : VS L86_11.eq_1 := rfl
def L86_12 : List AStep := ⟨.load 1 false (.t 20), (some 21), none, []⟩ :: ⟨.len (.t 21), (some 22), none, []⟩ :: L86_11
theorem v86_12 : VS L86_12.eq_1 := rfl
def L86_13 : List AStep := ⟨.mov (.t 7), (some 19), none, []⟩ :: ⟨.faddr 0 (.t 3), (some 20), none, []⟩ :: L86_12
theorem v86_13 : VS L86_13.eq_1 := rfl
def L86_14 : List AStep := [⟨.store 4 (.t 8) (.t 36), none, none, []⟩]
theorem v86_14 : VS L86_14.eq_1 := rfl
def L86_15 : List AStep := ⟨.load 4 true (.t 35), (some 36), none, []⟩ :: ⟨.alloc 39 [(.str (strOfNums [])), (.int .i64 0), (.bool false), (.int .i64 0)], (some 8), none, []⟩ :: L86_14
theorem v86_15 : VS L86_15.eq_1 := rfl
def L86_16 : List AStep := ⟨.mov (.t 7), (some 34), none, []⟩ :: ⟨.iaddr 4 (.t 33) (.t 34), (some 35), none, []⟩ :: L86_15
theorem v86_16 : VS L86_16.eq_1 := rfl
def L86_17 : List AStep := ⟨.faddr 0 (.t 3), (some 32), none, []⟩ :: ⟨.load 1 false (.t 32), (some 33), none, []⟩ :: L86_16
theorem v86_17 : VS L86_17.eq_1 := rfl
def L86_18 : List AStep := [⟨.mov (.t 38), (some 9), none, []⟩]
theorem v86_18 : VS L86_18.eq_1 := rfl
def L86_19 : List AStep := ⟨.mov (.t 0), (some 37), none, []⟩ :: ⟨.call 89 [(.t 37)], (some 38), none, []⟩ :: L86_18
theorem v86_19 : VS L86_19.eq_1 := rfl
def L86_20 : List AStep := [⟨.pick (.t 41) (.t 44) (.c (.bool false)), (some 45), none, []⟩]
theorem v86_20 : VS L86_20.eq_1 := rfl
def L86_21 : List AStep := ⟨.call 69 [(.t 42), (.c (.int .i64 3))], (some 43), (some (41, true)), []⟩ :: ⟨.bin .eql (.t 43) (.c (.int .i64 0)), (some 44), (some (41, true)), []⟩ :: L86_20
theorem v86_21 : VS L86_21.eq_1 := rfl
def L86_22 : List AStep := ⟨.mov (.t 40), (some 41), none, []⟩ :: ⟨.mov (.t 0), (some 42), (some (41, true)), []⟩ :: L86_21
theorem v86_22 : VS L86_22.eq_1 := rfl
def L86_23 : List AStep := ⟨.faddr 2 (.t 8), (some 39), none, []⟩ :: ⟨.load 1 false (.t 39), (some 40), none, []⟩ :: L86_22
theorem v86_23 : VS L86_23.eq_1 := rfl
def L86_24 : List AStep := [⟨.mov (.t 47), (some 9), none, []⟩]
theorem v86_24 : VS L86_24.eq_1 := rfl
def L86_25 : List AStep := ⟨.faddr 3 (.t 8), (some 46), none, []⟩ :: ⟨.load 1 false (.t 46), (some 47), none, []⟩ :: L86_24
theorem v86_25 : VS L86_25.eq_1 := rfl
def L86_26 : List AStep := [⟨.mov (.t 72), (some 48), none, []⟩]
theorem v86_26 : VS L86_26.eq_1 := rfl
def L86_27 : List AStep := ⟨.pick (.t 55) (.c (.bool true)) (.t 70), (some 71), (some (51, true)), []⟩ :: ⟨.pick (.t 51) (.t 71) (.c (.bool false)), (some 72), none, []⟩ :: L86_26
theorem v86_27 : VS L86_27.eq_1 := rfl
def L86_28 : List AStep := ⟨.bin .eql (.t 67) (.t 68), (some 69), (some (64, true)), []⟩ :: ⟨.pick (.t 64) (.t 69) (.c (.bool false)), (some 70), (some (55, false)), []⟩ :: L86_27
theorem v86_28 : VS L86_28.eq_1 := rfl
def L86_29 : List AStep := ⟨.len (.t 66), (some 67), (some (64, true)), []⟩ :: ⟨.mov (.t 7), (some 68), (some (64, true)), []⟩ :: L86_28
theorem v86_29 : VS L86_29.eq_1 := rfl
def L86_30 : List AStep := ⟨.faddr 0 (.t 5), (some 65), (some (64, true)), []⟩ :: ⟨.load 1 false (.t 65), (some 66), (some (64, true)), []⟩ :: L86_29
theorem v86_30 : VS L86_30.eq_1 := rfl
def L86_31 : List AStep := ⟨.pick (.t 59) (.t 62) (.c (.bool false)), (some 63), (some (55, false)), []⟩ :: ⟨.mov (.t 63), (some 64), (some (55, false)), []⟩ :: L86_30
theorem v86_31 : VS L86_31.eq_1 := rfl
def L86_32 : List AStep := ⟨.load 1 false (.t 60), (some 61), (some (59, true)), []⟩ :: ⟨.not (.t 61), (some 62), (some (59, true)), []⟩ :: L86_31
theorem v86_32 : VS L86_32.eq_1 := rfl
def L86_33 : List AStep := ⟨.mov (.t 58), (some 59), (some (55, false)), []⟩ :: ⟨.faddr 2 (.t 8), (some 60), (some (59, true)), []⟩ :: L86_32
theorem v86_33 : VS L86_33.eq_1 := rfl
def L86_34 : List AStep := ⟨.load 1 false (.t 56), (some 57), (some (55, false)), []⟩ :: ⟨.bin .eql (.t 57) (.c (.int .i64 0)), (some 58), (some (55, false)), []⟩ :: L86_33
theorem v86_34 : VS L86_34.eq_1 := rfl
def L86_35 : List AStep := ⟨.mov (.t 54), (some 55), (some (51, true)), []⟩ :: ⟨.faddr 1 (.t 8), (some 56), (some (55, false)), []⟩ :: L86_34
theorem v86_35 : VS L86_35.eq_1 := rfl
def L86_36 : List AStep := ⟨.mov (.t 6), (some 53), (some (51, true)), []⟩ :: ⟨.bin .lss (.t 52) (.t 53), (some 54), (some (51, true)), []⟩ :: L86_35
theorem v86_36 : VS L86_36.eq_1 := rfl
def L86_37 : List AStep := ⟨.mov (.t 50), (some 51), none, []⟩ :: ⟨.mov (.t 7), (some 52), (some (51, true)), []⟩ :: L86_36
theorem v86_37 : VS L86_37.eq_1 := rfl
def L86_38 : List AStep := ⟨.load 4 true (.t 8), (some 49), none, []⟩ :: ⟨.call 104 [(.t 49)], (some 50), none, []⟩ :: L86_37
theorem v86_38 : VS L86_38.eq_1 := rfl
def L86_39 : List AStep := [⟨.store 1 (.t 78) (.t 77), none, none, []⟩]
theorem v86_39 : VS L86_39.eq_1 := rfl
def L86_40 : List AStep := ⟨.append 3 1 8 (.t 74) (.t 76), (some 77), none, []⟩ :: ⟨.faddr 0 (.t 5), (some 78), none, []⟩ :: L86_39
theorem v86_40 : VS L86_40.eq_1 := rfl
def L86_41 : List AStep := ⟨.mov (.t 9), (some 75), none, []⟩ :: ⟨.buildSlice 3 1 [(.int .i64 0)] [(0, 1, (.t 75))], (some 76), none, []⟩ :: L86_40
theorem v86_41 : VS L86_41.eq_1 := rfl
def L86_42 : List AStep := ⟨.faddr 0 (.t 5), (some 73), none, []⟩ :: ⟨.load 1 false (.t 73), (some 74), none, []⟩ :: L86_41
theorem v86_42 : VS L86_42.eq_1 := rfl
def L86_43 : List AStep := [⟨.mov (.t 99), (some 79), none, []⟩]
theorem v86_43 : VS L86_43.eq_1 := rfl
def L86_44 : List AStep := ⟨.pick (.t 94) (.c (.bool true)) (.t 97), (some 98), (some (90, true)), []⟩ :: ⟨.pick (.t 90) (.t 98) (.c (.bool false)), (some 99), none, []⟩ :: L86_43
theorem v86_44 : VS L86_44.eq_1 := rfl
def L86_45 : List AStep := ⟨.call 69 [(.t 95), (.c (.int .i64 2))], (some 96), (some (94, false)), []⟩ :: ⟨.bin .eql (.t 96) (.c (.int .i64 0)), (some 97), (some (94, false)), []⟩ :: L86_44
theorem v86_45 : VS L86_45.eq_1 := rfl
def L86_46 : List AStep := ⟨.mov (.t 93), (some 94), (some (90, true)), []⟩ :: ⟨.mov (.t 0), (some 95), (some (94, false)), []⟩ :: L86_45
theorem v86_46 : VS L86_46.eq_1 := rfl
def L86_47 : List AStep := ⟨.load 1 false (.t 91), (some 92), (some (90, true)), []⟩ :: ⟨.not (.t 92), (some 93), (some (90, true)), []⟩ :: L86_46
theorem v86_47 : VS L86_47.eq_1 := rfl
def L86_48 : List AStep := ⟨.mov (.t 89), (some 90), none, []⟩ :: ⟨.faddr 2 (.t 8), (some 91), (some (90, true)), []⟩ :: L86_47
theorem v86_48 : VS L86_48.eq_1 := rfl
def L86_49 : List AStep := ⟨.bin .lss (.t 87) (.c (.int .i64 0)), (some 88), (some (82, true)), []⟩ :: ⟨.pick (.t 82) (.t 88) (.c (.bool false)), (some 89), none, []⟩ :: L86_48
theorem v86_49 : VS L86_49.eq_1 := rfl
def L86_50 : List AStep := ⟨.load 1 false (.t 85), (some 86), (some (82, true)), []⟩ :: ⟨.call 131 [(.t 84), (.t 86)], (some 87), (some (82, true)), []⟩ :: L86_49
theorem v86_50 : VS L86_50.eq_1 := rfl
def L86_51 : List AStep := ⟨.load 1 false (.t 83), (some 84), (some (82, true)), []⟩ :: ⟨.faddr 0 (.t 8), (some 85), (some (82, true)), []⟩ :: L86_50
theorem v86_51 : VS L86_51.eq_1 := rfl
def L86_52 : List AStep := ⟨.mov (.t 81), (some 82), none, []⟩ :: ⟨.faddr 1 (.t 5), (some 83), (some (82, true)), []⟩ :: L86_51
theorem v86_52 : VS L86_52.eq_1 := rfl
def L86_53 : List AStep := ⟨.load 4 true (.t 8), (some 80), none, []⟩ :: ⟨.call 130 [(.t 80)], (some 81), none, []⟩ :: L86_52
theorem v86_53 : VS L86_53.eq_1 := rfl
def L86_54 : List AStep := [⟨.faddr 1 (.t 5), (some 108), none, []⟩, ⟨.store 1 (.t 108) (.t 107), none, none, []⟩]
theorem v86_54 : VS L86_54.eq_1 := rfl
def L86_55 : List AStep := ⟨.buildSlice 64 1 [(.str (strOfNums [])), (.int .i64 0)] [(0, 2, (.t 105))], (some 106), none, []⟩ :: ⟨.append 64 2 24 (.t 101) (.t 106), (some 107), none, []⟩ :: L86_54
theorem v86_55 : VS L86_55.eq_1 := rfl
def L86_56 : List AStep := ⟨.mov (.t 9), (some 104), none, []⟩ :: ⟨.build [(.str (strOfNums [])), (.int .i64 0)] [(0, 1, (.t 103)), (1, 1, (.t 104))], (some 105), none, []⟩ :: L86_55
theorem v86_56 : VS L86_56.eq_1 := rfl
def L86_57 : List AStep := ⟨.faddr 0 (.t 8), (some 102), none, []⟩ :: ⟨.load 1 false (.t 102), (some 103), none, []⟩ :: L86_56
theorem v86_57 : VS L86_57.eq_1 := rfl
def L86_58 : List AStep := ⟨.faddr 1 (.t 5), (some 100), none, []⟩ :: ⟨.load 1 false (.t 100), (some 101), none, []⟩ :: L86_57
theorem v86_58 : VS L86_58.eq_1 := rfl
def L86_59 : List AStep := [⟨.pick (.t 121) (.t 125) (.c (.bool false)), (some 126), none, []⟩, ⟨.mov (.t 126), (some 109), none, []⟩]
theorem v86_59 : VS L86_59.eq_1 := rfl
def L86_60 : List AStep := ⟨.len (.t 123), (some 124), (some (121, true)), []⟩ :: ⟨.bin .eql (.t 124) (.c (.int .i64 0)), (some 125), (some (121, true)), []⟩ :: L86_59
theorem v86_60 : VS L86_60.eq_1 := rfl
def L86_61 : List AStep := ⟨.faddr 1 (.t 5), (some 122), (some (121, true)), []⟩ :: ⟨.load 1 false (.t 122), (some 123), (some (121, true)), []⟩ :: L86_60
theorem v86_61 : VS L86_61.eq_1 := rfl
def L86_62 : List AStep := ⟨.pick (.t 113) (.t 119) (.c (.bool false)), (some 120), none, []⟩ :: ⟨.mov (.t 120), (some 121), none, []⟩ :: L86_61
theorem v86_62 : VS L86_62.eq_1 := rfl
def L86_63 : List AStep := ⟨.call 54 [(.t 117)], (some 118), (some (113, true)), [(.load 1 false (.t 114), (some 115), (some (113, true)))]⟩ :: ⟨.bin .eql (.t 116) (.t 118), (some 119), (some (113, true)), []⟩ :: L86_62
theorem v86_63 : VS L86_63.eq_1 := rfl
def L86_64 : List AStep := ⟨.len (.t 115), (some 116), (some (113, true)), []⟩ :: ⟨.load 1 true (.t 3), (some 117), (some (113, true)), []⟩ :: L86_63
theorem v86_64 : VS L86_64.eq_1 := rfl
def L86_65 : List AStep := ⟨.faddr 0 (.t 5), (some 114), (some (113, true)), []⟩ :: ⟨.load 1 false (.t 114), (some 115), (some (113, true)), []⟩ :: L86_64
theorem v86_65 : VS L86_65.eq_1 := rfl
def L86_66 : List AStep := ⟨.bin .eql (.t 111) (.c (.int .i64 2)), (some 112), none, []⟩ :: ⟨.mov (.t 112), (some 113), none, []⟩ :: L86_65
theorem v86_66 : VS L86_66.eq_1 := rfl
def L86_67 : List AStep := ⟨.faddr 1 (.t 8), (some 110), none, []⟩ :: ⟨.load 1 false (.t 110), (some 111), none, []⟩ :: L86_66
theorem v86_67 : VS L86_67.eq_1 := rfl
def L86_68 : List AStep := [⟨.mov (.t 128), (some 10), none, []⟩]
theorem v86_68 : VS L86_68.eq_1 := rfl
def L86_69 : List AStep := ⟨.mov (.t 0), (some 127), none, []⟩ :: ⟨.call 69 [(.t 127), (.c (.int .i64 3))], (some 128), none, []⟩ :: L86_68
theorem v86_69 : VS L86_69.eq_1 := rfl
def L86_70 : List AStep := [⟨.bin .lss (.t 134) (.c (.int .i64 8)), (some 135), (some (131, true)), []⟩, ⟨.pick (.t 131) (.t 135) (.c (.bool false)), (some 136), none, []⟩]
theorem v86_70 : VS L86_70.eq_1 := rfl
def L86_71 : List AStep := ⟨.load 1 false (.t 132), (some 133), (some (131, true)), []⟩ :: ⟨.len (.t 133), (some 134), (some (131, true)), []⟩ :: L86_70
theorem v86_71 : VS L86_71.eq_1 := rfl
def L86_72 : List AStep := ⟨.mov (.t 130), (some 131), none, []⟩ :: ⟨.faddr 0 (.t 5), (some 132), (some (131, true)), []⟩ :: L86_71
theorem v86_72 : VS L86_72.eq_1 := rfl
def L86_73 : List AStep := ⟨.mov (.t 10), (some 129), none, []⟩ :: ⟨.bin .gtr (.t 129) (.c (.int .i64 0)), (some 130), none, []⟩ :: L86_72
theorem v86_73 : VS L86_73.eq_1 := rfl
def L86_74 : List AStep := [⟨.faddr 0 (.t 5), (some 145), none, []⟩, ⟨.store 1 (.t 145) (.t 144), none, none, []⟩]
theorem v86_74 : VS L86_74.eq_1 := rfl
def L86_75 : List AStep := ⟨.buildSlice 3 1 [(.int .i64 0)] [(0, 1, (.t 142))], (some 143), none, []⟩ :: ⟨.append 3 1 8 (.t 140) (.t 143), (some 144), none, []⟩ :: L86_74
theorem v86_75 : VS L86_75.eq_1 := rfl
def L86_76 : List AStep := ⟨.mov (.t 0), (some 141), none, []⟩ :: ⟨.call 89 [(.t 141)], (some 142), none, [(.load 1 false (.t 139), (some 140), none)]⟩ :: L86_75
theorem v86_76 : VS L86_76.eq_1 := rfl
def L86_77 : List AStep := ⟨.faddr 0 (.t 5), (some 139), none, []⟩ :: ⟨.load 1 false (.t 139), (some 140), none, []⟩ :: L86_76
theorem v86_77 : VS L86_77.eq_1 := rfl
def L86_78 : List AStep := [⟨.mov (.t 138), (some 10), none, []⟩]
theorem v86_78 : VS L86_78.eq_1 := rfl
def L86_79 : List AStep := ⟨.mov (.t 10), (some 137), none, []⟩ :: ⟨.bin .sub (.t 137) (.c (.int .i64 1)), (some 138), none, []⟩ :: L86_78
theorem v86_79 : VS L86_79.eq_1 := rfl
def L86_80 : List AStep := [⟨.mov (.t 154), (some 146), none, []⟩]
theorem v86_80 : VS L86_80.eq_1 := rfl
def L86_81 : List AStep := ⟨.bin .eql (.t 152) (.c (.int .i64 0)), (some 153), (some (150, true)), []⟩ :: ⟨.pick (.t 150) (.t 153) (.c (.bool false)), (some 154), none, []⟩ :: L86_80
theorem v86_81 : VS L86_81.eq_1 := rfl
def L86_82 : List AStep := ⟨.mov (.t 0), (some 151), (some (150, true)), []⟩ :: ⟨.call 69 [(.t 151), (.c (.int .i64 2))], (some 152), (some (150, true)), []⟩ :: L86_81
theorem v86_82 : VS L86_82.eq_1 := rfl
def L86_83 : List AStep := ⟨.bin .eql (.t 148) (.c (.int .i64 4)), (some 149), none, []⟩ :: ⟨.mov (.t 149), (some 150), none, []⟩ :: L86_82
theorem v86_83 : VS L86_83.eq_1 := rfl
def L86_84 : List AStep := ⟨.faddr 1 (.t 8), (some 147), none, []⟩ :: ⟨.load 1 false (.t 147), (some 148), none, []⟩ :: L86_83
theorem v86_84 : VS L86_84.eq_1 := rfl
def L86_85 : List AStep := [⟨.store 1 (.t 164) (.t 163), none, none, []⟩]
theorem v86_85 : VS L86_85.eq_1 := rfl
def L86_86 : List AStep := ⟨.call 87 [(.t 156), (.t 162)], (some 163), none, []⟩ :: ⟨.faddr 1 (.t 5), (some 164), none, []⟩ :: L86_85
theorem v86_86 : VS L86_86.eq_1 := rfl
def L86_87 : List AStep := ⟨.call 89 [(.t 160)], (some 161), none, [(.load 1 false (.t 155), (some 156), none)]⟩ :: ⟨.build [(.str (strOfNums [])), (.int .i64 0)] [(0, 1, (.t 159)), (1, 1, (.t 161))], (some 162), none, []⟩ :: L86_86
theorem v86_87 : VS L86_87.eq_1 := rfl
def L86_88 : List AStep := ⟨.mov (.t 0), (some 160), none, []⟩ :: ⟨.call 129 [(.t 157), (.t 158)], (some 159), none, [(.load 1 false (.t 155), (some 156), none)]⟩ :: L86_87
theorem v86_88 : VS L86_88.eq_1 := rfl
def L86_89 : List AStep := ⟨.mov (.t 0), (some 157), none, []⟩ :: ⟨.buildSlice 9 3 [(.str (strOfNums []))] [(0, 1, (.c (.str (strOfNums [109])))), (1, 1, (.c (.str (strOfNums [110])))), (2, 1, (.c (.str (strOfNums [111]))))], (some 158), none, []⟩ :: L86_88
theorem v86_89 : VS L86_89.eq_1 := rfl
def L86_90 : List AStep := ⟨.faddr 1 (.t 5), (some 155), none, []⟩ :: ⟨.load 1 false (.t 155), (some 156), none, []⟩ :: L86_89
theorem v86_90 : VS L86_90.eq_1 := rfl
def L86_91 : List AStep := [⟨.mov (.t 31), (some 7), none, []⟩]
theorem v86_91 : VS L86_91.eq_1 := rfl
def L86_92 : List AStep := ⟨.mov (.t 7), (some 30), none, []⟩ :: ⟨.bin .add (.t 30) (.c (.int .i64 1)), (some 31), none, []⟩ :: L86_91
theorem v86_92 : VS L86_92.eq_1 := rfl
def L86_93 : List AStep := [⟨.load 2 true (.t 5), (some 165), none, []⟩, ⟨.store 2 (.t 4) (.t 165), none, none, []⟩]
theorem v86_93 : VS L86_93.eq_1 := rfl
def C86_0 : ACode := .cond (.t 29) .skip (.exit 0)
theorem u86_0 : VC C86_0.eq_1 := rfl
def C86_1 : ACode := .seq (.reg L86_13) C86_0
theorem u86_1 : VC C86_1.eq_1 := rfl
def C86_2 : ACode := .cond (.t 45) (.reg L86_25) .skip
theorem u86_2 : VC C86_2.eq_1 := rfl
def C86_3 : ACode := .seq (.reg L86_23) C86_2
theorem u86_3 : VC C86_3.eq_1 := rfl
def C86_4 : ACode := .cond (.t 136) .skip (.exit 3)
theorem u86_4 : VC C86_4.eq_1 := rfl
def C86_5 : ACode := .seq (.reg L86_73) C86_4
theorem u86_5 : VC C86_5.eq_1 := rfl
def C86_6 : ACode := .block 4 (.reg L86_77)
theorem u86_6 : VC C86_6.eq_1 := rfl
def C86_7 : ACode := .seq C86_6 (.reg L86_79)
theorem u86_7 : VC C86_7.eq_1 := rfl
def C86_8 : ACode := .seq C86_5 C86_7
theorem u86_8 : VC C86_8.eq_1 := rfl
def C86_9 : ACode := .block 3 (.loop C86_8)
theorem u86_9 : VC C86_9.eq_1 := rfl
def C86_10 : ACode := .seq (.reg L86_69) C86_9
theorem u86_10 : VC C86_10.eq_1 := rfl
def C86_11 : ACode := .cond (.t 146) (.reg L86_90) .skip
theorem u86_11 : VC C86_11.eq_1 := rfl
def C86_12 : ACode := .seq (.reg L86_84) C86_11
theorem u86_12 : VC C86_12.eq_1 := rfl
def C86_13 : ACode := .cond (.t 109) C86_10 C86_12
theorem u86_13 : VC C86_13.eq_1 := rfl
def C86_14 : ACode := .seq (.reg L86_67) C86_13
theorem u86_14 : VC C86_14.eq_1 := rfl
def C86_15 : ACode := .cond (.t 79) (.reg L86_58) C86_14
theorem u86_15 : VC C86_15.eq_1 := rfl
def C86_16 : ACode := .seq (.reg L86_53) C86_15
theorem u86_16 : VC C86_16.eq_1 := rfl
def C86_17 : ACode := .cond (.t 48) (.reg L86_42) C86_16
theorem u86_17 : VC C86_17.eq_1 := rfl
def C86_18 : ACode := .seq (.reg L86_38) C86_17
theorem u86_18 : VC C86_18.eq_1 := rfl
def C86_19 : ACode := .block 2 C86_18
theorem u86_19 : VC C86_19.eq_1 := rfl
def C86_20 : ACode := .seq C86_3 C86_19
theorem u86_20 : VC C86_20.eq_1 := rfl
def C86_21 : ACode := .seq (.reg L86_19) C86_20
theorem u86_21 : VC C86_21.eq_1 := rfl
def C86_22 : ACode := .seq (.reg L86_17) C86_21
theorem u86_22 : VC C86_22.eq_1 := rfl
def C86_23 : ACode := .block 1 C86_22
theorem u86_23 : VC C86_23.eq_1 := rfl
def C86_24 : ACode := .seq C86_23 (.reg L86_92)
theorem u86_24 : VC C86_24.eq_1 := rfl
def C86_25 : ACode := .seq C86_1 C86_24
theorem u86_25 : VC C86_25.eq_1 := rfl
def C86_26 : ACode := .block 0 (.loop C86_25)
theorem u86_26 : VC C86_26.eq_1 := rfl
def C86_27 : ACode := .seq (.reg L86_7) C86_26
theorem u86_27 : VC C86_27.eq_1 := rfl
def C86_28 : ACode := .seq (.reg L86_93) .ret
theorem u86_28 : VC C86_28.eq_1 := rfl
def C86_29 : ACode := .seq C86_27 C86_28
theorem u86_29 : VC C86_29.eq_1 := rfl
def C86_30 : ACode := .seq (.reg L86_6) C86_29
theorem u86_30 : VC C86_30.eq_1 := rfl
def C86_31 : ACode := .seq (.reg L86_3) C86_30
theorem u86_31 : VC C86_31.eq_1 := rfl
def C86_32 : ACode := .seq (.reg L86_0) C86_31
theorem u86_32 : VC C86_32.eq_1 := rfl
def F86 : AFunc := ⟨166, [.cell 4 2 true], C86_32⟩
theorem cF86 : compB Try.prog 86 = some F86 := by kernel_rfl
attribute [local go_sem ↓] u86_0 u86_1 u86_2 u86_3 u86_4 u86_5 u86_6 u86_7 u86_8 u86_9 u86_10 u86_11 u86_13 u86_15 u86_17 u86_18 u86_20 u86_21 u86_22 u86_23 u86_24 u86_25 u86_26 u86_27 u86_28 u86_29 u86_30 u86_31 u86_32 v86_0 v86_1 v86_2 v86_3 v86_4 v86_5 v86_6 v86_7 v86_8 v86_9 v86_10 v86_11 v86_12 v86_13 v86_14 v86_15 v86_16 v86_17 v86_18 v86_19 v86_20 v86_21 v86_22 v86_23 v86_24 v86_25 v86_26 v86_27 v86_28 v86_29 v86_30 v86_31 v86_32 v86_33 v86_34 v86_35 v86_36 v86_37 v86_38 v86_39 v86_40 v86_41 v86_43 v86_44 v86_45 v86_46 v86_47 v86_48 v86_49 v86_50 v86_51 v86_52 v86_53 v86_54 v86_55 v86_56 v86_57 v86_59 v86_60 v86_61 v86_62 v86_63 v86_64 v86_65 v86_66 v86_67 v86_68 v86_69 v86_70 v86_71 v86_72 v86_73 v86_74 v86_75 v86_76 v86_77 v86_78 v86_79 v86_80 v86_81 v86_82 v86_83 v86_84 v86_85 v86_86 v86_87 v86_88 v86_89 v86_90 v86_91 v86_93
theorem c_callFor (b : Nat) (p : Int) (l : List Param) (u : CV) (h : H) (r : Rd h b p) (hp : p ≤ 2 ^ 38) (hq : SlQ h (.one u) l) (hub : baseOf (.one u) ≠ some b) (h8 : l.length ≤ 8) (hnm : ∀ x ∈ l, x.name.size ≤ 10) :
    callK (bm Try.prog 86 [.one (.ptr (some (b, 0))), .agg [u]] h) fun q h' => (∃ x y f, q = .agg [x, y] ∧ NwF h h' x y f ∧ f.pl.length ≤ 24 ∧ f.nl.length ≤ 8 ∧ ∀ a ∈ f.nl, a.name.size ≤ 10) ∧ Drew b p 65 h h' := by
  refine bm_of cF86 ?_
  have hbn := r.lt
  have hsm : smQ l := ⟨by unfold big; omega, fun x hx => Nat.le_trans (hnm x hx) (by decide)⟩
  have hub8 : ∀ j, baseOf (.one u) = some j → j < h.n := fun j hj => by
    obtain ⟨b0, c0, e, _⟩ := hq.form
    rw [e] at hj
    cases b0 with
    | none => simp [baseOf] at hj
    | some a =>
      simp [baseOf] at hj
      have := (hq.own a _ c0 e).1
      omega
  have sep : Sep (.one u) (bR b) := fun j hj e => by simp [bR, baseOf] at e; subst e; exact hub hj
  simp +contextual (maxSteps := 2000000) only [go_sem, Nat.reduceEqDiff, reduceCtorEq, Nat.reduceAdd, Nat.reduceLeDiff, F86]
  refine wp_lit (enc := encI) (k := 1) (l := []) rfl rfl ?_
  intro h1 w1 g1 n1 b1
  obtain ⟨c1, rfl⟩ := n1.one
  simp +contextual (maxSteps := 2000000) only [go_sem, Nat.reduceEqDiff, reduceCtorEq, Nat.reduceAdd, Nat.reduceLeDiff]
  refine wp_lit (enc := encP) (k := 2) (l := []) rfl rfl ?_
  intro h2 w2 g2 n2 b2
  obtain ⟨c2, rfl⟩ := n2.one
  have y2 : NwF h h2 c1 c2 ⟨[], []⟩ := ⟨n1.grow g2, n2.from g1.n, n1.apart n2⟩
  have g12 := g1.trans g2
  have hq2 := hq.grow g12
  have epc := c_placeCount l u h2 hq2 hsm
  simp +contextual (maxSteps := 2000000) only [go_sem, Nat.reduceEqDiff, reduceCtorEq, Nat.reduceAdd, Nat.reduceLeDiff, epc]
  refine wp_call (c_pick b _ p h2 (r.grow g12) (by omega)) ?_
  rintro q h3 ⟨⟨pl, rfl, _, _⟩, d3⟩
  have y3 := y2.drew d3 hbn
  have hq3 := hq2.of_stay d3.st sep
  have d3 := d3.pre g12
  simp +contextual (maxSteps := 2000000) only [go_sem, Nat.reduceEqDiff, reduceCtorEq, Nat.reduceAdd, Nat.reduceLeDiff]
  refine wpC_loop (fun i T L h' => T 0 = .v (.one (.ptr (some (b, 0)))) ∧ T 3 = .lp 3 0 ∧ (L 3).2 = [u] ∧ T 4 = .lp 4 0 ∧ (L 4).2 = [.sl none 0 (some 0), .sl none 0 (some 0)] ∧ T 5 = .lp 5 0 ∧ (∃ x y f, (L 5).2 = [x, y] ∧ NwF h h' x y f ∧ f.pl.length ≤ 3 * i ∧ f.nl.length ≤ i ∧ ∀ a ∈ f.nl, a.name.size ≤ 10) ∧ T 6 = .v (.one (.int .i64 pl)) ∧ T 7 = .v (.one (.int .i64 i)) ∧ SlQ h' (.one u) l ∧ Drew b p (1 + 8 * i) h h') l.length ?_ ?_ (Nat.zero_le _) ?_
  · rintro i T L h' hi ⟨t0, t3, l3, t4, l4, t5, ⟨x, y, f, l5, z, z1, z2, z3⟩, t6, t7, hq', d⟩
    cases en : decide ((f.nl.length : Int) < 8) with
    | false =>
      have d := d.more (show 1 + 8 * i ≤ 65 by omega)
      simp +contextual (maxSteps := 2000000) only [go_sem, Nat.reduceEqDiff, reduceCtorEq, Nat.reduceAdd, Nat.reduceLeDiff, t0, t3, l3, t4, l4, t5, l5, t6, t7, hq'.len, lt_true hi, z.nl.length, en]
      exact gcK_drew r d ⟨⟨x, y, f, rfl, z, by omega, by omega, z3⟩, d⟩
    | true =>
    have en8 : f.nl.length < 8 := by have := of_decide_eq_true en; omega
    have ebp : ∀ h0 : H, bm Try.prog 104 [.agg [.str l[i].name, .int .i64 l[i].kind, .bool l[i].has, .int .i64 l[i].dflt]] h0 = some (ib (byPlace l[i]), h0) := fun h0 => c_byPlace l[i] h0
    have ebn : ∀ h0 : H, bm Try.prog 130 [.agg [.str l[i].name, .int .i64 l[i].kind, .bool l[i].has, .int .i64 l[i].dflt]] h0 = some (ib (byName l[i]), h0) := fun h0 => c_byName l[i] h0
    have hin := hnm _ (List.getElem_mem hi)
    apply joinS (P := Try.prog) (l := L86_92) (M := fun T L h' => T 0 = .v (.one (.ptr (some (b, 0)))) ∧ T 3 = .lp 3 0 ∧ (L 3).2 = [u] ∧ T 4 = .lp 4 0 ∧ (L 4).2 = [.sl none 0 (some 0), .sl none 0 (some 0)] ∧ T 5 = .lp 5 0 ∧ T 6 = .v (.one (.int .i64 pl)) ∧ T 7 = .v (.one (.int .i64 i)) ∧ (∃ x y f, (L 5).2 = [x, y] ∧ NwF h h' x y f ∧ f.pl.length ≤ 3 * (i + 1) ∧ f.nl.length ≤ i + 1 ∧ ∀ a ∈ f.nl, a.name.size ≤ 10) ∧ SlQ h' (.one u) l ∧ Drew b p (1 + 8 * i + 8) h h')
    · intro J5
      obtain ⟨p', hp1, hp2, r'⟩ := d.ex
      simp +contextual (maxSteps := 2000000) only [go_sem, Nat.reduceEqDiff, reduceCtorEq, Nat.reduceAdd, Nat.reduceLeDiff, t0, t3, l3, t4, l4, t5, l5, t6, t7, hq'.len, lt_true hi, z.nl.length, en, hq'.iaddr hi, hq'.whole hi, encQ]
      refine wp_call (c_aNumber b p' h' r' (by omega)) ?_
      rintro q1 h4 ⟨⟨n, rfl⟩, d4⟩
      obtain ⟨p4, hs1, hs2, r4⟩ := d4.ex
      have hq4 := hq'.of_stay d4.st sep
      have z4 := z.drew d4 hbn
      have d4 := d4.then d.st (by omega) hp2
      apply joinC (P := Try.prog) (c := C86_19) (M := fun T L h' => CFm b u x y pl i l[i] T L ∧ NwF h h' x y f ∧ SlQ h' (.one u) l ∧ Drew b p (1 + 8 * i + 2) h h')
      · intro J
        cases hd : l[i].has with
        | false =>
          simp +contextual (maxSteps := 2000000) only [go_sem, Nat.reduceEqDiff, reduceCtorEq, Nat.reduceAdd, Nat.reduceLeDiff, t0, t3, l3, t4, l4, t5, l5, t6, t7, hd]
          refine J _ _ _ ⟨?_, z4, hq4, d4.more (by omega)⟩
          unfold CFm
          simp +contextual (maxSteps := 2000000) only [go_sem, Nat.reduceEqDiff, reduceCtorEq, Nat.reduceAdd, Nat.reduceLeDiff, t0, t3, l3, t4, l4, t5, l5, t6, t7, hd]
          exact ⟨n, rfl⟩
        | true =>
          simp +contextual (maxSteps := 2000000) only [go_sem, Nat.reduceEqDiff, reduceCtorEq, Nat.reduceAdd, Nat.reduceLeDiff, t0, t3, l3, t4, l4, t5, l5, t6, t7, hd]
          refine wp_call (c_pick b 3 p4 h4 r4 (by omega)) ?_
          rintro q1 h5 ⟨⟨e, rfl, _, _⟩, d5⟩
          have hq5 := hq4.of_stay d5.st sep
          have z5 := z4.drew d5 hbn
          have d5 := d5.then d4.st (by omega) (show p4 ≤ p + ((1 + 8 * i + 1 : Nat) : Int) by omega)
          by_cases e0 : e = 0
          · simp +contextual (maxSteps := 2000000) only [go_sem, Nat.reduceEqDiff, reduceCtorEq, Nat.reduceAdd, Nat.reduceLeDiff, t0, t3, l3, t4, l4, t5, l5, t6, t7, hd, decide_eq_true e0]
            refine J _ _ _ ⟨?_, z5, hq5, d5⟩
            unfold CFm
            simp +contextual (maxSteps := 2000000) only [go_sem, Nat.reduceEqDiff, reduceCtorEq, Nat.reduceAdd, Nat.reduceLeDiff, t0, t3, l3, t4, l4, t5, l5, t6, t7, hd]
            exact ⟨_, rfl⟩
          · simp +contextual (maxSteps := 2000000) only [go_sem, Nat.reduceEqDiff, reduceCtorEq, Nat.reduceAdd, Nat.reduceLeDiff, t0, t3, l3, t4, l4, t5, l5, t6, t7, hd, decide_eq_false e0]
            refine J _ _ _ ⟨?_, z5, hq5, d5⟩
            unfold CFm
            simp +contextual (maxSteps := 2000000) only [go_sem, Nat.reduceEqDiff, reduceCtorEq, Nat.reduceAdd, Nat.reduceLeDiff, t0, t3, l3, t4, l4, t5, l5, t6, t7, hd]
            exact ⟨_, rfl⟩
      · skip
        rintro T L h' ⟨⟨t0, t3, l3, t4, l4, t5, l5, t6, t7, t8, l8, n, t9⟩, z, hq', d⟩
        apply joinS (P := Try.prog) (l := L86_42) (M := fun T L h2 => h2 = h' ∧ CFm b u x y pl i l[i] T L)
        · intro J42
          apply joinC (P := Try.prog) (c := C86_16) (M := fun T L h2 => h2 = h' ∧ CFm b u x y pl i l[i] T L)
          · intro J16
            cases c1 : byPlace l[i] with
            | false =>
              simp +contextual (maxSteps := 2000000) only [go_sem, Nat.reduceEqDiff, reduceCtorEq, Nat.reduceAdd, Nat.reduceLeDiff, ↓u86_19, t0, t3, l3, t4, l4, t5, l5, t6, t7, t8, l8, t9, ebp, c1]
              refine J16 _ _ _ ⟨rfl, ?_⟩
              unfold CFm
              simp +contextual (maxSteps := 2000000) only [go_sem, Nat.reduceEqDiff, reduceCtorEq, Nat.reduceAdd, Nat.reduceLeDiff, t0, t3, l3, t4, l4, t5, l5, t6, t7, t8, l8, t9]
              exact ⟨_, rfl⟩
            | true =>
              by_cases c2 : (i : Int) < pl
              · simp +contextual (maxSteps := 2000000) only [go_sem, Nat.reduceEqDiff, reduceCtorEq, Nat.reduceAdd, Nat.reduceLeDiff, ↓u86_19, t0, t3, l3, t4, l4, t5, l5, t6, t7, t8, l8, t9, ebp, c1, decide_eq_true c2]
                refine J42 _ _ _ ⟨rfl, ?_⟩
                unfold CFm
                simp +contextual (maxSteps := 2000000) only [go_sem, Nat.reduceEqDiff, reduceCtorEq, Nat.reduceAdd, Nat.reduceLeDiff, t0, t3, l3, t4, l4, t5, l5, t6, t7, t8, l8, t9]
                exact ⟨_, rfl⟩
              · by_cases c3 : l[i].kind = 0
                · cases c4 : l[i].has with
                  | true =>
                    simp only [c4] at ebp
                    simp +contextual (maxSteps := 2000000) only [go_sem, Nat.reduceEqDiff, reduceCtorEq, Nat.reduceAdd, Nat.reduceLeDiff, ↓u86_19, t0, t3, l3, t4, l4, t5, l5, t6, t7, t8, l8, t9, ebp, c1, decide_eq_false c2, decide_eq_true c3, c4]
                    refine J16 _ _ _ ⟨rfl, ?_⟩
                    unfold CFm
                    simp +contextual (maxSteps := 2000000) only [go_sem, Nat.reduceEqDiff, reduceCtorEq, Nat.reduceAdd, Nat.reduceLeDiff, t0, t3, l3, t4, l4, t5, l5, t6, t7, t8, l8, t9, c4]
                    exact ⟨_, rfl⟩
                  | false =>
                    simp only [c4] at ebp
                    cases c5 : decide ((f.pl.length : Int) = (i : Int)) with
                    | true =>
                      simp +contextual (maxSteps := 2000000) only [go_sem, Nat.reduceEqDiff, reduceCtorEq, Nat.reduceAdd, Nat.reduceLeDiff, ↓u86_19, t0, t3, l3, t4, l4, t5, l5, t6, t7, t8, l8, t9, ebp, c1, decide_eq_false c2, decide_eq_true c3, c4, z.pl.length, c5]
                      refine J42 _ _ _ ⟨rfl, ?_⟩
                      unfold CFm
                      simp +contextual (maxSteps := 2000000) only [go_sem, Nat.reduceEqDiff, reduceCtorEq, Nat.reduceAdd, Nat.reduceLeDiff, t0, t3, l3, t4, l4, t5, l5, t6, t7, t8, l8, t9, c4]
                      exact ⟨_, rfl⟩
                    | false =>
                      simp +contextual (maxSteps := 2000000) only [go_sem, Nat.reduceEqDiff, reduceCtorEq, Nat.reduceAdd, Nat.reduceLeDiff, ↓u86_19, t0, t3, l3, t4, l4, t5, l5, t6, t7, t8, l8, t9, ebp, c1, decide_eq_false c2, decide_eq_true c3, c4, z.pl.length, c5]
                      refine J16 _ _ _ ⟨rfl, ?_⟩
                      unfold CFm
                      simp +contextual (maxSteps := 2000000) only [go_sem, Nat.reduceEqDiff, reduceCtorEq, Nat.reduceAdd, Nat.reduceLeDiff, t0, t3, l3, t4, l4, t5, l5, t6, t7, t8, l8, t9, c4]
                      exact ⟨_, rfl⟩
                · simp +contextual (maxSteps := 2000000) only [go_sem, Nat.reduceEqDiff, reduceCtorEq, Nat.reduceAdd, Nat.reduceLeDiff, ↓u86_19, t0, t3, l3, t4, l4, t5, l5, t6, t7, t8, l8, t9, ebp, c1, decide_eq_false c2, decide_eq_false c3]
                  refine J16 _ _ _ ⟨rfl, ?_⟩
                  unfold CFm
                  simp +contextual (maxSteps := 2000000) only [go_sem, Nat.reduceEqDiff, reduceCtorEq, Nat.reduceAdd, Nat.reduceLeDiff, t0, t3, l3, t4, l4, t5, l5, t6, t7, t8, l8, t9]
                  exact ⟨_, rfl⟩
          · skip
            rintro T L h2 ⟨rfl, t0, t3, l3, t4, l4, t5, l5, t6, t7, t8, l8, n, t9⟩
            have eat := c_pairAt f.nl (.one y) l[i].name h2 z.sl.nl ⟨by unfold big; omega, fun a ha => Nat.le_trans (z3 a ha) (by decide)⟩
            obtain ⟨p', hq1, hq2, r'⟩ := d.ex
            apply joinS (P := Try.prog) (l := L86_58) (M := fun T L h' => CFm b u x y pl i l[i] T L ∧ NwF h h' x y f ∧ SlQ h' (.one u) l ∧ Drew b p (1 + 8 * i + 3) h h')
            · intro J58
              apply joinC (P := Try.prog) (c := C86_14) (M := fun T L h' => CFm b u x y pl i l[i] T L ∧ NwF h h' x y f ∧ SlQ h' (.one u) l ∧ Drew b p (1 + 8 * i + 3) h h')
              · intro J14
                cases c1 : byName l[i] with
                | false =>
                  simp +contextual (maxSteps := 2000000) only [go_sem, Nat.reduceEqDiff, reduceCtorEq, Nat.reduceAdd, Nat.reduceLeDiff, ↓u86_16, t0, t3, l3, t4, l4, t5, l5, t6, t7, t8, l8, t9, ebn, c1]
                  refine J14 _ _ _ ⟨?_, z, hq', d.more (by omega)⟩
                  unfold CFm
                  simp +contextual (maxSteps := 2000000) only [go_sem, Nat.reduceEqDiff, reduceCtorEq, Nat.reduceAdd, Nat.reduceLeDiff, t0, t3, l3, t4, l4, t5, l5, t6, t7, t8, l8, t9]
                  exact ⟨_, rfl⟩
                | true =>
                  cases c2 : decide (pairAt f.nl l[i].name < 0) with
                  | false =>
                    simp +contextual (maxSteps := 2000000) only [go_sem, Nat.reduceEqDiff, reduceCtorEq, Nat.reduceAdd, Nat.reduceLeDiff, ↓u86_16, t0, t3, l3, t4, l4, t5, l5, t6, t7, t8, l8, t9, ebn, c1, eat, c2]
                    refine J14 _ _ _ ⟨?_, z, hq', d.more (by omega)⟩
                    unfold CFm
                    simp +contextual (maxSteps := 2000000) only [go_sem, Nat.reduceEqDiff, reduceCtorEq, Nat.reduceAdd, Nat.reduceLeDiff, t0, t3, l3, t4, l4, t5, l5, t6, t7, t8, l8, t9]
                    exact ⟨_, rfl⟩
                  | true =>
                    cases c3 : l[i].has with
                    | false =>
                      simp only [c3] at ebn
                      simp +contextual (maxSteps := 2000000) only [go_sem, Nat.reduceEqDiff, reduceCtorEq, Nat.reduceAdd, Nat.reduceLeDiff, ↓u86_16, t0, t3, l3, t4, l4, t5, l5, t6, t7, t8, l8, t9, ebn, c1, eat, c2, c3]
                      refine J58 _ _ _ ⟨?_, z, hq', d.more (by omega)⟩
                      unfold CFm
                      simp +contextual (maxSteps := 2000000) only [go_sem, Nat.reduceEqDiff, reduceCtorEq, Nat.reduceAdd, Nat.reduceLeDiff, t0, t3, l3, t4, l4, t5, l5, t6, t7, t8, l8, t9, c3]
                      exact ⟨_, rfl⟩
                    | true =>
                      simp only [c3] at ebn
                      simp +contextual (maxSteps := 2000000) only [go_sem, Nat.reduceEqDiff, reduceCtorEq, Nat.reduceAdd, Nat.reduceLeDiff, ↓u86_16, t0, t3, l3, t4, l4, t5, l5, t6, t7, t8, l8, t9, ebn, c1, eat, c2, c3]
                      refine wp_call (c_pick b 2 p' h2 r' (by omega)) ?_
                      rintro q1 h5 ⟨⟨e, rfl, _, _⟩, d5⟩
                      have hq5 := hq'.of_stay d5.st sep
                      have z5 := z.drew d5 hbn
                      have d5 := d5.then d.st (by omega) hq2
                      by_cases e0 : e = 0
                      · simp +contextual (maxSteps := 2000000) only [go_sem, Nat.reduceEqDiff, reduceCtorEq, Nat.reduceAdd, Nat.reduceLeDiff, t0, t3, l3, t4, l4, t5, l5, t6, t7, t8, l8, t9, decide_eq_true e0, c3]
                        refine J58 _ _ _ ⟨?_, z5, hq5, d5⟩
                        unfold CFm
                        simp +contextual (maxSteps := 2000000) only [go_sem, Nat.reduceEqDiff, reduceCtorEq, Nat.reduceAdd, Nat.reduceLeDiff, t0, t3, l3, t4, l4, t5, l5, t6, t7, t8, l8, t9, c3]
                        exact ⟨_, rfl⟩
                      · simp +contextual (maxSteps := 2000000) only [go_sem, Nat.reduceEqDiff, reduceCtorEq, Nat.reduceAdd, Nat.reduceLeDiff, t0, t3, l3, t4, l4, t5, l5, t6, t7, t8, l8, t9, decide_eq_false e0, c3]
                        refine J14 _ _ _ ⟨?_, z5, hq5, d5⟩
                        unfold CFm
                        simp +contextual (maxSteps := 2000000) only [go_sem, Nat.reduceEqDiff, reduceCtorEq, Nat.reduceAdd, Nat.reduceLeDiff, t0, t3, l3, t4, l4, t5, l5, t6, t7, t8, l8, t9, c3]
                        exact ⟨_, rfl⟩
              · skip
                rintro T L h2 ⟨⟨t0, t3, l3, t4, l4, t5, l5, t6, t7, t8, l8, n, t9⟩, z, hq', d⟩
                have epc := c_placeCount l u h2 hq' hsm
                have el1 := z.pl.length
                have el2 := z.nl.length
                apply joinC (P := Try.prog) (c := C86_12) (M := fun T L h' => h' = h2 ∧ CFm b u x y pl i l[i] T L)
                · intro J12
                  by_cases c1 : l[i].kind = 2
                  · cases c2 : decide ((f.pl.length : Int) = (l.countP byPlace : Int)) with
                    | false =>
                      simp +contextual (maxSteps := 2000000) only [go_sem, Nat.reduceEqDiff, reduceCtorEq, Nat.reduceAdd, Nat.reduceLeDiff, ↓u86_14, t0, t3, l3, t4, l4, t5, l5, t6, t7, t8, l8, t9, decide_eq_true c1, el1, epc, c2]
                      refine J12 _ _ _ ⟨rfl, ?_⟩
                      unfold CFm
                      simp +contextual (maxSteps := 2000000) only [go_sem, Nat.reduceEqDiff, reduceCtorEq, Nat.reduceAdd, Nat.reduceLeDiff, t0, t3, l3, t4, l4, t5, l5, t6, t7, t8, l8, t9]
                      exact ⟨_, rfl⟩
                    | true =>
                      cases c3 : decide ((f.nl.length : Int) = 0) with
                      | false =>
                        simp +contextual (maxSteps := 2000000) only [go_sem, Nat.reduceEqDiff, reduceCtorEq, Nat.reduceAdd, Nat.reduceLeDiff, ↓u86_14, t0, t3, l3, t4, l4, t5, l5, t6, t7, t8, l8, t9, decide_eq_true c1, el1, epc, c2, el2, c3]
                        refine J12 _ _ _ ⟨rfl, ?_⟩
                        unfold CFm
                        simp +contextual (maxSteps := 2000000) only [go_sem, Nat.reduceEqDiff, reduceCtorEq, Nat.reduceAdd, Nat.reduceLeDiff, t0, t3, l3, t4, l4, t5, l5, t6, t7, t8, l8, t9]
                        exact ⟨_, rfl⟩
                      | true =>
                        obtain ⟨p', hq1, hq2, r'⟩ := d.ex
                        simp +contextual (maxSteps := 2000000) only [go_sem, Nat.reduceEqDiff, reduceCtorEq, Nat.reduceAdd, Nat.reduceLeDiff, ↓u86_14, t0, t3, l3, t4, l4, t5, l5, t6, t7, t8, l8, t9, decide_eq_true c1, el1, epc, c2, el2, c3]
                        refine wp_call (c_pick b 3 p' h2 r' (by omega)) ?_
                        rintro q1 h5 ⟨⟨m, rfl, m0, m1⟩, d5⟩
                        obtain ⟨m, rfl⟩ := Int.eq_ofNat_of_zero_le m0
                        have hm : m ≤ 2 := by omega
                        have hq5 := hq'.of_stay d5.st sep
                        have z5 := z.drew d5 hbn
                        have d5 := d5.then d.st (by omega) hq2
                        simp +contextual (maxSteps := 2000000) only [go_sem, Nat.reduceEqDiff, reduceCtorEq, Nat.reduceAdd, Nat.reduceLeDiff, t0, t3, l3, t4, l4, t5, l5, t6, t7, t8, l8, t9]
                        refine wpC_loop (fun k T L h' => T 0 = .v (.one (.ptr (some (b, 0)))) ∧ T 3 = .lp 3 0 ∧ (L 3).2 = [u] ∧ T 4 = .lp 4 0 ∧ (L 4).2 = [.sl none 0 (some 0), .sl none 0 (some 0)] ∧ T 5 = .lp 5 0 ∧ (∃ x f', (L 5).2 = [x, y] ∧ NwF h h' x y f' ∧ f'.pl.length ≤ 3 * i + k ∧ f'.nl = f.nl) ∧ T 6 = .v (.one (.int .i64 pl)) ∧ T 7 = .v (.one (.int .i64 i)) ∧ T 10 = .v (.one (.int .i64 ((m - k : Nat) : Int))) ∧ SlQ h' (.one u) l ∧ Drew b p (1 + 8 * i + 4 + k) h h') m ?_ ?_ (Nat.zero_le _) ?_
                        · skip
                          rintro k T L h' hk ⟨t0, t3, l3, t4, l4, t5, ⟨x', f', l5, z, y1, y2⟩, t6, t7, t10, hq', d⟩
                          obtain ⟨j, hj⟩ : ∃ j, m - k = j + 1 := ⟨m - k - 1, by omega⟩
                          rw [hj] at t10
                          have a3 : decide (((j + 1 : Nat) : Int) > 0) = true := decide_eq_true (by omega)
                          cases c4 : decide ((f'.pl.length : Int) < 8) with
                          | false =>
                            simp +contextual (maxSteps := 2000000) only [go_sem, Nat.reduceEqDiff, reduceCtorEq, Nat.reduceAdd, Nat.reduceLeDiff, t0, t3, l3, t4, l4, t5, l5, t6, t7, t10, a3, z.pl.length, c4]
                            refine J5 _ _ _ ?_
                            simp +contextual (maxSteps := 2000000) only [go_sem, Nat.reduceEqDiff, reduceCtorEq, Nat.reduceAdd, Nat.reduceLeDiff, t0, t3, l3, t4, l4, t5, l5, t6, t7, t10]
                            exact ⟨⟨x', y, f', rfl, z, by omega, by rw [y2]; omega, by rw [y2]; exact z3⟩, hq', d.more (by omega)⟩
                          | true =>
                            obtain ⟨p', hq1, hq2, r'⟩ := d.ex
                            simp +contextual (maxSteps := 2000000) only [go_sem, Nat.reduceEqDiff, reduceCtorEq, Nat.reduceAdd, Nat.reduceLeDiff, t0, t3, l3, t4, l4, t5, l5, t6, t7, t10, a3, z.pl.length, c4]
                            refine wp_call (c_aNumber b p' h' r' (by omega)) ?_
                            rintro q1 h6 ⟨⟨n, rfl⟩, d6⟩
                            have hq6 := hq'.of_stay d6.st sep
                            have z6 := z.drew d6 hbn
                            have d6 := d6.then d.st (by omega) hq2
                            simp +contextual (maxSteps := 2000000) only [go_sem, Nat.reduceEqDiff, reduceCtorEq, Nat.reduceAdd, Nat.reduceLeDiff, t0, t3, l3, t4, l4, t5, l5, t6, t7, t10]
                            refine wp_lit (enc := encI) (k := 1) (l := [n]) rfl rfl ?_
                            intro h7 w7 g7 n7 b7
                            have z7 := z6.grow g7
                            simp +contextual (maxSteps := 2000000) only [go_sem, Nat.reduceEqDiff, reduceCtorEq, Nat.reduceAdd, Nat.reduceLeDiff, t0, t3, l3, t4, l4, t5, l5, t6, t7, t10]
                            refine wp_appendD lenI z7.pl (n7.sl lenI) (Nat.le_trans d6.st.n g7.n) (by simp; omega) ?_
                            intro h8 s8 n8 st8 hb8
                            obtain ⟨c8, rfl⟩ := n8.one
                            have z8 := z7.appPl n8 st8 hb8
                            have d8 := (d6.grow g7).stay st8 (fun i hi => (z7.pl.lt hi).2) hbn
                            have hq8 := (hq6.grow g7).of_stay st8 (fun j hj e => by have := (z7.pl.lt e).2; have := hub8 j hj; omega)
                            simp +contextual (maxSteps := 2000000) only [go_sem, Nat.reduceEqDiff, reduceCtorEq, Nat.reduceAdd, Nat.reduceLeDiff, t0, t3, l3, t4, l4, t5, l5, t6, t7, t10, wrap_pred (show j < 2 ^ 62 by omega)]
                            exact ⟨⟨c8, _, rfl, z8, by simp; omega, y2⟩, by rw [show m - (k + 1) = j by omega], hq8, d8⟩
                        · skip
                          rintro T L h' ⟨t0, t3, l3, t4, l4, t5, ⟨x', f', l5, z, y1, y2⟩, t6, t7, t10, hq', d⟩
                          rw [Nat.sub_self] at t10
                          have hz : decide (((0 : Nat) : Int) > 0) = false := rfl
                          simp +contextual (maxSteps := 2000000) only [go_sem, Nat.reduceEqDiff, reduceCtorEq, Nat.reduceAdd, Nat.reduceLeDiff, t0, t3, l3, t4, l4, t5, l5, t6, t7, t10, hz]
                          refine J5 _ _ _ ?_
                          simp +contextual (maxSteps := 2000000) only [go_sem, Nat.reduceEqDiff, reduceCtorEq, Nat.reduceAdd, Nat.reduceLeDiff, t0, t3, l3, t4, l4, t5, l5, t6, t7, t10]
                          exact ⟨⟨x', y, f', rfl, z, by omega, by rw [y2]; omega, by rw [y2]; exact z3⟩, hq', d.more (by omega)⟩
                        · simp +contextual (maxSteps := 2000000) only [go_sem, Nat.reduceEqDiff, reduceCtorEq, Nat.reduceAdd, Nat.reduceLeDiff, t0, t3, l3, t4, l4, t5, l5, t6, t7, t8, l8, t9]
                          exact ⟨⟨x, f, rfl, z5, by omega, rfl⟩, rfl, hq5, d5⟩
                  · simp +contextual (maxSteps := 2000000) only [go_sem, Nat.reduceEqDiff, reduceCtorEq, Nat.reduceAdd, Nat.reduceLeDiff, ↓u86_14, t0, t3, l3, t4, l4, t5, l5, t6, t7, t8, l8, t9, decide_eq_false c1]
                    refine J12 _ _ _ ⟨rfl, ?_⟩
                    unfold CFm
                    simp +contextual (maxSteps := 2000000) only [go_sem, Nat.reduceEqDiff, reduceCtorEq, Nat.reduceAdd, Nat.reduceLeDiff, t0, t3, l3, t4, l4, t5, l5, t6, t7, t8, l8, t9]
                    exact ⟨_, rfl⟩
                · skip
                  rintro T L h3 ⟨rfl, t0, t3, l3, t4, l4, t5, l5, t6, t7, t8, l8, n, t9⟩
                  by_cases c1 : l[i].kind = 4
                  · obtain ⟨p', hq1, hq2, r'⟩ := d.ex
                    simp +contextual (maxSteps := 2000000) only [go_sem, Nat.reduceEqDiff, reduceCtorEq, Nat.reduceAdd, Nat.reduceLeDiff, ↓u86_12, t0, t3, l3, t4, l4, t5, l5, t6, t7, t8, l8, t9, decide_eq_true c1]
                    refine wp_call (c_pick b 2 p' h3 r' (by omega)) ?_
                    rintro q1 h5 ⟨⟨e, rfl, _, _⟩, d5⟩
                    have hq5 := hq'.of_stay d5.st sep
                    have z5 := z.drew d5 hbn
                    obtain ⟨p5, hs1, hs2, r5⟩ := d5.ex
                    have d5 := d5.then d.st (by omega) hq2
                    by_cases e0 : e = 0
                    · simp +contextual (maxSteps := 2000000) only [go_sem, Nat.reduceEqDiff, reduceCtorEq, Nat.reduceAdd, Nat.reduceLeDiff, t0, t3, l3, t4, l4, t5, l5, t6, t7, t8, l8, t9, decide_eq_true e0]
                      refine wp_lit (enc := encS) (k := 1) (l := [strOfNums [109], strOfNums [110], strOfNums [111]]) rfl rfl ?_
                      intro h6 w6 g6 n6 b6
                      simp +contextual (maxSteps := 2000000) only [go_sem, Nat.reduceEqDiff, reduceCtorEq, Nat.reduceAdd, Nat.reduceLeDiff, t0, t3, l3, t4, l4, t5, l5, t6, t7, t8, l8, t9]
                      refine wp_call (c_of b p5 _ w6 h6 (r5.grow g6) (by omega) (n6.sl lenS) (fun i hi => Nat.lt_of_lt_of_le r5.lt (b6 i hi)) (by decide) (by decide)) ?_
                      rintro q1 h7 ⟨⟨nm, hm, rfl⟩, d7⟩
                      have hm : nm.size ≤ 10 := by
                        simp only [List.mem_cons, List.not_mem_nil, or_false] at hm
                        rcases hm with rfl | rfl | rfl <;> exact Nat.le_of_ble_eq_true rfl
                      have hq7 := (hq5.grow g6).of_stay d7.st sep
                      have z7 := (z5.grow g6).drew d7 hbn
                      obtain ⟨p7, hu1, hu2, r7⟩ := d7.ex
                      have d7 := (d7.pre g6).then d5.st (by omega) (show p5 ≤ p + ((1 + 8 * i + 3 + 1 : Nat) : Int) by omega)
                      simp +contextual (maxSteps := 2000000) only [go_sem, Nat.reduceEqDiff, reduceCtorEq, Nat.reduceAdd, Nat.reduceLeDiff, t0, t3, l3, t4, l4, t5, l5, t6, t7, t8, l8, t9]
                      refine wp_call (c_aNumber b p7 h7 r7 (by omega)) ?_
                      rintro q1 h8 ⟨⟨v, rfl⟩, d8⟩
                      have hq8 := hq7.of_stay d8.st sep
                      have z8 := z7.drew d8 hbn
                      have d8 := d8.then d7.st (by omega) (show p7 ≤ p + ((1 + 8 * i + 3 + 1 + 1 : Nat) : Int) by omega)
                      simp +contextual (maxSteps := 2000000) only [go_sem, Nat.reduceEqDiff, reduceCtorEq, Nat.reduceAdd, Nat.reduceLeDiff, t0, t3, l3, t4, l4, t5, l5, t6, t7, t8, l8, t9]
                      refine wp_call (c_putPair f.nl (.one y) ⟨nm, v⟩ h8 z8.sl.nl ⟨by unfold big; omega, fun a ha => Nat.le_trans (z3 a ha) (by decide)⟩) ?_
                      rintro q1 h9 ⟨g9, n9⟩
                      obtain ⟨c9, rfl⟩ := n9.one
                      have z9 : NwF h h9 x c9 ⟨f.pl, putP f.nl ⟨nm, v⟩⟩ := ⟨z8.pl.grow g9, n9.from d8.st.n, z8.pl.apart n9⟩
                      simp +contextual (maxSteps := 2000000) only [go_sem, Nat.reduceEqDiff, reduceCtorEq, Nat.reduceAdd, Nat.reduceLeDiff, t0, t3, l3, t4, l4, t5, l5, t6, t7, t8, l8, t9]
                      refine J5 _ _ _ ?_
                      simp +contextual (maxSteps := 2000000) only [go_sem, Nat.reduceEqDiff, reduceCtorEq, Nat.reduceAdd, Nat.reduceLeDiff, t0, t3, l3, t4, l4, t5, l5, t6, t7, t8, l8, t9]
                      refine ⟨⟨x, c9, _, rfl, z9, Nat.le_trans z1 (by omega), Nat.le_trans putP_short (by omega), fun a ha => ?_⟩, hq8.grow g9, (d8.grow g9).more (by omega)⟩
                      rcases putP_in ha with e | e
                      · exact z3 a e
                      · rw [e]; exact hm
                    · simp +contextual (maxSteps := 2000000) only [go_sem, Nat.reduceEqDiff, reduceCtorEq, Nat.reduceAdd, Nat.reduceLeDiff, t0, t3, l3, t4, l4, t5, l5, t6, t7, t8, l8, t9, decide_eq_false e0]
                      refine J5 _ _ _ ?_
                      simp +contextual (maxSteps := 2000000) only [go_sem, Nat.reduceEqDiff, reduceCtorEq, Nat.reduceAdd, Nat.reduceLeDiff, t0, t3, l3, t4, l4, t5, l5, t6, t7, t8, l8, t9]
                      exact ⟨⟨x, y, f, rfl, z5, by omega, by omega, z3⟩, hq5, d5.more (by omega)⟩
                  · simp +contextual (maxSteps := 2000000) only [go_sem, Nat.reduceEqDiff, reduceCtorEq, Nat.reduceAdd, Nat.reduceLeDiff, ↓u86_12, t0, t3, l3, t4, l4, t5, l5, t6, t7, t8, l8, t9, decide_eq_false c1]
                    refine J5 _ _ _ ?_
                    simp +contextual (maxSteps := 2000000) only [go_sem, Nat.reduceEqDiff, reduceCtorEq, Nat.reduceAdd, Nat.reduceLeDiff, t0, t3, l3, t4, l4, t5, l5, t6, t7, t8, l8, t9]
                    exact ⟨⟨x, y, f, rfl, z, by omega, by omega, z3⟩, hq', d.more (by omega)⟩
            · skip
              rintro T L h2 ⟨⟨t0, t3, l3, t4, l4, t5, l5, t6, t7, t8, l8, n, t9⟩, z, hq', d⟩
              simp +contextual (maxSteps := 2000000) only [go_sem, Nat.reduceEqDiff, reduceCtorEq, Nat.reduceAdd, Nat.reduceLeDiff, ↓v86_58, t0, t3, l3, t4, l4, t5, l5, t6, t7, t8, l8, t9]
              refine wp_lit (enc := encP) (k := 2) (l := [⟨l[i].name, n⟩]) rfl rfl ?_
              intro h7 w7 g7 n7 b7
              have z7 := z.grow g7
              simp +contextual (maxSteps := 2000000) only [go_sem, Nat.reduceEqDiff, reduceCtorEq, Nat.reduceAdd, Nat.reduceLeDiff, t0, t3, l3, t4, l4, t5, l5, t6, t7, t8, l8, t9]
              refine wp_appendD lenP z7.nl (n7.sl lenP) (Nat.le_trans d.st.n g7.n) (by simp; omega) ?_
              intro h8 s8 n8 st8 hb8
              obtain ⟨c8, rfl⟩ := n8.one
              have z8 := z7.appNl n8 st8 hb8
              have d8 := (d.grow g7).stay st8 (fun i hi => (z7.nl.lt hi).2) hbn
              have hq8 := (hq'.grow g7).of_stay st8 (fun j hj e => by have := (z7.nl.lt e).2; have := hub8 j hj; omega)
              simp +contextual (maxSteps := 2000000) only [go_sem, Nat.reduceEqDiff, reduceCtorEq, Nat.reduceAdd, Nat.reduceLeDiff, t0, t3, l3, t4, l4, t5, l5, t6, t7, t8, l8, t9]
              refine J5 _ _ _ ?_
              simp +contextual (maxSteps := 2000000) only [go_sem, Nat.reduceEqDiff, reduceCtorEq, Nat.reduceAdd, Nat.reduceLeDiff, t0, t3, l3, t4, l4, t5, l5, t6, t7, t8, l8, t9]
              refine ⟨⟨x, c8, _, rfl, z8, Nat.le_trans z1 (by omega), by simp; omega, fun a ha => ?_⟩, hq8, d8.more (by omega)⟩
              rcases List.mem_append.1 ha with e | e
              · exact z3 a e
              · rw [List.mem_singleton.1 e]; exact hin
        · skip
          rintro T L h2 ⟨rfl, t0, t3, l3, t4, l4, t5, l5, t6, t7, t8, l8, n, t9⟩
          simp +contextual (maxSteps := 2000000) only [go_sem, Nat.reduceEqDiff, reduceCtorEq, Nat.reduceAdd, Nat.reduceLeDiff, ↓v86_42, t0, t3, l3, t4, l4, t5, l5, t6, t7, t8, l8, t9]
          refine wp_lit (enc := encI) (k := 1) (l := [n]) rfl rfl ?_
          intro h7 w7 g7 n7 b7
          have z7 := z.grow g7
          simp +contextual (maxSteps := 2000000) only [go_sem, Nat.reduceEqDiff, reduceCtorEq, Nat.reduceAdd, Nat.reduceLeDiff, t0, t3, l3, t4, l4, t5, l5, t6, t7, t8, l8, t9]
          refine wp_appendD lenI z7.pl (n7.sl lenI) (Nat.le_trans d.st.n g7.n) (by simp; omega) ?_
          intro h8 s8 n8 st8 hb8
          obtain ⟨c8, rfl⟩ := n8.one
          have z8 := z7.appPl n8 st8 hb8
          have d8 := (d.grow g7).stay st8 (fun i hi => (z7.pl.lt hi).2) hbn
          have hq8 := (hq'.grow g7).of_stay st8 (fun j hj e => by have := (z7.pl.lt e).2; have := hub8 j hj; omega)
          simp +contextual (maxSteps := 2000000) only [go_sem, Nat.reduceEqDiff, reduceCtorEq, Nat.reduceAdd, Nat.reduceLeDiff, t0, t3, l3, t4, l4, t5, l5, t6, t7, t8, l8, t9]
          refine J5 _ _ _ ?_
          simp +contextual (maxSteps := 2000000) only [go_sem, Nat.reduceEqDiff, reduceCtorEq, Nat.reduceAdd, Nat.reduceLeDiff, t0, t3, l3, t4, l4, t5, l5, t6, t7, t8, l8, t9]
          exact ⟨⟨c8, y, _, rfl, z8, by simp; omega, Nat.le_trans z2 (by omega), z3⟩, hq8, d8.more (by omega)⟩
    · skip
      rintro T L h' ⟨t0, t3, l3, t4, l4, t5, t6, t7, ⟨x, y, f, l5, z, z1, z2, z3⟩, hq', d⟩
      simp +contextual (maxSteps := 2000000) only [go_sem, Nat.reduceEqDiff, reduceCtorEq, Nat.reduceAdd, Nat.reduceLeDiff, ↓v86_92, t0, t3, l3, t4, l4, t5, l5, t6, t7]
      exact ⟨⟨x, y, f, rfl, z, z1, z2, z3⟩, by rw [wrap_next hi (by omega)], hq', d.more (by omega)⟩
  · rintro T L h' ⟨t0, t3, l3, t4, l4, t5, ⟨x, y, f, l5, z, z1, z2, z3⟩, t6, t7, hq', d⟩
    have d := d.more (show 1 + 8 * l.length ≤ 65 by omega)
    simp +contextual (maxSteps := 2000000) only [go_sem, Nat.reduceEqDiff, reduceCtorEq, Nat.reduceAdd, Nat.reduceLeDiff, t0, t3, l3, t4, l4, t5, l5, t6, t7, hq'.len, lt_false]
    exact gcK_drew r d ⟨⟨x, y, f, rfl, z, by omega, by omega, z3⟩, d⟩
  · simp +contextual (maxSteps := 2000000) only [go_sem, Nat.reduceEqDiff, reduceCtorEq, Nat.reduceAdd, Nat.reduceLeDiff]
    exact ⟨⟨c1, c2, ⟨[], []⟩, rfl, y3, Nat.le_refl 0, Nat.le_refl 0, fun a ha => by simp at ha⟩, rfl, hq3, d3.more (by omega)⟩
end Go.Proofs.Ytekkimfdcbgcoab.Am
