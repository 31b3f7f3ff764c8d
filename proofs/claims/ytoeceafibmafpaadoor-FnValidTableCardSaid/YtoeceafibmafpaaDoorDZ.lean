/- Contracts: signatures close to others that are drawn. -/
import Derived.Test.YtoeceafibmafpaaDoorDT
import Derived.Test.YtoeceafibmafpaaDoorSB
import Derived.Test.YtoeceafibmafpaaDoorCS
import Derived.Test.YtoeceafibmafpaaDoorBD
import Derived.Test.YtoeceafibmafpaaDoorDN
import Derived.Test.YtoeceafibmafpaaDoorA2
import Derived.Test.YtoeceafibmafpaaDoorA4
namespace Go.Proofs.YtoeceafibmafpaaDoor.Am
open Go
attribute [local go_sem] loadL_agg pureB_cut
set_option maxRecDepth 100000
set_option maxHeartbeats 4000000
set_option linter.unusedSimpArgs false
set_option linter.unusedVariables false
attribute [local go_sem ↓] bv_t bv_c ev_t ev_c put_same put_ne put_none kill_at pro_at lb_same lb_ne start_zero start_succ wpC_seq wpC_reg wpC_cond wpC_block wpC_skip wpC_exit wpC_ret thenQ_normal thenQ_exit thenQ_ret inBlk_normal inBlk_exit inBlk_ret wpS_nil wpS_step wpS_again wpS_guard wpO_mov wpO_load wpO_faddr wpO_nilCheck wpO_pick wpO_build wpO_bin wpO_eqb wpO_eqst wpO_eqnil wpO_not wpO_conv wpO_bytesStr wpO_iaddr wpO_idxStr wpO_field wpO_extract wpO_len wpO_lenStr wpO_cap wpO_min wpO_slice wpO_sliceStr wpO_alloc wpO_box wpO_store wpO_call wpO_callv wpO_mkfn wpO_buildSlice wpO_mkslice wpO_append wpO_appz proA_nil proA_cons tmpX_nil tmpX_tmp tmpX_cell doneB_normal doneB_ret agK_cons agK_nil agK_guard agG_tt agG_ff agG_tf agG_ft agG_undef pureB_load results_one results_two results_nil resBs_cons resBs_nil resB_tmp resB_cell
attribute [local go_sem] kill_v kill_lp_ne kill_lp_same pro_v pro_lp_same pro_lp_ne av_v av_lp optB_some optX_some valX_eq ldX_lp ldX_v faX_lp faX_v ncX_lp ncX_ptr ncX_fn boxK_one boxK_agg stL_some stK_lp_one stK_lp_agg stK_v_one stK_v_agg proM_v proM_lp callG_mk callVG_mk callvK_fn fnG_mk ptrsA_nil ptrsA_cons callH_some whenA_true whenA_false guardH_tt guardH_ff guardH_tf guardH_ft guardH_undef agV_one agV_agg lenO_sl lenStrO_str notO_bool pickO_bool convO_int eqbO_bool eqnilO_sl extractO_tup capO_sl minO_int loadL_one loadL_all storeL_eq fillA_nil fillA_one fillA_agg nat_ge neg_ge nat_lt neg_lt buildO bin_add bin_sub bin_mul bin_eql bin_neq bin_lss bin_leq bin_gtr bin_geq str_eql str_neq str_lss str_leq str_gtr str_geq retK_some endK_mk gcK_same gcK_int gcK_bool tupO_one tupO_agg rdy_self ib ii Option.map_none Option.map_some Option.some.injEq exists_eq_left' exists_eq_left ne_eq not_false_eq_true if_true if_false List.map_cons List.map_nil List.getElem?_cons_zero List.getElem?_cons_succ List.length_cons List.length_nil List.take_succ_cons List.take_zero List.take_nil List.drop_succ_cons List.drop_zero List.drop_nil List.cons_append List.nil_append List.append_nil List.set_cons_zero List.set_cons_succ Nat.zero_add forall_const true_and and_true and_self Bool.false_eq_true false_implies true_implies implies_true Bool.not_true Bool.not_false Bool.not_eq_true' Bool.not_eq_false' beq_self_eq_true Bool.bne_true Bool.bne_false
attribute [local go_sem] lenI lenS lenP lenQ lenB lenL lenT encI_0 encS_0 encP_0 encP_1 encQ_0 encQ_1 encQ_2 encQ_3 encB_0 encB_1 encL_0 encL_1 encT_0 encT_1
attribute [local go_sem low] whenA_bool guardH_bool
/-- Not much. -/
structure midQ (l : List Param) : Prop where
  len : l.length ≤ 100
  nm : ∀ x ∈ l, x.name.size ≤ 100
theorem midQ.sm {l : List Param} (t : midQ l) : smQ l := ⟨Nat.le_trans t.len (by decide), fun x hx => Nat.le_trans (t.nm x hx) (by decide)⟩
theorem tinyQ.mid {l : List Param} (t : tinyQ l) : midQ l := ⟨Nat.le_trans t.len (by decide), fun x hx => Nat.le_trans (t.nm x hx) (by decide)⟩
theorem tinyQ.okS {l : List Param} (h : okSig l = true) : tinyQ l := ⟨Nat.le_trans (okSig_len h) (by decide), fun x hx => Nat.le_trans (okSig_name h x hx) (by decide)⟩
theorem tinyQ.setM {l : List Param} (t : tinyQ l) {k : Nat} {a : Param} (ha : a.name.size ≤ 10) : tinyQ (l.set k a) := ⟨by simp; exact t.len, fun x hx => by
  rcases List.mem_or_eq_of_mem_set hx with e | e
  · exact t.nm x e
  · rw [e]; exact ha⟩
/-- Amid one turn. -/
def NearM (b : Nat) (p : Int) (h h0 : H) (x : CV) (l : List Param) (t : Int) (c : Nat) (T : Tb) (L : Lb) (h' : H) : Prop :=
  T 0 = .v (.one (.ptr (some (b, 0)))) ∧ T 4 = .lp 4 0 ∧ (L 4).2 = [.sl none 0 (some 0)] ∧ T 5 = .lp 5 0 ∧ (L 5).2 = [x] ∧ T 6 = .v (.one (.int .i64 t)) ∧ T 8 = .lp 8 0 ∧ (∃ y m, (L 8).2 = [y] ∧ NwQ h0 h' (.one y) m ∧ midQ m) ∧ NwQ h h' (.one x) l ∧ Drew b p c h h'
/-! spec.near -/
def L113_0 : List AStep := [⟨.box 38 (.t 1), (some 3), none, []⟩, ⟨.alloc 38 [(.sl none 0 (some 0))], (some 4), none, []⟩]
theorem v113_0 : VS L113_0.eq_1 := rfl
def L113_1 : List AStep := [⟨.alloc 38 [(.sl none 0 (some 0))], (some 5), none, []⟩, ⟨.store 1 (.t 5) (.t 12), none, none, []⟩]
theorem v113_1 : VS L113_1.eq_1 := rfl
def L113_2 : List AStep := ⟨.call 138 [(.t 10)], (some 11), none, []⟩ :: ⟨.build [(.sl none 0 (some 0))] [(0, 1, (.t 11))], (some 12), none, []⟩ :: L113_1
theorem v113_2 : VS L113_2.eq_1 := rfl
def L113_3 : List AStep := ⟨.faddr 0 (.t 3), (some 9), none, []⟩ :: ⟨.load 1 false (.t 9), (some 10), none, []⟩ :: L113_2
theorem v113_3 : VS L113_3.eq_1 := rfl
def L113_4 : List AStep := [⟨.bin .add (.c (.int .i64 1)) (.t 14), (some 15), none, []⟩, ⟨.mov (.t 15), (some 6), none, []⟩]
theorem v113_4 : VS L113_4.eq_1 := rfl
def L113_5 : List AStep := ⟨.mov (.t 0), (some 13), none, []⟩ :: ⟨.call 89 [(.t 13), (.c (.int .i64 2))], (some 14), none, []⟩ :: L113_4
theorem v113_5 : VS L113_5.eq_1 := rfl
def L113_6 : List AStep := [⟨.mov (.t 6), (some 16), none, []⟩, ⟨.bin .gtr (.t 16) (.c (.int .i64 0)), (some 17), none, []⟩]
theorem v113_6 : VS L113_6.eq_1 := rfl
def L113_7 : List AStep := [⟨.mov (.t 25), (some 7), none, []⟩]
theorem v113_7 : VS L113_7.eq_1 := rfl
def L113_8 : List AStep := ⟨.bin .add (.t 23) (.c (.int .i64 1)), (some 24), none, []⟩ :: ⟨.call 89 [(.t 20), (.t 24)], (some 25), none, []⟩ :: L113_7
theorem v113_8 : VS L113_8.eq_1 := rfl
def L113_9 : List AStep := ⟨.load 1 false (.t 21), (some 22), none, []⟩ :: ⟨.len (.t 22), (some 23), none, []⟩ :: L113_8
theorem v113_9 : VS L113_9.eq_1 := rfl
def L113_10 : List AStep := ⟨.mov (.t 0), (some 20), none, []⟩ :: ⟨.faddr 0 (.t 5), (some 21), none, []⟩ :: L113_9
theorem v113_10 : VS L113_10.eq_1 := rfl
def L113_11 : List AStep := [⟨.alloc 38 [(.sl none 0 (some 0))], (some 8), none, []⟩, ⟨.store 1 (.t 8) (.t 29), none, none, []⟩]
theorem v113_11 : VS L113_11.eq_1 := rfl
def L113_12 : List AStep := ⟨.call 138 [(.t 27)], (some 28), none, []⟩ :: ⟨.build [(.sl none 0 (some 0))] [(0, 1, (.t 28))], (some 29), none, []⟩ :: L113_11
theorem v113_12 : VS L113_12.eq_1 := rfl
def L113_13 : List AStep := ⟨.faddr 0 (.t 5), (some 26), none, []⟩ :: ⟨.load 1 false (.t 26), (some 27), none, []⟩ :: L113_12
theorem v113_13 : VS L113_13.eq_1 := rfl
def L113_14 : List AStep := [⟨.mov (.t 59), (some 49), none, []⟩]
theorem v113_14 : VS L113_14.eq_1 := rfl
def L113_15 : List AStep := ⟨.bin .eql (.t 57) (.c (.int .i64 0)), (some 58), (some (55, true)), []⟩ :: ⟨.pick (.t 55) (.t 58) (.c (.bool false)), (some 59), none, []⟩ :: L113_14
theorem v113_15 : VS L113_15.eq_1 := rfl
def L113_16 : List AStep := ⟨.mov (.t 0), (some 56), (some (55, true)), []⟩ :: ⟨.call 89 [(.t 56), (.c (.int .i64 3))], (some 57), (some (55, true)), []⟩ :: L113_15
theorem v113_16 : VS L113_16.eq_1 := rfl
def L113_17 : List AStep := ⟨.bin .lss (.t 50) (.t 53), (some 54), none, []⟩ :: ⟨.mov (.t 54), (some 55), none, []⟩ :: L113_16
theorem v113_17 : VS L113_17.eq_1 := rfl
def L113_18 : List AStep := ⟨.load 1 false (.t 51), (some 52), none, []⟩ :: ⟨.len (.t 52), (some 53), none, []⟩ :: L113_17
theorem v113_18 : VS L113_18.eq_1 := rfl
def L113_19 : List AStep := ⟨.mov (.t 7), (some 50), none, []⟩ :: ⟨.faddr 0 (.t 8), (some 51), none, []⟩ :: L113_18
theorem v113_19 : VS L113_19.eq_1 := rfl
def L113_20 : List AStep := [⟨.store 1 (.t 71) (.t 69), none, none, []⟩]
theorem v113_20 : VS L113_20.eq_1 := rfl
def L113_21 : List AStep := ⟨.iaddr 4 (.t 61) (.t 62), (some 70), none, []⟩ :: ⟨.faddr 2 (.t 70), (some 71), none, []⟩ :: L113_20
theorem v113_21 : VS L113_21.eq_1 := rfl
def L113_22 : List AStep := ⟨.load 1 false (.t 67), (some 68), none, []⟩ :: ⟨.not (.t 68), (some 69), none, []⟩ :: L113_21
theorem v113_22 : VS L113_22.eq_1 := rfl
def L113_23 : List AStep := ⟨.iaddr 4 (.t 64) (.t 65), (some 66), none, []⟩ :: ⟨.faddr 2 (.t 66), (some 67), none, []⟩ :: L113_22
theorem v113_23 : VS L113_23.eq_1 := rfl
def L113_24 : List AStep := ⟨.load 1 false (.t 63), (some 64), none, []⟩ :: ⟨.mov (.t 7), (some 65), none, []⟩ :: L113_23
theorem v113_24 : VS L113_24.eq_1 := rfl
def L113_25 : List AStep := ⟨.mov (.t 7), (some 62), none, []⟩ :: ⟨.faddr 0 (.t 8), (some 63), none, []⟩ :: L113_24
theorem v113_25 : VS L113_25.eq_1 := rfl
def L113_26 : List AStep := ⟨.faddr 0 (.t 8), (some 60), none, []⟩ :: ⟨.load 1 false (.t 60), (some 61), none, []⟩ :: L113_25
theorem v113_26 : VS L113_26.eq_1 := rfl
def L113_27 : List AStep := [⟨.faddr 3 (.t 75), (some 76), none, []⟩, ⟨.store 1 (.t 76) (.c (.int .i64 0)), none, none, []⟩]
theorem v113_27 : VS L113_27.eq_1 := rfl
def L113_28 : List AStep := ⟨.mov (.t 7), (some 74), none, []⟩ :: ⟨.iaddr 4 (.t 73) (.t 74), (some 75), none, []⟩ :: L113_27
theorem v113_28 : VS L113_28.eq_1 := rfl
def L113_29 : List AStep := ⟨.faddr 0 (.t 8), (some 72), none, []⟩ :: ⟨.load 1 false (.t 72), (some 73), none, []⟩ :: L113_28
theorem v113_29 : VS L113_29.eq_1 := rfl
def L113_30 : List AStep := [⟨.mov (.t 87), (some 77), none, []⟩]
theorem v113_30 : VS L113_30.eq_1 := rfl
def L113_31 : List AStep := ⟨.bin .eql (.t 85) (.c (.int .i64 0)), (some 86), (some (83, true)), []⟩ :: ⟨.pick (.t 83) (.t 86) (.c (.bool false)), (some 87), none, []⟩ :: L113_30
theorem v113_31 : VS L113_31.eq_1 := rfl
def L113_32 : List AStep := ⟨.mov (.t 0), (some 84), (some (83, true)), []⟩ :: ⟨.call 89 [(.t 84), (.c (.int .i64 3))], (some 85), (some (83, true)), []⟩ :: L113_31
theorem v113_32 : VS L113_32.eq_1 := rfl
def L113_33 : List AStep := ⟨.bin .lss (.t 78) (.t 81), (some 82), none, []⟩ :: ⟨.mov (.t 82), (some 83), none, []⟩ :: L113_32
theorem v113_33 : VS L113_33.eq_1 := rfl
def L113_34 : List AStep := ⟨.load 1 false (.t 79), (some 80), none, []⟩ :: ⟨.len (.t 80), (some 81), none, []⟩ :: L113_33
theorem v113_34 : VS L113_34.eq_1 := rfl
def L113_35 : List AStep := ⟨.mov (.t 7), (some 78), none, []⟩ :: ⟨.faddr 0 (.t 8), (some 79), none, []⟩ :: L113_34
theorem v113_35 : VS L113_35.eq_1 := rfl
def L113_36 : List AStep := [⟨.faddr 1 (.t 93), (some 94), none, []⟩, ⟨.store 1 (.t 94) (.t 92), none, none, []⟩]
theorem v113_36 : VS L113_36.eq_1 := rfl
def L113_37 : List AStep := ⟨.call 89 [(.t 91), (.c (.int .i64 5))], (some 92), none, [(.load 1 false (.t 88), (some 89), none)]⟩ :: ⟨.iaddr 4 (.t 89) (.t 90), (some 93), none, []⟩ :: L113_36
theorem v113_37 : VS L113_37.eq_1 := rfl
def L113_38 : List AStep := ⟨.mov (.t 7), (some 90), none, []⟩ :: ⟨.mov (.t 0), (some 91), none, []⟩ :: L113_37
theorem v113_38 : VS L113_38.eq_1 := rfl
def L113_39 : List AStep := ⟨.faddr 0 (.t 8), (some 88), none, []⟩ :: ⟨.load 1 false (.t 88), (some 89), none, []⟩ :: L113_38
theorem v113_39 : VS L113_39.eq_1 := rfl
def L113_40 : List AStep := [⟨.mov (.t 105), (some 95), none, []⟩]
theorem v113_40 : VS L113_40.eq_1 := rfl
def L113_41 : List AStep := ⟨.bin .eql (.t 103) (.c (.int .i64 0)), (some 104), (some (101, true)), []⟩ :: ⟨.pick (.t 101) (.t 104) (.c (.bool false)), (some 105), none, []⟩ :: L113_40
theorem v113_41 : VS L113_41.eq_1 := rfl
def L113_42 : List AStep := ⟨.mov (.t 0), (some 102), (some (101, true)), []⟩ :: ⟨.call 89 [(.t 102), (.c (.int .i64 2))], (some 103), (some (101, true)), []⟩ :: L113_41
theorem v113_42 : VS L113_42.eq_1 := rfl
def L113_43 : List AStep := ⟨.bin .lss (.t 96) (.t 99), (some 100), none, []⟩ :: ⟨.mov (.t 100), (some 101), none, []⟩ :: L113_42
theorem v113_43 : VS L113_43.eq_1 := rfl
def L113_44 : List AStep := ⟨.load 1 false (.t 97), (some 98), none, []⟩ :: ⟨.len (.t 98), (some 99), none, []⟩ :: L113_43
theorem v113_44 : VS L113_44.eq_1 := rfl
def L113_45 : List AStep := ⟨.mov (.t 7), (some 96), none, []⟩ :: ⟨.faddr 0 (.t 8), (some 97), none, []⟩ :: L113_44
theorem v113_45 : VS L113_45.eq_1 := rfl
def L113_46 : List AStep := [⟨.store 1 (.t 117) (.t 116), none, none, []⟩]
theorem v113_46 : VS L113_46.eq_1 := rfl
def L113_47 : List AStep := ⟨.append 83 4 40 (.t 110) (.t 115), (some 116), none, []⟩ :: ⟨.faddr 0 (.t 8), (some 117), none, []⟩ :: L113_46
theorem v113_47 : VS L113_47.eq_1 := rfl
def L113_48 : List AStep := ⟨.slice 83 4 (.t 112) (some (.t 114)) none none, (some 115), none, []⟩ :: ⟨.call 138 [(.t 109)], (some 110), none, [(.load 1 false (.t 111), (some 112), none), (.slice 83 4 (.t 112) (some (.t 114)) none none, (some 115), none)]⟩ :: L113_47
theorem v113_48 : VS L113_48.eq_1 := rfl
def L113_49 : List AStep := ⟨.mov (.t 7), (some 113), none, []⟩ :: ⟨.bin .add (.t 113) (.c (.int .i64 1)), (some 114), none, []⟩ :: L113_48
theorem v113_49 : VS L113_49.eq_1 := rfl
def L113_50 : List AStep := ⟨.faddr 0 (.t 8), (some 111), none, []⟩ :: ⟨.load 1 false (.t 111), (some 112), none, []⟩ :: L113_49
theorem v113_50 : VS L113_50.eq_1 := rfl
def L113_51 : List AStep := ⟨.mov (.t 7), (some 108), none, []⟩ :: ⟨.slice 83 4 (.t 107) none (some (.t 108)) none, (some 109), none, []⟩ :: L113_50
theorem v113_51 : VS L113_51.eq_1 := rfl
def L113_52 : List AStep := ⟨.faddr 0 (.t 8), (some 106), none, []⟩ :: ⟨.load 1 false (.t 106), (some 107), none, []⟩ :: L113_51
theorem v113_52 : VS L113_52.eq_1 := rfl
def L113_53 : List AStep := [⟨.faddr 0 (.t 8), (some 48), none, []⟩, ⟨.store 1 (.t 48) (.t 47), none, none, []⟩]
theorem v113_53 : VS L113_53.eq_1 := rfl
def L113_54 : List AStep := ⟨.append 83 4 40 (.t 34) (.t 41), (some 42), none, [(.load 1 false (.t 43), (some 44), none), (.slice 83 4 (.t 44) (some (.t 45)) none none, (some 46), none)]⟩ :: ⟨.append 83 4 40 (.t 42) (.t 46), (some 47), none, []⟩ :: L113_53
theorem v113_54 : VS L113_54.eq_1 := rfl
def L113_55 : List AStep := ⟨.build [(.str (strOfNums [])), (.int .i64 0), (.bool false), (.int .i64 0)] [(0, 1, (.t 37)), (1, 1, (.t 39))], (some 40), none, []⟩ :: ⟨.buildSlice 83 1 [(.str (strOfNums [])), (.int .i64 0), (.bool false), (.int .i64 0)] [(0, 4, (.t 40))], (some 41), none, []⟩ :: L113_54
theorem v113_55 : VS L113_55.eq_1 := rfl
def L113_56 : List AStep := ⟨.call 114 [(.t 35), (.t 36)], (some 37), none, [(.load 1 false (.t 43), (some 44), none), (.slice 83 4 (.t 44) (some (.t 45)) none none, (some 46), none)]⟩ :: ⟨.call 89 [(.t 38), (.c (.int .i64 5))], (some 39), none, [(.load 1 false (.t 43), (some 44), none), (.slice 83 4 (.t 44) (some (.t 45)) none none, (some 46), none)]⟩ :: L113_55
theorem v113_56 : VS L113_56.eq_1 := rfl
def L113_57 : List AStep := ⟨.slice 83 4 (.t 44) (some (.t 45)) none none, (some 46), none, []⟩ :: ⟨.call 138 [(.t 33)], (some 34), none, [(.load 1 false (.t 43), (some 44), none), (.slice 83 4 (.t 44) (some (.t 45)) none none, (some 46), none)]⟩ :: L113_56
theorem v113_57 : VS L113_57.eq_1 := rfl
def L113_58 : List AStep := ⟨.load 1 false (.t 43), (some 44), none, []⟩ :: ⟨.mov (.t 7), (some 45), none, []⟩ :: L113_57
theorem v113_58 : VS L113_58.eq_1 := rfl
def L113_59 : List AStep := ⟨.mov (.t 0), (some 38), none, []⟩ :: ⟨.faddr 0 (.t 8), (some 43), none, []⟩ :: L113_58
theorem v113_59 : VS L113_59.eq_1 := rfl
def L113_60 : List AStep := ⟨.mov (.t 0), (some 35), none, []⟩ :: ⟨.buildSlice 9 3 [(.str (strOfNums []))] [(0, 1, (.c (.str (strOfNums [122])))), (1, 1, (.c (.str (strOfNums [119])))), (2, 1, (.c (.str (strOfNums [109]))))], (some 36), none, []⟩ :: L113_59
theorem v113_60 : VS L113_60.eq_1 := rfl
def L113_61 : List AStep := ⟨.mov (.t 7), (some 32), none, []⟩ :: ⟨.slice 83 4 (.t 31) none (some (.t 32)) none, (some 33), none, []⟩ :: L113_60
theorem v113_61 : VS L113_61.eq_1 := rfl
def L113_62 : List AStep := ⟨.faddr 0 (.t 8), (some 30), none, []⟩ :: ⟨.load 1 false (.t 30), (some 31), none, []⟩ :: L113_61
theorem v113_62 : VS L113_62.eq_1 := rfl
def L113_63 : List AStep := [⟨.load 1 true (.t 8), (some 118), none, []⟩, ⟨.call 45 [(.t 118)], (some 119), none, []⟩]
theorem v113_63 : VS L113_63.eq_1 := rfl
def L113_64 : List AStep := [⟨.load 1 true (.t 8), (some 120), none, []⟩, ⟨.store 1 (.t 5) (.t 120), none, none, []⟩]
theorem v113_64 : VS L113_64.eq_1 := rfl
def L113_65 : List AStep := [⟨.mov (.t 19), (some 6), none, []⟩]
theorem v113_65 : VS L113_65.eq_1 := rfl
def L113_66 : List AStep := ⟨.mov (.t 6), (some 18), none, []⟩ :: ⟨.bin .sub (.t 18) (.c (.int .i64 1)), (some 19), none, []⟩ :: L113_65
theorem v113_66 : VS L113_66.eq_1 := rfl
def L113_67 : List AStep := [⟨.load 1 true (.t 5), (some 121), none, []⟩, ⟨.store 1 (.t 4) (.t 121), none, none, []⟩]
theorem v113_67 : VS L113_67.eq_1 := rfl
def C113_0 : ACode := .cond (.t 17) .skip (.exit 0)
theorem u113_0 : VC C113_0.eq_1 := rfl
def C113_1 : ACode := .seq (.reg L113_6) C113_0
theorem u113_1 : VC C113_1.eq_1 := rfl
def C113_2 : ACode := .seq (.reg L113_26) (.reg L113_29)
theorem u113_2 : VC C113_2.eq_1 := rfl
def C113_3 : ACode := .cond (.t 95) (.reg L113_52) (.reg L113_62)
theorem u113_3 : VC C113_3.eq_1 := rfl
def C113_4 : ACode := .seq (.reg L113_45) C113_3
theorem u113_4 : VC C113_4.eq_1 := rfl
def C113_5 : ACode := .cond (.t 77) (.reg L113_39) C113_4
theorem u113_5 : VC C113_5.eq_1 := rfl
def C113_6 : ACode := .seq (.reg L113_35) C113_5
theorem u113_6 : VC C113_6.eq_1 := rfl
def C113_7 : ACode := .cond (.t 49) C113_2 C113_6
theorem u113_7 : VC C113_7.eq_1 := rfl
def C113_8 : ACode := .seq (.reg L113_19) C113_7
theorem u113_8 : VC C113_8.eq_1 := rfl
def C113_9 : ACode := .block 2 C113_8
theorem u113_9 : VC C113_9.eq_1 := rfl
def C113_10 : ACode := .cond (.t 119) (.reg L113_64) .skip
theorem u113_10 : VC C113_10.eq_1 := rfl
def C113_11 : ACode := .seq (.reg L113_63) C113_10
theorem u113_11 : VC C113_11.eq_1 := rfl
def C113_12 : ACode := .seq C113_9 C113_11
theorem u113_12 : VC C113_12.eq_1 := rfl
def C113_13 : ACode := .seq (.reg L113_13) C113_12
theorem u113_13 : VC C113_13.eq_1 := rfl
def C113_14 : ACode := .seq (.reg L113_10) C113_13
theorem u113_14 : VC C113_14.eq_1 := rfl
def C113_15 : ACode := .block 1 C113_14
theorem u113_15 : VC C113_15.eq_1 := rfl
def C113_16 : ACode := .seq C113_15 (.reg L113_66)
theorem u113_16 : VC C113_16.eq_1 := rfl
def C113_17 : ACode := .seq C113_1 C113_16
theorem u113_17 : VC C113_17.eq_1 := rfl
def C113_18 : ACode := .block 0 (.loop C113_17)
theorem u113_18 : VC C113_18.eq_1 := rfl
def C113_19 : ACode := .seq (.reg L113_5) C113_18
theorem u113_19 : VC C113_19.eq_1 := rfl
def C113_20 : ACode := .seq (.reg L113_67) .ret
theorem u113_20 : VC C113_20.eq_1 := rfl
def C113_21 : ACode := .seq C113_19 C113_20
theorem u113_21 : VC C113_21.eq_1 := rfl
def C113_22 : ACode := .seq (.reg L113_3) C113_21
theorem u113_22 : VC C113_22.eq_1 := rfl
def C113_23 : ACode := .seq (.reg L113_0) C113_22
theorem u113_23 : VC C113_23.eq_1 := rfl
def F113 : AFunc := ⟨122, [.cell 4 1 true], C113_23⟩
theorem cF113 : compB Tryd.prog 113 = some F113 := by kernel_rfl
attribute [local go_sem ↓] u113_0 u113_1 u113_2 u113_3 u113_4 u113_5 u113_6 u113_7 u113_8 u113_9 u113_10 u113_12 u113_13 u113_14 u113_15 u113_16 u113_17 u113_18 u113_19 u113_20 u113_21 u113_22 u113_23 v113_0 v113_1 v113_2 v113_3 v113_4 v113_5 v113_6 v113_7 v113_8 v113_9 v113_10 v113_11 v113_12 v113_13 v113_14 v113_15 v113_16 v113_17 v113_18 v113_19 v113_20 v113_21 v113_22 v113_23 v113_24 v113_25 v113_26 v113_27 v113_28 v113_29 v113_30 v113_31 v113_32 v113_33 v113_34 v113_35 v113_36 v113_37 v113_38 v113_39 v113_40 v113_41 v113_42 v113_43 v113_44 v113_45 v113_46 v113_47 v113_48 v113_49 v113_50 v113_51 v113_52 v113_53 v113_54 v113_55 v113_56 v113_57 v113_58 v113_59 v113_60 v113_61 v113_63 v113_64 v113_65 v113_66 v113_67
theorem c_near (b : Nat) (p : Int) (s : List Param) (u : CV) (h : H) (r : Rd h b p) (hp : p ≤ 2 ^ 37) (hq : SlQ h (.one u) s) (ts : tinyQ s) : callK (bm Tryd.prog 113 [.one (.ptr (some (b, 0))), .agg [u]] h) fun q h' => (∃ x l, q = .agg [x] ∧ NwQ h h' (.one x) l ∧ tinyQ l) ∧ Drew b p 13 h h' := by
  refine bm_of cF113 ?_
  have hbn := r.lt
  simp +contextual (maxSteps := 2000000) only [go_sem, Nat.reduceEqDiff, reduceCtorEq, Nat.reduceAdd, Nat.reduceLeDiff, F113]
  refine wp_call (c_copyParams s (.one u) h hq (Nat.le_trans ts.len (by decide))) ?_
  rintro q h1 ⟨g1, x1⟩
  obtain ⟨c1, rfl⟩ := x1.one
  simp +contextual (maxSteps := 2000000) only [go_sem, Nat.reduceEqDiff, reduceCtorEq, Nat.reduceAdd, Nat.reduceLeDiff]
  refine wp_call (c_pick b 2 p h1 (r.grow g1) (by omega)) ?_
  rintro q h2 ⟨⟨k, rfl, k0, k1⟩, d2⟩
  have x2 := x1.drew d2 hbn
  have d2 := d2.pre g1
  obtain ⟨n, hn⟩ : ∃ n : Nat, 1 + k = (n : Int) := ⟨(1 + k).toNat, by omega⟩
  have ew : IntKind.i64.wrap (1 + k) = (n : Int) := by rw [i64_wrap (by omega) (by omega)]; exact hn
  have hz : decide (((0 : Nat) : Int) > 0) = false := rfl
  simp +contextual (maxSteps := 2000000) only [go_sem, Nat.reduceEqDiff, reduceCtorEq, Nat.reduceAdd, Nat.reduceLeDiff, ew]
  refine wpC_loop (fun i T L h' => T 0 = .v (.one (.ptr (some (b, 0)))) ∧ T 4 = .lp 4 0 ∧ (L 4).2 = [.sl none 0 (some 0)] ∧ T 5 = .lp 5 0 ∧ (∃ x l, (L 5).2 = [x] ∧ NwQ h h' (.one x) l ∧ tinyQ l) ∧ T 6 = .v (.one (.int .i64 ((n - i : Nat) : Int))) ∧ Drew b p (1 + 6 * i) h h') n ?_ ?_ (Nat.zero_le _) ?_
  · rintro i T L h' hi ⟨t0, t4, l4, t5, ⟨x, l, l5, xn, tl⟩, t6, d⟩
    obtain ⟨j, hj⟩ : ∃ j, n - i = j + 1 := ⟨n - i - 1, by omega⟩
    rw [hj] at t6
    have ej : n - (i + 1) = j := by omega
    have a3 : decide (((j + 1 : Nat) : Int) > 0) = true := decide_eq_true (by omega)
    obtain ⟨p', hp1, hp2, r'⟩ := d.ex
    have hl10 := tl.len
    have hN : h.n ≤ h'.n := d.st.n
    have ea : IntKind.i64.wrap ((l.length : Int) + 1) = ((l.length + 1 : Nat) : Int) := by rw [i64_wrap (by omega) (by omega)]; rfl
    simp +contextual (maxSteps := 2000000) only [go_sem, Nat.reduceEqDiff, reduceCtorEq, Nat.reduceAdd, Nat.reduceLeDiff, t0, t4, l4, t5, l5, t6, a3, xn.length, ea]
    refine wp_call (c_pick b ((l.length + 1 : Nat) : Int) p' h' r' (by omega)) ?_
    rintro q h3 ⟨⟨kk, rfl, kk0, kk1⟩, d3⟩
    obtain ⟨kk, rfl⟩ := Int.eq_ofNat_of_zero_le kk0
    have hbn' : b < h'.n := by omega
    have xn3 := xn.drew d3 hbn
    have d3 := d3.then d.st (by omega) hp2
    simp +contextual (maxSteps := 2000000) only [go_sem, Nat.reduceEqDiff, reduceCtorEq, Nat.reduceAdd, Nat.reduceLeDiff, t0, t4, l4, t5, l5, t6]
    refine wp_call (c_copyParams l (.one x) h3 (xn3.sl lenQ) (Nat.le_trans tl.len (by decide))) ?_
    rintro q h4 ⟨g4, y4⟩
    obtain ⟨y, rfl⟩ := y4.one
    have sep : Sep (.one x) (.one y) := xn3.apart y4
    have xn4 := xn3.grow g4
    have d4 := d3.grow g4
    have hN4 : h.n ≤ h3.n := d3.st.n
    have hbn3 : b < h3.n := by omega
    obtain ⟨p4, hq1, hq2, r4⟩ := d4.ex
    have ylen : lenO (.one y) = some (ii l.length) := y4.length
    apply joinC (P := Tryd.prog) (c := C113_11) (M := NearM b p h h3 x l ((j + 1 : Nat) : Int) (1 + 6 * i + 6))
    · intro J
      have put : ∀ {h5 h6 : H} {m : List Param} {c : Nat}, NwQ h3 h5 (.one y) l → NwQ h h5 (.one x) l → Drew b p c h h5 → c ≤ 1 + 6 * i + 6 → Stay (.one y) h5 h6 → NwQ h3 h6 (.one y) m → NwQ h h6 (.one x) l ∧ Drew b p (1 + 6 * i + 6) h h6 := fun zy zx d hc st _ => ⟨zx.stay st sep, (d.stay st (fun i hi => by have := (zy.lt hi).2; omega) hbn).more hc⟩
      apply joinS (P := Tryd.prog) (l := L113_62) (M := fun T L h' => T 0 = .v (.one (.ptr (some (b, 0)))) ∧ T 4 = .lp 4 0 ∧ (L 4).2 = [.sl none 0 (some 0)] ∧ T 5 = .lp 5 0 ∧ (L 5).2 = [x] ∧ T 6 = .v (.one (.int .i64 ((j + 1 : Nat) : Int))) ∧ T 7 = .v (.one (.int .i64 kk)) ∧ T 8 = .lp 8 0 ∧ (L 8).2 = [y] ∧ kk ≤ l.length ∧ h3.n ≤ h'.n ∧ NwQ h3 h' (.one y) l ∧ NwQ h h' (.one x) l ∧ Drew b p (1 + 6 * i + 4) h h')
      · intro D
        by_cases c1 : kk < l.length
        · simp +contextual (maxSteps := 2000000) only [go_sem, Nat.reduceEqDiff, reduceCtorEq, Nat.reduceAdd, Nat.reduceLeDiff, t0, t4, l4, t5, l5, t6, ylen, lt_true c1]
          refine wp_call (c_pick b 3 p4 h4 r4 (by omega)) ?_
          rintro q h5 ⟨⟨e1, rfl, _, _⟩, d5⟩
          have y5 := y4.drew d5 hbn3
          have x5 := xn4.drew d5 hbn
          have hnk : l[kk].name.size ≤ 10 := tl.nm _ (List.getElem_mem c1)
          have d5r := (g4.stay (bR b)).trans d5.st
          obtain ⟨p5, hs1, hs2, r5⟩ := d5.ex
          have d5 := d5.then d4.st (by omega) hq2
          by_cases e10 : e1 = 0
          · have sl := y5.sl lenQ
            simp +contextual (maxSteps := 2000000) only [go_sem, Nat.reduceEqDiff, reduceCtorEq, Nat.reduceAdd, Nat.reduceLeDiff, t0, t4, l4, t5, l5, t6, decide_eq_true e10, y5.iaddr c1, sl.fieldO c1]
            refine wp_setD (x := (⟨l[kk].name, l[kk].kind, !l[kk].has, l[kk].dflt⟩ : Param)) (off := 2) (vs := [.bool (!l[kk].has)]) lenQ y5 c1 rfl rfl (Nat.le_of_ble_eq_true rfl) d5r.n ?_
            intro h6 n6 st6
            have c6 : kk < (l.set kk (⟨l[kk].name, l[kk].kind, !l[kk].has, l[kk].dflt⟩ : Param)).length := by simpa using c1
            have g6 : (l.set kk (⟨l[kk].name, l[kk].kind, !l[kk].has, l[kk].dflt⟩ : Param))[kk] = ⟨l[kk].name, l[kk].kind, !l[kk].has, l[kk].dflt⟩ := List.getElem_set_self ..
            simp +contextual (maxSteps := 2000000) only [go_sem, Nat.reduceEqDiff, reduceCtorEq, Nat.reduceAdd, Nat.reduceLeDiff, t0, t4, l4, t5, l5, t6, n6.iaddr c6]
            refine wp_setD (x := (⟨l[kk].name, l[kk].kind, !l[kk].has, 0⟩ : Param)) (off := 3) (vs := [.int .i64 0]) lenQ n6 c6 rfl (by rw [g6]; rfl) (Nat.le_of_ble_eq_true rfl) (Nat.le_trans d5r.n st6.n) ?_
            intro h7 n7 st7
            have st := st6.trans st7
            obtain ⟨z1, z2⟩ := put y5 x5 d5 (by omega) st n7
            simp +contextual (maxSteps := 2000000) only [go_sem, Nat.reduceEqDiff, reduceCtorEq, Nat.reduceAdd, Nat.reduceLeDiff, t0, t4, l4, t5, l5, t6]
            refine J _ _ _ ?_
            unfold NearM
            simp +contextual (maxSteps := 2000000) only [go_sem, Nat.reduceEqDiff, reduceCtorEq, Nat.reduceAdd, Nat.reduceLeDiff, t0, t4, l4, t5, l5, t6]
            exact ⟨⟨y, _, rfl, n7, ((tl.setM (k := kk) (a := ⟨l[kk].name, l[kk].kind, !l[kk].has, l[kk].dflt⟩) hnk).setM (k := kk) (a := ⟨l[kk].name, l[kk].kind, !l[kk].has, 0⟩) hnk).mid⟩, z1, z2⟩
          · simp +contextual (maxSteps := 2000000) only [go_sem, Nat.reduceEqDiff, reduceCtorEq, Nat.reduceAdd, Nat.reduceLeDiff, t0, t4, l4, t5, l5, t6, decide_eq_false e10, y5.length, lt_true c1]
            refine wp_call (c_pick b 3 p5 h5 r5 (by omega)) ?_
            rintro q h6 ⟨⟨e2, rfl, _, _⟩, d6⟩
            have y6 := y5.drew d6 hbn3
            have x6 := x5.drew d6 hbn
            have d6r := d5r.trans d6.st
            obtain ⟨p6, hu1, hu2, r6⟩ := d6.ex
            have d6 := d6.then d5.st (by omega) (show p5 ≤ p + ((1 + 6 * i + 1 + 1 : Nat) : Int) by omega)
            by_cases e20 : e2 = 0
            · simp +contextual (maxSteps := 2000000) only [go_sem, Nat.reduceEqDiff, reduceCtorEq, Nat.reduceAdd, Nat.reduceLeDiff, t0, t4, l4, t5, l5, t6, decide_eq_true e20]
              refine wp_call (c_pick b 5 p6 h6 r6 (by omega)) ?_
              rintro q h7 ⟨⟨e3, rfl, _, _⟩, d7⟩
              have y7 := y6.drew d7 hbn3
              have x7 := x6.drew d7 hbn
              have d7r := d6r.trans d7.st
              have d7 := d7.then d6.st (by omega) (show p6 ≤ p + ((1 + 6 * i + 1 + 1 + 1 : Nat) : Int) by omega)
              simp +contextual (maxSteps := 2000000) only [go_sem, Nat.reduceEqDiff, reduceCtorEq, Nat.reduceAdd, Nat.reduceLeDiff, t0, t4, l4, t5, l5, t6, y7.iaddr c1]
              refine wp_setD (x := (⟨l[kk].name, e3, l[kk].has, l[kk].dflt⟩ : Param)) (off := 1) (vs := [.int .i64 e3]) lenQ y7 c1 rfl rfl (Nat.le_of_ble_eq_true rfl) d7r.n ?_
              intro h8 n8 st8
              obtain ⟨z1, z2⟩ := put y7 x7 d7 (by omega) st8 n8
              simp +contextual (maxSteps := 2000000) only [go_sem, Nat.reduceEqDiff, reduceCtorEq, Nat.reduceAdd, Nat.reduceLeDiff, t0, t4, l4, t5, l5, t6]
              refine J _ _ _ ?_
              unfold NearM
              simp +contextual (maxSteps := 2000000) only [go_sem, Nat.reduceEqDiff, reduceCtorEq, Nat.reduceAdd, Nat.reduceLeDiff, t0, t4, l4, t5, l5, t6]
              exact ⟨⟨y, _, rfl, n8, (tl.setM (k := kk) (a := ⟨l[kk].name, e3, l[kk].has, l[kk].dflt⟩) hnk).mid⟩, z1, z2⟩
            · simp +contextual (maxSteps := 2000000) only [go_sem, Nat.reduceEqDiff, reduceCtorEq, Nat.reduceAdd, Nat.reduceLeDiff, t0, t4, l4, t5, l5, t6, decide_eq_false e20, y6.length, lt_true c1]
              refine wp_call (c_pick b 2 p6 h6 r6 (by omega)) ?_
              rintro q h7 ⟨⟨e3, rfl, _, _⟩, d7⟩
              have y7 := y6.drew d7 hbn3
              have x7 := x6.drew d7 hbn
              have d7r := d6r.trans d7.st
              have d7 := d7.then d6.st (by omega) (show p6 ≤ p + ((1 + 6 * i + 1 + 1 + 1 : Nat) : Int) by omega)
              by_cases e30 : e3 = 0
              · obtain ⟨wt, et, stt, _⟩ := (y7.sl lenQ).takeB (i := kk) (by omega) (kd := .i64)
                obtain ⟨wd, ed, sdd, _⟩ := (y7.sl lenQ).dropB (i := kk + 1) (by omega) (kd := .i64)
                obtain ⟨wd, rfl⟩ := sdd.isOne
                have eo : IntKind.i64.wrap ((kk : Int) + 1) = ((kk + 1 : Nat) : Int) := wrap_next c1 (by omega)
                simp +contextual (maxSteps := 2000000) only [go_sem, Nat.reduceEqDiff, reduceCtorEq, Nat.reduceAdd, Nat.reduceLeDiff, t0, t4, l4, t5, l5, t6, decide_eq_true e30, et, eo, ed]
                refine wp_call (c_copyParams (l.take kk) wt h7 stt (Nat.le_trans (by simp; omega) (show 10 ≤ big by decide))) ?_
                rintro q h8 ⟨g8, z8⟩
                obtain ⟨wd2, ed2, sdd2, _⟩ := ((y7.grow g8).sl lenQ).dropB (i := kk + 1) (by omega) (kd := .i64)
                have hwd := cut_same ed ed2
                subst hwd
                simp +contextual (maxSteps := 2000000) only [go_sem, Nat.reduceEqDiff, reduceCtorEq, Nat.reduceAdd, Nat.reduceLeDiff, t0, t4, l4, t5, l5, t6, eo, ed2]
                refine wp_append lenQ z8 sdd2 g8 (by simp; omega) ?_
                intro h9 s9 g9 n9 st9 hb9
                obtain ⟨c9, rfl⟩ := n9.one
                simp +contextual (maxSteps := 2000000) only [go_sem, Nat.reduceEqDiff, reduceCtorEq, Nat.reduceAdd, Nat.reduceLeDiff, t0, t4, l4, t5, l5, t6]
                refine J _ _ _ ?_
                unfold NearM
                simp +contextual (maxSteps := 2000000) only [go_sem, Nat.reduceEqDiff, reduceCtorEq, Nat.reduceAdd, Nat.reduceLeDiff, t0, t4, l4, t5, l5, t6]
                refine ⟨⟨c9, _, rfl, n9.from d7r.n, ⟨by simp; omega, fun a ha => ?_⟩⟩, x7.grow g9, (d7.grow g9).more (by omega)⟩
                rcases List.mem_append.1 ha with ha | ha
                · exact tl.mid.nm a (List.mem_of_mem_take ha)
                · exact tl.mid.nm a (List.mem_of_mem_drop ha)
              · simp +contextual (maxSteps := 2000000) only [go_sem, Nat.reduceEqDiff, reduceCtorEq, Nat.reduceAdd, Nat.reduceLeDiff, t0, t4, l4, t5, l5, t6, decide_eq_false e30]
                refine D _ _ _ ?_
                simp +contextual (maxSteps := 2000000) only [go_sem, Nat.reduceEqDiff, reduceCtorEq, Nat.reduceAdd, Nat.reduceLeDiff, t0, t4, l4, t5, l5, t6]
                exact ⟨by omega, d7r.n, y7, x7, d7.more (by omega)⟩
        · have c2 : decide ((kk : Int) < (l.length : Int)) = false := decide_eq_false (by omega)
          simp +contextual (maxSteps := 2000000) only [go_sem, Nat.reduceEqDiff, reduceCtorEq, Nat.reduceAdd, Nat.reduceLeDiff, t0, t4, l4, t5, l5, t6, ylen, c2]
          refine D _ _ _ ?_
          simp +contextual (maxSteps := 2000000) only [go_sem, Nat.reduceEqDiff, reduceCtorEq, Nat.reduceAdd, Nat.reduceLeDiff, t0, t4, l4, t5, l5, t6]
          exact ⟨by omega, g4.n, y4, xn4, d4.more (by omega)⟩
      · rintro T L h5 ⟨t0, t4, l4, t5, l5, t6, t7, t8, l8, hkl, h35, y5, x5, d5⟩
        obtain ⟨p5, hs1, hs2, r5⟩ := d5.ex
        obtain ⟨wt, et, stt, _⟩ := (y5.sl lenQ).takeB (i := kk) hkl (kd := .i64)
        obtain ⟨wd, ed, sdd, _⟩ := (y5.sl lenQ).dropB (i := kk) hkl (kd := .i64)
        obtain ⟨wd, rfl⟩ := sdd.isOne
        have again : ∀ {h6 : H}, NwQ h3 h6 (.one y) l → cutO 83 4 h6 (.one y) (some (.one (.int .i64 kk))) none none = some (.one wd) ∧ Sl encQ 4 83 h6 (.one wd) (l.drop kk) := fun n => by
          obtain ⟨w2, e2, s2, _⟩ := (n.sl lenQ).dropB (i := kk) hkl (kd := .i64)
          have := cut_same ed e2
          subst this
          exact ⟨e2, s2⟩
        simp +contextual (maxSteps := 2000000) only [go_sem, Nat.reduceEqDiff, reduceCtorEq, Nat.reduceAdd, Nat.reduceLeDiff, ↓v113_62, t0, t4, l4, t5, l5, t6, t7, t8, l8, et]
        refine wp_lit (enc := encS) (k := 1) (l := [strOfNums [122], strOfNums [119], strOfNums [109]]) rfl rfl ?_
        intro h6 w6 g6 n6 b6
        have y6 := y5.grow g6
        simp +contextual (maxSteps := 2000000) only [go_sem, Nat.reduceEqDiff, reduceCtorEq, Nat.reduceAdd, Nat.reduceLeDiff, t0, t4, l4, t5, l5, t6, t7, t8, l8, (again y6).1]
        refine wp_call (c_copyParams (l.take kk) wt h6 (stt.grow g6) (Nat.le_trans (by simp; omega) (show 10 ≤ big by decide))) ?_
        rintro q h7 ⟨g7, z7⟩
        obtain ⟨c7, rfl⟩ := z7.one
        have y7 := y6.grow g7
        have h56 := g6.n
        have h67 := g7.n
        simp +contextual (maxSteps := 2000000) only [go_sem, Nat.reduceEqDiff, reduceCtorEq, Nat.reduceAdd, Nat.reduceLeDiff, t0, t4, l4, t5, l5, t6, t7, t8, l8, (again y7).1]
        refine wp_call (c_of b p5 _ w6 h7 (r5.grow (g6.trans g7)) (by omega) ((n6.sl lenS).grow g7) (fun i hi => Nat.lt_of_lt_of_le r5.lt (b6 i hi)) (by decide) (by decide)) ?_
        rintro q h8 ⟨⟨nm, hnm, rfl⟩, d8⟩
        have hnm : nm.size ≤ 10 := by
          simp only [List.mem_cons, List.not_mem_nil, or_false] at hnm
          rcases hnm with rfl | rfl | rfl <;> exact Nat.le_of_ble_eq_true rfl
        have hb6 : b < h6.n := by omega
        have y8 := y7.drew d8 hbn3
        have z8 := z7.drew d8 hb6
        have x8 := (x5.grow (g6.trans g7)).drew d8 hbn
        have h68 : h6.n ≤ h8.n := Nat.le_trans h67 d8.st.n
        obtain ⟨p8, hu1, hu2, r8⟩ := d8.ex
        have d8 := d8.then (d5.grow (g6.trans g7)).st (by omega) hs2
        simp +contextual (maxSteps := 2000000) only [go_sem, Nat.reduceEqDiff, reduceCtorEq, Nat.reduceAdd, Nat.reduceLeDiff, t0, t4, l4, t5, l5, t6, t7, t8, l8, (again y8).1]
        refine wp_call (c_pick b 5 p8 h8 r8 (by omega)) ?_
        rintro q h9 ⟨⟨e9, rfl, _, _⟩, d9⟩
        have y9 := y8.drew d9 hbn3
        have z9 := z8.drew d9 hb6
        have x9 := x8.drew d9 hbn
        have h69 : h6.n ≤ h9.n := Nat.le_trans h68 d9.st.n
        have d9 := d9.then d8.st (by omega) (show p8 ≤ p + ((1 + 6 * i + 4 + 1 : Nat) : Int) by omega)
        simp +contextual (maxSteps := 2000000) only [go_sem, Nat.reduceEqDiff, reduceCtorEq, Nat.reduceAdd, Nat.reduceLeDiff, t0, t4, l4, t5, l5, t6, t7, t8, l8, (again y9).1]
        refine wp_lit (enc := encQ) (k := 4) (l := [⟨nm, e9, false, 0⟩]) rfl rfl ?_
        intro h10 w10 g10 n10 b10
        have y10 := y9.grow g10
        have z10 := z9.grow g10
        have x10 := x9.grow g10
        have h610 : h6.n ≤ h10.n := Nat.le_trans h69 g10.n
        simp +contextual (maxSteps := 2000000) only [go_sem, Nat.reduceEqDiff, reduceCtorEq, Nat.reduceAdd, Nat.reduceLeDiff, t0, t4, l4, t5, l5, t6, t7, t8, l8, (again y10).1]
        refine wp_appendD lenQ z10 (n10.sl lenQ) h610 (by simp; omega) ?_
        intro h11 s11 z11 st11 hb11
        obtain ⟨c11, rfl⟩ := z11.one
        have sy : Sep (.one y) (.one c7) := Sep.new (fun i hi => (y6.lt hi).1) (fun i hi => (z10.lt hi).2)
        have sx : Sep (.one x) (.one c7) := Sep.new (fun i hi => ((x5.grow g6).lt hi).1) (fun i hi => (z10.lt hi).2)
        have y11 := y10.stay st11 sy
        have x11 := x10.stay st11 sx
        have h611 : h6.n ≤ h11.n := Nat.le_trans h610 st11.n
        simp +contextual (maxSteps := 2000000) only [go_sem, Nat.reduceEqDiff, reduceCtorEq, Nat.reduceAdd, Nat.reduceLeDiff, t0, t4, l4, t5, l5, t6, t7, t8, l8, (again y11).1]
        refine wp_appendD lenQ z11 (again y11).2 h611 (by simp; omega) ?_
        intro h12 s12 z12 st12 hb12
        obtain ⟨c12, rfl⟩ := z12.one
        have sx2 : Sep (.one x) (.one c11) := Sep.new (fun i hi => ((x5.grow g6).lt hi).1) (fun i hi => (z11.lt hi).2)
        have x12 := x11.stay st12 sx2
        have d12 := ((d9.grow g10).stay st11 (fun i hi => by have := (z10.lt hi).2; omega) hbn).stay st12 (fun i hi => by have := (z11.lt hi).2; omega) hbn
        simp +contextual (maxSteps := 2000000) only [go_sem, Nat.reduceEqDiff, reduceCtorEq, Nat.reduceAdd, Nat.reduceLeDiff, t0, t4, l4, t5, l5, t6, t7, t8, l8]
        refine J _ _ _ ?_
        unfold NearM
        simp +contextual (maxSteps := 2000000) only [go_sem, Nat.reduceEqDiff, reduceCtorEq, Nat.reduceAdd, Nat.reduceLeDiff, t0, t4, l4, t5, l5, t6, t7, t8, l8]
        refine ⟨⟨c12, _, rfl, z12.from (by omega), ⟨by simp; omega, fun a ha => ?_⟩⟩, x12, d12.more (by omega)⟩
        simp only [List.mem_append, List.mem_singleton] at ha
        rcases ha with (ha | rfl) | ha
        · exact tl.mid.nm a (List.mem_of_mem_take ha)
        · exact Nat.le_trans hnm (by decide)
        · exact tl.mid.nm a (List.mem_of_mem_drop ha)
    · rintro T L h5 ⟨t0, t4, l4, t5, l5, t6, t8, ⟨y, m, l8, yn, mm⟩, xn, d⟩
      have ev := c_validSignature m y h5 (yn.sl lenQ) mm.sm
      cases eo : okSig m with
      | false =>
        simp +contextual (maxSteps := 2000000) only [go_sem, Nat.reduceEqDiff, reduceCtorEq, Nat.reduceAdd, Nat.reduceLeDiff, ↓u113_11, t0, t4, l4, t5, l5, t6, t8, l8, ev, eo, wrap_pred (show j < 2 ^ 62 by omega)]
        exact ⟨⟨x, l, rfl, xn, tl⟩, by rw [ej], d.more (by omega)⟩
      | true =>
        simp +contextual (maxSteps := 2000000) only [go_sem, Nat.reduceEqDiff, reduceCtorEq, Nat.reduceAdd, Nat.reduceLeDiff, ↓u113_11, t0, t4, l4, t5, l5, t6, t8, l8, ev, eo, wrap_pred (show j < 2 ^ 62 by omega)]
        exact ⟨⟨y, m, rfl, yn.from hN4, .okS eo⟩, by rw [ej], d.more (by omega)⟩
  · rintro T L h' ⟨t0, t4, l4, t5, ⟨x, l, l5, xn, tl⟩, t6, d⟩
    rw [Nat.sub_self] at t6
    have d := d.more (show 1 + 6 * n ≤ 13 by omega)
    simp +contextual (maxSteps := 2000000) only [go_sem, Nat.reduceEqDiff, reduceCtorEq, Nat.reduceAdd, Nat.reduceLeDiff, t0, t4, l4, t5, l5, t6, hz]
    exact gcK_drew r d ⟨⟨x, l, rfl, xn, tl⟩, d⟩
  · simp +contextual (maxSteps := 2000000) only [go_sem, Nat.reduceEqDiff, reduceCtorEq, Nat.reduceAdd, Nat.reduceLeDiff]
    exact ⟨⟨c1, s, rfl, x2, ts⟩, rfl, d2⟩
end Go.Proofs.YtoeceafibmafpaaDoor.Am
