/- Contracts: what a call gives to the parameters, of the reference. -/
import Derived.Test.YtdalgphpacikkaaGreatA2
import Derived.Test.YtdalgphpacikkaaGreatA3
import Derived.Test.YtdalgphpacikkaaGreatB1
import Derived.Test.YtdalgphpacikkaaGreatBY
namespace Go.Proofs.YtdalgphpacikkaaGreat.Am
open Go
set_option maxRecDepth 100000
set_option maxHeartbeats 4000000
set_option linter.unusedSimpArgs false
set_option linter.unusedVariables false
attribute [local go_sem ↓] bv_t bv_c ev_t ev_c put_same put_ne put_none kill_at pro_at lb_same lb_ne start_zero start_succ wpC_seq wpC_reg wpC_cond wpC_block wpC_skip wpC_exit wpC_ret thenQ_normal thenQ_exit thenQ_ret inBlk_normal inBlk_exit inBlk_ret wpS_nil wpS_step wpS_again wpS_guard wpO_mov wpO_load wpO_faddr wpO_nilCheck wpO_pick wpO_build wpO_bin wpO_eqb wpO_eqst wpO_eqnil wpO_not wpO_conv wpO_bytesStr wpO_iaddr wpO_idxStr wpO_field wpO_extract wpO_len wpO_lenStr wpO_cap wpO_min wpO_slice wpO_sliceStr wpO_alloc wpO_box wpO_store wpO_call wpO_callv wpO_mkfn wpO_buildSlice wpO_mkslice wpO_append wpO_appz proA_nil proA_cons tmpX_nil tmpX_tmp tmpX_cell doneB_normal doneB_ret agK_cons agK_nil agK_guard agG_tt agG_ff agG_tf agG_ft agG_undef pureB_load results_one results_two results_nil resBs_cons resBs_nil resB_tmp resB_cell
attribute [local go_sem] kill_v kill_lp_ne kill_lp_same pro_v pro_lp_same pro_lp_ne av_v av_lp optB_some optX_some valX_eq ldX_lp ldX_v faX_lp faX_v ncX_lp ncX_ptr ncX_fn boxK_one boxK_agg stL_some stK_lp_one stK_lp_agg stK_v_one stK_v_agg proM_v proM_lp callG_mk callVG_mk callvK_fn fnG_mk ptrsA_nil ptrsA_cons callH_some whenA_true whenA_false guardH_tt guardH_ff guardH_tf guardH_ft guardH_undef agV_one agV_agg lenO_sl lenStrO_str notO_bool pickO_bool convO_int eqbO_bool eqnilO_sl extractO_tup capO_sl minO_int loadL_one loadL_all storeL_eq fillA_nil fillA_one fillA_agg nat_ge neg_ge nat_lt neg_lt buildO bin_add bin_sub bin_mul bin_eql bin_neq bin_lss bin_leq bin_gtr bin_geq str_eql str_neq str_lss str_leq str_gtr str_geq retK_some endK_mk gcK_same gcK_int gcK_bool tupO_one tupO_agg rdy_self ib ii Option.map_none Option.map_some Option.some.injEq exists_eq_left' exists_eq_left ne_eq not_false_eq_true if_true if_false List.map_cons List.map_nil List.getElem?_cons_zero List.getElem?_cons_succ List.length_cons List.length_nil List.take_succ_cons List.take_zero List.take_nil List.drop_succ_cons List.drop_zero List.drop_nil List.cons_append List.nil_append List.append_nil List.set_cons_zero List.set_cons_succ Nat.zero_add forall_const true_and and_true and_self Bool.false_eq_true false_implies true_implies implies_true Bool.not_true Bool.not_false Bool.not_eq_true' Bool.not_eq_false' beq_self_eq_true Bool.bne_true Bool.bne_false
attribute [local go_sem] lenI lenS lenP lenQ lenB lenL lenT encI_0 encS_0 encP_0 encP_1 encQ_0 encQ_1 encQ_2 encQ_3 encB_0 encB_1 encL_0 encL_1 encT_0 encT_1
attribute [local go_sem low] whenA_bool guardH_bool
attribute [local go_sem] lenY encY_0 encY_1 encY_2
def zeroR : RSlot := ⟨false, .sl none 0 (some 0), .sl none 0 (some 0)⟩
theorem NwY.zeros {h0 h : H} {v : CV} {n : Nat} (x : Nw encY 3 94 h0 h (.one v) (List.replicate n zeroR)) : NwY h0 h v (List.replicate n zeroR) (List.replicate n zeroS) := by
  refine ⟨⟨x, by simp, fun i hi => ?_, fun i hi => ?_, fun i hi => ?_, fun i hi => ?_, fun i j hi hj hij => ?_, fun i j hi hj hij => ?_, fun i j hi hj hij => ?_, fun i j hi hj hij => ?_⟩⟩
  · have hi2 : i < (List.replicate n zeroS).length := by simpa using hi
    rw [getY_eq hi2, List.getElem_replicate, List.getElem_replicate]
    exact ⟨rfl, .nil, .nil⟩
  all_goals simp only [List.getElem_replicate]
  · exact Sep.nil.symm
  · exact Sep.nil.symm
  · exact Sep.nil
  · exact Sep.nil
  · exact Sep.nil
  · exact Sep.nil
  · exact Sep.nil
/-! spec.emptyBinding -/
def L55_0 : List AStep := [⟨.box 33 (.t 0), (some 1), none, []⟩, ⟨.alloc 75 [(.sl none 0 (some 0))], (some 2), none, []⟩]
theorem v55_0 : VS L55_0.eq_1 := rfl
def L55_1 : List AStep := [⟨.build [(.sl none 0 (some 0))] [(0, 1, (.t 6))], (some 7), none, []⟩, ⟨.store 1 (.t 2) (.t 7), none, none, []⟩]
theorem v55_1 : VS L55_1.eq_1 := rfl
def L55_2 : List AStep := ⟨.len (.t 4), (some 5), none, []⟩ :: ⟨.mkslice 94 56 [(.bool false), (.sl none 0 (some 0)), (.sl none 0 (some 0))] (.t 5) (.t 5), (some 6), none, []⟩ :: L55_1
theorem v55_2 : VS L55_2.eq_1 := rfl
def L55_3 : List AStep := ⟨.faddr 0 (.t 1), (some 3), none, []⟩ :: ⟨.load 1 false (.t 3), (some 4), none, []⟩ :: L55_2
theorem v55_3 : VS L55_3.eq_1 := rfl
def C55_0 : ACode := .seq (.reg L55_3) .ret
theorem u55_0 : VC C55_0.eq_1 := rfl
def C55_1 : ACode := .seq (.reg L55_0) C55_0
theorem u55_1 : VC C55_1.eq_1 := rfl
def F55 : AFunc := ⟨8, [.cell 2 1 true], C55_1⟩
theorem cF55 : compB Tryz.prog 55 = some F55 := by kernel_rfl
attribute [local go_sem ↓] u55_0 u55_1 v55_0 v55_1 v55_2 v55_3
theorem c_emptyBinding (l : List Param) (q : CV) (h : H) (hl : SlQ h (.one q) l) (hn : l.length ≤ big) : callK (bm Tryz.prog 55 [.agg [q]] h) fun r h' => Grow h h' ∧ ∃ v, r = .agg [v] ∧ NwY h h' v (List.replicate l.length zeroR) (List.replicate l.length zeroS) := by
  refine bm_of cF55 ?_
  unfold big at hn
  simp +contextual (maxSteps := 2000000) only [go_sem, Nat.reduceEqDiff, reduceCtorEq, Nat.reduceAdd, Nat.reduceLeDiff, F55, hl.len]
  refine wp_make (enc := encY) (k := 3) zeroR rfl (by omega) (by omega) ?_
  intro h1 w g1 n1 _
  obtain ⟨c, rfl⟩ := n1.one
  simp +contextual (maxSteps := 2000000) only [go_sem, Nat.reduceEqDiff, reduceCtorEq, Nat.reduceAdd, Nat.reduceLeDiff]
  exact gcK_of ⟨g1, _, rfl, .zeros n1⟩ (fun hs _ => ⟨Grow.refl h, _, rfl, (NwY.zeros n1).scalar (by simpa [AV.scalar, AV.scalars] using hs) h⟩)
/-! spec.bound -/
def L40_0 : List AStep := [⟨.alloc 75 [(.sl none 0 (some 0))], (some 4), none, []⟩, ⟨.mov (.c (.sl none 0 (some 0))), (some 5), none, []⟩]
theorem v40_0 : VS L40_0.eq_1 := rfl
def L40_1 : List AStep := ⟨.box 33 (.t 0), (some 2), none, []⟩ :: ⟨.box 36 (.t 1), (some 3), none, []⟩ :: L40_0
theorem v40_1 : VS L40_1.eq_1 := rfl
def L40_2 : List AStep := [⟨.alloc 75 [(.sl none 0 (some 0))], (some 6), none, []⟩, ⟨.store 1 (.t 6) (.t 15), none, none, []⟩]
theorem v40_2 : VS L40_2.eq_1 := rfl
def L40_3 : List AStep := ⟨.load 1 true (.t 2), (some 14), none, []⟩ :: ⟨.call 55 [(.t 14)], (some 15), none, []⟩ :: L40_2
theorem v40_3 : VS L40_3.eq_1 := rfl
def L40_4 : List AStep := [⟨.buildSlice 96 0 [(.int .i64 0), (.str (strOfNums []))] [], (some 16), none, []⟩, ⟨.mov (.t 16), (some 7), none, []⟩]
theorem v40_4 : VS L40_4.eq_1 := rfl
def L40_5 : List AStep := [⟨.mov (.t 18), (some 8), none, []⟩]
theorem v40_5 : VS L40_5.eq_1 := rfl
def L40_6 : List AStep := ⟨.load 1 true (.t 2), (some 17), none, []⟩ :: ⟨.call 56 [(.t 17)], (some 18), none, []⟩ :: L40_5
theorem v40_6 : VS L40_6.eq_1 := rfl
def L40_7 : List AStep := [⟨.call 57 [(.t 20), (.c (.int .i64 2))], (some 21), none, []⟩, ⟨.mov (.t 21), (some 9), none, []⟩]
theorem v40_7 : VS L40_7.eq_1 := rfl
def L40_8 : List AStep := ⟨.faddr 0 (.t 2), (some 19), none, []⟩ :: ⟨.load 1 false (.t 19), (some 20), none, []⟩ :: L40_7
theorem v40_8 : VS L40_8.eq_1 := rfl
def L40_9 : List AStep := [⟨.mov (.c (.int .i64 0)), (some 10), none, []⟩]
theorem v40_9 : VS L40_9.eq_1 := rfl
def L40_10 : List AStep := [⟨.bin .lss (.t 22) (.t 25), (some 26), none, []⟩]
theorem v40_10 : VS L40_10.eq_1 := rfl
def L40_11 : List AStep := ⟨.load 1 false (.t 23), (some 24), none, []⟩ :: ⟨.len (.t 24), (some 25), none, []⟩ :: L40_10
theorem v40_11 : VS L40_11.eq_1 := rfl
def L40_12 : List AStep := ⟨.mov (.t 10), (some 22), none, []⟩ :: ⟨.faddr 0 (.t 3), (some 23), none, []⟩ :: L40_11
theorem v40_12 : VS L40_12.eq_1 := rfl
def L40_13 : List AStep := [⟨.bin .lss (.t 30) (.t 31), (some 32), none, []⟩, ⟨.mov (.t 32), (some 29), none, []⟩]
theorem v40_13 : VS L40_13.eq_1 := rfl
def L40_14 : List AStep := ⟨.mov (.t 10), (some 30), none, []⟩ :: ⟨.mov (.t 8), (some 31), none, []⟩ :: L40_13
theorem v40_14 : VS L40_14.eq_1 := rfl
def L40_15 : List AStep := [⟨.iaddr 3 (.t 34) (.t 35), (some 43), none, []⟩, ⟨.store 3 (.t 43) (.t 42), none, none, []⟩]
theorem v40_15 : VS L40_15.eq_1 := rfl
def L40_16 : List AStep := ⟨.buildSlice 3 1 [(.int .i64 0)] [(0, 1, (.t 40))], (some 41), none, []⟩ :: ⟨.build [(.bool false), (.sl none 0 (some 0)), (.sl none 0 (some 0))] [(0, 1, (.c (.bool true))), (1, 1, (.t 41))], (some 42), none, []⟩ :: L40_15
theorem v40_16 : VS L40_16.eq_1 := rfl
def L40_17 : List AStep := ⟨.iaddr 1 (.t 37) (.t 38), (some 39), none, []⟩ :: ⟨.load 1 false (.t 39), (some 40), none, []⟩ :: L40_16
theorem v40_17 : VS L40_17.eq_1 := rfl
def L40_18 : List AStep := ⟨.load 1 false (.t 36), (some 37), none, []⟩ :: ⟨.mov (.t 10), (some 38), none, []⟩ :: L40_17
theorem v40_18 : VS L40_18.eq_1 := rfl
def L40_19 : List AStep := ⟨.mov (.t 10), (some 35), none, []⟩ :: ⟨.faddr 0 (.t 3), (some 36), none, []⟩ :: L40_18
theorem v40_19 : VS L40_19.eq_1 := rfl
def L40_20 : List AStep := ⟨.faddr 0 (.t 6), (some 33), none, []⟩ :: ⟨.load 1 false (.t 33), (some 34), none, []⟩ :: L40_19
theorem v40_20 : VS L40_20.eq_1 := rfl
def L40_21 : List AStep := [⟨.mov (.t 46), (some 44), none, []⟩]
theorem v40_21 : VS L40_21.eq_1 := rfl
def L40_22 : List AStep := ⟨.mov (.t 9), (some 45), none, []⟩ :: ⟨.bin .geq (.t 45) (.c (.int .i64 0)), (some 46), none, []⟩ :: L40_21
theorem v40_22 : VS L40_22.eq_1 := rfl
def L40_23 : List AStep := [⟨.store 1 (.t 64) (.t 62), none, none, []⟩]
theorem v40_23 : VS L40_23.eq_1 := rfl
def L40_24 : List AStep := ⟨.iaddr 3 (.t 48) (.t 49), (some 63), none, []⟩ :: ⟨.faddr 1 (.t 63), (some 64), none, []⟩ :: L40_23
theorem v40_24 : VS L40_24.eq_1 := rfl
def L40_25 : List AStep := ⟨.buildSlice 3 1 [(.int .i64 0)] [(0, 1, (.t 60))], (some 61), none, []⟩ :: ⟨.append 3 1 8 (.t 55) (.t 61), (some 62), none, [(.load 1 false (.t 47), (some 48), none)]⟩ :: L40_24
theorem v40_25 : VS L40_25.eq_1 := rfl
def L40_26 : List AStep := ⟨.iaddr 1 (.t 57) (.t 58), (some 59), none, []⟩ :: ⟨.load 1 false (.t 59), (some 60), none, []⟩ :: L40_25
theorem v40_26 : VS L40_26.eq_1 := rfl
def L40_27 : List AStep := ⟨.load 1 false (.t 56), (some 57), none, []⟩ :: ⟨.mov (.t 10), (some 58), none, []⟩ :: L40_26
theorem v40_27 : VS L40_27.eq_1 := rfl
def L40_28 : List AStep := ⟨.load 1 false (.t 54), (some 55), none, []⟩ :: ⟨.faddr 0 (.t 3), (some 56), none, []⟩ :: L40_27
theorem v40_28 : VS L40_28.eq_1 := rfl
def L40_29 : List AStep := ⟨.iaddr 3 (.t 51) (.t 52), (some 53), none, []⟩ :: ⟨.faddr 1 (.t 53), (some 54), none, []⟩ :: L40_28
theorem v40_29 : VS L40_29.eq_1 := rfl
def L40_30 : List AStep := ⟨.load 1 false (.t 50), (some 51), none, []⟩ :: ⟨.mov (.t 9), (some 52), none, []⟩ :: L40_29
theorem v40_30 : VS L40_30.eq_1 := rfl
def L40_31 : List AStep := ⟨.mov (.t 9), (some 49), none, []⟩ :: ⟨.faddr 0 (.t 6), (some 50), none, []⟩ :: L40_30
theorem v40_31 : VS L40_31.eq_1 := rfl
def L40_32 : List AStep := ⟨.faddr 0 (.t 6), (some 47), none, []⟩ :: ⟨.load 1 false (.t 47), (some 48), none, []⟩ :: L40_31
theorem v40_32 : VS L40_32.eq_1 := rfl
def L40_33 : List AStep := [⟨.mov (.t 28), (some 10), none, []⟩]
theorem v40_33 : VS L40_33.eq_1 := rfl
def L40_34 : List AStep := ⟨.mov (.t 10), (some 27), none, []⟩ :: ⟨.bin .add (.t 27) (.c (.int .i64 1)), (some 28), none, []⟩ :: L40_33
theorem v40_34 : VS L40_34.eq_1 := rfl
def L40_35 : List AStep := [⟨.pick (.t 70) (.t 72) (.c (.bool false)), (some 73), none, []⟩]
theorem v40_35 : VS L40_35.eq_1 := rfl
def L40_36 : List AStep := ⟨.mov (.t 9), (some 71), (some (70, true)), []⟩ :: ⟨.bin .lss (.t 71) (.c (.int .i64 0)), (some 72), (some (70, true)), []⟩ :: L40_35
theorem v40_36 : VS L40_36.eq_1 := rfl
def L40_37 : List AStep := ⟨.bin .gtr (.t 67) (.t 68), (some 69), none, []⟩ :: ⟨.mov (.t 69), (some 70), none, []⟩ :: L40_36
theorem v40_37 : VS L40_37.eq_1 := rfl
def L40_38 : List AStep := ⟨.len (.t 66), (some 67), none, []⟩ :: ⟨.mov (.t 8), (some 68), none, []⟩ :: L40_37
theorem v40_38 : VS L40_38.eq_1 := rfl
def L40_39 : List AStep := ⟨.faddr 0 (.t 3), (some 65), none, []⟩ :: ⟨.load 1 false (.t 65), (some 66), none, []⟩ :: L40_38
theorem v40_39 : VS L40_39.eq_1 := rfl
def L40_40 : List AStep := [⟨.mov (.t 77), (some 7), none, []⟩]
theorem v40_40 : VS L40_40.eq_1 := rfl
def L40_41 : List AStep := ⟨.buildSlice 96 1 [(.int .i64 0), (.str (strOfNums []))] [(0, 2, (.t 75))], (some 76), none, []⟩ :: ⟨.append 96 2 24 (.t 74) (.t 76), (some 77), none, []⟩ :: L40_40
theorem v40_41 : VS L40_41.eq_1 := rfl
def L40_42 : List AStep := ⟨.mov (.t 7), (some 74), none, []⟩ :: ⟨.build [(.int .i64 0), (.str (strOfNums []))] [(0, 1, (.c (.int .i64 0)))], (some 75), none, []⟩ :: L40_41
theorem v40_42 : VS L40_42.eq_1 := rfl
def L40_43 : List AStep := [⟨.mov (.c (.int .i64 0)), (some 11), none, []⟩]
theorem v40_43 : VS L40_43.eq_1 := rfl
def L40_44 : List AStep := [⟨.bin .lss (.t 78) (.t 81), (some 82), none, []⟩]
theorem v40_44 : VS L40_44.eq_1 := rfl
def L40_45 : List AStep := ⟨.load 1 false (.t 79), (some 80), none, []⟩ :: ⟨.len (.t 80), (some 81), none, []⟩ :: L40_44
theorem v40_45 : VS L40_45.eq_1 := rfl
def L40_46 : List AStep := ⟨.mov (.t 11), (some 78), none, []⟩ :: ⟨.faddr 1 (.t 3), (some 79), none, []⟩ :: L40_45
theorem v40_46 : VS L40_46.eq_1 := rfl
def L40_47 : List AStep := [⟨.store 2 (.t 12) (.t 89), none, none, []⟩]
theorem v40_47 : VS L40_47.eq_1 := rfl
def L40_48 : List AStep := ⟨.load 2 true (.t 88), (some 89), none, []⟩ :: ⟨.alloc 81 [(.str (strOfNums [])), (.int .i64 0)], (some 12), none, []⟩ :: L40_47
theorem v40_48 : VS L40_48.eq_1 := rfl
def L40_49 : List AStep := ⟨.mov (.t 11), (some 87), none, []⟩ :: ⟨.iaddr 2 (.t 86) (.t 87), (some 88), none, []⟩ :: L40_48
theorem v40_49 : VS L40_49.eq_1 := rfl
def L40_50 : List AStep := ⟨.faddr 1 (.t 3), (some 85), none, []⟩ :: ⟨.load 1 false (.t 85), (some 86), none, []⟩ :: L40_49
theorem v40_50 : VS L40_50.eq_1 := rfl
def L40_51 : List AStep := [⟨.mov (.t 93), (some 13), none, []⟩]
theorem v40_51 : VS L40_51.eq_1 := rfl
def L40_52 : List AStep := ⟨.load 1 false (.t 91), (some 92), none, []⟩ :: ⟨.call 58 [(.t 90), (.t 92)], (some 93), none, []⟩ :: L40_51
theorem v40_52 : VS L40_52.eq_1 := rfl
def L40_53 : List AStep := ⟨.load 1 true (.t 2), (some 90), none, []⟩ :: ⟨.faddr 0 (.t 12), (some 91), none, []⟩ :: L40_52
theorem v40_53 : VS L40_53.eq_1 := rfl
def L40_54 : List AStep := [⟨.mov (.t 104), (some 102), none, []⟩]
theorem v40_54 : VS L40_54.eq_1 := rfl
def L40_55 : List AStep := ⟨.mov (.t 13), (some 103), none, []⟩ :: ⟨.bin .lss (.t 103) (.c (.int .i64 0)), (some 104), none, []⟩ :: L40_54
theorem v40_55 : VS L40_55.eq_1 := rfl
def L40_56 : List AStep := [⟨.mov (.t 110), (some 7), none, []⟩]
theorem v40_56 : VS L40_56.eq_1 := rfl
def L40_57 : List AStep := ⟨.buildSlice 96 1 [(.int .i64 0), (.str (strOfNums []))] [(0, 2, (.t 108))], (some 109), none, []⟩ :: ⟨.append 96 2 24 (.t 105) (.t 109), (some 110), none, []⟩ :: L40_56
theorem v40_57 : VS L40_57.eq_1 := rfl
def L40_58 : List AStep := ⟨.load 1 false (.t 106), (some 107), none, []⟩ :: ⟨.build [(.int .i64 0), (.str (strOfNums []))] [(0, 1, (.c (.int .i64 1))), (1, 1, (.t 107))], (some 108), none, []⟩ :: L40_57
theorem v40_58 : VS L40_58.eq_1 := rfl
def L40_59 : List AStep := ⟨.mov (.t 7), (some 105), none, []⟩ :: ⟨.faddr 0 (.t 12), (some 106), none, []⟩ :: L40_58
theorem v40_59 : VS L40_59.eq_1 := rfl
def L40_60 : List AStep := [⟨.bin .eql (.t 117) (.c (.int .i64 4)), (some 118), none, []⟩, ⟨.mov (.t 118), (some 111), none, []⟩]
theorem v40_60 : VS L40_60.eq_1 := rfl
def L40_61 : List AStep := ⟨.faddr 1 (.t 115), (some 116), none, []⟩ :: ⟨.load 1 false (.t 116), (some 117), none, []⟩ :: L40_60
theorem v40_61 : VS L40_61.eq_1 := rfl
def L40_62 : List AStep := ⟨.mov (.t 13), (some 114), none, []⟩ :: ⟨.iaddr 4 (.t 113) (.t 114), (some 115), none, []⟩ :: L40_61
theorem v40_62 : VS L40_62.eq_1 := rfl
def L40_63 : List AStep := ⟨.faddr 0 (.t 2), (some 112), none, []⟩ :: ⟨.load 1 false (.t 112), (some 113), none, []⟩ :: L40_62
theorem v40_63 : VS L40_63.eq_1 := rfl
def L40_64 : List AStep := [⟨.store 1 (.t 132) (.t 130), none, none, []⟩]
theorem v40_64 : VS L40_64.eq_1 := rfl
def L40_65 : List AStep := ⟨.iaddr 3 (.t 120) (.t 121), (some 131), none, []⟩ :: ⟨.faddr 2 (.t 131), (some 132), none, []⟩ :: L40_64
theorem v40_65 : VS L40_65.eq_1 := rfl
def L40_66 : List AStep := ⟨.buildSlice 81 1 [(.str (strOfNums [])), (.int .i64 0)] [(0, 2, (.t 128))], (some 129), none, []⟩ :: ⟨.append 81 2 24 (.t 127) (.t 129), (some 130), none, [(.load 1 false (.t 119), (some 120), none)]⟩ :: L40_65
theorem v40_66 : VS L40_66.eq_1 := rfl
def L40_67 : List AStep := ⟨.load 1 false (.t 126), (some 127), none, []⟩ :: ⟨.load 2 true (.t 12), (some 128), none, []⟩ :: L40_66
theorem v40_67 : VS L40_67.eq_1 := rfl
def L40_68 : List AStep := ⟨.iaddr 3 (.t 123) (.t 124), (some 125), none, []⟩ :: ⟨.faddr 2 (.t 125), (some 126), none, []⟩ :: L40_67
theorem v40_68 : VS L40_68.eq_1 := rfl
def L40_69 : List AStep := ⟨.load 1 false (.t 122), (some 123), none, []⟩ :: ⟨.mov (.t 13), (some 124), none, []⟩ :: L40_68
theorem v40_69 : VS L40_69.eq_1 := rfl
def L40_70 : List AStep := ⟨.mov (.t 13), (some 121), none, []⟩ :: ⟨.faddr 0 (.t 6), (some 122), none, []⟩ :: L40_69
theorem v40_70 : VS L40_70.eq_1 := rfl
def L40_71 : List AStep := ⟨.faddr 0 (.t 6), (some 119), none, []⟩ :: ⟨.load 1 false (.t 119), (some 120), none, []⟩ :: L40_70
theorem v40_71 : VS L40_71.eq_1 := rfl
def L40_72 : List AStep := [⟨.mov (.t 139), (some 133), none, []⟩]
theorem v40_72 : VS L40_72.eq_1 := rfl
def L40_73 : List AStep := ⟨.faddr 0 (.t 137), (some 138), none, []⟩ :: ⟨.load 1 false (.t 138), (some 139), none, []⟩ :: L40_72
theorem v40_73 : VS L40_73.eq_1 := rfl
def L40_74 : List AStep := ⟨.mov (.t 13), (some 136), none, []⟩ :: ⟨.iaddr 3 (.t 135) (.t 136), (some 137), none, []⟩ :: L40_73
theorem v40_74 : VS L40_74.eq_1 := rfl
def L40_75 : List AStep := ⟨.faddr 0 (.t 6), (some 134), none, []⟩ :: ⟨.load 1 false (.t 134), (some 135), none, []⟩ :: L40_74
theorem v40_75 : VS L40_75.eq_1 := rfl
def L40_76 : List AStep := [⟨.mov (.t 145), (some 7), none, []⟩]
theorem v40_76 : VS L40_76.eq_1 := rfl
def L40_77 : List AStep := ⟨.buildSlice 96 1 [(.int .i64 0), (.str (strOfNums []))] [(0, 2, (.t 143))], (some 144), none, []⟩ :: ⟨.append 96 2 24 (.t 140) (.t 144), (some 145), none, []⟩ :: L40_76
theorem v40_77 : VS L40_77.eq_1 := rfl
def L40_78 : List AStep := ⟨.load 1 false (.t 141), (some 142), none, []⟩ :: ⟨.build [(.int .i64 0), (.str (strOfNums []))] [(0, 1, (.c (.int .i64 2))), (1, 1, (.t 142))], (some 143), none, []⟩ :: L40_77
theorem v40_78 : VS L40_78.eq_1 := rfl
def L40_79 : List AStep := ⟨.mov (.t 7), (some 140), none, []⟩ :: ⟨.faddr 0 (.t 12), (some 141), none, []⟩ :: L40_78
theorem v40_79 : VS L40_79.eq_1 := rfl
def L40_80 : List AStep := [⟨.store 3 (.t 101) (.t 100), none, none, []⟩]
theorem v40_80 : VS L40_80.eq_1 := rfl
def L40_81 : List AStep := ⟨.build [(.bool false), (.sl none 0 (some 0)), (.sl none 0 (some 0))] [(0, 1, (.c (.bool true))), (1, 1, (.t 99))], (some 100), none, []⟩ :: ⟨.iaddr 3 (.t 95) (.t 96), (some 101), none, []⟩ :: L40_80
theorem v40_81 : VS L40_81.eq_1 := rfl
def L40_82 : List AStep := ⟨.load 1 false (.t 97), (some 98), none, []⟩ :: ⟨.buildSlice 3 1 [(.int .i64 0)] [(0, 1, (.t 98))], (some 99), none, []⟩ :: L40_81
theorem v40_82 : VS L40_82.eq_1 := rfl
def L40_83 : List AStep := ⟨.mov (.t 13), (some 96), none, []⟩ :: ⟨.faddr 1 (.t 12), (some 97), none, []⟩ :: L40_82
theorem v40_83 : VS L40_83.eq_1 := rfl
def L40_84 : List AStep := ⟨.faddr 0 (.t 6), (some 94), none, []⟩ :: ⟨.load 1 false (.t 94), (some 95), none, []⟩ :: L40_83
theorem v40_84 : VS L40_84.eq_1 := rfl
def L40_85 : List AStep := [⟨.mov (.t 84), (some 11), none, []⟩]
theorem v40_85 : VS L40_85.eq_1 := rfl
def L40_86 : List AStep := ⟨.mov (.t 11), (some 83), none, []⟩ :: ⟨.bin .add (.t 83) (.c (.int .i64 1)), (some 84), none, []⟩ :: L40_85
theorem v40_86 : VS L40_86.eq_1 := rfl
def L40_87 : List AStep := [⟨.store 1 (.t 4) (.t 146), none, none, []⟩, ⟨.mov (.t 147), (some 5), none, []⟩]
theorem v40_87 : VS L40_87.eq_1 := rfl
def L40_88 : List AStep := ⟨.load 1 true (.t 6), (some 146), none, []⟩ :: ⟨.mov (.t 7), (some 147), none, []⟩ :: L40_87
theorem v40_88 : VS L40_88.eq_1 := rfl
def C40_0 : ACode := .cond (.t 26) .skip (.exit 0)
theorem u40_0 : VC C40_0.eq_1 := rfl
def C40_1 : ACode := .seq (.reg L40_12) C40_0
theorem u40_1 : VC C40_1.eq_1 := rfl
def C40_2 : ACode := .cond (.t 44) (.reg L40_32) .skip
theorem u40_2 : VC C40_2.eq_1 := rfl
def C40_3 : ACode := .seq (.reg L40_22) C40_2
theorem u40_3 : VC C40_3.eq_1 := rfl
def C40_4 : ACode := .cond (.t 29) (.reg L40_20) C40_3
theorem u40_4 : VC C40_4.eq_1 := rfl
def C40_5 : ACode := .seq (.reg L40_14) C40_4
theorem u40_5 : VC C40_5.eq_1 := rfl
def C40_6 : ACode := .block 2 C40_5
theorem u40_6 : VC C40_6.eq_1 := rfl
def C40_7 : ACode := .block 1 C40_6
theorem u40_7 : VC C40_7.eq_1 := rfl
def C40_8 : ACode := .seq C40_7 (.reg L40_34)
theorem u40_8 : VC C40_8.eq_1 := rfl
def C40_9 : ACode := .seq C40_1 C40_8
theorem u40_9 : VC C40_9.eq_1 := rfl
def C40_10 : ACode := .block 0 (.loop C40_9)
theorem u40_10 : VC C40_10.eq_1 := rfl
def C40_11 : ACode := .seq (.reg L40_9) C40_10
theorem u40_11 : VC C40_11.eq_1 := rfl
def C40_12 : ACode := .cond (.t 73) (.reg L40_42) .skip
theorem u40_12 : VC C40_12.eq_1 := rfl
def C40_13 : ACode := .seq (.reg L40_39) C40_12
theorem u40_13 : VC C40_13.eq_1 := rfl
def C40_14 : ACode := .cond (.t 82) .skip (.exit 3)
theorem u40_14 : VC C40_14.eq_1 := rfl
def C40_15 : ACode := .seq (.reg L40_46) C40_14
theorem u40_15 : VC C40_15.eq_1 := rfl
def C40_16 : ACode := .cond (.t 133) (.reg L40_79) (.reg L40_84)
theorem u40_16 : VC C40_16.eq_1 := rfl
def C40_17 : ACode := .seq (.reg L40_75) C40_16
theorem u40_17 : VC C40_17.eq_1 := rfl
def C40_18 : ACode := .cond (.t 111) (.reg L40_71) C40_17
theorem u40_18 : VC C40_18.eq_1 := rfl
def C40_19 : ACode := .seq (.reg L40_63) C40_18
theorem u40_19 : VC C40_19.eq_1 := rfl
def C40_20 : ACode := .cond (.t 102) (.reg L40_59) C40_19
theorem u40_20 : VC C40_20.eq_1 := rfl
def C40_21 : ACode := .seq (.reg L40_55) C40_20
theorem u40_21 : VC C40_21.eq_1 := rfl
def C40_22 : ACode := .block 5 C40_21
theorem u40_22 : VC C40_22.eq_1 := rfl
def C40_23 : ACode := .seq (.reg L40_53) C40_22
theorem u40_23 : VC C40_23.eq_1 := rfl
def C40_24 : ACode := .seq (.reg L40_50) C40_23
theorem u40_24 : VC C40_24.eq_1 := rfl
def C40_25 : ACode := .block 4 C40_24
theorem u40_25 : VC C40_25.eq_1 := rfl
def C40_26 : ACode := .seq C40_25 (.reg L40_86)
theorem u40_26 : VC C40_26.eq_1 := rfl
def C40_27 : ACode := .seq C40_15 C40_26
theorem u40_27 : VC C40_27.eq_1 := rfl
def C40_28 : ACode := .block 3 (.loop C40_27)
theorem u40_28 : VC C40_28.eq_1 := rfl
def C40_29 : ACode := .seq (.reg L40_43) C40_28
theorem u40_29 : VC C40_29.eq_1 := rfl
def C40_30 : ACode := .seq (.reg L40_88) .ret
theorem u40_30 : VC C40_30.eq_1 := rfl
def C40_31 : ACode := .seq C40_29 C40_30
theorem u40_31 : VC C40_31.eq_1 := rfl
def C40_32 : ACode := .seq C40_13 C40_31
theorem u40_32 : VC C40_32.eq_1 := rfl
def C40_33 : ACode := .seq C40_11 C40_32
theorem u40_33 : VC C40_33.eq_1 := rfl
def C40_34 : ACode := .seq (.reg L40_8) C40_33
theorem u40_34 : VC C40_34.eq_1 := rfl
def C40_35 : ACode := .seq (.reg L40_6) C40_34
theorem u40_35 : VC C40_35.eq_1 := rfl
def C40_36 : ACode := .seq (.reg L40_4) C40_35
theorem u40_36 : VC C40_36.eq_1 := rfl
def C40_37 : ACode := .seq (.reg L40_3) C40_36
theorem u40_37 : VC C40_37.eq_1 := rfl
def C40_38 : ACode := .seq (.reg L40_1) C40_37
theorem u40_38 : VC C40_38.eq_1 := rfl
def F40 : AFunc := ⟨148, [.cell 4 1 true, .tmp 5], C40_38⟩
theorem cF40 : compB Tryz.prog 40 = some F40 := by kernel_rfl
attribute [local go_sem ↓] u40_0 u40_1 u40_2 u40_3 u40_4 u40_5 u40_6 u40_7 u40_8 u40_9 u40_10 u40_11 u40_12 u40_13 u40_14 u40_15 u40_16 u40_17 u40_18 u40_19 u40_20 u40_21 u40_22 u40_23 u40_24 u40_25 u40_26 u40_27 u40_28 u40_29 u40_30 u40_31 u40_32 u40_33 u40_34 u40_35 u40_36 u40_37 u40_38 v40_0 v40_1 v40_2 v40_3 v40_4 v40_5 v40_6 v40_7 v40_8 v40_9 v40_10 v40_11 v40_12 v40_13 v40_14 v40_15 v40_16 v40_17 v40_18 v40_19 v40_20 v40_21 v40_22 v40_23 v40_24 v40_25 v40_26 v40_27 v40_28 v40_29 v40_30 v40_31 v40_32 v40_33 v40_34 v40_35 v40_36 v40_37 v40_38 v40_39 v40_40 v40_41 v40_42 v40_43 v40_44 v40_45 v40_46 v40_47 v40_48 v40_49 v40_50 v40_51 v40_52 v40_53 v40_54 v40_55 v40_56 v40_57 v40_58 v40_59 v40_60 v40_61 v40_62 v40_63 v40_64 v40_65 v40_66 v40_67 v40_68 v40_69 v40_70 v40_71 v40_72 v40_73 v40_74 v40_75 v40_76 v40_77 v40_78 v40_79 v40_80 v40_81 v40_82 v40_83 v40_84 v40_85 v40_86 v40_87 v40_88
theorem c_bound (l : List Param) (f : Flat) (q p n : CV) (h : H) (hl : SlQ h (.one q) l) (hf : SlF h p n f) (ok1 : okSig l = true) (ok2 : okFlat f = true) :
    callK (bm Tryz.prog 40 [.agg [q], .agg [p, n]] h) fun r h' => Grow h h' ∧ ∃ v w rs, r = .tup [.agg [v], .one w] ∧ BdY h h' v w rs (boundS l f) (boundB l f) := by
  refine bm_of cF40 ?_
  have o := Ord.of ok1
  have hn := okSig_len ok1
  obtain ⟨hb1, hb2, hb3⟩ := okFlat_sm ok2
  have sq : smQ l := ⟨by unfold big; omega, fun x hx => by have := okSig_name ok1 x hx; unfold big; omega⟩
  have pl0 := places_le (l := l)
  simp +contextual (maxSteps := 2000000) only [go_sem, Nat.reduceEqDiff, reduceCtorEq, Nat.reduceAdd, Nat.reduceLeDiff, F40]
  refine wp_call (c_emptyBinding l q h hl sq.1) ?_
  rintro r h1 ⟨g1, v, rfl, x0⟩
  have k1 := hl.grow g1
  simp +contextual (maxSteps := 2000000) only [go_sem, Nat.reduceEqDiff, reduceCtorEq, Nat.reduceAdd, Nat.reduceLeDiff]
  refine wp_lit (enc := encB) (k := 2) (l := []) rfl rfl ?_
  intro h2 w g2 n2 _
  obtain ⟨w, rfl⟩ := n2.one
  have k2 := k1.grow g2
  simp +contextual (maxSteps := 2000000) only [go_sem, Nat.reduceEqDiff, reduceCtorEq, Nat.reduceAdd, Nat.reduceLeDiff, c_placeCount _ _ _ k2 sq, c_kindAt _ _ _ _ k2 sq]
  have ep : (l.countP byPlace : Nat) = places l := rfl
  rw [ep]
  have z0 : BdY h h2 v w (List.replicate l.length zeroR) (bindPl l (f.pl.take 0)) [] := by
    rw [List.take_zero, bindPl_nil]
    exact ⟨x0.grow g2, n2.from g1.n, fun i hi hj => by have := (n2.lt hi).2; have := (x0.out.out.lt hj).1; omega, fun i hi => by rw [List.getElem_replicate]; exact Sep.nil.symm, fun i hi => by rw [List.getElem_replicate]; exact Sep.nil.symm⟩
  refine wpC_loop (fun i T L h' => Grow h h' ∧ T 2 = .lp 2 0 ∧ (L 2).2 = [q] ∧ T 3 = .lp 3 0 ∧ (L 3).2 = [p, n] ∧ T 4 = .lp 4 0 ∧ (L 4).2 = [.sl none 0 (some 0)] ∧ T 6 = .lp 6 0 ∧ (L 6).2 = [v] ∧ T 7 = .v (.one w) ∧ T 8 = .v (.one (.int .i64 (places l : Nat))) ∧ T 9 = .v (.one (.int .i64 (kindAt l 2))) ∧ T 10 = .v (.one (.int .i64 i)) ∧ ∃ rs, BdY h h' v w rs (bindPl l (f.pl.take i)) []) f.pl.length ?_ ?_ (Nat.zero_le _) ?_
  · rintro i T L h' hi ⟨gg, t2, l2, t3, l3, t4, l4, t6, l6, t7, t8, t9, t10, rs, x⟩
    have k := hf.grow gg
    have hrs : rs.length = l.length := x.len.trans bindPl_len
    by_cases hp : i < places l
    · have hio : i < rs.length := by omega
      have yi := x.sl.out.out.iaddr hio (kd := .i64)
      simp +contextual (maxSteps := 2000000) only [go_sem, Nat.reduceEqDiff, reduceCtorEq, Nat.reduceAdd, Nat.reduceLeDiff, t2, l2, t3, l3, t4, l4, t6, l6, t7, t8, t9, t10, k.pl.len, k.pl.iaddr hi, k.pl.oneO hi, lt_true hi, lt_true hp, yi]
      refine wp_lit (enc := encI) (k := 1) (l := [f.pl[i]]) rfl rfl ?_
      intro h3 w3 g3 n3 b3
      obtain ⟨d, rfl⟩ := n3.one
      simp +contextual (maxSteps := 2000000) only [go_sem, Nat.reduceEqDiff, reduceCtorEq, Nat.reduceAdd, Nat.reduceLeDiff, t2, l2, t3, l3, t4, l4, t6, l6, t7, t8, t9, t10, yi]
      refine wp_setE (x := ⟨true, d, .sl none 0 (some 0)⟩) lenY (x.sl.out.out.grow g3) hio rfl rfl (gg.trans g3) ?_
      intro h4 g4 n4 s4
      simp +contextual (maxSteps := 2000000) only [go_sem, Nat.reduceEqDiff, reduceCtorEq, Nat.reduceAdd, Nat.reduceLeDiff, t2, l2, t3, l3, t4, l4, t6, l6, t7, t8, t9, t10]
      rw [bindPl_place o hp hi]
      exact ⟨g4, by rw [wrap_next hi (by omega)], _, x.put hio g3 ⟨rfl, n3, .nil⟩ Sep.nil.symm n4 s4 gg.n⟩
    · have d1 : decide ((i : Int) < (places l : Nat)) = false := decide_eq_false (by omega)
      cases hr : hasRest l with
      | false =>
        have d2 : decide (kindAt l 2 ≥ 0) = false := hr
        simp +contextual (maxSteps := 2000000) only [go_sem, Nat.reduceEqDiff, reduceCtorEq, Nat.reduceAdd, Nat.reduceLeDiff, t2, l2, t3, l3, t4, l4, t6, l6, t7, t8, t9, t10, k.pl.len, lt_true hi, d1, d2]
        rw [bindPl_over o hp hi hr]
        exact ⟨gg, by rw [wrap_next hi (by omega)], _, x⟩
      | true =>
        obtain ⟨r0, r1, r2⟩ := o.rest_at hr
        have hio : places l < rs.length := by omega
        have hpb : places l < (bindPl l (f.pl.take i)).length := by rw [bindPl_len]; exact r0
        have yi := x.sl.out.out.iaddr hio (kd := .i64)
        have y1 := (x.sl.out.out.sl lenY).fieldO (off := 1) hio (by omega)
        rw [encY_1] at y1
        have d2 : decide (((places l : Nat) : Int) ≥ 0) = true := decide_eq_true (by omega)
        rw [r2] at t9
        have hlen : (bindPl l (f.pl.take i))[places l].list.length ≤ i := by rw [bindPl_at, slotPl_rest r0 r1]; simp; omega
        simp +contextual (maxSteps := 2000000) only [go_sem, Nat.reduceEqDiff, reduceCtorEq, Nat.reduceAdd, Nat.reduceLeDiff, t2, l2, t3, l3, t4, l4, t6, l6, t7, t8, t9, t10, k.pl.len, k.pl.iaddr hi, k.pl.oneO hi, lt_true hi, d1, d2, yi, y1]
        refine wp_lit (enc := encI) (k := 1) (l := [f.pl[i]]) rfl rfl ?_
        intro h3 w3 g3 n3 b3
        simp +contextual (maxSteps := 2000000) only [go_sem, Nat.reduceEqDiff, reduceCtorEq, Nat.reduceAdd, Nat.reduceLeDiff, t2, l2, t3, l3, t4, l4, t6, l6, t7, t8, t9, t10]
        refine wp_append lenI ((x.sl.at hio hpb).list.grow g3) (n3.sl lenI) (gg.trans g3) (by simp; omega) ?_
        intro h4 s4 g4 n4 st4 hb4
        obtain ⟨c4, rfl⟩ := n4.one
        simp +contextual (maxSteps := 2000000) only [go_sem, Nat.reduceEqDiff, reduceCtorEq, Nat.reduceAdd, Nat.reduceLeDiff, t2, l2, t3, l3, t4, l4, t6, l6, t7, t8, t9, t10, yi]
        refine wp_set (x := { rs[places l] with lv := c4 }) (off := 1) (vs := [c4]) lenY ((x.sl.out.out.grow g3).stay st4 (x.sl.out.vlv _ hio)) hio rfl rfl (Nat.le_of_ble_eq_true rfl) g4 ?_
        intro h5 g5 n5 s5
        simp +contextual (maxSteps := 2000000) only [go_sem, Nat.reduceEqDiff, reduceCtorEq, Nat.reduceAdd, Nat.reduceLeDiff, t2, l2, t3, l3, t4, l4, t6, l6, t7, t8, t9, t10]
        rw [bindPl_rest o hp hi hr hpb]
        exact ⟨g5, by rw [r2], by rw [wrap_next hi (by omega)], _, (x.grow g3).app_list hio hpb n4 st4 hb4 n5 s5⟩
  · rintro T L h' ⟨gg, t2, l2, t3, l3, t4, l4, t6, l6, t7, t8, t9, t10, rs, x⟩
    have k := hf.grow gg
    rw [List.take_length] at x
    by_cases hm : places l < f.pl.length
    · have d1 : decide ((f.pl.length : Int) > (places l : Nat)) = true := decide_eq_true (by omega)
      cases hr : hasRest l with
      | true =>
        obtain ⟨r0, r1, r2⟩ := o.rest_at hr
        have d2 : decide (kindAt l 2 < 0) = false := decide_eq_false (by omega)
        have em : manyB l f.pl = [] := by unfold manyB; rw [if_neg (by simp [hr])]
        rw [← em] at x
        simp +contextual (maxSteps := 2000000) only [go_sem, Nat.reduceEqDiff, reduceCtorEq, Nat.reduceAdd, Nat.reduceLeDiff, t2, l2, t3, l3, t4, l4, t6, l6, t7, t8, t9, t10, k.pl.len, lt_false, d1, d2]
        refine wpC_loop (fun i T L h' => Grow h h' ∧ T 2 = .lp 2 0 ∧ (L 2).2 = [q] ∧ T 3 = .lp 3 0 ∧ (L 3).2 = [p, n] ∧ T 4 = .lp 4 0 ∧ (L 4).2 = [.sl none 0 (some 0)] ∧ T 6 = .lp 6 0 ∧ (L 6).2 = [v] ∧ (∃ w rs, T 7 = .v (.one w) ∧ BdY h h' v w rs (nameF l f i).slots (nameF l f i).bad) ∧ T 11 = .v (.one (.int .i64 i))) f.nl.length ?_ ?_ (Nat.zero_le _) ?_
        · rintro i T L h' hi ⟨gg, t2, l2, t3, l3, t4, l4, t6, l6, ⟨w, rs, t7, x⟩, tx⟩
          have k := hf.grow gg
          have kl := hl.grow gg
          have ok := BOk.nameF (l := l) (f := f) hb3 (i := i) (by omega)
          have hrs : rs.length = l.length := x.len.trans ok.len
          have tk := c_takesName l q f.nl[i].name h' kl sq
          rw [nameF_next hi]
          rcases takes_cases l f.nl[i].name with e | ⟨j, hj, e⟩
          · rw [nameStep_no e]
            rw [e] at tk
            simp +contextual (maxSteps := 2000000) only [go_sem, Nat.reduceEqDiff, reduceCtorEq, Nat.reduceAdd, Nat.reduceLeDiff, t2, l2, t3, l3, t4, l4, t6, l6, t7, tx, k.nl.len, k.nl.iaddr hi, k.nl.whole hi, encP, lt_true hi, tk]
            refine wp_lit (enc := encB) (k := 2) (l := [⟨1, f.nl[i].name⟩]) rfl rfl ?_
            intro h3 w3 g3 n3 _
            simp +contextual (maxSteps := 2000000) only [go_sem, Nat.reduceEqDiff, reduceCtorEq, Nat.reduceAdd, Nat.reduceLeDiff, t2, l2, t3, l3, t4, l4, t6, l6, t7, tx]
            refine wp_append lenB (x.pr.grow g3) (n3.sl lenB) (gg.trans g3) (by have := ok.bad; simp; omega) ?_
            intro h4 s4 g4 n4 st4 hb4
            obtain ⟨c4, rfl⟩ := n4.one
            simp +contextual (maxSteps := 2000000) only [go_sem, Nat.reduceEqDiff, reduceCtorEq, Nat.reduceAdd, Nat.reduceLeDiff, t2, l2, t3, l3, t4, l4, t6, l6, t7, tx]
            exact ⟨g4, ⟨c4, rs, rfl, (x.grow g3).push n4 st4 hb4⟩, by rw [wrap_next hi (by omega)]⟩
          · rw [e] at tk
            have hs : j < (nameF l f i).slots.length := by rw [ok.len]; exact hj
            have hio : j < rs.length := by omega
            have z := x.sl.at hio hs
            have yi := x.sl.out.out.iaddr hio (kd := .i64)
            have y0 := (x.sl.out.out.sl lenY).fieldO (off := 0) hio (by omega)
            have y2 := (x.sl.out.out.sl lenY).fieldO (off := 2) hio (by omega)
            rw [encY_0] at y0
            rw [encY_2] at y2
            have dj : decide ((j : Int) < 0) = false := decide_eq_false (by omega)
            by_cases kk : l[j].kind = 4
            · rw [nameStep_map e hj hs kk]
              have dk : decide (l[j].kind = 4) = true := decide_eq_true kk
              simp +contextual (maxSteps := 2000000) only [go_sem, Nat.reduceEqDiff, reduceCtorEq, Nat.reduceAdd, Nat.reduceLeDiff, t2, l2, t3, l3, t4, l4, t6, l6, t7, tx, k.nl.len, k.nl.iaddr hi, k.nl.whole hi, encP, lt_true hi, tk, dj, kl.iaddr hj, kl.fieldO hj, dk, yi, y2]
              refine wp_lit (enc := encP) (k := 2) (l := [f.nl[i]]) rfl rfl ?_
              intro h3 w3 g3 n3 _
              simp +contextual (maxSteps := 2000000) only [go_sem, Nat.reduceEqDiff, reduceCtorEq, Nat.reduceAdd, Nat.reduceLeDiff, t2, l2, t3, l3, t4, l4, t6, l6, t7, tx]
              refine wp_append lenP (z.pairs.grow g3) (n3.sl lenP) (gg.trans g3) (by have := ok.pairs _ (List.getElem_mem hs); simp; omega) ?_
              intro h4 s4 g4 n4 st4 hb4
              obtain ⟨c4, rfl⟩ := n4.one
              simp +contextual (maxSteps := 2000000) only [go_sem, Nat.reduceEqDiff, reduceCtorEq, Nat.reduceAdd, Nat.reduceLeDiff, t2, l2, t3, l3, t4, l4, t6, l6, t7, tx, yi]
              refine wp_set (x := { rs[j] with pv := c4 }) (off := 2) (vs := [c4]) lenY ((x.sl.out.out.grow g3).stay st4 (x.sl.out.vpv _ hio)) hio rfl rfl (Nat.le_of_ble_eq_true rfl) g4 ?_
              intro h5 g5 n5 s5
              simp +contextual (maxSteps := 2000000) only [go_sem, Nat.reduceEqDiff, reduceCtorEq, Nat.reduceAdd, Nat.reduceLeDiff, t2, l2, t3, l3, t4, l4, t6, l6, t7, tx]
              exact ⟨g5, ⟨w, _, rfl, (x.grow g3).app_pairs hio hs n4 st4 hb4 n5 s5⟩, by rw [wrap_next hi (by omega)]⟩
            · have dk : decide (l[j].kind = 4) = false := decide_eq_false kk
              cases b : (nameF l f i).slots[j].given with
              | true =>
                rw [nameStep_twice e hj hs kk b]
                rw [z.given, b] at y0
                simp +contextual (maxSteps := 2000000) only [go_sem, Nat.reduceEqDiff, reduceCtorEq, Nat.reduceAdd, Nat.reduceLeDiff, t2, l2, t3, l3, t4, l4, t6, l6, t7, tx, k.nl.len, k.nl.iaddr hi, k.nl.whole hi, encP, lt_true hi, tk, dj, kl.iaddr hj, kl.fieldO hj, dk, yi, y0]
                refine wp_lit (enc := encB) (k := 2) (l := [⟨2, f.nl[i].name⟩]) rfl rfl ?_
                intro h3 w3 g3 n3 _
                simp +contextual (maxSteps := 2000000) only [go_sem, Nat.reduceEqDiff, reduceCtorEq, Nat.reduceAdd, Nat.reduceLeDiff, t2, l2, t3, l3, t4, l4, t6, l6, t7, tx]
                refine wp_append lenB (x.pr.grow g3) (n3.sl lenB) (gg.trans g3) (by have := ok.bad; simp; omega) ?_
                intro h4 s4 g4 n4 st4 hb4
                obtain ⟨c4, rfl⟩ := n4.one
                simp +contextual (maxSteps := 2000000) only [go_sem, Nat.reduceEqDiff, reduceCtorEq, Nat.reduceAdd, Nat.reduceLeDiff, t2, l2, t3, l3, t4, l4, t6, l6, t7, tx]
                exact ⟨g4, ⟨c4, rs, rfl, (x.grow g3).push n4 st4 hb4⟩, by rw [wrap_next hi (by omega)]⟩
              | false =>
                rw [nameStep_give e hj hs kk b]
                rw [z.given, b] at y0
                simp +contextual (maxSteps := 2000000) only [go_sem, Nat.reduceEqDiff, reduceCtorEq, Nat.reduceAdd, Nat.reduceLeDiff, t2, l2, t3, l3, t4, l4, t6, l6, t7, tx, k.nl.len, k.nl.iaddr hi, k.nl.whole hi, encP, lt_true hi, tk, dj, kl.iaddr hj, kl.fieldO hj, dk, yi, y0]
                refine wp_lit (enc := encI) (k := 1) (l := [f.nl[i].value]) rfl rfl ?_
                intro h3 w3 g3 n3 b3
                obtain ⟨d, rfl⟩ := n3.one
                simp +contextual (maxSteps := 2000000) only [go_sem, Nat.reduceEqDiff, reduceCtorEq, Nat.reduceAdd, Nat.reduceLeDiff, t2, l2, t3, l3, t4, l4, t6, l6, t7, tx, yi]
                refine wp_setE (x := ⟨true, d, .sl none 0 (some 0)⟩) lenY (x.sl.out.out.grow g3) hio rfl rfl (gg.trans g3) ?_
                intro h4 g4 n4 s4
                simp +contextual (maxSteps := 2000000) only [go_sem, Nat.reduceEqDiff, reduceCtorEq, Nat.reduceAdd, Nat.reduceLeDiff, t2, l2, t3, l3, t4, l4, t6, l6, t7, tx]
                exact ⟨g4, ⟨w, _, rfl, x.put hio g3 ⟨rfl, n3, .nil⟩ Sep.nil.symm n4 s4 gg.n⟩, by rw [wrap_next hi (by omega)]⟩
        · rintro T L h' ⟨gg, t2, l2, t3, l3, t4, l4, t6, l6, ⟨w, rs, t7, x⟩, tx⟩
          have k := hf.grow gg
          simp +contextual (maxSteps := 2000000) only [go_sem, Nat.reduceEqDiff, reduceCtorEq, Nat.reduceAdd, Nat.reduceLeDiff, t2, l2, t3, l3, t4, l4, t6, l6, t7, tx, k.nl.len, lt_false]
          exact gcK_of ⟨gg, _, _, _, rfl, x⟩ (fun hs _ => by
            simp only [AV.scalar, AV.scalars, List.all_cons, List.all_nil, Bool.and_true, Bool.and_eq_true] at hs
            exact ⟨Grow.refl h, _, _, _, rfl, x.scalar hs.1 hs.2 h⟩)
        · simp +contextual (maxSteps := 2000000) only [go_sem, Nat.reduceEqDiff, reduceCtorEq, Nat.reduceAdd, Nat.reduceLeDiff, t2, l2, t3, l3, t4, l4, t6, l6, t7]
          rw [nameF_zero]
          exact ⟨gg, ⟨w, rs, rfl, x⟩, rfl⟩
      | false =>
        have d2 : decide (kindAt l 2 < 0) = true := by
          unfold hasRest at hr
          have := of_decide_eq_false hr
          exact decide_eq_true (by omega)
        have em : manyB l f.pl = [⟨0, strOfNums []⟩] := by unfold manyB; rw [if_pos ⟨hm, hr⟩]
        simp +contextual (maxSteps := 2000000) only [go_sem, Nat.reduceEqDiff, reduceCtorEq, Nat.reduceAdd, Nat.reduceLeDiff, t2, l2, t3, l3, t4, l4, t6, l6, t7, t8, t9, t10, k.pl.len, lt_false, d1, d2]
        refine wp_lit (enc := encB) (k := 2) (l := [⟨0, strOfNums []⟩]) rfl rfl ?_
        intro h3 w3 g3 n3 _
        simp +contextual (maxSteps := 2000000) only [go_sem, Nat.reduceEqDiff, reduceCtorEq, Nat.reduceAdd, Nat.reduceLeDiff, t2, l2, t3, l3, t4, l4, t6, l6, t7, t8, t9, t10]
        refine wp_append lenB (x.pr.grow g3) (n3.sl lenB) (gg.trans g3) (by simp) ?_
        intro h4 s4 g4 n4 st4 hb4
        obtain ⟨c4, rfl⟩ := n4.one
        have x := (x.grow g3).push n4 st4 hb4
        rw [List.nil_append, ← em] at x
        simp +contextual (maxSteps := 2000000) only [go_sem, Nat.reduceEqDiff, reduceCtorEq, Nat.reduceAdd, Nat.reduceLeDiff, t2, l2, t3, l3, t4, l4, t6, l6, t7, t8, t9, t10]
        refine wpC_loop (fun i T L h' => Grow h h' ∧ T 2 = .lp 2 0 ∧ (L 2).2 = [q] ∧ T 3 = .lp 3 0 ∧ (L 3).2 = [p, n] ∧ T 4 = .lp 4 0 ∧ (L 4).2 = [.sl none 0 (some 0)] ∧ T 6 = .lp 6 0 ∧ (L 6).2 = [v] ∧ (∃ w rs, T 7 = .v (.one w) ∧ BdY h h' v w rs (nameF l f i).slots (nameF l f i).bad) ∧ T 11 = .v (.one (.int .i64 i))) f.nl.length ?_ ?_ (Nat.zero_le _) ?_
        · rintro i T L h' hi ⟨gg, t2, l2, t3, l3, t4, l4, t6, l6, ⟨w, rs, t7, x⟩, tx⟩
          have k := hf.grow gg
          have kl := hl.grow gg
          have ok := BOk.nameF (l := l) (f := f) hb3 (i := i) (by omega)
          have hrs : rs.length = l.length := x.len.trans ok.len
          have tk := c_takesName l q f.nl[i].name h' kl sq
          rw [nameF_next hi]
          rcases takes_cases l f.nl[i].name with e | ⟨j, hj, e⟩
          · rw [nameStep_no e]
            rw [e] at tk
            simp +contextual (maxSteps := 2000000) only [go_sem, Nat.reduceEqDiff, reduceCtorEq, Nat.reduceAdd, Nat.reduceLeDiff, t2, l2, t3, l3, t4, l4, t6, l6, t7, tx, k.nl.len, k.nl.iaddr hi, k.nl.whole hi, encP, lt_true hi, tk]
            refine wp_lit (enc := encB) (k := 2) (l := [⟨1, f.nl[i].name⟩]) rfl rfl ?_
            intro h3 w3 g3 n3 _
            simp +contextual (maxSteps := 2000000) only [go_sem, Nat.reduceEqDiff, reduceCtorEq, Nat.reduceAdd, Nat.reduceLeDiff, t2, l2, t3, l3, t4, l4, t6, l6, t7, tx]
            refine wp_append lenB (x.pr.grow g3) (n3.sl lenB) (gg.trans g3) (by have := ok.bad; simp; omega) ?_
            intro h4 s4 g4 n4 st4 hb4
            obtain ⟨c4, rfl⟩ := n4.one
            simp +contextual (maxSteps := 2000000) only [go_sem, Nat.reduceEqDiff, reduceCtorEq, Nat.reduceAdd, Nat.reduceLeDiff, t2, l2, t3, l3, t4, l4, t6, l6, t7, tx]
            exact ⟨g4, ⟨c4, rs, rfl, (x.grow g3).push n4 st4 hb4⟩, by rw [wrap_next hi (by omega)]⟩
          · rw [e] at tk
            have hs : j < (nameF l f i).slots.length := by rw [ok.len]; exact hj
            have hio : j < rs.length := by omega
            have z := x.sl.at hio hs
            have yi := x.sl.out.out.iaddr hio (kd := .i64)
            have y0 := (x.sl.out.out.sl lenY).fieldO (off := 0) hio (by omega)
            have y2 := (x.sl.out.out.sl lenY).fieldO (off := 2) hio (by omega)
            rw [encY_0] at y0
            rw [encY_2] at y2
            have dj : decide ((j : Int) < 0) = false := decide_eq_false (by omega)
            by_cases kk : l[j].kind = 4
            · rw [nameStep_map e hj hs kk]
              have dk : decide (l[j].kind = 4) = true := decide_eq_true kk
              simp +contextual (maxSteps := 2000000) only [go_sem, Nat.reduceEqDiff, reduceCtorEq, Nat.reduceAdd, Nat.reduceLeDiff, t2, l2, t3, l3, t4, l4, t6, l6, t7, tx, k.nl.len, k.nl.iaddr hi, k.nl.whole hi, encP, lt_true hi, tk, dj, kl.iaddr hj, kl.fieldO hj, dk, yi, y2]
              refine wp_lit (enc := encP) (k := 2) (l := [f.nl[i]]) rfl rfl ?_
              intro h3 w3 g3 n3 _
              simp +contextual (maxSteps := 2000000) only [go_sem, Nat.reduceEqDiff, reduceCtorEq, Nat.reduceAdd, Nat.reduceLeDiff, t2, l2, t3, l3, t4, l4, t6, l6, t7, tx]
              refine wp_append lenP (z.pairs.grow g3) (n3.sl lenP) (gg.trans g3) (by have := ok.pairs _ (List.getElem_mem hs); simp; omega) ?_
              intro h4 s4 g4 n4 st4 hb4
              obtain ⟨c4, rfl⟩ := n4.one
              simp +contextual (maxSteps := 2000000) only [go_sem, Nat.reduceEqDiff, reduceCtorEq, Nat.reduceAdd, Nat.reduceLeDiff, t2, l2, t3, l3, t4, l4, t6, l6, t7, tx, yi]
              refine wp_set (x := { rs[j] with pv := c4 }) (off := 2) (vs := [c4]) lenY ((x.sl.out.out.grow g3).stay st4 (x.sl.out.vpv _ hio)) hio rfl rfl (Nat.le_of_ble_eq_true rfl) g4 ?_
              intro h5 g5 n5 s5
              simp +contextual (maxSteps := 2000000) only [go_sem, Nat.reduceEqDiff, reduceCtorEq, Nat.reduceAdd, Nat.reduceLeDiff, t2, l2, t3, l3, t4, l4, t6, l6, t7, tx]
              exact ⟨g5, ⟨w, _, rfl, (x.grow g3).app_pairs hio hs n4 st4 hb4 n5 s5⟩, by rw [wrap_next hi (by omega)]⟩
            · have dk : decide (l[j].kind = 4) = false := decide_eq_false kk
              cases b : (nameF l f i).slots[j].given with
              | true =>
                rw [nameStep_twice e hj hs kk b]
                rw [z.given, b] at y0
                simp +contextual (maxSteps := 2000000) only [go_sem, Nat.reduceEqDiff, reduceCtorEq, Nat.reduceAdd, Nat.reduceLeDiff, t2, l2, t3, l3, t4, l4, t6, l6, t7, tx, k.nl.len, k.nl.iaddr hi, k.nl.whole hi, encP, lt_true hi, tk, dj, kl.iaddr hj, kl.fieldO hj, dk, yi, y0]
                refine wp_lit (enc := encB) (k := 2) (l := [⟨2, f.nl[i].name⟩]) rfl rfl ?_
                intro h3 w3 g3 n3 _
                simp +contextual (maxSteps := 2000000) only [go_sem, Nat.reduceEqDiff, reduceCtorEq, Nat.reduceAdd, Nat.reduceLeDiff, t2, l2, t3, l3, t4, l4, t6, l6, t7, tx]
                refine wp_append lenB (x.pr.grow g3) (n3.sl lenB) (gg.trans g3) (by have := ok.bad; simp; omega) ?_
                intro h4 s4 g4 n4 st4 hb4
                obtain ⟨c4, rfl⟩ := n4.one
                simp +contextual (maxSteps := 2000000) only [go_sem, Nat.reduceEqDiff, reduceCtorEq, Nat.reduceAdd, Nat.reduceLeDiff, t2, l2, t3, l3, t4, l4, t6, l6, t7, tx]
                exact ⟨g4, ⟨c4, rs, rfl, (x.grow g3).push n4 st4 hb4⟩, by rw [wrap_next hi (by omega)]⟩
              | false =>
                rw [nameStep_give e hj hs kk b]
                rw [z.given, b] at y0
                simp +contextual (maxSteps := 2000000) only [go_sem, Nat.reduceEqDiff, reduceCtorEq, Nat.reduceAdd, Nat.reduceLeDiff, t2, l2, t3, l3, t4, l4, t6, l6, t7, tx, k.nl.len, k.nl.iaddr hi, k.nl.whole hi, encP, lt_true hi, tk, dj, kl.iaddr hj, kl.fieldO hj, dk, yi, y0]
                refine wp_lit (enc := encI) (k := 1) (l := [f.nl[i].value]) rfl rfl ?_
                intro h3 w3 g3 n3 b3
                obtain ⟨d, rfl⟩ := n3.one
                simp +contextual (maxSteps := 2000000) only [go_sem, Nat.reduceEqDiff, reduceCtorEq, Nat.reduceAdd, Nat.reduceLeDiff, t2, l2, t3, l3, t4, l4, t6, l6, t7, tx, yi]
                refine wp_setE (x := ⟨true, d, .sl none 0 (some 0)⟩) lenY (x.sl.out.out.grow g3) hio rfl rfl (gg.trans g3) ?_
                intro h4 g4 n4 s4
                simp +contextual (maxSteps := 2000000) only [go_sem, Nat.reduceEqDiff, reduceCtorEq, Nat.reduceAdd, Nat.reduceLeDiff, t2, l2, t3, l3, t4, l4, t6, l6, t7, tx]
                exact ⟨g4, ⟨w, _, rfl, x.put hio g3 ⟨rfl, n3, .nil⟩ Sep.nil.symm n4 s4 gg.n⟩, by rw [wrap_next hi (by omega)]⟩
        · rintro T L h' ⟨gg, t2, l2, t3, l3, t4, l4, t6, l6, ⟨w, rs, t7, x⟩, tx⟩
          have k := hf.grow gg
          simp +contextual (maxSteps := 2000000) only [go_sem, Nat.reduceEqDiff, reduceCtorEq, Nat.reduceAdd, Nat.reduceLeDiff, t2, l2, t3, l3, t4, l4, t6, l6, t7, tx, k.nl.len, lt_false]
          exact gcK_of ⟨gg, _, _, _, rfl, x⟩ (fun hs _ => by
            simp only [AV.scalar, AV.scalars, List.all_cons, List.all_nil, Bool.and_true, Bool.and_eq_true] at hs
            exact ⟨Grow.refl h, _, _, _, rfl, x.scalar hs.1 hs.2 h⟩)
        · simp +contextual (maxSteps := 2000000) only [go_sem, Nat.reduceEqDiff, reduceCtorEq, Nat.reduceAdd, Nat.reduceLeDiff, t2, l2, t3, l3, t4, l4, t6, l6, t7]
          rw [nameF_zero]
          exact ⟨g4, ⟨c4, rs, rfl, x⟩, rfl⟩
    · have d1 : decide ((f.pl.length : Int) > (places l : Nat)) = false := decide_eq_false (by omega)
      have em : manyB l f.pl = [] := by unfold manyB; rw [if_neg (by omega)]
      rw [← em] at x
      simp +contextual (maxSteps := 2000000) only [go_sem, Nat.reduceEqDiff, reduceCtorEq, Nat.reduceAdd, Nat.reduceLeDiff, t2, l2, t3, l3, t4, l4, t6, l6, t7, t8, t9, t10, k.pl.len, lt_false, d1]
      refine wpC_loop (fun i T L h' => Grow h h' ∧ T 2 = .lp 2 0 ∧ (L 2).2 = [q] ∧ T 3 = .lp 3 0 ∧ (L 3).2 = [p, n] ∧ T 4 = .lp 4 0 ∧ (L 4).2 = [.sl none 0 (some 0)] ∧ T 6 = .lp 6 0 ∧ (L 6).2 = [v] ∧ (∃ w rs, T 7 = .v (.one w) ∧ BdY h h' v w rs (nameF l f i).slots (nameF l f i).bad) ∧ T 11 = .v (.one (.int .i64 i))) f.nl.length ?_ ?_ (Nat.zero_le _) ?_
      · rintro i T L h' hi ⟨gg, t2, l2, t3, l3, t4, l4, t6, l6, ⟨w, rs, t7, x⟩, tx⟩
        have k := hf.grow gg
        have kl := hl.grow gg
        have ok := BOk.nameF (l := l) (f := f) hb3 (i := i) (by omega)
        have hrs : rs.length = l.length := x.len.trans ok.len
        have tk := c_takesName l q f.nl[i].name h' kl sq
        rw [nameF_next hi]
        rcases takes_cases l f.nl[i].name with e | ⟨j, hj, e⟩
        · rw [nameStep_no e]
          rw [e] at tk
          simp +contextual (maxSteps := 2000000) only [go_sem, Nat.reduceEqDiff, reduceCtorEq, Nat.reduceAdd, Nat.reduceLeDiff, t2, l2, t3, l3, t4, l4, t6, l6, t7, tx, k.nl.len, k.nl.iaddr hi, k.nl.whole hi, encP, lt_true hi, tk]
          refine wp_lit (enc := encB) (k := 2) (l := [⟨1, f.nl[i].name⟩]) rfl rfl ?_
          intro h3 w3 g3 n3 _
          simp +contextual (maxSteps := 2000000) only [go_sem, Nat.reduceEqDiff, reduceCtorEq, Nat.reduceAdd, Nat.reduceLeDiff, t2, l2, t3, l3, t4, l4, t6, l6, t7, tx]
          refine wp_append lenB (x.pr.grow g3) (n3.sl lenB) (gg.trans g3) (by have := ok.bad; simp; omega) ?_
          intro h4 s4 g4 n4 st4 hb4
          obtain ⟨c4, rfl⟩ := n4.one
          simp +contextual (maxSteps := 2000000) only [go_sem, Nat.reduceEqDiff, reduceCtorEq, Nat.reduceAdd, Nat.reduceLeDiff, t2, l2, t3, l3, t4, l4, t6, l6, t7, tx]
          exact ⟨g4, ⟨c4, rs, rfl, (x.grow g3).push n4 st4 hb4⟩, by rw [wrap_next hi (by omega)]⟩
        · rw [e] at tk
          have hs : j < (nameF l f i).slots.length := by rw [ok.len]; exact hj
          have hio : j < rs.length := by omega
          have z := x.sl.at hio hs
          have yi := x.sl.out.out.iaddr hio (kd := .i64)
          have y0 := (x.sl.out.out.sl lenY).fieldO (off := 0) hio (by omega)
          have y2 := (x.sl.out.out.sl lenY).fieldO (off := 2) hio (by omega)
          rw [encY_0] at y0
          rw [encY_2] at y2
          have dj : decide ((j : Int) < 0) = false := decide_eq_false (by omega)
          by_cases kk : l[j].kind = 4
          · rw [nameStep_map e hj hs kk]
            have dk : decide (l[j].kind = 4) = true := decide_eq_true kk
            simp +contextual (maxSteps := 2000000) only [go_sem, Nat.reduceEqDiff, reduceCtorEq, Nat.reduceAdd, Nat.reduceLeDiff, t2, l2, t3, l3, t4, l4, t6, l6, t7, tx, k.nl.len, k.nl.iaddr hi, k.nl.whole hi, encP, lt_true hi, tk, dj, kl.iaddr hj, kl.fieldO hj, dk, yi, y2]
            refine wp_lit (enc := encP) (k := 2) (l := [f.nl[i]]) rfl rfl ?_
            intro h3 w3 g3 n3 _
            simp +contextual (maxSteps := 2000000) only [go_sem, Nat.reduceEqDiff, reduceCtorEq, Nat.reduceAdd, Nat.reduceLeDiff, t2, l2, t3, l3, t4, l4, t6, l6, t7, tx]
            refine wp_append lenP (z.pairs.grow g3) (n3.sl lenP) (gg.trans g3) (by have := ok.pairs _ (List.getElem_mem hs); simp; omega) ?_
            intro h4 s4 g4 n4 st4 hb4
            obtain ⟨c4, rfl⟩ := n4.one
            simp +contextual (maxSteps := 2000000) only [go_sem, Nat.reduceEqDiff, reduceCtorEq, Nat.reduceAdd, Nat.reduceLeDiff, t2, l2, t3, l3, t4, l4, t6, l6, t7, tx, yi]
            refine wp_set (x := { rs[j] with pv := c4 }) (off := 2) (vs := [c4]) lenY ((x.sl.out.out.grow g3).stay st4 (x.sl.out.vpv _ hio)) hio rfl rfl (Nat.le_of_ble_eq_true rfl) g4 ?_
            intro h5 g5 n5 s5
            simp +contextual (maxSteps := 2000000) only [go_sem, Nat.reduceEqDiff, reduceCtorEq, Nat.reduceAdd, Nat.reduceLeDiff, t2, l2, t3, l3, t4, l4, t6, l6, t7, tx]
            exact ⟨g5, ⟨w, _, rfl, (x.grow g3).app_pairs hio hs n4 st4 hb4 n5 s5⟩, by rw [wrap_next hi (by omega)]⟩
          · have dk : decide (l[j].kind = 4) = false := decide_eq_false kk
            cases b : (nameF l f i).slots[j].given with
            | true =>
              rw [nameStep_twice e hj hs kk b]
              rw [z.given, b] at y0
              simp +contextual (maxSteps := 2000000) only [go_sem, Nat.reduceEqDiff, reduceCtorEq, Nat.reduceAdd, Nat.reduceLeDiff, t2, l2, t3, l3, t4, l4, t6, l6, t7, tx, k.nl.len, k.nl.iaddr hi, k.nl.whole hi, encP, lt_true hi, tk, dj, kl.iaddr hj, kl.fieldO hj, dk, yi, y0]
              refine wp_lit (enc := encB) (k := 2) (l := [⟨2, f.nl[i].name⟩]) rfl rfl ?_
              intro h3 w3 g3 n3 _
              simp +contextual (maxSteps := 2000000) only [go_sem, Nat.reduceEqDiff, reduceCtorEq, Nat.reduceAdd, Nat.reduceLeDiff, t2, l2, t3, l3, t4, l4, t6, l6, t7, tx]
              refine wp_append lenB (x.pr.grow g3) (n3.sl lenB) (gg.trans g3) (by have := ok.bad; simp; omega) ?_
              intro h4 s4 g4 n4 st4 hb4
              obtain ⟨c4, rfl⟩ := n4.one
              simp +contextual (maxSteps := 2000000) only [go_sem, Nat.reduceEqDiff, reduceCtorEq, Nat.reduceAdd, Nat.reduceLeDiff, t2, l2, t3, l3, t4, l4, t6, l6, t7, tx]
              exact ⟨g4, ⟨c4, rs, rfl, (x.grow g3).push n4 st4 hb4⟩, by rw [wrap_next hi (by omega)]⟩
            | false =>
              rw [nameStep_give e hj hs kk b]
              rw [z.given, b] at y0
              simp +contextual (maxSteps := 2000000) only [go_sem, Nat.reduceEqDiff, reduceCtorEq, Nat.reduceAdd, Nat.reduceLeDiff, t2, l2, t3, l3, t4, l4, t6, l6, t7, tx, k.nl.len, k.nl.iaddr hi, k.nl.whole hi, encP, lt_true hi, tk, dj, kl.iaddr hj, kl.fieldO hj, dk, yi, y0]
              refine wp_lit (enc := encI) (k := 1) (l := [f.nl[i].value]) rfl rfl ?_
              intro h3 w3 g3 n3 b3
              obtain ⟨d, rfl⟩ := n3.one
              simp +contextual (maxSteps := 2000000) only [go_sem, Nat.reduceEqDiff, reduceCtorEq, Nat.reduceAdd, Nat.reduceLeDiff, t2, l2, t3, l3, t4, l4, t6, l6, t7, tx, yi]
              refine wp_setE (x := ⟨true, d, .sl none 0 (some 0)⟩) lenY (x.sl.out.out.grow g3) hio rfl rfl (gg.trans g3) ?_
              intro h4 g4 n4 s4
              simp +contextual (maxSteps := 2000000) only [go_sem, Nat.reduceEqDiff, reduceCtorEq, Nat.reduceAdd, Nat.reduceLeDiff, t2, l2, t3, l3, t4, l4, t6, l6, t7, tx]
              exact ⟨g4, ⟨w, _, rfl, x.put hio g3 ⟨rfl, n3, .nil⟩ Sep.nil.symm n4 s4 gg.n⟩, by rw [wrap_next hi (by omega)]⟩
      · rintro T L h' ⟨gg, t2, l2, t3, l3, t4, l4, t6, l6, ⟨w, rs, t7, x⟩, tx⟩
        have k := hf.grow gg
        simp +contextual (maxSteps := 2000000) only [go_sem, Nat.reduceEqDiff, reduceCtorEq, Nat.reduceAdd, Nat.reduceLeDiff, t2, l2, t3, l3, t4, l4, t6, l6, t7, tx, k.nl.len, lt_false]
        exact gcK_of ⟨gg, _, _, _, rfl, x⟩ (fun hs _ => by
          simp only [AV.scalar, AV.scalars, List.all_cons, List.all_nil, Bool.and_true, Bool.and_eq_true] at hs
          exact ⟨Grow.refl h, _, _, _, rfl, x.scalar hs.1 hs.2 h⟩)
      · simp +contextual (maxSteps := 2000000) only [go_sem, Nat.reduceEqDiff, reduceCtorEq, Nat.reduceAdd, Nat.reduceLeDiff, t2, l2, t3, l3, t4, l4, t6, l6, t7]
        rw [nameF_zero]
        exact ⟨gg, ⟨w, rs, rfl, x⟩, rfl⟩
  · simp +contextual (maxSteps := 2000000) only [go_sem, Nat.reduceEqDiff, reduceCtorEq, Nat.reduceAdd, Nat.reduceLeDiff]
    exact ⟨g1.trans g2, rfl, _, by rw [List.take_zero] at z0; exact z0⟩
end Go.Proofs.YtdalgphpacikkaaGreat.Am
