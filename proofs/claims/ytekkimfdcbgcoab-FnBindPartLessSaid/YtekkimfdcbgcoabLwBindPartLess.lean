/- The law FnBindPartLess. -/
import Derived.Test.YtekkimfdcbgcoabLQ
import Derived.Test.YtekkimfdcbgcoabDT
import Derived.Test.YtekkimfdcbgcoabDL
import Derived.Test.YtekkimfdcbgcoabPM
namespace Go.Proofs.Ytekkimfdcbgcoab.Am
open Go
attribute [local go_sem] loadL_agg
set_option maxRecDepth 100000
set_option maxHeartbeats 4000000
set_option linter.unusedSimpArgs false
set_option linter.unusedVariables false
attribute [local go_sem ↓] bv_t bv_c ev_t ev_c put_same put_ne put_none kill_at pro_at lb_same lb_ne start_zero start_succ wpC_seq wpC_reg wpC_cond wpC_block wpC_skip wpC_exit wpC_ret thenQ_normal thenQ_exit thenQ_ret inBlk_normal inBlk_exit inBlk_ret wpS_nil wpS_step wpS_again wpS_guard wpO_mov wpO_load wpO_faddr wpO_nilCheck wpO_pick wpO_build wpO_bin wpO_eqb wpO_eqst wpO_eqnil wpO_not wpO_conv wpO_bytesStr wpO_iaddr wpO_idxStr wpO_field wpO_extract wpO_len wpO_lenStr wpO_cap wpO_min wpO_slice wpO_sliceStr wpO_alloc wpO_box wpO_store wpO_call wpO_callv wpO_mkfn wpO_buildSlice wpO_mkslice wpO_append wpO_appz proA_nil proA_cons tmpX_nil tmpX_tmp tmpX_cell doneB_normal doneB_ret agK_cons agK_nil agK_guard agG_tt agG_ff agG_tf agG_ft agG_undef pureB_load results_one results_two results_nil resBs_cons resBs_nil resB_tmp resB_cell
attribute [local go_sem] kill_v kill_lp_ne kill_lp_same pro_v pro_lp_same pro_lp_ne av_v av_lp optB_some optX_some valX_eq ldX_lp ldX_v faX_lp faX_v ncX_lp ncX_ptr ncX_fn boxK_one boxK_agg stL_some stK_lp_one stK_lp_agg stK_v_one stK_v_agg proM_v proM_lp callG_mk callVG_mk callvK_fn fnG_mk ptrsA_nil ptrsA_cons callH_some whenA_true whenA_false guardH_tt guardH_ff guardH_tf guardH_ft guardH_undef agV_one agV_agg lenO_sl lenStrO_str notO_bool pickO_bool convO_int eqbO_bool eqnilO_sl extractO_tup capO_sl minO_int loadL_one loadL_all storeL_eq fillA_nil fillA_one fillA_agg nat_ge neg_ge nat_lt neg_lt buildO bin_add bin_sub bin_mul bin_eql bin_neq bin_lss bin_leq bin_gtr bin_geq str_eql str_neq str_lss str_leq str_gtr str_geq retK_some endK_mk gcK_same gcK_int gcK_bool tupO_one tupO_agg rdy_self ib ii Option.map_none Option.map_some Option.some.injEq exists_eq_left' exists_eq_left ne_eq not_false_eq_true if_true if_false List.map_cons List.map_nil List.getElem?_cons_zero List.getElem?_cons_succ List.length_cons List.length_nil List.take_succ_cons List.take_zero List.take_nil List.drop_succ_cons List.drop_zero List.drop_nil List.cons_append List.nil_append List.append_nil List.set_cons_zero List.set_cons_succ Nat.zero_add forall_const true_and and_true and_self Bool.false_eq_true false_implies true_implies implies_true Bool.not_true Bool.not_false Bool.not_eq_true' Bool.not_eq_false' beq_self_eq_true Bool.bne_true Bool.bne_false
attribute [local go_sem] lenI lenS lenP lenQ lenB lenL lenT encI_0 encS_0 encP_0 encP_1 encQ_0 encQ_1 encQ_2 encQ_3 encB_0 encB_1 encL_0 encL_1 encT_0 encT_1
attribute [local go_sem low] whenA_bool guardH_bool
theorem pair_self {m : List Pair} (h : apart Pair.name m = true) {i : Nat} (hi : i < m.length) : pairAt m m[i].name = i := by
  have hp := apart_iff.1 h
  rcases idx_cases (fun p : Pair => decide (p.name = m[i].name)) m with e | ⟨j, hj, e, hs⟩
  · have := idx_neg.1 (show idx (fun p : Pair => decide (p.name = m[i].name)) m < 0 by omega) _ (List.getElem_mem hi)
    simp at this
  · have hs := of_decide_eq_true hs
    rcases Nat.lt_trichotomy j i with c | c | c
    · exact absurd hs (List.pairwise_iff_getElem.1 hp j i hj hi c)
    · subst c; exact e
    · exact absurd hs.symm (List.pairwise_iff_getElem.1 hp i j hi hj c)
theorem part_less {l : List Param} {f g : Flat} (hp : partOk l f = true) (ok3 : okFlat g = true) (h1 : g.pl.length ≤ f.pl.length) (h2 : ∀ p ∈ g.nl, p ∈ f.nl) : partOk l g = true := by
  obtain ⟨ok1, ok2⟩ := part_fits hp
  unfold partOk fits
  rw [ok1, ok3, bad_less ok1 ok2 ok3 h1 h2 (part_bad hp)]
  rfl
theorem drop_sub {m : List Pair} {i : Nat} : (m.take i ++ m.drop (i + 1)).Sublist m := by
  rw [← List.eraseIdx_eq_take_drop_succ]
  exact List.eraseIdx_sublist _ _
/-! laws.FnBindPartLess -/
def L7_0 : List AStep := [⟨.mov (.c (.bool false)), (some 2), none, []⟩]
theorem v7_0 : VS L7_0.eq_1 := rfl
def L7_1 : List AStep := [⟨.bin .gtr (.t 17) (.c (.int .i64 1048576)), (some 18), none, []⟩]
theorem v7_1 : VS L7_1.eq_1 := rfl
def L7_2 : List AStep := ⟨.mov (.t 0), (some 16), none, []⟩ :: ⟨.len (.t 16), (some 17), none, []⟩ :: L7_1
theorem v7_2 : VS L7_2.eq_1 := rfl
def L7_3 : List AStep := [⟨.mov (.c (.bool true)), (some 2), none, []⟩]
theorem v7_3 : VS L7_3.eq_1 := rfl
def L7_4 : List AStep := [⟨.store 2 (.t 4) (.t 23), none, none, []⟩]
theorem v7_4 : VS L7_4.eq_1 := rfl
def L7_5 : List AStep := ⟨.alloc 29 [(.sl none 0 (some 0)), (.sl none 0 (some 0))], (some 4), none, []⟩ :: ⟨.store 1 (.t 3) (.t 22), none, none, []⟩ :: L7_4
theorem v7_5 : VS L7_5.eq_1 := rfl
def L7_6 : List AStep := ⟨.extract (.t 19) 1, (some 23), none, []⟩ :: ⟨.alloc 25 [(.sl none 0 (some 0))], (some 3), none, []⟩ :: L7_5
theorem v7_6 : VS L7_6.eq_1 := rfl
def L7_7 : List AStep := ⟨.mov (.t 21), (some 19), none, []⟩ :: ⟨.extract (.t 19) 0, (some 22), none, []⟩ :: L7_6
theorem v7_7 : VS L7_7.eq_1 := rfl
def L7_8 : List AStep := ⟨.mov (.t 0), (some 20), none, []⟩ :: ⟨.call 27 [(.t 20)], (some 21), none, []⟩ :: L7_7
theorem v7_8 : VS L7_8.eq_1 := rfl
def L7_9 : List AStep := [⟨.mov (.t 29), (some 6), none, []⟩]
theorem v7_9 : VS L7_9.eq_1 := rfl
def L7_10 : List AStep := ⟨.alloc 56 [(.sl none 0 (some 0))], (some 5), none, []⟩ :: ⟨.store 1 (.t 5) (.t 28), none, none, []⟩ :: L7_9
theorem v7_10 : VS L7_10.eq_1 := rfl
def L7_11 : List AStep := ⟨.extract (.t 24) 0, (some 28), none, []⟩ :: ⟨.extract (.t 24) 1, (some 29), none, []⟩ :: L7_10
theorem v7_11 : VS L7_11.eq_1 := rfl
def L7_12 : List AStep := ⟨.call 28 [(.t 25), (.t 26)], (some 27), none, []⟩ :: ⟨.mov (.t 27), (some 24), none, []⟩ :: L7_11
theorem v7_12 : VS L7_12.eq_1 := rfl
def L7_13 : List AStep := ⟨.load 1 true (.t 3), (some 25), none, []⟩ :: ⟨.load 2 true (.t 4), (some 26), none, []⟩ :: L7_12
theorem v7_13 : VS L7_13.eq_1 := rfl
def L7_14 : List AStep := [⟨.mov (.t 35), (some 8), none, []⟩]
theorem v7_14 : VS L7_14.eq_1 := rfl
def L7_15 : List AStep := ⟨.alloc 56 [(.sl none 0 (some 0))], (some 7), none, []⟩ :: ⟨.store 1 (.t 7) (.t 34), none, none, []⟩ :: L7_14
theorem v7_15 : VS L7_15.eq_1 := rfl
def L7_16 : List AStep := ⟨.extract (.t 30) 0, (some 34), none, []⟩ :: ⟨.extract (.t 30) 1, (some 35), none, []⟩ :: L7_15
theorem v7_16 : VS L7_16.eq_1 := rfl
def L7_17 : List AStep := ⟨.call 29 [(.t 31), (.t 32)], (some 33), none, []⟩ :: ⟨.mov (.t 33), (some 30), none, []⟩ :: L7_16
theorem v7_17 : VS L7_17.eq_1 := rfl
def L7_18 : List AStep := ⟨.load 1 true (.t 3), (some 31), none, []⟩ :: ⟨.load 2 true (.t 4), (some 32), none, []⟩ :: L7_17
theorem v7_18 : VS L7_18.eq_1 := rfl
def L7_19 : List AStep := [⟨.pick (.t 45) (.c (.bool true)) (.t 47), (some 48), none, []⟩]
theorem v7_19 : VS L7_19.eq_1 := rfl
def L7_20 : List AStep := ⟨.mov (.t 6), (some 46), (some (45, false)), []⟩ :: ⟨.not (.t 46), (some 47), (some (45, false)), []⟩ :: L7_19
theorem v7_20 : VS L7_20.eq_1 := rfl
def L7_21 : List AStep := ⟨.pick (.t 40) (.c (.bool true)) (.t 43), (some 44), none, []⟩ :: ⟨.mov (.t 44), (some 45), none, []⟩ :: L7_20
theorem v7_21 : VS L7_21.eq_1 := rfl
def L7_22 : List AStep := ⟨.mov (.t 8), (some 42), (some (40, false)), []⟩ :: ⟨.eqb true (.t 41) (.t 42), (some 43), (some (40, false)), []⟩ :: L7_21
theorem v7_22 : VS L7_22.eq_1 := rfl
def L7_23 : List AStep := ⟨.mov (.t 39), (some 40), none, []⟩ :: ⟨.mov (.t 6), (some 41), (some (40, false)), []⟩ :: L7_22
theorem v7_23 : VS L7_23.eq_1 := rfl
def L7_24 : List AStep := ⟨.call 30 [(.t 36), (.t 37)], (some 38), none, []⟩ :: ⟨.not (.t 38), (some 39), none, []⟩ :: L7_23
theorem v7_24 : VS L7_24.eq_1 := rfl
def L7_25 : List AStep := ⟨.load 1 true (.t 5), (some 36), none, []⟩ :: ⟨.load 1 true (.t 7), (some 37), none, []⟩ :: L7_24
theorem v7_25 : VS L7_25.eq_1 := rfl
def L7_26 : List AStep := [⟨.mov (.t 56), (some 2), none, []⟩]
theorem v7_26 : VS L7_26.eq_1 := rfl
def L7_27 : List AStep := ⟨.eqb false (.t 53) (.t 54), (some 55), (some (52, true)), []⟩ :: ⟨.pick (.t 52) (.t 55) (.c (.bool false)), (some 56), none, []⟩ :: L7_26
theorem v7_27 : VS L7_27.eq_1 := rfl
def L7_28 : List AStep := ⟨.mov (.t 6), (some 53), (some (52, true)), []⟩ :: ⟨.mov (.t 8), (some 54), (some (52, true)), []⟩ :: L7_27
theorem v7_28 : VS L7_28.eq_1 := rfl
def L7_29 : List AStep := ⟨.call 30 [(.t 49), (.t 50)], (some 51), none, []⟩ :: ⟨.mov (.t 51), (some 52), none, []⟩ :: L7_28
theorem v7_29 : VS L7_29.eq_1 := rfl
def L7_30 : List AStep := ⟨.load 1 true (.t 5), (some 49), none, []⟩ :: ⟨.load 1 true (.t 7), (some 50), none, []⟩ :: L7_29
theorem v7_30 : VS L7_30.eq_1 := rfl
def L7_31 : List AStep := [⟨.mov (.c (.int .i64 0)), (some 9), none, []⟩]
theorem v7_31 : VS L7_31.eq_1 := rfl
def L7_32 : List AStep := [⟨.bin .lss (.t 57) (.t 60), (some 61), none, []⟩]
theorem v7_32 : VS L7_32.eq_1 := rfl
def L7_33 : List AStep := ⟨.load 1 false (.t 58), (some 59), none, []⟩ :: ⟨.len (.t 59), (some 60), none, []⟩ :: L7_32
theorem v7_33 : VS L7_33.eq_1 := rfl
def L7_34 : List AStep := ⟨.mov (.t 9), (some 57), none, []⟩ :: ⟨.faddr 1 (.t 4), (some 58), none, []⟩ :: L7_33
theorem v7_34 : VS L7_34.eq_1 := rfl
def L7_35 : List AStep := [⟨.store 2 (.t 10) (.t 73), none, none, []⟩, ⟨.mov (.t 74), (some 11), none, []⟩]
theorem v7_35 : VS L7_35.eq_1 := rfl
def L7_36 : List AStep := ⟨.extract (.t 64) 0, (some 73), none, []⟩ :: ⟨.extract (.t 64) 1, (some 74), none, []⟩ :: L7_35
theorem v7_36 : VS L7_36.eq_1 := rfl
def L7_37 : List AStep := ⟨.call 34 [(.t 65), (.t 71)], (some 72), none, []⟩ :: ⟨.mov (.t 72), (some 64), none, []⟩ :: L7_36
theorem v7_37 : VS L7_37.eq_1 := rfl
def L7_38 : List AStep := ⟨.load 1 false (.t 70), (some 71), none, []⟩ :: ⟨.alloc 29 [(.sl none 0 (some 0)), (.sl none 0 (some 0))], (some 10), none, []⟩ :: L7_37
theorem v7_38 : VS L7_38.eq_1 := rfl
def L7_39 : List AStep := ⟨.iaddr 2 (.t 67) (.t 68), (some 69), none, []⟩ :: ⟨.faddr 0 (.t 69), (some 70), none, []⟩ :: L7_38
theorem v7_39 : VS L7_39.eq_1 := rfl
def L7_40 : List AStep := ⟨.load 1 false (.t 66), (some 67), none, []⟩ :: ⟨.mov (.t 9), (some 68), none, []⟩ :: L7_39
theorem v7_40 : VS L7_40.eq_1 := rfl
def L7_41 : List AStep := ⟨.load 2 true (.t 4), (some 65), none, []⟩ :: ⟨.faddr 1 (.t 4), (some 66), none, []⟩ :: L7_40
theorem v7_41 : VS L7_41.eq_1 := rfl
def L7_42 : List AStep := [⟨.mov (.t 80), (some 13), none, []⟩]
theorem v7_42 : VS L7_42.eq_1 := rfl
def L7_43 : List AStep := ⟨.alloc 56 [(.sl none 0 (some 0))], (some 12), none, []⟩ :: ⟨.store 1 (.t 12) (.t 79), none, none, []⟩ :: L7_42
theorem v7_43 : VS L7_43.eq_1 := rfl
def L7_44 : List AStep := ⟨.extract (.t 75) 0, (some 79), none, []⟩ :: ⟨.extract (.t 75) 1, (some 80), none, []⟩ :: L7_43
theorem v7_44 : VS L7_44.eq_1 := rfl
def L7_45 : List AStep := ⟨.call 28 [(.t 76), (.t 77)], (some 78), none, []⟩ :: ⟨.mov (.t 78), (some 75), none, []⟩ :: L7_44
theorem v7_45 : VS L7_45.eq_1 := rfl
def L7_46 : List AStep := ⟨.load 1 true (.t 3), (some 76), none, []⟩ :: ⟨.load 2 true (.t 10), (some 77), none, []⟩ :: L7_45
theorem v7_46 : VS L7_46.eq_1 := rfl
def L7_47 : List AStep := [⟨.not (.t 84), (some 85), (some (83, false)), []⟩, ⟨.pick (.t 83) (.c (.bool true)) (.t 85), (some 86), none, []⟩]
theorem v7_47 : VS L7_47.eq_1 := rfl
def L7_48 : List AStep := ⟨.mov (.t 82), (some 83), none, []⟩ :: ⟨.mov (.t 13), (some 84), (some (83, false)), []⟩ :: L7_47
theorem v7_48 : VS L7_48.eq_1 := rfl
def L7_49 : List AStep := ⟨.mov (.t 11), (some 81), none, []⟩ :: ⟨.not (.t 81), (some 82), none, []⟩ :: L7_48
theorem v7_49 : VS L7_49.eq_1 := rfl
def L7_50 : List AStep := [⟨.mov (.c (.bool false)), (some 2), none, []⟩]
theorem v7_50 : VS L7_50.eq_1 := rfl
def L7_51 : List AStep := [⟨.mov (.t 63), (some 9), none, []⟩]
theorem v7_51 : VS L7_51.eq_1 := rfl
def L7_52 : List AStep := ⟨.mov (.t 9), (some 62), none, []⟩ :: ⟨.bin .add (.t 62) (.c (.int .i64 1)), (some 63), none, []⟩ :: L7_51
theorem v7_52 : VS L7_52.eq_1 := rfl
def L7_53 : List AStep := [⟨.len (.t 88), (some 89), none, []⟩, ⟨.bin .gtr (.t 89) (.c (.int .i64 0)), (some 90), none, []⟩]
theorem v7_53 : VS L7_53.eq_1 := rfl
def L7_54 : List AStep := ⟨.faddr 0 (.t 4), (some 87), none, []⟩ :: ⟨.load 1 false (.t 87), (some 88), none, []⟩ :: L7_53
theorem v7_54 : VS L7_54.eq_1 := rfl
def L7_55 : List AStep := [⟨.store 1 (.t 14) (.t 104), none, none, []⟩, ⟨.mov (.t 105), (some 15), none, []⟩]
theorem v7_55 : VS L7_55.eq_1 := rfl
def L7_56 : List AStep := ⟨.extract (.t 91) 0, (some 104), none, []⟩ :: ⟨.extract (.t 91) 1, (some 105), none, []⟩ :: L7_55
theorem v7_56 : VS L7_56.eq_1 := rfl
def L7_57 : List AStep := ⟨.call 28 [(.t 92), (.t 102)], (some 103), none, []⟩ :: ⟨.mov (.t 103), (some 91), none, []⟩ :: L7_56
theorem v7_57 : VS L7_57.eq_1 := rfl
def L7_58 : List AStep := ⟨.build [(.sl none 0 (some 0)), (.sl none 0 (some 0))] [(0, 1, (.t 99)), (1, 1, (.t 101))], (some 102), none, []⟩ :: ⟨.alloc 56 [(.sl none 0 (some 0))], (some 14), none, []⟩ :: L7_57
theorem v7_58 : VS L7_58.eq_1 := rfl
def L7_59 : List AStep := ⟨.faddr 1 (.t 4), (some 100), none, []⟩ :: ⟨.load 1 false (.t 100), (some 101), none, []⟩ :: L7_58
theorem v7_59 : VS L7_59.eq_1 := rfl
def L7_60 : List AStep := ⟨.bin .sub (.t 97) (.c (.int .i64 1)), (some 98), none, []⟩ :: ⟨.slice 3 1 (.t 94) none (some (.t 98)) none, (some 99), none, []⟩ :: L7_59
theorem v7_60 : VS L7_60.eq_1 := rfl
def L7_61 : List AStep := ⟨.load 1 false (.t 95), (some 96), none, []⟩ :: ⟨.len (.t 96), (some 97), none, []⟩ :: L7_60
theorem v7_61 : VS L7_61.eq_1 := rfl
def L7_62 : List AStep := ⟨.load 1 false (.t 93), (some 94), none, []⟩ :: ⟨.faddr 0 (.t 4), (some 95), none, []⟩ :: L7_61
theorem v7_62 : VS L7_62.eq_1 := rfl
def L7_63 : List AStep := ⟨.load 1 true (.t 3), (some 92), none, []⟩ :: ⟨.faddr 0 (.t 4), (some 93), none, []⟩ :: L7_62
theorem v7_63 : VS L7_63.eq_1 := rfl
def L7_64 : List AStep := [⟨.mov (.t 15), (some 106), none, []⟩, ⟨.not (.t 106), (some 107), none, []⟩]
theorem v7_64 : VS L7_64.eq_1 := rfl
def L7_65 : List AStep := [⟨.mov (.c (.bool false)), (some 2), none, []⟩]
theorem v7_65 : VS L7_65.eq_1 := rfl
def L7_66 : List AStep := [⟨.bin .eql (.t 110) (.t 113), (some 114), none, []⟩, ⟨.mov (.t 114), (some 2), none, []⟩]
theorem v7_66 : VS L7_66.eq_1 := rfl
def L7_67 : List AStep := ⟨.load 1 false (.t 111), (some 112), none, []⟩ :: ⟨.len (.t 112), (some 113), none, []⟩ :: L7_66
theorem v7_67 : VS L7_67.eq_1 := rfl
def L7_68 : List AStep := ⟨.len (.t 109), (some 110), none, []⟩ :: ⟨.faddr 0 (.t 3), (some 111), none, []⟩ :: L7_67
theorem v7_68 : VS L7_68.eq_1 := rfl
def L7_69 : List AStep := ⟨.faddr 0 (.t 5), (some 108), none, []⟩ :: ⟨.load 1 false (.t 108), (some 109), none, []⟩ :: L7_68
theorem v7_69 : VS L7_69.eq_1 := rfl
def C7_0 : ACode := .seq (.reg L7_3) .ret
theorem u7_0 : VC C7_0.eq_1 := rfl
def C7_1 : ACode := .cond (.t 18) C7_0 .skip
theorem u7_1 : VC C7_1.eq_1 := rfl
def C7_2 : ACode := .seq (.reg L7_2) C7_1
theorem u7_2 : VC C7_2.eq_1 := rfl
def C7_3 : ACode := .seq (.reg L7_30) .ret
theorem u7_3 : VC C7_3.eq_1 := rfl
def C7_4 : ACode := .cond (.t 48) C7_3 .skip
theorem u7_4 : VC C7_4.eq_1 := rfl
def C7_5 : ACode := .seq (.reg L7_25) C7_4
theorem u7_5 : VC C7_5.eq_1 := rfl
def C7_6 : ACode := .cond (.t 61) .skip (.exit 0)
theorem u7_6 : VC C7_6.eq_1 := rfl
def C7_7 : ACode := .seq (.reg L7_34) C7_6
theorem u7_7 : VC C7_7.eq_1 := rfl
def C7_8 : ACode := .seq (.reg L7_50) .ret
theorem u7_8 : VC C7_8.eq_1 := rfl
def C7_9 : ACode := .cond (.t 86) C7_8 .skip
theorem u7_9 : VC C7_9.eq_1 := rfl
def C7_10 : ACode := .seq (.reg L7_49) C7_9
theorem u7_10 : VC C7_10.eq_1 := rfl
def C7_11 : ACode := .seq (.reg L7_46) C7_10
theorem u7_11 : VC C7_11.eq_1 := rfl
def C7_12 : ACode := .seq (.reg L7_41) C7_11
theorem u7_12 : VC C7_12.eq_1 := rfl
def C7_13 : ACode := .block 1 C7_12
theorem u7_13 : VC C7_13.eq_1 := rfl
def C7_14 : ACode := .seq C7_13 (.reg L7_52)
theorem u7_14 : VC C7_14.eq_1 := rfl
def C7_15 : ACode := .seq C7_7 C7_14
theorem u7_15 : VC C7_15.eq_1 := rfl
def C7_16 : ACode := .block 0 (.loop C7_15)
theorem u7_16 : VC C7_16.eq_1 := rfl
def C7_17 : ACode := .seq (.reg L7_31) C7_16
theorem u7_17 : VC C7_17.eq_1 := rfl
def C7_18 : ACode := .seq (.reg L7_65) .ret
theorem u7_18 : VC C7_18.eq_1 := rfl
def C7_19 : ACode := .cond (.t 107) C7_18 .skip
theorem u7_19 : VC C7_19.eq_1 := rfl
def C7_20 : ACode := .seq (.reg L7_64) C7_19
theorem u7_20 : VC C7_20.eq_1 := rfl
def C7_21 : ACode := .seq (.reg L7_63) C7_20
theorem u7_21 : VC C7_21.eq_1 := rfl
def C7_22 : ACode := .cond (.t 90) C7_21 .skip
theorem u7_22 : VC C7_22.eq_1 := rfl
def C7_23 : ACode := .seq (.reg L7_54) C7_22
theorem u7_23 : VC C7_23.eq_1 := rfl
def C7_24 : ACode := .seq (.reg L7_69) .ret
theorem u7_24 : VC C7_24.eq_1 := rfl
def C7_25 : ACode := .seq C7_23 C7_24
theorem u7_25 : VC C7_25.eq_1 := rfl
def C7_26 : ACode := .seq C7_17 C7_25
theorem u7_26 : VC C7_26.eq_1 := rfl
def C7_27 : ACode := .seq C7_5 C7_26
theorem u7_27 : VC C7_27.eq_1 := rfl
def C7_28 : ACode := .seq (.reg L7_18) C7_27
theorem u7_28 : VC C7_28.eq_1 := rfl
def C7_29 : ACode := .seq (.reg L7_13) C7_28
theorem u7_29 : VC C7_29.eq_1 := rfl
def C7_30 : ACode := .seq (.reg L7_8) C7_29
theorem u7_30 : VC C7_30.eq_1 := rfl
def C7_31 : ACode := .seq C7_2 C7_30
theorem u7_31 : VC C7_31.eq_1 := rfl
def C7_32 : ACode := .seq (.reg L7_0) C7_31
theorem u7_32 : VC C7_32.eq_1 := rfl
def F7 : AFunc := ⟨115, [.tmp 2], C7_32⟩
theorem cF7 : compB Try.prog 7 = some F7 := by kernel_rfl
attribute [local go_sem ↓] u7_0 u7_1 u7_2 u7_3 u7_4 u7_5 u7_6 u7_7 u7_8 u7_9 u7_10 u7_11 u7_12 u7_13 u7_14 u7_15 u7_16 u7_17 u7_18 u7_19 u7_20 u7_21 u7_22 u7_23 u7_24 u7_25 u7_26 u7_27 u7_28 u7_29 u7_30 u7_31 u7_32 v7_0 v7_1 v7_2 v7_3 v7_4 v7_5 v7_6 v7_7 v7_8 v7_9 v7_10 v7_11 v7_12 v7_13 v7_14 v7_15 v7_16 v7_17 v7_18 v7_19 v7_20 v7_21 v7_22 v7_23 v7_24 v7_25 v7_26 v7_27 v7_28 v7_29 v7_30 v7_31 v7_32 v7_33 v7_34 v7_35 v7_36 v7_37 v7_38 v7_39 v7_40 v7_41 v7_42 v7_43 v7_44 v7_45 v7_46 v7_47 v7_48 v7_49 v7_50 v7_51 v7_52 v7_53 v7_54 v7_55 v7_56 v7_57 v7_58 v7_59 v7_60 v7_61 v7_62 v7_63 v7_64 v7_65 v7_66 v7_67 v7_68 v7_69
theorem law7 (h : H) (avs : List AV) (hok : okVs Try.prog h 6 [ 22 ] avs) : callK (bm Try.prog 7 avs h) fun r _ => r = ib true := by
  obtain ⟨v0, avs, rfl, hv0, hok⟩ := okVs_cons hok
  obtain rfl := okVs_nil hok
  obtain ⟨v, code, rfl, s0, hc, k0⟩ := dBytes hv0
  refine bm_of cF7 ?_
  cases b0 : decide ((code.length : Int) > 1048576) with
  | true => simp +contextual (maxSteps := 2000000) only [go_sem, Nat.reduceEqDiff, reduceCtorEq, Nat.reduceAdd, Nat.reduceLeDiff, F7, s0.len, b0]
  | false =>
  simp +contextual (maxSteps := 2000000) only [go_sem, Nat.reduceEqDiff, reduceCtorEq, Nat.reduceAdd, Nat.reduceLeDiff, F7, s0.len, b0]
  refine wp_call (c_drawBindPart code v h s0 hc) ?_
  rintro q h1 ⟨g1, x, u, w, l, f, rfl, sq, sf, tl, mf⟩
  have sg : SlG h1 x l := ⟨sq⟩
  have ml := tl.mini
  simp +contextual (maxSteps := 2000000) only [go_sem, Nat.reduceEqDiff, reduceCtorEq, Nat.reduceAdd, Nat.reduceLeDiff]
  refine wp_call (k_iBindPart l f x u w h1 sg sf ml mf) ?_
  rintro q h2 ⟨g2, v1, r1, rfl, y1⟩
  have sg2 := sg.grow g2
  have sf2 := sf.grow g2
  simp +contextual (maxSteps := 2000000) only [go_sem, Nat.reduceEqDiff, reduceCtorEq, Nat.reduceAdd, Nat.reduceLeDiff]
  refine wp_call (k_sBindPart l f x u w h2 sg2 sf2 ml mf) ?_
  rintro q h3 ⟨g3, v2, r2, rfl, y2⟩
  have sg3 := sg2.grow g3
  have sf3 := sf2.grow g3
  have y1 := y1.grow g3
  have eq1 := c_equalBinding (bindPartF l f) v1 v2 h3 y1.sl y2.sl .part
  have ebb : ∀ b : Bool, (b == b) = true := fun b => by cases b <;> rfl
  have enb : ∀ b : Bool, (!(b == b)) = false := fun b => by cases b <;> rfl
  cases b1 : partOk l f with
  | false =>
    simp +contextual (maxSteps := 2000000) only [go_sem, Nat.reduceEqDiff, reduceCtorEq, Nat.reduceAdd, Nat.reduceLeDiff, eq1, ebb, enb]
    exact gcK_of rfl (fun _ _ => rfl)
  | true =>
  obtain ⟨ok1, ok2⟩ := part_fits b1
  have e0 : bindPartF l f = boundS l f := by unfold bindPartF; rw [if_pos b1]
  have hap := okFlat_apart ok2
  have hnl := (okFlat_sm ok2).2.1
  have hpl := (okFlat_sm ok2).1
  have ylen : ∀ {h' : H}, Grow h3 h' → lenO (.one v1) = some (ii l.length) := fun g => by
    have z := (y1.grow g).out.rd
    rw [z.out.len, z.len, e0, boundS_len]
  simp +contextual (maxSteps := 2000000) only [go_sem, Nat.reduceEqDiff, reduceCtorEq, Nat.reduceAdd, Nat.reduceLeDiff, eq1, ebb, enb]
  refine wpC_loop (fun i T L h' => Grow h3 h' ∧ T 3 = .lp 3 0 ∧ (L 3).2 = [x] ∧ T 4 = .lp 4 0 ∧ (L 4).2 = [u, w] ∧ T 5 = .lp 5 0 ∧ (L 5).2 = [v1] ∧ T 9 = .v (.one (.int .i64 i))) f.nl.length ?_ ?_ (Nat.zero_le _) ?_
  · rintro i T L h' hi ⟨G, t3, l3, t4, l4, t5, l5, t9⟩
    have sg4 := sg3.grow G
    have sf4 := sf3.grow G
    simp +contextual (maxSteps := 2000000) only [go_sem, Nat.reduceEqDiff, reduceCtorEq, Nat.reduceAdd, Nat.reduceLeDiff, t3, l3, t4, l4, t5, l5, t9, sf4.nl.len, lt_true hi, sf4.nl.iaddr hi, sf4.nl.fieldO hi]
    refine wp_call (k_iDropName f u w f.nl[i].name h' sf4 mf ok2 hi (pair_self hap hi)) ?_
    rintro q h5 ⟨g5, p', n', rfl, sf5⟩
    have ok3 : okFlat ⟨f.pl, f.nl.take i ++ f.nl.drop (i + 1)⟩ = true := okFlat_sub (f := f) (List.Sublist.refl _) drop_sub ok2
    have hp2 := part_less b1 ok3 (Nat.le_refl _) (fun p hp => drop_sub.mem hp)
    simp +contextual (maxSteps := 2000000) only [go_sem, Nat.reduceEqDiff, reduceCtorEq, Nat.reduceAdd, Nat.reduceLeDiff, t3, l3, t4, l4, t5, l5, t9]
    refine wp_call (k_iBindPart l ⟨f.pl, f.nl.take i ++ f.nl.drop (i + 1)⟩ x p' n' h5 (sg4.grow g5) sf5 ml (.of ok3)) ?_
    rintro q h6 ⟨g6, v6, r6, rfl, y6⟩
    simp +contextual (maxSteps := 2000000) only [go_sem, Nat.reduceEqDiff, reduceCtorEq, Nat.reduceAdd, Nat.reduceLeDiff, t3, l3, t4, l4, t5, l5, t9, hp2]
    exact ⟨(G.trans g5).trans g6, by rw [wrap_next hi (by omega)]⟩
  · rintro T L h' ⟨G, t3, l3, t4, l4, t5, l5, t9⟩
    have sg4 := sg3.grow G
    have sf4 := sf3.grow G
    cases c0 : decide ((f.pl.length : Int) > 0) with
    | false =>
      simp +contextual (maxSteps := 2000000) only [go_sem, Nat.reduceEqDiff, reduceCtorEq, Nat.reduceAdd, Nat.reduceLeDiff, t3, l3, t4, l4, t5, l5, t9, sf4.nl.len, lt_false, sf4.pl.len, c0, ylen G, sg4.out.len, decide_true]
      try exact gcK_of rfl (fun _ _ => rfl)
    | true =>
      obtain ⟨m, hm⟩ : ∃ m, f.pl.length = m + 1 := ⟨f.pl.length - 1, by have := of_decide_eq_true c0; omega⟩
      obtain ⟨w', ew, sw⟩ := sf4.pl.takeO (i := m) (by omega) (kd := .i64)
      obtain ⟨w', rfl⟩ := sw.isOne
      have plen : lenO (.one u) = some (ii ((m + 1 : Nat) : Int)) := by rw [sf4.pl.len, hm]
      rw [hm] at c0
      have ok3 : okFlat ⟨f.pl.take m, f.nl⟩ = true := okFlat_sub (f := f) (List.take_sublist _ _) (List.Sublist.refl _) ok2
      have hp2 := part_less b1 ok3 (by simp; omega) (fun p hp => hp)
      simp +contextual (maxSteps := 2000000) only [go_sem, Nat.reduceEqDiff, reduceCtorEq, Nat.reduceAdd, Nat.reduceLeDiff, t3, l3, t4, l4, t5, l5, t9, sf4.nl.len, lt_false, plen, c0, wrap_pred (show m < 2 ^ 62 by omega), ew]
      refine wp_call (k_iBindPart l ⟨f.pl.take m, f.nl⟩ x w' w h' sg4 ⟨sw, sf4.nl⟩ ml (.of ok3)) ?_
      rintro q h6 ⟨g6, v6, r6, rfl, y6⟩
      simp +contextual (maxSteps := 2000000) only [go_sem, Nat.reduceEqDiff, reduceCtorEq, Nat.reduceAdd, Nat.reduceLeDiff, t3, l3, t4, l4, t5, l5, t9, hp2, ylen (G.trans g6), sg4.out.len, decide_true]
      try exact gcK_of rfl (fun _ _ => rfl)
  · simp +contextual (maxSteps := 2000000) only [go_sem, Nat.reduceEqDiff, reduceCtorEq, Nat.reduceAdd, Nat.reduceLeDiff]
    exact ⟨Grow.refl h3, rfl⟩
end Go.Proofs.Ytekkimfdcbgcoab.Am
