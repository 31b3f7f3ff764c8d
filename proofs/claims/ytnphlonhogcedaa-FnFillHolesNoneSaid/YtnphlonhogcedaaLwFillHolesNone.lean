/- The law FnFillHolesNone. -/
import Derived.Test.YtnphlonhogcedaaL1
import Derived.Test.YtnphlonhogcedaaH3
import Derived.Test.YtnphlonhogcedaaB3
import Derived.Test.YtnphlonhogcedaaDI
namespace Go.Proofs.Ytnphlonhogcedaa.Am
open Go
set_option maxRecDepth 100000
set_option maxHeartbeats 4000000
set_option linter.unusedSimpArgs false
set_option linter.unusedVariables false
attribute [local go_sem ↓] bv_t bv_c ev_t ev_c put_same put_ne put_none kill_at pro_at lb_same lb_ne start_zero start_succ wpC_seq wpC_reg wpC_cond wpC_block wpC_skip wpC_exit wpC_ret thenQ_normal thenQ_exit thenQ_ret inBlk_normal inBlk_exit inBlk_ret wpS_nil wpS_step wpS_again wpS_guard wpO_mov wpO_load wpO_faddr wpO_nilCheck wpO_pick wpO_build wpO_bin wpO_eqb wpO_eqst wpO_eqnil wpO_not wpO_conv wpO_bytesStr wpO_iaddr wpO_idxStr wpO_field wpO_extract wpO_len wpO_lenStr wpO_cap wpO_min wpO_slice wpO_sliceStr wpO_alloc wpO_box wpO_store wpO_call wpO_callv wpO_mkfn wpO_buildSlice wpO_mkslice wpO_append wpO_appz proA_nil proA_cons tmpX_nil tmpX_tmp tmpX_cell doneB_normal doneB_ret agK_cons agK_nil agK_guard agG_tt agG_ff agG_tf agG_ft agG_undef pureB_load results_one results_two results_nil resBs_cons resBs_nil resB_tmp resB_cell
attribute [local go_sem] kill_v kill_lp_ne kill_lp_same pro_v pro_lp_same pro_lp_ne av_v av_lp optB_some optX_some valX_eq ldX_lp ldX_v faX_lp faX_v ncX_lp ncX_ptr ncX_fn boxK_one boxK_agg stL_some stK_lp_one stK_lp_agg stK_v_one stK_v_agg proM_v proM_lp callG_mk callVG_mk callvK_fn fnG_mk ptrsA_nil ptrsA_cons callH_some whenA_true whenA_false guardH_tt guardH_ff guardH_tf guardH_ft guardH_undef agV_one agV_agg lenO_sl lenStrO_str notO_bool pickO_bool convO_int eqbO_bool eqnilO_sl extractO_tup capO_sl minO_int loadL_one loadL_all storeL_eq fillA_nil fillA_one fillA_agg nat_ge neg_ge nat_lt neg_lt buildO bin_add bin_sub bin_mul bin_eql bin_neq bin_lss bin_leq bin_gtr bin_geq str_eql str_neq str_lss str_leq str_gtr str_geq retK_some endK_mk gcK_same gcK_int gcK_bool tupO_one tupO_agg rdy_self ib ii Option.map_none Option.map_some Option.some.injEq exists_eq_left' exists_eq_left ne_eq not_false_eq_true if_true if_false List.map_cons List.map_nil List.getElem?_cons_zero List.getElem?_cons_succ List.length_cons List.length_nil List.take_succ_cons List.take_zero List.take_nil List.drop_succ_cons List.drop_zero List.drop_nil List.cons_append List.nil_append List.append_nil List.set_cons_zero List.set_cons_succ Nat.zero_add forall_const true_and and_true and_self Bool.false_eq_true false_implies true_implies implies_true Bool.not_true Bool.not_false Bool.not_eq_true' Bool.not_eq_false' beq_self_eq_true Bool.bne_true Bool.bne_false
attribute [local go_sem] lenI lenS lenP lenQ lenB lenL lenT encI_0 encS_0 encP_0 encP_1 encQ_0 encQ_1 encQ_2 encQ_3 encB_0 encB_1 encL_0 encL_1 encT_0 encT_1
attribute [local go_sem low] whenA_bool guardH_bool
theorem Fill_some2 {f : Holes} {g : Flat} (h : (FillHoles f g).isSome = true) : okHoles f = true ∧ okFlat g = true ∧ countH f.pl ≤ g.pl.length ∧ FillHoles f g = some (fillH f g) := by
  unfold FillHoles at h ⊢
  split at h
  · rename_i hh
    rw [if_pos hh]
    refine ⟨hh.1, hh.2.1, hh.2.2, ?_⟩
    unfold Am.okF at h ⊢
    split at h
    · rw [if_pos ‹_›]
    · simp at h
  · simp at h
theorem fill_ok {f : Holes} {g : Flat} (h : FillHoles f g = some (fillH f g)) : okFlat (fillH f g) = true := by
  unfold FillHoles at h
  split at h
  · unfold Am.okF at h
    split at h
    · assumption
    · simp at h
  · simp at h
def plainH (f : Holes) : Flat := ⟨f.pl.map (fun p => p.value), f.nl⟩
theorem plainH_of {f : Holes} (h : ∀ p ∈ f.pl, p.hole = false) : holesOf (plainH f) = f := by
  unfold holesOf plainH
  cases f with
  | mk pl nl =>
    simp only [List.map_map]
    congr 1
    conv => rhs; rw [← List.map_id pl]
    refine List.map_congr_left fun p hp => ?_
    have := h p hp
    cases p
    simp_all [ofN]
theorem fill_plain {f g : Flat} : fillH (holesOf f) g = overF f g := by
  have h0 : countH (holesOf f).pl = 0 := by
    unfold countH holesOf
    rw [List.countP_eq_zero]
    intro p hp
    obtain ⟨n, _, rfl⟩ := List.mem_map.1 hp
    simp [ofN]
  have h1 : valsT (holesOf f).pl g.pl (holesOf f).pl.length = f.pl := by
    have hlen : (holesOf f).pl.length = f.pl.length := by simp [holesOf]
    refine List.ext_getElem? fun i => ?_
    by_cases hi : i < (holesOf f).pl.length
    · have hi2 : i < f.pl.length := by omega
      have e : (holesOf f).pl[i] = ofN f.pl[i] := by simp [holesOf]
      rw [valsT, List.getElem?_map, List.getElem?_range hi, List.getElem?_eq_getElem hi2]
      simp only [Option.map_some]
      rw [fillV_plain hi (by rw [e]; rfl), e]
      rfl
    · rw [List.getElem?_eq_none (by rw [valsT_len]; omega), List.getElem?_eq_none (by omega)]
  unfold fillH overF
  rw [h1, h0, List.drop_zero]
  rfl
theorem over_plain {f : Holes} {g : Flat} (h : ∀ p ∈ f.pl, p.hole = false) (ok1 : okHoles f = true) (ok2 : okFlat g = true) (ok3 : okFlat (fillH f g) = true) : OverFlat (plainH f) g = some (fillH f g) := by
  have e := plainH_of h
  have o1 : okFlat (plainH f) = true := by rw [← okHoles_of, e]; exact ok1
  have e2 : overF (plainH f) g = fillH f g := by rw [← fill_plain, e]
  unfold OverFlat
  rw [if_pos ⟨o1, ok2⟩, e2]
  unfold Am.okF
  rw [if_pos ok3]
theorem take_val {l : List Place} {i : Nat} (hi : i < l.length) : (l.take (i + 1)).map (fun p => p.value) = (l.take i).map (fun p => p.value) ++ [l[i].value] := by
  rw [List.take_succ_eq_append_getElem hi, List.map_append]
  rfl
/-! laws.FnFillHolesNone -/
def L12_0 : List AStep := [⟨.mov (.c (.bool false)), (some 2), none, []⟩]
theorem v12_0 : VS L12_0.eq_1 := rfl
def L12_1 : List AStep := [⟨.bin .gtr (.t 14) (.c (.int .i64 1048576)), (some 15), none, []⟩]
theorem v12_1 : VS L12_1.eq_1 := rfl
def L12_2 : List AStep := ⟨.mov (.t 0), (some 13), none, []⟩ :: ⟨.len (.t 13), (some 14), none, []⟩ :: L12_1
theorem v12_2 : VS L12_2.eq_1 := rfl
def L12_3 : List AStep := [⟨.mov (.c (.bool true)), (some 2), none, []⟩]
theorem v12_3 : VS L12_3.eq_1 := rfl
def L12_4 : List AStep := [⟨.store 2 (.t 4) (.t 20), none, none, []⟩]
theorem v12_4 : VS L12_4.eq_1 := rfl
def L12_5 : List AStep := ⟨.alloc 30 [(.sl none 0 (some 0)), (.sl none 0 (some 0))], (some 4), none, []⟩ :: ⟨.store 2 (.t 3) (.t 19), none, none, []⟩ :: L12_4
theorem v12_5 : VS L12_5.eq_1 := rfl
def L12_6 : List AStep := ⟨.extract (.t 16) 1, (some 20), none, []⟩ :: ⟨.alloc 41 [(.sl none 0 (some 0)), (.sl none 0 (some 0))], (some 3), none, []⟩ :: L12_5
theorem v12_6 : VS L12_6.eq_1 := rfl
def L12_7 : List AStep := ⟨.mov (.t 18), (some 16), none, []⟩ :: ⟨.extract (.t 16) 0, (some 19), none, []⟩ :: L12_6
theorem v12_7 : VS L12_7.eq_1 := rfl
def L12_8 : List AStep := ⟨.mov (.t 0), (some 17), none, []⟩ :: ⟨.call 52 [(.t 17)], (some 18), none, []⟩ :: L12_7
theorem v12_8 : VS L12_8.eq_1 := rfl
def L12_9 : List AStep := [⟨.mov (.t 26), (some 6), none, []⟩]
theorem v12_9 : VS L12_9.eq_1 := rfl
def L12_10 : List AStep := ⟨.alloc 30 [(.sl none 0 (some 0)), (.sl none 0 (some 0))], (some 5), none, []⟩ :: ⟨.store 2 (.t 5) (.t 25), none, none, []⟩ :: L12_9
theorem v12_10 : VS L12_10.eq_1 := rfl
def L12_11 : List AStep := ⟨.extract (.t 21) 0, (some 25), none, []⟩ :: ⟨.extract (.t 21) 1, (some 26), none, []⟩ :: L12_10
theorem v12_11 : VS L12_11.eq_1 := rfl
def L12_12 : List AStep := ⟨.call 26 [(.t 22), (.t 23)], (some 24), none, []⟩ :: ⟨.mov (.t 24), (some 21), none, []⟩ :: L12_11
theorem v12_12 : VS L12_12.eq_1 := rfl
def L12_13 : List AStep := ⟨.load 2 true (.t 3), (some 22), none, []⟩ :: ⟨.load 2 true (.t 4), (some 23), none, []⟩ :: L12_12
theorem v12_13 : VS L12_13.eq_1 := rfl
def L12_14 : List AStep := [⟨.mov (.t 32), (some 8), none, []⟩]
theorem v12_14 : VS L12_14.eq_1 := rfl
def L12_15 : List AStep := ⟨.alloc 30 [(.sl none 0 (some 0)), (.sl none 0 (some 0))], (some 7), none, []⟩ :: ⟨.store 2 (.t 7) (.t 31), none, none, []⟩ :: L12_14
theorem v12_15 : VS L12_15.eq_1 := rfl
def L12_16 : List AStep := ⟨.extract (.t 27) 0, (some 31), none, []⟩ :: ⟨.extract (.t 27) 1, (some 32), none, []⟩ :: L12_15
theorem v12_16 : VS L12_16.eq_1 := rfl
def L12_17 : List AStep := ⟨.call 53 [(.t 28), (.t 29)], (some 30), none, []⟩ :: ⟨.mov (.t 30), (some 27), none, []⟩ :: L12_16
theorem v12_17 : VS L12_17.eq_1 := rfl
def L12_18 : List AStep := ⟨.load 2 true (.t 3), (some 28), none, []⟩ :: ⟨.load 2 true (.t 4), (some 29), none, []⟩ :: L12_17
theorem v12_18 : VS L12_18.eq_1 := rfl
def L12_19 : List AStep := [⟨.pick (.t 42) (.c (.bool true)) (.t 44), (some 45), none, []⟩]
theorem v12_19 : VS L12_19.eq_1 := rfl
def L12_20 : List AStep := ⟨.mov (.t 6), (some 43), (some (42, false)), []⟩ :: ⟨.not (.t 43), (some 44), (some (42, false)), []⟩ :: L12_19
theorem v12_20 : VS L12_20.eq_1 := rfl
def L12_21 : List AStep := ⟨.pick (.t 37) (.c (.bool true)) (.t 40), (some 41), none, []⟩ :: ⟨.mov (.t 41), (some 42), none, []⟩ :: L12_20
theorem v12_21 : VS L12_21.eq_1 := rfl
def L12_22 : List AStep := ⟨.mov (.t 8), (some 39), (some (37, false)), []⟩ :: ⟨.eqb true (.t 38) (.t 39), (some 40), (some (37, false)), []⟩ :: L12_21
theorem v12_22 : VS L12_22.eq_1 := rfl
def L12_23 : List AStep := ⟨.mov (.t 36), (some 37), none, []⟩ :: ⟨.mov (.t 6), (some 38), (some (37, false)), []⟩ :: L12_22
theorem v12_23 : VS L12_23.eq_1 := rfl
def L12_24 : List AStep := ⟨.call 18 [(.t 33), (.t 34)], (some 35), none, []⟩ :: ⟨.not (.t 35), (some 36), none, []⟩ :: L12_23
theorem v12_24 : VS L12_24.eq_1 := rfl
def L12_25 : List AStep := ⟨.load 2 true (.t 5), (some 33), none, []⟩ :: ⟨.load 2 true (.t 7), (some 34), none, []⟩ :: L12_24
theorem v12_25 : VS L12_25.eq_1 := rfl
def L12_26 : List AStep := [⟨.mov (.t 53), (some 2), none, []⟩]
theorem v12_26 : VS L12_26.eq_1 := rfl
def L12_27 : List AStep := ⟨.eqb false (.t 50) (.t 51), (some 52), (some (49, true)), []⟩ :: ⟨.pick (.t 49) (.t 52) (.c (.bool false)), (some 53), none, []⟩ :: L12_26
theorem v12_27 : VS L12_27.eq_1 := rfl
def L12_28 : List AStep := ⟨.mov (.t 6), (some 50), (some (49, true)), []⟩ :: ⟨.mov (.t 8), (some 51), (some (49, true)), []⟩ :: L12_27
theorem v12_28 : VS L12_28.eq_1 := rfl
def L12_29 : List AStep := ⟨.call 18 [(.t 46), (.t 47)], (some 48), none, []⟩ :: ⟨.mov (.t 48), (some 49), none, []⟩ :: L12_28
theorem v12_29 : VS L12_29.eq_1 := rfl
def L12_30 : List AStep := ⟨.load 2 true (.t 5), (some 46), none, []⟩ :: ⟨.load 2 true (.t 7), (some 47), none, []⟩ :: L12_29
theorem v12_30 : VS L12_30.eq_1 := rfl
def L12_31 : List AStep := [⟨.store 2 (.t 9) (.t 56), none, none, []⟩]
theorem v12_31 : VS L12_31.eq_1 := rfl
def L12_32 : List AStep := ⟨.build [(.sl none 0 (some 0)), (.sl none 0 (some 0))] [(1, 1, (.t 55))], (some 56), none, []⟩ :: ⟨.alloc 30 [(.sl none 0 (some 0)), (.sl none 0 (some 0))], (some 9), none, []⟩ :: L12_31
theorem v12_32 : VS L12_32.eq_1 := rfl
def L12_33 : List AStep := ⟨.faddr 1 (.t 3), (some 54), none, []⟩ :: ⟨.load 1 false (.t 54), (some 55), none, []⟩ :: L12_32
theorem v12_33 : VS L12_33.eq_1 := rfl
def L12_34 : List AStep := [⟨.mov (.c (.int .i64 0)), (some 10), none, []⟩]
theorem v12_34 : VS L12_34.eq_1 := rfl
def L12_35 : List AStep := [⟨.bin .lss (.t 57) (.t 60), (some 61), none, []⟩]
theorem v12_35 : VS L12_35.eq_1 := rfl
def L12_36 : List AStep := ⟨.load 1 false (.t 58), (some 59), none, []⟩ :: ⟨.len (.t 59), (some 60), none, []⟩ :: L12_35
theorem v12_36 : VS L12_36.eq_1 := rfl
def L12_37 : List AStep := ⟨.mov (.t 10), (some 57), none, []⟩ :: ⟨.faddr 0 (.t 3), (some 58), none, []⟩ :: L12_36
theorem v12_37 : VS L12_37.eq_1 := rfl
def L12_38 : List AStep := [⟨.faddr 0 (.t 67), (some 68), none, []⟩, ⟨.load 1 false (.t 68), (some 69), none, []⟩]
theorem v12_38 : VS L12_38.eq_1 := rfl
def L12_39 : List AStep := ⟨.mov (.t 10), (some 66), none, []⟩ :: ⟨.iaddr 2 (.t 65) (.t 66), (some 67), none, []⟩ :: L12_38
theorem v12_39 : VS L12_39.eq_1 := rfl
def L12_40 : List AStep := ⟨.faddr 0 (.t 3), (some 64), none, []⟩ :: ⟨.load 1 false (.t 64), (some 65), none, []⟩ :: L12_39
theorem v12_40 : VS L12_40.eq_1 := rfl
def L12_41 : List AStep := [⟨.mov (.t 71), (some 2), none, []⟩]
theorem v12_41 : VS L12_41.eq_1 := rfl
def L12_42 : List AStep := ⟨.load 2 true (.t 5), (some 70), none, []⟩ :: ⟨.call 60 [(.t 70)], (some 71), none, []⟩ :: L12_41
theorem v12_42 : VS L12_42.eq_1 := rfl
def L12_43 : List AStep := [⟨.faddr 0 (.t 9), (some 82), none, []⟩, ⟨.store 1 (.t 82) (.t 81), none, none, []⟩]
theorem v12_43 : VS L12_43.eq_1 := rfl
def L12_44 : List AStep := ⟨.buildSlice 3 1 [(.int .i64 0)] [(0, 1, (.t 79))], (some 80), none, []⟩ :: ⟨.append 3 1 8 (.t 73) (.t 80), (some 81), none, []⟩ :: L12_43
theorem v12_44 : VS L12_44.eq_1 := rfl
def L12_45 : List AStep := ⟨.faddr 1 (.t 77), (some 78), none, []⟩ :: ⟨.load 1 false (.t 78), (some 79), none, []⟩ :: L12_44
theorem v12_45 : VS L12_45.eq_1 := rfl
def L12_46 : List AStep := ⟨.mov (.t 10), (some 76), none, []⟩ :: ⟨.iaddr 2 (.t 75) (.t 76), (some 77), none, []⟩ :: L12_45
theorem v12_46 : VS L12_46.eq_1 := rfl
def L12_47 : List AStep := ⟨.faddr 0 (.t 3), (some 74), none, []⟩ :: ⟨.load 1 false (.t 74), (some 75), none, []⟩ :: L12_46
theorem v12_47 : VS L12_47.eq_1 := rfl
def L12_48 : List AStep := ⟨.faddr 0 (.t 9), (some 72), none, []⟩ :: ⟨.load 1 false (.t 72), (some 73), none, []⟩ :: L12_47
theorem v12_48 : VS L12_48.eq_1 := rfl
def L12_49 : List AStep := [⟨.mov (.t 63), (some 10), none, []⟩]
theorem v12_49 : VS L12_49.eq_1 := rfl
def L12_50 : List AStep := ⟨.mov (.t 10), (some 62), none, []⟩ :: ⟨.bin .add (.t 62) (.c (.int .i64 1)), (some 63), none, []⟩ :: L12_49
theorem v12_50 : VS L12_50.eq_1 := rfl
def L12_51 : List AStep := [⟨.mov (.t 88), (some 12), none, []⟩]
theorem v12_51 : VS L12_51.eq_1 := rfl
def L12_52 : List AStep := ⟨.alloc 30 [(.sl none 0 (some 0)), (.sl none 0 (some 0))], (some 11), none, []⟩ :: ⟨.store 2 (.t 11) (.t 87), none, none, []⟩ :: L12_51
theorem v12_52 : VS L12_52.eq_1 := rfl
def L12_53 : List AStep := ⟨.extract (.t 83) 0, (some 87), none, []⟩ :: ⟨.extract (.t 83) 1, (some 88), none, []⟩ :: L12_52
theorem v12_53 : VS L12_53.eq_1 := rfl
def L12_54 : List AStep := ⟨.call 42 [(.t 84), (.t 85)], (some 86), none, []⟩ :: ⟨.mov (.t 86), (some 83), none, []⟩ :: L12_53
theorem v12_54 : VS L12_54.eq_1 := rfl
def L12_55 : List AStep := ⟨.load 2 true (.t 9), (some 84), none, []⟩ :: ⟨.load 2 true (.t 4), (some 85), none, []⟩ :: L12_54
theorem v12_55 : VS L12_55.eq_1 := rfl
def L12_56 : List AStep := [⟨.mov (.t 94), (some 2), none, []⟩]
theorem v12_56 : VS L12_56.eq_1 := rfl
def L12_57 : List AStep := ⟨.call 18 [(.t 91), (.t 92)], (some 93), (some (90, true)), []⟩ :: ⟨.pick (.t 90) (.t 93) (.c (.bool false)), (some 94), none, []⟩ :: L12_56
theorem v12_57 : VS L12_57.eq_1 := rfl
def L12_58 : List AStep := ⟨.load 2 true (.t 11), (some 91), (some (90, true)), []⟩ :: ⟨.load 2 true (.t 5), (some 92), (some (90, true)), []⟩ :: L12_57
theorem v12_58 : VS L12_58.eq_1 := rfl
def L12_59 : List AStep := ⟨.mov (.t 12), (some 89), none, []⟩ :: ⟨.mov (.t 89), (some 90), none, []⟩ :: L12_58
theorem v12_59 : VS L12_59.eq_1 := rfl
def C12_0 : ACode := .seq (.reg L12_3) .ret
theorem u12_0 : VC C12_0.eq_1 := rfl
def C12_1 : ACode := .cond (.t 15) C12_0 .skip
theorem u12_1 : VC C12_1.eq_1 := rfl
def C12_2 : ACode := .seq (.reg L12_2) C12_1
theorem u12_2 : VC C12_2.eq_1 := rfl
def C12_3 : ACode := .seq (.reg L12_30) .ret
theorem u12_3 : VC C12_3.eq_1 := rfl
def C12_4 : ACode := .cond (.t 45) C12_3 .skip
theorem u12_4 : VC C12_4.eq_1 := rfl
def C12_5 : ACode := .seq (.reg L12_25) C12_4
theorem u12_5 : VC C12_5.eq_1 := rfl
def C12_6 : ACode := .cond (.t 61) .skip (.exit 0)
theorem u12_6 : VC C12_6.eq_1 := rfl
def C12_7 : ACode := .seq (.reg L12_37) C12_6
theorem u12_7 : VC C12_7.eq_1 := rfl
def C12_8 : ACode := .seq (.reg L12_42) .ret
theorem u12_8 : VC C12_8.eq_1 := rfl
def C12_9 : ACode := .cond (.t 69) C12_8 .skip
theorem u12_9 : VC C12_9.eq_1 := rfl
def C12_10 : ACode := .seq (.reg L12_40) C12_9
theorem u12_10 : VC C12_10.eq_1 := rfl
def C12_11 : ACode := .seq C12_10 (.reg L12_48)
theorem u12_11 : VC C12_11.eq_1 := rfl
def C12_12 : ACode := .block 1 C12_11
theorem u12_12 : VC C12_12.eq_1 := rfl
def C12_13 : ACode := .seq C12_12 (.reg L12_50)
theorem u12_13 : VC C12_13.eq_1 := rfl
def C12_14 : ACode := .seq C12_7 C12_13
theorem u12_14 : VC C12_14.eq_1 := rfl
def C12_15 : ACode := .block 0 (.loop C12_14)
theorem u12_15 : VC C12_15.eq_1 := rfl
def C12_16 : ACode := .seq (.reg L12_34) C12_15
theorem u12_16 : VC C12_16.eq_1 := rfl
def C12_17 : ACode := .seq (.reg L12_59) .ret
theorem u12_17 : VC C12_17.eq_1 := rfl
def C12_18 : ACode := .seq (.reg L12_55) C12_17
theorem u12_18 : VC C12_18.eq_1 := rfl
def C12_19 : ACode := .seq C12_16 C12_18
theorem u12_19 : VC C12_19.eq_1 := rfl
def C12_20 : ACode := .seq (.reg L12_33) C12_19
theorem u12_20 : VC C12_20.eq_1 := rfl
def C12_21 : ACode := .seq C12_5 C12_20
theorem u12_21 : VC C12_21.eq_1 := rfl
def C12_22 : ACode := .seq (.reg L12_18) C12_21
theorem u12_22 : VC C12_22.eq_1 := rfl
def C12_23 : ACode := .seq (.reg L12_13) C12_22
theorem u12_23 : VC C12_23.eq_1 := rfl
def C12_24 : ACode := .seq (.reg L12_8) C12_23
theorem u12_24 : VC C12_24.eq_1 := rfl
def C12_25 : ACode := .seq C12_2 C12_24
theorem u12_25 : VC C12_25.eq_1 := rfl
def C12_26 : ACode := .seq (.reg L12_0) C12_25
theorem u12_26 : VC C12_26.eq_1 := rfl
def F12 : AFunc := ⟨95, [.tmp 2], C12_26⟩
theorem cF12 : compB Try.prog 12 = some F12 := by kernel_rfl
attribute [local go_sem ↓] u12_0 u12_1 u12_2 u12_3 u12_4 u12_5 u12_6 u12_7 u12_8 u12_9 u12_10 u12_11 u12_12 u12_13 u12_14 u12_15 u12_16 u12_17 u12_18 u12_19 u12_20 u12_21 u12_22 u12_23 u12_24 u12_25 u12_26 v12_0 v12_1 v12_2 v12_3 v12_4 v12_5 v12_6 v12_7 v12_8 v12_9 v12_10 v12_11 v12_12 v12_13 v12_14 v12_15 v12_16 v12_17 v12_18 v12_19 v12_20 v12_21 v12_22 v12_23 v12_24 v12_25 v12_26 v12_27 v12_28 v12_29 v12_30 v12_31 v12_32 v12_33 v12_34 v12_35 v12_36 v12_37 v12_38 v12_39 v12_40 v12_41 v12_42 v12_43 v12_44 v12_45 v12_46 v12_47 v12_48 v12_49 v12_50 v12_51 v12_52 v12_53 v12_54 v12_55 v12_56 v12_57 v12_58 v12_59
theorem law12 (h : H) (avs : List AV) (hok : okVs Try.prog h 6 [ 22 ] avs) : callK (bm Try.prog 12 avs h) fun r _ => r = ib true := by
  obtain ⟨v0, avs, rfl, hv0, hok⟩ := okVs_cons hok
  obtain rfl := okVs_nil hok
  obtain ⟨v, code, rfl, s0, hc, k0⟩ := dBytes hv0
  refine bm_of cF12 ?_
  cases b0 : decide ((code.length : Int) > 1048576) with
  | true => simp +contextual (maxSteps := 2000000) only [go_sem, Nat.reduceEqDiff, reduceCtorEq, Nat.reduceAdd, Nat.reduceLeDiff, F12, s0.len, b0]
  | false =>
  simp +contextual (maxSteps := 2000000) only [go_sem, Nat.reduceEqDiff, reduceCtorEq, Nat.reduceAdd, Nat.reduceLeDiff, F12, s0.len, b0]
  refine wp_call (c_drawFillHoles code v h s0 hc) ?_
  rintro q h1 ⟨g1, x, y, u, w, f, g, rfl, zf, zg, mf, mg⟩
  simp +contextual (maxSteps := 2000000) only [go_sem, Nat.reduceEqDiff, reduceCtorEq, Nat.reduceAdd, Nat.reduceLeDiff]
  refine wp_call (k_iFillHoles f g x y u w h1 zf.sl zg.sl mf mg) ?_
  rintro q h2 ⟨g2, c, d, rfl, zo⟩
  have zf2 := zf.sl.grow g2
  have zg2 := zg.sl.grow g2
  simp +contextual (maxSteps := 2000000) only [go_sem, Nat.reduceEqDiff, reduceCtorEq, Nat.reduceAdd, Nat.reduceLeDiff]
  refine wp_call (k_sFillHoles f g x y u w h2 zf2 zg2 mf mg) ?_
  rintro q h3 ⟨g3, c3, d3, rfl, zw⟩
  have zf3 := zf2.grow g3
  have zg3 := zg2.grow g3
  have zo3 := (zo.grow g3).sl
  have mo : miniF (orF (FillHoles f g)) := .fill
  have eq1 := c_equalFlat (orF (FillHoles f g)) (orF (FillHoles f g)) c d c3 d3 h3 zo3.pl zo3.nl zw.sl.pl zw.sl.nl (Nat.le_trans mo.pl (by decide)) (Nat.le_trans mo.nl (by decide))
  rw [decide_eq_true rfl] at eq1
  cases b1 : (FillHoles f g).isSome with
  | false =>
    simp +contextual (maxSteps := 2000000) only [go_sem, Nat.reduceEqDiff, reduceCtorEq, Nat.reduceAdd, Nat.reduceLeDiff, eq1, b1]
    exact gcK_of rfl (fun _ _ => rfl)
  | true =>
  obtain ⟨ok1, ok2, hcn, e⟩ := Fill_some2 b1
  have ok3 := fill_ok e
  rw [show orF (FillHoles f g) = fillH f g by rw [e]; rfl] at zo3 mo
  have hfl := mf.pl
  have hgl := mg.pl
  simp +contextual (maxSteps := 2000000) only [go_sem, Nat.reduceEqDiff, reduceCtorEq, Nat.reduceAdd, Nat.reduceLeDiff, eq1, b1]
  refine wpC_loop (fun i T L h' => Grow h3 h' ∧ T 3 = .lp 3 0 ∧ (L 3).2 = [x, y] ∧ T 4 = .lp 4 0 ∧ (L 4).2 = [u, w] ∧ T 5 = .lp 5 0 ∧ (L 5).2 = [c, d] ∧ T 9 = .lp 9 0 ∧ (∃ a, (L 9).2 = [a, y] ∧ NwI h3 h' (.one a) ((f.pl.take i).map (fun p => p.value))) ∧ T 10 = .v (.one (.int .i64 i)) ∧ Pre (fun p : Place => p.hole) false f.pl i) f.pl.length ?_ ?_ (Nat.zero_le _) ?_
  · rintro i T L h' hi ⟨g4, t3, l3, t4, l4, t5, l5, t9, ⟨a, l9, na⟩, t10, hp⟩
    have zf4 := zf3.grow g4
    cases b : f.pl[i].hole with
    | true =>
      have ev := c_ValidFlat (fillH f g) c d h' (zo3.grow g4).pl (zo3.grow g4).nl mo.sm
      rw [ok3] at ev
      simp +contextual (maxSteps := 2000000) only [go_sem, Nat.reduceEqDiff, reduceCtorEq, Nat.reduceAdd, Nat.reduceLeDiff, t3, l3, t4, l4, t5, l5, t9, l9, t10, zf4.pl.len, zf4.pl.iaddr hi, zf4.pl.fieldO hi, lt_true hi, b, ev]
      try exact gcK_of rfl (fun _ _ => rfl)
    | false =>
      simp +contextual (maxSteps := 2000000) only [go_sem, Nat.reduceEqDiff, reduceCtorEq, Nat.reduceAdd, Nat.reduceLeDiff, t3, l3, t4, l4, t5, l5, t9, l9, t10, zf4.pl.len, zf4.pl.iaddr hi, zf4.pl.fieldO hi, lt_true hi, b]
      refine wp_lit (enc := encI) (k := 1) (l := [f.pl[i].value]) rfl rfl ?_
      intro h5 w5 g5 n5 b5
      simp +contextual (maxSteps := 2000000) only [go_sem, Nat.reduceEqDiff, reduceCtorEq, Nat.reduceAdd, Nat.reduceLeDiff, t3, l3, t4, l4, t5, l5, t9, l9, t10]
      refine wp_append lenI (na.grow g5) (n5.sl lenI) (g4.trans g5) (by simp; omega) ?_
      intro h6 s6 g6 n6 st6 hb6
      obtain ⟨c6, rfl⟩ := n6.one
      simp +contextual (maxSteps := 2000000) only [go_sem, Nat.reduceEqDiff, reduceCtorEq, Nat.reduceAdd, Nat.reduceLeDiff, t3, l3, t4, l4, t5, l5, t9, l9, t10]
      exact ⟨g6, ⟨c6, rfl, by rw [take_val hi]; exact n6⟩, by rw [wrap_next hi (by omega)], hp.next hi b⟩
  · rintro T L h' ⟨g4, t3, l3, t4, l4, t5, l5, t9, ⟨a, l9, na⟩, t10, hp⟩
    rw [List.take_length] at na
    have zf4 := zf3.grow g4
    have zg4 := zg3.grow g4
    have nh : ∀ p ∈ f.pl, p.hole = false := fun p hp2 => by
      have := hp.out p (by rw [List.take_length]; exact hp2)
      simpa using this
    have eo := over_plain nh ok1 ok2 ok3
    have sp : SlF h' a y (plainH f) := ⟨na.sl lenI, zf4.nl⟩
    have mp : miniF (plainH f) := ⟨by simp [plainH]; exact hfl, mf.nl, mf.nm⟩
    simp +contextual (maxSteps := 2000000) only [go_sem, Nat.reduceEqDiff, reduceCtorEq, Nat.reduceAdd, Nat.reduceLeDiff, t3, l3, t4, l4, t5, l5, t9, l9, t10, zf4.pl.len, lt_false]
    refine wp_call (k_iOverFlat (plainH f) g a y u w h' sp zg4 mp mg) ?_
    rintro q h7 ⟨g7, c7, d7, rfl, zv⟩
    rw [show orF (OverFlat (plainH f) g) = fillH f g by rw [eo]; rfl] at zv
    have zo7 := zo3.grow (g4.trans g7)
    have eq2 := c_equalFlat (fillH f g) (fillH f g) c7 d7 c d h7 zv.sl.pl zv.sl.nl zo7.pl zo7.nl (Nat.le_trans mo.pl (by decide)) (Nat.le_trans mo.nl (by decide))
    rw [decide_eq_true rfl] at eq2
    have b7 : (OverFlat (plainH f) g).isSome = true := by rw [eo]; rfl
    simp +contextual (maxSteps := 2000000) only [go_sem, Nat.reduceEqDiff, reduceCtorEq, Nat.reduceAdd, Nat.reduceLeDiff, t3, l3, t4, l4, t5, l5, t9, l9, b7, eq2]
    try exact gcK_of rfl (fun _ _ => rfl)
  · simp +contextual (maxSteps := 2000000) only [go_sem, Nat.reduceEqDiff, reduceCtorEq, Nat.reduceAdd, Nat.reduceLeDiff]
    exact ⟨Grow.refl _, ⟨_, rfl, .nil⟩, rfl, Pre.zero⟩
end Go.Proofs.Ytnphlonhogcedaa.Am
