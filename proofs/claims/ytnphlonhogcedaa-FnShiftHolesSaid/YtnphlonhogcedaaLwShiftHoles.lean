/- The law FnShiftHoles. -/
import Derived.Test.YtnphlonhogcedaaL1
import Derived.Test.YtnphlonhogcedaaH3
import Derived.Test.YtnphlonhogcedaaSH
import Derived.Test.YtnphlonhogcedaaDI
namespace Go.Proofs.Ytnphlonhogcedaa.Am
open Go
set_option maxRecDepth 100000
set_option maxHeartbeats 4000000
set_option linter.unusedSimpArgs false
set_option linter.unusedVariables false
attribute [local go_sem ↓] bv_t bv_c ev_t ev_c put_same put_ne put_none kill_at pro_at lb_same lb_ne start_zero start_succ wpC_seq wpC_reg wpC_cond wpC_block wpC_skip wpC_exit wpC_ret thenQ_normal thenQ_exit thenQ_ret inBlk_normal inBlk_exit inBlk_ret wpS_nil wpS_step wpS_again wpS_guard wpO_mov wpO_load wpO_faddr wpO_nilCheck wpO_pick wpO_build wpO_bin wpO_eqb wpO_eqst wpO_eqnil wpO_not wpO_conv wpO_bytesStr wpO_iaddr wpO_idxStr wpO_field wpO_extract wpO_len wpO_lenStr wpO_cap wpO_min wpO_slice wpO_sliceStr wpO_alloc wpO_box wpO_store wpO_call wpO_callv wpO_mkfn wpO_buildSlice wpO_mkslice wpO_append wpO_appz proA_nil proA_cons tmpX_nil tmpX_tmp tmpX_cell doneB_normal doneB_ret agK_cons agK_nil agK_guard agG_tt agG_ff agG_tf agG_ft agG_undef pureB_load results_one results_two results_nil resBs_cons resBs_nil resB_tmp resB_cell
attribute [local go_sem] kill_v kill_lp_ne kill_lp_same pro_v pro_lp_same pro_lp_ne av_v av_lp optB_some optX_some valX_eq ldX_lp ldX_v faX_lp faX_v ncX_lp ncX_ptr ncX_fn boxK_one boxK_agg stL_some stK_lp_one stK_lp_agg stK_v_one stK_v_agg proM_v proM_lp callG_mk callVG_mk callvK_fn fnG_mk ptrsA_nil ptrsA_cons callH_some whenA_true whenA_false guardH_tt guardH_ff guardH_tf guardH_ft guardH_undef agV_one agV_agg lenO_sl lenStrO_str notO_bool pickO_bool convO_int eqbO_bool eqnilO_sl extractO_tup capO_sl minO_int loadL_one loadL_all storeL_eq fillA_nil fillA_one fillA_agg nat_ge neg_ge nat_lt neg_lt buildO bin_add bin_sub bin_mul bin_eql bin_neq bin_lss bin_leq bin_gtr bin_geq str_eql str_neq str_lss str_leq str_gtr str_geq retK_some endK_mk gcK_same gcK_int gcK_bool tupO_one tupO_agg rdy_self ib ii Option.map_none Option.map_some Option.some.injEq exists_eq_left' exists_eq_left ne_eq not_false_eq_true if_true if_false List.map_cons List.map_nil List.getElem?_cons_zero List.getElem?_cons_succ List.length_cons List.length_nil List.take_succ_cons List.take_zero List.take_nil List.drop_succ_cons List.drop_zero List.drop_nil List.cons_append List.nil_append List.append_nil List.set_cons_zero List.set_cons_succ Nat.zero_add forall_const true_and and_true and_self Bool.false_eq_true false_implies true_implies implies_true Bool.not_true Bool.not_false Bool.not_eq_true' Bool.not_eq_false' beq_self_eq_true Bool.bne_true Bool.bne_false
attribute [local go_sem] lenI lenS lenP lenQ lenB lenL lenT encI_0 encS_0 encP_0 encP_1 encQ_0 encQ_1 encQ_2 encQ_3 encB_0 encB_1 encL_0 encL_1 encT_0 encT_1
attribute [local go_sem low] whenA_bool guardH_bool
def upF (n : Nat) : List Int := (List.range n).map fun k => ((k + 1 : Nat) : Int)
theorem upF_len {n : Nat} : (upF n).length = n := by simp [upF]
theorem upF_next {n : Nat} : upF (n + 1) = upF n ++ [((n + 1 : Nat) : Int)] := by simp [upF, List.range_succ]
theorem upF_ok {n : Nat} (hn : n ≤ 8) : (upF n).all okNum = true := by
  rw [List.all_eq_true]
  intro x hx
  obtain ⟨k, hk, rfl⟩ := List.mem_map.1 hx
  have := List.mem_range.1 hk
  unfold okNum
  rw [decide_eq_true (by omega), decide_eq_true (by omega)]
  rfl
theorem fillR_ok : ∀ (l : List Place) (r : List Int), l.all okPlace = true → r.all okNum = true → (fillR (fun p => p.value) l r).all okNum = true
  | [], r, _, h => h
  | p :: l, r, h1, h2 => by
    rw [List.all_cons, Bool.and_eq_true] at h1
    have hp : okNum p.value = true := by
      have := h1.1
      unfold okPlace at this
      rw [Bool.and_eq_true] at this
      exact this.2
    cases h : p.hole with
    | false =>
      rw [fillR_plain _ h, List.all_cons, hp, fillR_ok l r h1.2 h2]
      rfl
    | true =>
      cases r with
      | nil =>
        rw [fillR_none, List.all_cons, hp, fillR_ok l [] h1.2 rfl]
        rfl
      | cons v r =>
        rw [List.all_cons, Bool.and_eq_true] at h2
        rw [fillR_hole _ h, List.all_cons, h2.1, fillR_ok l r h1.2 h2.2]
        rfl
theorem okUp {n : Nat} (hn : n ≤ 8) : okFlat ⟨upF n, []⟩ = true := by
  unfold okFlat
  simp only [upF_ok hn, upF_len]
  rw [decide_eq_true (show ((n : Nat) : Int) ≤ 8 by omega)]
  rfl
theorem okFill {x : Holes} {n : Nat} (ok : okHoles x = true) (hn : n ≤ 8) (hc : countH x.pl = n) : okFlat (fillH x ⟨upF n, []⟩) = true := by
  have e : (fillH x ⟨upF n, []⟩).pl = fillR (fun p => p.value) x.pl (upF n) := fillV_R x.pl (upF n)
  have hl : (fillH x ⟨upF n, []⟩).pl.length = x.pl.length := by
    show (valsT x.pl (upF n) x.pl.length ++ (upF n).drop (countH x.pl)).length = _
    rw [List.length_append, valsT_len, List.length_drop, upF_len]
    omega
  have en : (fillH x ⟨upF n, []⟩).nl = x.nl := rfl
  unfold okHoles at ok
  simp only [Bool.and_eq_true] at ok
  obtain ⟨o1, o2, o3⟩ := ok
  unfold okFlat at o3 ⊢
  simp only [Bool.and_eq_true] at o3 ⊢
  rw [hl, en]
  exact ⟨o3.1, by rw [e]; exact fillR_ok _ _ o1 (upF_ok hn), o3.2.2.1, o2, o3.2.2.2.2⟩
theorem Fill_is {x : Holes} {F : Flat} (o1 : okHoles x = true) (o2 : okFlat F = true) (hc : countH x.pl ≤ F.pl.length) (o3 : okFlat (fillH x F) = true) : FillHoles x F = some (fillH x F) := by
  unfold FillHoles
  rw [if_pos ⟨o1, o2, hc⟩]
  unfold Am.okF
  rw [if_pos o3]
theorem Shift_some {f g : Holes} (h : (ShiftHoles f g).isSome = true) : okHoles f = true ∧ okHoles g = true ∧ countH f.pl ≤ g.pl.length ∧ okHoles (shiftH f g) = true ∧ ShiftHoles f g = some (shiftH f g) := by
  unfold ShiftHoles at h ⊢
  split at h
  · rename_i hh
    split at h
    · rename_i hk
      rw [if_pos hh, if_pos hk]
      exact ⟨hh.1, hh.2.1, hh.2.2, hk, rfl⟩
    · simp at h
  · simp at h
/-! impl.CountHoles -/
def L25_0 : List AStep := [⟨.box 41 (.t 0), (some 1), none, []⟩, ⟨.mov (.c (.int .i64 0)), (some 2), none, []⟩]
theorem v25_0 : VS L25_0.eq_1 := rfl
def L25_1 : List AStep := [⟨.not (.t 4), (some 5), none, []⟩]
theorem v25_1 : VS L25_1.eq_1 := rfl
def L25_2 : List AStep := ⟨.load 2 true (.t 1), (some 3), none, []⟩ :: ⟨.call 83 [(.t 3)], (some 4), none, []⟩ :: L25_1
theorem v25_2 : VS L25_2.eq_1 := rfl
def L25_3 : List AStep := [⟨.mov (.c (.int .i64 (-1))), (some 2), none, []⟩]
theorem v25_3 : VS L25_3.eq_1 := rfl
def L25_4 : List AStep := [⟨.mov (.t 7), (some 2), none, []⟩]
theorem v25_4 : VS L25_4.eq_1 := rfl
def L25_5 : List AStep := ⟨.load 2 true (.t 1), (some 6), none, []⟩ :: ⟨.call 84 [(.t 6)], (some 7), none, []⟩ :: L25_4
theorem v25_5 : VS L25_5.eq_1 := rfl
def C25_0 : ACode := .seq (.reg L25_3) .ret
theorem u25_0 : VC C25_0.eq_1 := rfl
def C25_1 : ACode := .cond (.t 5) C25_0 .skip
theorem u25_1 : VC C25_1.eq_1 := rfl
def C25_2 : ACode := .seq (.reg L25_2) C25_1
theorem u25_2 : VC C25_2.eq_1 := rfl
def C25_3 : ACode := .seq (.reg L25_5) .ret
theorem u25_3 : VC C25_3.eq_1 := rfl
def C25_4 : ACode := .seq C25_2 C25_3
theorem u25_4 : VC C25_4.eq_1 := rfl
def C25_5 : ACode := .seq (.reg L25_0) C25_4
theorem u25_5 : VC C25_5.eq_1 := rfl
def F25 : AFunc := ⟨8, [.tmp 2], C25_5⟩
theorem cF25 : compB Try.prog 25 = some F25 := by kernel_rfl
attribute [local go_sem ↓] u25_0 u25_1 u25_2 u25_3 u25_4 u25_5 v25_0 v25_1 v25_2 v25_3 v25_4 v25_5
theorem c_CountHoles (f : Holes) (p n : CV) (h : H) (hf : SlH h p n f) (hn : smH f) (ok : okHoles f = true) : bm Try.prog 25 [.agg [p, n]] h = some (ii (countH f.pl), h) := by
  refine bm_eq cF25 ?_
  simp +contextual (maxSteps := 2000000) only [go_sem, Nat.reduceEqDiff, reduceCtorEq, Nat.reduceAdd, Nat.reduceLeDiff, F25, c_ValidHoles _ _ _ _ hf hn, ok, c_holes _ _ _ _ hf hn]
/-! laws.FnShiftHoles -/
def L4_0 : List AStep := [⟨.mov (.c (.bool false)), (some 2), none, []⟩]
theorem v4_0 : VS L4_0.eq_1 := rfl
def L4_1 : List AStep := [⟨.bin .gtr (.t 19) (.c (.int .i64 1048576)), (some 20), none, []⟩]
theorem v4_1 : VS L4_1.eq_1 := rfl
def L4_2 : List AStep := ⟨.mov (.t 0), (some 18), none, []⟩ :: ⟨.len (.t 18), (some 19), none, []⟩ :: L4_1
theorem v4_2 : VS L4_2.eq_1 := rfl
def L4_3 : List AStep := [⟨.mov (.c (.bool true)), (some 2), none, []⟩]
theorem v4_3 : VS L4_3.eq_1 := rfl
def L4_4 : List AStep := [⟨.store 2 (.t 4) (.t 25), none, none, []⟩]
theorem v4_4 : VS L4_4.eq_1 := rfl
def L4_5 : List AStep := ⟨.alloc 41 [(.sl none 0 (some 0)), (.sl none 0 (some 0))], (some 4), none, []⟩ :: ⟨.store 2 (.t 3) (.t 24), none, none, []⟩ :: L4_4
theorem v4_5 : VS L4_5.eq_1 := rfl
def L4_6 : List AStep := ⟨.extract (.t 21) 1, (some 25), none, []⟩ :: ⟨.alloc 41 [(.sl none 0 (some 0)), (.sl none 0 (some 0))], (some 3), none, []⟩ :: L4_5
theorem v4_6 : VS L4_6.eq_1 := rfl
def L4_7 : List AStep := ⟨.mov (.t 23), (some 21), none, []⟩ :: ⟨.extract (.t 21) 0, (some 24), none, []⟩ :: L4_6
theorem v4_7 : VS L4_7.eq_1 := rfl
def L4_8 : List AStep := ⟨.mov (.t 0), (some 22), none, []⟩ :: ⟨.call 21 [(.t 22)], (some 23), none, []⟩ :: L4_7
theorem v4_8 : VS L4_8.eq_1 := rfl
def L4_9 : List AStep := [⟨.mov (.t 31), (some 6), none, []⟩]
theorem v4_9 : VS L4_9.eq_1 := rfl
def L4_10 : List AStep := ⟨.alloc 41 [(.sl none 0 (some 0)), (.sl none 0 (some 0))], (some 5), none, []⟩ :: ⟨.store 2 (.t 5) (.t 30), none, none, []⟩ :: L4_9
theorem v4_10 : VS L4_10.eq_1 := rfl
def L4_11 : List AStep := ⟨.extract (.t 26) 0, (some 30), none, []⟩ :: ⟨.extract (.t 26) 1, (some 31), none, []⟩ :: L4_10
theorem v4_11 : VS L4_11.eq_1 := rfl
def L4_12 : List AStep := ⟨.call 22 [(.t 27), (.t 28)], (some 29), none, []⟩ :: ⟨.mov (.t 29), (some 26), none, []⟩ :: L4_11
theorem v4_12 : VS L4_12.eq_1 := rfl
def L4_13 : List AStep := ⟨.load 2 true (.t 3), (some 27), none, []⟩ :: ⟨.load 2 true (.t 4), (some 28), none, []⟩ :: L4_12
theorem v4_13 : VS L4_13.eq_1 := rfl
def L4_14 : List AStep := [⟨.mov (.t 37), (some 8), none, []⟩]
theorem v4_14 : VS L4_14.eq_1 := rfl
def L4_15 : List AStep := ⟨.alloc 41 [(.sl none 0 (some 0)), (.sl none 0 (some 0))], (some 7), none, []⟩ :: ⟨.store 2 (.t 7) (.t 36), none, none, []⟩ :: L4_14
theorem v4_15 : VS L4_15.eq_1 := rfl
def L4_16 : List AStep := ⟨.extract (.t 32) 0, (some 36), none, []⟩ :: ⟨.extract (.t 32) 1, (some 37), none, []⟩ :: L4_15
theorem v4_16 : VS L4_16.eq_1 := rfl
def L4_17 : List AStep := ⟨.call 23 [(.t 33), (.t 34)], (some 35), none, []⟩ :: ⟨.mov (.t 35), (some 32), none, []⟩ :: L4_16
theorem v4_17 : VS L4_17.eq_1 := rfl
def L4_18 : List AStep := ⟨.load 2 true (.t 3), (some 33), none, []⟩ :: ⟨.load 2 true (.t 4), (some 34), none, []⟩ :: L4_17
theorem v4_18 : VS L4_18.eq_1 := rfl
def L4_19 : List AStep := [⟨.pick (.t 47) (.c (.bool true)) (.t 49), (some 50), none, []⟩]
theorem v4_19 : VS L4_19.eq_1 := rfl
def L4_20 : List AStep := ⟨.mov (.t 6), (some 48), (some (47, false)), []⟩ :: ⟨.not (.t 48), (some 49), (some (47, false)), []⟩ :: L4_19
theorem v4_20 : VS L4_20.eq_1 := rfl
def L4_21 : List AStep := ⟨.pick (.t 42) (.c (.bool true)) (.t 45), (some 46), none, []⟩ :: ⟨.mov (.t 46), (some 47), none, []⟩ :: L4_20
theorem v4_21 : VS L4_21.eq_1 := rfl
def L4_22 : List AStep := ⟨.mov (.t 8), (some 44), (some (42, false)), []⟩ :: ⟨.eqb true (.t 43) (.t 44), (some 45), (some (42, false)), []⟩ :: L4_21
theorem v4_22 : VS L4_22.eq_1 := rfl
def L4_23 : List AStep := ⟨.mov (.t 41), (some 42), none, []⟩ :: ⟨.mov (.t 6), (some 43), (some (42, false)), []⟩ :: L4_22
theorem v4_23 : VS L4_23.eq_1 := rfl
def L4_24 : List AStep := ⟨.call 24 [(.t 38), (.t 39)], (some 40), none, []⟩ :: ⟨.not (.t 40), (some 41), none, []⟩ :: L4_23
theorem v4_24 : VS L4_24.eq_1 := rfl
def L4_25 : List AStep := ⟨.load 2 true (.t 5), (some 38), none, []⟩ :: ⟨.load 2 true (.t 7), (some 39), none, []⟩ :: L4_24
theorem v4_25 : VS L4_25.eq_1 := rfl
def L4_26 : List AStep := [⟨.mov (.t 58), (some 2), none, []⟩]
theorem v4_26 : VS L4_26.eq_1 := rfl
def L4_27 : List AStep := ⟨.eqb false (.t 55) (.t 56), (some 57), (some (54, true)), []⟩ :: ⟨.pick (.t 54) (.t 57) (.c (.bool false)), (some 58), none, []⟩ :: L4_26
theorem v4_27 : VS L4_27.eq_1 := rfl
def L4_28 : List AStep := ⟨.mov (.t 6), (some 55), (some (54, true)), []⟩ :: ⟨.mov (.t 8), (some 56), (some (54, true)), []⟩ :: L4_27
theorem v4_28 : VS L4_28.eq_1 := rfl
def L4_29 : List AStep := ⟨.call 24 [(.t 51), (.t 52)], (some 53), none, []⟩ :: ⟨.mov (.t 53), (some 54), none, []⟩ :: L4_28
theorem v4_29 : VS L4_29.eq_1 := rfl
def L4_30 : List AStep := ⟨.load 2 true (.t 5), (some 51), none, []⟩ :: ⟨.load 2 true (.t 7), (some 52), none, []⟩ :: L4_29
theorem v4_30 : VS L4_30.eq_1 := rfl
def L4_31 : List AStep := [⟨.mov (.t 60), (some 9), none, []⟩]
theorem v4_31 : VS L4_31.eq_1 := rfl
def L4_32 : List AStep := ⟨.load 2 true (.t 4), (some 59), none, []⟩ :: ⟨.call 25 [(.t 59)], (some 60), none, []⟩ :: L4_31
theorem v4_32 : VS L4_32.eq_1 := rfl
def L4_33 : List AStep := [⟨.alloc 30 [(.sl none 0 (some 0)), (.sl none 0 (some 0))], (some 10), none, []⟩, ⟨.store 2 (.t 10) (.t 62), none, none, []⟩]
theorem v4_33 : VS L4_33.eq_1 := rfl
def L4_34 : List AStep := ⟨.buildSlice 3 0 [(.int .i64 0)] [], (some 61), none, []⟩ :: ⟨.build [(.sl none 0 (some 0)), (.sl none 0 (some 0))] [(0, 1, (.t 61))], (some 62), none, []⟩ :: L4_33
theorem v4_34 : VS L4_34.eq_1 := rfl
def L4_35 : List AStep := [⟨.mov (.c (.int .i64 0)), (some 11), none, []⟩]
theorem v4_35 : VS L4_35.eq_1 := rfl
def L4_36 : List AStep := [⟨.bin .lss (.t 63) (.t 64), (some 65), none, []⟩]
theorem v4_36 : VS L4_36.eq_1 := rfl
def L4_37 : List AStep := ⟨.mov (.t 11), (some 63), none, []⟩ :: ⟨.mov (.t 9), (some 64), none, []⟩ :: L4_36
theorem v4_37 : VS L4_37.eq_1 := rfl
def L4_38 : List AStep := [⟨.faddr 0 (.t 10), (some 74), none, []⟩, ⟨.store 1 (.t 74) (.t 73), none, none, []⟩]
theorem v4_38 : VS L4_38.eq_1 := rfl
def L4_39 : List AStep := ⟨.buildSlice 3 1 [(.int .i64 0)] [(0, 1, (.t 71))], (some 72), none, []⟩ :: ⟨.append 3 1 8 (.t 69) (.t 72), (some 73), none, []⟩ :: L4_38
theorem v4_39 : VS L4_39.eq_1 := rfl
def L4_40 : List AStep := ⟨.mov (.t 11), (some 70), none, []⟩ :: ⟨.bin .add (.t 70) (.c (.int .i64 1)), (some 71), none, []⟩ :: L4_39
theorem v4_40 : VS L4_40.eq_1 := rfl
def L4_41 : List AStep := ⟨.faddr 0 (.t 10), (some 68), none, []⟩ :: ⟨.load 1 false (.t 68), (some 69), none, []⟩ :: L4_40
theorem v4_41 : VS L4_41.eq_1 := rfl
def L4_42 : List AStep := [⟨.mov (.t 67), (some 11), none, []⟩]
theorem v4_42 : VS L4_42.eq_1 := rfl
def L4_43 : List AStep := ⟨.mov (.t 11), (some 66), none, []⟩ :: ⟨.bin .add (.t 66) (.c (.int .i64 1)), (some 67), none, []⟩ :: L4_42
theorem v4_43 : VS L4_43.eq_1 := rfl
def L4_44 : List AStep := [⟨.mov (.t 80), (some 13), none, []⟩]
theorem v4_44 : VS L4_44.eq_1 := rfl
def L4_45 : List AStep := ⟨.alloc 30 [(.sl none 0 (some 0)), (.sl none 0 (some 0))], (some 12), none, []⟩ :: ⟨.store 2 (.t 12) (.t 79), none, none, []⟩ :: L4_44
theorem v4_45 : VS L4_45.eq_1 := rfl
def L4_46 : List AStep := ⟨.extract (.t 75) 0, (some 79), none, []⟩ :: ⟨.extract (.t 75) 1, (some 80), none, []⟩ :: L4_45
theorem v4_46 : VS L4_46.eq_1 := rfl
def L4_47 : List AStep := ⟨.call 26 [(.t 76), (.t 77)], (some 78), none, []⟩ :: ⟨.mov (.t 78), (some 75), none, []⟩ :: L4_46
theorem v4_47 : VS L4_47.eq_1 := rfl
def L4_48 : List AStep := ⟨.load 2 true (.t 5), (some 76), none, []⟩ :: ⟨.load 2 true (.t 10), (some 77), none, []⟩ :: L4_47
theorem v4_48 : VS L4_48.eq_1 := rfl
def L4_49 : List AStep := [⟨.mov (.t 86), (some 15), none, []⟩]
theorem v4_49 : VS L4_49.eq_1 := rfl
def L4_50 : List AStep := ⟨.alloc 30 [(.sl none 0 (some 0)), (.sl none 0 (some 0))], (some 14), none, []⟩ :: ⟨.store 2 (.t 14) (.t 85), none, none, []⟩ :: L4_49
theorem v4_50 : VS L4_50.eq_1 := rfl
def L4_51 : List AStep := ⟨.extract (.t 81) 0, (some 85), none, []⟩ :: ⟨.extract (.t 81) 1, (some 86), none, []⟩ :: L4_50
theorem v4_51 : VS L4_51.eq_1 := rfl
def L4_52 : List AStep := ⟨.call 26 [(.t 82), (.t 83)], (some 84), none, []⟩ :: ⟨.mov (.t 84), (some 81), none, []⟩ :: L4_51
theorem v4_52 : VS L4_52.eq_1 := rfl
def L4_53 : List AStep := ⟨.load 2 true (.t 4), (some 82), none, []⟩ :: ⟨.load 2 true (.t 10), (some 83), none, []⟩ :: L4_52
theorem v4_53 : VS L4_53.eq_1 := rfl
def L4_54 : List AStep := [⟨.mov (.t 92), (some 17), none, []⟩]
theorem v4_54 : VS L4_54.eq_1 := rfl
def L4_55 : List AStep := ⟨.alloc 30 [(.sl none 0 (some 0)), (.sl none 0 (some 0))], (some 16), none, []⟩ :: ⟨.store 2 (.t 16) (.t 91), none, none, []⟩ :: L4_54
theorem v4_55 : VS L4_55.eq_1 := rfl
def L4_56 : List AStep := ⟨.extract (.t 87) 0, (some 91), none, []⟩ :: ⟨.extract (.t 87) 1, (some 92), none, []⟩ :: L4_55
theorem v4_56 : VS L4_56.eq_1 := rfl
def L4_57 : List AStep := ⟨.call 26 [(.t 88), (.t 89)], (some 90), none, []⟩ :: ⟨.mov (.t 90), (some 87), none, []⟩ :: L4_56
theorem v4_57 : VS L4_57.eq_1 := rfl
def L4_58 : List AStep := ⟨.load 2 true (.t 3), (some 88), none, []⟩ :: ⟨.load 2 true (.t 14), (some 89), none, []⟩ :: L4_57
theorem v4_58 : VS L4_58.eq_1 := rfl
def L4_59 : List AStep := [⟨.mov (.t 110), (some 2), none, []⟩]
theorem v4_59 : VS L4_59.eq_1 := rfl
def L4_60 : List AStep := ⟨.call 18 [(.t 107), (.t 108)], (some 109), (some (106, true)), []⟩ :: ⟨.pick (.t 106) (.t 109) (.c (.bool false)), (some 110), none, []⟩ :: L4_59
theorem v4_60 : VS L4_60.eq_1 := rfl
def L4_61 : List AStep := ⟨.load 2 true (.t 12), (some 107), (some (106, true)), []⟩ :: ⟨.load 2 true (.t 16), (some 108), (some (106, true)), []⟩ :: L4_60
theorem v4_61 : VS L4_61.eq_1 := rfl
def L4_62 : List AStep := ⟨.pick (.t 103) (.t 104) (.c (.bool false)), (some 105), none, []⟩ :: ⟨.mov (.t 105), (some 106), none, []⟩ :: L4_61
theorem v4_62 : VS L4_62.eq_1 := rfl
def L4_63 : List AStep := ⟨.mov (.t 102), (some 103), none, []⟩ :: ⟨.mov (.t 17), (some 104), (some (103, true)), []⟩ :: L4_62
theorem v4_63 : VS L4_63.eq_1 := rfl
def L4_64 : List AStep := ⟨.mov (.t 15), (some 101), (some (100, true)), []⟩ :: ⟨.pick (.t 100) (.t 101) (.c (.bool false)), (some 102), none, []⟩ :: L4_63
theorem v4_64 : VS L4_64.eq_1 := rfl
def L4_65 : List AStep := ⟨.pick (.t 97) (.t 98) (.c (.bool false)), (some 99), none, []⟩ :: ⟨.mov (.t 99), (some 100), none, []⟩ :: L4_64
theorem v4_65 : VS L4_65.eq_1 := rfl
def L4_66 : List AStep := ⟨.mov (.t 96), (some 97), none, []⟩ :: ⟨.mov (.t 13), (some 98), (some (97, true)), []⟩ :: L4_65
theorem v4_66 : VS L4_66.eq_1 := rfl
def L4_67 : List AStep := ⟨.mov (.t 9), (some 95), none, []⟩ :: ⟨.bin .eql (.t 94) (.t 95), (some 96), none, []⟩ :: L4_66
theorem v4_67 : VS L4_67.eq_1 := rfl
def L4_68 : List AStep := ⟨.load 2 true (.t 5), (some 93), none, []⟩ :: ⟨.call 25 [(.t 93)], (some 94), none, []⟩ :: L4_67
theorem v4_68 : VS L4_68.eq_1 := rfl
def C4_0 : ACode := .seq (.reg L4_3) .ret
theorem u4_0 : VC C4_0.eq_1 := rfl
def C4_1 : ACode := .cond (.t 20) C4_0 .skip
theorem u4_1 : VC C4_1.eq_1 := rfl
def C4_2 : ACode := .seq (.reg L4_2) C4_1
theorem u4_2 : VC C4_2.eq_1 := rfl
def C4_3 : ACode := .seq (.reg L4_30) .ret
theorem u4_3 : VC C4_3.eq_1 := rfl
def C4_4 : ACode := .cond (.t 50) C4_3 .skip
theorem u4_4 : VC C4_4.eq_1 := rfl
def C4_5 : ACode := .seq (.reg L4_25) C4_4
theorem u4_5 : VC C4_5.eq_1 := rfl
def C4_6 : ACode := .cond (.t 65) .skip (.exit 0)
theorem u4_6 : VC C4_6.eq_1 := rfl
def C4_7 : ACode := .seq (.reg L4_37) C4_6
theorem u4_7 : VC C4_7.eq_1 := rfl
def C4_8 : ACode := .block 1 (.reg L4_41)
theorem u4_8 : VC C4_8.eq_1 := rfl
def C4_9 : ACode := .seq C4_8 (.reg L4_43)
theorem u4_9 : VC C4_9.eq_1 := rfl
def C4_10 : ACode := .seq C4_7 C4_9
theorem u4_10 : VC C4_10.eq_1 := rfl
def C4_11 : ACode := .block 0 (.loop C4_10)
theorem u4_11 : VC C4_11.eq_1 := rfl
def C4_12 : ACode := .seq (.reg L4_35) C4_11
theorem u4_12 : VC C4_12.eq_1 := rfl
def C4_13 : ACode := .seq (.reg L4_68) .ret
theorem u4_13 : VC C4_13.eq_1 := rfl
def C4_14 : ACode := .seq (.reg L4_58) C4_13
theorem u4_14 : VC C4_14.eq_1 := rfl
def C4_15 : ACode := .seq (.reg L4_53) C4_14
theorem u4_15 : VC C4_15.eq_1 := rfl
def C4_16 : ACode := .seq (.reg L4_48) C4_15
theorem u4_16 : VC C4_16.eq_1 := rfl
def C4_17 : ACode := .seq C4_12 C4_16
theorem u4_17 : VC C4_17.eq_1 := rfl
def C4_18 : ACode := .seq (.reg L4_34) C4_17
theorem u4_18 : VC C4_18.eq_1 := rfl
def C4_19 : ACode := .seq (.reg L4_32) C4_18
theorem u4_19 : VC C4_19.eq_1 := rfl
def C4_20 : ACode := .seq C4_5 C4_19
theorem u4_20 : VC C4_20.eq_1 := rfl
def C4_21 : ACode := .seq (.reg L4_18) C4_20
theorem u4_21 : VC C4_21.eq_1 := rfl
def C4_22 : ACode := .seq (.reg L4_13) C4_21
theorem u4_22 : VC C4_22.eq_1 := rfl
def C4_23 : ACode := .seq (.reg L4_8) C4_22
theorem u4_23 : VC C4_23.eq_1 := rfl
def C4_24 : ACode := .seq C4_2 C4_23
theorem u4_24 : VC C4_24.eq_1 := rfl
def C4_25 : ACode := .seq (.reg L4_0) C4_24
theorem u4_25 : VC C4_25.eq_1 := rfl
def F4 : AFunc := ⟨111, [.tmp 2], C4_25⟩
theorem cF4 : compB Try.prog 4 = some F4 := by kernel_rfl
attribute [local go_sem ↓] u4_0 u4_1 u4_2 u4_3 u4_4 u4_5 u4_6 u4_7 u4_8 u4_9 u4_10 u4_11 u4_12 u4_13 u4_14 u4_15 u4_16 u4_17 u4_18 u4_19 u4_20 u4_21 u4_22 u4_23 u4_24 u4_25 v4_0 v4_1 v4_2 v4_3 v4_4 v4_5 v4_6 v4_7 v4_8 v4_9 v4_10 v4_11 v4_12 v4_13 v4_14 v4_15 v4_16 v4_17 v4_18 v4_19 v4_20 v4_21 v4_22 v4_23 v4_24 v4_25 v4_26 v4_27 v4_28 v4_29 v4_30 v4_31 v4_32 v4_33 v4_34 v4_35 v4_36 v4_37 v4_38 v4_39 v4_40 v4_41 v4_42 v4_43 v4_44 v4_45 v4_46 v4_47 v4_48 v4_49 v4_50 v4_51 v4_52 v4_53 v4_54 v4_55 v4_56 v4_57 v4_58 v4_59 v4_60 v4_61 v4_62 v4_63 v4_64 v4_65 v4_66 v4_67 v4_68
theorem law4 (h : H) (avs : List AV) (hok : okVs Try.prog h 6 [ 22 ] avs) : callK (bm Try.prog 4 avs h) fun r _ => r = ib true := by
  obtain ⟨v0, avs, rfl, hv0, hok⟩ := okVs_cons hok
  obtain rfl := okVs_nil hok
  obtain ⟨v, code, rfl, s0, hc, k0⟩ := dBytes hv0
  refine bm_of cF4 ?_
  cases b0 : decide ((code.length : Int) > 1048576) with
  | true => simp +contextual (maxSteps := 2000000) only [go_sem, Nat.reduceEqDiff, reduceCtorEq, Nat.reduceAdd, Nat.reduceLeDiff, F4, s0.len, b0]
  | false =>
  simp +contextual (maxSteps := 2000000) only [go_sem, Nat.reduceEqDiff, reduceCtorEq, Nat.reduceAdd, Nat.reduceLeDiff, F4, s0.len, b0]
  refine wp_call (c_drawShiftHoles code v h s0 hc) ?_
  rintro q h1 ⟨g1, x, y, u, w, f, g, rfl, zf, zg, mf, mg⟩
  simp +contextual (maxSteps := 2000000) only [go_sem, Nat.reduceEqDiff, reduceCtorEq, Nat.reduceAdd, Nat.reduceLeDiff]
  refine wp_call (k_iShiftHoles f g x y u w h1 zf.sl zg.sl mf mg) ?_
  rintro q h2 ⟨g2, c, d, rfl, zo⟩
  have zf2 := zf.sl.grow g2
  have zg2 := zg.sl.grow g2
  simp +contextual (maxSteps := 2000000) only [go_sem, Nat.reduceEqDiff, reduceCtorEq, Nat.reduceAdd, Nat.reduceLeDiff]
  refine wp_call (k_sShiftHoles f g x y u w h2 zf2 zg2 mf mg) ?_
  rintro q h3 ⟨g3, c3, d3, rfl, zw⟩
  have zf3 := zf2.grow g3
  have zg3 := zg2.grow g3
  have zo3 := (zo.grow g3).sl
  have mo : miniH (orH (ShiftHoles f g)) := .shift
  have eq1 := c_equalHoles (orH (ShiftHoles f g)) (orH (ShiftHoles f g)) c d c3 d3 h3 zo3.pl zo3.nl zw.sl.pl zw.sl.nl (Nat.le_trans mo.pl (by decide)) (Nat.le_trans mo.nl (by decide))
  rw [decide_eq_true rfl] at eq1
  cases b1 : (ShiftHoles f g).isSome with
  | false =>
    simp +contextual (maxSteps := 2000000) only [go_sem, Nat.reduceEqDiff, reduceCtorEq, Nat.reduceAdd, Nat.reduceLeDiff, eq1, b1]
    exact gcK_of rfl (fun _ _ => rfl)
  | true =>
  obtain ⟨ok1, ok2, hcn, ok3, e⟩ := Shift_some b1
  rw [show orH (ShiftHoles f g) = shiftH f g by rw [e]; rfl] at zo3 mo
  have hg8 := (okHoles_sm ok2).1
  have hn8 : countH g.pl ≤ 8 := Nat.le_trans List.countP_le_length hg8
  have sc := shift_count (f := f) (g := g) hcn
  have eF := fill_shift (f := f) (g := g) (F := upF (countH g.pl)) hcn (by rw [upF_len]; exact Nat.le_refl _)
  have o3 := okFill ok3 hn8 sc
  have o2 := okFill ok2 hn8 rfl
  have i1 := Fill_is ok3 (okUp hn8) (by rw [sc, upF_len]; exact Nat.le_refl _) o3
  have i2 := Fill_is ok2 (okUp hn8) (by rw [upF_len]; exact Nat.le_refl _) o2
  have hl2 : (fillH g ⟨upF (countH g.pl), []⟩).pl.length = g.pl.length := by
    show (valsT g.pl (upF (countH g.pl)) g.pl.length ++ (upF (countH g.pl)).drop (countH g.pl)).length = _
    rw [List.length_append, valsT_len, List.length_drop, upF_len]
    omega
  have i3 := Fill_is ok1 o2 (by rw [hl2]; exact hcn) (by rw [← eF]; exact o3)
  have ec := c_CountHoles g u w h3 zg3 mg.sm ok2
  simp +contextual (maxSteps := 2000000) only [go_sem, Nat.reduceEqDiff, reduceCtorEq, Nat.reduceAdd, Nat.reduceLeDiff, eq1, b1, ec]
  refine wp_lit (enc := encI) (k := 1) (l := []) rfl rfl ?_
  intro h4 w4 g4 n4 b4
  obtain ⟨a4, rfl⟩ := n4.one
  simp +contextual (maxSteps := 2000000) only [go_sem, Nat.reduceEqDiff, reduceCtorEq, Nat.reduceAdd, Nat.reduceLeDiff]
  refine wpC_loop (fun i T L h' => Grow h3 h' ∧ T 3 = .lp 3 0 ∧ (L 3).2 = [x, y] ∧ T 4 = .lp 4 0 ∧ (L 4).2 = [u, w] ∧ T 5 = .lp 5 0 ∧ (L 5).2 = [c, d] ∧ T 9 = .v (.one (.int .i64 (countH g.pl))) ∧ T 10 = .lp 10 0 ∧ (∃ a, (L 10).2 = [a, .sl none 0 (some 0)] ∧ NwI h3 h' (.one a) (upF i)) ∧ T 11 = .v (.one (.int .i64 i))) (countH g.pl) ?_ ?_ (Nat.zero_le _) ?_
  · rintro i T L h' hi ⟨g5, t3, l3, t4, l4, t5, l5, t9, t10, ⟨a, l10, na⟩, t11⟩
    have v1 := wrap_next (n := countH g.pl) hi (by omega)
    simp +contextual (maxSteps := 2000000) only [go_sem, Nat.reduceEqDiff, reduceCtorEq, Nat.reduceAdd, Nat.reduceLeDiff, t3, l3, t4, l4, t5, l5, t9, t10, l10, t11, lt_true hi, v1]
    refine wp_lit (enc := encI) (k := 1) (l := [((i + 1 : Nat) : Int)]) rfl rfl ?_
    intro h5 w5 g6 n5 b5
    simp +contextual (maxSteps := 2000000) only [go_sem, Nat.reduceEqDiff, reduceCtorEq, Nat.reduceAdd, Nat.reduceLeDiff, t3, l3, t4, l4, t5, l5, t9, t10, l10, t11]
    refine wp_append lenI (na.grow g6) (n5.sl lenI) (g5.trans g6) (by simp [upF_len]; omega) ?_
    intro h6 s6 g7 n6 st6 hb6
    obtain ⟨c6, rfl⟩ := n6.one
    simp +contextual (maxSteps := 2000000) only [go_sem, Nat.reduceEqDiff, reduceCtorEq, Nat.reduceAdd, Nat.reduceLeDiff, t3, l3, t4, l4, t5, l5, t9, t10, l10, t11, v1]
    exact ⟨g7, ⟨c6, rfl, by rw [upF_next]; exact n6⟩⟩
  · rintro T L h' ⟨g5, t3, l3, t4, l4, t5, l5, t9, t10, ⟨a, l10, na⟩, t11⟩
    have zf5 := zf3.grow g5
    have zg5 := zg3.grow g5
    have zo5 := zo3.grow g5
    have sF : SlF h' a (.sl none 0 (some 0)) ⟨upF (countH g.pl), []⟩ := ⟨na.sl lenI, (Nw.nil (h0 := h')).sl lenP⟩
    have mF : miniF ⟨upF (countH g.pl), []⟩ := .of (okUp hn8)
    simp +contextual (maxSteps := 2000000) only [go_sem, Nat.reduceEqDiff, reduceCtorEq, Nat.reduceAdd, Nat.reduceLeDiff, t3, l3, t4, l4, t5, l5, t9, t10, l10, t11, lt_false]
    refine wp_call (k_iFillHoles (shiftH f g) ⟨upF (countH g.pl), []⟩ c d a (.sl none 0 (some 0)) h' zo5 sF mo mF) ?_
    rintro q h6 ⟨g6, c6, d6, rfl, z6⟩
    rw [i1]
    rw [show orF (FillHoles (shiftH f g) ⟨upF (countH g.pl), []⟩) = fillH (shiftH f g) ⟨upF (countH g.pl), []⟩ by rw [i1]; rfl] at z6
    simp +contextual (maxSteps := 2000000) only [go_sem, Nat.reduceEqDiff, reduceCtorEq, Nat.reduceAdd, Nat.reduceLeDiff, t3, l3, t4, l4, t5, l5, t9, t10, l10, t11]
    refine wp_call (k_iFillHoles g ⟨upF (countH g.pl), []⟩ u w a (.sl none 0 (some 0)) h6 (zg5.grow g6) (sF.grow g6) mg mF) ?_
    rintro q h7 ⟨g7, c7, d7, rfl, z7⟩
    rw [i2]
    rw [show orF (FillHoles g ⟨upF (countH g.pl), []⟩) = fillH g ⟨upF (countH g.pl), []⟩ by rw [i2]; rfl] at z7
    simp +contextual (maxSteps := 2000000) only [go_sem, Nat.reduceEqDiff, reduceCtorEq, Nat.reduceAdd, Nat.reduceLeDiff, t3, l3, t4, l4, t5, l5, t9, t10, l10, t11]
    refine wp_call (k_iFillHoles f (fillH g ⟨upF (countH g.pl), []⟩) x y c7 d7 h7 ((zf5.grow g6).grow g7) z7.sl mf (.of o2)) ?_
    rintro q h8 ⟨g8, c8, d8, rfl, z8⟩
    rw [i3]
    rw [show orF (FillHoles f (fillH g ⟨upF (countH g.pl), []⟩)) = fillH f (fillH g ⟨upF (countH g.pl), []⟩) by rw [i3]; rfl] at z8
    have ec2 := c_CountHoles (shiftH f g) c d h8 (((zo5.grow g6).grow g7).grow g8) mo.sm ok3
    rw [sc] at ec2
    have z6' := ((z6.grow g7).grow g8).sl
    rw [eF] at z6'
    have m8 : miniF (fillH f (fillH g ⟨upF (countH g.pl), []⟩)) := .of (by rw [← eF]; exact o3)
    have eq2 := c_equalFlat _ _ c6 d6 c8 d8 h8 z6'.pl z6'.nl z8.sl.pl z8.sl.nl (Nat.le_trans m8.pl (by decide)) (Nat.le_trans m8.nl (by decide))
    rw [decide_eq_true rfl] at eq2
    simp +contextual (maxSteps := 2000000) only [go_sem, Nat.reduceEqDiff, reduceCtorEq, Nat.reduceAdd, Nat.reduceLeDiff, t3, l3, t4, l4, t5, l5, t9, t10, l10, t11, ec2, eq2, decide_true, Option.isSome_some]
    try exact gcK_of rfl (fun _ _ => rfl)
  · simp +contextual (maxSteps := 2000000) only [go_sem, Nat.reduceEqDiff, reduceCtorEq, Nat.reduceAdd, Nat.reduceLeDiff]
    exact ⟨g4, ⟨_, rfl, n4⟩, rfl⟩
end Go.Proofs.Ytnphlonhogcedaa.Am
