/- Contracts: holes that are filled, of both sides. -/
import Derived.Test.YtnphlonhogcedaaH2
import Derived.Test.YtnphlonhogcedaaHD
namespace Go.Proofs.Ytnphlonhogcedaa.Am
open Go
set_option maxRecDepth 100000
set_option maxHeartbeats 4000000
set_option linter.unusedSimpArgs false
set_option linter.unusedVariables false
attribute [local go_sem ↓] bv_t bv_c ev_t ev_c put_same put_ne put_none kill_at pro_at lb_same lb_ne start_zero start_succ wpC_seq wpC_reg wpC_cond wpC_block wpC_skip wpC_exit wpC_ret thenQ_normal thenQ_exit thenQ_ret inBlk_normal inBlk_exit inBlk_ret wpS_nil wpS_step wpS_again wpS_guard wpO_mov wpO_load wpO_faddr wpO_nilCheck wpO_pick wpO_build wpO_bin wpO_eqb wpO_eqst wpO_eqnil wpO_not wpO_conv wpO_bytesStr wpO_iaddr wpO_idxStr wpO_field wpO_extract wpO_len wpO_lenStr wpO_cap wpO_min wpO_slice wpO_sliceStr wpO_alloc wpO_box wpO_store wpO_call wpO_callv wpO_mkfn wpO_buildSlice wpO_mkslice wpO_append wpO_appz proA_nil proA_cons tmpX_nil tmpX_tmp tmpX_cell doneB_normal doneB_ret agK_cons agK_nil agK_guard agG_tt agG_ff agG_tf agG_ft agG_undef pureB_load results_one results_two results_nil resBs_cons resBs_nil resB_tmp resB_cell
attribute [local go_sem] kill_v kill_lp_ne kill_lp_same pro_v pro_lp_same pro_lp_ne av_v av_lp optB_some optX_some valX_eq ldX_lp ldX_v faX_lp faX_v ncX_lp ncX_ptr ncX_fn boxK_one boxK_agg stL_some stK_lp_one stK_lp_agg stK_v_one stK_v_agg proM_v proM_lp callG_mk callVG_mk callvK_fn fnG_mk ptrsA_nil ptrsA_cons callH_some whenA_true whenA_false guardH_tt guardH_ff guardH_tf guardH_ft guardH_undef agV_one agV_agg lenO_sl lenStrO_str notO_bool pickO_bool convO_int eqbO_bool eqnilO_sl extractO_tup capO_sl minO_int loadL_one loadL_all storeL_eq fillA_nil fillA_one fillA_agg nat_ge neg_ge nat_lt neg_lt buildO bin_add bin_sub bin_mul bin_eql bin_neq bin_lss bin_leq bin_gtr bin_geq str_eql str_neq str_lss str_leq str_gtr str_geq retK_some endK_mk gcK_same gcK_int gcK_bool tupO_one tupO_agg rdy_self ib ii Option.map_none Option.map_some Option.some.injEq exists_eq_left' exists_eq_left ne_eq not_false_eq_true if_true if_false List.map_cons List.map_nil List.getElem?_cons_zero List.getElem?_cons_succ List.length_cons List.length_nil List.take_succ_cons List.take_zero List.take_nil List.drop_succ_cons List.drop_zero List.drop_nil List.cons_append List.nil_append List.append_nil List.set_cons_zero List.set_cons_succ Nat.zero_add forall_const true_and and_true and_self Bool.false_eq_true false_implies true_implies implies_true Bool.not_true Bool.not_false Bool.not_eq_true' Bool.not_eq_false' beq_self_eq_true Bool.bne_true Bool.bne_false
attribute [local go_sem] lenI lenS lenP lenQ lenB lenL lenT encI_0 encS_0 encP_0 encP_1 encQ_0 encQ_1 encQ_2 encQ_3 encB_0 encB_1 encL_0 encL_1 encT_0 encT_1
attribute [local go_sem low] whenA_bool guardH_bool
theorem miniH.ofF {g : Flat} (h : miniF g) : miniH (holesOf g) := ⟨by simpa [holesOf] using h.pl, h.nl, h.nm⟩
/-! impl.FillHoles -/
def L26_0 : List AStep := [⟨.alloc 30 [(.sl none 0 (some 0)), (.sl none 0 (some 0))], (some 4), none, []⟩, ⟨.mov (.c (.bool false)), (some 5), none, []⟩]
theorem v26_0 : VS L26_0.eq_1 := rfl
def L26_1 : List AStep := ⟨.box 41 (.t 0), (some 2), none, []⟩ :: ⟨.box 30 (.t 1), (some 3), none, []⟩ :: L26_0
theorem v26_1 : VS L26_1.eq_1 := rfl
def L26_2 : List AStep := [⟨.not (.t 15), (some 16), none, []⟩]
theorem v26_2 : VS L26_2.eq_1 := rfl
def L26_3 : List AStep := ⟨.load 2 true (.t 3), (some 14), none, []⟩ :: ⟨.call 60 [(.t 14)], (some 15), none, []⟩ :: L26_2
theorem v26_3 : VS L26_3.eq_1 := rfl
def L26_4 : List AStep := [⟨.mov (.c (.bool false)), (some 5), none, []⟩]
theorem v26_4 : VS L26_4.eq_1 := rfl
def L26_5 : List AStep := ⟨.build [(.sl none 0 (some 0)), (.sl none 0 (some 0))] [], (some 17), none, []⟩ :: ⟨.store 2 (.t 4) (.t 17), none, none, []⟩ :: L26_4
theorem v26_5 : VS L26_5.eq_1 := rfl
def L26_6 : List AStep := [⟨.store 2 (.t 6) (.t 20), none, none, []⟩]
theorem v26_6 : VS L26_6.eq_1 := rfl
def L26_7 : List AStep := ⟨.build [(.sl none 0 (some 0)), (.sl none 0 (some 0))] [(1, 1, (.t 19))], (some 20), none, []⟩ :: ⟨.alloc 41 [(.sl none 0 (some 0)), (.sl none 0 (some 0))], (some 6), none, []⟩ :: L26_6
theorem v26_7 : VS L26_7.eq_1 := rfl
def L26_8 : List AStep := ⟨.faddr 1 (.t 3), (some 18), none, []⟩ :: ⟨.load 1 false (.t 18), (some 19), none, []⟩ :: L26_7
theorem v26_8 : VS L26_8.eq_1 := rfl
def L26_9 : List AStep := [⟨.len (.t 22), (some 23), none, []⟩, ⟨.mov (.c (.int .i64 0)), (some 24), none, []⟩]
theorem v26_9 : VS L26_9.eq_1 := rfl
def L26_10 : List AStep := ⟨.faddr 0 (.t 3), (some 21), none, []⟩ :: ⟨.load 1 false (.t 21), (some 22), none, []⟩ :: L26_9
theorem v26_10 : VS L26_10.eq_1 := rfl
def L26_11 : List AStep := [⟨.bin .lss (.t 24) (.t 23), (some 25), none, []⟩]
theorem v26_11 : VS L26_11.eq_1 := rfl
def L26_12 : List AStep := [⟨.mov (.t 27), (some 8), none, []⟩]
theorem v26_12 : VS L26_12.eq_1 := rfl
def L26_13 : List AStep := ⟨.iaddr 1 (.t 22) (.t 24), (some 26), none, []⟩ :: ⟨.load 1 false (.t 26), (some 27), none, []⟩ :: L26_12
theorem v26_13 : VS L26_13.eq_1 := rfl
def L26_14 : List AStep := [⟨.faddr 0 (.t 6), (some 34), none, []⟩, ⟨.store 1 (.t 34) (.t 33), none, none, []⟩]
theorem v26_14 : VS L26_14.eq_1 := rfl
def L26_15 : List AStep := ⟨.buildSlice 83 1 [(.bool false), (.int .i64 0)] [(0, 2, (.t 31))], (some 32), none, []⟩ :: ⟨.append 83 2 16 (.t 29) (.t 32), (some 33), none, []⟩ :: L26_14
theorem v26_15 : VS L26_15.eq_1 := rfl
def L26_16 : List AStep := ⟨.mov (.t 8), (some 30), none, []⟩ :: ⟨.build [(.bool false), (.int .i64 0)] [(1, 1, (.t 30))], (some 31), none, []⟩ :: L26_15
theorem v26_16 : VS L26_16.eq_1 := rfl
def L26_17 : List AStep := ⟨.faddr 0 (.t 6), (some 28), none, []⟩ :: ⟨.load 1 false (.t 28), (some 29), none, []⟩ :: L26_16
theorem v26_17 : VS L26_17.eq_1 := rfl
def L26_18 : List AStep := [⟨.bin .add (.t 24) (.c (.int .i64 1)), (some 35), none, []⟩, ⟨.mov (.t 35), (some 24), none, []⟩]
theorem v26_18 : VS L26_18.eq_1 := rfl
def L26_19 : List AStep := [⟨.mov (.t 41), (some 10), none, []⟩]
theorem v26_19 : VS L26_19.eq_1 := rfl
def L26_20 : List AStep := ⟨.alloc 41 [(.sl none 0 (some 0)), (.sl none 0 (some 0))], (some 9), none, []⟩ :: ⟨.store 2 (.t 9) (.t 40), none, none, []⟩ :: L26_19
theorem v26_20 : VS L26_20.eq_1 := rfl
def L26_21 : List AStep := ⟨.extract (.t 36) 0, (some 40), none, []⟩ :: ⟨.extract (.t 36) 1, (some 41), none, []⟩ :: L26_20
theorem v26_21 : VS L26_21.eq_1 := rfl
def L26_22 : List AStep := ⟨.call 22 [(.t 37), (.t 38)], (some 39), none, []⟩ :: ⟨.mov (.t 39), (some 36), none, []⟩ :: L26_21
theorem v26_22 : VS L26_22.eq_1 := rfl
def L26_23 : List AStep := ⟨.load 2 true (.t 2), (some 37), none, []⟩ :: ⟨.load 2 true (.t 6), (some 38), none, []⟩ :: L26_22
theorem v26_23 : VS L26_23.eq_1 := rfl
def L26_24 : List AStep := [⟨.alloc 30 [(.sl none 0 (some 0)), (.sl none 0 (some 0))], (some 11), none, []⟩]
theorem v26_24 : VS L26_24.eq_1 := rfl
def L26_25 : List AStep := [⟨.len (.t 43), (some 44), none, []⟩, ⟨.mov (.c (.int .i64 0)), (some 45), none, []⟩]
theorem v26_25 : VS L26_25.eq_1 := rfl
def L26_26 : List AStep := ⟨.faddr 0 (.t 9), (some 42), none, []⟩ :: ⟨.load 1 false (.t 42), (some 43), none, []⟩ :: L26_25
theorem v26_26 : VS L26_26.eq_1 := rfl
def L26_27 : List AStep := [⟨.bin .lss (.t 45) (.t 44), (some 46), none, []⟩]
theorem v26_27 : VS L26_27.eq_1 := rfl
def L26_28 : List AStep := [⟨.alloc 83 [(.bool false), (.int .i64 0)], (some 13), none, []⟩, ⟨.store 2 (.t 13) (.t 48), none, none, []⟩]
theorem v26_28 : VS L26_28.eq_1 := rfl
def L26_29 : List AStep := ⟨.iaddr 2 (.t 43) (.t 45), (some 47), none, []⟩ :: ⟨.load 2 true (.t 47), (some 48), none, []⟩ :: L26_28
theorem v26_29 : VS L26_29.eq_1 := rfl
def L26_30 : List AStep := [⟨.faddr 0 (.t 11), (some 55), none, []⟩, ⟨.store 1 (.t 55) (.t 54), none, none, []⟩]
theorem v26_30 : VS L26_30.eq_1 := rfl
def L26_31 : List AStep := ⟨.buildSlice 3 1 [(.int .i64 0)] [(0, 1, (.t 52))], (some 53), none, []⟩ :: ⟨.append 3 1 8 (.t 50) (.t 53), (some 54), none, []⟩ :: L26_30
theorem v26_31 : VS L26_31.eq_1 := rfl
def L26_32 : List AStep := ⟨.faddr 1 (.t 13), (some 51), none, []⟩ :: ⟨.load 1 false (.t 51), (some 52), none, []⟩ :: L26_31
theorem v26_32 : VS L26_32.eq_1 := rfl
def L26_33 : List AStep := ⟨.faddr 0 (.t 11), (some 49), none, []⟩ :: ⟨.load 1 false (.t 49), (some 50), none, []⟩ :: L26_32
theorem v26_33 : VS L26_33.eq_1 := rfl
def L26_34 : List AStep := [⟨.bin .add (.t 45) (.c (.int .i64 1)), (some 56), none, []⟩, ⟨.mov (.t 56), (some 45), none, []⟩]
theorem v26_34 : VS L26_34.eq_1 := rfl
def L26_35 : List AStep := [⟨.faddr 1 (.t 11), (some 59), none, []⟩, ⟨.store 1 (.t 59) (.t 58), none, none, []⟩]
theorem v26_35 : VS L26_35.eq_1 := rfl
def L26_36 : List AStep := ⟨.faddr 1 (.t 9), (some 57), none, []⟩ :: ⟨.load 1 false (.t 57), (some 58), none, []⟩ :: L26_35
theorem v26_36 : VS L26_36.eq_1 := rfl
def L26_37 : List AStep := [⟨.mov (.t 64), (some 5), none, []⟩]
theorem v26_37 : VS L26_37.eq_1 := rfl
def L26_38 : List AStep := ⟨.extract (.t 62) 1, (some 64), none, []⟩ :: ⟨.store 2 (.t 4) (.t 63), none, none, []⟩ :: L26_37
theorem v26_38 : VS L26_38.eq_1 := rfl
def L26_39 : List AStep := ⟨.call 91 [(.t 60), (.t 61)], (some 62), none, []⟩ :: ⟨.extract (.t 62) 0, (some 63), none, []⟩ :: L26_38
theorem v26_39 : VS L26_39.eq_1 := rfl
def L26_40 : List AStep := ⟨.load 2 true (.t 11), (some 60), none, []⟩ :: ⟨.mov (.t 10), (some 61), none, []⟩ :: L26_39
theorem v26_40 : VS L26_40.eq_1 := rfl
def C26_0 : ACode := .seq (.reg L26_5) .ret
theorem u26_0 : VC C26_0.eq_1 := rfl
def C26_1 : ACode := .cond (.t 16) C26_0 .skip
theorem u26_1 : VC C26_1.eq_1 := rfl
def C26_2 : ACode := .seq (.reg L26_3) C26_1
theorem u26_2 : VC C26_2.eq_1 := rfl
def C26_3 : ACode := .cond (.t 25) .skip (.exit 0)
theorem u26_3 : VC C26_3.eq_1 := rfl
def C26_4 : ACode := .seq (.reg L26_13) (.reg L26_17)
theorem u26_4 : VC C26_4.eq_1 := rfl
def C26_5 : ACode := .block 1 C26_4
theorem u26_5 : VC C26_5.eq_1 := rfl
def C26_6 : ACode := .seq C26_5 (.reg L26_18)
theorem u26_6 : VC C26_6.eq_1 := rfl
def C26_7 : ACode := .seq C26_3 C26_6
theorem u26_7 : VC C26_7.eq_1 := rfl
def C26_8 : ACode := .seq (.reg L26_11) C26_7
theorem u26_8 : VC C26_8.eq_1 := rfl
def C26_9 : ACode := .block 0 (.loop C26_8)
theorem u26_9 : VC C26_9.eq_1 := rfl
def C26_10 : ACode := .seq (.reg L26_10) C26_9
theorem u26_10 : VC C26_10.eq_1 := rfl
def C26_11 : ACode := .cond (.t 46) .skip (.exit 2)
theorem u26_11 : VC C26_11.eq_1 := rfl
def C26_12 : ACode := .seq (.reg L26_29) (.reg L26_33)
theorem u26_12 : VC C26_12.eq_1 := rfl
def C26_13 : ACode := .block 3 C26_12
theorem u26_13 : VC C26_13.eq_1 := rfl
def C26_14 : ACode := .seq C26_13 (.reg L26_34)
theorem u26_14 : VC C26_14.eq_1 := rfl
def C26_15 : ACode := .seq C26_11 C26_14
theorem u26_15 : VC C26_15.eq_1 := rfl
def C26_16 : ACode := .seq (.reg L26_27) C26_15
theorem u26_16 : VC C26_16.eq_1 := rfl
def C26_17 : ACode := .block 2 (.loop C26_16)
theorem u26_17 : VC C26_17.eq_1 := rfl
def C26_18 : ACode := .seq (.reg L26_26) C26_17
theorem u26_18 : VC C26_18.eq_1 := rfl
def C26_19 : ACode := .seq (.reg L26_40) .ret
theorem u26_19 : VC C26_19.eq_1 := rfl
def C26_20 : ACode := .seq (.reg L26_36) C26_19
theorem u26_20 : VC C26_20.eq_1 := rfl
def C26_21 : ACode := .seq C26_18 C26_20
theorem u26_21 : VC C26_21.eq_1 := rfl
def C26_22 : ACode := .seq (.reg L26_24) C26_21
theorem u26_22 : VC C26_22.eq_1 := rfl
def C26_23 : ACode := .seq (.reg L26_23) C26_22
theorem u26_23 : VC C26_23.eq_1 := rfl
def C26_24 : ACode := .seq C26_10 C26_23
theorem u26_24 : VC C26_24.eq_1 := rfl
def C26_25 : ACode := .seq (.reg L26_8) C26_24
theorem u26_25 : VC C26_25.eq_1 := rfl
def C26_26 : ACode := .seq C26_2 C26_25
theorem u26_26 : VC C26_26.eq_1 := rfl
def C26_27 : ACode := .seq (.reg L26_1) C26_26
theorem u26_27 : VC C26_27.eq_1 := rfl
def F26 : AFunc := ⟨65, [.cell 4 2 true, .tmp 5], C26_27⟩
theorem cF26 : compB Try.prog 26 = some F26 := by kernel_rfl
attribute [local go_sem ↓] u26_0 u26_1 u26_2 u26_3 u26_4 u26_5 u26_6 u26_7 u26_8 u26_9 u26_10 u26_11 u26_12 u26_13 u26_14 u26_15 u26_16 u26_17 u26_18 u26_19 u26_20 u26_21 u26_22 u26_23 u26_24 u26_25 u26_26 u26_27 v26_0 v26_1 v26_2 v26_3 v26_4 v26_5 v26_6 v26_7 v26_8 v26_9 v26_10 v26_11 v26_12 v26_13 v26_14 v26_15 v26_16 v26_17 v26_18 v26_19 v26_20 v26_21 v26_22 v26_23 v26_24 v26_25 v26_26 v26_27 v26_28 v26_29 v26_30 v26_31 v26_32 v26_33 v26_34 v26_35 v26_36 v26_37 v26_38 v26_39 v26_40
theorem k_iFillHoles (f : Holes) (g : Flat) (p n q m : CV) (h : H) (hf : SlH h p n f) (hg : SlF h q m g) (hn : miniH f) (hm : miniF g) :
    callK (bm Try.prog 26 [.agg [p, n], .agg [q, m]] h) fun r h' => Grow h h' ∧ ∃ p' n', r = .tup [.agg [p', n'], .one (.bool (FillHoles f g).isSome)] ∧ NwF h h' p' n' (orF (FillHoles f g)) := by
  refine bm_of cF26 ?_
  have v2 := c_ValidFlat g q m h hg.pl hg.nl hm.sm
  cases b2 : okFlat g with
  | false =>
    rw [Fill_none b2]
    simp +contextual (maxSteps := 2000000) only [go_sem, Nat.reduceEqDiff, reduceCtorEq, Nat.reduceAdd, Nat.reduceLeDiff, F26, v2, b2]
    exact ⟨Grow.refl h, _, _, rfl, .nil⟩
  | true =>
  have a1 := hn.pl
  have a2 := hm.pl
  have a3 := hn.nl
  have a4 := hm.nl
  have fo := Fill_of f g b2
  simp +contextual (maxSteps := 2000000) only [go_sem, Nat.reduceEqDiff, reduceCtorEq, Nat.reduceAdd, Nat.reduceLeDiff, F26, v2, b2, hg.pl.len]
  refine wpC_loop (fun i T L h' => Grow h h' ∧ T 2 = .lp 2 0 ∧ (L 2).2 = [p, n] ∧ T 4 = .lp 4 0 ∧ (L 4).2 = [.sl none 0 (some 0), .sl none 0 (some 0)] ∧ T 6 = .lp 6 0 ∧ (∃ c, (L 6).2 = [c, m] ∧ NwL h h' (.one c) ((g.pl.take i).map ofN)) ∧ T 22 = .v (.one q) ∧ T 23 = .v (.one (.int .i64 g.pl.length)) ∧ T 24 = .v (.one (.int .i64 i))) g.pl.length ?_ ?_ (Nat.zero_le _) ?_
  · rintro i T L h' hi ⟨gg, t2, l2, t4, l4, t6, ⟨c, l6, x⟩, t22, t23, t24⟩
    have kg := hg.grow gg
    simp +contextual (maxSteps := 2000000) only [go_sem, Nat.reduceEqDiff, reduceCtorEq, Nat.reduceAdd, Nat.reduceLeDiff, t2, l2, t4, l4, t6, l6, t22, t23, t24, kg.pl.iaddr hi, kg.pl.oneO hi, lt_true hi]
    refine wp_lit (enc := encL) (k := 2) (l := [ofN g.pl[i]]) rfl rfl ?_
    intro h4 w4 g4 n4 _
    simp +contextual (maxSteps := 2000000) only [go_sem, Nat.reduceEqDiff, reduceCtorEq, Nat.reduceAdd, Nat.reduceLeDiff, t2, l2, t4, l4, t6, l6, t22, t23, t24]
    refine wp_append lenL (x.grow g4) (n4.sl lenL) (gg.trans g4) (by simp; omega) ?_
    intro h5 s5 g5 n5 _ _
    obtain ⟨c5, rfl⟩ := n5.one
    simp +contextual (maxSteps := 2000000) only [go_sem, Nat.reduceEqDiff, reduceCtorEq, Nat.reduceAdd, Nat.reduceLeDiff, t2, l2, t4, l4, t6, l6, t22, t23, t24]
    refine ⟨g5, ⟨c5, rfl, ?_⟩, by rw [wrap_next hi (by omega)]⟩
    rw [List.take_succ_eq_append_getElem hi, List.map_append]
    exact n5
  · rintro T L h' ⟨gg, t2, l2, t4, l4, t6, ⟨c, l6, x⟩, t22, t23, t24⟩
    rw [List.take_length] at x
    have kg := hg.grow gg
    simp +contextual (maxSteps := 2000000) only [go_sem, Nat.reduceEqDiff, reduceCtorEq, Nat.reduceAdd, Nat.reduceLeDiff, t2, l2, t4, l4, t6, l6, t22, t23, t24, lt_false]
    refine wp_call (k_iShiftHoles f (holesOf g) p n c m h' (hf.grow gg) ⟨x.sl lenL, kg.nl⟩ hn (.ofF hm)) ?_
    rintro r h1 ⟨g1, p', n', rfl, x1⟩
    rw [fo] at x1 ⊢
    have x2 := x1.from gg.n
    have g2 := gg.trans g1
    have sz : ((FillHoles f g).map holesOf).isSome = (FillHoles f g).isSome := by cases FillHoles f g <;> rfl
    rw [sz]
    have so : orH ((FillHoles f g).map holesOf) = holesOf (orF (FillHoles f g)) := by cases FillHoles f g <;> rfl
    rw [so] at x2
    have mf : miniF (orF (FillHoles f g)) := .fill
    have b1 := mf.pl
    have lf : (holesOf (orF (FillHoles f g))).pl.length = (orF (FillHoles f g)).pl.length := by simp [holesOf]
    have xl := x2.pl.length
    rw [lf] at xl
    simp +contextual (maxSteps := 2000000) only [go_sem, Nat.reduceEqDiff, reduceCtorEq, Nat.reduceAdd, Nat.reduceLeDiff, t2, l2, t4, l4, t6, l6, xl]
    refine wpC_loop (fun i T L h' => Grow h1 h' ∧ T 4 = .lp 4 0 ∧ (L 4).2 = [.sl none 0 (some 0), .sl none 0 (some 0)] ∧ T 9 = .lp 9 0 ∧ (L 9).2 = [p', n'] ∧ T 10 = .v (.one (.bool (FillHoles f g).isSome)) ∧ T 11 = .lp 11 0 ∧ (∃ c, (L 11).2 = [c, .sl none 0 (some 0)] ∧ NwI h1 h' (.one c) ((orF (FillHoles f g)).pl.take i)) ∧ T 43 = .v (.one p') ∧ T 44 = .v (.one (.int .i64 (orF (FillHoles f g)).pl.length)) ∧ T 45 = .v (.one (.int .i64 i))) (orF (FillHoles f g)).pl.length ?_ ?_ (Nat.zero_le _) ?_
    · rintro i T L h' hi ⟨gg, t4, l4, t9, l9, t10, t11, ⟨c, l11, x⟩, t43, t44, t45⟩
      have y := x2.sl.grow gg
      have hy : i < (holesOf (orF (FillHoles f g))).pl.length := by rw [lf]; exact hi
      have yw := y.pl.whole hy
      have ye : (holesOf (orF (FillHoles f g))).pl[i] = ofN (orF (FillHoles f g)).pl[i] := by simp [holesOf]
      rw [ye] at yw
      simp +contextual (maxSteps := 2000000) only [go_sem, Nat.reduceEqDiff, reduceCtorEq, Nat.reduceAdd, Nat.reduceLeDiff, t4, l4, t9, l9, t10, t11, l11, t43, t44, t45, y.pl.iaddr hy, yw, encL, ofN, lt_true hi]
      refine wp_lit (enc := encI) (k := 1) (l := [(orF (FillHoles f g)).pl[i]]) rfl rfl ?_
      intro h4 w4 g4 n4 _
      simp +contextual (maxSteps := 2000000) only [go_sem, Nat.reduceEqDiff, reduceCtorEq, Nat.reduceAdd, Nat.reduceLeDiff, t4, l4, t9, l9, t10, t11, l11, t43, t44, t45]
      refine wp_append lenI (x.grow g4) (n4.sl lenI) (gg.trans g4) (by simp; omega) ?_
      intro h5 s5 g5 n5 st5 hb5
      obtain ⟨c5, rfl⟩ := n5.one
      simp +contextual (maxSteps := 2000000) only [go_sem, Nat.reduceEqDiff, reduceCtorEq, Nat.reduceAdd, Nat.reduceLeDiff, t4, l4, t9, l9, t10, t11, l11, t43, t44, t45]
      refine ⟨g5, ⟨c5, rfl, ?_⟩, by rw [wrap_next hi (by omega)]⟩
      rw [List.take_succ_eq_append_getElem hi]
      exact n5
    · rintro T L h' ⟨gg, t4, l4, t9, l9, t10, t11, ⟨c, l11, x⟩, t43, t44, t45⟩
      rw [List.take_length] at x
      have y := x2.sl.grow gg
      simp +contextual (maxSteps := 2000000) only [go_sem, Nat.reduceEqDiff, reduceCtorEq, Nat.reduceAdd, Nat.reduceLeDiff, t4, l4, t9, l9, t10, t11, l11, t43, t44, t45, lt_false]
      refine wp_call (c_checked (orF (FillHoles f g)) c n' (FillHoles f g).isSome h' ⟨x.sl lenI, y.nl⟩ mf.sm) ?_
      rintro r h5 ⟨g5, p2, n2, rfl, x5⟩
      have gg := g2.trans gg
      have x6 := x5.from gg.n
      have ez : ((FillHoles f g).isSome && okFlat (orF (FillHoles f g))) = (FillHoles f g).isSome := by
        unfold FillHoles okF orF
        split
        · split <;> simp_all
        · rfl
      rw [ez] at x6 ⊢
      have e7 : (if (FillHoles f g).isSome = true then orF (FillHoles f g) else ⟨[], []⟩) = orF (FillHoles f g) := by
        cases FillHoles f g <;> rfl
      rw [e7] at x6
      simp +contextual (maxSteps := 2000000) only [go_sem, Nat.reduceEqDiff, reduceCtorEq, Nat.reduceAdd, Nat.reduceLeDiff, t4, l4, t9, l9, t10, t11, l11]
      exact gcK_of ⟨gg.trans g5, _, _, rfl, x6⟩ (fun hs _ => ⟨Grow.refl h, _, _, rfl, x6.scalar (by simpa [AV.scalar, AV.scalars, CV.scalar] using hs) h⟩)
    · simp +contextual (maxSteps := 2000000) only [go_sem, Nat.reduceEqDiff, reduceCtorEq, Nat.reduceAdd, Nat.reduceLeDiff, t4, l4]
      exact ⟨Grow.refl h1, ⟨_, rfl, .nil⟩, rfl⟩
  · simp +contextual (maxSteps := 2000000) only [go_sem, Nat.reduceEqDiff, reduceCtorEq, Nat.reduceAdd, Nat.reduceLeDiff]
    exact ⟨Grow.refl h, ⟨_, rfl, .nil⟩, rfl⟩
end Go.Proofs.Ytnphlonhogcedaa.Am
