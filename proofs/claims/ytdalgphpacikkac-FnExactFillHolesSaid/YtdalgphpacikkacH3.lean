/- Contracts: holes that are filled, of both sides. -/
import Derived.Test.YtdalgphpacikkacH2
import Derived.Test.YtdalgphpacikkacHD
namespace Go.Proofs.Ytdalgphpacikkac.Am
open Go
set_option maxRecDepth 100000
set_option maxHeartbeats 4000000
set_option linter.unusedSimpArgs false
set_option linter.unusedVariables false
attribute [local go_sem ↓] bv_t bv_c ev_t ev_c put_same put_ne put_none kill_at pro_at lb_same lb_ne start_zero start_succ wpC_seq wpC_reg wpC_cond wpC_block wpC_skip wpC_exit wpC_ret thenQ_normal thenQ_exit thenQ_ret inBlk_normal inBlk_exit inBlk_ret wpS_nil wpS_step wpS_again wpS_guard wpO_mov wpO_load wpO_faddr wpO_nilCheck wpO_pick wpO_build wpO_bin wpO_eqb wpO_eqst wpO_eqnil wpO_not wpO_conv wpO_bytesStr wpO_iaddr wpO_idxStr wpO_field wpO_extract wpO_len wpO_lenStr wpO_cap wpO_min wpO_slice wpO_sliceStr wpO_alloc wpO_box wpO_store wpO_call wpO_callv wpO_mkfn wpO_buildSlice wpO_mkslice wpO_append wpO_appz proA_nil proA_cons tmpX_nil tmpX_tmp tmpX_cell doneB_normal doneB_ret agK_cons agK_nil agK_guard agG_tt agG_ff agG_tf agG_ft agG_undef pureB_load results_one results_two results_nil resBs_cons resBs_nil resB_tmp resB_cell
attribute [local go_sem] kill_v kill_lp_ne kill_lp_same pro_v pro_lp_same pro_lp_ne av_v av_lp optB_some optX_some valX_eq ldX_lp ldX_v faX_lp faX_v ncX_lp ncX_ptr ncX_fn boxK_one boxK_agg stL_some stK_lp_one stK_lp_agg stK_v_one stK_v_agg proM_v proM_lp callG_mk callVG_mk callvK_fn fnG_mk ptrsA_nil ptrsA_cons callH_some whenA_true whenA_false guardH_tt guardH_ff guardH_tf guardH_ft guardH_undef agV_one agV_agg lenO_sl lenStrO_str notO_bool pickO_bool convO_int eqbO_bool eqnilO_sl extractO_tup capO_sl minO_int loadL_one loadL_all storeL_eq fillA_nil fillA_one fillA_agg nat_ge neg_ge nat_lt neg_lt buildO bin_add bin_sub bin_mul bin_eql bin_neq bin_lss bin_leq bin_gtr bin_geq str_eql str_neq str_lss str_leq str_gtr str_geq retK_some endK_mk gcK_same gcK_int gcK_bool tupO_one tupO_agg rdy_self ib ii Option.map_none Option.map_some Option.some.injEq exists_eq_left' exists_eq_left ne_eq not_false_eq_true if_true if_false List.map_cons List.map_nil List.getElem?_cons_zero List.getElem?_cons_succ List.length_cons List.length_nil List.take_succ_cons List.take_zero List.take_nil List.drop_succ_cons List.drop_zero List.drop_nil List.cons_append List.nil_append List.append_nil List.set_cons_zero List.set_cons_succ Nat.zero_add forall_const true_and and_true and_self Bool.false_eq_true false_implies true_implies implies_true Bool.not_true Bool.not_false Bool.not_eq_true' Bool.not_eq_false' beq_self_eq_true Bool.bne_true Bool.bne_false
attribute [local go_sem] lenI lenS lenP lenQ lenB lenL lenT encI_0 encS_0 encP_0 encP_1 encQ_0 encQ_1 encQ_2 encQ_3 encB_0 encB_1 encL_0 encL_1 encT_0 encT_1
attribute [local go_sem low] whenA_bool guardH_bool
theorem miniH.ofF {g : Flat} (h : miniF g) : miniH (holesOf g) := ⟨by simpa [holesOf] using h.pl, h.nl, h.nm⟩
/-! spec.FillHoles -/
def L10_0 : List AStep := [⟨.alloc 33 [(.sl none 0 (some 0)), (.sl none 0 (some 0))], (some 4), none, []⟩, ⟨.mov (.c (.bool false)), (some 5), none, []⟩]
theorem v10_0 : VS L10_0.eq_1 := rfl
def L10_1 : List AStep := ⟨.box 38 (.t 0), (some 2), none, []⟩ :: ⟨.box 33 (.t 1), (some 3), none, []⟩ :: L10_0
theorem v10_1 : VS L10_1.eq_1 := rfl
def L10_2 : List AStep := [⟨.bin .lss (.t 20) (.t 22), (some 23), (some (17, false)), []⟩, ⟨.pick (.t 17) (.c (.bool true)) (.t 23), (some 24), none, []⟩]
theorem v10_2 : VS L10_2.eq_1 := rfl
def L10_3 : List AStep := ⟨.load 2 true (.t 2), (some 21), (some (17, false)), []⟩ :: ⟨.call 42 [(.t 21)], (some 22), (some (17, false)), [(.load 1 false (.t 18), (some 19), (some (17, false)))]⟩ :: L10_2
theorem v10_3 : VS L10_3.eq_1 := rfl
def L10_4 : List AStep := ⟨.load 1 false (.t 18), (some 19), (some (17, false)), []⟩ :: ⟨.len (.t 19), (some 20), (some (17, false)), []⟩ :: L10_3
theorem v10_4 : VS L10_4.eq_1 := rfl
def L10_5 : List AStep := ⟨.mov (.t 16), (some 17), none, []⟩ :: ⟨.faddr 0 (.t 3), (some 18), (some (17, false)), []⟩ :: L10_4
theorem v10_5 : VS L10_5.eq_1 := rfl
def L10_6 : List AStep := ⟨.not (.t 14), (some 15), (some (12, false)), []⟩ :: ⟨.pick (.t 12) (.c (.bool true)) (.t 15), (some 16), none, []⟩ :: L10_5
theorem v10_6 : VS L10_6.eq_1 := rfl
def L10_7 : List AStep := ⟨.load 2 true (.t 3), (some 13), (some (12, false)), []⟩ :: ⟨.call 41 [(.t 13)], (some 14), (some (12, false)), []⟩ :: L10_6
theorem v10_7 : VS L10_7.eq_1 := rfl
def L10_8 : List AStep := ⟨.not (.t 10), (some 11), none, []⟩ :: ⟨.mov (.t 11), (some 12), none, []⟩ :: L10_7
theorem v10_8 : VS L10_8.eq_1 := rfl
def L10_9 : List AStep := ⟨.load 2 true (.t 2), (some 9), none, []⟩ :: ⟨.call 40 [(.t 9)], (some 10), none, []⟩ :: L10_8
theorem v10_9 : VS L10_9.eq_1 := rfl
def L10_10 : List AStep := [⟨.mov (.c (.bool false)), (some 5), none, []⟩]
theorem v10_10 : VS L10_10.eq_1 := rfl
def L10_11 : List AStep := ⟨.build [(.sl none 0 (some 0)), (.sl none 0 (some 0))] [], (some 25), none, []⟩ :: ⟨.store 2 (.t 4) (.t 25), none, none, []⟩ :: L10_10
theorem v10_11 : VS L10_11.eq_1 := rfl
def L10_12 : List AStep := [⟨.alloc 33 [(.sl none 0 (some 0)), (.sl none 0 (some 0))], (some 6), none, []⟩, ⟨.store 2 (.t 6) (.t 31), none, none, []⟩]
theorem v10_12 : VS L10_12.eq_1 := rfl
def L10_13 : List AStep := ⟨.append 106 2 24 (.t 27) (.t 29), (some 30), none, []⟩ :: ⟨.build [(.sl none 0 (some 0)), (.sl none 0 (some 0))] [(0, 1, (.t 26)), (1, 1, (.t 30))], (some 31), none, []⟩ :: L10_12
theorem v10_13 : VS L10_13.eq_1 := rfl
def L10_14 : List AStep := ⟨.faddr 1 (.t 2), (some 28), none, []⟩ :: ⟨.load 1 false (.t 28), (some 29), none, []⟩ :: L10_13
theorem v10_14 : VS L10_14.eq_1 := rfl
def L10_15 : List AStep := ⟨.buildSlice 3 0 [(.int .i64 0)] [], (some 26), none, []⟩ :: ⟨.buildSlice 106 0 [(.str (strOfNums [])), (.int .i64 0)] [], (some 27), none, []⟩ :: L10_14
theorem v10_15 : VS L10_15.eq_1 := rfl
def L10_16 : List AStep := [⟨.mov (.c (.int .i64 0)), (some 7), none, []⟩]
theorem v10_16 : VS L10_16.eq_1 := rfl
def L10_17 : List AStep := [⟨.mov (.c (.int .i64 0)), (some 8), none, []⟩]
theorem v10_17 : VS L10_17.eq_1 := rfl
def L10_18 : List AStep := [⟨.bin .lss (.t 32) (.t 35), (some 36), none, []⟩]
theorem v10_18 : VS L10_18.eq_1 := rfl
def L10_19 : List AStep := ⟨.load 1 false (.t 33), (some 34), none, []⟩ :: ⟨.len (.t 34), (some 35), none, []⟩ :: L10_18
theorem v10_19 : VS L10_19.eq_1 := rfl
def L10_20 : List AStep := ⟨.mov (.t 8), (some 32), none, []⟩ :: ⟨.faddr 0 (.t 2), (some 33), none, []⟩ :: L10_19
theorem v10_20 : VS L10_20.eq_1 := rfl
def L10_21 : List AStep := [⟨.faddr 0 (.t 42), (some 43), none, []⟩, ⟨.load 1 false (.t 43), (some 44), none, []⟩]
theorem v10_21 : VS L10_21.eq_1 := rfl
def L10_22 : List AStep := ⟨.mov (.t 8), (some 41), none, []⟩ :: ⟨.iaddr 2 (.t 40) (.t 41), (some 42), none, []⟩ :: L10_21
theorem v10_22 : VS L10_22.eq_1 := rfl
def L10_23 : List AStep := ⟨.faddr 0 (.t 2), (some 39), none, []⟩ :: ⟨.load 1 false (.t 39), (some 40), none, []⟩ :: L10_22
theorem v10_23 : VS L10_23.eq_1 := rfl
def L10_24 : List AStep := [⟨.store 1 (.t 54) (.t 53), none, none, []⟩]
theorem v10_24 : VS L10_24.eq_1 := rfl
def L10_25 : List AStep := ⟨.append 3 1 8 (.t 46) (.t 52), (some 53), none, []⟩ :: ⟨.faddr 0 (.t 6), (some 54), none, []⟩ :: L10_24
theorem v10_25 : VS L10_25.eq_1 := rfl
def L10_26 : List AStep := ⟨.load 1 false (.t 50), (some 51), none, []⟩ :: ⟨.buildSlice 3 1 [(.int .i64 0)] [(0, 1, (.t 51))], (some 52), none, []⟩ :: L10_25
theorem v10_26 : VS L10_26.eq_1 := rfl
def L10_27 : List AStep := ⟨.mov (.t 7), (some 49), none, []⟩ :: ⟨.iaddr 1 (.t 48) (.t 49), (some 50), none, []⟩ :: L10_26
theorem v10_27 : VS L10_27.eq_1 := rfl
def L10_28 : List AStep := ⟨.faddr 0 (.t 3), (some 47), none, []⟩ :: ⟨.load 1 false (.t 47), (some 48), none, []⟩ :: L10_27
theorem v10_28 : VS L10_28.eq_1 := rfl
def L10_29 : List AStep := ⟨.faddr 0 (.t 6), (some 45), none, []⟩ :: ⟨.load 1 false (.t 45), (some 46), none, []⟩ :: L10_28
theorem v10_29 : VS L10_29.eq_1 := rfl
def L10_30 : List AStep := [⟨.mov (.t 56), (some 7), none, []⟩]
theorem v10_30 : VS L10_30.eq_1 := rfl
def L10_31 : List AStep := ⟨.mov (.t 7), (some 55), none, []⟩ :: ⟨.bin .add (.t 55) (.c (.int .i64 1)), (some 56), none, []⟩ :: L10_30
theorem v10_31 : VS L10_31.eq_1 := rfl
def L10_32 : List AStep := [⟨.faddr 0 (.t 6), (some 67), none, []⟩, ⟨.store 1 (.t 67) (.t 66), none, none, []⟩]
theorem v10_32 : VS L10_32.eq_1 := rfl
def L10_33 : List AStep := ⟨.buildSlice 3 1 [(.int .i64 0)] [(0, 1, (.t 64))], (some 65), none, []⟩ :: ⟨.append 3 1 8 (.t 58) (.t 65), (some 66), none, []⟩ :: L10_32
theorem v10_33 : VS L10_33.eq_1 := rfl
def L10_34 : List AStep := ⟨.faddr 1 (.t 62), (some 63), none, []⟩ :: ⟨.load 1 false (.t 63), (some 64), none, []⟩ :: L10_33
theorem v10_34 : VS L10_34.eq_1 := rfl
def L10_35 : List AStep := ⟨.mov (.t 8), (some 61), none, []⟩ :: ⟨.iaddr 2 (.t 60) (.t 61), (some 62), none, []⟩ :: L10_34
theorem v10_35 : VS L10_35.eq_1 := rfl
def L10_36 : List AStep := ⟨.faddr 0 (.t 2), (some 59), none, []⟩ :: ⟨.load 1 false (.t 59), (some 60), none, []⟩ :: L10_35
theorem v10_36 : VS L10_36.eq_1 := rfl
def L10_37 : List AStep := ⟨.faddr 0 (.t 6), (some 57), none, []⟩ :: ⟨.load 1 false (.t 57), (some 58), none, []⟩ :: L10_36
theorem v10_37 : VS L10_37.eq_1 := rfl
def L10_38 : List AStep := [⟨.mov (.t 38), (some 8), none, []⟩]
theorem v10_38 : VS L10_38.eq_1 := rfl
def L10_39 : List AStep := ⟨.mov (.t 8), (some 37), none, []⟩ :: ⟨.bin .add (.t 37) (.c (.int .i64 1)), (some 38), none, []⟩ :: L10_38
theorem v10_39 : VS L10_39.eq_1 := rfl
def L10_40 : List AStep := [⟨.store 2 (.t 4) (.t 78), none, none, []⟩, ⟨.mov (.t 79), (some 5), none, []⟩]
theorem v10_40 : VS L10_40.eq_1 := rfl
def L10_41 : List AStep := ⟨.extract (.t 77) 0, (some 78), none, []⟩ :: ⟨.extract (.t 77) 1, (some 79), none, []⟩ :: L10_40
theorem v10_41 : VS L10_41.eq_1 := rfl
def L10_42 : List AStep := ⟨.call 44 [(.t 68), (.t 75)], (some 76), none, []⟩ :: ⟨.call 43 [(.t 76)], (some 77), none, []⟩ :: L10_41
theorem v10_42 : VS L10_42.eq_1 := rfl
def L10_43 : List AStep := ⟨.load 1 false (.t 73), (some 74), none, []⟩ :: ⟨.build [(.sl none 0 (some 0)), (.sl none 0 (some 0))] [(0, 1, (.t 72)), (1, 1, (.t 74))], (some 75), none, []⟩ :: L10_42
theorem v10_43 : VS L10_43.eq_1 := rfl
def L10_44 : List AStep := ⟨.slice 3 1 (.t 70) (some (.t 71)) none none, (some 72), none, []⟩ :: ⟨.faddr 1 (.t 3), (some 73), none, []⟩ :: L10_43
theorem v10_44 : VS L10_44.eq_1 := rfl
def L10_45 : List AStep := ⟨.load 1 false (.t 69), (some 70), none, []⟩ :: ⟨.mov (.t 7), (some 71), none, []⟩ :: L10_44
theorem v10_45 : VS L10_45.eq_1 := rfl
def L10_46 : List AStep := ⟨.load 2 true (.t 6), (some 68), none, []⟩ :: ⟨.faddr 0 (.t 3), (some 69), none, []⟩ :: L10_45
theorem v10_46 : VS L10_46.eq_1 := rfl
def C10_0 : ACode := .seq (.reg L10_11) .ret
theorem u10_0 : VC C10_0.eq_1 := rfl
def C10_1 : ACode := .cond (.t 24) C10_0 .skip
theorem u10_1 : VC C10_1.eq_1 := rfl
def C10_2 : ACode := .seq (.reg L10_9) C10_1
theorem u10_2 : VC C10_2.eq_1 := rfl
def C10_3 : ACode := .cond (.t 36) .skip (.exit 0)
theorem u10_3 : VC C10_3.eq_1 := rfl
def C10_4 : ACode := .seq (.reg L10_20) C10_3
theorem u10_4 : VC C10_4.eq_1 := rfl
def C10_5 : ACode := .seq (.reg L10_29) (.reg L10_31)
theorem u10_5 : VC C10_5.eq_1 := rfl
def C10_6 : ACode := .cond (.t 44) C10_5 (.reg L10_37)
theorem u10_6 : VC C10_6.eq_1 := rfl
def C10_7 : ACode := .seq (.reg L10_23) C10_6
theorem u10_7 : VC C10_7.eq_1 := rfl
def C10_8 : ACode := .block 1 C10_7
theorem u10_8 : VC C10_8.eq_1 := rfl
def C10_9 : ACode := .seq C10_8 (.reg L10_39)
theorem u10_9 : VC C10_9.eq_1 := rfl
def C10_10 : ACode := .seq C10_4 C10_9
theorem u10_10 : VC C10_10.eq_1 := rfl
def C10_11 : ACode := .block 0 (.loop C10_10)
theorem u10_11 : VC C10_11.eq_1 := rfl
def C10_12 : ACode := .seq (.reg L10_17) C10_11
theorem u10_12 : VC C10_12.eq_1 := rfl
def C10_13 : ACode := .seq (.reg L10_46) .ret
theorem u10_13 : VC C10_13.eq_1 := rfl
def C10_14 : ACode := .seq C10_12 C10_13
theorem u10_14 : VC C10_14.eq_1 := rfl
def C10_15 : ACode := .seq (.reg L10_16) C10_14
theorem u10_15 : VC C10_15.eq_1 := rfl
def C10_16 : ACode := .seq (.reg L10_15) C10_15
theorem u10_16 : VC C10_16.eq_1 := rfl
def C10_17 : ACode := .seq C10_2 C10_16
theorem u10_17 : VC C10_17.eq_1 := rfl
def C10_18 : ACode := .seq (.reg L10_1) C10_17
theorem u10_18 : VC C10_18.eq_1 := rfl
def F10 : AFunc := ⟨80, [.cell 4 2 true, .tmp 5], C10_18⟩
theorem cF10 : compB Try.prog 10 = some F10 := by kernel_rfl
attribute [local go_sem ↓] u10_0 u10_1 u10_2 u10_3 u10_4 u10_5 u10_6 u10_7 u10_8 u10_9 u10_10 u10_11 u10_12 u10_13 u10_14 u10_15 u10_16 u10_17 u10_18 v10_0 v10_1 v10_2 v10_3 v10_4 v10_5 v10_6 v10_7 v10_8 v10_9 v10_10 v10_11 v10_12 v10_13 v10_14 v10_15 v10_16 v10_17 v10_18 v10_19 v10_20 v10_21 v10_22 v10_23 v10_24 v10_25 v10_26 v10_27 v10_28 v10_29 v10_30 v10_31 v10_32 v10_33 v10_34 v10_35 v10_36 v10_37 v10_38 v10_39 v10_40 v10_41 v10_42 v10_43 v10_44 v10_45 v10_46
theorem k_sFillHoles (f : Holes) (g : Flat) (p n q m : CV) (h : H) (hf : SlH h p n f) (hg : SlF h q m g) (hn : miniH f) (hm : miniF g) :
    callK (bm Try.prog 10 [.agg [p, n], .agg [q, m]] h) fun r h' => Grow h h' ∧ ∃ p' n', r = .tup [.agg [p', n'], .one (.bool (FillHoles f g).isSome)] ∧ NwF h h' p' n' (orF (FillHoles f g)) := by
  refine bm_of cF10 ?_
  have v1 := c_validHoles f p n h hf hn.sm
  have v2 := c_validFlat g q m h hg.pl hg.nl hm.sm
  have v3 := c_countHoles f p n h hf hn.sm
  unfold FillHoles
  cases b1 : okHoles f with
  | false =>
    simp +contextual (maxSteps := 2000000) only [go_sem, Nat.reduceEqDiff, reduceCtorEq, Nat.reduceAdd, Nat.reduceLeDiff, F10, v1, b1, false_and, if_false]
    exact ⟨Grow.refl h, _, _, rfl, .nil⟩
  | true =>
  cases b2 : okFlat g with
  | false =>
    simp +contextual (maxSteps := 2000000) only [go_sem, Nat.reduceEqDiff, reduceCtorEq, Nat.reduceAdd, Nat.reduceLeDiff, F10, v1, b1, v2, b2, false_and, and_false, if_false]
    exact ⟨Grow.refl h, _, _, rfl, .nil⟩
  | true =>
  by_cases b3 : countH f.pl ≤ g.pl.length
  case neg =>
    have b4 : decide ((g.pl.length : Int) < (countH f.pl : Nat)) = true := decide_eq_true (by omega)
    simp +contextual (maxSteps := 2000000) only [go_sem, Nat.reduceEqDiff, reduceCtorEq, Nat.reduceAdd, Nat.reduceLeDiff, F10, v1, b1, v2, b2, v3, hg.pl.len, b4, b3, and_false, if_false]
    exact ⟨Grow.refl h, _, _, rfl, .nil⟩
  have b4 : decide ((g.pl.length : Int) < (countH f.pl : Nat)) = false := decide_eq_false (by omega)
  simp +contextual (maxSteps := 2000000) only [go_sem, Nat.reduceEqDiff, reduceCtorEq, Nat.reduceAdd, Nat.reduceLeDiff, F10, v1, b1, v2, b2, v3, hg.pl.len, b4, b3, and_self, if_true]
  have a1 := hn.pl
  have a2 := hm.pl
  have a3 := hn.nl
  have a4 := hm.nl
  refine wp_lit (enc := encI) (k := 1) (l := []) rfl rfl ?_
  intro h1 w1 g1 n1 _
  obtain ⟨c, rfl⟩ := n1.one
  simp +contextual (maxSteps := 2000000) only [go_sem, Nat.reduceEqDiff, reduceCtorEq, Nat.reduceAdd, Nat.reduceLeDiff]
  refine wp_lit (enc := encP) (k := 2) (l := []) rfl rfl ?_
  intro h2 w2 g2 n2 _
  simp +contextual (maxSteps := 2000000) only [go_sem, Nat.reduceEqDiff, reduceCtorEq, Nat.reduceAdd, Nat.reduceLeDiff]
  refine wp_append lenP (n2.from g1.n) ((hf.nl.grow g1).grow g2) (g1.trans g2) (by simp; omega) ?_
  intro h3 s3 g3 n3 st3 hb3
  obtain ⟨d, rfl⟩ := n3.one
  have z0 : NwF h h3 c d ⟨valsT f.pl g.pl 0, f.nl⟩ := ⟨(n1.grow g2).stay st3 (n1.apart n2), by simpa using n3, fun i hi hd => by
    rcases hb3 i hd with e | e
    · exact n1.apart n2 i hi e
    · have := (n1.lt hi).1
      have := g2.n
      omega⟩
  simp +contextual (maxSteps := 2000000) only [go_sem, Nat.reduceEqDiff, reduceCtorEq, Nat.reduceAdd, Nat.reduceLeDiff]
  refine wpC_loop (fun i T L h' => Grow h h' ∧ T 2 = .lp 2 0 ∧ (L 2).2 = [p, n] ∧ T 3 = .lp 3 0 ∧ (L 3).2 = [q, m] ∧ T 4 = .lp 4 0 ∧ (L 4).2 = [.sl none 0 (some 0), .sl none 0 (some 0)] ∧ T 6 = .lp 6 0 ∧ (∃ c d, (L 6).2 = [c, d] ∧ NwF h h' c d ⟨valsT f.pl g.pl i, f.nl⟩) ∧ T 7 = .v (.one (.int .i64 (cnt (fun p : Place => p.hole) f.pl i))) ∧ T 8 = .v (.one (.int .i64 i))) f.pl.length ?_ ?_ (Nat.zero_le _) ?_
  · rintro i T L h' hi ⟨gg, t2, l2, t3, l3, t4, l4, t6, ⟨c, d, l6, x⟩, t7, t8⟩
    have k := hf.grow gg
    have kg := hg.grow gg
    have e := cnt_next (p := fun p : Place => p.hole) hi
    have hvl := valsT_len (l := f.pl) (pl := g.pl) (i := i)
    cases b : f.pl[i].hole with
    | true =>
      rw [if_pos b] at e
      have hk : cnt (fun p : Place => p.hole) f.pl i < g.pl.length := by have := cnt_lt hi b; omega
      simp +contextual (maxSteps := 2000000) only [go_sem, Nat.reduceEqDiff, reduceCtorEq, Nat.reduceAdd, Nat.reduceLeDiff, t2, l2, t3, l3, t4, l4, t6, l6, t7, t8, k.pl.len, k.pl.iaddr hi, k.pl.fieldO hi, lt_true hi, b, kg.pl.iaddr hk, kg.pl.oneO hk]
      refine wp_lit (enc := encI) (k := 1) (l := [g.pl[cnt (fun p : Place => p.hole) f.pl i]]) rfl rfl ?_
      intro h4 w4 g4 n4 _
      simp +contextual (maxSteps := 2000000) only [go_sem, Nat.reduceEqDiff, reduceCtorEq, Nat.reduceAdd, Nat.reduceLeDiff, t2, l2, t3, l3, t4, l4, t6, l6, t7, t8]
      refine wp_append lenI (x.pl.grow g4) (n4.sl lenI) (gg.trans g4) (by simp; omega) ?_
      intro h5 s5 g5 n5 st5 hb5
      obtain ⟨c5, rfl⟩ := n5.one
      rw [← fillV_hole hi b hk, ← valsT_next] at n5
      have x5 := (x.grow g4).appPl n5 st5 hb5
      simp +contextual (maxSteps := 2000000) only [go_sem, Nat.reduceEqDiff, reduceCtorEq, Nat.reduceAdd, Nat.reduceLeDiff, t2, l2, t3, l3, t4, l4, t6, l6, t7, t8]
      exact ⟨g5, ⟨c5, d, rfl, x5⟩, by rw [wrap_next hk (by omega), e], by rw [wrap_next hi (by omega)]⟩
    | false =>
      rw [if_neg (by simp [b])] at e
      have e : cnt (fun p : Place => p.hole) f.pl (i + 1) = cnt (fun p : Place => p.hole) f.pl i := e
      simp +contextual (maxSteps := 2000000) only [go_sem, Nat.reduceEqDiff, reduceCtorEq, Nat.reduceAdd, Nat.reduceLeDiff, t2, l2, t3, l3, t4, l4, t6, l6, t7, t8, k.pl.len, k.pl.iaddr hi, k.pl.fieldO hi, lt_true hi, b]
      refine wp_lit (enc := encI) (k := 1) (l := [f.pl[i].value]) rfl rfl ?_
      intro h4 w4 g4 n4 _
      simp +contextual (maxSteps := 2000000) only [go_sem, Nat.reduceEqDiff, reduceCtorEq, Nat.reduceAdd, Nat.reduceLeDiff, t2, l2, t3, l3, t4, l4, t6, l6, t7, t8]
      refine wp_append lenI (x.pl.grow g4) (n4.sl lenI) (gg.trans g4) (by simp; omega) ?_
      intro h5 s5 g5 n5 st5 hb5
      obtain ⟨c5, rfl⟩ := n5.one
      rw [← fillV_plain hi b, ← valsT_next] at n5
      have x5 := (x.grow g4).appPl n5 st5 hb5
      simp +contextual (maxSteps := 2000000) only [go_sem, Nat.reduceEqDiff, reduceCtorEq, Nat.reduceAdd, Nat.reduceLeDiff, t2, l2, t3, l3, t4, l4, t6, l6, t7, t8]
      exact ⟨g5, ⟨c5, d, rfl, x5⟩, by rw [e], by rw [wrap_next hi (by omega)]⟩
  · rintro T L h' ⟨gg, t2, l2, t3, l3, t4, l4, t6, ⟨c, d, l6, x⟩, t7, t8⟩
    have k := hf.grow gg
    have kg := hg.grow gg
    rw [cnt_all] at t7
    have t7' : T 7 = .v (.one (.int .i64 (countH f.pl : Nat))) := t7
    obtain ⟨u, e1, s1⟩ := kg.pl.dropO (i := countH f.pl) b3 (kd := .i64)
    obtain ⟨uv, uc, rfl, _⟩ := s1.form
    simp +contextual (maxSteps := 2000000) only [go_sem, Nat.reduceEqDiff, reduceCtorEq, Nat.reduceAdd, Nat.reduceLeDiff, t2, l2, t3, l3, t4, l4, t6, l6, t7', t8, k.pl.len, lt_false, e1]
    have sg : smF ⟨g.pl.drop (countH f.pl), g.nl⟩ := ⟨by simp; unfold big; omega, hm.sm.nl⟩
    have sx : smF ⟨valsT f.pl g.pl f.pl.length, f.nl⟩ := ⟨by rw [valsT_len]; unfold big; omega, hn.sm.nl⟩
    refine wp_call (c_over ⟨valsT f.pl g.pl f.pl.length, f.nl⟩ ⟨g.pl.drop (countH f.pl), g.nl⟩ c d _ m h' x.sl ⟨s1, kg.nl⟩ sx sg (by rw [valsT_len]; simp; unfold big; omega) (by simp only; unfold big; omega)) ?_
    rintro r h5 ⟨g5, p', n', rfl, x5⟩
    have x6 : NwF h h5 p' n' (fillH f g) := x5.from gg.n
    have sm : smF (fillH f g) := ⟨by simp [fillH, valsT_len]; unfold big; omega, by have := putAll_sm (l := f.nl) (m := g.nl) (i := g.nl.length) (by unfold big; omega) hn.sm.nl.2 hm.sm.nl.2; rwa [List.take_length] at this⟩
    have ck := c_checkedFlat (fillH f g) p' n' h5 x6.sl sm
    unfold okF
    cases b5 : okFlat (fillH f g) with
    | false =>
      rw [b5] at ck
      simp +contextual (maxSteps := 2000000) only [go_sem, Nat.reduceEqDiff, reduceCtorEq, Nat.reduceAdd, Nat.reduceLeDiff, t2, l2, t3, l3, t4, l4, t6, l6, ck, if_false]
      exact gcK_of ⟨gg.trans g5, _, _, rfl, .nil⟩ (fun hs _ => ⟨Grow.refl h, _, _, rfl, .nil⟩)
    | true =>
      rw [b5] at ck
      simp +contextual (maxSteps := 2000000) only [go_sem, Nat.reduceEqDiff, reduceCtorEq, Nat.reduceAdd, Nat.reduceLeDiff, t2, l2, t3, l3, t4, l4, t6, l6, ck, if_true]
      exact gcK_of ⟨gg.trans g5, _, _, rfl, x6⟩ (fun hs _ => ⟨Grow.refl h, _, _, rfl, x6.scalar (by simpa [AV.scalar, AV.scalars, CV.scalar] using hs) h⟩)
  · simp +contextual (maxSteps := 2000000) only [go_sem, Nat.reduceEqDiff, reduceCtorEq, Nat.reduceAdd, Nat.reduceLeDiff]
    exact ⟨g3, ⟨c, d, rfl, z0⟩, by rw [cnt_zero]; rfl, rfl⟩
/-! impl.FillHoles -/
def L13_0 : List AStep := [⟨.alloc 33 [(.sl none 0 (some 0)), (.sl none 0 (some 0))], (some 4), none, []⟩, ⟨.mov (.c (.bool false)), (some 5), none, []⟩]
theorem v13_0 : VS L13_0.eq_1 := rfl
def L13_1 : List AStep := ⟨.box 38 (.t 0), (some 2), none, []⟩ :: ⟨.box 33 (.t 1), (some 3), none, []⟩ :: L13_0
theorem v13_1 : VS L13_1.eq_1 := rfl
def L13_2 : List AStep := [⟨.not (.t 15), (some 16), none, []⟩]
theorem v13_2 : VS L13_2.eq_1 := rfl
def L13_3 : List AStep := ⟨.load 2 true (.t 3), (some 14), none, []⟩ :: ⟨.call 48 [(.t 14)], (some 15), none, []⟩ :: L13_2
theorem v13_3 : VS L13_3.eq_1 := rfl
def L13_4 : List AStep := [⟨.mov (.c (.bool false)), (some 5), none, []⟩]
theorem v13_4 : VS L13_4.eq_1 := rfl
def L13_5 : List AStep := ⟨.build [(.sl none 0 (some 0)), (.sl none 0 (some 0))] [], (some 17), none, []⟩ :: ⟨.store 2 (.t 4) (.t 17), none, none, []⟩ :: L13_4
theorem v13_5 : VS L13_5.eq_1 := rfl
def L13_6 : List AStep := [⟨.store 2 (.t 6) (.t 20), none, none, []⟩]
theorem v13_6 : VS L13_6.eq_1 := rfl
def L13_7 : List AStep := ⟨.build [(.sl none 0 (some 0)), (.sl none 0 (some 0))] [(1, 1, (.t 19))], (some 20), none, []⟩ :: ⟨.alloc 38 [(.sl none 0 (some 0)), (.sl none 0 (some 0))], (some 6), none, []⟩ :: L13_6
theorem v13_7 : VS L13_7.eq_1 := rfl
def L13_8 : List AStep := ⟨.faddr 1 (.t 3), (some 18), none, []⟩ :: ⟨.load 1 false (.t 18), (some 19), none, []⟩ :: L13_7
theorem v13_8 : VS L13_8.eq_1 := rfl
def L13_9 : List AStep := [⟨.len (.t 22), (some 23), none, []⟩, ⟨.mov (.c (.int .i64 0)), (some 24), none, []⟩]
theorem v13_9 : VS L13_9.eq_1 := rfl
def L13_10 : List AStep := ⟨.faddr 0 (.t 3), (some 21), none, []⟩ :: ⟨.load 1 false (.t 21), (some 22), none, []⟩ :: L13_9
theorem v13_10 : VS L13_10.eq_1 := rfl
def L13_11 : List AStep := [⟨.bin .lss (.t 24) (.t 23), (some 25), none, []⟩]
theorem v13_11 : VS L13_11.eq_1 := rfl
def L13_12 : List AStep := [⟨.mov (.t 27), (some 8), none, []⟩]
theorem v13_12 : VS L13_12.eq_1 := rfl
def L13_13 : List AStep := ⟨.iaddr 1 (.t 22) (.t 24), (some 26), none, []⟩ :: ⟨.load 1 false (.t 26), (some 27), none, []⟩ :: L13_12
theorem v13_13 : VS L13_13.eq_1 := rfl
def L13_14 : List AStep := [⟨.faddr 0 (.t 6), (some 34), none, []⟩, ⟨.store 1 (.t 34) (.t 33), none, none, []⟩]
theorem v13_14 : VS L13_14.eq_1 := rfl
def L13_15 : List AStep := ⟨.buildSlice 86 1 [(.bool false), (.int .i64 0)] [(0, 2, (.t 31))], (some 32), none, []⟩ :: ⟨.append 86 2 16 (.t 29) (.t 32), (some 33), none, []⟩ :: L13_14
theorem v13_15 : VS L13_15.eq_1 := rfl
def L13_16 : List AStep := ⟨.mov (.t 8), (some 30), none, []⟩ :: ⟨.build [(.bool false), (.int .i64 0)] [(1, 1, (.t 30))], (some 31), none, []⟩ :: L13_15
theorem v13_16 : VS L13_16.eq_1 := rfl
def L13_17 : List AStep := ⟨.faddr 0 (.t 6), (some 28), none, []⟩ :: ⟨.load 1 false (.t 28), (some 29), none, []⟩ :: L13_16
theorem v13_17 : VS L13_17.eq_1 := rfl
def L13_18 : List AStep := [⟨.bin .add (.t 24) (.c (.int .i64 1)), (some 35), none, []⟩, ⟨.mov (.t 35), (some 24), none, []⟩]
theorem v13_18 : VS L13_18.eq_1 := rfl
def L13_19 : List AStep := [⟨.mov (.t 41), (some 10), none, []⟩]
theorem v13_19 : VS L13_19.eq_1 := rfl
def L13_20 : List AStep := ⟨.alloc 38 [(.sl none 0 (some 0)), (.sl none 0 (some 0))], (some 9), none, []⟩ :: ⟨.store 2 (.t 9) (.t 40), none, none, []⟩ :: L13_19
theorem v13_20 : VS L13_20.eq_1 := rfl
def L13_21 : List AStep := ⟨.extract (.t 36) 0, (some 40), none, []⟩ :: ⟨.extract (.t 36) 1, (some 41), none, []⟩ :: L13_20
theorem v13_21 : VS L13_21.eq_1 := rfl
def L13_22 : List AStep := ⟨.call 49 [(.t 37), (.t 38)], (some 39), none, []⟩ :: ⟨.mov (.t 39), (some 36), none, []⟩ :: L13_21
theorem v13_22 : VS L13_22.eq_1 := rfl
def L13_23 : List AStep := ⟨.load 2 true (.t 2), (some 37), none, []⟩ :: ⟨.load 2 true (.t 6), (some 38), none, []⟩ :: L13_22
theorem v13_23 : VS L13_23.eq_1 := rfl
def L13_24 : List AStep := [⟨.alloc 33 [(.sl none 0 (some 0)), (.sl none 0 (some 0))], (some 11), none, []⟩]
theorem v13_24 : VS L13_24.eq_1 := rfl
def L13_25 : List AStep := [⟨.len (.t 43), (some 44), none, []⟩, ⟨.mov (.c (.int .i64 0)), (some 45), none, []⟩]
theorem v13_25 : VS L13_25.eq_1 := rfl
def L13_26 : List AStep := ⟨.faddr 0 (.t 9), (some 42), none, []⟩ :: ⟨.load 1 false (.t 42), (some 43), none, []⟩ :: L13_25
theorem v13_26 : VS L13_26.eq_1 := rfl
def L13_27 : List AStep := [⟨.bin .lss (.t 45) (.t 44), (some 46), none, []⟩]
theorem v13_27 : VS L13_27.eq_1 := rfl
def L13_28 : List AStep := [⟨.alloc 86 [(.bool false), (.int .i64 0)], (some 13), none, []⟩, ⟨.store 2 (.t 13) (.t 48), none, none, []⟩]
theorem v13_28 : VS L13_28.eq_1 := rfl
def L13_29 : List AStep := ⟨.iaddr 2 (.t 43) (.t 45), (some 47), none, []⟩ :: ⟨.load 2 true (.t 47), (some 48), none, []⟩ :: L13_28
theorem v13_29 : VS L13_29.eq_1 := rfl
def L13_30 : List AStep := [⟨.faddr 0 (.t 11), (some 55), none, []⟩, ⟨.store 1 (.t 55) (.t 54), none, none, []⟩]
theorem v13_30 : VS L13_30.eq_1 := rfl
def L13_31 : List AStep := ⟨.buildSlice 3 1 [(.int .i64 0)] [(0, 1, (.t 52))], (some 53), none, []⟩ :: ⟨.append 3 1 8 (.t 50) (.t 53), (some 54), none, []⟩ :: L13_30
theorem v13_31 : VS L13_31.eq_1 := rfl
def L13_32 : List AStep := ⟨.faddr 1 (.t 13), (some 51), none, []⟩ :: ⟨.load 1 false (.t 51), (some 52), none, []⟩ :: L13_31
theorem v13_32 : VS L13_32.eq_1 := rfl
def L13_33 : List AStep := ⟨.faddr 0 (.t 11), (some 49), none, []⟩ :: ⟨.load 1 false (.t 49), (some 50), none, []⟩ :: L13_32
theorem v13_33 : VS L13_33.eq_1 := rfl
def L13_34 : List AStep := [⟨.bin .add (.t 45) (.c (.int .i64 1)), (some 56), none, []⟩, ⟨.mov (.t 56), (some 45), none, []⟩]
theorem v13_34 : VS L13_34.eq_1 := rfl
def L13_35 : List AStep := [⟨.faddr 1 (.t 11), (some 59), none, []⟩, ⟨.store 1 (.t 59) (.t 58), none, none, []⟩]
theorem v13_35 : VS L13_35.eq_1 := rfl
def L13_36 : List AStep := ⟨.faddr 1 (.t 9), (some 57), none, []⟩ :: ⟨.load 1 false (.t 57), (some 58), none, []⟩ :: L13_35
theorem v13_36 : VS L13_36.eq_1 := rfl
def L13_37 : List AStep := [⟨.mov (.t 64), (some 5), none, []⟩]
theorem v13_37 : VS L13_37.eq_1 := rfl
def L13_38 : List AStep := ⟨.extract (.t 62) 1, (some 64), none, []⟩ :: ⟨.store 2 (.t 4) (.t 63), none, none, []⟩ :: L13_37
theorem v13_38 : VS L13_38.eq_1 := rfl
def L13_39 : List AStep := ⟨.call 50 [(.t 60), (.t 61)], (some 62), none, []⟩ :: ⟨.extract (.t 62) 0, (some 63), none, []⟩ :: L13_38
theorem v13_39 : VS L13_39.eq_1 := rfl
def L13_40 : List AStep := ⟨.load 2 true (.t 11), (some 60), none, []⟩ :: ⟨.mov (.t 10), (some 61), none, []⟩ :: L13_39
theorem v13_40 : VS L13_40.eq_1 := rfl
def C13_0 : ACode := .seq (.reg L13_5) .ret
theorem u13_0 : VC C13_0.eq_1 := rfl
def C13_1 : ACode := .cond (.t 16) C13_0 .skip
theorem u13_1 : VC C13_1.eq_1 := rfl
def C13_2 : ACode := .seq (.reg L13_3) C13_1
theorem u13_2 : VC C13_2.eq_1 := rfl
def C13_3 : ACode := .cond (.t 25) .skip (.exit 0)
theorem u13_3 : VC C13_3.eq_1 := rfl
def C13_4 : ACode := .seq (.reg L13_13) (.reg L13_17)
theorem u13_4 : VC C13_4.eq_1 := rfl
def C13_5 : ACode := .block 1 C13_4
theorem u13_5 : VC C13_5.eq_1 := rfl
def C13_6 : ACode := .seq C13_5 (.reg L13_18)
theorem u13_6 : VC C13_6.eq_1 := rfl
def C13_7 : ACode := .seq C13_3 C13_6
theorem u13_7 : VC C13_7.eq_1 := rfl
def C13_8 : ACode := .seq (.reg L13_11) C13_7
theorem u13_8 : VC C13_8.eq_1 := rfl
def C13_9 : ACode := .block 0 (.loop C13_8)
theorem u13_9 : VC C13_9.eq_1 := rfl
def C13_10 : ACode := .seq (.reg L13_10) C13_9
theorem u13_10 : VC C13_10.eq_1 := rfl
def C13_11 : ACode := .cond (.t 46) .skip (.exit 2)
theorem u13_11 : VC C13_11.eq_1 := rfl
def C13_12 : ACode := .seq (.reg L13_29) (.reg L13_33)
theorem u13_12 : VC C13_12.eq_1 := rfl
def C13_13 : ACode := .block 3 C13_12
theorem u13_13 : VC C13_13.eq_1 := rfl
def C13_14 : ACode := .seq C13_13 (.reg L13_34)
theorem u13_14 : VC C13_14.eq_1 := rfl
def C13_15 : ACode := .seq C13_11 C13_14
theorem u13_15 : VC C13_15.eq_1 := rfl
def C13_16 : ACode := .seq (.reg L13_27) C13_15
theorem u13_16 : VC C13_16.eq_1 := rfl
def C13_17 : ACode := .block 2 (.loop C13_16)
theorem u13_17 : VC C13_17.eq_1 := rfl
def C13_18 : ACode := .seq (.reg L13_26) C13_17
theorem u13_18 : VC C13_18.eq_1 := rfl
def C13_19 : ACode := .seq (.reg L13_40) .ret
theorem u13_19 : VC C13_19.eq_1 := rfl
def C13_20 : ACode := .seq (.reg L13_36) C13_19
theorem u13_20 : VC C13_20.eq_1 := rfl
def C13_21 : ACode := .seq C13_18 C13_20
theorem u13_21 : VC C13_21.eq_1 := rfl
def C13_22 : ACode := .seq (.reg L13_24) C13_21
theorem u13_22 : VC C13_22.eq_1 := rfl
def C13_23 : ACode := .seq (.reg L13_23) C13_22
theorem u13_23 : VC C13_23.eq_1 := rfl
def C13_24 : ACode := .seq C13_10 C13_23
theorem u13_24 : VC C13_24.eq_1 := rfl
def C13_25 : ACode := .seq (.reg L13_8) C13_24
theorem u13_25 : VC C13_25.eq_1 := rfl
def C13_26 : ACode := .seq C13_2 C13_25
theorem u13_26 : VC C13_26.eq_1 := rfl
def C13_27 : ACode := .seq (.reg L13_1) C13_26
theorem u13_27 : VC C13_27.eq_1 := rfl
def F13 : AFunc := ⟨65, [.cell 4 2 true, .tmp 5], C13_27⟩
theorem cF13 : compB Try.prog 13 = some F13 := by kernel_rfl
attribute [local go_sem ↓] u13_0 u13_1 u13_2 u13_3 u13_4 u13_5 u13_6 u13_7 u13_8 u13_9 u13_10 u13_11 u13_12 u13_13 u13_14 u13_15 u13_16 u13_17 u13_18 u13_19 u13_20 u13_21 u13_22 u13_23 u13_24 u13_25 u13_26 u13_27 v13_0 v13_1 v13_2 v13_3 v13_4 v13_5 v13_6 v13_7 v13_8 v13_9 v13_10 v13_11 v13_12 v13_13 v13_14 v13_15 v13_16 v13_17 v13_18 v13_19 v13_20 v13_21 v13_22 v13_23 v13_24 v13_25 v13_26 v13_27 v13_28 v13_29 v13_30 v13_31 v13_32 v13_33 v13_34 v13_35 v13_36 v13_37 v13_38 v13_39 v13_40
theorem k_iFillHoles (f : Holes) (g : Flat) (p n q m : CV) (h : H) (hf : SlH h p n f) (hg : SlF h q m g) (hn : miniH f) (hm : miniF g) :
    callK (bm Try.prog 13 [.agg [p, n], .agg [q, m]] h) fun r h' => Grow h h' ∧ ∃ p' n', r = .tup [.agg [p', n'], .one (.bool (FillHoles f g).isSome)] ∧ NwF h h' p' n' (orF (FillHoles f g)) := by
  refine bm_of cF13 ?_
  have v2 := c_ValidFlat g q m h hg.pl hg.nl hm.sm
  cases b2 : okFlat g with
  | false =>
    rw [Fill_none b2]
    simp +contextual (maxSteps := 2000000) only [go_sem, Nat.reduceEqDiff, reduceCtorEq, Nat.reduceAdd, Nat.reduceLeDiff, F13, v2, b2]
    exact ⟨Grow.refl h, _, _, rfl, .nil⟩
  | true =>
  have a1 := hn.pl
  have a2 := hm.pl
  have a3 := hn.nl
  have a4 := hm.nl
  have fo := Fill_of f g b2
  simp +contextual (maxSteps := 2000000) only [go_sem, Nat.reduceEqDiff, reduceCtorEq, Nat.reduceAdd, Nat.reduceLeDiff, F13, v2, b2, hg.pl.len]
  refine wpC_loop (fun i T L h' => Grow h h' ∧ T 2 = .lp 2 0 ∧ (L 2).2 = [p, n] ∧ T 4 = .lp 4 0 ∧ (L 4).2 = [.sl none 0 (some 0), .sl none 0 (some 0)] ∧ T 6 = .lp 6 0 ∧ (∃ c, (L 6).2 = [c, m] ∧ NwL h h' (.one c) ((g.pl.take i).map ofN)) ∧ T 22 = .v (.one q) ∧ T 23 = .v (.one (.int .i64 g.pl.length)) ∧ T 24 = .v (.one (.int .i64 i))) g.pl.length ?_ ?_ (Nat.zero_le _) ?_
  · rintro i T L h' hi ⟨gg, t2, l2, t4, l4, t6, ⟨c, l6, x⟩, t22, t23, t24⟩
    have kg := hg.grow gg
    simp +contextual (maxSteps := 2000000) only [go_sem, Nat.reduceEqDiff, reduceCtorEq, Nat.reduceAdd, Nat.reduceLeDiff, t2, l2, t4, l4, t6, l6, t22, t23, t24, kg.pl.iaddr hi, kg.pl.oneO hi, lt_true hi]
    refine wp_lit (enc := encL) (k := 2) (l := [ofN g.pl[i]]) rfl rfl ?_
    intro h4 w4 g4 n4 _
    simp +contextual (maxSteps := 2000000) only [go_sem, Nat.reduceEqDiff, reduceCtorEq, Nat.reduceAdd, Nat.reduceLeDiff, t2, l2, t4, l4, t6, l6, t22, t23, t24]
    refine wp_append lenL (x.grow g4) (n4.sl lenL) (gg.trans g4) (by simp; omega) ?_
    intro h5 s5 g5 n5 _ _
    obtain ⟨c5, rfl⟩ := n5.one
    simp +contextual (maxSteps := 2000000) only [go_sem, Nat.reduceEqDiff, reduceCtorEq, Nat.reduceAdd, Nat.reduceLeDiff, t2, l2, t4, l4, t6, l6, t22, t23, t24]
    refine ⟨g5, ⟨c5, rfl, ?_⟩, by rw [wrap_next hi (by omega)]⟩
    rw [List.take_succ_eq_append_getElem hi, List.map_append]
    exact n5
  · rintro T L h' ⟨gg, t2, l2, t4, l4, t6, ⟨c, l6, x⟩, t22, t23, t24⟩
    rw [List.take_length] at x
    have kg := hg.grow gg
    simp +contextual (maxSteps := 2000000) only [go_sem, Nat.reduceEqDiff, reduceCtorEq, Nat.reduceAdd, Nat.reduceLeDiff, t2, l2, t4, l4, t6, l6, t22, t23, t24, lt_false]
    refine wp_call (k_iShiftHoles f (holesOf g) p n c m h' (hf.grow gg) ⟨x.sl lenL, kg.nl⟩ hn (.ofF hm)) ?_
    rintro r h1 ⟨g1, p', n', rfl, x1⟩
    rw [fo] at x1 ⊢
    have x2 := x1.from gg.n
    have g2 := gg.trans g1
    have sz : ((FillHoles f g).map holesOf).isSome = (FillHoles f g).isSome := by cases FillHoles f g <;> rfl
    rw [sz]
    have so : orH ((FillHoles f g).map holesOf) = holesOf (orF (FillHoles f g)) := by cases FillHoles f g <;> rfl
    rw [so] at x2
    have mf : miniF (orF (FillHoles f g)) := .fill
    have b1 := mf.pl
    have lf : (holesOf (orF (FillHoles f g))).pl.length = (orF (FillHoles f g)).pl.length := by simp [holesOf]
    have xl := x2.pl.length
    rw [lf] at xl
    simp +contextual (maxSteps := 2000000) only [go_sem, Nat.reduceEqDiff, reduceCtorEq, Nat.reduceAdd, Nat.reduceLeDiff, t2, l2, t4, l4, t6, l6, xl]
    refine wpC_loop (fun i T L h' => Grow h1 h' ∧ T 4 = .lp 4 0 ∧ (L 4).2 = [.sl none 0 (some 0), .sl none 0 (some 0)] ∧ T 9 = .lp 9 0 ∧ (L 9).2 = [p', n'] ∧ T 10 = .v (.one (.bool (FillHoles f g).isSome)) ∧ T 11 = .lp 11 0 ∧ (∃ c, (L 11).2 = [c, .sl none 0 (some 0)] ∧ NwI h1 h' (.one c) ((orF (FillHoles f g)).pl.take i)) ∧ T 43 = .v (.one p') ∧ T 44 = .v (.one (.int .i64 (orF (FillHoles f g)).pl.length)) ∧ T 45 = .v (.one (.int .i64 i))) (orF (FillHoles f g)).pl.length ?_ ?_ (Nat.zero_le _) ?_
    · rintro i T L h' hi ⟨gg, t4, l4, t9, l9, t10, t11, ⟨c, l11, x⟩, t43, t44, t45⟩
      have y := x2.sl.grow gg
      have hy : i < (holesOf (orF (FillHoles f g))).pl.length := by rw [lf]; exact hi
      have yw := y.pl.whole hy
      have ye : (holesOf (orF (FillHoles f g))).pl[i] = ofN (orF (FillHoles f g)).pl[i] := by simp [holesOf]
      rw [ye] at yw
      simp +contextual (maxSteps := 2000000) only [go_sem, Nat.reduceEqDiff, reduceCtorEq, Nat.reduceAdd, Nat.reduceLeDiff, t4, l4, t9, l9, t10, t11, l11, t43, t44, t45, y.pl.iaddr hy, yw, encL, ofN, lt_true hi]
      refine wp_lit (enc := encI) (k := 1) (l := [(orF (FillHoles f g)).pl[i]]) rfl rfl ?_
      intro h4 w4 g4 n4 _
      simp +contextual (maxSteps := 2000000) only [go_sem, Nat.reduceEqDiff, reduceCtorEq, Nat.reduceAdd, Nat.reduceLeDiff, t4, l4, t9, l9, t10, t11, l11, t43, t44, t45]
      refine wp_append lenI (x.grow g4) (n4.sl lenI) (gg.trans g4) (by simp; omega) ?_
      intro h5 s5 g5 n5 st5 hb5
      obtain ⟨c5, rfl⟩ := n5.one
      simp +contextual (maxSteps := 2000000) only [go_sem, Nat.reduceEqDiff, reduceCtorEq, Nat.reduceAdd, Nat.reduceLeDiff, t4, l4, t9, l9, t10, t11, l11, t43, t44, t45]
      refine ⟨g5, ⟨c5, rfl, ?_⟩, by rw [wrap_next hi (by omega)]⟩
      rw [List.take_succ_eq_append_getElem hi]
      exact n5
    · rintro T L h' ⟨gg, t4, l4, t9, l9, t10, t11, ⟨c, l11, x⟩, t43, t44, t45⟩
      rw [List.take_length] at x
      have y := x2.sl.grow gg
      simp +contextual (maxSteps := 2000000) only [go_sem, Nat.reduceEqDiff, reduceCtorEq, Nat.reduceAdd, Nat.reduceLeDiff, t4, l4, t9, l9, t10, t11, l11, t43, t44, t45, lt_false]
      refine wp_call (c_checked (orF (FillHoles f g)) c n' (FillHoles f g).isSome h' ⟨x.sl lenI, y.nl⟩ mf.sm) ?_
      rintro r h5 ⟨g5, p2, n2, rfl, x5⟩
      have gg := g2.trans gg
      have x6 := x5.from gg.n
      have ez : ((FillHoles f g).isSome && okFlat (orF (FillHoles f g))) = (FillHoles f g).isSome := by
        unfold FillHoles okF orF
        split
        · split <;> simp_all
        · rfl
      rw [ez] at x6 ⊢
      have e7 : (if (FillHoles f g).isSome = true then orF (FillHoles f g) else ⟨[], []⟩) = orF (FillHoles f g) := by
        cases FillHoles f g <;> rfl
      rw [e7] at x6
      simp +contextual (maxSteps := 2000000) only [go_sem, Nat.reduceEqDiff, reduceCtorEq, Nat.reduceAdd, Nat.reduceLeDiff, t4, l4, t9, l9, t10, t11, l11]
      exact gcK_of ⟨gg.trans g5, _, _, rfl, x6⟩ (fun hs _ => ⟨Grow.refl h, _, _, rfl, x6.scalar (by simpa [AV.scalar, AV.scalars, CV.scalar] using hs) h⟩)
    · simp +contextual (maxSteps := 2000000) only [go_sem, Nat.reduceEqDiff, reduceCtorEq, Nat.reduceAdd, Nat.reduceLeDiff, t4, l4]
      exact ⟨Grow.refl h1, ⟨_, rfl, .nil⟩, rfl⟩
  · simp +contextual (maxSteps := 2000000) only [go_sem, Nat.reduceEqDiff, reduceCtorEq, Nat.reduceAdd, Nat.reduceLeDiff]
    exact ⟨Grow.refl h, ⟨_, rfl, .nil⟩, rfl⟩
end Go.Proofs.Ytdalgphpacikkac.Am
