/- Contracts: the signature of a partial call, of both sides. -/
import Derived.Test.YtekkimfdcbgcoacPS
import Derived.Test.YtekkimfdcbgcoacPA
import Derived.Test.YtekkimfdcbgcoacDS
import Derived.Test.YtekkimfdcbgcoacDC
namespace Go.Proofs.Ytekkimfdcbgcoac.Am
open Go
attribute [local go_sem] loadL_agg
set_option maxRecDepth 100000
set_option maxHeartbeats 4000000
set_option linter.unusedSimpArgs false
set_option linter.unusedVariables false
attribute [local go_sem ↓] bv_t bv_c ev_t ev_c put_same put_ne put_none kill_at pro_at lb_same lb_ne start_zero start_succ wpC_seq wpC_reg wpC_cond wpC_block wpC_skip wpC_exit wpC_ret thenQ_normal thenQ_exit thenQ_ret inBlk_normal inBlk_exit inBlk_ret wpS_nil wpS_step wpS_again wpS_guard wpO_mov wpO_load wpO_faddr wpO_nilCheck wpO_pick wpO_build wpO_bin wpO_eqb wpO_eqst wpO_eqnil wpO_not wpO_conv wpO_bytesStr wpO_iaddr wpO_idxStr wpO_field wpO_extract wpO_len wpO_lenStr wpO_cap wpO_min wpO_slice wpO_sliceStr wpO_alloc wpO_box wpO_store wpO_call wpO_callv wpO_mkfn wpO_buildSlice wpO_mkslice wpO_append wpO_appz proA_nil proA_cons tmpX_nil tmpX_tmp tmpX_cell doneB_normal doneB_ret agK_cons agK_nil agK_guard agG_tt agG_ff agG_tf agG_ft agG_undef pureB_load results_one results_two results_nil resBs_cons resBs_nil resB_tmp resB_cell
attribute [local go_sem] kill_v kill_lp_ne kill_lp_same pro_v pro_lp_same pro_lp_ne av_v av_lp optB_some optX_some valX_eq ldX_lp ldX_v faX_lp faX_v ncX_lp ncX_ptr ncX_fn boxK_one boxK_agg stL_some stK_lp_one stK_lp_agg stK_v_one stK_v_agg proM_v proM_lp callG_mk callVG_mk callvK_fn fnG_mk ptrsA_nil ptrsA_cons callH_some whenA_true whenA_false guardH_tt guardH_ff guardH_tf guardH_ft guardH_undef agV_one agV_agg lenO_sl lenStrO_str notO_bool pickO_bool convO_int eqbO_bool eqnilO_sl extractO_tup capO_sl minO_int loadL_one loadL_all storeL_eq fillA_nil fillA_one fillA_agg nat_ge neg_ge nat_lt neg_lt buildO bin_add bin_sub bin_mul bin_eql bin_neq bin_lss bin_leq bin_gtr bin_geq str_eql str_neq str_lss str_leq str_gtr str_geq retK_some endK_mk gcK_same gcK_int gcK_bool tupO_one tupO_agg rdy_self ib ii Option.map_none Option.map_some Option.some.injEq exists_eq_left' exists_eq_left ne_eq not_false_eq_true if_true if_false List.map_cons List.map_nil List.getElem?_cons_zero List.getElem?_cons_succ List.length_cons List.length_nil List.take_succ_cons List.take_zero List.take_nil List.drop_succ_cons List.drop_zero List.drop_nil List.cons_append List.nil_append List.append_nil List.set_cons_zero List.set_cons_succ Nat.zero_add forall_const true_and and_true and_self Bool.false_eq_true false_implies true_implies implies_true Bool.not_true Bool.not_false Bool.not_eq_true' Bool.not_eq_false' beq_self_eq_true Bool.bne_true Bool.bne_false
attribute [local go_sem] lenI lenS lenP lenQ lenB lenL lenT encI_0 encS_0 encP_0 encP_1 encQ_0 encQ_1 encQ_2 encQ_3 encB_0 encB_1 encL_0 encL_1 encT_0 encT_1
attribute [local go_sem low] whenA_bool guardH_bool
/-! spec.named -/
def L115_0 : List AStep := [⟨.box 31 (.t 0), (some 1), none, []⟩, ⟨.mov (.c (.int .i64 0)), (some 2), none, []⟩]
theorem v115_0 : VS L115_0.eq_1 := rfl
def L115_1 : List AStep := [⟨.mov (.c (.int .i64 0)), (some 3), none, []⟩]
theorem v115_1 : VS L115_1.eq_1 := rfl
def L115_2 : List AStep := [⟨.len (.t 7), (some 8), none, []⟩, ⟨.bin .lss (.t 4) (.t 8), (some 9), none, []⟩]
theorem v115_2 : VS L115_2.eq_1 := rfl
def L115_3 : List AStep := ⟨.faddr 0 (.t 5), (some 6), none, []⟩ :: ⟨.load 1 false (.t 6), (some 7), none, []⟩ :: L115_2
theorem v115_3 : VS L115_3.eq_1 := rfl
def L115_4 : List AStep := ⟨.mov (.t 3), (some 4), none, []⟩ :: ⟨.faddr 0 (.t 1), (some 5), none, []⟩ :: L115_3
theorem v115_4 : VS L115_4.eq_1 := rfl
def L115_5 : List AStep := [⟨.bin .geq (.t 31) (.c (.int .i64 0)), (some 32), (some (20, true)), []⟩, ⟨.pick (.t 20) (.t 32) (.c (.bool false)), (some 33), none, []⟩]
theorem v115_5 : VS L115_5.eq_1 := rfl
def L115_6 : List AStep := ⟨.load 1 false (.t 29), (some 30), (some (20, true)), []⟩ :: ⟨.call 116 [(.t 23), (.t 30)], (some 31), (some (20, true)), []⟩ :: L115_5
theorem v115_6 : VS L115_6.eq_1 := rfl
def L115_7 : List AStep := ⟨.iaddr 4 (.t 26) (.t 27), (some 28), (some (20, true)), []⟩ :: ⟨.faddr 0 (.t 28), (some 29), (some (20, true)), []⟩ :: L115_6
theorem v115_7 : VS L115_7.eq_1 := rfl
def L115_8 : List AStep := ⟨.load 1 false (.t 25), (some 26), (some (20, true)), []⟩ :: ⟨.mov (.t 3), (some 27), (some (20, true)), []⟩ :: L115_7
theorem v115_8 : VS L115_8.eq_1 := rfl
def L115_9 : List AStep := ⟨.faddr 0 (.t 1), (some 24), (some (20, true)), []⟩ :: ⟨.faddr 0 (.t 24), (some 25), (some (20, true)), []⟩ :: L115_8
theorem v115_9 : VS L115_9.eq_1 := rfl
def L115_10 : List AStep := ⟨.faddr 1 (.t 21), (some 22), (some (20, true)), []⟩ :: ⟨.load 1 false (.t 22), (some 23), (some (20, true)), []⟩ :: L115_9
theorem v115_10 : VS L115_10.eq_1 := rfl
def L115_11 : List AStep := ⟨.mov (.t 19), (some 20), none, []⟩ :: ⟨.faddr 1 (.t 1), (some 21), (some (20, true)), []⟩ :: L115_10
theorem v115_11 : VS L115_11.eq_1 := rfl
def L115_12 : List AStep := ⟨.load 1 false (.t 17), (some 18), none, []⟩ :: ⟨.bin .eql (.t 18) (.c (.int .i64 1)), (some 19), none, []⟩ :: L115_11
theorem v115_12 : VS L115_12.eq_1 := rfl
def L115_13 : List AStep := ⟨.iaddr 4 (.t 14) (.t 15), (some 16), none, []⟩ :: ⟨.faddr 1 (.t 16), (some 17), none, []⟩ :: L115_12
theorem v115_13 : VS L115_13.eq_1 := rfl
def L115_14 : List AStep := ⟨.load 1 false (.t 13), (some 14), none, []⟩ :: ⟨.mov (.t 3), (some 15), none, []⟩ :: L115_13
theorem v115_14 : VS L115_14.eq_1 := rfl
def L115_15 : List AStep := ⟨.faddr 0 (.t 1), (some 12), none, []⟩ :: ⟨.faddr 0 (.t 12), (some 13), none, []⟩ :: L115_14
theorem v115_15 : VS L115_15.eq_1 := rfl
def L115_16 : List AStep := [⟨.mov (.t 3), (some 34), none, []⟩, ⟨.mov (.t 34), (some 2), none, []⟩]
theorem v115_16 : VS L115_16.eq_1 := rfl
def L115_17 : List AStep := [⟨.mov (.t 11), (some 3), none, []⟩]
theorem v115_17 : VS L115_17.eq_1 := rfl
def L115_18 : List AStep := ⟨.mov (.t 3), (some 10), none, []⟩ :: ⟨.bin .add (.t 10) (.c (.int .i64 1)), (some 11), none, []⟩ :: L115_17
theorem v115_18 : VS L115_18.eq_1 := rfl
def L115_19 : List AStep := [⟨.mov (.c (.int .i64 (-1))), (some 2), none, []⟩]
theorem v115_19 : VS L115_19.eq_1 := rfl
def C115_0 : ACode := .cond (.t 9) .skip (.exit 0)
theorem u115_0 : VC C115_0.eq_1 := rfl
def C115_1 : ACode := .seq (.reg L115_4) C115_0
theorem u115_1 : VC C115_1.eq_1 := rfl
def C115_2 : ACode := .seq (.reg L115_16) .ret
theorem u115_2 : VC C115_2.eq_1 := rfl
def C115_3 : ACode := .cond (.t 33) C115_2 .skip
theorem u115_3 : VC C115_3.eq_1 := rfl
def C115_4 : ACode := .seq (.reg L115_15) C115_3
theorem u115_4 : VC C115_4.eq_1 := rfl
def C115_5 : ACode := .block 1 C115_4
theorem u115_5 : VC C115_5.eq_1 := rfl
def C115_6 : ACode := .seq C115_5 (.reg L115_18)
theorem u115_6 : VC C115_6.eq_1 := rfl
def C115_7 : ACode := .seq C115_1 C115_6
theorem u115_7 : VC C115_7.eq_1 := rfl
def C115_8 : ACode := .block 0 (.loop C115_7)
theorem u115_8 : VC C115_8.eq_1 := rfl
def C115_9 : ACode := .seq (.reg L115_1) C115_8
theorem u115_9 : VC C115_9.eq_1 := rfl
def C115_10 : ACode := .seq (.reg L115_19) .ret
theorem u115_10 : VC C115_10.eq_1 := rfl
def C115_11 : ACode := .seq C115_9 C115_10
theorem u115_11 : VC C115_11.eq_1 := rfl
def C115_12 : ACode := .seq (.reg L115_0) C115_11
theorem u115_12 : VC C115_12.eq_1 := rfl
def F115 : AFunc := ⟨35, [.tmp 2], C115_12⟩
theorem cF115 : compB Try.prog 115 = some F115 := by kernel_rfl
attribute [local go_sem ↓] u115_0 u115_1 u115_2 u115_3 u115_4 u115_5 u115_6 u115_7 u115_8 u115_9 u115_10 u115_11 u115_12 v115_0 v115_1 v115_2 v115_3 v115_4 v115_5 v115_6 v115_7 v115_8 v115_9 v115_10 v115_11 v115_12 v115_13 v115_14 v115_15 v115_16 v115_17 v115_18 v115_19
theorem c_sNamed (l : List Param) (f : Flat) (q p n : CV) (h : H) (hl : SlQ h (.one q) l) (hf : SlF h p n f) (hn : smQ l) (hm : smF f) : bm Try.prog 115 [.agg [q, p, n]] h = some (ii (bothAt l f.nl), h) := by
  refine bm_eq cF115 ?_
  simp +contextual (maxSteps := 2000000) only [go_sem, Nat.reduceEqDiff, reduceCtorEq, Nat.reduceAdd, Nat.reduceLeDiff, F115]
  refine wpC_loop (fun i T L h' => h' = h ∧ T 1 = .lp 1 0 ∧ (L 1).2 = [q, p, n] ∧ T 3 = .v (.one (.int .i64 i)) ∧ Pre (bothP f.nl) false l i) l.length ?_ ?_ (Nat.zero_le _) ?_
  · rintro i T L h' hi ⟨rfl, t1, l1, t3, hp⟩
    have ep := c_pairAt f.nl (.one n) l[i].name h' hf.nl hm.nl
    cases k1 : decide (l[i].kind = 1) with
    | false =>
      have e : bothP f.nl l[i] = false := by unfold bothP; rw [k1]; rfl
      simp +contextual (maxSteps := 2000000) only [go_sem, Nat.reduceEqDiff, reduceCtorEq, Nat.reduceAdd, Nat.reduceLeDiff, t1, l1, t3, hl.len, hl.iaddr hi, hl.fieldO hi, lt_true hi, k1]
      exact ⟨by rw [wrap_next hi hn.len], hp.next hi e⟩
    | true =>
    cases k2 : decide (pairAt f.nl l[i].name ≥ 0) with
    | false =>
      have e : bothP f.nl l[i] = false := by unfold bothP; rw [k2, Bool.and_false]
      simp +contextual (maxSteps := 2000000) only [go_sem, Nat.reduceEqDiff, reduceCtorEq, Nat.reduceAdd, Nat.reduceLeDiff, t1, l1, t3, hl.len, hl.iaddr hi, hl.fieldO hi, lt_true hi, k1, ep, k2]
      exact ⟨by rw [wrap_next hi hn.len], hp.next hi e⟩
    | true =>
      have e : bothAt l f.nl = i := idx_hit hi hp (by unfold bothP; rw [k1, k2]; rfl)
      simp +contextual (maxSteps := 2000000) only [go_sem, Nat.reduceEqDiff, reduceCtorEq, Nat.reduceAdd, Nat.reduceLeDiff, t1, l1, t3, hl.len, hl.iaddr hi, hl.fieldO hi, lt_true hi, k1, ep, k2, e]
  · rintro T L h' ⟨rfl, t1, l1, t3, hp⟩
    have e : bothAt l f.nl = -1 := idx_none hp
    simp +contextual (maxSteps := 2000000) only [go_sem, Nat.reduceEqDiff, reduceCtorEq, Nat.reduceAdd, Nat.reduceLeDiff, t1, l1, t3, hl.len, lt_false, e]
  · simp +contextual (maxSteps := 2000000) only [go_sem, Nat.reduceEqDiff, reduceCtorEq, Nat.reduceAdd, Nat.reduceLeDiff]
    exact ⟨rfl, Pre.zero⟩
/-! spec.partialParams -/
def L66_0 : List AStep := [⟨.box 31 (.t 0), (some 1), none, []⟩, ⟨.mov (.c (.sl none 0 (some 0))), (some 2), none, []⟩]
theorem v66_0 : VS L66_0.eq_1 := rfl
def L66_1 : List AStep := [⟨.buildSlice 44 0 [(.str (strOfNums [])), (.int .i64 0), (.bool false), (.int .i64 0)] [], (some 8), none, []⟩, ⟨.mov (.t 8), (some 3), none, []⟩]
theorem v66_1 : VS L66_1.eq_1 := rfl
def L66_2 : List AStep := [⟨.mov (.t 10), (some 4), none, []⟩]
theorem v66_2 : VS L66_2.eq_1 := rfl
def L66_3 : List AStep := ⟨.load 3 true (.t 1), (some 9), none, []⟩ :: ⟨.call 115 [(.t 9)], (some 10), none, []⟩ :: L66_2
theorem v66_3 : VS L66_3.eq_1 := rfl
def L66_4 : List AStep := [⟨.mov (.c (.int .i64 0)), (some 5), none, []⟩]
theorem v66_4 : VS L66_4.eq_1 := rfl
def L66_5 : List AStep := [⟨.len (.t 14), (some 15), none, []⟩, ⟨.bin .lss (.t 11) (.t 15), (some 16), none, []⟩]
theorem v66_5 : VS L66_5.eq_1 := rfl
def L66_6 : List AStep := ⟨.faddr 0 (.t 12), (some 13), none, []⟩ :: ⟨.load 1 false (.t 13), (some 14), none, []⟩ :: L66_5
theorem v66_6 : VS L66_6.eq_1 := rfl
def L66_7 : List AStep := ⟨.mov (.t 5), (some 11), none, []⟩ :: ⟨.faddr 0 (.t 1), (some 12), none, []⟩ :: L66_6
theorem v66_7 : VS L66_7.eq_1 := rfl
def L66_8 : List AStep := [⟨.alloc 44 [(.str (strOfNums [])), (.int .i64 0), (.bool false), (.int .i64 0)], (some 6), none, []⟩, ⟨.store 4 (.t 6) (.t 24), none, none, []⟩]
theorem v66_8 : VS L66_8.eq_1 := rfl
def L66_9 : List AStep := ⟨.iaddr 4 (.t 21) (.t 22), (some 23), none, []⟩ :: ⟨.load 4 true (.t 23), (some 24), none, []⟩ :: L66_8
theorem v66_9 : VS L66_9.eq_1 := rfl
def L66_10 : List AStep := ⟨.load 1 false (.t 20), (some 21), none, []⟩ :: ⟨.mov (.t 5), (some 22), none, []⟩ :: L66_9
theorem v66_10 : VS L66_10.eq_1 := rfl
def L66_11 : List AStep := ⟨.faddr 0 (.t 1), (some 19), none, []⟩ :: ⟨.faddr 0 (.t 19), (some 20), none, []⟩ :: L66_10
theorem v66_11 : VS L66_11.eq_1 := rfl
def L66_12 : List AStep := [⟨.pick (.t 35) (.c (.bool true)) (.t 42), (some 43), none, []⟩]
theorem v66_12 : VS L66_12.eq_1 := rfl
def L66_13 : List AStep := ⟨.bin .geq (.t 40) (.c (.int .i64 0)), (some 41), (some (39, true)), []⟩ :: ⟨.pick (.t 39) (.t 41) (.c (.bool false)), (some 42), (some (35, false)), []⟩ :: L66_12
theorem v66_13 : VS L66_13.eq_1 := rfl
def L66_14 : List AStep := ⟨.mov (.t 38), (some 39), (some (35, false)), []⟩ :: ⟨.mov (.t 4), (some 40), (some (39, true)), []⟩ :: L66_13
theorem v66_14 : VS L66_14.eq_1 := rfl
def L66_15 : List AStep := ⟨.load 1 false (.t 36), (some 37), (some (35, false)), []⟩ :: ⟨.bin .eql (.t 37) (.c (.int .i64 2)), (some 38), (some (35, false)), []⟩ :: L66_14
theorem v66_15 : VS L66_15.eq_1 := rfl
def L66_16 : List AStep := ⟨.mov (.t 34), (some 35), none, []⟩ :: ⟨.faddr 1 (.t 6), (some 36), (some (35, false)), []⟩ :: L66_15
theorem v66_16 : VS L66_16.eq_1 := rfl
def L66_17 : List AStep := ⟨.bin .lss (.t 28) (.t 32), (some 33), (some (27, true)), []⟩ :: ⟨.pick (.t 27) (.t 33) (.c (.bool false)), (some 34), none, []⟩ :: L66_16
theorem v66_17 : VS L66_17.eq_1 := rfl
def L66_18 : List AStep := ⟨.load 1 false (.t 30), (some 31), (some (27, true)), []⟩ :: ⟨.len (.t 31), (some 32), (some (27, true)), []⟩ :: L66_17
theorem v66_18 : VS L66_18.eq_1 := rfl
def L66_19 : List AStep := ⟨.faddr 1 (.t 1), (some 29), (some (27, true)), []⟩ :: ⟨.faddr 0 (.t 29), (some 30), (some (27, true)), []⟩ :: L66_18
theorem v66_19 : VS L66_19.eq_1 := rfl
def L66_20 : List AStep := ⟨.mov (.t 26), (some 27), none, []⟩ :: ⟨.mov (.t 5), (some 28), (some (27, true)), []⟩ :: L66_19
theorem v66_20 : VS L66_20.eq_1 := rfl
def L66_21 : List AStep := ⟨.load 4 true (.t 6), (some 25), none, []⟩ :: ⟨.call 101 [(.t 25)], (some 26), none, []⟩ :: L66_20
theorem v66_21 : VS L66_21.eq_1 := rfl
def L66_22 : List AStep := [⟨.bin .geq (.t 52) (.t 53), (some 54), (some (51, true)), []⟩, ⟨.pick (.t 51) (.t 54) (.c (.bool false)), (some 55), none, []⟩]
theorem v66_22 : VS L66_22.eq_1 := rfl
def L66_23 : List AStep := ⟨.mov (.t 5), (some 52), (some (51, true)), []⟩ :: ⟨.mov (.t 4), (some 53), (some (51, true)), []⟩ :: L66_22
theorem v66_23 : VS L66_23.eq_1 := rfl
def L66_24 : List AStep := ⟨.pick (.t 47) (.t 49) (.c (.bool false)), (some 50), none, []⟩ :: ⟨.mov (.t 50), (some 51), none, []⟩ :: L66_23
theorem v66_24 : VS L66_24.eq_1 := rfl
def L66_25 : List AStep := ⟨.mov (.t 4), (some 48), (some (47, true)), []⟩ :: ⟨.bin .geq (.t 48) (.c (.int .i64 0)), (some 49), (some (47, true)), []⟩ :: L66_24
theorem v66_25 : VS L66_25.eq_1 := rfl
def L66_26 : List AStep := ⟨.bin .eql (.t 45) (.c (.int .i64 1)), (some 46), none, []⟩ :: ⟨.mov (.t 46), (some 47), none, []⟩ :: L66_25
theorem v66_26 : VS L66_26.eq_1 := rfl
def L66_27 : List AStep := ⟨.faddr 1 (.t 6), (some 44), none, []⟩ :: ⟨.load 1 false (.t 44), (some 45), none, []⟩ :: L66_26
theorem v66_27 : VS L66_27.eq_1 := rfl
def L66_28 : List AStep := [⟨.faddr 1 (.t 6), (some 56), none, []⟩, ⟨.store 1 (.t 56) (.c (.int .i64 3)), none, none, []⟩]
theorem v66_28 : VS L66_28.eq_1 := rfl
def L66_29 : List AStep := [⟨.mov (.t 62), (some 7), none, []⟩]
theorem v66_29 : VS L66_29.eq_1 := rfl
def L66_30 : List AStep := ⟨.load 1 false (.t 60), (some 61), none, []⟩ :: ⟨.call 116 [(.t 59), (.t 61)], (some 62), none, []⟩ :: L66_29
theorem v66_30 : VS L66_30.eq_1 := rfl
def L66_31 : List AStep := ⟨.load 1 false (.t 58), (some 59), none, []⟩ :: ⟨.faddr 0 (.t 6), (some 60), none, []⟩ :: L66_30
theorem v66_31 : VS L66_31.eq_1 := rfl
def L66_32 : List AStep := ⟨.faddr 1 (.t 1), (some 57), none, []⟩ :: ⟨.faddr 1 (.t 57), (some 58), none, []⟩ :: L66_31
theorem v66_32 : VS L66_32.eq_1 := rfl
def L66_33 : List AStep := [⟨.call 102 [(.t 66)], (some 67), (some (65, true)), []⟩, ⟨.pick (.t 65) (.t 67) (.c (.bool false)), (some 68), none, []⟩]
theorem v66_33 : VS L66_33.eq_1 := rfl
def L66_34 : List AStep := ⟨.mov (.t 64), (some 65), none, []⟩ :: ⟨.load 4 true (.t 6), (some 66), (some (65, true)), []⟩ :: L66_33
theorem v66_34 : VS L66_34.eq_1 := rfl
def L66_35 : List AStep := ⟨.mov (.t 7), (some 63), none, []⟩ :: ⟨.bin .geq (.t 63) (.c (.int .i64 0)), (some 64), none, []⟩ :: L66_34
theorem v66_35 : VS L66_35.eq_1 := rfl
def L66_36 : List AStep := [⟨.faddr 2 (.t 6), (some 69), none, []⟩, ⟨.store 1 (.t 69) (.c (.bool true)), none, none, []⟩]
theorem v66_36 : VS L66_36.eq_1 := rfl
def L66_37 : List AStep := [⟨.store 1 (.t 77) (.t 76), none, none, []⟩]
theorem v66_37 : VS L66_37.eq_1 := rfl
def L66_38 : List AStep := ⟨.load 1 false (.t 75), (some 76), none, []⟩ :: ⟨.faddr 3 (.t 6), (some 77), none, []⟩ :: L66_37
theorem v66_38 : VS L66_38.eq_1 := rfl
def L66_39 : List AStep := ⟨.iaddr 2 (.t 72) (.t 73), (some 74), none, []⟩ :: ⟨.faddr 1 (.t 74), (some 75), none, []⟩ :: L66_38
theorem v66_39 : VS L66_39.eq_1 := rfl
def L66_40 : List AStep := ⟨.load 1 false (.t 71), (some 72), none, []⟩ :: ⟨.mov (.t 7), (some 73), none, []⟩ :: L66_39
theorem v66_40 : VS L66_40.eq_1 := rfl
def L66_41 : List AStep := ⟨.faddr 1 (.t 1), (some 70), none, []⟩ :: ⟨.faddr 1 (.t 70), (some 71), none, []⟩ :: L66_40
theorem v66_41 : VS L66_41.eq_1 := rfl
def L66_42 : List AStep := [⟨.mov (.t 81), (some 3), none, []⟩]
theorem v66_42 : VS L66_42.eq_1 := rfl
def L66_43 : List AStep := ⟨.buildSlice 44 1 [(.str (strOfNums [])), (.int .i64 0), (.bool false), (.int .i64 0)] [(0, 4, (.t 79))], (some 80), none, []⟩ :: ⟨.append 44 4 40 (.t 78) (.t 80), (some 81), none, []⟩ :: L66_42
theorem v66_43 : VS L66_43.eq_1 := rfl
def L66_44 : List AStep := ⟨.mov (.t 3), (some 78), none, []⟩ :: ⟨.load 4 true (.t 6), (some 79), none, []⟩ :: L66_43
theorem v66_44 : VS L66_44.eq_1 := rfl
def L66_45 : List AStep := [⟨.mov (.t 18), (some 5), none, []⟩]
theorem v66_45 : VS L66_45.eq_1 := rfl
def L66_46 : List AStep := ⟨.mov (.t 5), (some 17), none, []⟩ :: ⟨.bin .add (.t 17) (.c (.int .i64 1)), (some 18), none, []⟩ :: L66_45
theorem v66_46 : VS L66_46.eq_1 := rfl
def L66_47 : List AStep := [⟨.mov (.t 3), (some 82), none, []⟩, ⟨.mov (.t 82), (some 2), none, []⟩]
theorem v66_47 : VS L66_47.eq_1 := rfl
def C66_0 : ACode := .cond (.t 16) .skip (.exit 0)
theorem u66_0 : VC C66_0.eq_1 := rfl
def C66_1 : ACode := .seq (.reg L66_7) C66_0
theorem u66_1 : VC C66_1.eq_1 := rfl
def C66_2 : ACode := .cond (.t 43) (.exit 1) .skip
theorem u66_2 : VC C66_2.eq_1 := rfl
def C66_3 : ACode := .seq (.reg L66_21) C66_2
theorem u66_3 : VC C66_3.eq_1 := rfl
def C66_4 : ACode := .cond (.t 55) (.reg L66_28) .skip
theorem u66_4 : VC C66_4.eq_1 := rfl
def C66_5 : ACode := .seq (.reg L66_27) C66_4
theorem u66_5 : VC C66_5.eq_1 := rfl
def C66_6 : ACode := .seq (.reg L66_36) (.reg L66_41)
theorem u66_6 : VC C66_6.eq_1 := rfl
def C66_7 : ACode := .cond (.t 68) C66_6 .skip
theorem u66_7 : VC C66_7.eq_1 := rfl
def C66_8 : ACode := .seq (.reg L66_35) C66_7
theorem u66_8 : VC C66_8.eq_1 := rfl
def C66_9 : ACode := .seq C66_8 (.reg L66_44)
theorem u66_9 : VC C66_9.eq_1 := rfl
def C66_10 : ACode := .seq (.reg L66_32) C66_9
theorem u66_10 : VC C66_10.eq_1 := rfl
def C66_11 : ACode := .seq C66_5 C66_10
theorem u66_11 : VC C66_11.eq_1 := rfl
def C66_12 : ACode := .seq C66_3 C66_11
theorem u66_12 : VC C66_12.eq_1 := rfl
def C66_13 : ACode := .seq (.reg L66_11) C66_12
theorem u66_13 : VC C66_13.eq_1 := rfl
def C66_14 : ACode := .block 1 C66_13
theorem u66_14 : VC C66_14.eq_1 := rfl
def C66_15 : ACode := .seq C66_14 (.reg L66_46)
theorem u66_15 : VC C66_15.eq_1 := rfl
def C66_16 : ACode := .seq C66_1 C66_15
theorem u66_16 : VC C66_16.eq_1 := rfl
def C66_17 : ACode := .block 0 (.loop C66_16)
theorem u66_17 : VC C66_17.eq_1 := rfl
def C66_18 : ACode := .seq (.reg L66_4) C66_17
theorem u66_18 : VC C66_18.eq_1 := rfl
def C66_19 : ACode := .seq (.reg L66_47) .ret
theorem u66_19 : VC C66_19.eq_1 := rfl
def C66_20 : ACode := .seq C66_18 C66_19
theorem u66_20 : VC C66_20.eq_1 := rfl
def C66_21 : ACode := .seq (.reg L66_3) C66_20
theorem u66_21 : VC C66_21.eq_1 := rfl
def C66_22 : ACode := .seq (.reg L66_1) C66_21
theorem u66_22 : VC C66_22.eq_1 := rfl
def C66_23 : ACode := .seq (.reg L66_0) C66_22
theorem u66_23 : VC C66_23.eq_1 := rfl
def F66 : AFunc := ⟨83, [.tmp 2], C66_23⟩
theorem cF66 : compB Try.prog 66 = some F66 := by kernel_rfl
attribute [local go_sem ↓] u66_0 u66_1 u66_2 u66_3 u66_4 u66_5 u66_6 u66_7 u66_8 u66_9 u66_12 u66_13 u66_14 u66_15 u66_16 u66_17 u66_18 u66_19 u66_20 u66_21 u66_22 u66_23 v66_0 v66_1 v66_2 v66_3 v66_4 v66_5 v66_6 v66_7 v66_8 v66_9 v66_10 v66_11 v66_12 v66_13 v66_14 v66_15 v66_16 v66_17 v66_18 v66_19 v66_20 v66_21 v66_22 v66_23 v66_24 v66_25 v66_26 v66_27 v66_28 v66_29 v66_30 v66_31 v66_32 v66_33 v66_34 v66_35 v66_36 v66_37 v66_38 v66_39 v66_40 v66_41 v66_42 v66_43 v66_45 v66_46 v66_47
theorem c_partialParams (l : List Param) (f : Flat) (q p n : CV) (h : H) (hl : SlG h q l) (hf : SlF h p n f) (hn : miniG l) (hm : miniF f) : callK (bm Try.prog 66 [.agg [q, p, n]] h) fun r h' => Grow h h' ∧ NwQ h h' r (psT l f l.length) := by
  refine bm_of cF66 ?_
  simp +contextual (maxSteps := 2000000) only [go_sem, Nat.reduceEqDiff, reduceCtorEq, Nat.reduceAdd, Nat.reduceLeDiff, F66]
  refine wp_lit (enc := encQ) (k := 4) (l := []) rfl rfl ?_
  intro h1 w g1 n1 _
  obtain ⟨w, rfl⟩ := n1.one
  simp +contextual (maxSteps := 2000000) only [go_sem, Nat.reduceEqDiff, reduceCtorEq, Nat.reduceAdd, Nat.reduceLeDiff, c_sNamed l f q p n h1 (hl.out.grow g1) (hf.grow g1) hn.sm hm.sm]
  refine wpC_loop (fun i T L h' => Grow h h' ∧ T 1 = .lp 1 0 ∧ (L 1).2 = [q, p, n] ∧ (∃ w, T 3 = .v (.one w) ∧ NwQ h h' (.one w) (psT l f i)) ∧ T 4 = .v (.one (.int .i64 (bothAt l f.nl))) ∧ T 5 = .v (.one (.int .i64 i))) l.length ?_ ?_ (Nat.zero_le _) ?_
  · rintro i T L h' hi ⟨gh, t1, l1, ⟨w, t3, z⟩, t4, t5⟩
    have hlen := hn.len
    have k := hl.out.grow gh
    have kf := hf.grow gh
    have zl := psT_len (l := l) (f := f) (i := i)
    have e1 := fun h => c_byPlace l[i] h
    simp only [encQ] at e1
    have gone : psGone l f i l[i] = true → psT l f (i + 1) = psT l f i := fun e => by rw [psT_next, psOne_gone hi e, List.append_nil]
    apply joinC (P := Try.prog) (c := C66_11) (M := fun T L h2 => h2 = h' ∧ psGone l f i l[i] = false ∧ T 1 = .lp 1 0 ∧ (L 1).2 = [q, p, n] ∧ T 3 = .v (.one w) ∧ T 4 = .v (.one (.int .i64 (bothAt l f.nl))) ∧ T 5 = .v (.one (.int .i64 i)) ∧ T 6 = .lp 6 0 ∧ (L 6).2 = encQ l[i])
    · intro J
      cases c1 : byPlace l[i] with
      | true =>
        cases c2 : decide ((i : Int) < (f.pl.length : Int)) with
        | true =>
          have e : psGone l f i l[i] = true := by unfold psGone; rw [c1, c2]; rfl
          simp +contextual (maxSteps := 2000000) only [go_sem, Nat.reduceEqDiff, reduceCtorEq, Nat.reduceAdd, Nat.reduceLeDiff, t1, l1, t3, t4, t5, k.len, k.iaddr hi, k.whole hi, encQ, kf.pl.len, lt_true hi, e1, c1, c2]
          exact ⟨gh, ⟨w, rfl, by rw [gone e]; exact z⟩, by rw [wrap_next hi hn.sm.len]⟩
        | false =>
          have k2 : decide (l[i].kind = 2) = false := decide_eq_false fun e => by simp [byPlace, e] at c1
          have e : psGone l f i l[i] = false := by unfold psGone; rw [c1, c2, k2]; rfl
          simp +contextual (maxSteps := 2000000) only [go_sem, Nat.reduceEqDiff, reduceCtorEq, Nat.reduceAdd, Nat.reduceLeDiff, t1, l1, t3, t4, t5, k.len, k.iaddr hi, k.whole hi, encQ, kf.pl.len, lt_true hi, e1, c1, c2, k2]
          refine J _ _ _ ?_
          simp +contextual (maxSteps := 2000000) only [go_sem, Nat.reduceEqDiff, reduceCtorEq, Nat.reduceAdd, Nat.reduceLeDiff, t1, l1, t3, t4, t5, encQ]
          exact e
      | false =>
        cases k2 : decide (l[i].kind = 2) with
        | false =>
          have e : psGone l f i l[i] = false := by unfold psGone; rw [c1, k2]; rfl
          simp +contextual (maxSteps := 2000000) only [go_sem, Nat.reduceEqDiff, reduceCtorEq, Nat.reduceAdd, Nat.reduceLeDiff, t1, l1, t3, t4, t5, k.len, k.iaddr hi, k.whole hi, encQ, lt_true hi, e1, c1, k2]
          refine J _ _ _ ?_
          simp +contextual (maxSteps := 2000000) only [go_sem, Nat.reduceEqDiff, reduceCtorEq, Nat.reduceAdd, Nat.reduceLeDiff, t1, l1, t3, t4, t5, encQ]
          exact e
        | true =>
          cases c3 : decide (bothAt l f.nl ≥ 0) with
          | true =>
            have e : psGone l f i l[i] = true := by unfold psGone bothIn; rw [c1, k2, c3]; rfl
            simp +contextual (maxSteps := 2000000) only [go_sem, Nat.reduceEqDiff, reduceCtorEq, Nat.reduceAdd, Nat.reduceLeDiff, t1, l1, t3, t4, t5, k.len, k.iaddr hi, k.whole hi, encQ, lt_true hi, e1, c1, k2, c3]
            exact ⟨gh, ⟨w, rfl, by rw [gone e]; exact z⟩, by rw [wrap_next hi hn.sm.len]⟩
          | false =>
            have e : psGone l f i l[i] = false := by unfold psGone bothIn; rw [c1, k2, c3]; rfl
            simp +contextual (maxSteps := 2000000) only [go_sem, Nat.reduceEqDiff, reduceCtorEq, Nat.reduceAdd, Nat.reduceLeDiff, t1, l1, t3, t4, t5, k.len, k.iaddr hi, k.whole hi, encQ, lt_true hi, e1, c1, k2, c3]
            refine J _ _ _ ?_
            simp +contextual (maxSteps := 2000000) only [go_sem, Nat.reduceEqDiff, reduceCtorEq, Nat.reduceAdd, Nat.reduceLeDiff, t1, l1, t3, t4, t5, encQ]
            exact e
    rintro T L h2 ⟨rfl, eg, t1, l1, t3, t4, t5, t6, l6⟩
    apply joinC (P := Try.prog) (c := C66_10) (M := fun T L h3 => h3 = h2 ∧ T 1 = .lp 1 0 ∧ (L 1).2 = [q, p, n] ∧ T 3 = .v (.one w) ∧ T 4 = .v (.one (.int .i64 (bothAt l f.nl))) ∧ T 5 = .v (.one (.int .i64 i)) ∧ T 6 = .lp 6 0 ∧ (L 6).2 = encQ (turnK (turnB l f.nl i) l[i]))
    · intro J
      cases k1 : decide (l[i].kind = 1) with
      | false =>
        have e : turnK (turnB l f.nl i) l[i] = l[i] := turnK_no (.inr (of_decide_eq_false k1))
        simp +contextual (maxSteps := 2000000) only [go_sem, Nat.reduceEqDiff, reduceCtorEq, Nat.reduceAdd, Nat.reduceLeDiff, ↓u66_11, t1, l1, t3, t4, t5, t6, l6, encQ, k1]
        refine J _ _ _ ?_
        simp +contextual (maxSteps := 2000000) only [go_sem, Nat.reduceEqDiff, reduceCtorEq, Nat.reduceAdd, Nat.reduceLeDiff, t1, l1, t3, t4, t5, t6, l6, encQ, e]
      | true =>
        cases c3 : decide (bothAt l f.nl ≥ 0) with
        | false =>
          have e : turnK (turnB l f.nl i) l[i] = l[i] := turnK_no (.inl (by unfold turnB bothIn; rw [c3]; rfl))
          simp +contextual (maxSteps := 2000000) only [go_sem, Nat.reduceEqDiff, reduceCtorEq, Nat.reduceAdd, Nat.reduceLeDiff, ↓u66_11, t1, l1, t3, t4, t5, t6, l6, encQ, k1, c3]
          refine J _ _ _ ?_
          simp +contextual (maxSteps := 2000000) only [go_sem, Nat.reduceEqDiff, reduceCtorEq, Nat.reduceAdd, Nat.reduceLeDiff, t1, l1, t3, t4, t5, t6, l6, encQ, e]
        | true =>
          cases c4 : decide ((i : Int) ≥ bothAt l f.nl) with
          | false =>
            have e : turnK (turnB l f.nl i) l[i] = l[i] := turnK_no (.inl (by unfold turnB; rw [c4, Bool.and_false]))
            simp +contextual (maxSteps := 2000000) only [go_sem, Nat.reduceEqDiff, reduceCtorEq, Nat.reduceAdd, Nat.reduceLeDiff, ↓u66_11, t1, l1, t3, t4, t5, t6, l6, encQ, k1, c3, c4]
            refine J _ _ _ ?_
            simp +contextual (maxSteps := 2000000) only [go_sem, Nat.reduceEqDiff, reduceCtorEq, Nat.reduceAdd, Nat.reduceLeDiff, t1, l1, t3, t4, t5, t6, l6, encQ, e]
          | true =>
            have e : turnK (turnB l f.nl i) l[i] = ⟨l[i].name, 3, l[i].has, l[i].dflt⟩ := by
              rw [show turnB l f.nl i = true by unfold turnB bothIn; rw [c3, c4]; rfl]
              exact turnK_yes (of_decide_eq_true k1)
            simp +contextual (maxSteps := 2000000) only [go_sem, Nat.reduceEqDiff, reduceCtorEq, Nat.reduceAdd, Nat.reduceLeDiff, ↓u66_11, t1, l1, t3, t4, t5, t6, l6, encQ, k1, c3, c4]
            refine J _ _ _ ?_
            simp +contextual (maxSteps := 2000000) only [go_sem, Nat.reduceEqDiff, reduceCtorEq, Nat.reduceAdd, Nat.reduceLeDiff, t1, l1, t3, t4, t5, t6, l6, encQ, e]
    rintro T L h3 ⟨rfl, t1, l1, t3, t4, t5, t6, l6⟩
    have e2 : psNew l f i l[i] = setD f.nl (turnK (turnB l f.nl i) l[i]) := rfl
    generalize turnK (turnB l f.nl i) l[i] = y at l6 e2
    have ep := c_pairAt f.nl (.one n) y.name h3 kf.nl hm.sm.nl
    have eb := fun h => c_byName y h
    simp only [encQ] at eb
    apply joinS (P := Try.prog) (l := L66_44) (M := fun T L h4 => h4 = h3 ∧ T 1 = .lp 1 0 ∧ (L 1).2 = [q, p, n] ∧ T 3 = .v (.one w) ∧ T 4 = .v (.one (.int .i64 (bothAt l f.nl))) ∧ T 5 = .v (.one (.int .i64 i)) ∧ T 6 = .lp 6 0 ∧ (L 6).2 = encQ (setD f.nl y))
    · intro J
      rcases idx_cases (fun p : Pair => decide (p.name = y.name)) f.nl with c | ⟨j, hj, c, _⟩
      · have c : pairAt f.nl y.name = -1 := c
        rw [c] at ep
        simp +contextual (maxSteps := 2000000) only [go_sem, Nat.reduceEqDiff, reduceCtorEq, Nat.reduceAdd, Nat.reduceLeDiff, ↓u66_10, t1, l1, t3, t4, t5, t6, l6, encQ, ep, decide_eq_false (show ¬ ((-1 : Int) ≥ 0) by omega)]
        refine J _ _ _ ?_
        simp +contextual (maxSteps := 2000000) only [go_sem, Nat.reduceEqDiff, reduceCtorEq, Nat.reduceAdd, Nat.reduceLeDiff, t1, l1, t3, t4, t5, t6, l6, encQ, setD_no c]
      · have c : pairAt f.nl y.name = j := c
        rw [c] at ep
        cases b : byName y with
        | false =>
          simp +contextual (maxSteps := 2000000) only [go_sem, Nat.reduceEqDiff, reduceCtorEq, Nat.reduceAdd, Nat.reduceLeDiff, ↓u66_10, t1, l1, t3, t4, t5, t6, l6, encQ, ep, decide_eq_true (show ((j : Int) ≥ 0) by omega), eb, b]
          refine J _ _ _ ?_
          simp +contextual (maxSteps := 2000000) only [go_sem, Nat.reduceEqDiff, reduceCtorEq, Nat.reduceAdd, Nat.reduceLeDiff, t1, l1, t3, t4, t5, t6, l6, encQ, setD_else b]
        | true =>
          simp +contextual (maxSteps := 2000000) only [go_sem, Nat.reduceEqDiff, reduceCtorEq, Nat.reduceAdd, Nat.reduceLeDiff, ↓u66_10, t1, l1, t3, t4, t5, t6, l6, encQ, ep, decide_eq_true (show ((j : Int) ≥ 0) by omega), eb, b, kf.nl.iaddr hj, kf.nl.fieldO hj]
          refine J _ _ _ ?_
          simp +contextual (maxSteps := 2000000) only [go_sem, Nat.reduceEqDiff, reduceCtorEq, Nat.reduceAdd, Nat.reduceLeDiff, t1, l1, t3, t4, t5, t6, l6, encQ, setD_at hj c b]
    rintro T L h4 ⟨rfl, t1, l1, t3, t4, t5, t6, l6⟩
    rw [← e2] at l6
    have l6' := l6
    simp only [encQ] at l6'
    simp +contextual (maxSteps := 2000000) only [go_sem, Nat.reduceEqDiff, reduceCtorEq, Nat.reduceAdd, Nat.reduceLeDiff, ↓v66_44, t1, l1, t3, t4, t5, t6, l6']
    refine wp_lit (enc := encQ) (k := 4) (l := [psNew l f i l[i]]) rfl rfl ?_
    intro h5 w5 g5 n5 _
    simp +contextual (maxSteps := 2000000) only [go_sem, Nat.reduceEqDiff, reduceCtorEq, Nat.reduceAdd, Nat.reduceLeDiff, t1, l1, t3, t4, t5, t6, l6']
    refine wp_append lenQ (z.grow g5) (n5.sl lenQ) (gh.trans g5) (by simp; omega) ?_
    intro h6 s6 g6 n6 st6 hb6
    obtain ⟨c6, rfl⟩ := n6.one
    simp +contextual (maxSteps := 2000000) only [go_sem, Nat.reduceEqDiff, reduceCtorEq, Nat.reduceAdd, Nat.reduceLeDiff, t1, l1, t3, t4, t5, t6, l6']
    exact ⟨g6, ⟨c6, rfl, by rw [psT_next, psOne_new hi eg]; exact n6⟩, by rw [wrap_next hi hn.sm.len]⟩
  · rintro T L h' ⟨gh, t1, l1, ⟨w, t3, z⟩, t4, t5⟩
    have k := hl.out.grow gh
    simp +contextual (maxSteps := 2000000) only [go_sem, Nat.reduceEqDiff, reduceCtorEq, Nat.reduceAdd, Nat.reduceLeDiff, t1, l1, t3, t4, t5, k.len, lt_false]
    exact gcK_of ⟨gh, z⟩ (fun hs _ => ⟨Grow.refl h, z.scalar hs h⟩)
  · rw [psT_zero]
    simp +contextual (maxSteps := 2000000) only [go_sem, Nat.reduceEqDiff, reduceCtorEq, Nat.reduceAdd, Nat.reduceLeDiff]
    exact ⟨g1, ⟨_, rfl, n1⟩, rfl⟩
/-! spec.checkedSignature -/
def L65_0 : List AStep := [⟨.alloc 25 [(.sl none 0 (some 0))], (some 2), none, []⟩, ⟨.mov (.c (.bool false)), (some 3), none, []⟩]
theorem v65_0 : VS L65_0.eq_1 := rfl
def L65_1 : List AStep := [⟨.not (.t 5), (some 6), none, []⟩]
theorem v65_1 : VS L65_1.eq_1 := rfl
def L65_2 : List AStep := ⟨.mov (.t 0), (some 4), none, []⟩ :: ⟨.call 114 [(.t 4)], (some 5), none, []⟩ :: L65_1
theorem v65_2 : VS L65_2.eq_1 := rfl
def L65_3 : List AStep := [⟨.mov (.c (.bool false)), (some 3), none, []⟩]
theorem v65_3 : VS L65_3.eq_1 := rfl
def L65_4 : List AStep := ⟨.build [(.sl none 0 (some 0))] [], (some 7), none, []⟩ :: ⟨.store 1 (.t 2) (.t 7), none, none, []⟩ :: L65_3
theorem v65_4 : VS L65_4.eq_1 := rfl
def L65_5 : List AStep := [⟨.store 1 (.t 2) (.t 9), none, none, []⟩, ⟨.mov (.c (.bool true)), (some 3), none, []⟩]
theorem v65_5 : VS L65_5.eq_1 := rfl
def L65_6 : List AStep := ⟨.mov (.t 0), (some 8), none, []⟩ :: ⟨.build [(.sl none 0 (some 0))] [(0, 1, (.t 8))], (some 9), none, []⟩ :: L65_5
theorem v65_6 : VS L65_6.eq_1 := rfl
def C65_0 : ACode := .seq (.reg L65_4) .ret
theorem u65_0 : VC C65_0.eq_1 := rfl
def C65_1 : ACode := .cond (.t 6) C65_0 .skip
theorem u65_1 : VC C65_1.eq_1 := rfl
def C65_2 : ACode := .seq (.reg L65_2) C65_1
theorem u65_2 : VC C65_2.eq_1 := rfl
def C65_3 : ACode := .seq (.reg L65_6) .ret
theorem u65_3 : VC C65_3.eq_1 := rfl
def C65_4 : ACode := .seq C65_2 C65_3
theorem u65_4 : VC C65_4.eq_1 := rfl
def C65_5 : ACode := .seq (.reg L65_0) C65_4
theorem u65_5 : VC C65_5.eq_1 := rfl
def F65 : AFunc := ⟨10, [.cell 2 1 true, .tmp 3], C65_5⟩
theorem cF65 : compB Try.prog 65 = some F65 := by kernel_rfl
attribute [local go_sem ↓] u65_0 u65_1 u65_2 u65_3 u65_4 u65_5 v65_0 v65_1 v65_2 v65_3 v65_4 v65_5 v65_6
theorem c_checkedSigP (l : List Param) (w : CV) (h : H) (hl : SlQ h (.one w) l) (hn : smQ l) : bm Try.prog 65 [.one w] h = some (.tup [.agg [if okSig l = true then w else .sl none 0 (some 0)], .one (.bool (okSig l))], h) := by
  refine bm_eq cF65 ?_
  cases b : okSig l with
  | true => simp +contextual (maxSteps := 2000000) only [go_sem, Nat.reduceEqDiff, reduceCtorEq, Nat.reduceAdd, Nat.reduceLeDiff, F65, c_validParams _ _ _ hl hn, b]
  | false => simp +contextual (maxSteps := 2000000) only [go_sem, Nat.reduceEqDiff, reduceCtorEq, Nat.reduceAdd, Nat.reduceLeDiff, F65, c_validParams _ _ _ hl hn, b]
/-! spec.PartialSignature -/
def L24_0 : List AStep := [⟨.mov (.c (.bool false)), (some 3), none, []⟩]
theorem v24_0 : VS L24_0.eq_1 := rfl
def L24_1 : List AStep := ⟨.box 31 (.t 0), (some 1), none, []⟩ :: ⟨.alloc 25 [(.sl none 0 (some 0))], (some 2), none, []⟩ :: L24_0
theorem v24_1 : VS L24_1.eq_1 := rfl
def L24_2 : List AStep := [⟨.not (.t 5), (some 6), none, []⟩]
theorem v24_2 : VS L24_2.eq_1 := rfl
def L24_3 : List AStep := ⟨.load 3 true (.t 1), (some 4), none, []⟩ :: ⟨.call 51 [(.t 4)], (some 5), none, []⟩ :: L24_2
theorem v24_3 : VS L24_3.eq_1 := rfl
def L24_4 : List AStep := [⟨.mov (.c (.bool false)), (some 3), none, []⟩]
theorem v24_4 : VS L24_4.eq_1 := rfl
def L24_5 : List AStep := ⟨.build [(.sl none 0 (some 0))] [], (some 7), none, []⟩ :: ⟨.store 1 (.t 2) (.t 7), none, none, []⟩ :: L24_4
theorem v24_5 : VS L24_5.eq_1 := rfl
def L24_6 : List AStep := [⟨.mov (.t 12), (some 3), none, []⟩]
theorem v24_6 : VS L24_6.eq_1 := rfl
def L24_7 : List AStep := ⟨.extract (.t 10) 1, (some 12), none, []⟩ :: ⟨.store 1 (.t 2) (.t 11), none, none, []⟩ :: L24_6
theorem v24_7 : VS L24_7.eq_1 := rfl
def L24_8 : List AStep := ⟨.call 65 [(.t 9)], (some 10), none, []⟩ :: ⟨.extract (.t 10) 0, (some 11), none, []⟩ :: L24_7
theorem v24_8 : VS L24_8.eq_1 := rfl
def L24_9 : List AStep := ⟨.load 3 true (.t 1), (some 8), none, []⟩ :: ⟨.call 66 [(.t 8)], (some 9), none, []⟩ :: L24_8
theorem v24_9 : VS L24_9.eq_1 := rfl
def C24_0 : ACode := .seq (.reg L24_5) .ret
theorem u24_0 : VC C24_0.eq_1 := rfl
def C24_1 : ACode := .cond (.t 6) C24_0 .skip
theorem u24_1 : VC C24_1.eq_1 := rfl
def C24_2 : ACode := .seq (.reg L24_3) C24_1
theorem u24_2 : VC C24_2.eq_1 := rfl
def C24_3 : ACode := .seq (.reg L24_9) .ret
theorem u24_3 : VC C24_3.eq_1 := rfl
def C24_4 : ACode := .seq C24_2 C24_3
theorem u24_4 : VC C24_4.eq_1 := rfl
def C24_5 : ACode := .seq (.reg L24_1) C24_4
theorem u24_5 : VC C24_5.eq_1 := rfl
def F24 : AFunc := ⟨13, [.cell 2 1 true, .tmp 3], C24_5⟩
theorem cF24 : compB Try.prog 24 = some F24 := by kernel_rfl
attribute [local go_sem ↓] u24_0 u24_1 u24_2 u24_3 u24_4 u24_5 v24_0 v24_1 v24_2 v24_3 v24_4 v24_5 v24_6 v24_7 v24_8 v24_9
theorem k_sPartialSignature (x : Part) (q p n : CV) (h : H) (a : SlD h q p n x) (m : miniD x) : callK (bm Try.prog 24 [.agg [q, p, n]] h) fun r h' => Grow h h' ∧ ∃ w, r = .tup [.agg [w], .one (.bool (psOk x.sig x.flat))] ∧ NwQ h h' (.one w) (psF x.sig x.flat) := by
  refine bm_of cF24 ?_
  have ev := c_validPartial x.sig x.flat q p n h a.g a.f m.g m.f
  unfold psF psOk
  cases b1 : partOk x.sig x.flat with
  | false =>
    simp +contextual (maxSteps := 2000000) only [go_sem, Nat.reduceEqDiff, reduceCtorEq, Nat.reduceAdd, Nat.reduceLeDiff, F24, ev, b1, Bool.false_and]
    exact ⟨Grow.refl h, _, rfl, .nil⟩
  | true =>
  simp +contextual (maxSteps := 2000000) only [go_sem, Nat.reduceEqDiff, reduceCtorEq, Nat.reduceAdd, Nat.reduceLeDiff, F24, ev, b1, Bool.true_and]
  refine wp_call (c_partialParams x.sig x.flat q p n h a.g a.f m.g m.f) ?_
  rintro r h1 ⟨g1, z⟩
  obtain ⟨c1, rfl⟩ := z.one
  have ec := c_checkedSigP (psT x.sig x.flat x.sig.length) c1 h1 (z.sl lenQ) (psT_sm m.g).sm
  cases b3 : okSig (psT x.sig x.flat x.sig.length) with
  | true =>
    rw [b3, if_pos rfl] at ec
    simp +contextual (maxSteps := 2000000) only [go_sem, Nat.reduceEqDiff, reduceCtorEq, Nat.reduceAdd, Nat.reduceLeDiff, ec]
    exact gcK_of ⟨g1, _, rfl, z⟩ (fun hs _ => ⟨Grow.refl h, _, rfl, z.scalar (by simpa [AV.scalar, AV.scalars, CV.scalar] using hs) h⟩)
  | false =>
    rw [b3, if_neg (by simp)] at ec
    simp +contextual (maxSteps := 2000000) only [go_sem, Nat.reduceEqDiff, reduceCtorEq, Nat.reduceAdd, Nat.reduceLeDiff, ec]
    exact gcK_of ⟨g1, _, rfl, .nil⟩ (fun _ _ => ⟨Grow.refl h, _, rfl, .nil⟩)
end Go.Proofs.Ytekkimfdcbgcoac.Am
