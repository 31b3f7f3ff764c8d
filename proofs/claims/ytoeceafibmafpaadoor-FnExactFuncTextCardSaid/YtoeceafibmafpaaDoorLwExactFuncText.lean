/- The law FnExactFuncText. -/
import Derived.Test.YtoeceafibmafpaaDoorTF
namespace Go.Proofs.YtoeceafibmafpaaDoor.Am
open Go
set_option maxRecDepth 100000
set_option maxHeartbeats 4000000
set_option linter.unusedSimpArgs false
set_option linter.unusedVariables false
attribute [local go_sem ↓] bv_t bv_c ev_t ev_c put_same put_ne put_none kill_at pro_at lb_same lb_ne start_zero start_succ wpC_seq wpC_reg wpC_cond wpC_block wpC_skip wpC_exit wpC_ret thenQ_normal thenQ_exit thenQ_ret inBlk_normal inBlk_exit inBlk_ret wpS_nil wpS_step wpS_again wpS_guard wpO_mov wpO_load wpO_faddr wpO_nilCheck wpO_pick wpO_build wpO_bin wpO_eqb wpO_eqst wpO_eqnil wpO_not wpO_conv wpO_bytesStr wpO_iaddr wpO_idxStr wpO_field wpO_extract wpO_len wpO_lenStr wpO_cap wpO_min wpO_slice wpO_sliceStr wpO_alloc wpO_box wpO_store wpO_call wpO_callv wpO_mkfn wpO_buildSlice wpO_mkslice wpO_append wpO_appz proA_nil proA_cons tmpX_nil tmpX_tmp tmpX_cell doneB_normal doneB_ret agK_cons agK_nil agK_guard agG_tt agG_ff agG_tf agG_ft agG_undef pureB_load results_one results_two results_nil resBs_cons resBs_nil resB_tmp resB_cell
attribute [local go_sem] kill_v kill_lp_ne kill_lp_same pro_v pro_lp_same pro_lp_ne av_v av_lp optB_some optX_some valX_eq ldX_lp ldX_v faX_lp faX_v ncX_lp ncX_ptr ncX_fn boxK_one boxK_agg stL_some stK_lp_one stK_lp_agg stK_v_one stK_v_agg proM_v proM_lp callG_mk callVG_mk callvK_fn fnG_mk ptrsA_nil ptrsA_cons callH_some whenA_true whenA_false guardH_tt guardH_ff guardH_tf guardH_ft guardH_undef agV_one agV_agg lenO_sl lenStrO_str notO_bool pickO_bool convO_int eqbO_bool eqnilO_sl extractO_tup capO_sl minO_int loadL_one loadL_all storeL_eq fillA_nil fillA_one fillA_agg nat_ge neg_ge nat_lt neg_lt buildO bin_add bin_sub bin_mul bin_eql bin_neq bin_lss bin_leq bin_gtr bin_geq str_eql str_neq str_lss str_leq str_gtr str_geq retK_some endK_mk gcK_same gcK_int gcK_bool tupO_one tupO_agg rdy_self ib ii Option.map_none Option.map_some Option.some.injEq exists_eq_left' exists_eq_left ne_eq not_false_eq_true if_true if_false List.map_cons List.map_nil List.getElem?_cons_zero List.getElem?_cons_succ List.length_cons List.length_nil List.take_succ_cons List.take_zero List.take_nil List.drop_succ_cons List.drop_zero List.drop_nil List.cons_append List.nil_append List.append_nil List.set_cons_zero List.set_cons_succ Nat.zero_add forall_const true_and and_true and_self Bool.false_eq_true false_implies true_implies implies_true Bool.not_true Bool.not_false Bool.not_eq_true' Bool.not_eq_false' beq_self_eq_true Bool.bne_true Bool.bne_false
attribute [local go_sem] lenI lenS lenP lenQ lenB lenL lenT encI_0 encS_0 encP_0 encP_1 encQ_0 encQ_1 encQ_2 encQ_3 encB_0 encB_1 encL_0 encL_1 encT_0 encT_1
attribute [local go_sem low] whenA_bool guardH_bool
attribute [local go_sem] loadL_agg
/-! laws.FnExactFuncText -/
def L6_0 : List AStep := [⟨.box 51 (.t 0), (some 1), none, []⟩, ⟨.mov (.c (.bool false)), (some 2), none, []⟩]
theorem v6_0 : VS L6_0.eq_1 := rfl
def L6_1 : List AStep := [⟨.mov (.c (.int .i64 1048576)), (some 3), none, []⟩]
theorem v6_1 : VS L6_1.eq_1 := rfl
def L6_2 : List AStep := [⟨.call 23 [(.t 7), (.t 8)], (some 9), none, []⟩, ⟨.mov (.t 9), (some 3), none, []⟩]
theorem v6_2 : VS L6_2.eq_1 := rfl
def L6_3 : List AStep := ⟨.load 2 true (.t 1), (some 7), none, []⟩ :: ⟨.mov (.t 3), (some 8), none, []⟩ :: L6_2
theorem v6_3 : VS L6_3.eq_1 := rfl
def L6_4 : List AStep := [⟨.mov (.t 3), (some 10), none, []⟩, ⟨.bin .lss (.t 10) (.c (.int .i64 0)), (some 11), none, []⟩]
theorem v6_4 : VS L6_4.eq_1 := rfl
def L6_5 : List AStep := [⟨.mov (.c (.bool true)), (some 2), none, []⟩]
theorem v6_5 : VS L6_5.eq_1 := rfl
def L6_6 : List AStep := [⟨.call 24 [(.t 13)], (some 14), none, []⟩, ⟨.mov (.t 14), (some 4), none, []⟩]
theorem v6_6 : VS L6_6.eq_1 := rfl
def L6_7 : List AStep := ⟨.load 2 true (.t 1), (some 12), none, []⟩ :: ⟨.call 25 [(.t 12)], (some 13), none, []⟩ :: L6_6
theorem v6_7 : VS L6_7.eq_1 := rfl
def L6_8 : List AStep := [⟨.alloc 48 [(.str (strOfNums [])), (.sl none 0 (some 0))], (some 5), none, []⟩, ⟨.store 2 (.t 5) (.t 16), none, none, []⟩]
theorem v6_8 : VS L6_8.eq_1 := rfl
def L6_9 : List AStep := ⟨.load 2 true (.t 1), (some 15), none, []⟩ :: ⟨.call 25 [(.t 15)], (some 16), none, []⟩ :: L6_8
theorem v6_9 : VS L6_9.eq_1 := rfl
def L6_10 : List AStep := [⟨.mov (.t 18), (some 6), none, []⟩]
theorem v6_10 : VS L6_10.eq_1 := rfl
def L6_11 : List AStep := ⟨.load 2 true (.t 5), (some 17), none, []⟩ :: ⟨.call 22 [(.t 17)], (some 18), none, []⟩ :: L6_10
theorem v6_11 : VS L6_11.eq_1 := rfl
def L6_12 : List AStep := [⟨.bin .neq (.t 19) (.t 20), (some 21), none, []⟩]
theorem v6_12 : VS L6_12.eq_1 := rfl
def L6_13 : List AStep := ⟨.mov (.t 6), (some 19), none, []⟩ :: ⟨.mov (.t 4), (some 20), none, []⟩ :: L6_12
theorem v6_13 : VS L6_13.eq_1 := rfl
def L6_14 : List AStep := [⟨.mov (.c (.bool false)), (some 2), none, []⟩]
theorem v6_14 : VS L6_14.eq_1 := rfl
def L6_15 : List AStep := [⟨.not (.t 25), (some 26), none, []⟩]
theorem v6_15 : VS L6_15.eq_1 := rfl
def L6_16 : List AStep := ⟨.call 25 [(.t 23)], (some 24), none, [(.load 2 true (.t 5), (some 22), none)]⟩ :: ⟨.call 26 [(.t 22), (.t 24)], (some 25), none, []⟩ :: L6_15
theorem v6_16 : VS L6_16.eq_1 := rfl
def L6_17 : List AStep := ⟨.load 2 true (.t 5), (some 22), none, []⟩ :: ⟨.load 2 true (.t 1), (some 23), none, []⟩ :: L6_16
theorem v6_17 : VS L6_17.eq_1 := rfl
def L6_18 : List AStep := [⟨.mov (.c (.bool false)), (some 2), none, []⟩]
theorem v6_18 : VS L6_18.eq_1 := rfl
def L6_19 : List AStep := [⟨.mov (.c (.bool true)), (some 2), none, []⟩]
theorem v6_19 : VS L6_19.eq_1 := rfl
def C6_0 : ACode := .seq (.reg L6_5) .ret
theorem u6_0 : VC C6_0.eq_1 := rfl
def C6_1 : ACode := .cond (.t 11) C6_0 .skip
theorem u6_1 : VC C6_1.eq_1 := rfl
def C6_2 : ACode := .seq (.reg L6_4) C6_1
theorem u6_2 : VC C6_2.eq_1 := rfl
def C6_3 : ACode := .seq (.reg L6_14) .ret
theorem u6_3 : VC C6_3.eq_1 := rfl
def C6_4 : ACode := .cond (.t 21) C6_3 .skip
theorem u6_4 : VC C6_4.eq_1 := rfl
def C6_5 : ACode := .seq (.reg L6_13) C6_4
theorem u6_5 : VC C6_5.eq_1 := rfl
def C6_6 : ACode := .seq (.reg L6_18) .ret
theorem u6_6 : VC C6_6.eq_1 := rfl
def C6_7 : ACode := .cond (.t 26) C6_6 .skip
theorem u6_7 : VC C6_7.eq_1 := rfl
def C6_8 : ACode := .seq (.reg L6_17) C6_7
theorem u6_8 : VC C6_8.eq_1 := rfl
def C6_9 : ACode := .seq (.reg L6_19) .ret
theorem u6_9 : VC C6_9.eq_1 := rfl
def C6_10 : ACode := .seq C6_8 C6_9
theorem u6_10 : VC C6_10.eq_1 := rfl
def C6_11 : ACode := .seq C6_5 C6_10
theorem u6_11 : VC C6_11.eq_1 := rfl
def C6_12 : ACode := .seq (.reg L6_11) C6_11
theorem u6_12 : VC C6_12.eq_1 := rfl
def C6_13 : ACode := .seq (.reg L6_9) C6_12
theorem u6_13 : VC C6_13.eq_1 := rfl
def C6_14 : ACode := .seq (.reg L6_7) C6_13
theorem u6_14 : VC C6_14.eq_1 := rfl
def C6_15 : ACode := .seq C6_2 C6_14
theorem u6_15 : VC C6_15.eq_1 := rfl
def C6_16 : ACode := .seq (.reg L6_3) C6_15
theorem u6_16 : VC C6_16.eq_1 := rfl
def C6_17 : ACode := .seq (.reg L6_1) C6_16
theorem u6_17 : VC C6_17.eq_1 := rfl
def C6_18 : ACode := .seq (.reg L6_0) C6_17
theorem u6_18 : VC C6_18.eq_1 := rfl
def F6 : AFunc := ⟨27, [.tmp 2], C6_18⟩
theorem cF6 : compB Tryd.prog 6 = some F6 := by kernel_rfl
attribute [local go_sem ↓] u6_0 u6_1 u6_2 u6_3 u6_4 u6_5 u6_6 u6_7 u6_8 u6_9 u6_10 u6_11 u6_12 u6_13 u6_14 u6_15 u6_16 u6_17 u6_18 v6_0 v6_1 v6_2 v6_3 v6_4 v6_5 v6_6 v6_7 v6_8 v6_9 v6_10 v6_11 v6_12 v6_13 v6_14 v6_15 v6_16 v6_17 v6_18 v6_19
theorem law6 (h : H) (avs : List AV) (hok : okVs Tryd.prog h 6 [ 51 ] avs) : callK (bm Tryd.prog 6 avs h) fun r _ => r = ib true := by
  obtain ⟨v0, avs, rfl, hv0, hok⟩ := okVs_cons hok
  obtain rfl := okVs_nil hok
  obtain ⟨cs, rfl, hj⟩ := okV_agg (by kernel_rfl) hv0
  obtain ⟨r0, rfl, a, y0, k0⟩ := dEW (m := 1) cs hj
  refine bm_of cF6 ?_
  have z0 := c_szEW r0 a 1048576 h (by omega) (by omega) y0 k0
  simp only [encW] at z0
  by_cases b0 : szr 1048576 (wtEW a) < 0
  · simp +contextual (maxSteps := 2000000) only [go_sem, Nat.reduceEqDiff, reduceCtorEq, Nat.reduceAdd, Nat.reduceLeDiff, F6, encW, z0, decide_eq_true b0]
  obtain ⟨e0, u0⟩ := szr_ge b0
  have s0 : miniE a := ⟨by unfold wtEW at u0; omega, wtG_sm (by unfold wtEW at u0; unfold wtG; omega)⟩
  have m0 : a.params.length ≤ 1048576 := s0.g.len
  have t0 := c_toEW r0 a h y0 m0
  simp only [encW] at t0
  simp +contextual (maxSteps := 2000000) only [go_sem, Nat.reduceEqDiff, reduceCtorEq, Nat.reduceAdd, Nat.reduceLeDiff, F6, encW, z0, decide_eq_false b0]
  refine wp_call t0 ?_
  rintro q h1 ⟨g1, u1, rfl, n1⟩
  simp +contextual (maxSteps := 2000000) only [go_sem, Nat.reduceEqDiff, reduceCtorEq, Nat.reduceAdd, Nat.reduceLeDiff, encW]
  have w1 := k_sFuncText u1 a h1 n1.rd s0
  simp only [encW] at w1
  refine wp_call w1 ?_
  rintro q h2 ⟨g2, rfl⟩
  have t2 := c_toEW r0 a h2 (y0.grow (g1.trans g2)) m0
  simp only [encW] at t2
  simp +contextual (maxSteps := 2000000) only [go_sem, Nat.reduceEqDiff, reduceCtorEq, Nat.reduceAdd, Nat.reduceLeDiff]
  refine wp_call t2 ?_
  rintro q h3 ⟨g3, u3, rfl, n3⟩
  have w3 := k_iFuncText u3 a h3 n3.rd s0
  simp only [encW] at w3
  simp +contextual (maxSteps := 2000000) only [go_sem, Nat.reduceEqDiff, reduceCtorEq, Nat.reduceAdd, Nat.reduceLeDiff, encW]
  refine wp_call w3 ?_
  rintro q h4 ⟨g4, rfl⟩
  have t4 := c_toEW r0 a h4 (y0.grow (((g1.trans g2).trans g3).trans g4)) m0
  simp only [encW] at t4
  simp +contextual (maxSteps := 2000000) only [go_sem, Nat.reduceEqDiff, reduceCtorEq, Nat.reduceAdd, Nat.reduceLeDiff, decide_true]
  refine wp_call t4 ?_
  rintro q h5 ⟨g5, u5, rfl, n5⟩
  have q0 := c_eqFunc u3 u5 a a h5 (n3.rd.grow (g4.trans g5)) n5.rd (by unfold big; omega)
  simp only [encW] at q0
  simp +contextual (maxSteps := 2000000) only [go_sem, Nat.reduceEqDiff, reduceCtorEq, Nat.reduceAdd, Nat.reduceLeDiff, encW, q0, decide_true]
  try exact gcK_of rfl (fun _ _ => rfl)
end Go.Proofs.YtoeceafibmafpaaDoor.Am
