/- Contracts of the laws: comparisons. -/
import Derived.Test.YtdalgphpacikkaaGreatDat
namespace Go.Proofs.YtdalgphpacikkaaGreat.Am
open Go
set_option maxRecDepth 100000
set_option maxHeartbeats 4000000
set_option linter.unusedSimpArgs false
set_option linter.unusedVariables false
attribute [local go_sem ↓] bv_t bv_c ev_t ev_c put_same put_ne put_none kill_at pro_at lb_same lb_ne start_zero start_succ wpC_seq wpC_reg wpC_cond wpC_block wpC_skip wpC_exit wpC_ret thenQ_normal thenQ_exit thenQ_ret inBlk_normal inBlk_exit inBlk_ret wpS_nil wpS_step wpS_again wpS_guard wpO_mov wpO_load wpO_faddr wpO_nilCheck wpO_pick wpO_build wpO_bin wpO_eqb wpO_eqst wpO_eqnil wpO_not wpO_conv wpO_bytesStr wpO_iaddr wpO_idxStr wpO_field wpO_extract wpO_len wpO_lenStr wpO_cap wpO_min wpO_slice wpO_sliceStr wpO_alloc wpO_box wpO_store wpO_call wpO_callv wpO_mkfn wpO_buildSlice wpO_mkslice wpO_append wpO_appz proA_nil proA_cons tmpX_nil tmpX_tmp tmpX_cell doneB_normal doneB_ret agK_cons agK_nil agK_guard agG_tt agG_ff agG_tf agG_ft agG_undef pureB_load results_one results_two results_nil resBs_cons resBs_nil resB_tmp resB_cell
attribute [local go_sem] kill_v kill_lp_ne kill_lp_same pro_v pro_lp_same pro_lp_ne av_v av_lp optB_some optX_some valX_eq ldX_lp ldX_v faX_lp faX_v ncX_lp ncX_ptr ncX_fn boxK_one boxK_agg stL_some stK_lp_one stK_lp_agg stK_v_one stK_v_agg proM_v proM_lp callG_mk callVG_mk callvK_fn fnG_mk ptrsA_nil ptrsA_cons callH_some whenA_true whenA_false guardH_tt guardH_ff guardH_tf guardH_ft guardH_undef agV_one agV_agg lenO_sl lenStrO_str notO_bool pickO_bool convO_int eqbO_bool eqnilO_sl extractO_tup capO_sl minO_int loadL_one loadL_all storeL_eq fillA_nil fillA_one fillA_agg nat_ge neg_ge nat_lt neg_lt buildO bin_add bin_sub bin_mul bin_eql bin_neq bin_lss bin_leq bin_gtr bin_geq str_eql str_neq str_lss str_leq str_gtr str_geq retK_some endK_mk gcK_same gcK_int gcK_bool tupO_one tupO_agg rdy_self ib ii Option.map_none Option.map_some Option.some.injEq exists_eq_left' exists_eq_left ne_eq not_false_eq_true if_true if_false List.map_cons List.map_nil List.getElem?_cons_zero List.getElem?_cons_succ List.length_cons List.length_nil List.take_succ_cons List.take_zero List.take_nil List.drop_succ_cons List.drop_zero List.drop_nil List.cons_append List.nil_append List.append_nil List.set_cons_zero List.set_cons_succ Nat.zero_add forall_const true_and and_true and_self Bool.false_eq_true false_implies true_implies implies_true Bool.not_true Bool.not_false Bool.not_eq_true' Bool.not_eq_false' beq_self_eq_true Bool.bne_true Bool.bne_false
attribute [local go_sem] lenI lenS lenP lenQ lenB lenL lenT encI_0 encS_0 encP_0 encP_1 encQ_0 encQ_1 encQ_2 encQ_3 encB_0 encB_1 encL_0 encL_1 encT_0 encT_1
attribute [local go_sem low] whenA_bool guardH_bool
/-! laws.eqParam -/
def L47_0 : List AStep := [⟨.mov (.c (.bool false)), (some 4), none, []⟩]
theorem v47_0 : VS L47_0.eq_1 := rfl
def L47_1 : List AStep := ⟨.box 79 (.t 0), (some 2), none, []⟩ :: ⟨.box 79 (.t 1), (some 3), none, []⟩ :: L47_0
theorem v47_1 : VS L47_1.eq_1 := rfl
def L47_2 : List AStep := [⟨.bin .neq (.t 6) (.t 8), (some 9), none, []⟩]
theorem v47_2 : VS L47_2.eq_1 := rfl
def L47_3 : List AStep := ⟨.faddr 0 (.t 3), (some 7), none, []⟩ :: ⟨.load 1 false (.t 7), (some 8), none, []⟩ :: L47_2
theorem v47_3 : VS L47_3.eq_1 := rfl
def L47_4 : List AStep := ⟨.faddr 0 (.t 2), (some 5), none, []⟩ :: ⟨.load 1 false (.t 5), (some 6), none, []⟩ :: L47_3
theorem v47_4 : VS L47_4.eq_1 := rfl
def L47_5 : List AStep := [⟨.mov (.c (.bool false)), (some 4), none, []⟩]
theorem v47_5 : VS L47_5.eq_1 := rfl
def L47_6 : List AStep := [⟨.bin .neq (.t 11) (.t 13), (some 14), none, []⟩]
theorem v47_6 : VS L47_6.eq_1 := rfl
def L47_7 : List AStep := ⟨.faddr 1 (.t 3), (some 12), none, []⟩ :: ⟨.load 1 false (.t 12), (some 13), none, []⟩ :: L47_6
theorem v47_7 : VS L47_7.eq_1 := rfl
def L47_8 : List AStep := ⟨.faddr 1 (.t 2), (some 10), none, []⟩ :: ⟨.load 1 false (.t 10), (some 11), none, []⟩ :: L47_7
theorem v47_8 : VS L47_8.eq_1 := rfl
def L47_9 : List AStep := [⟨.mov (.c (.bool false)), (some 4), none, []⟩]
theorem v47_9 : VS L47_9.eq_1 := rfl
def L47_10 : List AStep := [⟨.eqb true (.t 16) (.t 18), (some 19), none, []⟩]
theorem v47_10 : VS L47_10.eq_1 := rfl
def L47_11 : List AStep := ⟨.faddr 2 (.t 3), (some 17), none, []⟩ :: ⟨.load 1 false (.t 17), (some 18), none, []⟩ :: L47_10
theorem v47_11 : VS L47_11.eq_1 := rfl
def L47_12 : List AStep := ⟨.faddr 2 (.t 2), (some 15), none, []⟩ :: ⟨.load 1 false (.t 15), (some 16), none, []⟩ :: L47_11
theorem v47_12 : VS L47_12.eq_1 := rfl
def L47_13 : List AStep := [⟨.mov (.c (.bool false)), (some 4), none, []⟩]
theorem v47_13 : VS L47_13.eq_1 := rfl
def L47_14 : List AStep := [⟨.bin .neq (.t 21) (.t 23), (some 24), none, []⟩]
theorem v47_14 : VS L47_14.eq_1 := rfl
def L47_15 : List AStep := ⟨.faddr 3 (.t 3), (some 22), none, []⟩ :: ⟨.load 1 false (.t 22), (some 23), none, []⟩ :: L47_14
theorem v47_15 : VS L47_15.eq_1 := rfl
def L47_16 : List AStep := ⟨.faddr 3 (.t 2), (some 20), none, []⟩ :: ⟨.load 1 false (.t 20), (some 21), none, []⟩ :: L47_15
theorem v47_16 : VS L47_16.eq_1 := rfl
def L47_17 : List AStep := [⟨.mov (.c (.bool false)), (some 4), none, []⟩]
theorem v47_17 : VS L47_17.eq_1 := rfl
def L47_18 : List AStep := [⟨.mov (.c (.bool true)), (some 4), none, []⟩]
theorem v47_18 : VS L47_18.eq_1 := rfl
def C47_0 : ACode := .seq (.reg L47_5) .ret
theorem u47_0 : VC C47_0.eq_1 := rfl
def C47_1 : ACode := .cond (.t 9) C47_0 .skip
theorem u47_1 : VC C47_1.eq_1 := rfl
def C47_2 : ACode := .seq (.reg L47_4) C47_1
theorem u47_2 : VC C47_2.eq_1 := rfl
def C47_3 : ACode := .seq (.reg L47_9) .ret
theorem u47_3 : VC C47_3.eq_1 := rfl
def C47_4 : ACode := .cond (.t 14) C47_3 .skip
theorem u47_4 : VC C47_4.eq_1 := rfl
def C47_5 : ACode := .seq (.reg L47_8) C47_4
theorem u47_5 : VC C47_5.eq_1 := rfl
def C47_6 : ACode := .seq (.reg L47_13) .ret
theorem u47_6 : VC C47_6.eq_1 := rfl
def C47_7 : ACode := .cond (.t 19) C47_6 .skip
theorem u47_7 : VC C47_7.eq_1 := rfl
def C47_8 : ACode := .seq (.reg L47_12) C47_7
theorem u47_8 : VC C47_8.eq_1 := rfl
def C47_9 : ACode := .seq (.reg L47_17) .ret
theorem u47_9 : VC C47_9.eq_1 := rfl
def C47_10 : ACode := .cond (.t 24) C47_9 .skip
theorem u47_10 : VC C47_10.eq_1 := rfl
def C47_11 : ACode := .seq (.reg L47_16) C47_10
theorem u47_11 : VC C47_11.eq_1 := rfl
def C47_12 : ACode := .seq (.reg L47_18) .ret
theorem u47_12 : VC C47_12.eq_1 := rfl
def C47_13 : ACode := .seq C47_11 C47_12
theorem u47_13 : VC C47_13.eq_1 := rfl
def C47_14 : ACode := .seq C47_8 C47_13
theorem u47_14 : VC C47_14.eq_1 := rfl
def C47_15 : ACode := .seq C47_5 C47_14
theorem u47_15 : VC C47_15.eq_1 := rfl
def C47_16 : ACode := .seq C47_2 C47_15
theorem u47_16 : VC C47_16.eq_1 := rfl
def C47_17 : ACode := .seq (.reg L47_1) C47_16
theorem u47_17 : VC C47_17.eq_1 := rfl
def F47 : AFunc := ⟨25, [.tmp 4], C47_17⟩
theorem cF47 : compB Tryz.prog 47 = some F47 := by kernel_rfl
attribute [local go_sem ↓] u47_0 u47_1 u47_2 u47_3 u47_4 u47_5 u47_6 u47_7 u47_8 u47_9 u47_10 u47_11 u47_12 u47_13 u47_14 u47_15 u47_16 u47_17 v47_0 v47_1 v47_2 v47_3 v47_4 v47_5 v47_6 v47_7 v47_8 v47_9 v47_10 v47_11 v47_12 v47_13 v47_14 v47_15 v47_16 v47_17 v47_18
theorem c_eqParam (p q : Param) (h : H) : bm Tryz.prog 47 [.agg (encQ p), .agg (encQ q)] h = some (ib (decide (p = q)), h) := by
  refine bm_eq cF47 ?_
  obtain ⟨n1, k1, d1, v1⟩ := p
  obtain ⟨n2, k2, d2, v2⟩ := q
  simp +contextual (maxSteps := 2000000) only [go_sem, Nat.reduceEqDiff, reduceCtorEq, Nat.reduceAdd, Nat.reduceLeDiff, F47, Param.mk.injEq]
  try ((repeat' (first | refine And.intro ?_ ?_ | intro _)) <;> first | simp_all)
/-! laws.eqPair -/
def L48_0 : List AStep := [⟨.mov (.c (.bool false)), (some 4), none, []⟩]
theorem v48_0 : VS L48_0.eq_1 := rfl
def L48_1 : List AStep := ⟨.box 81 (.t 0), (some 2), none, []⟩ :: ⟨.box 81 (.t 1), (some 3), none, []⟩ :: L48_0
theorem v48_1 : VS L48_1.eq_1 := rfl
def L48_2 : List AStep := [⟨.bin .neq (.t 6) (.t 8), (some 9), none, []⟩]
theorem v48_2 : VS L48_2.eq_1 := rfl
def L48_3 : List AStep := ⟨.faddr 0 (.t 3), (some 7), none, []⟩ :: ⟨.load 1 false (.t 7), (some 8), none, []⟩ :: L48_2
theorem v48_3 : VS L48_3.eq_1 := rfl
def L48_4 : List AStep := ⟨.faddr 0 (.t 2), (some 5), none, []⟩ :: ⟨.load 1 false (.t 5), (some 6), none, []⟩ :: L48_3
theorem v48_4 : VS L48_4.eq_1 := rfl
def L48_5 : List AStep := [⟨.mov (.c (.bool false)), (some 4), none, []⟩]
theorem v48_5 : VS L48_5.eq_1 := rfl
def L48_6 : List AStep := [⟨.bin .neq (.t 11) (.t 13), (some 14), none, []⟩]
theorem v48_6 : VS L48_6.eq_1 := rfl
def L48_7 : List AStep := ⟨.faddr 1 (.t 3), (some 12), none, []⟩ :: ⟨.load 1 false (.t 12), (some 13), none, []⟩ :: L48_6
theorem v48_7 : VS L48_7.eq_1 := rfl
def L48_8 : List AStep := ⟨.faddr 1 (.t 2), (some 10), none, []⟩ :: ⟨.load 1 false (.t 10), (some 11), none, []⟩ :: L48_7
theorem v48_8 : VS L48_8.eq_1 := rfl
def L48_9 : List AStep := [⟨.mov (.c (.bool false)), (some 4), none, []⟩]
theorem v48_9 : VS L48_9.eq_1 := rfl
def L48_10 : List AStep := [⟨.mov (.c (.bool true)), (some 4), none, []⟩]
theorem v48_10 : VS L48_10.eq_1 := rfl
def C48_0 : ACode := .seq (.reg L48_5) .ret
theorem u48_0 : VC C48_0.eq_1 := rfl
def C48_1 : ACode := .cond (.t 9) C48_0 .skip
theorem u48_1 : VC C48_1.eq_1 := rfl
def C48_2 : ACode := .seq (.reg L48_4) C48_1
theorem u48_2 : VC C48_2.eq_1 := rfl
def C48_3 : ACode := .seq (.reg L48_9) .ret
theorem u48_3 : VC C48_3.eq_1 := rfl
def C48_4 : ACode := .cond (.t 14) C48_3 .skip
theorem u48_4 : VC C48_4.eq_1 := rfl
def C48_5 : ACode := .seq (.reg L48_8) C48_4
theorem u48_5 : VC C48_5.eq_1 := rfl
def C48_6 : ACode := .seq (.reg L48_10) .ret
theorem u48_6 : VC C48_6.eq_1 := rfl
def C48_7 : ACode := .seq C48_5 C48_6
theorem u48_7 : VC C48_7.eq_1 := rfl
def C48_8 : ACode := .seq C48_2 C48_7
theorem u48_8 : VC C48_8.eq_1 := rfl
def C48_9 : ACode := .seq (.reg L48_1) C48_8
theorem u48_9 : VC C48_9.eq_1 := rfl
def F48 : AFunc := ⟨15, [.tmp 4], C48_9⟩
theorem cF48 : compB Tryz.prog 48 = some F48 := by kernel_rfl
attribute [local go_sem ↓] u48_0 u48_1 u48_2 u48_3 u48_4 u48_5 u48_6 u48_7 u48_8 u48_9 v48_0 v48_1 v48_2 v48_3 v48_4 v48_5 v48_6 v48_7 v48_8 v48_9 v48_10
theorem c_eqPair (p q : Pair) (h : H) : bm Tryz.prog 48 [.agg (encP p), .agg (encP q)] h = some (ib (decide (p = q)), h) := by
  refine bm_eq cF48 ?_
  obtain ⟨n1, k1⟩ := p
  obtain ⟨n2, k2⟩ := q
  simp +contextual (maxSteps := 2000000) only [go_sem, Nat.reduceEqDiff, reduceCtorEq, Nat.reduceAdd, Nat.reduceLeDiff, F48, Pair.mk.injEq]
  try ((repeat' (first | refine And.intro ?_ ?_ | intro _)) <;> first | simp_all)
/-! laws.eqIntS -/
def L30_0 : List AStep := [⟨.mov (.c (.bool false)), (some 4), none, []⟩]
theorem v30_0 : VS L30_0.eq_1 := rfl
def L30_1 : List AStep := [⟨.bin .neq (.t 7) (.t 9), (some 10), none, []⟩]
theorem v30_1 : VS L30_1.eq_1 := rfl
def L30_2 : List AStep := ⟨.mov (.t 1), (some 8), none, []⟩ :: ⟨.len (.t 8), (some 9), none, []⟩ :: L30_1
theorem v30_2 : VS L30_2.eq_1 := rfl
def L30_3 : List AStep := ⟨.mov (.t 0), (some 6), none, []⟩ :: ⟨.len (.t 6), (some 7), none, []⟩ :: L30_2
theorem v30_3 : VS L30_3.eq_1 := rfl
def L30_4 : List AStep := [⟨.mov (.c (.bool false)), (some 4), none, []⟩]
theorem v30_4 : VS L30_4.eq_1 := rfl
def L30_5 : List AStep := [⟨.mov (.c (.int .i64 0)), (some 5), none, []⟩]
theorem v30_5 : VS L30_5.eq_1 := rfl
def L30_6 : List AStep := [⟨.len (.t 12), (some 13), none, []⟩, ⟨.bin .lss (.t 11) (.t 13), (some 14), none, []⟩]
theorem v30_6 : VS L30_6.eq_1 := rfl
def L30_7 : List AStep := ⟨.mov (.t 5), (some 11), none, []⟩ :: ⟨.mov (.t 0), (some 12), none, []⟩ :: L30_6
theorem v30_7 : VS L30_7.eq_1 := rfl
def L30_8 : List AStep := [⟨.bin .neq (.t 20) (.t 24), (some 25), none, []⟩]
theorem v30_8 : VS L30_8.eq_1 := rfl
def L30_9 : List AStep := ⟨.iaddr 1 (.t 21) (.t 22), (some 23), none, []⟩ :: ⟨.load 1 false (.t 23), (some 24), none, []⟩ :: L30_8
theorem v30_9 : VS L30_9.eq_1 := rfl
def L30_10 : List AStep := ⟨.mov (.t 1), (some 21), none, []⟩ :: ⟨.mov (.t 5), (some 22), none, []⟩ :: L30_9
theorem v30_10 : VS L30_10.eq_1 := rfl
def L30_11 : List AStep := ⟨.iaddr 1 (.t 17) (.t 18), (some 19), none, []⟩ :: ⟨.load 1 false (.t 19), (some 20), none, []⟩ :: L30_10
theorem v30_11 : VS L30_11.eq_1 := rfl
def L30_12 : List AStep := ⟨.mov (.t 0), (some 17), none, []⟩ :: ⟨.mov (.t 5), (some 18), none, []⟩ :: L30_11
theorem v30_12 : VS L30_12.eq_1 := rfl
def L30_13 : List AStep := [⟨.mov (.c (.bool false)), (some 4), none, []⟩]
theorem v30_13 : VS L30_13.eq_1 := rfl
def L30_14 : List AStep := [⟨.mov (.t 16), (some 5), none, []⟩]
theorem v30_14 : VS L30_14.eq_1 := rfl
def L30_15 : List AStep := ⟨.mov (.t 5), (some 15), none, []⟩ :: ⟨.bin .add (.t 15) (.c (.int .i64 1)), (some 16), none, []⟩ :: L30_14
theorem v30_15 : VS L30_15.eq_1 := rfl
def L30_16 : List AStep := [⟨.mov (.c (.bool true)), (some 4), none, []⟩]
theorem v30_16 : VS L30_16.eq_1 := rfl
def C30_0 : ACode := .seq (.reg L30_4) .ret
theorem u30_0 : VC C30_0.eq_1 := rfl
def C30_1 : ACode := .cond (.t 10) C30_0 .skip
theorem u30_1 : VC C30_1.eq_1 := rfl
def C30_2 : ACode := .seq (.reg L30_3) C30_1
theorem u30_2 : VC C30_2.eq_1 := rfl
def C30_3 : ACode := .cond (.t 14) .skip (.exit 0)
theorem u30_3 : VC C30_3.eq_1 := rfl
def C30_4 : ACode := .seq (.reg L30_7) C30_3
theorem u30_4 : VC C30_4.eq_1 := rfl
def C30_5 : ACode := .seq (.reg L30_13) .ret
theorem u30_5 : VC C30_5.eq_1 := rfl
def C30_6 : ACode := .cond (.t 25) C30_5 .skip
theorem u30_6 : VC C30_6.eq_1 := rfl
def C30_7 : ACode := .seq (.reg L30_12) C30_6
theorem u30_7 : VC C30_7.eq_1 := rfl
def C30_8 : ACode := .block 1 C30_7
theorem u30_8 : VC C30_8.eq_1 := rfl
def C30_9 : ACode := .seq C30_8 (.reg L30_15)
theorem u30_9 : VC C30_9.eq_1 := rfl
def C30_10 : ACode := .seq C30_4 C30_9
theorem u30_10 : VC C30_10.eq_1 := rfl
def C30_11 : ACode := .block 0 (.loop C30_10)
theorem u30_11 : VC C30_11.eq_1 := rfl
def C30_12 : ACode := .seq (.reg L30_5) C30_11
theorem u30_12 : VC C30_12.eq_1 := rfl
def C30_13 : ACode := .seq (.reg L30_16) .ret
theorem u30_13 : VC C30_13.eq_1 := rfl
def C30_14 : ACode := .seq C30_12 C30_13
theorem u30_14 : VC C30_14.eq_1 := rfl
def C30_15 : ACode := .seq C30_2 C30_14
theorem u30_15 : VC C30_15.eq_1 := rfl
def C30_16 : ACode := .seq (.reg L30_0) C30_15
theorem u30_16 : VC C30_16.eq_1 := rfl
def F30 : AFunc := ⟨26, [.tmp 4], C30_16⟩
theorem cF30 : compB Tryz.prog 30 = some F30 := by kernel_rfl
attribute [local go_sem ↓] u30_0 u30_1 u30_2 u30_3 u30_4 u30_5 u30_6 u30_7 u30_8 u30_9 u30_10 u30_11 u30_12 u30_13 u30_14 u30_15 u30_16 v30_0 v30_1 v30_2 v30_3 v30_4 v30_5 v30_6 v30_7 v30_8 v30_9 v30_10 v30_11 v30_12 v30_13 v30_14 v30_15 v30_16
theorem c_eqIntS (l m : List Int) (v w : AV) (h : H) (hl : SlI h v l) (hm : SlI h w m) (hn : l.length ≤ big) : bm Tryz.prog 30 [v, w] h = some (ib (decide (l = m)), h) := by
  refine bm_eq cF30 ?_
  by_cases hlen : l.length = m.length
  case neg =>
    have e1 : decide ((l.length : Int) = (m.length : Int)) = false := decide_eq_false (by omega)
    simp +contextual (maxSteps := 2000000) only [go_sem, Nat.reduceEqDiff, reduceCtorEq, Nat.reduceAdd, Nat.reduceLeDiff, F30, hl.len, hm.len, e1]
    rw [ne_len e1]
  have e1 : decide ((l.length : Int) = (m.length : Int)) = true := decide_eq_true (by omega)
  simp +contextual (maxSteps := 2000000) only [go_sem, Nat.reduceEqDiff, reduceCtorEq, Nat.reduceAdd, Nat.reduceLeDiff, F30, hl.len, hm.len, e1]
  refine wpC_loop (fun i T L h' => h' = h ∧ T 0 = .v v ∧ T 1 = .v w ∧ T 5 = .v (.one (.int .i64 i)) ∧ Upto (eqAt l m) i) l.length ?_ ?_ (Nat.zero_le _) ?_
  · rintro i T L h' hi ⟨rfl, t0, t1, t5, hu⟩
    have him : i < m.length := by omega
    have e2 := eqAt_eq hi him
    simp +contextual (maxSteps := 2000000) only [go_sem, Nat.reduceEqDiff, reduceCtorEq, Nat.reduceAdd, Nat.reduceLeDiff, t0, t1, t5, hl.len, hm.len, hl.iaddr hi, hm.iaddr him, hl.oneO hi, hm.oneO him, lt_true hi]
    (repeat' (first | refine And.intro ?_ ?_ | intro _)) <;> first | rfl | rw [wrap_next hi (big_lt hn)] | (refine hu.next ?_; rw [e2]; (simp_all; done)) | (rw [ne_at (l := l) (m := m) (i := i)]; rw [e2]; (simp_all; done))
  · rintro T L h' ⟨rfl, t0, t1, t5, hu⟩
    simp +contextual (maxSteps := 2000000) only [go_sem, Nat.reduceEqDiff, reduceCtorEq, Nat.reduceAdd, Nat.reduceLeDiff, t0, t1, t5, hl.len, hm.len, lt_false, decide_eq_true (eq_of_upto hlen hu)]
  · simp +contextual (maxSteps := 2000000) only [go_sem, Nat.reduceEqDiff, reduceCtorEq, Nat.reduceAdd, Nat.reduceLeDiff]
    (repeat' (first | refine And.intro ?_ ?_ | intro _)) <;> first | rfl | exact Upto.zero
/-! laws.eqParamS -/
def L29_0 : List AStep := [⟨.mov (.c (.bool false)), (some 4), none, []⟩]
theorem v29_0 : VS L29_0.eq_1 := rfl
def L29_1 : List AStep := [⟨.bin .neq (.t 7) (.t 9), (some 10), none, []⟩]
theorem v29_1 : VS L29_1.eq_1 := rfl
def L29_2 : List AStep := ⟨.mov (.t 1), (some 8), none, []⟩ :: ⟨.len (.t 8), (some 9), none, []⟩ :: L29_1
theorem v29_2 : VS L29_2.eq_1 := rfl
def L29_3 : List AStep := ⟨.mov (.t 0), (some 6), none, []⟩ :: ⟨.len (.t 6), (some 7), none, []⟩ :: L29_2
theorem v29_3 : VS L29_3.eq_1 := rfl
def L29_4 : List AStep := [⟨.mov (.c (.bool false)), (some 4), none, []⟩]
theorem v29_4 : VS L29_4.eq_1 := rfl
def L29_5 : List AStep := [⟨.mov (.c (.int .i64 0)), (some 5), none, []⟩]
theorem v29_5 : VS L29_5.eq_1 := rfl
def L29_6 : List AStep := [⟨.len (.t 12), (some 13), none, []⟩, ⟨.bin .lss (.t 11) (.t 13), (some 14), none, []⟩]
theorem v29_6 : VS L29_6.eq_1 := rfl
def L29_7 : List AStep := ⟨.mov (.t 5), (some 11), none, []⟩ :: ⟨.mov (.t 0), (some 12), none, []⟩ :: L29_6
theorem v29_7 : VS L29_7.eq_1 := rfl
def L29_8 : List AStep := [⟨.call 47 [(.t 20), (.t 24)], (some 25), none, []⟩, ⟨.not (.t 25), (some 26), none, []⟩]
theorem v29_8 : VS L29_8.eq_1 := rfl
def L29_9 : List AStep := ⟨.iaddr 4 (.t 21) (.t 22), (some 23), none, []⟩ :: ⟨.load 4 true (.t 23), (some 24), none, []⟩ :: L29_8
theorem v29_9 : VS L29_9.eq_1 := rfl
def L29_10 : List AStep := ⟨.mov (.t 1), (some 21), none, []⟩ :: ⟨.mov (.t 5), (some 22), none, []⟩ :: L29_9
theorem v29_10 : VS L29_10.eq_1 := rfl
def L29_11 : List AStep := ⟨.iaddr 4 (.t 17) (.t 18), (some 19), none, []⟩ :: ⟨.load 4 true (.t 19), (some 20), none, []⟩ :: L29_10
theorem v29_11 : VS L29_11.eq_1 := rfl
def L29_12 : List AStep := ⟨.mov (.t 0), (some 17), none, []⟩ :: ⟨.mov (.t 5), (some 18), none, []⟩ :: L29_11
theorem v29_12 : VS L29_12.eq_1 := rfl
def L29_13 : List AStep := [⟨.mov (.c (.bool false)), (some 4), none, []⟩]
theorem v29_13 : VS L29_13.eq_1 := rfl
def L29_14 : List AStep := [⟨.mov (.t 16), (some 5), none, []⟩]
theorem v29_14 : VS L29_14.eq_1 := rfl
def L29_15 : List AStep := ⟨.mov (.t 5), (some 15), none, []⟩ :: ⟨.bin .add (.t 15) (.c (.int .i64 1)), (some 16), none, []⟩ :: L29_14
theorem v29_15 : VS L29_15.eq_1 := rfl
def L29_16 : List AStep := [⟨.mov (.c (.bool true)), (some 4), none, []⟩]
theorem v29_16 : VS L29_16.eq_1 := rfl
def C29_0 : ACode := .seq (.reg L29_4) .ret
theorem u29_0 : VC C29_0.eq_1 := rfl
def C29_1 : ACode := .cond (.t 10) C29_0 .skip
theorem u29_1 : VC C29_1.eq_1 := rfl
def C29_2 : ACode := .seq (.reg L29_3) C29_1
theorem u29_2 : VC C29_2.eq_1 := rfl
def C29_3 : ACode := .cond (.t 14) .skip (.exit 0)
theorem u29_3 : VC C29_3.eq_1 := rfl
def C29_4 : ACode := .seq (.reg L29_7) C29_3
theorem u29_4 : VC C29_4.eq_1 := rfl
def C29_5 : ACode := .seq (.reg L29_13) .ret
theorem u29_5 : VC C29_5.eq_1 := rfl
def C29_6 : ACode := .cond (.t 26) C29_5 .skip
theorem u29_6 : VC C29_6.eq_1 := rfl
def C29_7 : ACode := .seq (.reg L29_12) C29_6
theorem u29_7 : VC C29_7.eq_1 := rfl
def C29_8 : ACode := .block 1 C29_7
theorem u29_8 : VC C29_8.eq_1 := rfl
def C29_9 : ACode := .seq C29_8 (.reg L29_15)
theorem u29_9 : VC C29_9.eq_1 := rfl
def C29_10 : ACode := .seq C29_4 C29_9
theorem u29_10 : VC C29_10.eq_1 := rfl
def C29_11 : ACode := .block 0 (.loop C29_10)
theorem u29_11 : VC C29_11.eq_1 := rfl
def C29_12 : ACode := .seq (.reg L29_5) C29_11
theorem u29_12 : VC C29_12.eq_1 := rfl
def C29_13 : ACode := .seq (.reg L29_16) .ret
theorem u29_13 : VC C29_13.eq_1 := rfl
def C29_14 : ACode := .seq C29_12 C29_13
theorem u29_14 : VC C29_14.eq_1 := rfl
def C29_15 : ACode := .seq C29_2 C29_14
theorem u29_15 : VC C29_15.eq_1 := rfl
def C29_16 : ACode := .seq (.reg L29_0) C29_15
theorem u29_16 : VC C29_16.eq_1 := rfl
def F29 : AFunc := ⟨27, [.tmp 4], C29_16⟩
theorem cF29 : compB Tryz.prog 29 = some F29 := by kernel_rfl
attribute [local go_sem ↓] u29_0 u29_1 u29_2 u29_3 u29_4 u29_5 u29_6 u29_7 u29_8 u29_9 u29_10 u29_11 u29_12 u29_13 u29_14 u29_15 u29_16 v29_0 v29_1 v29_2 v29_3 v29_4 v29_5 v29_6 v29_7 v29_8 v29_9 v29_10 v29_11 v29_12 v29_13 v29_14 v29_15 v29_16
theorem c_eqParamS (l m : List Param) (v w : AV) (h : H) (hl : SlQ h v l) (hm : SlQ h w m) (hn : l.length ≤ big) : bm Tryz.prog 29 [v, w] h = some (ib (decide (l = m)), h) := by
  refine bm_eq cF29 ?_
  by_cases hlen : l.length = m.length
  case neg =>
    have e1 : decide ((l.length : Int) = (m.length : Int)) = false := decide_eq_false (by omega)
    simp +contextual (maxSteps := 2000000) only [go_sem, Nat.reduceEqDiff, reduceCtorEq, Nat.reduceAdd, Nat.reduceLeDiff, F29, hl.len, hm.len, e1]
    rw [ne_len e1]
  have e1 : decide ((l.length : Int) = (m.length : Int)) = true := decide_eq_true (by omega)
  simp +contextual (maxSteps := 2000000) only [go_sem, Nat.reduceEqDiff, reduceCtorEq, Nat.reduceAdd, Nat.reduceLeDiff, F29, hl.len, hm.len, e1]
  refine wpC_loop (fun i T L h' => h' = h ∧ T 0 = .v v ∧ T 1 = .v w ∧ T 5 = .v (.one (.int .i64 i)) ∧ Upto (eqAt l m) i) l.length ?_ ?_ (Nat.zero_le _) ?_
  · rintro i T L h' hi ⟨rfl, t0, t1, t5, hu⟩
    have him : i < m.length := by omega
    have e2 := eqAt_eq hi him
    simp +contextual (maxSteps := 2000000) only [go_sem, Nat.reduceEqDiff, reduceCtorEq, Nat.reduceAdd, Nat.reduceLeDiff, t0, t1, t5, hl.len, hm.len, hl.iaddr hi, hm.iaddr him, hl.whole hi, hm.whole him, c_eqParam, lt_true hi]
    (repeat' (first | refine And.intro ?_ ?_ | intro _)) <;> first | rfl | rw [wrap_next hi (big_lt hn)] | (refine hu.next ?_; rw [e2]; (simp_all; done)) | (rw [ne_at (l := l) (m := m) (i := i)]; rw [e2]; (simp_all; done))
  · rintro T L h' ⟨rfl, t0, t1, t5, hu⟩
    simp +contextual (maxSteps := 2000000) only [go_sem, Nat.reduceEqDiff, reduceCtorEq, Nat.reduceAdd, Nat.reduceLeDiff, t0, t1, t5, hl.len, hm.len, lt_false, decide_eq_true (eq_of_upto hlen hu)]
  · simp +contextual (maxSteps := 2000000) only [go_sem, Nat.reduceEqDiff, reduceCtorEq, Nat.reduceAdd, Nat.reduceLeDiff]
    (repeat' (first | refine And.intro ?_ ?_ | intro _)) <;> first | rfl | exact Upto.zero
/-! laws.eqPairS -/
def L31_0 : List AStep := [⟨.mov (.c (.bool false)), (some 4), none, []⟩]
theorem v31_0 : VS L31_0.eq_1 := rfl
def L31_1 : List AStep := [⟨.bin .neq (.t 7) (.t 9), (some 10), none, []⟩]
theorem v31_1 : VS L31_1.eq_1 := rfl
def L31_2 : List AStep := ⟨.mov (.t 1), (some 8), none, []⟩ :: ⟨.len (.t 8), (some 9), none, []⟩ :: L31_1
theorem v31_2 : VS L31_2.eq_1 := rfl
def L31_3 : List AStep := ⟨.mov (.t 0), (some 6), none, []⟩ :: ⟨.len (.t 6), (some 7), none, []⟩ :: L31_2
theorem v31_3 : VS L31_3.eq_1 := rfl
def L31_4 : List AStep := [⟨.mov (.c (.bool false)), (some 4), none, []⟩]
theorem v31_4 : VS L31_4.eq_1 := rfl
def L31_5 : List AStep := [⟨.mov (.c (.int .i64 0)), (some 5), none, []⟩]
theorem v31_5 : VS L31_5.eq_1 := rfl
def L31_6 : List AStep := [⟨.len (.t 12), (some 13), none, []⟩, ⟨.bin .lss (.t 11) (.t 13), (some 14), none, []⟩]
theorem v31_6 : VS L31_6.eq_1 := rfl
def L31_7 : List AStep := ⟨.mov (.t 5), (some 11), none, []⟩ :: ⟨.mov (.t 0), (some 12), none, []⟩ :: L31_6
theorem v31_7 : VS L31_7.eq_1 := rfl
def L31_8 : List AStep := [⟨.call 48 [(.t 20), (.t 24)], (some 25), none, []⟩, ⟨.not (.t 25), (some 26), none, []⟩]
theorem v31_8 : VS L31_8.eq_1 := rfl
def L31_9 : List AStep := ⟨.iaddr 2 (.t 21) (.t 22), (some 23), none, []⟩ :: ⟨.load 2 true (.t 23), (some 24), none, []⟩ :: L31_8
theorem v31_9 : VS L31_9.eq_1 := rfl
def L31_10 : List AStep := ⟨.mov (.t 1), (some 21), none, []⟩ :: ⟨.mov (.t 5), (some 22), none, []⟩ :: L31_9
theorem v31_10 : VS L31_10.eq_1 := rfl
def L31_11 : List AStep := ⟨.iaddr 2 (.t 17) (.t 18), (some 19), none, []⟩ :: ⟨.load 2 true (.t 19), (some 20), none, []⟩ :: L31_10
theorem v31_11 : VS L31_11.eq_1 := rfl
def L31_12 : List AStep := ⟨.mov (.t 0), (some 17), none, []⟩ :: ⟨.mov (.t 5), (some 18), none, []⟩ :: L31_11
theorem v31_12 : VS L31_12.eq_1 := rfl
def L31_13 : List AStep := [⟨.mov (.c (.bool false)), (some 4), none, []⟩]
theorem v31_13 : VS L31_13.eq_1 := rfl
def L31_14 : List AStep := [⟨.mov (.t 16), (some 5), none, []⟩]
theorem v31_14 : VS L31_14.eq_1 := rfl
def L31_15 : List AStep := ⟨.mov (.t 5), (some 15), none, []⟩ :: ⟨.bin .add (.t 15) (.c (.int .i64 1)), (some 16), none, []⟩ :: L31_14
theorem v31_15 : VS L31_15.eq_1 := rfl
def L31_16 : List AStep := [⟨.mov (.c (.bool true)), (some 4), none, []⟩]
theorem v31_16 : VS L31_16.eq_1 := rfl
def C31_0 : ACode := .seq (.reg L31_4) .ret
theorem u31_0 : VC C31_0.eq_1 := rfl
def C31_1 : ACode := .cond (.t 10) C31_0 .skip
theorem u31_1 : VC C31_1.eq_1 := rfl
def C31_2 : ACode := .seq (.reg L31_3) C31_1
theorem u31_2 : VC C31_2.eq_1 := rfl
def C31_3 : ACode := .cond (.t 14) .skip (.exit 0)
theorem u31_3 : VC C31_3.eq_1 := rfl
def C31_4 : ACode := .seq (.reg L31_7) C31_3
theorem u31_4 : VC C31_4.eq_1 := rfl
def C31_5 : ACode := .seq (.reg L31_13) .ret
theorem u31_5 : VC C31_5.eq_1 := rfl
def C31_6 : ACode := .cond (.t 26) C31_5 .skip
theorem u31_6 : VC C31_6.eq_1 := rfl
def C31_7 : ACode := .seq (.reg L31_12) C31_6
theorem u31_7 : VC C31_7.eq_1 := rfl
def C31_8 : ACode := .block 1 C31_7
theorem u31_8 : VC C31_8.eq_1 := rfl
def C31_9 : ACode := .seq C31_8 (.reg L31_15)
theorem u31_9 : VC C31_9.eq_1 := rfl
def C31_10 : ACode := .seq C31_4 C31_9
theorem u31_10 : VC C31_10.eq_1 := rfl
def C31_11 : ACode := .block 0 (.loop C31_10)
theorem u31_11 : VC C31_11.eq_1 := rfl
def C31_12 : ACode := .seq (.reg L31_5) C31_11
theorem u31_12 : VC C31_12.eq_1 := rfl
def C31_13 : ACode := .seq (.reg L31_16) .ret
theorem u31_13 : VC C31_13.eq_1 := rfl
def C31_14 : ACode := .seq C31_12 C31_13
theorem u31_14 : VC C31_14.eq_1 := rfl
def C31_15 : ACode := .seq C31_2 C31_14
theorem u31_15 : VC C31_15.eq_1 := rfl
def C31_16 : ACode := .seq (.reg L31_0) C31_15
theorem u31_16 : VC C31_16.eq_1 := rfl
def F31 : AFunc := ⟨27, [.tmp 4], C31_16⟩
theorem cF31 : compB Tryz.prog 31 = some F31 := by kernel_rfl
attribute [local go_sem ↓] u31_0 u31_1 u31_2 u31_3 u31_4 u31_5 u31_6 u31_7 u31_8 u31_9 u31_10 u31_11 u31_12 u31_13 u31_14 u31_15 u31_16 v31_0 v31_1 v31_2 v31_3 v31_4 v31_5 v31_6 v31_7 v31_8 v31_9 v31_10 v31_11 v31_12 v31_13 v31_14 v31_15 v31_16
theorem c_eqPairS (l m : List Pair) (v w : AV) (h : H) (hl : SlP h v l) (hm : SlP h w m) (hn : l.length ≤ big) : bm Tryz.prog 31 [v, w] h = some (ib (decide (l = m)), h) := by
  refine bm_eq cF31 ?_
  by_cases hlen : l.length = m.length
  case neg =>
    have e1 : decide ((l.length : Int) = (m.length : Int)) = false := decide_eq_false (by omega)
    simp +contextual (maxSteps := 2000000) only [go_sem, Nat.reduceEqDiff, reduceCtorEq, Nat.reduceAdd, Nat.reduceLeDiff, F31, hl.len, hm.len, e1]
    rw [ne_len e1]
  have e1 : decide ((l.length : Int) = (m.length : Int)) = true := decide_eq_true (by omega)
  simp +contextual (maxSteps := 2000000) only [go_sem, Nat.reduceEqDiff, reduceCtorEq, Nat.reduceAdd, Nat.reduceLeDiff, F31, hl.len, hm.len, e1]
  refine wpC_loop (fun i T L h' => h' = h ∧ T 0 = .v v ∧ T 1 = .v w ∧ T 5 = .v (.one (.int .i64 i)) ∧ Upto (eqAt l m) i) l.length ?_ ?_ (Nat.zero_le _) ?_
  · rintro i T L h' hi ⟨rfl, t0, t1, t5, hu⟩
    have him : i < m.length := by omega
    have e2 := eqAt_eq hi him
    simp +contextual (maxSteps := 2000000) only [go_sem, Nat.reduceEqDiff, reduceCtorEq, Nat.reduceAdd, Nat.reduceLeDiff, t0, t1, t5, hl.len, hm.len, hl.iaddr hi, hm.iaddr him, hl.whole hi, hm.whole him, c_eqPair, lt_true hi]
    (repeat' (first | refine And.intro ?_ ?_ | intro _)) <;> first | rfl | rw [wrap_next hi (big_lt hn)] | (refine hu.next ?_; rw [e2]; (simp_all; done)) | (rw [ne_at (l := l) (m := m) (i := i)]; rw [e2]; (simp_all; done))
  · rintro T L h' ⟨rfl, t0, t1, t5, hu⟩
    simp +contextual (maxSteps := 2000000) only [go_sem, Nat.reduceEqDiff, reduceCtorEq, Nat.reduceAdd, Nat.reduceLeDiff, t0, t1, t5, hl.len, hm.len, lt_false, decide_eq_true (eq_of_upto hlen hu)]
  · simp +contextual (maxSteps := 2000000) only [go_sem, Nat.reduceEqDiff, reduceCtorEq, Nat.reduceAdd, Nat.reduceLeDiff]
    (repeat' (first | refine And.intro ?_ ?_ | intro _)) <;> first | rfl | exact Upto.zero
/-! laws.eqSignature -/
def L11_0 : List AStep := [⟨.mov (.c (.bool false)), (some 4), none, []⟩]
theorem v11_0 : VS L11_0.eq_1 := rfl
def L11_1 : List AStep := ⟨.box 33 (.t 0), (some 2), none, []⟩ :: ⟨.box 33 (.t 1), (some 3), none, []⟩ :: L11_0
theorem v11_1 : VS L11_1.eq_1 := rfl
def L11_2 : List AStep := [⟨.call 29 [(.t 6), (.t 8)], (some 9), none, []⟩, ⟨.not (.t 9), (some 10), none, []⟩]
theorem v11_2 : VS L11_2.eq_1 := rfl
def L11_3 : List AStep := ⟨.faddr 0 (.t 3), (some 7), none, []⟩ :: ⟨.load 1 false (.t 7), (some 8), none, []⟩ :: L11_2
theorem v11_3 : VS L11_3.eq_1 := rfl
def L11_4 : List AStep := ⟨.faddr 0 (.t 2), (some 5), none, []⟩ :: ⟨.load 1 false (.t 5), (some 6), none, []⟩ :: L11_3
theorem v11_4 : VS L11_4.eq_1 := rfl
def L11_5 : List AStep := [⟨.mov (.c (.bool false)), (some 4), none, []⟩]
theorem v11_5 : VS L11_5.eq_1 := rfl
def L11_6 : List AStep := [⟨.mov (.c (.bool true)), (some 4), none, []⟩]
theorem v11_6 : VS L11_6.eq_1 := rfl
def C11_0 : ACode := .seq (.reg L11_5) .ret
theorem u11_0 : VC C11_0.eq_1 := rfl
def C11_1 : ACode := .cond (.t 10) C11_0 .skip
theorem u11_1 : VC C11_1.eq_1 := rfl
def C11_2 : ACode := .seq (.reg L11_4) C11_1
theorem u11_2 : VC C11_2.eq_1 := rfl
def C11_3 : ACode := .seq (.reg L11_6) .ret
theorem u11_3 : VC C11_3.eq_1 := rfl
def C11_4 : ACode := .seq C11_2 C11_3
theorem u11_4 : VC C11_4.eq_1 := rfl
def C11_5 : ACode := .seq (.reg L11_1) C11_4
theorem u11_5 : VC C11_5.eq_1 := rfl
def F11 : AFunc := ⟨11, [.tmp 4], C11_5⟩
theorem cF11 : compB Tryz.prog 11 = some F11 := by kernel_rfl
attribute [local go_sem ↓] u11_0 u11_1 u11_2 u11_3 u11_4 u11_5 v11_0 v11_1 v11_2 v11_3 v11_4 v11_5 v11_6
theorem c_eqSignature (l m : List Param) (v w : CV) (h : H) (hl : SlQ h (.one v) l) (hm : SlQ h (.one w) m) (hn : l.length ≤ big) : bm Tryz.prog 11 [.agg [v], .agg [w]] h = some (ib (decide (l = m)), h) := by
  refine bm_eq cF11 ?_
  simp +contextual (maxSteps := 2000000) only [go_sem, Nat.reduceEqDiff, reduceCtorEq, Nat.reduceAdd, Nat.reduceLeDiff, F11, c_eqParamS _ _ _ _ _ hl hm hn]
  try ((repeat' (first | refine And.intro ?_ ?_ | intro _)) <;> first | simp_all)
/-! laws.eqFlat -/
def L12_0 : List AStep := [⟨.mov (.c (.bool false)), (some 4), none, []⟩]
theorem v12_0 : VS L12_0.eq_1 := rfl
def L12_1 : List AStep := ⟨.box 36 (.t 0), (some 2), none, []⟩ :: ⟨.box 36 (.t 1), (some 3), none, []⟩ :: L12_0
theorem v12_1 : VS L12_1.eq_1 := rfl
def L12_2 : List AStep := [⟨.call 30 [(.t 6), (.t 8)], (some 9), none, []⟩, ⟨.not (.t 9), (some 10), none, []⟩]
theorem v12_2 : VS L12_2.eq_1 := rfl
def L12_3 : List AStep := ⟨.faddr 0 (.t 3), (some 7), none, []⟩ :: ⟨.load 1 false (.t 7), (some 8), none, []⟩ :: L12_2
theorem v12_3 : VS L12_3.eq_1 := rfl
def L12_4 : List AStep := ⟨.faddr 0 (.t 2), (some 5), none, []⟩ :: ⟨.load 1 false (.t 5), (some 6), none, []⟩ :: L12_3
theorem v12_4 : VS L12_4.eq_1 := rfl
def L12_5 : List AStep := [⟨.mov (.c (.bool false)), (some 4), none, []⟩]
theorem v12_5 : VS L12_5.eq_1 := rfl
def L12_6 : List AStep := [⟨.call 31 [(.t 12), (.t 14)], (some 15), none, []⟩, ⟨.not (.t 15), (some 16), none, []⟩]
theorem v12_6 : VS L12_6.eq_1 := rfl
def L12_7 : List AStep := ⟨.faddr 1 (.t 3), (some 13), none, []⟩ :: ⟨.load 1 false (.t 13), (some 14), none, []⟩ :: L12_6
theorem v12_7 : VS L12_7.eq_1 := rfl
def L12_8 : List AStep := ⟨.faddr 1 (.t 2), (some 11), none, []⟩ :: ⟨.load 1 false (.t 11), (some 12), none, []⟩ :: L12_7
theorem v12_8 : VS L12_8.eq_1 := rfl
def L12_9 : List AStep := [⟨.mov (.c (.bool false)), (some 4), none, []⟩]
theorem v12_9 : VS L12_9.eq_1 := rfl
def L12_10 : List AStep := [⟨.mov (.c (.bool true)), (some 4), none, []⟩]
theorem v12_10 : VS L12_10.eq_1 := rfl
def C12_0 : ACode := .seq (.reg L12_5) .ret
theorem u12_0 : VC C12_0.eq_1 := rfl
def C12_1 : ACode := .cond (.t 10) C12_0 .skip
theorem u12_1 : VC C12_1.eq_1 := rfl
def C12_2 : ACode := .seq (.reg L12_4) C12_1
theorem u12_2 : VC C12_2.eq_1 := rfl
def C12_3 : ACode := .seq (.reg L12_9) .ret
theorem u12_3 : VC C12_3.eq_1 := rfl
def C12_4 : ACode := .cond (.t 16) C12_3 .skip
theorem u12_4 : VC C12_4.eq_1 := rfl
def C12_5 : ACode := .seq (.reg L12_8) C12_4
theorem u12_5 : VC C12_5.eq_1 := rfl
def C12_6 : ACode := .seq (.reg L12_10) .ret
theorem u12_6 : VC C12_6.eq_1 := rfl
def C12_7 : ACode := .seq C12_5 C12_6
theorem u12_7 : VC C12_7.eq_1 := rfl
def C12_8 : ACode := .seq C12_2 C12_7
theorem u12_8 : VC C12_8.eq_1 := rfl
def C12_9 : ACode := .seq (.reg L12_1) C12_8
theorem u12_9 : VC C12_9.eq_1 := rfl
def F12 : AFunc := ⟨17, [.tmp 4], C12_9⟩
theorem cF12 : compB Tryz.prog 12 = some F12 := by kernel_rfl
attribute [local go_sem ↓] u12_0 u12_1 u12_2 u12_3 u12_4 u12_5 u12_6 u12_7 u12_8 u12_9 v12_0 v12_1 v12_2 v12_3 v12_4 v12_5 v12_6 v12_7 v12_8 v12_9 v12_10
theorem c_eqFlat (f g : Flat) (pv nv pw nw : CV) (h : H) (hp : SlI h (.one pv) f.pl) (hq : SlP h (.one nv) f.nl) (kp : SlI h (.one pw) g.pl) (kq : SlP h (.one nw) g.nl) (h1 : f.pl.length ≤ big) (h2 : f.nl.length ≤ big) :
    bm Tryz.prog 12 [.agg [pv, nv], .agg [pw, nw]] h = some (ib (decide (f = g)), h) := by
  refine bm_eq cF12 ?_
  obtain ⟨fp, fn⟩ := f
  obtain ⟨gp, gn⟩ := g
  simp +contextual (maxSteps := 2000000) only [go_sem, Nat.reduceEqDiff, reduceCtorEq, Nat.reduceAdd, Nat.reduceLeDiff, F12, c_eqIntS _ _ _ _ _ hp kp h1, c_eqPairS _ _ _ _ _ hq kq h2, Flat.mk.injEq]
  try ((repeat' (first | refine And.intro ?_ ?_ | intro _)) <;> first | simp_all)
end Go.Proofs.YtdalgphpacikkaaGreat.Am
