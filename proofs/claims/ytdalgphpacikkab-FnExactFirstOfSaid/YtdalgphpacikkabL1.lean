/- Contracts of the laws: comparisons. -/
import Derived.Test.YtdalgphpacikkabDat
namespace Go.Proofs.Ytdalgphpacikkab.Am
open Go
set_option maxRecDepth 100000
set_option maxHeartbeats 4000000
set_option linter.unusedSimpArgs false
set_option linter.unusedVariables false
attribute [local go_sem ↓] bv_t bv_c ev_t ev_c put_same put_ne put_none kill_at pro_at lb_same lb_ne start_zero start_succ wpC_seq wpC_reg wpC_cond wpC_block wpC_skip wpC_exit wpC_ret thenQ_normal thenQ_exit thenQ_ret inBlk_normal inBlk_exit inBlk_ret wpS_nil wpS_step wpS_again wpS_guard wpO_mov wpO_load wpO_faddr wpO_nilCheck wpO_pick wpO_build wpO_bin wpO_eqb wpO_eqst wpO_eqnil wpO_not wpO_conv wpO_bytesStr wpO_iaddr wpO_idxStr wpO_field wpO_extract wpO_len wpO_lenStr wpO_cap wpO_min wpO_slice wpO_sliceStr wpO_alloc wpO_box wpO_store wpO_call wpO_callv wpO_mkfn wpO_buildSlice wpO_mkslice wpO_append wpO_appz proA_nil proA_cons tmpX_nil tmpX_tmp tmpX_cell doneB_normal doneB_ret agK_cons agK_nil agK_guard agG_tt agG_ff agG_tf agG_ft agG_undef pureB_load results_one results_two results_nil resBs_cons resBs_nil resB_tmp resB_cell
attribute [local go_sem] kill_v kill_lp_ne kill_lp_same pro_v pro_lp_same pro_lp_ne av_v av_lp optB_some optX_some valX_eq ldX_lp ldX_v faX_lp faX_v ncX_lp ncX_ptr ncX_fn boxK_one boxK_agg stL_some stK_lp_one stK_lp_agg stK_v_one stK_v_agg proM_v proM_lp callG_mk callVG_mk callvK_fn fnG_mk ptrsA_nil ptrsA_cons callH_some whenA_true whenA_false guardH_tt guardH_ff guardH_tf guardH_ft guardH_undef agV_one agV_agg lenO_sl lenStrO_str notO_bool pickO_bool convO_int eqbO_bool eqnilO_sl extractO_tup capO_sl minO_int loadL_one loadL_all storeL_eq fillA_nil fillA_one fillA_agg nat_ge neg_ge nat_lt neg_lt buildO bin_add bin_sub bin_mul bin_eql bin_neq bin_lss bin_leq bin_gtr bin_geq str_eql str_neq str_lss str_leq str_gtr str_geq retK_some endK_mk gcK_same gcK_int gcK_bool tupO_one tupO_agg rdy_self ib ii Option.map_none Option.map_some Option.some.injEq exists_eq_left' exists_eq_left ne_eq not_false_eq_true if_true if_false List.map_cons List.map_nil List.getElem?_cons_zero List.getElem?_cons_succ List.length_cons List.length_nil List.take_succ_cons List.take_zero List.take_nil List.drop_succ_cons List.drop_zero List.drop_nil List.cons_append List.nil_append List.append_nil List.set_cons_zero List.set_cons_succ Nat.zero_add forall_const true_and and_true and_self Bool.false_eq_true false_implies true_implies implies_true Bool.not_true Bool.not_false Bool.not_eq_true' Bool.not_eq_false' beq_self_eq_true Bool.bne_true Bool.bne_false
attribute [local go_sem] lenI lenS lenP lenQ lenB lenL lenT encI_0 encS_0 encP_0 encP_1 encQ_0 encQ_1 encQ_2 encQ_3 encB_0 encB_1 encL_0 encL_1 encT_0 encT_1
attribute [local go_sem low] whenA_bool guardH_bool
/-! laws.eqParam -/
def L100_0 : List AStep := [⟨.mov (.c (.bool false)), (some 4), none, []⟩]
theorem v100_0 : VS L100_0.eq_1 := rfl
def L100_1 : List AStep := ⟨.box 81 (.t 0), (some 2), none, []⟩ :: ⟨.box 81 (.t 1), (some 3), none, []⟩ :: L100_0
theorem v100_1 : VS L100_1.eq_1 := rfl
def L100_2 : List AStep := [⟨.bin .neq (.t 6) (.t 8), (some 9), none, []⟩]
theorem v100_2 : VS L100_2.eq_1 := rfl
def L100_3 : List AStep := ⟨.faddr 0 (.t 3), (some 7), none, []⟩ :: ⟨.load 1 false (.t 7), (some 8), none, []⟩ :: L100_2
theorem v100_3 : VS L100_3.eq_1 := rfl
def L100_4 : List AStep := ⟨.faddr 0 (.t 2), (some 5), none, []⟩ :: ⟨.load 1 false (.t 5), (some 6), none, []⟩ :: L100_3
theorem v100_4 : VS L100_4.eq_1 := rfl
def L100_5 : List AStep := [⟨.mov (.c (.bool false)), (some 4), none, []⟩]
theorem v100_5 : VS L100_5.eq_1 := rfl
def L100_6 : List AStep := [⟨.bin .neq (.t 11) (.t 13), (some 14), none, []⟩]
theorem v100_6 : VS L100_6.eq_1 := rfl
def L100_7 : List AStep := ⟨.faddr 1 (.t 3), (some 12), none, []⟩ :: ⟨.load 1 false (.t 12), (some 13), none, []⟩ :: L100_6
theorem v100_7 : VS L100_7.eq_1 := rfl
def L100_8 : List AStep := ⟨.faddr 1 (.t 2), (some 10), none, []⟩ :: ⟨.load 1 false (.t 10), (some 11), none, []⟩ :: L100_7
theorem v100_8 : VS L100_8.eq_1 := rfl
def L100_9 : List AStep := [⟨.mov (.c (.bool false)), (some 4), none, []⟩]
theorem v100_9 : VS L100_9.eq_1 := rfl
def L100_10 : List AStep := [⟨.eqb true (.t 16) (.t 18), (some 19), none, []⟩]
theorem v100_10 : VS L100_10.eq_1 := rfl
def L100_11 : List AStep := ⟨.faddr 2 (.t 3), (some 17), none, []⟩ :: ⟨.load 1 false (.t 17), (some 18), none, []⟩ :: L100_10
theorem v100_11 : VS L100_11.eq_1 := rfl
def L100_12 : List AStep := ⟨.faddr 2 (.t 2), (some 15), none, []⟩ :: ⟨.load 1 false (.t 15), (some 16), none, []⟩ :: L100_11
theorem v100_12 : VS L100_12.eq_1 := rfl
def L100_13 : List AStep := [⟨.mov (.c (.bool false)), (some 4), none, []⟩]
theorem v100_13 : VS L100_13.eq_1 := rfl
def L100_14 : List AStep := [⟨.bin .neq (.t 21) (.t 23), (some 24), none, []⟩]
theorem v100_14 : VS L100_14.eq_1 := rfl
def L100_15 : List AStep := ⟨.faddr 3 (.t 3), (some 22), none, []⟩ :: ⟨.load 1 false (.t 22), (some 23), none, []⟩ :: L100_14
theorem v100_15 : VS L100_15.eq_1 := rfl
def L100_16 : List AStep := ⟨.faddr 3 (.t 2), (some 20), none, []⟩ :: ⟨.load 1 false (.t 20), (some 21), none, []⟩ :: L100_15
theorem v100_16 : VS L100_16.eq_1 := rfl
def L100_17 : List AStep := [⟨.mov (.c (.bool false)), (some 4), none, []⟩]
theorem v100_17 : VS L100_17.eq_1 := rfl
def L100_18 : List AStep := [⟨.mov (.c (.bool true)), (some 4), none, []⟩]
theorem v100_18 : VS L100_18.eq_1 := rfl
def C100_0 : ACode := .seq (.reg L100_5) .ret
theorem u100_0 : VC C100_0.eq_1 := rfl
def C100_1 : ACode := .cond (.t 9) C100_0 .skip
theorem u100_1 : VC C100_1.eq_1 := rfl
def C100_2 : ACode := .seq (.reg L100_4) C100_1
theorem u100_2 : VC C100_2.eq_1 := rfl
def C100_3 : ACode := .seq (.reg L100_9) .ret
theorem u100_3 : VC C100_3.eq_1 := rfl
def C100_4 : ACode := .cond (.t 14) C100_3 .skip
theorem u100_4 : VC C100_4.eq_1 := rfl
def C100_5 : ACode := .seq (.reg L100_8) C100_4
theorem u100_5 : VC C100_5.eq_1 := rfl
def C100_6 : ACode := .seq (.reg L100_13) .ret
theorem u100_6 : VC C100_6.eq_1 := rfl
def C100_7 : ACode := .cond (.t 19) C100_6 .skip
theorem u100_7 : VC C100_7.eq_1 := rfl
def C100_8 : ACode := .seq (.reg L100_12) C100_7
theorem u100_8 : VC C100_8.eq_1 := rfl
def C100_9 : ACode := .seq (.reg L100_17) .ret
theorem u100_9 : VC C100_9.eq_1 := rfl
def C100_10 : ACode := .cond (.t 24) C100_9 .skip
theorem u100_10 : VC C100_10.eq_1 := rfl
def C100_11 : ACode := .seq (.reg L100_16) C100_10
theorem u100_11 : VC C100_11.eq_1 := rfl
def C100_12 : ACode := .seq (.reg L100_18) .ret
theorem u100_12 : VC C100_12.eq_1 := rfl
def C100_13 : ACode := .seq C100_11 C100_12
theorem u100_13 : VC C100_13.eq_1 := rfl
def C100_14 : ACode := .seq C100_8 C100_13
theorem u100_14 : VC C100_14.eq_1 := rfl
def C100_15 : ACode := .seq C100_5 C100_14
theorem u100_15 : VC C100_15.eq_1 := rfl
def C100_16 : ACode := .seq C100_2 C100_15
theorem u100_16 : VC C100_16.eq_1 := rfl
def C100_17 : ACode := .seq (.reg L100_1) C100_16
theorem u100_17 : VC C100_17.eq_1 := rfl
def F100 : AFunc := ⟨25, [.tmp 4], C100_17⟩
theorem cF100 : compB Try.prog 100 = some F100 := by kernel_rfl
attribute [local go_sem ↓] u100_0 u100_1 u100_2 u100_3 u100_4 u100_5 u100_6 u100_7 u100_8 u100_9 u100_10 u100_11 u100_12 u100_13 u100_14 u100_15 u100_16 u100_17 v100_0 v100_1 v100_2 v100_3 v100_4 v100_5 v100_6 v100_7 v100_8 v100_9 v100_10 v100_11 v100_12 v100_13 v100_14 v100_15 v100_16 v100_17 v100_18
theorem c_eqParam (p q : Param) (h : H) : bm Try.prog 100 [.agg (encQ p), .agg (encQ q)] h = some (ib (decide (p = q)), h) := by
  refine bm_eq cF100 ?_
  obtain ⟨n1, k1, d1, v1⟩ := p
  obtain ⟨n2, k2, d2, v2⟩ := q
  simp +contextual (maxSteps := 2000000) only [go_sem, Nat.reduceEqDiff, reduceCtorEq, Nat.reduceAdd, Nat.reduceLeDiff, F100, Param.mk.injEq]
  try ((repeat' (first | refine And.intro ?_ ?_ | intro _)) <;> first | simp_all)
/-! laws.eqPair -/
def L99_0 : List AStep := [⟨.mov (.c (.bool false)), (some 4), none, []⟩]
theorem v99_0 : VS L99_0.eq_1 := rfl
def L99_1 : List AStep := ⟨.box 109 (.t 0), (some 2), none, []⟩ :: ⟨.box 109 (.t 1), (some 3), none, []⟩ :: L99_0
theorem v99_1 : VS L99_1.eq_1 := rfl
def L99_2 : List AStep := [⟨.bin .neq (.t 6) (.t 8), (some 9), none, []⟩]
theorem v99_2 : VS L99_2.eq_1 := rfl
def L99_3 : List AStep := ⟨.faddr 0 (.t 3), (some 7), none, []⟩ :: ⟨.load 1 false (.t 7), (some 8), none, []⟩ :: L99_2
theorem v99_3 : VS L99_3.eq_1 := rfl
def L99_4 : List AStep := ⟨.faddr 0 (.t 2), (some 5), none, []⟩ :: ⟨.load 1 false (.t 5), (some 6), none, []⟩ :: L99_3
theorem v99_4 : VS L99_4.eq_1 := rfl
def L99_5 : List AStep := [⟨.mov (.c (.bool false)), (some 4), none, []⟩]
theorem v99_5 : VS L99_5.eq_1 := rfl
def L99_6 : List AStep := [⟨.bin .neq (.t 11) (.t 13), (some 14), none, []⟩]
theorem v99_6 : VS L99_6.eq_1 := rfl
def L99_7 : List AStep := ⟨.faddr 1 (.t 3), (some 12), none, []⟩ :: ⟨.load 1 false (.t 12), (some 13), none, []⟩ :: L99_6
theorem v99_7 : VS L99_7.eq_1 := rfl
def L99_8 : List AStep := ⟨.faddr 1 (.t 2), (some 10), none, []⟩ :: ⟨.load 1 false (.t 10), (some 11), none, []⟩ :: L99_7
theorem v99_8 : VS L99_8.eq_1 := rfl
def L99_9 : List AStep := [⟨.mov (.c (.bool false)), (some 4), none, []⟩]
theorem v99_9 : VS L99_9.eq_1 := rfl
def L99_10 : List AStep := [⟨.mov (.c (.bool true)), (some 4), none, []⟩]
theorem v99_10 : VS L99_10.eq_1 := rfl
def C99_0 : ACode := .seq (.reg L99_5) .ret
theorem u99_0 : VC C99_0.eq_1 := rfl
def C99_1 : ACode := .cond (.t 9) C99_0 .skip
theorem u99_1 : VC C99_1.eq_1 := rfl
def C99_2 : ACode := .seq (.reg L99_4) C99_1
theorem u99_2 : VC C99_2.eq_1 := rfl
def C99_3 : ACode := .seq (.reg L99_9) .ret
theorem u99_3 : VC C99_3.eq_1 := rfl
def C99_4 : ACode := .cond (.t 14) C99_3 .skip
theorem u99_4 : VC C99_4.eq_1 := rfl
def C99_5 : ACode := .seq (.reg L99_8) C99_4
theorem u99_5 : VC C99_5.eq_1 := rfl
def C99_6 : ACode := .seq (.reg L99_10) .ret
theorem u99_6 : VC C99_6.eq_1 := rfl
def C99_7 : ACode := .seq C99_5 C99_6
theorem u99_7 : VC C99_7.eq_1 := rfl
def C99_8 : ACode := .seq C99_2 C99_7
theorem u99_8 : VC C99_8.eq_1 := rfl
def C99_9 : ACode := .seq (.reg L99_1) C99_8
theorem u99_9 : VC C99_9.eq_1 := rfl
def F99 : AFunc := ⟨15, [.tmp 4], C99_9⟩
theorem cF99 : compB Try.prog 99 = some F99 := by kernel_rfl
attribute [local go_sem ↓] u99_0 u99_1 u99_2 u99_3 u99_4 u99_5 u99_6 u99_7 u99_8 u99_9 v99_0 v99_1 v99_2 v99_3 v99_4 v99_5 v99_6 v99_7 v99_8 v99_9 v99_10
theorem c_eqPair (p q : Pair) (h : H) : bm Try.prog 99 [.agg (encP p), .agg (encP q)] h = some (ib (decide (p = q)), h) := by
  refine bm_eq cF99 ?_
  obtain ⟨n1, k1⟩ := p
  obtain ⟨n2, k2⟩ := q
  simp +contextual (maxSteps := 2000000) only [go_sem, Nat.reduceEqDiff, reduceCtorEq, Nat.reduceAdd, Nat.reduceLeDiff, F99, Pair.mk.injEq]
  try ((repeat' (first | refine And.intro ?_ ?_ | intro _)) <;> first | simp_all)
/-! laws.eqIntS -/
def L37_0 : List AStep := [⟨.mov (.c (.bool false)), (some 4), none, []⟩]
theorem v37_0 : VS L37_0.eq_1 := rfl
def L37_1 : List AStep := [⟨.bin .neq (.t 7) (.t 9), (some 10), none, []⟩]
theorem v37_1 : VS L37_1.eq_1 := rfl
def L37_2 : List AStep := ⟨.mov (.t 1), (some 8), none, []⟩ :: ⟨.len (.t 8), (some 9), none, []⟩ :: L37_1
theorem v37_2 : VS L37_2.eq_1 := rfl
def L37_3 : List AStep := ⟨.mov (.t 0), (some 6), none, []⟩ :: ⟨.len (.t 6), (some 7), none, []⟩ :: L37_2
theorem v37_3 : VS L37_3.eq_1 := rfl
def L37_4 : List AStep := [⟨.mov (.c (.bool false)), (some 4), none, []⟩]
theorem v37_4 : VS L37_4.eq_1 := rfl
def L37_5 : List AStep := [⟨.mov (.c (.int .i64 0)), (some 5), none, []⟩]
theorem v37_5 : VS L37_5.eq_1 := rfl
def L37_6 : List AStep := [⟨.len (.t 12), (some 13), none, []⟩, ⟨.bin .lss (.t 11) (.t 13), (some 14), none, []⟩]
theorem v37_6 : VS L37_6.eq_1 := rfl
def L37_7 : List AStep := ⟨.mov (.t 5), (some 11), none, []⟩ :: ⟨.mov (.t 0), (some 12), none, []⟩ :: L37_6
theorem v37_7 : VS L37_7.eq_1 := rfl
def L37_8 : List AStep := [⟨.bin .neq (.t 20) (.t 24), (some 25), none, []⟩]
theorem v37_8 : VS L37_8.eq_1 := rfl
def L37_9 : List AStep := ⟨.iaddr 1 (.t 21) (.t 22), (some 23), none, []⟩ :: ⟨.load 1 false (.t 23), (some 24), none, []⟩ :: L37_8
theorem v37_9 : VS L37_9.eq_1 := rfl
def L37_10 : List AStep := ⟨.mov (.t 1), (some 21), none, []⟩ :: ⟨.mov (.t 5), (some 22), none, []⟩ :: L37_9
theorem v37_10 : VS L37_10.eq_1 := rfl
def L37_11 : List AStep := ⟨.iaddr 1 (.t 17) (.t 18), (some 19), none, []⟩ :: ⟨.load 1 false (.t 19), (some 20), none, []⟩ :: L37_10
theorem v37_11 : VS L37_11.eq_1 := rfl
def L37_12 : List AStep := ⟨.mov (.t 0), (some 17), none, []⟩ :: ⟨.mov (.t 5), (some 18), none, []⟩ :: L37_11
theorem v37_12 : VS L37_12.eq_1 := rfl
def L37_13 : List AStep := [⟨.mov (.c (.bool false)), (some 4), none, []⟩]
theorem v37_13 : VS L37_13.eq_1 := rfl
def L37_14 : List AStep := [⟨.mov (.t 16), (some 5), none, []⟩]
theorem v37_14 : VS L37_14.eq_1 := rfl
def L37_15 : List AStep := ⟨.mov (.t 5), (some 15), none, []⟩ :: ⟨.bin .add (.t 15) (.c (.int .i64 1)), (some 16), none, []⟩ :: L37_14
theorem v37_15 : VS L37_15.eq_1 := rfl
def L37_16 : List AStep := [⟨.mov (.c (.bool true)), (some 4), none, []⟩]
theorem v37_16 : VS L37_16.eq_1 := rfl
def C37_0 : ACode := .seq (.reg L37_4) .ret
theorem u37_0 : VC C37_0.eq_1 := rfl
def C37_1 : ACode := .cond (.t 10) C37_0 .skip
theorem u37_1 : VC C37_1.eq_1 := rfl
def C37_2 : ACode := .seq (.reg L37_3) C37_1
theorem u37_2 : VC C37_2.eq_1 := rfl
def C37_3 : ACode := .cond (.t 14) .skip (.exit 0)
theorem u37_3 : VC C37_3.eq_1 := rfl
def C37_4 : ACode := .seq (.reg L37_7) C37_3
theorem u37_4 : VC C37_4.eq_1 := rfl
def C37_5 : ACode := .seq (.reg L37_13) .ret
theorem u37_5 : VC C37_5.eq_1 := rfl
def C37_6 : ACode := .cond (.t 25) C37_5 .skip
theorem u37_6 : VC C37_6.eq_1 := rfl
def C37_7 : ACode := .seq (.reg L37_12) C37_6
theorem u37_7 : VC C37_7.eq_1 := rfl
def C37_8 : ACode := .block 1 C37_7
theorem u37_8 : VC C37_8.eq_1 := rfl
def C37_9 : ACode := .seq C37_8 (.reg L37_15)
theorem u37_9 : VC C37_9.eq_1 := rfl
def C37_10 : ACode := .seq C37_4 C37_9
theorem u37_10 : VC C37_10.eq_1 := rfl
def C37_11 : ACode := .block 0 (.loop C37_10)
theorem u37_11 : VC C37_11.eq_1 := rfl
def C37_12 : ACode := .seq (.reg L37_5) C37_11
theorem u37_12 : VC C37_12.eq_1 := rfl
def C37_13 : ACode := .seq (.reg L37_16) .ret
theorem u37_13 : VC C37_13.eq_1 := rfl
def C37_14 : ACode := .seq C37_12 C37_13
theorem u37_14 : VC C37_14.eq_1 := rfl
def C37_15 : ACode := .seq C37_2 C37_14
theorem u37_15 : VC C37_15.eq_1 := rfl
def C37_16 : ACode := .seq (.reg L37_0) C37_15
theorem u37_16 : VC C37_16.eq_1 := rfl
def F37 : AFunc := ⟨26, [.tmp 4], C37_16⟩
theorem cF37 : compB Try.prog 37 = some F37 := by kernel_rfl
attribute [local go_sem ↓] u37_0 u37_1 u37_2 u37_3 u37_4 u37_5 u37_6 u37_7 u37_8 u37_9 u37_10 u37_11 u37_12 u37_13 u37_14 u37_15 u37_16 v37_0 v37_1 v37_2 v37_3 v37_4 v37_5 v37_6 v37_7 v37_8 v37_9 v37_10 v37_11 v37_12 v37_13 v37_14 v37_15 v37_16
theorem c_eqIntS (l m : List Int) (v w : AV) (h : H) (hl : SlI h v l) (hm : SlI h w m) (hn : l.length ≤ big) : bm Try.prog 37 [v, w] h = some (ib (decide (l = m)), h) := by
  refine bm_eq cF37 ?_
  by_cases hlen : l.length = m.length
  case neg =>
    have e1 : decide ((l.length : Int) = (m.length : Int)) = false := decide_eq_false (by omega)
    simp +contextual (maxSteps := 2000000) only [go_sem, Nat.reduceEqDiff, reduceCtorEq, Nat.reduceAdd, Nat.reduceLeDiff, F37, hl.len, hm.len, e1]
    rw [ne_len e1]
  have e1 : decide ((l.length : Int) = (m.length : Int)) = true := decide_eq_true (by omega)
  simp +contextual (maxSteps := 2000000) only [go_sem, Nat.reduceEqDiff, reduceCtorEq, Nat.reduceAdd, Nat.reduceLeDiff, F37, hl.len, hm.len, e1]
  refine wpC_loop (fun i T L h' => h' = h ∧ T 0 = .v v ∧ T 1 = .v w ∧ T 5 = .v (.one (.int .i64 i)) ∧ Upto (eqAt l m) i) l.length ?_ ?_ (Nat.zero_le _) ?_
  · rintro i T L h' hi ⟨rfl, t0, t1, t5, hu⟩
    have him : i < m.length := by omega
    have e2 := eqAt_eq hi him
    simp +contextual (maxSteps := 2000000) only [go_sem, Nat.reduceEqDiff, reduceCtorEq, Nat.reduceAdd, Nat.reduceLeDiff, t0, t1, t5, hl.len, hm.len, hl.iaddr hi, hm.iaddr him, hl.oneO hi, hm.oneO him, lt_true hi]
    (repeat' (first | refine And.intro ?_ ?_ | intro _)) <;> first | rfl | rw [wrap_next hi (big_lt hn)] | (refine hu.next ?_; rw [e2]; (simp_all; done)) | (rw [ne_at (l := l) (m := m) (i := i)]; rw [e2]; (simp_all; done))
  · rintro T L h' ⟨rfl, t0, t1, t5, hu⟩
    simp +contextual (maxSteps := 2000000) only [go_sem, Nat.reduceEqDiff, reduceCtorEq, Nat.reduceAdd, Nat.reduceLeDiff, t0, t1, t5, hl.len, hm.len, lt_false, decide_eq_true (eq_of_upto hlen hu)]
  · simp +contextual (maxSteps := 2000000) only [go_sem, Nat.reduceEqDiff, reduceCtorEq, Nat.reduceAdd, Nat.reduceLeDiff]
    (repeat' (first | refine And.intro ?_ ?_ | intro _)) <;> first | rfl | exact Upto.zero
/-! laws.eqStringS -/
def L13_0 : List AStep := [⟨.mov (.c (.bool false)), (some 4), none, []⟩]
theorem v13_0 : VS L13_0.eq_1 := rfl
def L13_1 : List AStep := [⟨.bin .neq (.t 7) (.t 9), (some 10), none, []⟩]
theorem v13_1 : VS L13_1.eq_1 := rfl
def L13_2 : List AStep := ⟨.mov (.t 1), (some 8), none, []⟩ :: ⟨.len (.t 8), (some 9), none, []⟩ :: L13_1
theorem v13_2 : VS L13_2.eq_1 := rfl
def L13_3 : List AStep := ⟨.mov (.t 0), (some 6), none, []⟩ :: ⟨.len (.t 6), (some 7), none, []⟩ :: L13_2
theorem v13_3 : VS L13_3.eq_1 := rfl
def L13_4 : List AStep := [⟨.mov (.c (.bool false)), (some 4), none, []⟩]
theorem v13_4 : VS L13_4.eq_1 := rfl
def L13_5 : List AStep := [⟨.mov (.c (.int .i64 0)), (some 5), none, []⟩]
theorem v13_5 : VS L13_5.eq_1 := rfl
def L13_6 : List AStep := [⟨.len (.t 12), (some 13), none, []⟩, ⟨.bin .lss (.t 11) (.t 13), (some 14), none, []⟩]
theorem v13_6 : VS L13_6.eq_1 := rfl
def L13_7 : List AStep := ⟨.mov (.t 5), (some 11), none, []⟩ :: ⟨.mov (.t 0), (some 12), none, []⟩ :: L13_6
theorem v13_7 : VS L13_7.eq_1 := rfl
def L13_8 : List AStep := [⟨.bin .neq (.t 20) (.t 24), (some 25), none, []⟩]
theorem v13_8 : VS L13_8.eq_1 := rfl
def L13_9 : List AStep := ⟨.iaddr 1 (.t 21) (.t 22), (some 23), none, []⟩ :: ⟨.load 1 false (.t 23), (some 24), none, []⟩ :: L13_8
theorem v13_9 : VS L13_9.eq_1 := rfl
def L13_10 : List AStep := ⟨.mov (.t 1), (some 21), none, []⟩ :: ⟨.mov (.t 5), (some 22), none, []⟩ :: L13_9
theorem v13_10 : VS L13_10.eq_1 := rfl
def L13_11 : List AStep := ⟨.iaddr 1 (.t 17) (.t 18), (some 19), none, []⟩ :: ⟨.load 1 false (.t 19), (some 20), none, []⟩ :: L13_10
theorem v13_11 : VS L13_11.eq_1 := rfl
def L13_12 : List AStep := ⟨.mov (.t 0), (some 17), none, []⟩ :: ⟨.mov (.t 5), (some 18), none, []⟩ :: L13_11
theorem v13_12 : VS L13_12.eq_1 := rfl
def L13_13 : List AStep := [⟨.mov (.c (.bool false)), (some 4), none, []⟩]
theorem v13_13 : VS L13_13.eq_1 := rfl
def L13_14 : List AStep := [⟨.mov (.t 16), (some 5), none, []⟩]
theorem v13_14 : VS L13_14.eq_1 := rfl
def L13_15 : List AStep := ⟨.mov (.t 5), (some 15), none, []⟩ :: ⟨.bin .add (.t 15) (.c (.int .i64 1)), (some 16), none, []⟩ :: L13_14
theorem v13_15 : VS L13_15.eq_1 := rfl
def L13_16 : List AStep := [⟨.mov (.c (.bool true)), (some 4), none, []⟩]
theorem v13_16 : VS L13_16.eq_1 := rfl
def C13_0 : ACode := .seq (.reg L13_4) .ret
theorem u13_0 : VC C13_0.eq_1 := rfl
def C13_1 : ACode := .cond (.t 10) C13_0 .skip
theorem u13_1 : VC C13_1.eq_1 := rfl
def C13_2 : ACode := .seq (.reg L13_3) C13_1
theorem u13_2 : VC C13_2.eq_1 := rfl
def C13_3 : ACode := .cond (.t 14) .skip (.exit 0)
theorem u13_3 : VC C13_3.eq_1 := rfl
def C13_4 : ACode := .seq (.reg L13_7) C13_3
theorem u13_4 : VC C13_4.eq_1 := rfl
def C13_5 : ACode := .seq (.reg L13_13) .ret
theorem u13_5 : VC C13_5.eq_1 := rfl
def C13_6 : ACode := .cond (.t 25) C13_5 .skip
theorem u13_6 : VC C13_6.eq_1 := rfl
def C13_7 : ACode := .seq (.reg L13_12) C13_6
theorem u13_7 : VC C13_7.eq_1 := rfl
def C13_8 : ACode := .block 1 C13_7
theorem u13_8 : VC C13_8.eq_1 := rfl
def C13_9 : ACode := .seq C13_8 (.reg L13_15)
theorem u13_9 : VC C13_9.eq_1 := rfl
def C13_10 : ACode := .seq C13_4 C13_9
theorem u13_10 : VC C13_10.eq_1 := rfl
def C13_11 : ACode := .block 0 (.loop C13_10)
theorem u13_11 : VC C13_11.eq_1 := rfl
def C13_12 : ACode := .seq (.reg L13_5) C13_11
theorem u13_12 : VC C13_12.eq_1 := rfl
def C13_13 : ACode := .seq (.reg L13_16) .ret
theorem u13_13 : VC C13_13.eq_1 := rfl
def C13_14 : ACode := .seq C13_12 C13_13
theorem u13_14 : VC C13_14.eq_1 := rfl
def C13_15 : ACode := .seq C13_2 C13_14
theorem u13_15 : VC C13_15.eq_1 := rfl
def C13_16 : ACode := .seq (.reg L13_0) C13_15
theorem u13_16 : VC C13_16.eq_1 := rfl
def F13 : AFunc := ⟨26, [.tmp 4], C13_16⟩
theorem cF13 : compB Try.prog 13 = some F13 := by kernel_rfl
attribute [local go_sem ↓] u13_0 u13_1 u13_2 u13_3 u13_4 u13_5 u13_6 u13_7 u13_8 u13_9 u13_10 u13_11 u13_12 u13_13 u13_14 u13_15 u13_16 v13_0 v13_1 v13_2 v13_3 v13_4 v13_5 v13_6 v13_7 v13_8 v13_9 v13_10 v13_11 v13_12 v13_13 v13_14 v13_15 v13_16
theorem c_eqStringS (l m : List ByteArray) (v w : AV) (h : H) (hl : SlS h v l) (hm : SlS h w m) (hn : l.length ≤ big) : bm Try.prog 13 [v, w] h = some (ib (decide (l = m)), h) := by
  refine bm_eq cF13 ?_
  by_cases hlen : l.length = m.length
  case neg =>
    have e1 : decide ((l.length : Int) = (m.length : Int)) = false := decide_eq_false (by omega)
    simp +contextual (maxSteps := 2000000) only [go_sem, Nat.reduceEqDiff, reduceCtorEq, Nat.reduceAdd, Nat.reduceLeDiff, F13, hl.len, hm.len, e1]
    rw [ne_len e1]
  have e1 : decide ((l.length : Int) = (m.length : Int)) = true := decide_eq_true (by omega)
  simp +contextual (maxSteps := 2000000) only [go_sem, Nat.reduceEqDiff, reduceCtorEq, Nat.reduceAdd, Nat.reduceLeDiff, F13, hl.len, hm.len, e1]
  refine wpC_loop (fun i T L h' => h' = h ∧ T 0 = .v v ∧ T 1 = .v w ∧ T 5 = .v (.one (.int .i64 i)) ∧ Upto (eqAt l m) i) l.length ?_ ?_ (Nat.zero_le _) ?_
  · rintro i T L h' hi ⟨rfl, t0, t1, t5, hu⟩
    have him : i < m.length := by omega
    have e2 := eqAt_eq hi him
    simp +contextual (maxSteps := 2000000) only [go_sem, Nat.reduceEqDiff, reduceCtorEq, Nat.reduceAdd, Nat.reduceLeDiff, t0, t1, t5, hl.len, hm.len, hl.iaddr hi, hm.iaddr him, hl.oneO hi, hm.oneO him, lt_true hi]
    (repeat' (first | refine And.intro ?_ ?_ | intro _)) <;> first | rfl | rw [wrap_next hi (big_lt hn)] | (refine hu.next ?_; rw [e2]; (simp_all; done)) | (rw [ne_at (l := l) (m := m) (i := i)]; rw [e2]; (simp_all; done))
  · rintro T L h' ⟨rfl, t0, t1, t5, hu⟩
    simp +contextual (maxSteps := 2000000) only [go_sem, Nat.reduceEqDiff, reduceCtorEq, Nat.reduceAdd, Nat.reduceLeDiff, t0, t1, t5, hl.len, hm.len, lt_false, decide_eq_true (eq_of_upto hlen hu)]
  · simp +contextual (maxSteps := 2000000) only [go_sem, Nat.reduceEqDiff, reduceCtorEq, Nat.reduceAdd, Nat.reduceLeDiff]
    (repeat' (first | refine And.intro ?_ ?_ | intro _)) <;> first | rfl | exact Upto.zero
/-! laws.eqParamS -/
def L65_0 : List AStep := [⟨.mov (.c (.bool false)), (some 4), none, []⟩]
theorem v65_0 : VS L65_0.eq_1 := rfl
def L65_1 : List AStep := [⟨.bin .neq (.t 7) (.t 9), (some 10), none, []⟩]
theorem v65_1 : VS L65_1.eq_1 := rfl
def L65_2 : List AStep := ⟨.mov (.t 1), (some 8), none, []⟩ :: ⟨.len (.t 8), (some 9), none, []⟩ :: L65_1
theorem v65_2 : VS L65_2.eq_1 := rfl
def L65_3 : List AStep := ⟨.mov (.t 0), (some 6), none, []⟩ :: ⟨.len (.t 6), (some 7), none, []⟩ :: L65_2
theorem v65_3 : VS L65_3.eq_1 := rfl
def L65_4 : List AStep := [⟨.mov (.c (.bool false)), (some 4), none, []⟩]
theorem v65_4 : VS L65_4.eq_1 := rfl
def L65_5 : List AStep := [⟨.mov (.c (.int .i64 0)), (some 5), none, []⟩]
theorem v65_5 : VS L65_5.eq_1 := rfl
def L65_6 : List AStep := [⟨.len (.t 12), (some 13), none, []⟩, ⟨.bin .lss (.t 11) (.t 13), (some 14), none, []⟩]
theorem v65_6 : VS L65_6.eq_1 := rfl
def L65_7 : List AStep := ⟨.mov (.t 5), (some 11), none, []⟩ :: ⟨.mov (.t 0), (some 12), none, []⟩ :: L65_6
theorem v65_7 : VS L65_7.eq_1 := rfl
def L65_8 : List AStep := [⟨.call 100 [(.t 20), (.t 24)], (some 25), none, []⟩, ⟨.not (.t 25), (some 26), none, []⟩]
theorem v65_8 : VS L65_8.eq_1 := rfl
def L65_9 : List AStep := ⟨.iaddr 4 (.t 21) (.t 22), (some 23), none, []⟩ :: ⟨.load 4 true (.t 23), (some 24), none, []⟩ :: L65_8
theorem v65_9 : VS L65_9.eq_1 := rfl
def L65_10 : List AStep := ⟨.mov (.t 1), (some 21), none, []⟩ :: ⟨.mov (.t 5), (some 22), none, []⟩ :: L65_9
theorem v65_10 : VS L65_10.eq_1 := rfl
def L65_11 : List AStep := ⟨.iaddr 4 (.t 17) (.t 18), (some 19), none, []⟩ :: ⟨.load 4 true (.t 19), (some 20), none, []⟩ :: L65_10
theorem v65_11 : VS L65_11.eq_1 := rfl
def L65_12 : List AStep := ⟨.mov (.t 0), (some 17), none, []⟩ :: ⟨.mov (.t 5), (some 18), none, []⟩ :: L65_11
theorem v65_12 : VS L65_12.eq_1 := rfl
def L65_13 : List AStep := [⟨.mov (.c (.bool false)), (some 4), none, []⟩]
theorem v65_13 : VS L65_13.eq_1 := rfl
def L65_14 : List AStep := [⟨.mov (.t 16), (some 5), none, []⟩]
theorem v65_14 : VS L65_14.eq_1 := rfl
def L65_15 : List AStep := ⟨.mov (.t 5), (some 15), none, []⟩ :: ⟨.bin .add (.t 15) (.c (.int .i64 1)), (some 16), none, []⟩ :: L65_14
theorem v65_15 : VS L65_15.eq_1 := rfl
def L65_16 : List AStep := [⟨.mov (.c (.bool true)), (some 4), none, []⟩]
theorem v65_16 : VS L65_16.eq_1 := rfl
def C65_0 : ACode := .seq (.reg L65_4) .ret
theorem u65_0 : VC C65_0.eq_1 := rfl
def C65_1 : ACode := .cond (.t 10) C65_0 .skip
theorem u65_1 : VC C65_1.eq_1 := rfl
def C65_2 : ACode := .seq (.reg L65_3) C65_1
theorem u65_2 : VC C65_2.eq_1 := rfl
def C65_3 : ACode := .cond (.t 14) .skip (.exit 0)
theorem u65_3 : VC C65_3.eq_1 := rfl
def C65_4 : ACode := .seq (.reg L65_7) C65_3
theorem u65_4 : VC C65_4.eq_1 := rfl
def C65_5 : ACode := .seq (.reg L65_13) .ret
theorem u65_5 : VC C65_5.eq_1 := rfl
def C65_6 : ACode := .cond (.t 26) C65_5 .skip
theorem u65_6 : VC C65_6.eq_1 := rfl
def C65_7 : ACode := .seq (.reg L65_12) C65_6
theorem u65_7 : VC C65_7.eq_1 := rfl
def C65_8 : ACode := .block 1 C65_7
theorem u65_8 : VC C65_8.eq_1 := rfl
def C65_9 : ACode := .seq C65_8 (.reg L65_15)
theorem u65_9 : VC C65_9.eq_1 := rfl
def C65_10 : ACode := .seq C65_4 C65_9
theorem u65_10 : VC C65_10.eq_1 := rfl
def C65_11 : ACode := .block 0 (.loop C65_10)
theorem u65_11 : VC C65_11.eq_1 := rfl
def C65_12 : ACode := .seq (.reg L65_5) C65_11
theorem u65_12 : VC C65_12.eq_1 := rfl
def C65_13 : ACode := .seq (.reg L65_16) .ret
theorem u65_13 : VC C65_13.eq_1 := rfl
def C65_14 : ACode := .seq C65_12 C65_13
theorem u65_14 : VC C65_14.eq_1 := rfl
def C65_15 : ACode := .seq C65_2 C65_14
theorem u65_15 : VC C65_15.eq_1 := rfl
def C65_16 : ACode := .seq (.reg L65_0) C65_15
theorem u65_16 : VC C65_16.eq_1 := rfl
def F65 : AFunc := ⟨27, [.tmp 4], C65_16⟩
theorem cF65 : compB Try.prog 65 = some F65 := by kernel_rfl
attribute [local go_sem ↓] u65_0 u65_1 u65_2 u65_3 u65_4 u65_5 u65_6 u65_7 u65_8 u65_9 u65_10 u65_11 u65_12 u65_13 u65_14 u65_15 u65_16 v65_0 v65_1 v65_2 v65_3 v65_4 v65_5 v65_6 v65_7 v65_8 v65_9 v65_10 v65_11 v65_12 v65_13 v65_14 v65_15 v65_16
theorem c_eqParamS (l m : List Param) (v w : AV) (h : H) (hl : SlQ h v l) (hm : SlQ h w m) (hn : l.length ≤ big) : bm Try.prog 65 [v, w] h = some (ib (decide (l = m)), h) := by
  refine bm_eq cF65 ?_
  by_cases hlen : l.length = m.length
  case neg =>
    have e1 : decide ((l.length : Int) = (m.length : Int)) = false := decide_eq_false (by omega)
    simp +contextual (maxSteps := 2000000) only [go_sem, Nat.reduceEqDiff, reduceCtorEq, Nat.reduceAdd, Nat.reduceLeDiff, F65, hl.len, hm.len, e1]
    rw [ne_len e1]
  have e1 : decide ((l.length : Int) = (m.length : Int)) = true := decide_eq_true (by omega)
  simp +contextual (maxSteps := 2000000) only [go_sem, Nat.reduceEqDiff, reduceCtorEq, Nat.reduceAdd, Nat.reduceLeDiff, F65, hl.len, hm.len, e1]
  refine wpC_loop (fun i T L h' => h' = h ∧ T 0 = .v v ∧ T 1 = .v w ∧ T 5 = .v (.one (.int .i64 i)) ∧ Upto (eqAt l m) i) l.length ?_ ?_ (Nat.zero_le _) ?_
  · rintro i T L h' hi ⟨rfl, t0, t1, t5, hu⟩
    have him : i < m.length := by omega
    have e2 := eqAt_eq hi him
    simp +contextual (maxSteps := 2000000) only [go_sem, Nat.reduceEqDiff, reduceCtorEq, Nat.reduceAdd, Nat.reduceLeDiff, t0, t1, t5, hl.len, hm.len, hl.iaddr hi, hm.iaddr him, hl.whole hi, hm.whole him, c_eqParam, lt_true hi]
    (repeat' (first | refine And.intro ?_ ?_ | intro _)) <;> first | rfl | rw [wrap_next hi (big_lt hn)] | (refine hu.next ?_; rw [e2]; (simp_all; done)) | (rw [ne_at (l := l) (m := m) (i := i)]; rw [e2]; (simp_all; done))
  · rintro T L h' ⟨rfl, t0, t1, t5, hu⟩
    simp +contextual (maxSteps := 2000000) only [go_sem, Nat.reduceEqDiff, reduceCtorEq, Nat.reduceAdd, Nat.reduceLeDiff, t0, t1, t5, hl.len, hm.len, lt_false, decide_eq_true (eq_of_upto hlen hu)]
  · simp +contextual (maxSteps := 2000000) only [go_sem, Nat.reduceEqDiff, reduceCtorEq, Nat.reduceAdd, Nat.reduceLeDiff]
    (repeat' (first | refine And.intro ?_ ?_ | intro _)) <;> first | rfl | exact Upto.zero
/-! laws.eqPairS -/
def L64_0 : List AStep := [⟨.mov (.c (.bool false)), (some 4), none, []⟩]
theorem v64_0 : VS L64_0.eq_1 := rfl
def L64_1 : List AStep := [⟨.bin .neq (.t 7) (.t 9), (some 10), none, []⟩]
theorem v64_1 : VS L64_1.eq_1 := rfl
def L64_2 : List AStep := ⟨.mov (.t 1), (some 8), none, []⟩ :: ⟨.len (.t 8), (some 9), none, []⟩ :: L64_1
theorem v64_2 : VS L64_2.eq_1 := rfl
def L64_3 : List AStep := ⟨.mov (.t 0), (some 6), none, []⟩ :: ⟨.len (.t 6), (some 7), none, []⟩ :: L64_2
theorem v64_3 : VS L64_3.eq_1 := rfl
def L64_4 : List AStep := [⟨.mov (.c (.bool false)), (some 4), none, []⟩]
theorem v64_4 : VS L64_4.eq_1 := rfl
def L64_5 : List AStep := [⟨.mov (.c (.int .i64 0)), (some 5), none, []⟩]
theorem v64_5 : VS L64_5.eq_1 := rfl
def L64_6 : List AStep := [⟨.len (.t 12), (some 13), none, []⟩, ⟨.bin .lss (.t 11) (.t 13), (some 14), none, []⟩]
theorem v64_6 : VS L64_6.eq_1 := rfl
def L64_7 : List AStep := ⟨.mov (.t 5), (some 11), none, []⟩ :: ⟨.mov (.t 0), (some 12), none, []⟩ :: L64_6
theorem v64_7 : VS L64_7.eq_1 := rfl
def L64_8 : List AStep := [⟨.call 99 [(.t 20), (.t 24)], (some 25), none, []⟩, ⟨.not (.t 25), (some 26), none, []⟩]
theorem v64_8 : VS L64_8.eq_1 := rfl
def L64_9 : List AStep := ⟨.iaddr 2 (.t 21) (.t 22), (some 23), none, []⟩ :: ⟨.load 2 true (.t 23), (some 24), none, []⟩ :: L64_8
theorem v64_9 : VS L64_9.eq_1 := rfl
def L64_10 : List AStep := ⟨.mov (.t 1), (some 21), none, []⟩ :: ⟨.mov (.t 5), (some 22), none, []⟩ :: L64_9
theorem v64_10 : VS L64_10.eq_1 := rfl
def L64_11 : List AStep := ⟨.iaddr 2 (.t 17) (.t 18), (some 19), none, []⟩ :: ⟨.load 2 true (.t 19), (some 20), none, []⟩ :: L64_10
theorem v64_11 : VS L64_11.eq_1 := rfl
def L64_12 : List AStep := ⟨.mov (.t 0), (some 17), none, []⟩ :: ⟨.mov (.t 5), (some 18), none, []⟩ :: L64_11
theorem v64_12 : VS L64_12.eq_1 := rfl
def L64_13 : List AStep := [⟨.mov (.c (.bool false)), (some 4), none, []⟩]
theorem v64_13 : VS L64_13.eq_1 := rfl
def L64_14 : List AStep := [⟨.mov (.t 16), (some 5), none, []⟩]
theorem v64_14 : VS L64_14.eq_1 := rfl
def L64_15 : List AStep := ⟨.mov (.t 5), (some 15), none, []⟩ :: ⟨.bin .add (.t 15) (.c (.int .i64 1)), (some 16), none, []⟩ :: L64_14
theorem v64_15 : VS L64_15.eq_1 := rfl
def L64_16 : List AStep := [⟨.mov (.c (.bool true)), (some 4), none, []⟩]
theorem v64_16 : VS L64_16.eq_1 := rfl
def C64_0 : ACode := .seq (.reg L64_4) .ret
theorem u64_0 : VC C64_0.eq_1 := rfl
def C64_1 : ACode := .cond (.t 10) C64_0 .skip
theorem u64_1 : VC C64_1.eq_1 := rfl
def C64_2 : ACode := .seq (.reg L64_3) C64_1
theorem u64_2 : VC C64_2.eq_1 := rfl
def C64_3 : ACode := .cond (.t 14) .skip (.exit 0)
theorem u64_3 : VC C64_3.eq_1 := rfl
def C64_4 : ACode := .seq (.reg L64_7) C64_3
theorem u64_4 : VC C64_4.eq_1 := rfl
def C64_5 : ACode := .seq (.reg L64_13) .ret
theorem u64_5 : VC C64_5.eq_1 := rfl
def C64_6 : ACode := .cond (.t 26) C64_5 .skip
theorem u64_6 : VC C64_6.eq_1 := rfl
def C64_7 : ACode := .seq (.reg L64_12) C64_6
theorem u64_7 : VC C64_7.eq_1 := rfl
def C64_8 : ACode := .block 1 C64_7
theorem u64_8 : VC C64_8.eq_1 := rfl
def C64_9 : ACode := .seq C64_8 (.reg L64_15)
theorem u64_9 : VC C64_9.eq_1 := rfl
def C64_10 : ACode := .seq C64_4 C64_9
theorem u64_10 : VC C64_10.eq_1 := rfl
def C64_11 : ACode := .block 0 (.loop C64_10)
theorem u64_11 : VC C64_11.eq_1 := rfl
def C64_12 : ACode := .seq (.reg L64_5) C64_11
theorem u64_12 : VC C64_12.eq_1 := rfl
def C64_13 : ACode := .seq (.reg L64_16) .ret
theorem u64_13 : VC C64_13.eq_1 := rfl
def C64_14 : ACode := .seq C64_12 C64_13
theorem u64_14 : VC C64_14.eq_1 := rfl
def C64_15 : ACode := .seq C64_2 C64_14
theorem u64_15 : VC C64_15.eq_1 := rfl
def C64_16 : ACode := .seq (.reg L64_0) C64_15
theorem u64_16 : VC C64_16.eq_1 := rfl
def F64 : AFunc := ⟨27, [.tmp 4], C64_16⟩
theorem cF64 : compB Try.prog 64 = some F64 := by kernel_rfl
attribute [local go_sem ↓] u64_0 u64_1 u64_2 u64_3 u64_4 u64_5 u64_6 u64_7 u64_8 u64_9 u64_10 u64_11 u64_12 u64_13 u64_14 u64_15 u64_16 v64_0 v64_1 v64_2 v64_3 v64_4 v64_5 v64_6 v64_7 v64_8 v64_9 v64_10 v64_11 v64_12 v64_13 v64_14 v64_15 v64_16
theorem c_eqPairS (l m : List Pair) (v w : AV) (h : H) (hl : SlP h v l) (hm : SlP h w m) (hn : l.length ≤ big) : bm Try.prog 64 [v, w] h = some (ib (decide (l = m)), h) := by
  refine bm_eq cF64 ?_
  by_cases hlen : l.length = m.length
  case neg =>
    have e1 : decide ((l.length : Int) = (m.length : Int)) = false := decide_eq_false (by omega)
    simp +contextual (maxSteps := 2000000) only [go_sem, Nat.reduceEqDiff, reduceCtorEq, Nat.reduceAdd, Nat.reduceLeDiff, F64, hl.len, hm.len, e1]
    rw [ne_len e1]
  have e1 : decide ((l.length : Int) = (m.length : Int)) = true := decide_eq_true (by omega)
  simp +contextual (maxSteps := 2000000) only [go_sem, Nat.reduceEqDiff, reduceCtorEq, Nat.reduceAdd, Nat.reduceLeDiff, F64, hl.len, hm.len, e1]
  refine wpC_loop (fun i T L h' => h' = h ∧ T 0 = .v v ∧ T 1 = .v w ∧ T 5 = .v (.one (.int .i64 i)) ∧ Upto (eqAt l m) i) l.length ?_ ?_ (Nat.zero_le _) ?_
  · rintro i T L h' hi ⟨rfl, t0, t1, t5, hu⟩
    have him : i < m.length := by omega
    have e2 := eqAt_eq hi him
    simp +contextual (maxSteps := 2000000) only [go_sem, Nat.reduceEqDiff, reduceCtorEq, Nat.reduceAdd, Nat.reduceLeDiff, t0, t1, t5, hl.len, hm.len, hl.iaddr hi, hm.iaddr him, hl.whole hi, hm.whole him, c_eqPair, lt_true hi]
    (repeat' (first | refine And.intro ?_ ?_ | intro _)) <;> first | rfl | rw [wrap_next hi (big_lt hn)] | (refine hu.next ?_; rw [e2]; (simp_all; done)) | (rw [ne_at (l := l) (m := m) (i := i)]; rw [e2]; (simp_all; done))
  · rintro T L h' ⟨rfl, t0, t1, t5, hu⟩
    simp +contextual (maxSteps := 2000000) only [go_sem, Nat.reduceEqDiff, reduceCtorEq, Nat.reduceAdd, Nat.reduceLeDiff, t0, t1, t5, hl.len, hm.len, lt_false, decide_eq_true (eq_of_upto hlen hu)]
  · simp +contextual (maxSteps := 2000000) only [go_sem, Nat.reduceEqDiff, reduceCtorEq, Nat.reduceAdd, Nat.reduceLeDiff]
    (repeat' (first | refine And.intro ?_ ?_ | intro _)) <;> first | rfl | exact Upto.zero
/-! laws.eqSignature -/
def L27_0 : List AStep := [⟨.mov (.c (.bool false)), (some 4), none, []⟩]
theorem v27_0 : VS L27_0.eq_1 := rfl
def L27_1 : List AStep := ⟨.box 36 (.t 0), (some 2), none, []⟩ :: ⟨.box 36 (.t 1), (some 3), none, []⟩ :: L27_0
theorem v27_1 : VS L27_1.eq_1 := rfl
def L27_2 : List AStep := [⟨.call 65 [(.t 6), (.t 8)], (some 9), none, []⟩, ⟨.not (.t 9), (some 10), none, []⟩]
theorem v27_2 : VS L27_2.eq_1 := rfl
def L27_3 : List AStep := ⟨.faddr 0 (.t 3), (some 7), none, []⟩ :: ⟨.load 1 false (.t 7), (some 8), none, []⟩ :: L27_2
theorem v27_3 : VS L27_3.eq_1 := rfl
def L27_4 : List AStep := ⟨.faddr 0 (.t 2), (some 5), none, []⟩ :: ⟨.load 1 false (.t 5), (some 6), none, []⟩ :: L27_3
theorem v27_4 : VS L27_4.eq_1 := rfl
def L27_5 : List AStep := [⟨.mov (.c (.bool false)), (some 4), none, []⟩]
theorem v27_5 : VS L27_5.eq_1 := rfl
def L27_6 : List AStep := [⟨.mov (.c (.bool true)), (some 4), none, []⟩]
theorem v27_6 : VS L27_6.eq_1 := rfl
def C27_0 : ACode := .seq (.reg L27_5) .ret
theorem u27_0 : VC C27_0.eq_1 := rfl
def C27_1 : ACode := .cond (.t 10) C27_0 .skip
theorem u27_1 : VC C27_1.eq_1 := rfl
def C27_2 : ACode := .seq (.reg L27_4) C27_1
theorem u27_2 : VC C27_2.eq_1 := rfl
def C27_3 : ACode := .seq (.reg L27_6) .ret
theorem u27_3 : VC C27_3.eq_1 := rfl
def C27_4 : ACode := .seq C27_2 C27_3
theorem u27_4 : VC C27_4.eq_1 := rfl
def C27_5 : ACode := .seq (.reg L27_1) C27_4
theorem u27_5 : VC C27_5.eq_1 := rfl
def F27 : AFunc := ⟨11, [.tmp 4], C27_5⟩
theorem cF27 : compB Try.prog 27 = some F27 := by kernel_rfl
attribute [local go_sem ↓] u27_0 u27_1 u27_2 u27_3 u27_4 u27_5 v27_0 v27_1 v27_2 v27_3 v27_4 v27_5 v27_6
theorem c_eqSignature (l m : List Param) (v w : CV) (h : H) (hl : SlQ h (.one v) l) (hm : SlQ h (.one w) m) (hn : l.length ≤ big) : bm Try.prog 27 [.agg [v], .agg [w]] h = some (ib (decide (l = m)), h) := by
  refine bm_eq cF27 ?_
  simp +contextual (maxSteps := 2000000) only [go_sem, Nat.reduceEqDiff, reduceCtorEq, Nat.reduceAdd, Nat.reduceLeDiff, F27, c_eqParamS _ _ _ _ _ hl hm hn]
  try ((repeat' (first | refine And.intro ?_ ?_ | intro _)) <;> first | simp_all)
/-! laws.eqFlat -/
def L26_0 : List AStep := [⟨.mov (.c (.bool false)), (some 4), none, []⟩]
theorem v26_0 : VS L26_0.eq_1 := rfl
def L26_1 : List AStep := ⟨.box 39 (.t 0), (some 2), none, []⟩ :: ⟨.box 39 (.t 1), (some 3), none, []⟩ :: L26_0
theorem v26_1 : VS L26_1.eq_1 := rfl
def L26_2 : List AStep := [⟨.call 37 [(.t 6), (.t 8)], (some 9), none, []⟩, ⟨.not (.t 9), (some 10), none, []⟩]
theorem v26_2 : VS L26_2.eq_1 := rfl
def L26_3 : List AStep := ⟨.faddr 0 (.t 3), (some 7), none, []⟩ :: ⟨.load 1 false (.t 7), (some 8), none, []⟩ :: L26_2
theorem v26_3 : VS L26_3.eq_1 := rfl
def L26_4 : List AStep := ⟨.faddr 0 (.t 2), (some 5), none, []⟩ :: ⟨.load 1 false (.t 5), (some 6), none, []⟩ :: L26_3
theorem v26_4 : VS L26_4.eq_1 := rfl
def L26_5 : List AStep := [⟨.mov (.c (.bool false)), (some 4), none, []⟩]
theorem v26_5 : VS L26_5.eq_1 := rfl
def L26_6 : List AStep := [⟨.call 64 [(.t 12), (.t 14)], (some 15), none, []⟩, ⟨.not (.t 15), (some 16), none, []⟩]
theorem v26_6 : VS L26_6.eq_1 := rfl
def L26_7 : List AStep := ⟨.faddr 1 (.t 3), (some 13), none, []⟩ :: ⟨.load 1 false (.t 13), (some 14), none, []⟩ :: L26_6
theorem v26_7 : VS L26_7.eq_1 := rfl
def L26_8 : List AStep := ⟨.faddr 1 (.t 2), (some 11), none, []⟩ :: ⟨.load 1 false (.t 11), (some 12), none, []⟩ :: L26_7
theorem v26_8 : VS L26_8.eq_1 := rfl
def L26_9 : List AStep := [⟨.mov (.c (.bool false)), (some 4), none, []⟩]
theorem v26_9 : VS L26_9.eq_1 := rfl
def L26_10 : List AStep := [⟨.mov (.c (.bool true)), (some 4), none, []⟩]
theorem v26_10 : VS L26_10.eq_1 := rfl
def C26_0 : ACode := .seq (.reg L26_5) .ret
theorem u26_0 : VC C26_0.eq_1 := rfl
def C26_1 : ACode := .cond (.t 10) C26_0 .skip
theorem u26_1 : VC C26_1.eq_1 := rfl
def C26_2 : ACode := .seq (.reg L26_4) C26_1
theorem u26_2 : VC C26_2.eq_1 := rfl
def C26_3 : ACode := .seq (.reg L26_9) .ret
theorem u26_3 : VC C26_3.eq_1 := rfl
def C26_4 : ACode := .cond (.t 16) C26_3 .skip
theorem u26_4 : VC C26_4.eq_1 := rfl
def C26_5 : ACode := .seq (.reg L26_8) C26_4
theorem u26_5 : VC C26_5.eq_1 := rfl
def C26_6 : ACode := .seq (.reg L26_10) .ret
theorem u26_6 : VC C26_6.eq_1 := rfl
def C26_7 : ACode := .seq C26_5 C26_6
theorem u26_7 : VC C26_7.eq_1 := rfl
def C26_8 : ACode := .seq C26_2 C26_7
theorem u26_8 : VC C26_8.eq_1 := rfl
def C26_9 : ACode := .seq (.reg L26_1) C26_8
theorem u26_9 : VC C26_9.eq_1 := rfl
def F26 : AFunc := ⟨17, [.tmp 4], C26_9⟩
theorem cF26 : compB Try.prog 26 = some F26 := by kernel_rfl
attribute [local go_sem ↓] u26_0 u26_1 u26_2 u26_3 u26_4 u26_5 u26_6 u26_7 u26_8 u26_9 v26_0 v26_1 v26_2 v26_3 v26_4 v26_5 v26_6 v26_7 v26_8 v26_9 v26_10
theorem c_eqFlat (f g : Flat) (pv nv pw nw : CV) (h : H) (hp : SlI h (.one pv) f.pl) (hq : SlP h (.one nv) f.nl) (kp : SlI h (.one pw) g.pl) (kq : SlP h (.one nw) g.nl) (h1 : f.pl.length ≤ big) (h2 : f.nl.length ≤ big) :
    bm Try.prog 26 [.agg [pv, nv], .agg [pw, nw]] h = some (ib (decide (f = g)), h) := by
  refine bm_eq cF26 ?_
  obtain ⟨fp, fn⟩ := f
  obtain ⟨gp, gn⟩ := g
  simp +contextual (maxSteps := 2000000) only [go_sem, Nat.reduceEqDiff, reduceCtorEq, Nat.reduceAdd, Nat.reduceLeDiff, F26, c_eqIntS _ _ _ _ _ hp kp h1, c_eqPairS _ _ _ _ _ hq kq h2, Flat.mk.injEq]
  try ((repeat' (first | refine And.intro ?_ ?_ | intro _)) <;> first | simp_all)
end Go.Proofs.Ytdalgphpacikkab.Am
