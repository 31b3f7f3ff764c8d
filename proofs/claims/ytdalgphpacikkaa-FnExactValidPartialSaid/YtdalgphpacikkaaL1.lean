/- Contracts of the laws: comparisons. -/
import Derived.Test.YtdalgphpacikkaaDat
namespace Go.Proofs.Ytdalgphpacikkaa.Am
open Go
set_option maxRecDepth 100000
set_option maxHeartbeats 4000000
set_option linter.unusedSimpArgs false
set_option linter.unusedVariables false
attribute [local go_sem ↓] bv_t bv_c ev_t ev_c put_same put_ne put_none kill_at pro_at lb_same lb_ne start_zero start_succ wpC_seq wpC_reg wpC_cond wpC_block wpC_skip wpC_exit wpC_ret thenQ_normal thenQ_exit thenQ_ret inBlk_normal inBlk_exit inBlk_ret wpS_nil wpS_step wpS_again wpS_guard wpO_mov wpO_load wpO_faddr wpO_nilCheck wpO_pick wpO_build wpO_bin wpO_eqb wpO_eqst wpO_eqnil wpO_not wpO_conv wpO_bytesStr wpO_iaddr wpO_idxStr wpO_field wpO_extract wpO_len wpO_lenStr wpO_cap wpO_min wpO_slice wpO_sliceStr wpO_alloc wpO_box wpO_store wpO_call wpO_callv wpO_mkfn wpO_buildSlice wpO_mkslice wpO_append wpO_appz proA_nil proA_cons tmpX_nil tmpX_tmp tmpX_cell doneB_normal doneB_ret agK_cons agK_nil agK_guard agG_tt agG_ff agG_tf agG_ft agG_undef pureB_load results_one results_two results_nil resBs_cons resBs_nil resB_tmp resB_cell
attribute [local go_sem] kill_v kill_lp_ne kill_lp_same pro_v pro_lp_same pro_lp_ne av_v av_lp optB_some optX_some valX_eq ldX_lp ldX_v faX_lp faX_v ncX_lp ncX_ptr ncX_fn boxK_one boxK_agg stL_some stK_lp_one stK_lp_agg stK_v_one stK_v_agg proM_v proM_lp callG_mk callVG_mk callvK_fn fnG_mk ptrsA_nil ptrsA_cons callH_some whenA_true whenA_false guardH_tt guardH_ff guardH_tf guardH_ft guardH_undef agV_one agV_agg lenO_sl lenStrO_str notO_bool pickO_bool convO_int eqbO_bool eqnilO_sl extractO_tup capO_sl minO_int loadL_one loadL_all storeL_eq fillA_nil fillA_one fillA_agg nat_ge neg_ge nat_lt neg_lt buildO bin_add bin_sub bin_mul bin_eql bin_neq bin_lss bin_leq bin_gtr bin_geq str_eql str_neq str_lss str_leq str_gtr str_geq retK_some endK_mk gcK_same gcK_int gcK_bool tupO_one tupO_agg rdy_self ib ii Option.map_none Option.map_some Option.some.injEq exists_eq_left' exists_eq_left ne_eq not_false_eq_true if_true if_false List.map_cons List.map_nil List.getElem?_cons_zero List.getElem?_cons_succ List.length_cons List.length_nil List.take_succ_cons List.take_zero List.take_nil List.drop_succ_cons List.drop_zero List.drop_nil List.cons_append List.nil_append List.append_nil List.set_cons_zero List.set_cons_succ Nat.zero_add forall_const true_and and_true and_self Bool.false_eq_true false_implies true_implies implies_true Bool.not_true Bool.not_false Bool.not_eq_true' Bool.not_eq_false' beq_self_eq_true Bool.bne_true Bool.bne_false
attribute [local go_sem] lenI lenS lenP lenQ lenB lenL lenT encI_0 encS_0 encP_0 encP_1 encQ_0 encQ_1 encQ_2 encQ_3 encB_0 encB_1 encL_0 encL_1 encT_0 encT_1
attribute [local go_sem low] whenA_bool guardH_bool
/-! laws.eqParam -/
def L80_0 : List AStep := [⟨.mov (.c (.bool false)), (some 4), none, []⟩]
theorem v80_0 : VS L80_0.eq_1 := rfl
def L80_1 : List AStep := ⟨.box 100 (.t 0), (some 2), none, []⟩ :: ⟨.box 100 (.t 1), (some 3), none, []⟩ :: L80_0
theorem v80_1 : VS L80_1.eq_1 := rfl
def L80_2 : List AStep := [⟨.bin .neq (.t 6) (.t 8), (some 9), none, []⟩]
theorem v80_2 : VS L80_2.eq_1 := rfl
def L80_3 : List AStep := ⟨.faddr 0 (.t 3), (some 7), none, []⟩ :: ⟨.load 1 false (.t 7), (some 8), none, []⟩ :: L80_2
theorem v80_3 : VS L80_3.eq_1 := rfl
def L80_4 : List AStep := ⟨.faddr 0 (.t 2), (some 5), none, []⟩ :: ⟨.load 1 false (.t 5), (some 6), none, []⟩ :: L80_3
theorem v80_4 : VS L80_4.eq_1 := rfl
def L80_5 : List AStep := [⟨.mov (.c (.bool false)), (some 4), none, []⟩]
theorem v80_5 : VS L80_5.eq_1 := rfl
def L80_6 : List AStep := [⟨.bin .neq (.t 11) (.t 13), (some 14), none, []⟩]
theorem v80_6 : VS L80_6.eq_1 := rfl
def L80_7 : List AStep := ⟨.faddr 1 (.t 3), (some 12), none, []⟩ :: ⟨.load 1 false (.t 12), (some 13), none, []⟩ :: L80_6
theorem v80_7 : VS L80_7.eq_1 := rfl
def L80_8 : List AStep := ⟨.faddr 1 (.t 2), (some 10), none, []⟩ :: ⟨.load 1 false (.t 10), (some 11), none, []⟩ :: L80_7
theorem v80_8 : VS L80_8.eq_1 := rfl
def L80_9 : List AStep := [⟨.mov (.c (.bool false)), (some 4), none, []⟩]
theorem v80_9 : VS L80_9.eq_1 := rfl
def L80_10 : List AStep := [⟨.eqb true (.t 16) (.t 18), (some 19), none, []⟩]
theorem v80_10 : VS L80_10.eq_1 := rfl
def L80_11 : List AStep := ⟨.faddr 2 (.t 3), (some 17), none, []⟩ :: ⟨.load 1 false (.t 17), (some 18), none, []⟩ :: L80_10
theorem v80_11 : VS L80_11.eq_1 := rfl
def L80_12 : List AStep := ⟨.faddr 2 (.t 2), (some 15), none, []⟩ :: ⟨.load 1 false (.t 15), (some 16), none, []⟩ :: L80_11
theorem v80_12 : VS L80_12.eq_1 := rfl
def L80_13 : List AStep := [⟨.mov (.c (.bool false)), (some 4), none, []⟩]
theorem v80_13 : VS L80_13.eq_1 := rfl
def L80_14 : List AStep := [⟨.bin .neq (.t 21) (.t 23), (some 24), none, []⟩]
theorem v80_14 : VS L80_14.eq_1 := rfl
def L80_15 : List AStep := ⟨.faddr 3 (.t 3), (some 22), none, []⟩ :: ⟨.load 1 false (.t 22), (some 23), none, []⟩ :: L80_14
theorem v80_15 : VS L80_15.eq_1 := rfl
def L80_16 : List AStep := ⟨.faddr 3 (.t 2), (some 20), none, []⟩ :: ⟨.load 1 false (.t 20), (some 21), none, []⟩ :: L80_15
theorem v80_16 : VS L80_16.eq_1 := rfl
def L80_17 : List AStep := [⟨.mov (.c (.bool false)), (some 4), none, []⟩]
theorem v80_17 : VS L80_17.eq_1 := rfl
def L80_18 : List AStep := [⟨.mov (.c (.bool true)), (some 4), none, []⟩]
theorem v80_18 : VS L80_18.eq_1 := rfl
def C80_0 : ACode := .seq (.reg L80_5) .ret
theorem u80_0 : VC C80_0.eq_1 := rfl
def C80_1 : ACode := .cond (.t 9) C80_0 .skip
theorem u80_1 : VC C80_1.eq_1 := rfl
def C80_2 : ACode := .seq (.reg L80_4) C80_1
theorem u80_2 : VC C80_2.eq_1 := rfl
def C80_3 : ACode := .seq (.reg L80_9) .ret
theorem u80_3 : VC C80_3.eq_1 := rfl
def C80_4 : ACode := .cond (.t 14) C80_3 .skip
theorem u80_4 : VC C80_4.eq_1 := rfl
def C80_5 : ACode := .seq (.reg L80_8) C80_4
theorem u80_5 : VC C80_5.eq_1 := rfl
def C80_6 : ACode := .seq (.reg L80_13) .ret
theorem u80_6 : VC C80_6.eq_1 := rfl
def C80_7 : ACode := .cond (.t 19) C80_6 .skip
theorem u80_7 : VC C80_7.eq_1 := rfl
def C80_8 : ACode := .seq (.reg L80_12) C80_7
theorem u80_8 : VC C80_8.eq_1 := rfl
def C80_9 : ACode := .seq (.reg L80_17) .ret
theorem u80_9 : VC C80_9.eq_1 := rfl
def C80_10 : ACode := .cond (.t 24) C80_9 .skip
theorem u80_10 : VC C80_10.eq_1 := rfl
def C80_11 : ACode := .seq (.reg L80_16) C80_10
theorem u80_11 : VC C80_11.eq_1 := rfl
def C80_12 : ACode := .seq (.reg L80_18) .ret
theorem u80_12 : VC C80_12.eq_1 := rfl
def C80_13 : ACode := .seq C80_11 C80_12
theorem u80_13 : VC C80_13.eq_1 := rfl
def C80_14 : ACode := .seq C80_8 C80_13
theorem u80_14 : VC C80_14.eq_1 := rfl
def C80_15 : ACode := .seq C80_5 C80_14
theorem u80_15 : VC C80_15.eq_1 := rfl
def C80_16 : ACode := .seq C80_2 C80_15
theorem u80_16 : VC C80_16.eq_1 := rfl
def C80_17 : ACode := .seq (.reg L80_1) C80_16
theorem u80_17 : VC C80_17.eq_1 := rfl
def F80 : AFunc := ⟨25, [.tmp 4], C80_17⟩
theorem cF80 : compB Try.prog 80 = some F80 := by kernel_rfl
attribute [local go_sem ↓] u80_0 u80_1 u80_2 u80_3 u80_4 u80_5 u80_6 u80_7 u80_8 u80_9 u80_10 u80_11 u80_12 u80_13 u80_14 u80_15 u80_16 u80_17 v80_0 v80_1 v80_2 v80_3 v80_4 v80_5 v80_6 v80_7 v80_8 v80_9 v80_10 v80_11 v80_12 v80_13 v80_14 v80_15 v80_16 v80_17 v80_18
theorem c_eqParam (p q : Param) (h : H) : bm Try.prog 80 [.agg (encQ p), .agg (encQ q)] h = some (ib (decide (p = q)), h) := by
  refine bm_eq cF80 ?_
  obtain ⟨n1, k1, d1, v1⟩ := p
  obtain ⟨n2, k2, d2, v2⟩ := q
  simp +contextual (maxSteps := 2000000) only [go_sem, Nat.reduceEqDiff, reduceCtorEq, Nat.reduceAdd, Nat.reduceLeDiff, F80, Param.mk.injEq]
  try ((repeat' (first | refine And.intro ?_ ?_ | intro _)) <;> first | simp_all)
/-! laws.eqPair -/
def L81_0 : List AStep := [⟨.mov (.c (.bool false)), (some 4), none, []⟩]
theorem v81_0 : VS L81_0.eq_1 := rfl
def L81_1 : List AStep := ⟨.box 98 (.t 0), (some 2), none, []⟩ :: ⟨.box 98 (.t 1), (some 3), none, []⟩ :: L81_0
theorem v81_1 : VS L81_1.eq_1 := rfl
def L81_2 : List AStep := [⟨.bin .neq (.t 6) (.t 8), (some 9), none, []⟩]
theorem v81_2 : VS L81_2.eq_1 := rfl
def L81_3 : List AStep := ⟨.faddr 0 (.t 3), (some 7), none, []⟩ :: ⟨.load 1 false (.t 7), (some 8), none, []⟩ :: L81_2
theorem v81_3 : VS L81_3.eq_1 := rfl
def L81_4 : List AStep := ⟨.faddr 0 (.t 2), (some 5), none, []⟩ :: ⟨.load 1 false (.t 5), (some 6), none, []⟩ :: L81_3
theorem v81_4 : VS L81_4.eq_1 := rfl
def L81_5 : List AStep := [⟨.mov (.c (.bool false)), (some 4), none, []⟩]
theorem v81_5 : VS L81_5.eq_1 := rfl
def L81_6 : List AStep := [⟨.bin .neq (.t 11) (.t 13), (some 14), none, []⟩]
theorem v81_6 : VS L81_6.eq_1 := rfl
def L81_7 : List AStep := ⟨.faddr 1 (.t 3), (some 12), none, []⟩ :: ⟨.load 1 false (.t 12), (some 13), none, []⟩ :: L81_6
theorem v81_7 : VS L81_7.eq_1 := rfl
def L81_8 : List AStep := ⟨.faddr 1 (.t 2), (some 10), none, []⟩ :: ⟨.load 1 false (.t 10), (some 11), none, []⟩ :: L81_7
theorem v81_8 : VS L81_8.eq_1 := rfl
def L81_9 : List AStep := [⟨.mov (.c (.bool false)), (some 4), none, []⟩]
theorem v81_9 : VS L81_9.eq_1 := rfl
def L81_10 : List AStep := [⟨.mov (.c (.bool true)), (some 4), none, []⟩]
theorem v81_10 : VS L81_10.eq_1 := rfl
def C81_0 : ACode := .seq (.reg L81_5) .ret
theorem u81_0 : VC C81_0.eq_1 := rfl
def C81_1 : ACode := .cond (.t 9) C81_0 .skip
theorem u81_1 : VC C81_1.eq_1 := rfl
def C81_2 : ACode := .seq (.reg L81_4) C81_1
theorem u81_2 : VC C81_2.eq_1 := rfl
def C81_3 : ACode := .seq (.reg L81_9) .ret
theorem u81_3 : VC C81_3.eq_1 := rfl
def C81_4 : ACode := .cond (.t 14) C81_3 .skip
theorem u81_4 : VC C81_4.eq_1 := rfl
def C81_5 : ACode := .seq (.reg L81_8) C81_4
theorem u81_5 : VC C81_5.eq_1 := rfl
def C81_6 : ACode := .seq (.reg L81_10) .ret
theorem u81_6 : VC C81_6.eq_1 := rfl
def C81_7 : ACode := .seq C81_5 C81_6
theorem u81_7 : VC C81_7.eq_1 := rfl
def C81_8 : ACode := .seq C81_2 C81_7
theorem u81_8 : VC C81_8.eq_1 := rfl
def C81_9 : ACode := .seq (.reg L81_1) C81_8
theorem u81_9 : VC C81_9.eq_1 := rfl
def F81 : AFunc := ⟨15, [.tmp 4], C81_9⟩
theorem cF81 : compB Try.prog 81 = some F81 := by kernel_rfl
attribute [local go_sem ↓] u81_0 u81_1 u81_2 u81_3 u81_4 u81_5 u81_6 u81_7 u81_8 u81_9 v81_0 v81_1 v81_2 v81_3 v81_4 v81_5 v81_6 v81_7 v81_8 v81_9 v81_10
theorem c_eqPair (p q : Pair) (h : H) : bm Try.prog 81 [.agg (encP p), .agg (encP q)] h = some (ib (decide (p = q)), h) := by
  refine bm_eq cF81 ?_
  obtain ⟨n1, k1⟩ := p
  obtain ⟨n2, k2⟩ := q
  simp +contextual (maxSteps := 2000000) only [go_sem, Nat.reduceEqDiff, reduceCtorEq, Nat.reduceAdd, Nat.reduceLeDiff, F81, Pair.mk.injEq]
  try ((repeat' (first | refine And.intro ?_ ?_ | intro _)) <;> first | simp_all)
/-! laws.eqProblem -/
def L58_0 : List AStep := [⟨.mov (.c (.bool false)), (some 4), none, []⟩]
theorem v58_0 : VS L58_0.eq_1 := rfl
def L58_1 : List AStep := ⟨.box 82 (.t 0), (some 2), none, []⟩ :: ⟨.box 82 (.t 1), (some 3), none, []⟩ :: L58_0
theorem v58_1 : VS L58_1.eq_1 := rfl
def L58_2 : List AStep := [⟨.bin .neq (.t 6) (.t 8), (some 9), none, []⟩]
theorem v58_2 : VS L58_2.eq_1 := rfl
def L58_3 : List AStep := ⟨.faddr 0 (.t 3), (some 7), none, []⟩ :: ⟨.load 1 false (.t 7), (some 8), none, []⟩ :: L58_2
theorem v58_3 : VS L58_3.eq_1 := rfl
def L58_4 : List AStep := ⟨.faddr 0 (.t 2), (some 5), none, []⟩ :: ⟨.load 1 false (.t 5), (some 6), none, []⟩ :: L58_3
theorem v58_4 : VS L58_4.eq_1 := rfl
def L58_5 : List AStep := [⟨.mov (.c (.bool false)), (some 4), none, []⟩]
theorem v58_5 : VS L58_5.eq_1 := rfl
def L58_6 : List AStep := [⟨.bin .neq (.t 11) (.t 13), (some 14), none, []⟩]
theorem v58_6 : VS L58_6.eq_1 := rfl
def L58_7 : List AStep := ⟨.faddr 1 (.t 3), (some 12), none, []⟩ :: ⟨.load 1 false (.t 12), (some 13), none, []⟩ :: L58_6
theorem v58_7 : VS L58_7.eq_1 := rfl
def L58_8 : List AStep := ⟨.faddr 1 (.t 2), (some 10), none, []⟩ :: ⟨.load 1 false (.t 10), (some 11), none, []⟩ :: L58_7
theorem v58_8 : VS L58_8.eq_1 := rfl
def L58_9 : List AStep := [⟨.mov (.c (.bool false)), (some 4), none, []⟩]
theorem v58_9 : VS L58_9.eq_1 := rfl
def L58_10 : List AStep := [⟨.mov (.c (.bool true)), (some 4), none, []⟩]
theorem v58_10 : VS L58_10.eq_1 := rfl
def C58_0 : ACode := .seq (.reg L58_5) .ret
theorem u58_0 : VC C58_0.eq_1 := rfl
def C58_1 : ACode := .cond (.t 9) C58_0 .skip
theorem u58_1 : VC C58_1.eq_1 := rfl
def C58_2 : ACode := .seq (.reg L58_4) C58_1
theorem u58_2 : VC C58_2.eq_1 := rfl
def C58_3 : ACode := .seq (.reg L58_9) .ret
theorem u58_3 : VC C58_3.eq_1 := rfl
def C58_4 : ACode := .cond (.t 14) C58_3 .skip
theorem u58_4 : VC C58_4.eq_1 := rfl
def C58_5 : ACode := .seq (.reg L58_8) C58_4
theorem u58_5 : VC C58_5.eq_1 := rfl
def C58_6 : ACode := .seq (.reg L58_10) .ret
theorem u58_6 : VC C58_6.eq_1 := rfl
def C58_7 : ACode := .seq C58_5 C58_6
theorem u58_7 : VC C58_7.eq_1 := rfl
def C58_8 : ACode := .seq C58_2 C58_7
theorem u58_8 : VC C58_8.eq_1 := rfl
def C58_9 : ACode := .seq (.reg L58_1) C58_8
theorem u58_9 : VC C58_9.eq_1 := rfl
def F58 : AFunc := ⟨15, [.tmp 4], C58_9⟩
theorem cF58 : compB Try.prog 58 = some F58 := by kernel_rfl
attribute [local go_sem ↓] u58_0 u58_1 u58_2 u58_3 u58_4 u58_5 u58_6 u58_7 u58_8 u58_9 v58_0 v58_1 v58_2 v58_3 v58_4 v58_5 v58_6 v58_7 v58_8 v58_9 v58_10
theorem c_eqProblem (p q : Problem) (h : H) : bm Try.prog 58 [.agg (encB p), .agg (encB q)] h = some (ib (decide (p = q)), h) := by
  refine bm_eq cF58 ?_
  obtain ⟨n1, k1⟩ := p
  obtain ⟨n2, k2⟩ := q
  simp +contextual (maxSteps := 2000000) only [go_sem, Nat.reduceEqDiff, reduceCtorEq, Nat.reduceAdd, Nat.reduceLeDiff, F58, Problem.mk.injEq]
  try ((repeat' (first | refine And.intro ?_ ?_ | intro _)) <;> first | simp_all)
/-! laws.eqIntS -/
def L48_0 : List AStep := [⟨.mov (.c (.bool false)), (some 4), none, []⟩]
theorem v48_0 : VS L48_0.eq_1 := rfl
def L48_1 : List AStep := [⟨.bin .neq (.t 7) (.t 9), (some 10), none, []⟩]
theorem v48_1 : VS L48_1.eq_1 := rfl
def L48_2 : List AStep := ⟨.mov (.t 1), (some 8), none, []⟩ :: ⟨.len (.t 8), (some 9), none, []⟩ :: L48_1
theorem v48_2 : VS L48_2.eq_1 := rfl
def L48_3 : List AStep := ⟨.mov (.t 0), (some 6), none, []⟩ :: ⟨.len (.t 6), (some 7), none, []⟩ :: L48_2
theorem v48_3 : VS L48_3.eq_1 := rfl
def L48_4 : List AStep := [⟨.mov (.c (.bool false)), (some 4), none, []⟩]
theorem v48_4 : VS L48_4.eq_1 := rfl
def L48_5 : List AStep := [⟨.mov (.c (.int .i64 0)), (some 5), none, []⟩]
theorem v48_5 : VS L48_5.eq_1 := rfl
def L48_6 : List AStep := [⟨.len (.t 12), (some 13), none, []⟩, ⟨.bin .lss (.t 11) (.t 13), (some 14), none, []⟩]
theorem v48_6 : VS L48_6.eq_1 := rfl
def L48_7 : List AStep := ⟨.mov (.t 5), (some 11), none, []⟩ :: ⟨.mov (.t 0), (some 12), none, []⟩ :: L48_6
theorem v48_7 : VS L48_7.eq_1 := rfl
def L48_8 : List AStep := [⟨.bin .neq (.t 20) (.t 24), (some 25), none, []⟩]
theorem v48_8 : VS L48_8.eq_1 := rfl
def L48_9 : List AStep := ⟨.iaddr 1 (.t 21) (.t 22), (some 23), none, []⟩ :: ⟨.load 1 false (.t 23), (some 24), none, []⟩ :: L48_8
theorem v48_9 : VS L48_9.eq_1 := rfl
def L48_10 : List AStep := ⟨.mov (.t 1), (some 21), none, []⟩ :: ⟨.mov (.t 5), (some 22), none, []⟩ :: L48_9
theorem v48_10 : VS L48_10.eq_1 := rfl
def L48_11 : List AStep := ⟨.iaddr 1 (.t 17) (.t 18), (some 19), none, []⟩ :: ⟨.load 1 false (.t 19), (some 20), none, []⟩ :: L48_10
theorem v48_11 : VS L48_11.eq_1 := rfl
def L48_12 : List AStep := ⟨.mov (.t 0), (some 17), none, []⟩ :: ⟨.mov (.t 5), (some 18), none, []⟩ :: L48_11
theorem v48_12 : VS L48_12.eq_1 := rfl
def L48_13 : List AStep := [⟨.mov (.c (.bool false)), (some 4), none, []⟩]
theorem v48_13 : VS L48_13.eq_1 := rfl
def L48_14 : List AStep := [⟨.mov (.t 16), (some 5), none, []⟩]
theorem v48_14 : VS L48_14.eq_1 := rfl
def L48_15 : List AStep := ⟨.mov (.t 5), (some 15), none, []⟩ :: ⟨.bin .add (.t 15) (.c (.int .i64 1)), (some 16), none, []⟩ :: L48_14
theorem v48_15 : VS L48_15.eq_1 := rfl
def L48_16 : List AStep := [⟨.mov (.c (.bool true)), (some 4), none, []⟩]
theorem v48_16 : VS L48_16.eq_1 := rfl
def C48_0 : ACode := .seq (.reg L48_4) .ret
theorem u48_0 : VC C48_0.eq_1 := rfl
def C48_1 : ACode := .cond (.t 10) C48_0 .skip
theorem u48_1 : VC C48_1.eq_1 := rfl
def C48_2 : ACode := .seq (.reg L48_3) C48_1
theorem u48_2 : VC C48_2.eq_1 := rfl
def C48_3 : ACode := .cond (.t 14) .skip (.exit 0)
theorem u48_3 : VC C48_3.eq_1 := rfl
def C48_4 : ACode := .seq (.reg L48_7) C48_3
theorem u48_4 : VC C48_4.eq_1 := rfl
def C48_5 : ACode := .seq (.reg L48_13) .ret
theorem u48_5 : VC C48_5.eq_1 := rfl
def C48_6 : ACode := .cond (.t 25) C48_5 .skip
theorem u48_6 : VC C48_6.eq_1 := rfl
def C48_7 : ACode := .seq (.reg L48_12) C48_6
theorem u48_7 : VC C48_7.eq_1 := rfl
def C48_8 : ACode := .block 1 C48_7
theorem u48_8 : VC C48_8.eq_1 := rfl
def C48_9 : ACode := .seq C48_8 (.reg L48_15)
theorem u48_9 : VC C48_9.eq_1 := rfl
def C48_10 : ACode := .seq C48_4 C48_9
theorem u48_10 : VC C48_10.eq_1 := rfl
def C48_11 : ACode := .block 0 (.loop C48_10)
theorem u48_11 : VC C48_11.eq_1 := rfl
def C48_12 : ACode := .seq (.reg L48_5) C48_11
theorem u48_12 : VC C48_12.eq_1 := rfl
def C48_13 : ACode := .seq (.reg L48_16) .ret
theorem u48_13 : VC C48_13.eq_1 := rfl
def C48_14 : ACode := .seq C48_12 C48_13
theorem u48_14 : VC C48_14.eq_1 := rfl
def C48_15 : ACode := .seq C48_2 C48_14
theorem u48_15 : VC C48_15.eq_1 := rfl
def C48_16 : ACode := .seq (.reg L48_0) C48_15
theorem u48_16 : VC C48_16.eq_1 := rfl
def F48 : AFunc := ⟨26, [.tmp 4], C48_16⟩
theorem cF48 : compB Try.prog 48 = some F48 := by kernel_rfl
attribute [local go_sem ↓] u48_0 u48_1 u48_2 u48_3 u48_4 u48_5 u48_6 u48_7 u48_8 u48_9 u48_10 u48_11 u48_12 u48_13 u48_14 u48_15 u48_16 v48_0 v48_1 v48_2 v48_3 v48_4 v48_5 v48_6 v48_7 v48_8 v48_9 v48_10 v48_11 v48_12 v48_13 v48_14 v48_15 v48_16
theorem c_eqIntS (l m : List Int) (v w : AV) (h : H) (hl : SlI h v l) (hm : SlI h w m) (hn : l.length ≤ big) : bm Try.prog 48 [v, w] h = some (ib (decide (l = m)), h) := by
  refine bm_eq cF48 ?_
  by_cases hlen : l.length = m.length
  case neg =>
    have e1 : decide ((l.length : Int) = (m.length : Int)) = false := decide_eq_false (by omega)
    simp +contextual (maxSteps := 2000000) only [go_sem, Nat.reduceEqDiff, reduceCtorEq, Nat.reduceAdd, Nat.reduceLeDiff, F48, hl.len, hm.len, e1]
    rw [ne_len e1]
  have e1 : decide ((l.length : Int) = (m.length : Int)) = true := decide_eq_true (by omega)
  simp +contextual (maxSteps := 2000000) only [go_sem, Nat.reduceEqDiff, reduceCtorEq, Nat.reduceAdd, Nat.reduceLeDiff, F48, hl.len, hm.len, e1]
  refine wpC_loop (fun i T L h' => h' = h ∧ T 0 = .v v ∧ T 1 = .v w ∧ T 5 = .v (.one (.int .i64 i)) ∧ Upto (eqAt l m) i) l.length ?_ ?_ (Nat.zero_le _) ?_
  · rintro i T L h' hi ⟨rfl, t0, t1, t5, hu⟩
    have him : i < m.length := by omega
    have e2 := eqAt_eq hi him
    simp +contextual (maxSteps := 2000000) only [go_sem, Nat.reduceEqDiff, reduceCtorEq, Nat.reduceAdd, Nat.reduceLeDiff, t0, t1, t5, hl.len, hm.len, hl.iaddr hi, hm.iaddr him, hl.oneO hi, hm.oneO him, lt_true hi]
    (repeat' (first | refine And.intro ?_ ?_ | intro _)) <;> first | rfl | rw [wrap_next hi (big_lt hn)] | (refine hu.next ?_; rw [e2]; (simp_all; done)) | (rw [ne_at (l := l) (m := m) (i := i)]; rw [e2]; (simp_all; done))
  · rintro T L h' ⟨rfl, t0, t1, t5, hu⟩
    simp +contextual (maxSteps := 2000000) only [go_sem, Nat.reduceEqDiff, reduceCtorEq, Nat.reduceAdd, Nat.reduceLeDiff, t0, t1, t5, hl.len, hm.len, lt_false, decide_eq_true (eq_of_upto hlen hu)]
  · simp +contextual (maxSteps := 2000000) only [go_sem, Nat.reduceEqDiff, reduceCtorEq, Nat.reduceAdd, Nat.reduceLeDiff]
    (repeat' (first | refine And.intro ?_ ?_ | intro _)) <;> first | rfl | exact Upto.zero
/-! laws.eqParamS -/
def L47_0 : List AStep := [⟨.mov (.c (.bool false)), (some 4), none, []⟩]
theorem v47_0 : VS L47_0.eq_1 := rfl
def L47_1 : List AStep := [⟨.bin .neq (.t 7) (.t 9), (some 10), none, []⟩]
theorem v47_1 : VS L47_1.eq_1 := rfl
def L47_2 : List AStep := ⟨.mov (.t 1), (some 8), none, []⟩ :: ⟨.len (.t 8), (some 9), none, []⟩ :: L47_1
theorem v47_2 : VS L47_2.eq_1 := rfl
def L47_3 : List AStep := ⟨.mov (.t 0), (some 6), none, []⟩ :: ⟨.len (.t 6), (some 7), none, []⟩ :: L47_2
theorem v47_3 : VS L47_3.eq_1 := rfl
def L47_4 : List AStep := [⟨.mov (.c (.bool false)), (some 4), none, []⟩]
theorem v47_4 : VS L47_4.eq_1 := rfl
def L47_5 : List AStep := [⟨.mov (.c (.int .i64 0)), (some 5), none, []⟩]
theorem v47_5 : VS L47_5.eq_1 := rfl
def L47_6 : List AStep := [⟨.len (.t 12), (some 13), none, []⟩, ⟨.bin .lss (.t 11) (.t 13), (some 14), none, []⟩]
theorem v47_6 : VS L47_6.eq_1 := rfl
def L47_7 : List AStep := ⟨.mov (.t 5), (some 11), none, []⟩ :: ⟨.mov (.t 0), (some 12), none, []⟩ :: L47_6
theorem v47_7 : VS L47_7.eq_1 := rfl
def L47_8 : List AStep := [⟨.call 80 [(.t 20), (.t 24)], (some 25), none, []⟩, ⟨.not (.t 25), (some 26), none, []⟩]
theorem v47_8 : VS L47_8.eq_1 := rfl
def L47_9 : List AStep := ⟨.iaddr 4 (.t 21) (.t 22), (some 23), none, []⟩ :: ⟨.load 4 true (.t 23), (some 24), none, []⟩ :: L47_8
theorem v47_9 : VS L47_9.eq_1 := rfl
def L47_10 : List AStep := ⟨.mov (.t 1), (some 21), none, []⟩ :: ⟨.mov (.t 5), (some 22), none, []⟩ :: L47_9
theorem v47_10 : VS L47_10.eq_1 := rfl
def L47_11 : List AStep := ⟨.iaddr 4 (.t 17) (.t 18), (some 19), none, []⟩ :: ⟨.load 4 true (.t 19), (some 20), none, []⟩ :: L47_10
theorem v47_11 : VS L47_11.eq_1 := rfl
def L47_12 : List AStep := ⟨.mov (.t 0), (some 17), none, []⟩ :: ⟨.mov (.t 5), (some 18), none, []⟩ :: L47_11
theorem v47_12 : VS L47_12.eq_1 := rfl
def L47_13 : List AStep := [⟨.mov (.c (.bool false)), (some 4), none, []⟩]
theorem v47_13 : VS L47_13.eq_1 := rfl
def L47_14 : List AStep := [⟨.mov (.t 16), (some 5), none, []⟩]
theorem v47_14 : VS L47_14.eq_1 := rfl
def L47_15 : List AStep := ⟨.mov (.t 5), (some 15), none, []⟩ :: ⟨.bin .add (.t 15) (.c (.int .i64 1)), (some 16), none, []⟩ :: L47_14
theorem v47_15 : VS L47_15.eq_1 := rfl
def L47_16 : List AStep := [⟨.mov (.c (.bool true)), (some 4), none, []⟩]
theorem v47_16 : VS L47_16.eq_1 := rfl
def C47_0 : ACode := .seq (.reg L47_4) .ret
theorem u47_0 : VC C47_0.eq_1 := rfl
def C47_1 : ACode := .cond (.t 10) C47_0 .skip
theorem u47_1 : VC C47_1.eq_1 := rfl
def C47_2 : ACode := .seq (.reg L47_3) C47_1
theorem u47_2 : VC C47_2.eq_1 := rfl
def C47_3 : ACode := .cond (.t 14) .skip (.exit 0)
theorem u47_3 : VC C47_3.eq_1 := rfl
def C47_4 : ACode := .seq (.reg L47_7) C47_3
theorem u47_4 : VC C47_4.eq_1 := rfl
def C47_5 : ACode := .seq (.reg L47_13) .ret
theorem u47_5 : VC C47_5.eq_1 := rfl
def C47_6 : ACode := .cond (.t 26) C47_5 .skip
theorem u47_6 : VC C47_6.eq_1 := rfl
def C47_7 : ACode := .seq (.reg L47_12) C47_6
theorem u47_7 : VC C47_7.eq_1 := rfl
def C47_8 : ACode := .block 1 C47_7
theorem u47_8 : VC C47_8.eq_1 := rfl
def C47_9 : ACode := .seq C47_8 (.reg L47_15)
theorem u47_9 : VC C47_9.eq_1 := rfl
def C47_10 : ACode := .seq C47_4 C47_9
theorem u47_10 : VC C47_10.eq_1 := rfl
def C47_11 : ACode := .block 0 (.loop C47_10)
theorem u47_11 : VC C47_11.eq_1 := rfl
def C47_12 : ACode := .seq (.reg L47_5) C47_11
theorem u47_12 : VC C47_12.eq_1 := rfl
def C47_13 : ACode := .seq (.reg L47_16) .ret
theorem u47_13 : VC C47_13.eq_1 := rfl
def C47_14 : ACode := .seq C47_12 C47_13
theorem u47_14 : VC C47_14.eq_1 := rfl
def C47_15 : ACode := .seq C47_2 C47_14
theorem u47_15 : VC C47_15.eq_1 := rfl
def C47_16 : ACode := .seq (.reg L47_0) C47_15
theorem u47_16 : VC C47_16.eq_1 := rfl
def F47 : AFunc := ⟨27, [.tmp 4], C47_16⟩
theorem cF47 : compB Try.prog 47 = some F47 := by kernel_rfl
attribute [local go_sem ↓] u47_0 u47_1 u47_2 u47_3 u47_4 u47_5 u47_6 u47_7 u47_8 u47_9 u47_10 u47_11 u47_12 u47_13 u47_14 u47_15 u47_16 v47_0 v47_1 v47_2 v47_3 v47_4 v47_5 v47_6 v47_7 v47_8 v47_9 v47_10 v47_11 v47_12 v47_13 v47_14 v47_15 v47_16
theorem c_eqParamS (l m : List Param) (v w : AV) (h : H) (hl : SlQ h v l) (hm : SlQ h w m) (hn : l.length ≤ big) : bm Try.prog 47 [v, w] h = some (ib (decide (l = m)), h) := by
  refine bm_eq cF47 ?_
  by_cases hlen : l.length = m.length
  case neg =>
    have e1 : decide ((l.length : Int) = (m.length : Int)) = false := decide_eq_false (by omega)
    simp +contextual (maxSteps := 2000000) only [go_sem, Nat.reduceEqDiff, reduceCtorEq, Nat.reduceAdd, Nat.reduceLeDiff, F47, hl.len, hm.len, e1]
    rw [ne_len e1]
  have e1 : decide ((l.length : Int) = (m.length : Int)) = true := decide_eq_true (by omega)
  simp +contextual (maxSteps := 2000000) only [go_sem, Nat.reduceEqDiff, reduceCtorEq, Nat.reduceAdd, Nat.reduceLeDiff, F47, hl.len, hm.len, e1]
  refine wpC_loop (fun i T L h' => h' = h ∧ T 0 = .v v ∧ T 1 = .v w ∧ T 5 = .v (.one (.int .i64 i)) ∧ Upto (eqAt l m) i) l.length ?_ ?_ (Nat.zero_le _) ?_
  · rintro i T L h' hi ⟨rfl, t0, t1, t5, hu⟩
    have him : i < m.length := by omega
    have e2 := eqAt_eq hi him
    simp +contextual (maxSteps := 2000000) only [go_sem, Nat.reduceEqDiff, reduceCtorEq, Nat.reduceAdd, Nat.reduceLeDiff, t0, t1, t5, hl.len, hm.len, hl.iaddr hi, hm.iaddr him, hl.whole hi, hm.whole him, c_eqParam, lt_true hi]
    (repeat' (first | refine And.intro ?_ ?_ | intro _)) <;> first | rfl | rw [wrap_next hi (big_lt hn)] | (refine hu.next ?_; rw [e2]; (simp_all; done)) | (rw [ne_at (l := l) (m := m) (i := i)]; rw [e2]; (simp_all; done))
  · rintro T L h' ⟨rfl, t0, t1, t5, hu⟩
    simp +contextual (maxSteps := 2000000) only [go_sem, Nat.reduceEqDiff, reduceCtorEq, Nat.reduceAdd, Nat.reduceLeDiff, t0, t1, t5, hl.len, hm.len, lt_false, decide_eq_true (eq_of_upto hlen hu)]
  · simp +contextual (maxSteps := 2000000) only [go_sem, Nat.reduceEqDiff, reduceCtorEq, Nat.reduceAdd, Nat.reduceLeDiff]
    (repeat' (first | refine And.intro ?_ ?_ | intro _)) <;> first | rfl | exact Upto.zero
/-! laws.eqPairS -/
def L49_0 : List AStep := [⟨.mov (.c (.bool false)), (some 4), none, []⟩]
theorem v49_0 : VS L49_0.eq_1 := rfl
def L49_1 : List AStep := [⟨.bin .neq (.t 7) (.t 9), (some 10), none, []⟩]
theorem v49_1 : VS L49_1.eq_1 := rfl
def L49_2 : List AStep := ⟨.mov (.t 1), (some 8), none, []⟩ :: ⟨.len (.t 8), (some 9), none, []⟩ :: L49_1
theorem v49_2 : VS L49_2.eq_1 := rfl
def L49_3 : List AStep := ⟨.mov (.t 0), (some 6), none, []⟩ :: ⟨.len (.t 6), (some 7), none, []⟩ :: L49_2
theorem v49_3 : VS L49_3.eq_1 := rfl
def L49_4 : List AStep := [⟨.mov (.c (.bool false)), (some 4), none, []⟩]
theorem v49_4 : VS L49_4.eq_1 := rfl
def L49_5 : List AStep := [⟨.mov (.c (.int .i64 0)), (some 5), none, []⟩]
theorem v49_5 : VS L49_5.eq_1 := rfl
def L49_6 : List AStep := [⟨.len (.t 12), (some 13), none, []⟩, ⟨.bin .lss (.t 11) (.t 13), (some 14), none, []⟩]
theorem v49_6 : VS L49_6.eq_1 := rfl
def L49_7 : List AStep := ⟨.mov (.t 5), (some 11), none, []⟩ :: ⟨.mov (.t 0), (some 12), none, []⟩ :: L49_6
theorem v49_7 : VS L49_7.eq_1 := rfl
def L49_8 : List AStep := [⟨.call 81 [(.t 20), (.t 24)], (some 25), none, []⟩, ⟨.not (.t 25), (some 26), none, []⟩]
theorem v49_8 : VS L49_8.eq_1 := rfl
def L49_9 : List AStep := ⟨.iaddr 2 (.t 21) (.t 22), (some 23), none, []⟩ :: ⟨.load 2 true (.t 23), (some 24), none, []⟩ :: L49_8
theorem v49_9 : VS L49_9.eq_1 := rfl
def L49_10 : List AStep := ⟨.mov (.t 1), (some 21), none, []⟩ :: ⟨.mov (.t 5), (some 22), none, []⟩ :: L49_9
theorem v49_10 : VS L49_10.eq_1 := rfl
def L49_11 : List AStep := ⟨.iaddr 2 (.t 17) (.t 18), (some 19), none, []⟩ :: ⟨.load 2 true (.t 19), (some 20), none, []⟩ :: L49_10
theorem v49_11 : VS L49_11.eq_1 := rfl
def L49_12 : List AStep := ⟨.mov (.t 0), (some 17), none, []⟩ :: ⟨.mov (.t 5), (some 18), none, []⟩ :: L49_11
theorem v49_12 : VS L49_12.eq_1 := rfl
def L49_13 : List AStep := [⟨.mov (.c (.bool false)), (some 4), none, []⟩]
theorem v49_13 : VS L49_13.eq_1 := rfl
def L49_14 : List AStep := [⟨.mov (.t 16), (some 5), none, []⟩]
theorem v49_14 : VS L49_14.eq_1 := rfl
def L49_15 : List AStep := ⟨.mov (.t 5), (some 15), none, []⟩ :: ⟨.bin .add (.t 15) (.c (.int .i64 1)), (some 16), none, []⟩ :: L49_14
theorem v49_15 : VS L49_15.eq_1 := rfl
def L49_16 : List AStep := [⟨.mov (.c (.bool true)), (some 4), none, []⟩]
theorem v49_16 : VS L49_16.eq_1 := rfl
def C49_0 : ACode := .seq (.reg L49_4) .ret
theorem u49_0 : VC C49_0.eq_1 := rfl
def C49_1 : ACode := .cond (.t 10) C49_0 .skip
theorem u49_1 : VC C49_1.eq_1 := rfl
def C49_2 : ACode := .seq (.reg L49_3) C49_1
theorem u49_2 : VC C49_2.eq_1 := rfl
def C49_3 : ACode := .cond (.t 14) .skip (.exit 0)
theorem u49_3 : VC C49_3.eq_1 := rfl
def C49_4 : ACode := .seq (.reg L49_7) C49_3
theorem u49_4 : VC C49_4.eq_1 := rfl
def C49_5 : ACode := .seq (.reg L49_13) .ret
theorem u49_5 : VC C49_5.eq_1 := rfl
def C49_6 : ACode := .cond (.t 26) C49_5 .skip
theorem u49_6 : VC C49_6.eq_1 := rfl
def C49_7 : ACode := .seq (.reg L49_12) C49_6
theorem u49_7 : VC C49_7.eq_1 := rfl
def C49_8 : ACode := .block 1 C49_7
theorem u49_8 : VC C49_8.eq_1 := rfl
def C49_9 : ACode := .seq C49_8 (.reg L49_15)
theorem u49_9 : VC C49_9.eq_1 := rfl
def C49_10 : ACode := .seq C49_4 C49_9
theorem u49_10 : VC C49_10.eq_1 := rfl
def C49_11 : ACode := .block 0 (.loop C49_10)
theorem u49_11 : VC C49_11.eq_1 := rfl
def C49_12 : ACode := .seq (.reg L49_5) C49_11
theorem u49_12 : VC C49_12.eq_1 := rfl
def C49_13 : ACode := .seq (.reg L49_16) .ret
theorem u49_13 : VC C49_13.eq_1 := rfl
def C49_14 : ACode := .seq C49_12 C49_13
theorem u49_14 : VC C49_14.eq_1 := rfl
def C49_15 : ACode := .seq C49_2 C49_14
theorem u49_15 : VC C49_15.eq_1 := rfl
def C49_16 : ACode := .seq (.reg L49_0) C49_15
theorem u49_16 : VC C49_16.eq_1 := rfl
def F49 : AFunc := ⟨27, [.tmp 4], C49_16⟩
theorem cF49 : compB Try.prog 49 = some F49 := by kernel_rfl
attribute [local go_sem ↓] u49_0 u49_1 u49_2 u49_3 u49_4 u49_5 u49_6 u49_7 u49_8 u49_9 u49_10 u49_11 u49_12 u49_13 u49_14 u49_15 u49_16 v49_0 v49_1 v49_2 v49_3 v49_4 v49_5 v49_6 v49_7 v49_8 v49_9 v49_10 v49_11 v49_12 v49_13 v49_14 v49_15 v49_16
theorem c_eqPairS (l m : List Pair) (v w : AV) (h : H) (hl : SlP h v l) (hm : SlP h w m) (hn : l.length ≤ big) : bm Try.prog 49 [v, w] h = some (ib (decide (l = m)), h) := by
  refine bm_eq cF49 ?_
  by_cases hlen : l.length = m.length
  case neg =>
    have e1 : decide ((l.length : Int) = (m.length : Int)) = false := decide_eq_false (by omega)
    simp +contextual (maxSteps := 2000000) only [go_sem, Nat.reduceEqDiff, reduceCtorEq, Nat.reduceAdd, Nat.reduceLeDiff, F49, hl.len, hm.len, e1]
    rw [ne_len e1]
  have e1 : decide ((l.length : Int) = (m.length : Int)) = true := decide_eq_true (by omega)
  simp +contextual (maxSteps := 2000000) only [go_sem, Nat.reduceEqDiff, reduceCtorEq, Nat.reduceAdd, Nat.reduceLeDiff, F49, hl.len, hm.len, e1]
  refine wpC_loop (fun i T L h' => h' = h ∧ T 0 = .v v ∧ T 1 = .v w ∧ T 5 = .v (.one (.int .i64 i)) ∧ Upto (eqAt l m) i) l.length ?_ ?_ (Nat.zero_le _) ?_
  · rintro i T L h' hi ⟨rfl, t0, t1, t5, hu⟩
    have him : i < m.length := by omega
    have e2 := eqAt_eq hi him
    simp +contextual (maxSteps := 2000000) only [go_sem, Nat.reduceEqDiff, reduceCtorEq, Nat.reduceAdd, Nat.reduceLeDiff, t0, t1, t5, hl.len, hm.len, hl.iaddr hi, hm.iaddr him, hl.whole hi, hm.whole him, c_eqPair, lt_true hi]
    (repeat' (first | refine And.intro ?_ ?_ | intro _)) <;> first | rfl | rw [wrap_next hi (big_lt hn)] | (refine hu.next ?_; rw [e2]; (simp_all; done)) | (rw [ne_at (l := l) (m := m) (i := i)]; rw [e2]; (simp_all; done))
  · rintro T L h' ⟨rfl, t0, t1, t5, hu⟩
    simp +contextual (maxSteps := 2000000) only [go_sem, Nat.reduceEqDiff, reduceCtorEq, Nat.reduceAdd, Nat.reduceLeDiff, t0, t1, t5, hl.len, hm.len, lt_false, decide_eq_true (eq_of_upto hlen hu)]
  · simp +contextual (maxSteps := 2000000) only [go_sem, Nat.reduceEqDiff, reduceCtorEq, Nat.reduceAdd, Nat.reduceLeDiff]
    (repeat' (first | refine And.intro ?_ ?_ | intro _)) <;> first | rfl | exact Upto.zero
/-! laws.eqProblemS -/
def L27_0 : List AStep := [⟨.mov (.c (.bool false)), (some 4), none, []⟩]
theorem v27_0 : VS L27_0.eq_1 := rfl
def L27_1 : List AStep := [⟨.bin .neq (.t 7) (.t 9), (some 10), none, []⟩]
theorem v27_1 : VS L27_1.eq_1 := rfl
def L27_2 : List AStep := ⟨.mov (.t 1), (some 8), none, []⟩ :: ⟨.len (.t 8), (some 9), none, []⟩ :: L27_1
theorem v27_2 : VS L27_2.eq_1 := rfl
def L27_3 : List AStep := ⟨.mov (.t 0), (some 6), none, []⟩ :: ⟨.len (.t 6), (some 7), none, []⟩ :: L27_2
theorem v27_3 : VS L27_3.eq_1 := rfl
def L27_4 : List AStep := [⟨.mov (.c (.bool false)), (some 4), none, []⟩]
theorem v27_4 : VS L27_4.eq_1 := rfl
def L27_5 : List AStep := [⟨.mov (.c (.int .i64 0)), (some 5), none, []⟩]
theorem v27_5 : VS L27_5.eq_1 := rfl
def L27_6 : List AStep := [⟨.len (.t 12), (some 13), none, []⟩, ⟨.bin .lss (.t 11) (.t 13), (some 14), none, []⟩]
theorem v27_6 : VS L27_6.eq_1 := rfl
def L27_7 : List AStep := ⟨.mov (.t 5), (some 11), none, []⟩ :: ⟨.mov (.t 0), (some 12), none, []⟩ :: L27_6
theorem v27_7 : VS L27_7.eq_1 := rfl
def L27_8 : List AStep := [⟨.call 58 [(.t 20), (.t 24)], (some 25), none, []⟩, ⟨.not (.t 25), (some 26), none, []⟩]
theorem v27_8 : VS L27_8.eq_1 := rfl
def L27_9 : List AStep := ⟨.iaddr 2 (.t 21) (.t 22), (some 23), none, []⟩ :: ⟨.load 2 true (.t 23), (some 24), none, []⟩ :: L27_8
theorem v27_9 : VS L27_9.eq_1 := rfl
def L27_10 : List AStep := ⟨.mov (.t 1), (some 21), none, []⟩ :: ⟨.mov (.t 5), (some 22), none, []⟩ :: L27_9
theorem v27_10 : VS L27_10.eq_1 := rfl
def L27_11 : List AStep := ⟨.iaddr 2 (.t 17) (.t 18), (some 19), none, []⟩ :: ⟨.load 2 true (.t 19), (some 20), none, []⟩ :: L27_10
theorem v27_11 : VS L27_11.eq_1 := rfl
def L27_12 : List AStep := ⟨.mov (.t 0), (some 17), none, []⟩ :: ⟨.mov (.t 5), (some 18), none, []⟩ :: L27_11
theorem v27_12 : VS L27_12.eq_1 := rfl
def L27_13 : List AStep := [⟨.mov (.c (.bool false)), (some 4), none, []⟩]
theorem v27_13 : VS L27_13.eq_1 := rfl
def L27_14 : List AStep := [⟨.mov (.t 16), (some 5), none, []⟩]
theorem v27_14 : VS L27_14.eq_1 := rfl
def L27_15 : List AStep := ⟨.mov (.t 5), (some 15), none, []⟩ :: ⟨.bin .add (.t 15) (.c (.int .i64 1)), (some 16), none, []⟩ :: L27_14
theorem v27_15 : VS L27_15.eq_1 := rfl
def L27_16 : List AStep := [⟨.mov (.c (.bool true)), (some 4), none, []⟩]
theorem v27_16 : VS L27_16.eq_1 := rfl
def C27_0 : ACode := .seq (.reg L27_4) .ret
theorem u27_0 : VC C27_0.eq_1 := rfl
def C27_1 : ACode := .cond (.t 10) C27_0 .skip
theorem u27_1 : VC C27_1.eq_1 := rfl
def C27_2 : ACode := .seq (.reg L27_3) C27_1
theorem u27_2 : VC C27_2.eq_1 := rfl
def C27_3 : ACode := .cond (.t 14) .skip (.exit 0)
theorem u27_3 : VC C27_3.eq_1 := rfl
def C27_4 : ACode := .seq (.reg L27_7) C27_3
theorem u27_4 : VC C27_4.eq_1 := rfl
def C27_5 : ACode := .seq (.reg L27_13) .ret
theorem u27_5 : VC C27_5.eq_1 := rfl
def C27_6 : ACode := .cond (.t 26) C27_5 .skip
theorem u27_6 : VC C27_6.eq_1 := rfl
def C27_7 : ACode := .seq (.reg L27_12) C27_6
theorem u27_7 : VC C27_7.eq_1 := rfl
def C27_8 : ACode := .block 1 C27_7
theorem u27_8 : VC C27_8.eq_1 := rfl
def C27_9 : ACode := .seq C27_8 (.reg L27_15)
theorem u27_9 : VC C27_9.eq_1 := rfl
def C27_10 : ACode := .seq C27_4 C27_9
theorem u27_10 : VC C27_10.eq_1 := rfl
def C27_11 : ACode := .block 0 (.loop C27_10)
theorem u27_11 : VC C27_11.eq_1 := rfl
def C27_12 : ACode := .seq (.reg L27_5) C27_11
theorem u27_12 : VC C27_12.eq_1 := rfl
def C27_13 : ACode := .seq (.reg L27_16) .ret
theorem u27_13 : VC C27_13.eq_1 := rfl
def C27_14 : ACode := .seq C27_12 C27_13
theorem u27_14 : VC C27_14.eq_1 := rfl
def C27_15 : ACode := .seq C27_2 C27_14
theorem u27_15 : VC C27_15.eq_1 := rfl
def C27_16 : ACode := .seq (.reg L27_0) C27_15
theorem u27_16 : VC C27_16.eq_1 := rfl
def F27 : AFunc := ⟨27, [.tmp 4], C27_16⟩
theorem cF27 : compB Try.prog 27 = some F27 := by kernel_rfl
attribute [local go_sem ↓] u27_0 u27_1 u27_2 u27_3 u27_4 u27_5 u27_6 u27_7 u27_8 u27_9 u27_10 u27_11 u27_12 u27_13 u27_14 u27_15 u27_16 v27_0 v27_1 v27_2 v27_3 v27_4 v27_5 v27_6 v27_7 v27_8 v27_9 v27_10 v27_11 v27_12 v27_13 v27_14 v27_15 v27_16
theorem c_eqProblemS (l m : List Problem) (v w : AV) (h : H) (hl : SlB h v l) (hm : SlB h w m) (hn : l.length ≤ big) : bm Try.prog 27 [v, w] h = some (ib (decide (l = m)), h) := by
  refine bm_eq cF27 ?_
  by_cases hlen : l.length = m.length
  case neg =>
    have e1 : decide ((l.length : Int) = (m.length : Int)) = false := decide_eq_false (by omega)
    simp +contextual (maxSteps := 2000000) only [go_sem, Nat.reduceEqDiff, reduceCtorEq, Nat.reduceAdd, Nat.reduceLeDiff, F27, hl.len, hm.len, e1]
    rw [ne_len e1]
  have e1 : decide ((l.length : Int) = (m.length : Int)) = true := decide_eq_true (by omega)
  simp +contextual (maxSteps := 2000000) only [go_sem, Nat.reduceEqDiff, reduceCtorEq, Nat.reduceAdd, Nat.reduceLeDiff, F27, hl.len, hm.len, e1]
  refine wpC_loop (fun i T L h' => h' = h ∧ T 0 = .v v ∧ T 1 = .v w ∧ T 5 = .v (.one (.int .i64 i)) ∧ Upto (eqAt l m) i) l.length ?_ ?_ (Nat.zero_le _) ?_
  · rintro i T L h' hi ⟨rfl, t0, t1, t5, hu⟩
    have him : i < m.length := by omega
    have e2 := eqAt_eq hi him
    simp +contextual (maxSteps := 2000000) only [go_sem, Nat.reduceEqDiff, reduceCtorEq, Nat.reduceAdd, Nat.reduceLeDiff, t0, t1, t5, hl.len, hm.len, hl.iaddr hi, hm.iaddr him, hl.whole hi, hm.whole him, c_eqProblem, lt_true hi]
    (repeat' (first | refine And.intro ?_ ?_ | intro _)) <;> first | rfl | rw [wrap_next hi (big_lt hn)] | (refine hu.next ?_; rw [e2]; (simp_all; done)) | (rw [ne_at (l := l) (m := m) (i := i)]; rw [e2]; (simp_all; done))
  · rintro T L h' ⟨rfl, t0, t1, t5, hu⟩
    simp +contextual (maxSteps := 2000000) only [go_sem, Nat.reduceEqDiff, reduceCtorEq, Nat.reduceAdd, Nat.reduceLeDiff, t0, t1, t5, hl.len, hm.len, lt_false, decide_eq_true (eq_of_upto hlen hu)]
  · simp +contextual (maxSteps := 2000000) only [go_sem, Nat.reduceEqDiff, reduceCtorEq, Nat.reduceAdd, Nat.reduceLeDiff]
    (repeat' (first | refine And.intro ?_ ?_ | intro _)) <;> first | rfl | exact Upto.zero
/-! laws.eqSignature -/
def L15_0 : List AStep := [⟨.mov (.c (.bool false)), (some 4), none, []⟩]
theorem v15_0 : VS L15_0.eq_1 := rfl
def L15_1 : List AStep := ⟨.box 38 (.t 0), (some 2), none, []⟩ :: ⟨.box 38 (.t 1), (some 3), none, []⟩ :: L15_0
theorem v15_1 : VS L15_1.eq_1 := rfl
def L15_2 : List AStep := [⟨.call 47 [(.t 6), (.t 8)], (some 9), none, []⟩, ⟨.not (.t 9), (some 10), none, []⟩]
theorem v15_2 : VS L15_2.eq_1 := rfl
def L15_3 : List AStep := ⟨.faddr 0 (.t 3), (some 7), none, []⟩ :: ⟨.load 1 false (.t 7), (some 8), none, []⟩ :: L15_2
theorem v15_3 : VS L15_3.eq_1 := rfl
def L15_4 : List AStep := ⟨.faddr 0 (.t 2), (some 5), none, []⟩ :: ⟨.load 1 false (.t 5), (some 6), none, []⟩ :: L15_3
theorem v15_4 : VS L15_4.eq_1 := rfl
def L15_5 : List AStep := [⟨.mov (.c (.bool false)), (some 4), none, []⟩]
theorem v15_5 : VS L15_5.eq_1 := rfl
def L15_6 : List AStep := [⟨.mov (.c (.bool true)), (some 4), none, []⟩]
theorem v15_6 : VS L15_6.eq_1 := rfl
def C15_0 : ACode := .seq (.reg L15_5) .ret
theorem u15_0 : VC C15_0.eq_1 := rfl
def C15_1 : ACode := .cond (.t 10) C15_0 .skip
theorem u15_1 : VC C15_1.eq_1 := rfl
def C15_2 : ACode := .seq (.reg L15_4) C15_1
theorem u15_2 : VC C15_2.eq_1 := rfl
def C15_3 : ACode := .seq (.reg L15_6) .ret
theorem u15_3 : VC C15_3.eq_1 := rfl
def C15_4 : ACode := .seq C15_2 C15_3
theorem u15_4 : VC C15_4.eq_1 := rfl
def C15_5 : ACode := .seq (.reg L15_1) C15_4
theorem u15_5 : VC C15_5.eq_1 := rfl
def F15 : AFunc := ⟨11, [.tmp 4], C15_5⟩
theorem cF15 : compB Try.prog 15 = some F15 := by kernel_rfl
attribute [local go_sem ↓] u15_0 u15_1 u15_2 u15_3 u15_4 u15_5 v15_0 v15_1 v15_2 v15_3 v15_4 v15_5 v15_6
theorem c_eqSignature (l m : List Param) (v w : CV) (h : H) (hl : SlQ h (.one v) l) (hm : SlQ h (.one w) m) (hn : l.length ≤ big) : bm Try.prog 15 [.agg [v], .agg [w]] h = some (ib (decide (l = m)), h) := by
  refine bm_eq cF15 ?_
  simp +contextual (maxSteps := 2000000) only [go_sem, Nat.reduceEqDiff, reduceCtorEq, Nat.reduceAdd, Nat.reduceLeDiff, F15, c_eqParamS _ _ _ _ _ hl hm hn]
  try ((repeat' (first | refine And.intro ?_ ?_ | intro _)) <;> first | simp_all)
/-! laws.eqFlat -/
def L16_0 : List AStep := [⟨.mov (.c (.bool false)), (some 4), none, []⟩]
theorem v16_0 : VS L16_0.eq_1 := rfl
def L16_1 : List AStep := ⟨.box 42 (.t 0), (some 2), none, []⟩ :: ⟨.box 42 (.t 1), (some 3), none, []⟩ :: L16_0
theorem v16_1 : VS L16_1.eq_1 := rfl
def L16_2 : List AStep := [⟨.call 48 [(.t 6), (.t 8)], (some 9), none, []⟩, ⟨.not (.t 9), (some 10), none, []⟩]
theorem v16_2 : VS L16_2.eq_1 := rfl
def L16_3 : List AStep := ⟨.faddr 0 (.t 3), (some 7), none, []⟩ :: ⟨.load 1 false (.t 7), (some 8), none, []⟩ :: L16_2
theorem v16_3 : VS L16_3.eq_1 := rfl
def L16_4 : List AStep := ⟨.faddr 0 (.t 2), (some 5), none, []⟩ :: ⟨.load 1 false (.t 5), (some 6), none, []⟩ :: L16_3
theorem v16_4 : VS L16_4.eq_1 := rfl
def L16_5 : List AStep := [⟨.mov (.c (.bool false)), (some 4), none, []⟩]
theorem v16_5 : VS L16_5.eq_1 := rfl
def L16_6 : List AStep := [⟨.call 49 [(.t 12), (.t 14)], (some 15), none, []⟩, ⟨.not (.t 15), (some 16), none, []⟩]
theorem v16_6 : VS L16_6.eq_1 := rfl
def L16_7 : List AStep := ⟨.faddr 1 (.t 3), (some 13), none, []⟩ :: ⟨.load 1 false (.t 13), (some 14), none, []⟩ :: L16_6
theorem v16_7 : VS L16_7.eq_1 := rfl
def L16_8 : List AStep := ⟨.faddr 1 (.t 2), (some 11), none, []⟩ :: ⟨.load 1 false (.t 11), (some 12), none, []⟩ :: L16_7
theorem v16_8 : VS L16_8.eq_1 := rfl
def L16_9 : List AStep := [⟨.mov (.c (.bool false)), (some 4), none, []⟩]
theorem v16_9 : VS L16_9.eq_1 := rfl
def L16_10 : List AStep := [⟨.mov (.c (.bool true)), (some 4), none, []⟩]
theorem v16_10 : VS L16_10.eq_1 := rfl
def C16_0 : ACode := .seq (.reg L16_5) .ret
theorem u16_0 : VC C16_0.eq_1 := rfl
def C16_1 : ACode := .cond (.t 10) C16_0 .skip
theorem u16_1 : VC C16_1.eq_1 := rfl
def C16_2 : ACode := .seq (.reg L16_4) C16_1
theorem u16_2 : VC C16_2.eq_1 := rfl
def C16_3 : ACode := .seq (.reg L16_9) .ret
theorem u16_3 : VC C16_3.eq_1 := rfl
def C16_4 : ACode := .cond (.t 16) C16_3 .skip
theorem u16_4 : VC C16_4.eq_1 := rfl
def C16_5 : ACode := .seq (.reg L16_8) C16_4
theorem u16_5 : VC C16_5.eq_1 := rfl
def C16_6 : ACode := .seq (.reg L16_10) .ret
theorem u16_6 : VC C16_6.eq_1 := rfl
def C16_7 : ACode := .seq C16_5 C16_6
theorem u16_7 : VC C16_7.eq_1 := rfl
def C16_8 : ACode := .seq C16_2 C16_7
theorem u16_8 : VC C16_8.eq_1 := rfl
def C16_9 : ACode := .seq (.reg L16_1) C16_8
theorem u16_9 : VC C16_9.eq_1 := rfl
def F16 : AFunc := ⟨17, [.tmp 4], C16_9⟩
theorem cF16 : compB Try.prog 16 = some F16 := by kernel_rfl
attribute [local go_sem ↓] u16_0 u16_1 u16_2 u16_3 u16_4 u16_5 u16_6 u16_7 u16_8 u16_9 v16_0 v16_1 v16_2 v16_3 v16_4 v16_5 v16_6 v16_7 v16_8 v16_9 v16_10
theorem c_eqFlat (f g : Flat) (pv nv pw nw : CV) (h : H) (hp : SlI h (.one pv) f.pl) (hq : SlP h (.one nv) f.nl) (kp : SlI h (.one pw) g.pl) (kq : SlP h (.one nw) g.nl) (h1 : f.pl.length ≤ big) (h2 : f.nl.length ≤ big) :
    bm Try.prog 16 [.agg [pv, nv], .agg [pw, nw]] h = some (ib (decide (f = g)), h) := by
  refine bm_eq cF16 ?_
  obtain ⟨fp, fn⟩ := f
  obtain ⟨gp, gn⟩ := g
  simp +contextual (maxSteps := 2000000) only [go_sem, Nat.reduceEqDiff, reduceCtorEq, Nat.reduceAdd, Nat.reduceLeDiff, F16, c_eqIntS _ _ _ _ _ hp kp h1, c_eqPairS _ _ _ _ _ hq kq h2, Flat.mk.injEq]
  try ((repeat' (first | refine And.intro ?_ ?_ | intro _)) <;> first | simp_all)
end Go.Proofs.Ytdalgphpacikkaa.Am
