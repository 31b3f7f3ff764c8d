/- Contracts of the laws: comparisons. -/
import Derived.Test.YtnphlonhogcedaaDat
namespace Go.Proofs.Ytnphlonhogcedaa.Am
open Go
set_option maxRecDepth 100000
set_option maxHeartbeats 4000000
set_option linter.unusedSimpArgs false
set_option linter.unusedVariables false
attribute [local go_sem ↓] bv_t bv_c ev_t ev_c put_same put_ne put_none kill_at pro_at lb_same lb_ne start_zero start_succ wpC_seq wpC_reg wpC_cond wpC_block wpC_skip wpC_exit wpC_ret thenQ_normal thenQ_exit thenQ_ret inBlk_normal inBlk_exit inBlk_ret wpS_nil wpS_step wpS_again wpS_guard wpO_mov wpO_load wpO_faddr wpO_nilCheck wpO_pick wpO_build wpO_bin wpO_eqb wpO_eqst wpO_eqnil wpO_not wpO_conv wpO_bytesStr wpO_iaddr wpO_idxStr wpO_field wpO_extract wpO_len wpO_lenStr wpO_cap wpO_min wpO_slice wpO_sliceStr wpO_alloc wpO_box wpO_store wpO_call wpO_callv wpO_mkfn wpO_buildSlice wpO_mkslice wpO_append wpO_appz proA_nil proA_cons tmpX_nil tmpX_tmp tmpX_cell doneB_normal doneB_ret agK_cons agK_nil pureB_load results_one results_two results_nil resBs_cons resBs_nil resB_tmp resB_cell
attribute [local go_sem] kill_v kill_lp_ne kill_lp_same pro_v pro_lp_same pro_lp_ne av_v av_lp optB_some optX_some valX_eq ldX_lp ldX_v faX_lp faX_v ncX_lp ncX_ptr ncX_fn boxK_one boxK_agg stL_some stK_lp_one stK_lp_agg stK_v_one stK_v_agg proM_v proM_lp callG_mk callVG_mk callvK_fn fnG_mk ptrsA_nil ptrsA_cons callH_some whenA_true whenA_false guardH_tt guardH_ff guardH_tf guardH_ft guardH_undef agV_one agV_agg lenO_sl lenStrO_str notO_bool pickO_bool convO_int eqbO_bool eqnilO_sl extractO_tup capO_sl minO_int loadL_one loadL_all storeL_eq fillA_nil fillA_one fillA_agg nat_ge neg_ge nat_lt neg_lt buildO bin_add bin_sub bin_mul bin_eql bin_neq bin_lss bin_leq bin_gtr bin_geq str_eql str_neq str_lss str_leq str_gtr str_geq retK_some endK_mk gcK_same gcK_int gcK_bool tupO_one tupO_agg rdy_self ib ii Option.map_none Option.map_some Option.some.injEq exists_eq_left' exists_eq_left ne_eq not_false_eq_true if_true if_false List.map_cons List.map_nil List.getElem?_cons_zero List.getElem?_cons_succ List.length_cons List.length_nil List.take_succ_cons List.take_zero List.take_nil List.drop_succ_cons List.drop_zero List.drop_nil List.cons_append List.nil_append List.append_nil List.set_cons_zero List.set_cons_succ Nat.zero_add forall_const true_and and_true and_self Bool.false_eq_true false_implies true_implies implies_true Bool.not_true Bool.not_false Bool.not_eq_true' Bool.not_eq_false' beq_self_eq_true Bool.bne_true Bool.bne_false
attribute [local go_sem] lenI lenS lenP lenQ lenB lenL lenT encI_0 encS_0 encP_0 encP_1 encQ_0 encQ_1 encQ_2 encQ_3 encB_0 encB_1 encL_0 encL_1 encT_0 encT_1
attribute [local go_sem low] whenA_bool guardH_bool
section
variable {P : Program} {T : Tb} {L : Lb} {h : H} {Q : PostC} {K : Post}
/-! laws.eqParam -/
def L195_0 : List AStep := [⟨.mov (.c (.bool false)), (some 4), none, []⟩]
theorem v195_0 : wpS P L195_0 T L (rdy h) K = wpS P ([⟨.mov (.c (.bool false)), (some 4), none, []⟩]) T L (rdy h) K := rfl
def L195_1 : List AStep := ⟨.box 108 (.t 0), (some 2), none, []⟩ :: ⟨.box 108 (.t 1), (some 3), none, []⟩ :: L195_0
theorem v195_1 : wpS P L195_1 T L (rdy h) K = wpS P (⟨.box 108 (.t 0), (some 2), none, []⟩ :: ⟨.box 108 (.t 1), (some 3), none, []⟩ :: L195_0) T L (rdy h) K := rfl
def L195_2 : List AStep := [⟨.bin .neq (.t 6) (.t 8), (some 9), none, []⟩]
theorem v195_2 : wpS P L195_2 T L (rdy h) K = wpS P ([⟨.bin .neq (.t 6) (.t 8), (some 9), none, []⟩]) T L (rdy h) K := rfl
def L195_3 : List AStep := ⟨.faddr 0 (.t 3), (some 7), none, []⟩ :: ⟨.load 1 false (.t 7), (some 8), none, []⟩ :: L195_2
theorem v195_3 : wpS P L195_3 T L (rdy h) K = wpS P (⟨.faddr 0 (.t 3), (some 7), none, []⟩ :: ⟨.load 1 false (.t 7), (some 8), none, []⟩ :: L195_2) T L (rdy h) K := rfl
def L195_4 : List AStep := ⟨.faddr 0 (.t 2), (some 5), none, []⟩ :: ⟨.load 1 false (.t 5), (some 6), none, []⟩ :: L195_3
theorem v195_4 : wpS P L195_4 T L (rdy h) K = wpS P (⟨.faddr 0 (.t 2), (some 5), none, []⟩ :: ⟨.load 1 false (.t 5), (some 6), none, []⟩ :: L195_3) T L (rdy h) K := rfl
def L195_5 : List AStep := [⟨.mov (.c (.bool false)), (some 4), none, []⟩]
theorem v195_5 : wpS P L195_5 T L (rdy h) K = wpS P ([⟨.mov (.c (.bool false)), (some 4), none, []⟩]) T L (rdy h) K := rfl
def L195_6 : List AStep := [⟨.bin .neq (.t 11) (.t 13), (some 14), none, []⟩]
theorem v195_6 : wpS P L195_6 T L (rdy h) K = wpS P ([⟨.bin .neq (.t 11) (.t 13), (some 14), none, []⟩]) T L (rdy h) K := rfl
def L195_7 : List AStep := ⟨.faddr 1 (.t 3), (some 12), none, []⟩ :: ⟨.load 1 false (.t 12), (some 13), none, []⟩ :: L195_6
theorem v195_7 : wpS P L195_7 T L (rdy h) K = wpS P (⟨.faddr 1 (.t 3), (some 12), none, []⟩ :: ⟨.load 1 false (.t 12), (some 13), none, []⟩ :: L195_6) T L (rdy h) K := rfl
def L195_8 : List AStep := ⟨.faddr 1 (.t 2), (some 10), none, []⟩ :: ⟨.load 1 false (.t 10), (some 11), none, []⟩ :: L195_7
theorem v195_8 : wpS P L195_8 T L (rdy h) K = wpS P (⟨.faddr 1 (.t 2), (some 10), none, []⟩ :: ⟨.load 1 false (.t 10), (some 11), none, []⟩ :: L195_7) T L (rdy h) K := rfl
def L195_9 : List AStep := [⟨.mov (.c (.bool false)), (some 4), none, []⟩]
theorem v195_9 : wpS P L195_9 T L (rdy h) K = wpS P ([⟨.mov (.c (.bool false)), (some 4), none, []⟩]) T L (rdy h) K := rfl
def L195_10 : List AStep := [⟨.eqb true (.t 16) (.t 18), (some 19), none, []⟩]
theorem v195_10 : wpS P L195_10 T L (rdy h) K = wpS P ([⟨.eqb true (.t 16) (.t 18), (some 19), none, []⟩]) T L (rdy h) K := rfl
def L195_11 : List AStep := ⟨.faddr 2 (.t 3), (some 17), none, []⟩ :: ⟨.load 1 false (.t 17), (some 18), none, []⟩ :: L195_10
theorem v195_11 : wpS P L195_11 T L (rdy h) K = wpS P (⟨.faddr 2 (.t 3), (some 17), none, []⟩ :: ⟨.load 1 false (.t 17), (some 18), none, []⟩ :: L195_10) T L (rdy h) K := rfl
def L195_12 : List AStep := ⟨.faddr 2 (.t 2), (some 15), none, []⟩ :: ⟨.load 1 false (.t 15), (some 16), none, []⟩ :: L195_11
theorem v195_12 : wpS P L195_12 T L (rdy h) K = wpS P (⟨.faddr 2 (.t 2), (some 15), none, []⟩ :: ⟨.load 1 false (.t 15), (some 16), none, []⟩ :: L195_11) T L (rdy h) K := rfl
def L195_13 : List AStep := [⟨.mov (.c (.bool false)), (some 4), none, []⟩]
theorem v195_13 : wpS P L195_13 T L (rdy h) K = wpS P ([⟨.mov (.c (.bool false)), (some 4), none, []⟩]) T L (rdy h) K := rfl
def L195_14 : List AStep := [⟨.bin .neq (.t 21) (.t 23), (some 24), none, []⟩]
theorem v195_14 : wpS P L195_14 T L (rdy h) K = wpS P ([⟨.bin .neq (.t 21) (.t 23), (some 24), none, []⟩]) T L (rdy h) K := rfl
def L195_15 : List AStep := ⟨.faddr 3 (.t 3), (some 22), none, []⟩ :: ⟨.load 1 false (.t 22), (some 23), none, []⟩ :: L195_14
theorem v195_15 : wpS P L195_15 T L (rdy h) K = wpS P (⟨.faddr 3 (.t 3), (some 22), none, []⟩ :: ⟨.load 1 false (.t 22), (some 23), none, []⟩ :: L195_14) T L (rdy h) K := rfl
def L195_16 : List AStep := ⟨.faddr 3 (.t 2), (some 20), none, []⟩ :: ⟨.load 1 false (.t 20), (some 21), none, []⟩ :: L195_15
theorem v195_16 : wpS P L195_16 T L (rdy h) K = wpS P (⟨.faddr 3 (.t 2), (some 20), none, []⟩ :: ⟨.load 1 false (.t 20), (some 21), none, []⟩ :: L195_15) T L (rdy h) K := rfl
def L195_17 : List AStep := [⟨.mov (.c (.bool false)), (some 4), none, []⟩]
theorem v195_17 : wpS P L195_17 T L (rdy h) K = wpS P ([⟨.mov (.c (.bool false)), (some 4), none, []⟩]) T L (rdy h) K := rfl
def L195_18 : List AStep := [⟨.mov (.c (.bool true)), (some 4), none, []⟩]
theorem v195_18 : wpS P L195_18 T L (rdy h) K = wpS P ([⟨.mov (.c (.bool true)), (some 4), none, []⟩]) T L (rdy h) K := rfl
def C195_0 : ACode := .seq (.reg L195_5) .ret
theorem u195_0 : wpC P C195_0 T L (rdy h) Q = wpC P (.seq (.reg L195_5) .ret) T L (rdy h) Q := rfl
def C195_1 : ACode := .cond (.t 9) C195_0 .skip
theorem u195_1 : wpC P C195_1 T L (rdy h) Q = wpC P (.cond (.t 9) C195_0 .skip) T L (rdy h) Q := rfl
def C195_2 : ACode := .seq (.reg L195_4) C195_1
theorem u195_2 : wpC P C195_2 T L (rdy h) Q = wpC P (.seq (.reg L195_4) C195_1) T L (rdy h) Q := rfl
def C195_3 : ACode := .seq (.reg L195_9) .ret
theorem u195_3 : wpC P C195_3 T L (rdy h) Q = wpC P (.seq (.reg L195_9) .ret) T L (rdy h) Q := rfl
def C195_4 : ACode := .cond (.t 14) C195_3 .skip
theorem u195_4 : wpC P C195_4 T L (rdy h) Q = wpC P (.cond (.t 14) C195_3 .skip) T L (rdy h) Q := rfl
def C195_5 : ACode := .seq (.reg L195_8) C195_4
theorem u195_5 : wpC P C195_5 T L (rdy h) Q = wpC P (.seq (.reg L195_8) C195_4) T L (rdy h) Q := rfl
def C195_6 : ACode := .seq (.reg L195_13) .ret
theorem u195_6 : wpC P C195_6 T L (rdy h) Q = wpC P (.seq (.reg L195_13) .ret) T L (rdy h) Q := rfl
def C195_7 : ACode := .cond (.t 19) C195_6 .skip
theorem u195_7 : wpC P C195_7 T L (rdy h) Q = wpC P (.cond (.t 19) C195_6 .skip) T L (rdy h) Q := rfl
def C195_8 : ACode := .seq (.reg L195_12) C195_7
theorem u195_8 : wpC P C195_8 T L (rdy h) Q = wpC P (.seq (.reg L195_12) C195_7) T L (rdy h) Q := rfl
def C195_9 : ACode := .seq (.reg L195_17) .ret
theorem u195_9 : wpC P C195_9 T L (rdy h) Q = wpC P (.seq (.reg L195_17) .ret) T L (rdy h) Q := rfl
def C195_10 : ACode := .cond (.t 24) C195_9 .skip
theorem u195_10 : wpC P C195_10 T L (rdy h) Q = wpC P (.cond (.t 24) C195_9 .skip) T L (rdy h) Q := rfl
def C195_11 : ACode := .seq (.reg L195_16) C195_10
theorem u195_11 : wpC P C195_11 T L (rdy h) Q = wpC P (.seq (.reg L195_16) C195_10) T L (rdy h) Q := rfl
def C195_12 : ACode := .seq (.reg L195_18) .ret
theorem u195_12 : wpC P C195_12 T L (rdy h) Q = wpC P (.seq (.reg L195_18) .ret) T L (rdy h) Q := rfl
def C195_13 : ACode := .seq C195_11 C195_12
theorem u195_13 : wpC P C195_13 T L (rdy h) Q = wpC P (.seq C195_11 C195_12) T L (rdy h) Q := rfl
def C195_14 : ACode := .seq C195_8 C195_13
theorem u195_14 : wpC P C195_14 T L (rdy h) Q = wpC P (.seq C195_8 C195_13) T L (rdy h) Q := rfl
def C195_15 : ACode := .seq C195_5 C195_14
theorem u195_15 : wpC P C195_15 T L (rdy h) Q = wpC P (.seq C195_5 C195_14) T L (rdy h) Q := rfl
def C195_16 : ACode := .seq C195_2 C195_15
theorem u195_16 : wpC P C195_16 T L (rdy h) Q = wpC P (.seq C195_2 C195_15) T L (rdy h) Q := rfl
def C195_17 : ACode := .seq (.reg L195_1) C195_16
theorem u195_17 : wpC P C195_17 T L (rdy h) Q = wpC P (.seq (.reg L195_1) C195_16) T L (rdy h) Q := rfl
def F195 : AFunc := ⟨25, [.tmp 4], C195_17⟩
theorem cF195 : compB Try.prog 195 = some F195 := by kernel_rfl
end
attribute [local go_sem ↓] u195_0 u195_1 u195_2 u195_3 u195_4 u195_5 u195_6 u195_7 u195_8 u195_9 u195_10 u195_11 u195_12 u195_13 u195_14 u195_15 u195_16 u195_17 v195_0 v195_1 v195_2 v195_3 v195_4 v195_5 v195_6 v195_7 v195_8 v195_9 v195_10 v195_11 v195_12 v195_13 v195_14 v195_15 v195_16 v195_17 v195_18
theorem c_eqParam (p q : Param) (h : H) : bm Try.prog 195 [.agg (encQ p), .agg (encQ q)] h = some (ib (decide (p = q)), h) := by
  refine bm_eq cF195 ?_
  obtain ⟨n1, k1, d1, v1⟩ := p
  obtain ⟨n2, k2, d2, v2⟩ := q
  simp +contextual (maxSteps := 2000000) only [go_sem, Nat.reduceEqDiff, reduceCtorEq, Nat.reduceAdd, Nat.reduceLeDiff, F195, Param.mk.injEq]
  try ((repeat' (first | refine And.intro ?_ ?_ | intro _)) <;> first | simp_all)
section
variable {P : Program} {T : Tb} {L : Lb} {h : H} {Q : PostC} {K : Post}
/-! laws.eqTurn -/
def L142_0 : List AStep := [⟨.mov (.c (.bool false)), (some 4), none, []⟩]
theorem v142_0 : wpS P L142_0 T L (rdy h) K = wpS P ([⟨.mov (.c (.bool false)), (some 4), none, []⟩]) T L (rdy h) K := rfl
def L142_1 : List AStep := ⟨.box 165 (.t 0), (some 2), none, []⟩ :: ⟨.box 165 (.t 1), (some 3), none, []⟩ :: L142_0
theorem v142_1 : wpS P L142_1 T L (rdy h) K = wpS P (⟨.box 165 (.t 0), (some 2), none, []⟩ :: ⟨.box 165 (.t 1), (some 3), none, []⟩ :: L142_0) T L (rdy h) K := rfl
def L142_2 : List AStep := [⟨.bin .neq (.t 6) (.t 8), (some 9), none, []⟩]
theorem v142_2 : wpS P L142_2 T L (rdy h) K = wpS P ([⟨.bin .neq (.t 6) (.t 8), (some 9), none, []⟩]) T L (rdy h) K := rfl
def L142_3 : List AStep := ⟨.faddr 0 (.t 3), (some 7), none, []⟩ :: ⟨.load 1 false (.t 7), (some 8), none, []⟩ :: L142_2
theorem v142_3 : wpS P L142_3 T L (rdy h) K = wpS P (⟨.faddr 0 (.t 3), (some 7), none, []⟩ :: ⟨.load 1 false (.t 7), (some 8), none, []⟩ :: L142_2) T L (rdy h) K := rfl
def L142_4 : List AStep := ⟨.faddr 0 (.t 2), (some 5), none, []⟩ :: ⟨.load 1 false (.t 5), (some 6), none, []⟩ :: L142_3
theorem v142_4 : wpS P L142_4 T L (rdy h) K = wpS P (⟨.faddr 0 (.t 2), (some 5), none, []⟩ :: ⟨.load 1 false (.t 5), (some 6), none, []⟩ :: L142_3) T L (rdy h) K := rfl
def L142_5 : List AStep := [⟨.mov (.c (.bool false)), (some 4), none, []⟩]
theorem v142_5 : wpS P L142_5 T L (rdy h) K = wpS P ([⟨.mov (.c (.bool false)), (some 4), none, []⟩]) T L (rdy h) K := rfl
def L142_6 : List AStep := [⟨.bin .neq (.t 11) (.t 13), (some 14), none, []⟩]
theorem v142_6 : wpS P L142_6 T L (rdy h) K = wpS P ([⟨.bin .neq (.t 11) (.t 13), (some 14), none, []⟩]) T L (rdy h) K := rfl
def L142_7 : List AStep := ⟨.faddr 1 (.t 3), (some 12), none, []⟩ :: ⟨.load 1 false (.t 12), (some 13), none, []⟩ :: L142_6
theorem v142_7 : wpS P L142_7 T L (rdy h) K = wpS P (⟨.faddr 1 (.t 3), (some 12), none, []⟩ :: ⟨.load 1 false (.t 12), (some 13), none, []⟩ :: L142_6) T L (rdy h) K := rfl
def L142_8 : List AStep := ⟨.faddr 1 (.t 2), (some 10), none, []⟩ :: ⟨.load 1 false (.t 10), (some 11), none, []⟩ :: L142_7
theorem v142_8 : wpS P L142_8 T L (rdy h) K = wpS P (⟨.faddr 1 (.t 2), (some 10), none, []⟩ :: ⟨.load 1 false (.t 10), (some 11), none, []⟩ :: L142_7) T L (rdy h) K := rfl
def L142_9 : List AStep := [⟨.mov (.c (.bool false)), (some 4), none, []⟩]
theorem v142_9 : wpS P L142_9 T L (rdy h) K = wpS P ([⟨.mov (.c (.bool false)), (some 4), none, []⟩]) T L (rdy h) K := rfl
def L142_10 : List AStep := [⟨.mov (.c (.bool true)), (some 4), none, []⟩]
theorem v142_10 : wpS P L142_10 T L (rdy h) K = wpS P ([⟨.mov (.c (.bool true)), (some 4), none, []⟩]) T L (rdy h) K := rfl
def C142_0 : ACode := .seq (.reg L142_5) .ret
theorem u142_0 : wpC P C142_0 T L (rdy h) Q = wpC P (.seq (.reg L142_5) .ret) T L (rdy h) Q := rfl
def C142_1 : ACode := .cond (.t 9) C142_0 .skip
theorem u142_1 : wpC P C142_1 T L (rdy h) Q = wpC P (.cond (.t 9) C142_0 .skip) T L (rdy h) Q := rfl
def C142_2 : ACode := .seq (.reg L142_4) C142_1
theorem u142_2 : wpC P C142_2 T L (rdy h) Q = wpC P (.seq (.reg L142_4) C142_1) T L (rdy h) Q := rfl
def C142_3 : ACode := .seq (.reg L142_9) .ret
theorem u142_3 : wpC P C142_3 T L (rdy h) Q = wpC P (.seq (.reg L142_9) .ret) T L (rdy h) Q := rfl
def C142_4 : ACode := .cond (.t 14) C142_3 .skip
theorem u142_4 : wpC P C142_4 T L (rdy h) Q = wpC P (.cond (.t 14) C142_3 .skip) T L (rdy h) Q := rfl
def C142_5 : ACode := .seq (.reg L142_8) C142_4
theorem u142_5 : wpC P C142_5 T L (rdy h) Q = wpC P (.seq (.reg L142_8) C142_4) T L (rdy h) Q := rfl
def C142_6 : ACode := .seq (.reg L142_10) .ret
theorem u142_6 : wpC P C142_6 T L (rdy h) Q = wpC P (.seq (.reg L142_10) .ret) T L (rdy h) Q := rfl
def C142_7 : ACode := .seq C142_5 C142_6
theorem u142_7 : wpC P C142_7 T L (rdy h) Q = wpC P (.seq C142_5 C142_6) T L (rdy h) Q := rfl
def C142_8 : ACode := .seq C142_2 C142_7
theorem u142_8 : wpC P C142_8 T L (rdy h) Q = wpC P (.seq C142_2 C142_7) T L (rdy h) Q := rfl
def C142_9 : ACode := .seq (.reg L142_1) C142_8
theorem u142_9 : wpC P C142_9 T L (rdy h) Q = wpC P (.seq (.reg L142_1) C142_8) T L (rdy h) Q := rfl
def F142 : AFunc := ⟨15, [.tmp 4], C142_9⟩
theorem cF142 : compB Try.prog 142 = some F142 := by kernel_rfl
end
attribute [local go_sem ↓] u142_0 u142_1 u142_2 u142_3 u142_4 u142_5 u142_6 u142_7 u142_8 u142_9 v142_0 v142_1 v142_2 v142_3 v142_4 v142_5 v142_6 v142_7 v142_8 v142_9 v142_10
theorem c_eqTurn (p q : Turn) (h : H) : bm Try.prog 142 [.agg (encT p), .agg (encT q)] h = some (ib (decide (p = q)), h) := by
  refine bm_eq cF142 ?_
  obtain ⟨n1, k1⟩ := p
  obtain ⟨n2, k2⟩ := q
  simp +contextual (maxSteps := 2000000) only [go_sem, Nat.reduceEqDiff, reduceCtorEq, Nat.reduceAdd, Nat.reduceLeDiff, F142, Turn.mk.injEq]
  try ((repeat' (first | refine And.intro ?_ ?_ | intro _)) <;> first | simp_all)
section
variable {P : Program} {T : Tb} {L : Lb} {h : H} {Q : PostC} {K : Post}
/-! laws.eqParamS -/
def L127_0 : List AStep := [⟨.mov (.c (.bool false)), (some 4), none, []⟩]
theorem v127_0 : wpS P L127_0 T L (rdy h) K = wpS P ([⟨.mov (.c (.bool false)), (some 4), none, []⟩]) T L (rdy h) K := rfl
def L127_1 : List AStep := [⟨.bin .neq (.t 7) (.t 9), (some 10), none, []⟩]
theorem v127_1 : wpS P L127_1 T L (rdy h) K = wpS P ([⟨.bin .neq (.t 7) (.t 9), (some 10), none, []⟩]) T L (rdy h) K := rfl
def L127_2 : List AStep := ⟨.mov (.t 1), (some 8), none, []⟩ :: ⟨.len (.t 8), (some 9), none, []⟩ :: L127_1
theorem v127_2 : wpS P L127_2 T L (rdy h) K = wpS P (⟨.mov (.t 1), (some 8), none, []⟩ :: ⟨.len (.t 8), (some 9), none, []⟩ :: L127_1) T L (rdy h) K := rfl
def L127_3 : List AStep := ⟨.mov (.t 0), (some 6), none, []⟩ :: ⟨.len (.t 6), (some 7), none, []⟩ :: L127_2
theorem v127_3 : wpS P L127_3 T L (rdy h) K = wpS P (⟨.mov (.t 0), (some 6), none, []⟩ :: ⟨.len (.t 6), (some 7), none, []⟩ :: L127_2) T L (rdy h) K := rfl
def L127_4 : List AStep := [⟨.mov (.c (.bool false)), (some 4), none, []⟩]
theorem v127_4 : wpS P L127_4 T L (rdy h) K = wpS P ([⟨.mov (.c (.bool false)), (some 4), none, []⟩]) T L (rdy h) K := rfl
def L127_5 : List AStep := [⟨.mov (.c (.int .i64 0)), (some 5), none, []⟩]
theorem v127_5 : wpS P L127_5 T L (rdy h) K = wpS P ([⟨.mov (.c (.int .i64 0)), (some 5), none, []⟩]) T L (rdy h) K := rfl
def L127_6 : List AStep := [⟨.len (.t 12), (some 13), none, []⟩, ⟨.bin .lss (.t 11) (.t 13), (some 14), none, []⟩]
theorem v127_6 : wpS P L127_6 T L (rdy h) K = wpS P ([⟨.len (.t 12), (some 13), none, []⟩, ⟨.bin .lss (.t 11) (.t 13), (some 14), none, []⟩]) T L (rdy h) K := rfl
def L127_7 : List AStep := ⟨.mov (.t 5), (some 11), none, []⟩ :: ⟨.mov (.t 0), (some 12), none, []⟩ :: L127_6
theorem v127_7 : wpS P L127_7 T L (rdy h) K = wpS P (⟨.mov (.t 5), (some 11), none, []⟩ :: ⟨.mov (.t 0), (some 12), none, []⟩ :: L127_6) T L (rdy h) K := rfl
def L127_8 : List AStep := [⟨.call 195 [(.t 20), (.t 24)], (some 25), none, []⟩, ⟨.not (.t 25), (some 26), none, []⟩]
theorem v127_8 : wpS P L127_8 T L (rdy h) K = wpS P ([⟨.call 195 [(.t 20), (.t 24)], (some 25), none, []⟩, ⟨.not (.t 25), (some 26), none, []⟩]) T L (rdy h) K := rfl
def L127_9 : List AStep := ⟨.iaddr 4 (.t 21) (.t 22), (some 23), none, []⟩ :: ⟨.load 4 true (.t 23), (some 24), none, []⟩ :: L127_8
theorem v127_9 : wpS P L127_9 T L (rdy h) K = wpS P (⟨.iaddr 4 (.t 21) (.t 22), (some 23), none, []⟩ :: ⟨.load 4 true (.t 23), (some 24), none, []⟩ :: L127_8) T L (rdy h) K := rfl
def L127_10 : List AStep := ⟨.mov (.t 1), (some 21), none, []⟩ :: ⟨.mov (.t 5), (some 22), none, []⟩ :: L127_9
theorem v127_10 : wpS P L127_10 T L (rdy h) K = wpS P (⟨.mov (.t 1), (some 21), none, []⟩ :: ⟨.mov (.t 5), (some 22), none, []⟩ :: L127_9) T L (rdy h) K := rfl
def L127_11 : List AStep := ⟨.iaddr 4 (.t 17) (.t 18), (some 19), none, []⟩ :: ⟨.load 4 true (.t 19), (some 20), none, []⟩ :: L127_10
theorem v127_11 : wpS P L127_11 T L (rdy h) K = wpS P (⟨.iaddr 4 (.t 17) (.t 18), (some 19), none, []⟩ :: ⟨.load 4 true (.t 19), (some 20), none, []⟩ :: L127_10) T L (rdy h) K := rfl
def L127_12 : List AStep := ⟨.mov (.t 0), (some 17), none, []⟩ :: ⟨.mov (.t 5), (some 18), none, []⟩ :: L127_11
theorem v127_12 : wpS P L127_12 T L (rdy h) K = wpS P (⟨.mov (.t 0), (some 17), none, []⟩ :: ⟨.mov (.t 5), (some 18), none, []⟩ :: L127_11) T L (rdy h) K := rfl
def L127_13 : List AStep := [⟨.mov (.c (.bool false)), (some 4), none, []⟩]
theorem v127_13 : wpS P L127_13 T L (rdy h) K = wpS P ([⟨.mov (.c (.bool false)), (some 4), none, []⟩]) T L (rdy h) K := rfl
def L127_14 : List AStep := [⟨.mov (.t 16), (some 5), none, []⟩]
theorem v127_14 : wpS P L127_14 T L (rdy h) K = wpS P ([⟨.mov (.t 16), (some 5), none, []⟩]) T L (rdy h) K := rfl
def L127_15 : List AStep := ⟨.mov (.t 5), (some 15), none, []⟩ :: ⟨.bin .add (.t 15) (.c (.int .i64 1)), (some 16), none, []⟩ :: L127_14
theorem v127_15 : wpS P L127_15 T L (rdy h) K = wpS P (⟨.mov (.t 5), (some 15), none, []⟩ :: ⟨.bin .add (.t 15) (.c (.int .i64 1)), (some 16), none, []⟩ :: L127_14) T L (rdy h) K := rfl
def L127_16 : List AStep := [⟨.mov (.c (.bool true)), (some 4), none, []⟩]
theorem v127_16 : wpS P L127_16 T L (rdy h) K = wpS P ([⟨.mov (.c (.bool true)), (some 4), none, []⟩]) T L (rdy h) K := rfl
def C127_0 : ACode := .seq (.reg L127_4) .ret
theorem u127_0 : wpC P C127_0 T L (rdy h) Q = wpC P (.seq (.reg L127_4) .ret) T L (rdy h) Q := rfl
def C127_1 : ACode := .cond (.t 10) C127_0 .skip
theorem u127_1 : wpC P C127_1 T L (rdy h) Q = wpC P (.cond (.t 10) C127_0 .skip) T L (rdy h) Q := rfl
def C127_2 : ACode := .seq (.reg L127_3) C127_1
theorem u127_2 : wpC P C127_2 T L (rdy h) Q = wpC P (.seq (.reg L127_3) C127_1) T L (rdy h) Q := rfl
def C127_3 : ACode := .cond (.t 14) .skip (.exit 0)
theorem u127_3 : wpC P C127_3 T L (rdy h) Q = wpC P (.cond (.t 14) .skip (.exit 0)) T L (rdy h) Q := rfl
def C127_4 : ACode := .seq (.reg L127_7) C127_3
theorem u127_4 : wpC P C127_4 T L (rdy h) Q = wpC P (.seq (.reg L127_7) C127_3) T L (rdy h) Q := rfl
def C127_5 : ACode := .seq (.reg L127_13) .ret
theorem u127_5 : wpC P C127_5 T L (rdy h) Q = wpC P (.seq (.reg L127_13) .ret) T L (rdy h) Q := rfl
def C127_6 : ACode := .cond (.t 26) C127_5 .skip
theorem u127_6 : wpC P C127_6 T L (rdy h) Q = wpC P (.cond (.t 26) C127_5 .skip) T L (rdy h) Q := rfl
def C127_7 : ACode := .seq (.reg L127_12) C127_6
theorem u127_7 : wpC P C127_7 T L (rdy h) Q = wpC P (.seq (.reg L127_12) C127_6) T L (rdy h) Q := rfl
def C127_8 : ACode := .block 1 C127_7
theorem u127_8 : wpC P C127_8 T L (rdy h) Q = wpC P (.block 1 C127_7) T L (rdy h) Q := rfl
def C127_9 : ACode := .seq C127_8 (.reg L127_15)
theorem u127_9 : wpC P C127_9 T L (rdy h) Q = wpC P (.seq C127_8 (.reg L127_15)) T L (rdy h) Q := rfl
def C127_10 : ACode := .seq C127_4 C127_9
theorem u127_10 : wpC P C127_10 T L (rdy h) Q = wpC P (.seq C127_4 C127_9) T L (rdy h) Q := rfl
def C127_11 : ACode := .block 0 (.loop C127_10)
theorem u127_11 : wpC P C127_11 T L (rdy h) Q = wpC P (.block 0 (.loop C127_10)) T L (rdy h) Q := rfl
def C127_12 : ACode := .seq (.reg L127_5) C127_11
theorem u127_12 : wpC P C127_12 T L (rdy h) Q = wpC P (.seq (.reg L127_5) C127_11) T L (rdy h) Q := rfl
def C127_13 : ACode := .seq (.reg L127_16) .ret
theorem u127_13 : wpC P C127_13 T L (rdy h) Q = wpC P (.seq (.reg L127_16) .ret) T L (rdy h) Q := rfl
def C127_14 : ACode := .seq C127_12 C127_13
theorem u127_14 : wpC P C127_14 T L (rdy h) Q = wpC P (.seq C127_12 C127_13) T L (rdy h) Q := rfl
def C127_15 : ACode := .seq C127_2 C127_14
theorem u127_15 : wpC P C127_15 T L (rdy h) Q = wpC P (.seq C127_2 C127_14) T L (rdy h) Q := rfl
def C127_16 : ACode := .seq (.reg L127_0) C127_15
theorem u127_16 : wpC P C127_16 T L (rdy h) Q = wpC P (.seq (.reg L127_0) C127_15) T L (rdy h) Q := rfl
def F127 : AFunc := ⟨27, [.tmp 4], C127_16⟩
theorem cF127 : compB Try.prog 127 = some F127 := by kernel_rfl
end
attribute [local go_sem ↓] u127_0 u127_1 u127_2 u127_3 u127_4 u127_5 u127_6 u127_7 u127_8 u127_9 u127_10 u127_11 u127_12 u127_13 u127_14 u127_15 u127_16 v127_0 v127_1 v127_2 v127_3 v127_4 v127_5 v127_6 v127_7 v127_8 v127_9 v127_10 v127_11 v127_12 v127_13 v127_14 v127_15 v127_16
theorem c_eqParamS (l m : List Param) (v w : AV) (h : H) (hl : SlQ h v l) (hm : SlQ h w m) (hn : l.length ≤ big) : bm Try.prog 127 [v, w] h = some (ib (decide (l = m)), h) := by
  refine bm_eq cF127 ?_
  by_cases hlen : l.length = m.length
  case neg =>
    have e1 : decide ((l.length : Int) = (m.length : Int)) = false := decide_eq_false (by omega)
    simp +contextual (maxSteps := 2000000) only [go_sem, Nat.reduceEqDiff, reduceCtorEq, Nat.reduceAdd, Nat.reduceLeDiff, F127, hl.len, hm.len, e1]
    rw [ne_len e1]
  have e1 : decide ((l.length : Int) = (m.length : Int)) = true := decide_eq_true (by omega)
  simp +contextual (maxSteps := 2000000) only [go_sem, Nat.reduceEqDiff, reduceCtorEq, Nat.reduceAdd, Nat.reduceLeDiff, F127, hl.len, hm.len, e1]
  refine wpC_loop (fun i T L h' => h' = h ∧ T 0 = .v v ∧ T 1 = .v w ∧ T 5 = .v (.one (.int .i64 i)) ∧ Upto (eqAt l m) i) l.length ?_ ?_ (Nat.zero_le _) ?_
  · rintro i T L h' hi ⟨rfl, t0, t1, t5, hu⟩
    have him : i < m.length := by omega
    have e2 := eqAt_eq hi him
    simp +contextual (maxSteps := 2000000) only [go_sem, Nat.reduceEqDiff, reduceCtorEq, Nat.reduceAdd, Nat.reduceLeDiff, t0, t1, t5, hl.len, hm.len, hl.iaddr hi, hm.iaddr him, hl.whole hi, hm.whole him, c_eqParam, lt_true hi]
    (repeat' (first | refine And.intro ?_ ?_ | intro _)) <;> first | rfl | rw [wrap_next hi (big_lt hn)] | (refine hu.next ?_; rw [e2]; (simp_all; done)) | (rw [ne_at (l := l) (m := m) (i := i)]; rw [e2]; (simp_all; done))
  · rintro T L h' ⟨rfl, t0, t1, t5, hu⟩
    simp +contextual (maxSteps := 2000000) only [go_sem, Nat.reduceEqDiff, reduceCtorEq, Nat.reduceAdd, Nat.reduceLeDiff, t0, t1, t5, hl.len, hm.len, lt_false, decide_eq_true (eq_of_upto hlen hu)]
  · simp +contextual (maxSteps := 2000000) only [go_sem, Nat.reduceEqDiff, reduceCtorEq, Nat.reduceAdd, Nat.reduceLeDiff]
    (repeat' (first | refine And.intro ?_ ?_ | intro _)) <;> first | rfl | exact Upto.zero
section
variable {P : Program} {T : Tb} {L : Lb} {h : H} {Q : PostC} {K : Post}
/-! laws.eqTurnS -/
def L65_0 : List AStep := [⟨.mov (.c (.bool false)), (some 4), none, []⟩]
theorem v65_0 : wpS P L65_0 T L (rdy h) K = wpS P ([⟨.mov (.c (.bool false)), (some 4), none, []⟩]) T L (rdy h) K := rfl
def L65_1 : List AStep := [⟨.bin .neq (.t 7) (.t 9), (some 10), none, []⟩]
theorem v65_1 : wpS P L65_1 T L (rdy h) K = wpS P ([⟨.bin .neq (.t 7) (.t 9), (some 10), none, []⟩]) T L (rdy h) K := rfl
def L65_2 : List AStep := ⟨.mov (.t 1), (some 8), none, []⟩ :: ⟨.len (.t 8), (some 9), none, []⟩ :: L65_1
theorem v65_2 : wpS P L65_2 T L (rdy h) K = wpS P (⟨.mov (.t 1), (some 8), none, []⟩ :: ⟨.len (.t 8), (some 9), none, []⟩ :: L65_1) T L (rdy h) K := rfl
def L65_3 : List AStep := ⟨.mov (.t 0), (some 6), none, []⟩ :: ⟨.len (.t 6), (some 7), none, []⟩ :: L65_2
theorem v65_3 : wpS P L65_3 T L (rdy h) K = wpS P (⟨.mov (.t 0), (some 6), none, []⟩ :: ⟨.len (.t 6), (some 7), none, []⟩ :: L65_2) T L (rdy h) K := rfl
def L65_4 : List AStep := [⟨.mov (.c (.bool false)), (some 4), none, []⟩]
theorem v65_4 : wpS P L65_4 T L (rdy h) K = wpS P ([⟨.mov (.c (.bool false)), (some 4), none, []⟩]) T L (rdy h) K := rfl
def L65_5 : List AStep := [⟨.mov (.c (.int .i64 0)), (some 5), none, []⟩]
theorem v65_5 : wpS P L65_5 T L (rdy h) K = wpS P ([⟨.mov (.c (.int .i64 0)), (some 5), none, []⟩]) T L (rdy h) K := rfl
def L65_6 : List AStep := [⟨.len (.t 12), (some 13), none, []⟩, ⟨.bin .lss (.t 11) (.t 13), (some 14), none, []⟩]
theorem v65_6 : wpS P L65_6 T L (rdy h) K = wpS P ([⟨.len (.t 12), (some 13), none, []⟩, ⟨.bin .lss (.t 11) (.t 13), (some 14), none, []⟩]) T L (rdy h) K := rfl
def L65_7 : List AStep := ⟨.mov (.t 5), (some 11), none, []⟩ :: ⟨.mov (.t 0), (some 12), none, []⟩ :: L65_6
theorem v65_7 : wpS P L65_7 T L (rdy h) K = wpS P (⟨.mov (.t 5), (some 11), none, []⟩ :: ⟨.mov (.t 0), (some 12), none, []⟩ :: L65_6) T L (rdy h) K := rfl
def L65_8 : List AStep := [⟨.call 142 [(.t 20), (.t 24)], (some 25), none, []⟩, ⟨.not (.t 25), (some 26), none, []⟩]
theorem v65_8 : wpS P L65_8 T L (rdy h) K = wpS P ([⟨.call 142 [(.t 20), (.t 24)], (some 25), none, []⟩, ⟨.not (.t 25), (some 26), none, []⟩]) T L (rdy h) K := rfl
def L65_9 : List AStep := ⟨.iaddr 2 (.t 21) (.t 22), (some 23), none, []⟩ :: ⟨.load 2 true (.t 23), (some 24), none, []⟩ :: L65_8
theorem v65_9 : wpS P L65_9 T L (rdy h) K = wpS P (⟨.iaddr 2 (.t 21) (.t 22), (some 23), none, []⟩ :: ⟨.load 2 true (.t 23), (some 24), none, []⟩ :: L65_8) T L (rdy h) K := rfl
def L65_10 : List AStep := ⟨.mov (.t 1), (some 21), none, []⟩ :: ⟨.mov (.t 5), (some 22), none, []⟩ :: L65_9
theorem v65_10 : wpS P L65_10 T L (rdy h) K = wpS P (⟨.mov (.t 1), (some 21), none, []⟩ :: ⟨.mov (.t 5), (some 22), none, []⟩ :: L65_9) T L (rdy h) K := rfl
def L65_11 : List AStep := ⟨.iaddr 2 (.t 17) (.t 18), (some 19), none, []⟩ :: ⟨.load 2 true (.t 19), (some 20), none, []⟩ :: L65_10
theorem v65_11 : wpS P L65_11 T L (rdy h) K = wpS P (⟨.iaddr 2 (.t 17) (.t 18), (some 19), none, []⟩ :: ⟨.load 2 true (.t 19), (some 20), none, []⟩ :: L65_10) T L (rdy h) K := rfl
def L65_12 : List AStep := ⟨.mov (.t 0), (some 17), none, []⟩ :: ⟨.mov (.t 5), (some 18), none, []⟩ :: L65_11
theorem v65_12 : wpS P L65_12 T L (rdy h) K = wpS P (⟨.mov (.t 0), (some 17), none, []⟩ :: ⟨.mov (.t 5), (some 18), none, []⟩ :: L65_11) T L (rdy h) K := rfl
def L65_13 : List AStep := [⟨.mov (.c (.bool false)), (some 4), none, []⟩]
theorem v65_13 : wpS P L65_13 T L (rdy h) K = wpS P ([⟨.mov (.c (.bool false)), (some 4), none, []⟩]) T L (rdy h) K := rfl
def L65_14 : List AStep := [⟨.mov (.t 16), (some 5), none, []⟩]
theorem v65_14 : wpS P L65_14 T L (rdy h) K = wpS P ([⟨.mov (.t 16), (some 5), none, []⟩]) T L (rdy h) K := rfl
def L65_15 : List AStep := ⟨.mov (.t 5), (some 15), none, []⟩ :: ⟨.bin .add (.t 15) (.c (.int .i64 1)), (some 16), none, []⟩ :: L65_14
theorem v65_15 : wpS P L65_15 T L (rdy h) K = wpS P (⟨.mov (.t 5), (some 15), none, []⟩ :: ⟨.bin .add (.t 15) (.c (.int .i64 1)), (some 16), none, []⟩ :: L65_14) T L (rdy h) K := rfl
def L65_16 : List AStep := [⟨.mov (.c (.bool true)), (some 4), none, []⟩]
theorem v65_16 : wpS P L65_16 T L (rdy h) K = wpS P ([⟨.mov (.c (.bool true)), (some 4), none, []⟩]) T L (rdy h) K := rfl
def C65_0 : ACode := .seq (.reg L65_4) .ret
theorem u65_0 : wpC P C65_0 T L (rdy h) Q = wpC P (.seq (.reg L65_4) .ret) T L (rdy h) Q := rfl
def C65_1 : ACode := .cond (.t 10) C65_0 .skip
theorem u65_1 : wpC P C65_1 T L (rdy h) Q = wpC P (.cond (.t 10) C65_0 .skip) T L (rdy h) Q := rfl
def C65_2 : ACode := .seq (.reg L65_3) C65_1
theorem u65_2 : wpC P C65_2 T L (rdy h) Q = wpC P (.seq (.reg L65_3) C65_1) T L (rdy h) Q := rfl
def C65_3 : ACode := .cond (.t 14) .skip (.exit 0)
theorem u65_3 : wpC P C65_3 T L (rdy h) Q = wpC P (.cond (.t 14) .skip (.exit 0)) T L (rdy h) Q := rfl
def C65_4 : ACode := .seq (.reg L65_7) C65_3
theorem u65_4 : wpC P C65_4 T L (rdy h) Q = wpC P (.seq (.reg L65_7) C65_3) T L (rdy h) Q := rfl
def C65_5 : ACode := .seq (.reg L65_13) .ret
theorem u65_5 : wpC P C65_5 T L (rdy h) Q = wpC P (.seq (.reg L65_13) .ret) T L (rdy h) Q := rfl
def C65_6 : ACode := .cond (.t 26) C65_5 .skip
theorem u65_6 : wpC P C65_6 T L (rdy h) Q = wpC P (.cond (.t 26) C65_5 .skip) T L (rdy h) Q := rfl
def C65_7 : ACode := .seq (.reg L65_12) C65_6
theorem u65_7 : wpC P C65_7 T L (rdy h) Q = wpC P (.seq (.reg L65_12) C65_6) T L (rdy h) Q := rfl
def C65_8 : ACode := .block 1 C65_7
theorem u65_8 : wpC P C65_8 T L (rdy h) Q = wpC P (.block 1 C65_7) T L (rdy h) Q := rfl
def C65_9 : ACode := .seq C65_8 (.reg L65_15)
theorem u65_9 : wpC P C65_9 T L (rdy h) Q = wpC P (.seq C65_8 (.reg L65_15)) T L (rdy h) Q := rfl
def C65_10 : ACode := .seq C65_4 C65_9
theorem u65_10 : wpC P C65_10 T L (rdy h) Q = wpC P (.seq C65_4 C65_9) T L (rdy h) Q := rfl
def C65_11 : ACode := .block 0 (.loop C65_10)
theorem u65_11 : wpC P C65_11 T L (rdy h) Q = wpC P (.block 0 (.loop C65_10)) T L (rdy h) Q := rfl
def C65_12 : ACode := .seq (.reg L65_5) C65_11
theorem u65_12 : wpC P C65_12 T L (rdy h) Q = wpC P (.seq (.reg L65_5) C65_11) T L (rdy h) Q := rfl
def C65_13 : ACode := .seq (.reg L65_16) .ret
theorem u65_13 : wpC P C65_13 T L (rdy h) Q = wpC P (.seq (.reg L65_16) .ret) T L (rdy h) Q := rfl
def C65_14 : ACode := .seq C65_12 C65_13
theorem u65_14 : wpC P C65_14 T L (rdy h) Q = wpC P (.seq C65_12 C65_13) T L (rdy h) Q := rfl
def C65_15 : ACode := .seq C65_2 C65_14
theorem u65_15 : wpC P C65_15 T L (rdy h) Q = wpC P (.seq C65_2 C65_14) T L (rdy h) Q := rfl
def C65_16 : ACode := .seq (.reg L65_0) C65_15
theorem u65_16 : wpC P C65_16 T L (rdy h) Q = wpC P (.seq (.reg L65_0) C65_15) T L (rdy h) Q := rfl
def F65 : AFunc := ⟨27, [.tmp 4], C65_16⟩
theorem cF65 : compB Try.prog 65 = some F65 := by kernel_rfl
end
attribute [local go_sem ↓] u65_0 u65_1 u65_2 u65_3 u65_4 u65_5 u65_6 u65_7 u65_8 u65_9 u65_10 u65_11 u65_12 u65_13 u65_14 u65_15 u65_16 v65_0 v65_1 v65_2 v65_3 v65_4 v65_5 v65_6 v65_7 v65_8 v65_9 v65_10 v65_11 v65_12 v65_13 v65_14 v65_15 v65_16
theorem c_eqTurnS (l m : List Turn) (v w : AV) (h : H) (hl : SlT h v l) (hm : SlT h w m) (hn : l.length ≤ big) : bm Try.prog 65 [v, w] h = some (ib (decide (l = m)), h) := by
  refine bm_eq cF65 ?_
  by_cases hlen : l.length = m.length
  case neg =>
    have e1 : decide ((l.length : Int) = (m.length : Int)) = false := decide_eq_false (by omega)
    simp +contextual (maxSteps := 2000000) only [go_sem, Nat.reduceEqDiff, reduceCtorEq, Nat.reduceAdd, Nat.reduceLeDiff, F65, hl.len, hm.len, e1]
    rw [ne_len e1]
  have e1 : decide ((l.length : Int) = (m.length : Int)) = true := decide_eq_true (by omega)
  simp +contextual (maxSteps := 2000000) only [go_sem, Nat.reduceEqDiff, reduceCtorEq, Nat.reduceAdd, Nat.reduceLeDiff, F65, hl.len, hm.len, e1]
  refine wpC_loop (fun i T L h' => h' = h ∧ T 0 = .v v ∧ T 1 = .v w ∧ T 5 = .v (.one (.int .i64 i)) ∧ Upto (eqAt l m) i) l.length ?_ ?_ (Nat.zero_le _) ?_
  · rintro i T L h' hi ⟨rfl, t0, t1, t5, hu⟩
    have him : i < m.length := by omega
    have e2 := eqAt_eq hi him
    simp +contextual (maxSteps := 2000000) only [go_sem, Nat.reduceEqDiff, reduceCtorEq, Nat.reduceAdd, Nat.reduceLeDiff, t0, t1, t5, hl.len, hm.len, hl.iaddr hi, hm.iaddr him, hl.whole hi, hm.whole him, c_eqTurn, lt_true hi]
    (repeat' (first | refine And.intro ?_ ?_ | intro _)) <;> first | rfl | rw [wrap_next hi (big_lt hn)] | (refine hu.next ?_; rw [e2]; (simp_all; done)) | (rw [ne_at (l := l) (m := m) (i := i)]; rw [e2]; (simp_all; done))
  · rintro T L h' ⟨rfl, t0, t1, t5, hu⟩
    simp +contextual (maxSteps := 2000000) only [go_sem, Nat.reduceEqDiff, reduceCtorEq, Nat.reduceAdd, Nat.reduceLeDiff, t0, t1, t5, hl.len, hm.len, lt_false, decide_eq_true (eq_of_upto hlen hu)]
  · simp +contextual (maxSteps := 2000000) only [go_sem, Nat.reduceEqDiff, reduceCtorEq, Nat.reduceAdd, Nat.reduceLeDiff]
    (repeat' (first | refine And.intro ?_ ?_ | intro _)) <;> first | rfl | exact Upto.zero
section
variable {P : Program} {T : Tb} {L : Lb} {h : H} {Q : PostC} {K : Post}
/-! laws.eqSignature -/
def L50_0 : List AStep := [⟨.mov (.c (.bool false)), (some 4), none, []⟩]
theorem v50_0 : wpS P L50_0 T L (rdy h) K = wpS P ([⟨.mov (.c (.bool false)), (some 4), none, []⟩]) T L (rdy h) K := rfl
def L50_1 : List AStep := ⟨.box 51 (.t 0), (some 2), none, []⟩ :: ⟨.box 51 (.t 1), (some 3), none, []⟩ :: L50_0
theorem v50_1 : wpS P L50_1 T L (rdy h) K = wpS P (⟨.box 51 (.t 0), (some 2), none, []⟩ :: ⟨.box 51 (.t 1), (some 3), none, []⟩ :: L50_0) T L (rdy h) K := rfl
def L50_2 : List AStep := [⟨.call 127 [(.t 6), (.t 8)], (some 9), none, []⟩, ⟨.not (.t 9), (some 10), none, []⟩]
theorem v50_2 : wpS P L50_2 T L (rdy h) K = wpS P ([⟨.call 127 [(.t 6), (.t 8)], (some 9), none, []⟩, ⟨.not (.t 9), (some 10), none, []⟩]) T L (rdy h) K := rfl
def L50_3 : List AStep := ⟨.faddr 0 (.t 3), (some 7), none, []⟩ :: ⟨.load 1 false (.t 7), (some 8), none, []⟩ :: L50_2
theorem v50_3 : wpS P L50_3 T L (rdy h) K = wpS P (⟨.faddr 0 (.t 3), (some 7), none, []⟩ :: ⟨.load 1 false (.t 7), (some 8), none, []⟩ :: L50_2) T L (rdy h) K := rfl
def L50_4 : List AStep := ⟨.faddr 0 (.t 2), (some 5), none, []⟩ :: ⟨.load 1 false (.t 5), (some 6), none, []⟩ :: L50_3
theorem v50_4 : wpS P L50_4 T L (rdy h) K = wpS P (⟨.faddr 0 (.t 2), (some 5), none, []⟩ :: ⟨.load 1 false (.t 5), (some 6), none, []⟩ :: L50_3) T L (rdy h) K := rfl
def L50_5 : List AStep := [⟨.mov (.c (.bool false)), (some 4), none, []⟩]
theorem v50_5 : wpS P L50_5 T L (rdy h) K = wpS P ([⟨.mov (.c (.bool false)), (some 4), none, []⟩]) T L (rdy h) K := rfl
def L50_6 : List AStep := [⟨.mov (.c (.bool true)), (some 4), none, []⟩]
theorem v50_6 : wpS P L50_6 T L (rdy h) K = wpS P ([⟨.mov (.c (.bool true)), (some 4), none, []⟩]) T L (rdy h) K := rfl
def C50_0 : ACode := .seq (.reg L50_5) .ret
theorem u50_0 : wpC P C50_0 T L (rdy h) Q = wpC P (.seq (.reg L50_5) .ret) T L (rdy h) Q := rfl
def C50_1 : ACode := .cond (.t 10) C50_0 .skip
theorem u50_1 : wpC P C50_1 T L (rdy h) Q = wpC P (.cond (.t 10) C50_0 .skip) T L (rdy h) Q := rfl
def C50_2 : ACode := .seq (.reg L50_4) C50_1
theorem u50_2 : wpC P C50_2 T L (rdy h) Q = wpC P (.seq (.reg L50_4) C50_1) T L (rdy h) Q := rfl
def C50_3 : ACode := .seq (.reg L50_6) .ret
theorem u50_3 : wpC P C50_3 T L (rdy h) Q = wpC P (.seq (.reg L50_6) .ret) T L (rdy h) Q := rfl
def C50_4 : ACode := .seq C50_2 C50_3
theorem u50_4 : wpC P C50_4 T L (rdy h) Q = wpC P (.seq C50_2 C50_3) T L (rdy h) Q := rfl
def C50_5 : ACode := .seq (.reg L50_1) C50_4
theorem u50_5 : wpC P C50_5 T L (rdy h) Q = wpC P (.seq (.reg L50_1) C50_4) T L (rdy h) Q := rfl
def F50 : AFunc := ⟨11, [.tmp 4], C50_5⟩
theorem cF50 : compB Try.prog 50 = some F50 := by kernel_rfl
end
attribute [local go_sem ↓] u50_0 u50_1 u50_2 u50_3 u50_4 u50_5 v50_0 v50_1 v50_2 v50_3 v50_4 v50_5 v50_6
theorem c_eqSignature (l m : List Param) (v w : CV) (h : H) (hl : SlQ h (.one v) l) (hm : SlQ h (.one w) m) (hn : l.length ≤ big) : bm Try.prog 50 [.agg [v], .agg [w]] h = some (ib (decide (l = m)), h) := by
  refine bm_eq cF50 ?_
  simp +contextual (maxSteps := 2000000) only [go_sem, Nat.reduceEqDiff, reduceCtorEq, Nat.reduceAdd, Nat.reduceLeDiff, F50, c_eqParamS _ _ _ _ _ hl hm hn]
  try ((repeat' (first | refine And.intro ?_ ?_ | intro _)) <;> first | simp_all)
end Go.Proofs.Ytnphlonhogcedaa.Am
