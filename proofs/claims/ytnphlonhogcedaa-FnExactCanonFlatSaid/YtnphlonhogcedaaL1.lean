/- Contracts of the laws: comparisons. -/
import Derived.Test.YtnphlonhogcedaaDat
namespace Go.Proofs.Ytnphlonhogcedaa.Am
open Go
set_option maxRecDepth 100000
set_option maxHeartbeats 4000000
set_option linter.unusedSimpArgs false
set_option linter.unusedVariables false
attribute [local go_sem ↓] bv_t bv_c ev_t ev_c put_same put_ne put_none kill_at pro_at lb_same lb_ne start_zero start_succ wpC_seq wpC_reg wpC_cond wpC_block wpC_skip wpC_exit wpC_ret thenQ_normal thenQ_exit thenQ_ret inBlk_normal inBlk_exit inBlk_ret wpS_nil wpS_step wpS_again wpS_guard wpO_mov wpO_load wpO_faddr wpO_nilCheck wpO_pick wpO_build wpO_bin wpO_eqb wpO_eqst wpO_eqnil wpO_not wpO_conv wpO_bytesStr wpO_iaddr wpO_idxStr wpO_field wpO_extract wpO_len wpO_lenStr wpO_cap wpO_min wpO_slice wpO_sliceStr wpO_alloc wpO_box wpO_store wpO_call wpO_callv wpO_mkfn wpO_buildSlice wpO_mkslice wpO_append wpO_appz proA_nil proA_cons tmpX_nil tmpX_tmp tmpX_cell doneB_normal doneB_ret agK_cons agK_nil pureB_load results_one results_two results_nil resBs_cons resBs_nil resB_tmp resB_cell
attribute [local go_sem] kill_v kill_lp_ne kill_lp_same pro_v pro_lp_same pro_lp_ne av_v av_lp optB_some optX_some valX_eq ldX_lp ldX_v faX_lp faX_v ncX_lp ncX_ptr ncX_fn boxK_one boxK_agg stL_some stK_lp_one stK_lp_agg stK_v_one stK_v_agg proM_v proM_lp callG_mk callVG_mk callvK_fn fnG_mk ptrsA_nil ptrsA_cons callH_some whenA_true whenA_false guardH_tt guardH_ff guardH_tf guardH_ft guardH_undef agV_one agV_agg lenO_sl lenStrO_str notO_bool pickO_bool convO_int eqbO_bool eqnilO_sl extractO_tup capO_sl minO_int loadL_one loadL_all storeL_eq fillA_nil fillA_one fillA_agg nat_ge neg_ge nat_lt neg_lt buildO bin_add bin_sub bin_mul bin_eql bin_neq bin_lss bin_leq bin_gtr bin_geq str_eql str_neq str_lss str_leq str_gtr str_geq retK_some endK_mk gcK_same gcK_int gcK_bool tupO_one tupO_agg rdy_self ib ii Option.map_none Option.map_some Option.some.injEq exists_eq_left' exists_eq_left ne_eq not_false_eq_true if_true if_false List.map_cons List.map_nil List.getElem?_cons_zero List.getElem?_cons_succ List.length_cons List.length_nil List.take_succ_cons List.take_zero List.take_nil List.drop_succ_cons List.drop_zero List.drop_nil List.cons_append List.nil_append List.append_nil List.set_cons_zero List.set_cons_succ Nat.zero_add forall_const true_and and_true and_self Bool.false_eq_true false_implies true_implies implies_true Bool.not_true Bool.not_false Bool.not_eq_true' Bool.not_eq_false' beq_self_eq_true Bool.bne_true Bool.bne_false
attribute [local go_sem] lenI lenS lenP lenQ lenB lenL lenT encI_0 encS_0 encP_0 encP_1 encQ_0 encQ_1 encQ_2 encQ_3 encB_0 encB_1 encL_0 encL_1 encT_0 encT_1
attribute [local go_sem low] whenA_bool guardH_bool
section
variable {P : Program} {T : Tb} {L : Lb} {h : H} {Q : PostC} {K : Post}
/-! laws.eqParam -/
def L195_0 : List AStep := [⟨.mov (.c (.bool false)), (some 4), none, []⟩]
theorem v195_0 : wpS P L195_0 T L (rdy h) K = wpS P ([⟨.mov (.c (.bool false)), (some 4), none, []⟩]) T L (rdy h) K := rfl
def L195_1 : List AStep := ⟨.box 108 (.t 0), (some 2), none, []⟩ :: ⟨.box 108 (.t 1), (some 3), none, []⟩ :: L195_0
theorem v195_1 : wpS P L195_1 T L (rdy h) K = wpS P (⟨.box 108 (.t 0), (some 2), none, []⟩ :: ⟨.box 108 (.t 1), (some 3), none, []⟩ :: L195_0) T L (rdy h) K := rfl
def L195_2 : List AStep := [⟨.bin .neq (.t 6) (.t 8), (some 9), none, []⟩]
theorem v195_2 : wpS P L195_2 T L (rdy h) K = wpS P ([⟨.bin .neq (.t 6) (.t 8), (some 9), none, []⟩]) T L (rdy h) K := rfl
def L195_3 : List AStep := ⟨.faddr 0 (.t 3), (some 7), none, []⟩ :: ⟨.load 1 false (.t 7), (some 8), none, []⟩ :: L195_2
theorem v195_3 : wpS P L195_3 T L (rdy h) K = wpS P (⟨.faddr 0 (.t 3), (some 7), none, []⟩ :: ⟨.load 1 false (.t 7), (some 8), none, []⟩ :: L195_2) T L (rdy h) K := rfl
def L195_4 : List AStep := ⟨.faddr 0 (.t 2), (some 5), none, []⟩ :: ⟨.load 1 false (.t 5), (some 6), none, []⟩ :: L195_3
theorem v195_4 : wpS P L195_4 T L (rdy h) K = wpS P (⟨.faddr 0 (.t 2), (some 5), none, []⟩ :: ⟨.load 1 false (.t 5), (some 6), none, []⟩ :: L195_3) T L (rdy h) K := rfl
def L195_5 : List AStep := [⟨.mov (.c (.bool false)), (some 4), none, []⟩]
theorem v195_5 : wpS P L195_5 T L (rdy h) K = wpS P ([⟨.mov (.c (.bool false)), (some 4), none, []⟩]) T L (rdy h) K := rfl
def L195_6 : List AStep := [⟨.bin .neq (.t 11) (.t 13), (some 14), none, []⟩]
theorem v195_6 : wpS P L195_6 T L (rdy h) K = wpS P ([⟨.bin .neq (.t 11) (.t 13), (some 14), none, []⟩]) T L (rdy h) K := rfl
def L195_7 : List AStep := ⟨.faddr 1 (.t 3), (some 12), none, []⟩ :: ⟨.load 1 false (.t 12), (some 13), none, []⟩ :: L195_6
theorem v195_7 : wpS P L195_7 T L (rdy h) K = wpS P (⟨.faddr 1 (.t 3), (some 12), none, []⟩ :: ⟨.load 1 false (.t 12), (some 13), none, []⟩ :: L195_6) T L (rdy h) K := rfl
def L195_8 : List AStep := ⟨.faddr 1 (.t 2), (some 10), none, []⟩ :: ⟨.load 1 false (.t 10), (some 11), none, []⟩ :: L195_7
theorem v195_8 : wpS P L195_8 T L (rdy h) K = wpS P (⟨.faddr 1 (.t 2), (some 10), none, []⟩ :: ⟨.load 1 false (.t 10), (some 11), none, []⟩ :: L195_7) T L (rdy h) K := rfl
def L195_9 : List AStep := [⟨.mov (.c (.bool false)), (some 4), none, []⟩]
theorem v195_9 : wpS P L195_9 T L (rdy h) K = wpS P ([⟨.mov (.c (.bool false)), (some 4), none, []⟩]) T L (rdy h) K := rfl
def L195_10 : List AStep := [⟨.eqb true (.t 16) (.t 18), (some 19), none, []⟩]
theorem v195_10 : wpS P L195_10 T L (rdy h) K = wpS P ([⟨.eqb true (.t 16) (.t 18), (some 19), none, []⟩]) T L (rdy h) K := rfl
def L195_11 : List AStep := ⟨.faddr 2 (.t 3), (some 17), none, []⟩ :: ⟨.load 1 false (.t 17), (some 18), none, []⟩ :: L195_10
theorem v195_11 : wpS P L195_11 T L (rdy h) K = wpS P (⟨.faddr 2 (.t 3), (some 17), none, []⟩ :: ⟨.load 1 false (.t 17), (some 18), none, []⟩ :: L195_10) T L (rdy h) K := rfl
def L195_12 : List AStep := ⟨.faddr 2 (.t 2), (some 15), none, []⟩ :: ⟨.load 1 false (.t 15), (some 16), none, []⟩ :: L195_11
theorem v195_12 : wpS P L195_12 T L (rdy h) K = wpS P (⟨.faddr 2 (.t 2), (some 15), none, []⟩ :: ⟨.load 1 false (.t 15), (some 16), none, []⟩ :: L195_11) T L (rdy h) K := rfl
def L195_13 : List AStep := [⟨.mov (.c (.bool false)), (some 4), none, []⟩]
theorem v195_13 : wpS P L195_13 T L (rdy h) K = wpS P ([⟨.mov (.c (.bool false)), (some 4), none, []⟩]) T L (rdy h) K := rfl
def L195_14 : List AStep := [⟨.bin .neq (.t 21) (.t 23), (some 24), none, []⟩]
theorem v195_14 : wpS P L195_14 T L (rdy h) K = wpS P ([⟨.bin .neq (.t 21) (.t 23), (some 24), none, []⟩]) T L (rdy h) K := rfl
def L195_15 : List AStep := ⟨.faddr 3 (.t 3), (some 22), none, []⟩ :: ⟨.load 1 false (.t 22), (some 23), none, []⟩ :: L195_14
theorem v195_15 : wpS P L195_15 T L (rdy h) K = wpS P (⟨.faddr 3 (.t 3), (some 22), none, []⟩ :: ⟨.load 1 false (.t 22), (some 23), none, []⟩ :: L195_14) T L (rdy h) K := rfl
def L195_16 : List AStep := ⟨.faddr 3 (.t 2), (some 20), none, []⟩ :: ⟨.load 1 false (.t 20), (some 21), none, []⟩ :: L195_15
theorem v195_16 : wpS P L195_16 T L (rdy h) K = wpS P (⟨.faddr 3 (.t 2), (some 20), none, []⟩ :: ⟨.load 1 false (.t 20), (some 21), none, []⟩ :: L195_15) T L (rdy h) K := rfl
def L195_17 : List AStep := [⟨.mov (.c (.bool false)), (some 4), none, []⟩]
theorem v195_17 : wpS P L195_17 T L (rdy h) K = wpS P ([⟨.mov (.c (.bool false)), (some 4), none, []⟩]) T L (rdy h) K := rfl
def L195_18 : List AStep := [⟨.mov (.c (.bool true)), (some 4), none, []⟩]
theorem v195_18 : wpS P L195_18 T L (rdy h) K = wpS P ([⟨.mov (.c (.bool true)), (some 4), none, []⟩]) T L (rdy h) K := rfl
def C195_0 : ACode := .seq (.reg L195_5) .ret
theorem u195_0 : wpC P C195_0 T L (rdy h) Q = wpC P (.seq (.reg L195_5) .ret) T L (rdy h) Q := rfl
def C195_1 : ACode := .cond (.t 9) C195_0 .skip
theorem u195_1 : wpC P C195_1 T L (rdy h) Q = wpC P (.cond (.t 9) C195_0 .skip) T L (rdy h) Q := rfl
def C195_2 : ACode := .seq (.reg L195_4) C195_1
theorem u195_2 : wpC P C195_2 T L (rdy h) Q = wpC P (.seq (.reg L195_4) C195_1) T L (rdy h) Q := rfl
def C195_3 : ACode := .seq (.reg L195_9) .ret
theorem u195_3 : wpC P C195_3 T L (rdy h) Q = wpC P (.seq (.reg L195_9) .ret) T L (rdy h) Q := rfl
def C195_4 : ACode := .cond (.t 14) C195_3 .skip
theorem u195_4 : wpC P C195_4 T L (rdy h) Q = wpC P (.cond (.t 14) C195_3 .skip) T L (rdy h) Q := rfl
def C195_5 : ACode := .seq (.reg L195_8) C195_4
theorem u195_5 : wpC P C195_5 T L (rdy h) Q = wpC P (.seq (.reg L195_8) C195_4) T L (rdy h) Q := rfl
def C195_6 : ACode := .seq (.reg L195_13) .ret
theorem u195_6 : wpC P C195_6 T L (rdy h) Q = wpC P (.seq (.reg L195_13) .ret) T L (rdy h) Q := rfl
def C195_7 : ACode := .cond (.t 19) C195_6 .skip
theorem u195_7 : wpC P C195_7 T L (rdy h) Q = wpC P (.cond (.t 19) C195_6 .skip) T L (rdy h) Q := rfl
def C195_8 : ACode := .seq (.reg L195_12) C195_7
theorem u195_8 : wpC P C195_8 T L (rdy h) Q = wpC P (.seq (.reg L195_12) C195_7) T L (rdy h) Q := rfl
def C195_9 : ACode := .seq (.reg L195_17) .ret
theorem u195_9 : wpC P C195_9 T L (rdy h) Q = wpC P (.seq (.reg L195_17) .ret) T L (rdy h) Q := rfl
def C195_10 : ACode := .cond (.t 24) C195_9 .skip
theorem u195_10 : wpC P C195_10 T L (rdy h) Q = wpC P (.cond (.t 24) C195_9 .skip) T L (rdy h) Q := rfl
def C195_11 : ACode := .seq (.reg L195_16) C195_10
theorem u195_11 : wpC P C195_11 T L (rdy h) Q = wpC P (.seq (.reg L195_16) C195_10) T L (rdy h) Q := rfl
def C195_12 : ACode := .seq (.reg L195_18) .ret
theorem u195_12 : wpC P C195_12 T L (rdy h) Q = wpC P (.seq (.reg L195_18) .ret) T L (rdy h) Q := rfl
def C195_13 : ACode := .seq C195_11 C195_12
theorem u195_13 : wpC P C195_13 T L (rdy h) Q = wpC P (.seq C195_11 C195_12) T L (rdy h) Q := rfl
def C195_14 : ACode := .seq C195_8 C195_13
theorem u195_14 : wpC P C195_14 T L (rdy h) Q = wpC P (.seq C195_8 C195_13) T L (rdy h) Q := rfl
def C195_15 : ACode := .seq C195_5 C195_14
theorem u195_15 : wpC P C195_15 T L (rdy h) Q = wpC P (.seq C195_5 C195_14) T L (rdy h) Q := rfl
def C195_16 : ACode := .seq C195_2 C195_15
theorem u195_16 : wpC P C195_16 T L (rdy h) Q = wpC P (.seq C195_2 C195_15) T L (rdy h) Q := rfl
def C195_17 : ACode := .seq (.reg L195_1) C195_16
theorem u195_17 : wpC P C195_17 T L (rdy h) Q = wpC P (.seq (.reg L195_1) C195_16) T L (rdy h) Q := rfl
def F195 : AFunc := ⟨25, [.tmp 4], C195_17⟩
theorem cF195 : compB Try.prog 195 = some F195 := by kernel_rfl
end
attribute [local go_sem ↓] u195_0 u195_1 u195_2 u195_3 u195_4 u195_5 u195_6 u195_7 u195_8 u195_9 u195_10 u195_11 u195_12 u195_13 u195_14 u195_15 u195_16 u195_17 v195_0 v195_1 v195_2 v195_3 v195_4 v195_5 v195_6 v195_7 v195_8 v195_9 v195_10 v195_11 v195_12 v195_13 v195_14 v195_15 v195_16 v195_17 v195_18
theorem c_eqParam (p q : Param) (h : H) : bm Try.prog 195 [.agg (encQ p), .agg (encQ q)] h = some (ib (decide (p = q)), h) := by
  refine bm_eq cF195 ?_
  obtain ⟨n1, k1, d1, v1⟩ := p
  obtain ⟨n2, k2, d2, v2⟩ := q
  simp +contextual (maxSteps := 2000000) only [go_sem, Nat.reduceEqDiff, reduceCtorEq, Nat.reduceAdd, Nat.reduceLeDiff, F195, Param.mk.injEq]
  try ((repeat' (first | refine And.intro ?_ ?_ | intro _)) <;> first | simp_all)
section
variable {P : Program} {T : Tb} {L : Lb} {h : H} {Q : PostC} {K : Post}
/-! laws.eqPair -/
def L186_0 : List AStep := [⟨.mov (.c (.bool false)), (some 4), none, []⟩]
theorem v186_0 : wpS P L186_0 T L (rdy h) K = wpS P ([⟨.mov (.c (.bool false)), (some 4), none, []⟩]) T L (rdy h) K := rfl
def L186_1 : List AStep := ⟨.box 86 (.t 0), (some 2), none, []⟩ :: ⟨.box 86 (.t 1), (some 3), none, []⟩ :: L186_0
theorem v186_1 : wpS P L186_1 T L (rdy h) K = wpS P (⟨.box 86 (.t 0), (some 2), none, []⟩ :: ⟨.box 86 (.t 1), (some 3), none, []⟩ :: L186_0) T L (rdy h) K := rfl
def L186_2 : List AStep := [⟨.bin .neq (.t 6) (.t 8), (some 9), none, []⟩]
theorem v186_2 : wpS P L186_2 T L (rdy h) K = wpS P ([⟨.bin .neq (.t 6) (.t 8), (some 9), none, []⟩]) T L (rdy h) K := rfl
def L186_3 : List AStep := ⟨.faddr 0 (.t 3), (some 7), none, []⟩ :: ⟨.load 1 false (.t 7), (some 8), none, []⟩ :: L186_2
theorem v186_3 : wpS P L186_3 T L (rdy h) K = wpS P (⟨.faddr 0 (.t 3), (some 7), none, []⟩ :: ⟨.load 1 false (.t 7), (some 8), none, []⟩ :: L186_2) T L (rdy h) K := rfl
def L186_4 : List AStep := ⟨.faddr 0 (.t 2), (some 5), none, []⟩ :: ⟨.load 1 false (.t 5), (some 6), none, []⟩ :: L186_3
theorem v186_4 : wpS P L186_4 T L (rdy h) K = wpS P (⟨.faddr 0 (.t 2), (some 5), none, []⟩ :: ⟨.load 1 false (.t 5), (some 6), none, []⟩ :: L186_3) T L (rdy h) K := rfl
def L186_5 : List AStep := [⟨.mov (.c (.bool false)), (some 4), none, []⟩]
theorem v186_5 : wpS P L186_5 T L (rdy h) K = wpS P ([⟨.mov (.c (.bool false)), (some 4), none, []⟩]) T L (rdy h) K := rfl
def L186_6 : List AStep := [⟨.bin .neq (.t 11) (.t 13), (some 14), none, []⟩]
theorem v186_6 : wpS P L186_6 T L (rdy h) K = wpS P ([⟨.bin .neq (.t 11) (.t 13), (some 14), none, []⟩]) T L (rdy h) K := rfl
def L186_7 : List AStep := ⟨.faddr 1 (.t 3), (some 12), none, []⟩ :: ⟨.load 1 false (.t 12), (some 13), none, []⟩ :: L186_6
theorem v186_7 : wpS P L186_7 T L (rdy h) K = wpS P (⟨.faddr 1 (.t 3), (some 12), none, []⟩ :: ⟨.load 1 false (.t 12), (some 13), none, []⟩ :: L186_6) T L (rdy h) K := rfl
def L186_8 : List AStep := ⟨.faddr 1 (.t 2), (some 10), none, []⟩ :: ⟨.load 1 false (.t 10), (some 11), none, []⟩ :: L186_7
theorem v186_8 : wpS P L186_8 T L (rdy h) K = wpS P (⟨.faddr 1 (.t 2), (some 10), none, []⟩ :: ⟨.load 1 false (.t 10), (some 11), none, []⟩ :: L186_7) T L (rdy h) K := rfl
def L186_9 : List AStep := [⟨.mov (.c (.bool false)), (some 4), none, []⟩]
theorem v186_9 : wpS P L186_9 T L (rdy h) K = wpS P ([⟨.mov (.c (.bool false)), (some 4), none, []⟩]) T L (rdy h) K := rfl
def L186_10 : List AStep := [⟨.mov (.c (.bool true)), (some 4), none, []⟩]
theorem v186_10 : wpS P L186_10 T L (rdy h) K = wpS P ([⟨.mov (.c (.bool true)), (some 4), none, []⟩]) T L (rdy h) K := rfl
def C186_0 : ACode := .seq (.reg L186_5) .ret
theorem u186_0 : wpC P C186_0 T L (rdy h) Q = wpC P (.seq (.reg L186_5) .ret) T L (rdy h) Q := rfl
def C186_1 : ACode := .cond (.t 9) C186_0 .skip
theorem u186_1 : wpC P C186_1 T L (rdy h) Q = wpC P (.cond (.t 9) C186_0 .skip) T L (rdy h) Q := rfl
def C186_2 : ACode := .seq (.reg L186_4) C186_1
theorem u186_2 : wpC P C186_2 T L (rdy h) Q = wpC P (.seq (.reg L186_4) C186_1) T L (rdy h) Q := rfl
def C186_3 : ACode := .seq (.reg L186_9) .ret
theorem u186_3 : wpC P C186_3 T L (rdy h) Q = wpC P (.seq (.reg L186_9) .ret) T L (rdy h) Q := rfl
def C186_4 : ACode := .cond (.t 14) C186_3 .skip
theorem u186_4 : wpC P C186_4 T L (rdy h) Q = wpC P (.cond (.t 14) C186_3 .skip) T L (rdy h) Q := rfl
def C186_5 : ACode := .seq (.reg L186_8) C186_4
theorem u186_5 : wpC P C186_5 T L (rdy h) Q = wpC P (.seq (.reg L186_8) C186_4) T L (rdy h) Q := rfl
def C186_6 : ACode := .seq (.reg L186_10) .ret
theorem u186_6 : wpC P C186_6 T L (rdy h) Q = wpC P (.seq (.reg L186_10) .ret) T L (rdy h) Q := rfl
def C186_7 : ACode := .seq C186_5 C186_6
theorem u186_7 : wpC P C186_7 T L (rdy h) Q = wpC P (.seq C186_5 C186_6) T L (rdy h) Q := rfl
def C186_8 : ACode := .seq C186_2 C186_7
theorem u186_8 : wpC P C186_8 T L (rdy h) Q = wpC P (.seq C186_2 C186_7) T L (rdy h) Q := rfl
def C186_9 : ACode := .seq (.reg L186_1) C186_8
theorem u186_9 : wpC P C186_9 T L (rdy h) Q = wpC P (.seq (.reg L186_1) C186_8) T L (rdy h) Q := rfl
def F186 : AFunc := ⟨15, [.tmp 4], C186_9⟩
theorem cF186 : compB Try.prog 186 = some F186 := by kernel_rfl
end
attribute [local go_sem ↓] u186_0 u186_1 u186_2 u186_3 u186_4 u186_5 u186_6 u186_7 u186_8 u186_9 v186_0 v186_1 v186_2 v186_3 v186_4 v186_5 v186_6 v186_7 v186_8 v186_9 v186_10
theorem c_eqPair (p q : Pair) (h : H) : bm Try.prog 186 [.agg (encP p), .agg (encP q)] h = some (ib (decide (p = q)), h) := by
  refine bm_eq cF186 ?_
  obtain ⟨n1, k1⟩ := p
  obtain ⟨n2, k2⟩ := q
  simp +contextual (maxSteps := 2000000) only [go_sem, Nat.reduceEqDiff, reduceCtorEq, Nat.reduceAdd, Nat.reduceLeDiff, F186, Pair.mk.injEq]
  try ((repeat' (first | refine And.intro ?_ ?_ | intro _)) <;> first | simp_all)
section
variable {P : Program} {T : Tb} {L : Lb} {h : H} {Q : PostC} {K : Post}
/-! laws.eqIntS -/
def L110_0 : List AStep := [⟨.mov (.c (.bool false)), (some 4), none, []⟩]
theorem v110_0 : wpS P L110_0 T L (rdy h) K = wpS P ([⟨.mov (.c (.bool false)), (some 4), none, []⟩]) T L (rdy h) K := rfl
def L110_1 : List AStep := [⟨.bin .neq (.t 7) (.t 9), (some 10), none, []⟩]
theorem v110_1 : wpS P L110_1 T L (rdy h) K = wpS P ([⟨.bin .neq (.t 7) (.t 9), (some 10), none, []⟩]) T L (rdy h) K := rfl
def L110_2 : List AStep := ⟨.mov (.t 1), (some 8), none, []⟩ :: ⟨.len (.t 8), (some 9), none, []⟩ :: L110_1
theorem v110_2 : wpS P L110_2 T L (rdy h) K = wpS P (⟨.mov (.t 1), (some 8), none, []⟩ :: ⟨.len (.t 8), (some 9), none, []⟩ :: L110_1) T L (rdy h) K := rfl
def L110_3 : List AStep := ⟨.mov (.t 0), (some 6), none, []⟩ :: ⟨.len (.t 6), (some 7), none, []⟩ :: L110_2
theorem v110_3 : wpS P L110_3 T L (rdy h) K = wpS P (⟨.mov (.t 0), (some 6), none, []⟩ :: ⟨.len (.t 6), (some 7), none, []⟩ :: L110_2) T L (rdy h) K := rfl
def L110_4 : List AStep := [⟨.mov (.c (.bool false)), (some 4), none, []⟩]
theorem v110_4 : wpS P L110_4 T L (rdy h) K = wpS P ([⟨.mov (.c (.bool false)), (some 4), none, []⟩]) T L (rdy h) K := rfl
def L110_5 : List AStep := [⟨.mov (.c (.int .i64 0)), (some 5), none, []⟩]
theorem v110_5 : wpS P L110_5 T L (rdy h) K = wpS P ([⟨.mov (.c (.int .i64 0)), (some 5), none, []⟩]) T L (rdy h) K := rfl
def L110_6 : List AStep := [⟨.len (.t 12), (some 13), none, []⟩, ⟨.bin .lss (.t 11) (.t 13), (some 14), none, []⟩]
theorem v110_6 : wpS P L110_6 T L (rdy h) K = wpS P ([⟨.len (.t 12), (some 13), none, []⟩, ⟨.bin .lss (.t 11) (.t 13), (some 14), none, []⟩]) T L (rdy h) K := rfl
def L110_7 : List AStep := ⟨.mov (.t 5), (some 11), none, []⟩ :: ⟨.mov (.t 0), (some 12), none, []⟩ :: L110_6
theorem v110_7 : wpS P L110_7 T L (rdy h) K = wpS P (⟨.mov (.t 5), (some 11), none, []⟩ :: ⟨.mov (.t 0), (some 12), none, []⟩ :: L110_6) T L (rdy h) K := rfl
def L110_8 : List AStep := [⟨.bin .neq (.t 20) (.t 24), (some 25), none, []⟩]
theorem v110_8 : wpS P L110_8 T L (rdy h) K = wpS P ([⟨.bin .neq (.t 20) (.t 24), (some 25), none, []⟩]) T L (rdy h) K := rfl
def L110_9 : List AStep := ⟨.iaddr 1 (.t 21) (.t 22), (some 23), none, []⟩ :: ⟨.load 1 false (.t 23), (some 24), none, []⟩ :: L110_8
theorem v110_9 : wpS P L110_9 T L (rdy h) K = wpS P (⟨.iaddr 1 (.t 21) (.t 22), (some 23), none, []⟩ :: ⟨.load 1 false (.t 23), (some 24), none, []⟩ :: L110_8) T L (rdy h) K := rfl
def L110_10 : List AStep := ⟨.mov (.t 1), (some 21), none, []⟩ :: ⟨.mov (.t 5), (some 22), none, []⟩ :: L110_9
theorem v110_10 : wpS P L110_10 T L (rdy h) K = wpS P (⟨.mov (.t 1), (some 21), none, []⟩ :: ⟨.mov (.t 5), (some 22), none, []⟩ :: L110_9) T L (rdy h) K := rfl
def L110_11 : List AStep := ⟨.iaddr 1 (.t 17) (.t 18), (some 19), none, []⟩ :: ⟨.load 1 false (.t 19), (some 20), none, []⟩ :: L110_10
theorem v110_11 : wpS P L110_11 T L (rdy h) K = wpS P (⟨.iaddr 1 (.t 17) (.t 18), (some 19), none, []⟩ :: ⟨.load 1 false (.t 19), (some 20), none, []⟩ :: L110_10) T L (rdy h) K := rfl
def L110_12 : List AStep := ⟨.mov (.t 0), (some 17), none, []⟩ :: ⟨.mov (.t 5), (some 18), none, []⟩ :: L110_11
theorem v110_12 : wpS P L110_12 T L (rdy h) K = wpS P (⟨.mov (.t 0), (some 17), none, []⟩ :: ⟨.mov (.t 5), (some 18), none, []⟩ :: L110_11) T L (rdy h) K := rfl
def L110_13 : List AStep := [⟨.mov (.c (.bool false)), (some 4), none, []⟩]
theorem v110_13 : wpS P L110_13 T L (rdy h) K = wpS P ([⟨.mov (.c (.bool false)), (some 4), none, []⟩]) T L (rdy h) K := rfl
def L110_14 : List AStep := [⟨.mov (.t 16), (some 5), none, []⟩]
theorem v110_14 : wpS P L110_14 T L (rdy h) K = wpS P ([⟨.mov (.t 16), (some 5), none, []⟩]) T L (rdy h) K := rfl
def L110_15 : List AStep := ⟨.mov (.t 5), (some 15), none, []⟩ :: ⟨.bin .add (.t 15) (.c (.int .i64 1)), (some 16), none, []⟩ :: L110_14
theorem v110_15 : wpS P L110_15 T L (rdy h) K = wpS P (⟨.mov (.t 5), (some 15), none, []⟩ :: ⟨.bin .add (.t 15) (.c (.int .i64 1)), (some 16), none, []⟩ :: L110_14) T L (rdy h) K := rfl
def L110_16 : List AStep := [⟨.mov (.c (.bool true)), (some 4), none, []⟩]
theorem v110_16 : wpS P L110_16 T L (rdy h) K = wpS P ([⟨.mov (.c (.bool true)), (some 4), none, []⟩]) T L (rdy h) K := rfl
def C110_0 : ACode := .seq (.reg L110_4) .ret
theorem u110_0 : wpC P C110_0 T L (rdy h) Q = wpC P (.seq (.reg L110_4) .ret) T L (rdy h) Q := rfl
def C110_1 : ACode := .cond (.t 10) C110_0 .skip
theorem u110_1 : wpC P C110_1 T L (rdy h) Q = wpC P (.cond (.t 10) C110_0 .skip) T L (rdy h) Q := rfl
def C110_2 : ACode := .seq (.reg L110_3) C110_1
theorem u110_2 : wpC P C110_2 T L (rdy h) Q = wpC P (.seq (.reg L110_3) C110_1) T L (rdy h) Q := rfl
def C110_3 : ACode := .cond (.t 14) .skip (.exit 0)
theorem u110_3 : wpC P C110_3 T L (rdy h) Q = wpC P (.cond (.t 14) .skip (.exit 0)) T L (rdy h) Q := rfl
def C110_4 : ACode := .seq (.reg L110_7) C110_3
theorem u110_4 : wpC P C110_4 T L (rdy h) Q = wpC P (.seq (.reg L110_7) C110_3) T L (rdy h) Q := rfl
def C110_5 : ACode := .seq (.reg L110_13) .ret
theorem u110_5 : wpC P C110_5 T L (rdy h) Q = wpC P (.seq (.reg L110_13) .ret) T L (rdy h) Q := rfl
def C110_6 : ACode := .cond (.t 25) C110_5 .skip
theorem u110_6 : wpC P C110_6 T L (rdy h) Q = wpC P (.cond (.t 25) C110_5 .skip) T L (rdy h) Q := rfl
def C110_7 : ACode := .seq (.reg L110_12) C110_6
theorem u110_7 : wpC P C110_7 T L (rdy h) Q = wpC P (.seq (.reg L110_12) C110_6) T L (rdy h) Q := rfl
def C110_8 : ACode := .block 1 C110_7
theorem u110_8 : wpC P C110_8 T L (rdy h) Q = wpC P (.block 1 C110_7) T L (rdy h) Q := rfl
def C110_9 : ACode := .seq C110_8 (.reg L110_15)
theorem u110_9 : wpC P C110_9 T L (rdy h) Q = wpC P (.seq C110_8 (.reg L110_15)) T L (rdy h) Q := rfl
def C110_10 : ACode := .seq C110_4 C110_9
theorem u110_10 : wpC P C110_10 T L (rdy h) Q = wpC P (.seq C110_4 C110_9) T L (rdy h) Q := rfl
def C110_11 : ACode := .block 0 (.loop C110_10)
theorem u110_11 : wpC P C110_11 T L (rdy h) Q = wpC P (.block 0 (.loop C110_10)) T L (rdy h) Q := rfl
def C110_12 : ACode := .seq (.reg L110_5) C110_11
theorem u110_12 : wpC P C110_12 T L (rdy h) Q = wpC P (.seq (.reg L110_5) C110_11) T L (rdy h) Q := rfl
def C110_13 : ACode := .seq (.reg L110_16) .ret
theorem u110_13 : wpC P C110_13 T L (rdy h) Q = wpC P (.seq (.reg L110_16) .ret) T L (rdy h) Q := rfl
def C110_14 : ACode := .seq C110_12 C110_13
theorem u110_14 : wpC P C110_14 T L (rdy h) Q = wpC P (.seq C110_12 C110_13) T L (rdy h) Q := rfl
def C110_15 : ACode := .seq C110_2 C110_14
theorem u110_15 : wpC P C110_15 T L (rdy h) Q = wpC P (.seq C110_2 C110_14) T L (rdy h) Q := rfl
def C110_16 : ACode := .seq (.reg L110_0) C110_15
theorem u110_16 : wpC P C110_16 T L (rdy h) Q = wpC P (.seq (.reg L110_0) C110_15) T L (rdy h) Q := rfl
def F110 : AFunc := ⟨26, [.tmp 4], C110_16⟩
theorem cF110 : compB Try.prog 110 = some F110 := by kernel_rfl
end
attribute [local go_sem ↓] u110_0 u110_1 u110_2 u110_3 u110_4 u110_5 u110_6 u110_7 u110_8 u110_9 u110_10 u110_11 u110_12 u110_13 u110_14 u110_15 u110_16 v110_0 v110_1 v110_2 v110_3 v110_4 v110_5 v110_6 v110_7 v110_8 v110_9 v110_10 v110_11 v110_12 v110_13 v110_14 v110_15 v110_16
theorem c_eqIntS (l m : List Int) (v w : AV) (h : H) (hl : SlI h v l) (hm : SlI h w m) (hn : l.length ≤ big) : bm Try.prog 110 [v, w] h = some (ib (decide (l = m)), h) := by
  refine bm_eq cF110 ?_
  by_cases hlen : l.length = m.length
  case neg =>
    have e1 : decide ((l.length : Int) = (m.length : Int)) = false := decide_eq_false (by omega)
    simp +contextual (maxSteps := 2000000) only [go_sem, Nat.reduceEqDiff, reduceCtorEq, Nat.reduceAdd, Nat.reduceLeDiff, F110, hl.len, hm.len, e1]
    rw [ne_len e1]
  have e1 : decide ((l.length : Int) = (m.length : Int)) = true := decide_eq_true (by omega)
  simp +contextual (maxSteps := 2000000) only [go_sem, Nat.reduceEqDiff, reduceCtorEq, Nat.reduceAdd, Nat.reduceLeDiff, F110, hl.len, hm.len, e1]
  refine wpC_loop (fun i T L h' => h' = h ∧ T 0 = .v v ∧ T 1 = .v w ∧ T 5 = .v (.one (.int .i64 i)) ∧ Upto (eqAt l m) i) l.length ?_ ?_ (Nat.zero_le _) ?_
  · rintro i T L h' hi ⟨rfl, t0, t1, t5, hu⟩
    have him : i < m.length := by omega
    have e2 := eqAt_eq hi him
    simp +contextual (maxSteps := 2000000) only [go_sem, Nat.reduceEqDiff, reduceCtorEq, Nat.reduceAdd, Nat.reduceLeDiff, t0, t1, t5, hl.len, hm.len, hl.iaddr hi, hm.iaddr him, hl.oneO hi, hm.oneO him, lt_true hi]
    (repeat' (first | refine And.intro ?_ ?_ | intro _)) <;> first | rfl | rw [wrap_next hi (big_lt hn)] | (refine hu.next ?_; rw [e2]; (simp_all; done)) | (rw [ne_at (l := l) (m := m) (i := i)]; rw [e2]; (simp_all; done))
  · rintro T L h' ⟨rfl, t0, t1, t5, hu⟩
    simp +contextual (maxSteps := 2000000) only [go_sem, Nat.reduceEqDiff, reduceCtorEq, Nat.reduceAdd, Nat.reduceLeDiff, t0, t1, t5, hl.len, hm.len, lt_false, decide_eq_true (eq_of_upto hlen hu)]
  · simp +contextual (maxSteps := 2000000) only [go_sem, Nat.reduceEqDiff, reduceCtorEq, Nat.reduceAdd, Nat.reduceLeDiff]
    (repeat' (first | refine And.intro ?_ ?_ | intro _)) <;> first | rfl | exact Upto.zero
section
variable {P : Program} {T : Tb} {L : Lb} {h : H} {Q : PostC} {K : Post}
/-! laws.eqParamS -/
def L127_0 : List AStep := [⟨.mov (.c (.bool false)), (some 4), none, []⟩]
theorem v127_0 : wpS P L127_0 T L (rdy h) K = wpS P ([⟨.mov (.c (.bool false)), (some 4), none, []⟩]) T L (rdy h) K := rfl
def L127_1 : List AStep := [⟨.bin .neq (.t 7) (.t 9), (some 10), none, []⟩]
theorem v127_1 : wpS P L127_1 T L (rdy h) K = wpS P ([⟨.bin .neq (.t 7) (.t 9), (some 10), none, []⟩]) T L (rdy h) K := rfl
def L127_2 : List AStep := ⟨.mov (.t 1), (some 8), none, []⟩ :: ⟨.len (.t 8), (some 9), none, []⟩ :: L127_1
theorem v127_2 : wpS P L127_2 T L (rdy h) K = wpS P (⟨.mov (.t 1), (some 8), none, []⟩ :: ⟨.len (.t 8), (some 9), none, []⟩ :: L127_1) T L (rdy h) K := rfl
def L127_3 : List AStep := ⟨.mov (.t 0), (some 6), none, []⟩ :: ⟨.len (.t 6), (some 7), none, []⟩ :: L127_2
theorem v127_3 : wpS P L127_3 T L (rdy h) K = wpS P (⟨.mov (.t 0), (some 6), none, []⟩ :: ⟨.len (.t 6), (some 7), none, []⟩ :: L127_2) T L (rdy h) K := rfl
def L127_4 : List AStep := [⟨.mov (.c (.bool false)), (some 4), none, []⟩]
theorem v127_4 : wpS P L127_4 T L (rdy h) K = wpS P ([⟨.mov (.c (.bool false)), (some 4), none, []⟩]) T L (rdy h) K := rfl
def L127_5 : List AStep := [⟨.mov (.c (.int .i64 0)), (some 5), none, []⟩]
theorem v127_5 : wpS P L127_5 T L (rdy h) K = wpS P ([⟨.mov (.c (.int .i64 0)), (some 5), none, []⟩]) T L (rdy h) K := rfl
def L127_6 : List AStep := [⟨.len (.t 12), (some 13), none, []⟩, ⟨.bin .lss (.t 11) (.t 13), (some 14), none, []⟩]
theorem v127_6 : wpS P L127_6 T L (rdy h) K = wpS P ([⟨.len (.t 12), (some 13), none, []⟩, ⟨.bin .lss (.t 11) (.t 13), (some 14), none, []⟩]) T L (rdy h) K := rfl
def L127_7 : List AStep := ⟨.mov (.t 5), (some 11), none, []⟩ :: ⟨.mov (.t 0), (some 12), none, []⟩ :: L127_6
theorem v127_7 : wpS P L127_7 T L (rdy h) K = wpS P (⟨.mov (.t 5), (some 11), none, []⟩ :: ⟨.mov (.t 0), (some 12), none, []⟩ :: L127_6) T L (rdy h) K := rfl
def L127_8 : List AStep := [⟨.call 195 [(.t 20), (.t 24)], (some 25), none, []⟩, ⟨.not (.t 25), (some 26), none, []⟩]
theorem v127_8 : wpS P L127_8 T L (rdy h) K = wpS P ([⟨.call 195 [(.t 20), (.t 24)], (some 25), none, []⟩, ⟨.not (.t 25), (some 26), none, []⟩]) T L (rdy h) K := rfl
def L127_9 : List AStep := ⟨.iaddr 4 (.t 21) (.t 22), (some 23), none, []⟩ :: ⟨.load 4 true (.t 23), (some 24), none, []⟩ :: L127_8
theorem v127_9 : wpS P L127_9 T L (rdy h) K = wpS P (⟨.iaddr 4 (.t 21) (.t 22), (some 23), none, []⟩ :: ⟨.load 4 true (.t 23), (some 24), none, []⟩ :: L127_8) T L (rdy h) K := rfl
def L127_10 : List AStep := ⟨.mov (.t 1), (some 21), none, []⟩ :: ⟨.mov (.t 5), (some 22), none, []⟩ :: L127_9
theorem v127_10 : wpS P L127_10 T L (rdy h) K = wpS P (⟨.mov (.t 1), (some 21), none, []⟩ :: ⟨.mov (.t 5), (some 22), none, []⟩ :: L127_9) T L (rdy h) K := rfl
def L127_11 : List AStep := ⟨.iaddr 4 (.t 17) (.t 18), (some 19), none, []⟩ :: ⟨.load 4 true (.t 19), (some 20), none, []⟩ :: L127_10
theorem v127_11 : wpS P L127_11 T L (rdy h) K = wpS P (⟨.iaddr 4 (.t 17) (.t 18), (some 19), none, []⟩ :: ⟨.load 4 true (.t 19), (some 20), none, []⟩ :: L127_10) T L (rdy h) K := rfl
def L127_12 : List AStep := ⟨.mov (.t 0), (some 17), none, []⟩ :: ⟨.mov (.t 5), (some 18), none, []⟩ :: L127_11
theorem v127_12 : wpS P L127_12 T L (rdy h) K = wpS P (⟨.mov (.t 0), (some 17), none, []⟩ :: ⟨.mov (.t 5), (some 18), none, []⟩ :: L127_11) T L (rdy h) K := rfl
def L127_13 : List AStep := [⟨.mov (.c (.bool false)), (some 4), none, []⟩]
theorem v127_13 : wpS P L127_13 T L (rdy h) K = wpS P ([⟨.mov (.c (.bool false)), (some 4), none, []⟩]) T L (rdy h) K := rfl
def L127_14 : List AStep := [⟨.mov (.t 16), (some 5), none, []⟩]
theorem v127_14 : wpS P L127_14 T L (rdy h) K = wpS P ([⟨.mov (.t 16), (some 5), none, []⟩]) T L (rdy h) K := rfl
def L127_15 : List AStep := ⟨.mov (.t 5), (some 15), none, []⟩ :: ⟨.bin .add (.t 15) (.c (.int .i64 1)), (some 16), none, []⟩ :: L127_14
theorem v127_15 : wpS P L127_15 T L (rdy h) K = wpS P (⟨.mov (.t 5), (some 15), none, []⟩ :: ⟨.bin .add (.t 15) (.c (.int .i64 1)), (some 16), none, []⟩ :: L127_14) T L (rdy h) K := rfl
def L127_16 : List AStep := [⟨.mov (.c (.bool true)), (some 4), none, []⟩]
theorem v127_16 : wpS P L127_16 T L (rdy h) K = wpS P ([⟨.mov (.c (.bool true)), (some 4), none, []⟩]) T L (rdy h) K := rfl
def C127_0 : ACode := .seq (.reg L127_4) .ret
theorem u127_0 : wpC P C127_0 T L (rdy h) Q = wpC P (.seq (.reg L127_4) .ret) T L (rdy h) Q := rfl
def C127_1 : ACode := .cond (.t 10) C127_0 .skip
theorem u127_1 : wpC P C127_1 T L (rdy h) Q = wpC P (.cond (.t 10) C127_0 .skip) T L (rdy h) Q := rfl
def C127_2 : ACode := .seq (.reg L127_3) C127_1
theorem u127_2 : wpC P C127_2 T L (rdy h) Q = wpC P (.seq (.reg L127_3) C127_1) T L (rdy h) Q := rfl
def C127_3 : ACode := .cond (.t 14) .skip (.exit 0)
theorem u127_3 : wpC P C127_3 T L (rdy h) Q = wpC P (.cond (.t 14) .skip (.exit 0)) T L (rdy h) Q := rfl
def C127_4 : ACode := .seq (.reg L127_7) C127_3
theorem u127_4 : wpC P C127_4 T L (rdy h) Q = wpC P (.seq (.reg L127_7) C127_3) T L (rdy h) Q := rfl
def C127_5 : ACode := .seq (.reg L127_13) .ret
theorem u127_5 : wpC P C127_5 T L (rdy h) Q = wpC P (.seq (.reg L127_13) .ret) T L (rdy h) Q := rfl
def C127_6 : ACode := .cond (.t 26) C127_5 .skip
theorem u127_6 : wpC P C127_6 T L (rdy h) Q = wpC P (.cond (.t 26) C127_5 .skip) T L (rdy h) Q := rfl
def C127_7 : ACode := .seq (.reg L127_12) C127_6
theorem u127_7 : wpC P C127_7 T L (rdy h) Q = wpC P (.seq (.reg L127_12) C127_6) T L (rdy h) Q := rfl
def C127_8 : ACode := .block 1 C127_7
theorem u127_8 : wpC P C127_8 T L (rdy h) Q = wpC P (.block 1 C127_7) T L (rdy h) Q := rfl
def C127_9 : ACode := .seq C127_8 (.reg L127_15)
theorem u127_9 : wpC P C127_9 T L (rdy h) Q = wpC P (.seq C127_8 (.reg L127_15)) T L (rdy h) Q := rfl
def C127_10 : ACode := .seq C127_4 C127_9
theorem u127_10 : wpC P C127_10 T L (rdy h) Q = wpC P (.seq C127_4 C127_9) T L (rdy h) Q := rfl
def C127_11 : ACode := .block 0 (.loop C127_10)
theorem u127_11 : wpC P C127_11 T L (rdy h) Q = wpC P (.block 0 (.loop C127_10)) T L (rdy h) Q := rfl
def C127_12 : ACode := .seq (.reg L127_5) C127_11
theorem u127_12 : wpC P C127_12 T L (rdy h) Q = wpC P (.seq (.reg L127_5) C127_11) T L (rdy h) Q := rfl
def C127_13 : ACode := .seq (.reg L127_16) .ret
theorem u127_13 : wpC P C127_13 T L (rdy h) Q = wpC P (.seq (.reg L127_16) .ret) T L (rdy h) Q := rfl
def C127_14 : ACode := .seq C127_12 C127_13
theorem u127_14 : wpC P C127_14 T L (rdy h) Q = wpC P (.seq C127_12 C127_13) T L (rdy h) Q := rfl
def C127_15 : ACode := .seq C127_2 C127_14
theorem u127_15 : wpC P C127_15 T L (rdy h) Q = wpC P (.seq C127_2 C127_14) T L (rdy h) Q := rfl
def C127_16 : ACode := .seq (.reg L127_0) C127_15
theorem u127_16 : wpC P C127_16 T L (rdy h) Q = wpC P (.seq (.reg L127_0) C127_15) T L (rdy h) Q := rfl
def F127 : AFunc := ⟨27, [.tmp 4], C127_16⟩
theorem cF127 : compB Try.prog 127 = some F127 := by kernel_rfl
end
attribute [local go_sem ↓] u127_0 u127_1 u127_2 u127_3 u127_4 u127_5 u127_6 u127_7 u127_8 u127_9 u127_10 u127_11 u127_12 u127_13 u127_14 u127_15 u127_16 v127_0 v127_1 v127_2 v127_3 v127_4 v127_5 v127_6 v127_7 v127_8 v127_9 v127_10 v127_11 v127_12 v127_13 v127_14 v127_15 v127_16
theorem c_eqParamS (l m : List Param) (v w : AV) (h : H) (hl : SlQ h v l) (hm : SlQ h w m) (hn : l.length ≤ big) : bm Try.prog 127 [v, w] h = some (ib (decide (l = m)), h) := by
  refine bm_eq cF127 ?_
  by_cases hlen : l.length = m.length
  case neg =>
    have e1 : decide ((l.length : Int) = (m.length : Int)) = false := decide_eq_false (by omega)
    simp +contextual (maxSteps := 2000000) only [go_sem, Nat.reduceEqDiff, reduceCtorEq, Nat.reduceAdd, Nat.reduceLeDiff, F127, hl.len, hm.len, e1]
    rw [ne_len e1]
  have e1 : decide ((l.length : Int) = (m.length : Int)) = true := decide_eq_true (by omega)
  simp +contextual (maxSteps := 2000000) only [go_sem, Nat.reduceEqDiff, reduceCtorEq, Nat.reduceAdd, Nat.reduceLeDiff, F127, hl.len, hm.len, e1]
  refine wpC_loop (fun i T L h' => h' = h ∧ T 0 = .v v ∧ T 1 = .v w ∧ T 5 = .v (.one (.int .i64 i)) ∧ Upto (eqAt l m) i) l.length ?_ ?_ (Nat.zero_le _) ?_
  · rintro i T L h' hi ⟨rfl, t0, t1, t5, hu⟩
    have him : i < m.length := by omega
    have e2 := eqAt_eq hi him
    simp +contextual (maxSteps := 2000000) only [go_sem, Nat.reduceEqDiff, reduceCtorEq, Nat.reduceAdd, Nat.reduceLeDiff, t0, t1, t5, hl.len, hm.len, hl.iaddr hi, hm.iaddr him, hl.whole hi, hm.whole him, c_eqParam, lt_true hi]
    (repeat' (first | refine And.intro ?_ ?_ | intro _)) <;> first | rfl | rw [wrap_next hi (big_lt hn)] | (refine hu.next ?_; rw [e2]; (simp_all; done)) | (rw [ne_at (l := l) (m := m) (i := i)]; rw [e2]; (simp_all; done))
  · rintro T L h' ⟨rfl, t0, t1, t5, hu⟩
    simp +contextual (maxSteps := 2000000) only [go_sem, Nat.reduceEqDiff, reduceCtorEq, Nat.reduceAdd, Nat.reduceLeDiff, t0, t1, t5, hl.len, hm.len, lt_false, decide_eq_true (eq_of_upto hlen hu)]
  · simp +contextual (maxSteps := 2000000) only [go_sem, Nat.reduceEqDiff, reduceCtorEq, Nat.reduceAdd, Nat.reduceLeDiff]
    (repeat' (first | refine And.intro ?_ ?_ | intro _)) <;> first | rfl | exact Upto.zero
section
variable {P : Program} {T : Tb} {L : Lb} {h : H} {Q : PostC} {K : Post}
/-! laws.eqPairS -/
def L111_0 : List AStep := [⟨.mov (.c (.bool false)), (some 4), none, []⟩]
theorem v111_0 : wpS P L111_0 T L (rdy h) K = wpS P ([⟨.mov (.c (.bool false)), (some 4), none, []⟩]) T L (rdy h) K := rfl
def L111_1 : List AStep := [⟨.bin .neq (.t 7) (.t 9), (some 10), none, []⟩]
theorem v111_1 : wpS P L111_1 T L (rdy h) K = wpS P ([⟨.bin .neq (.t 7) (.t 9), (some 10), none, []⟩]) T L (rdy h) K := rfl
def L111_2 : List AStep := ⟨.mov (.t 1), (some 8), none, []⟩ :: ⟨.len (.t 8), (some 9), none, []⟩ :: L111_1
theorem v111_2 : wpS P L111_2 T L (rdy h) K = wpS P (⟨.mov (.t 1), (some 8), none, []⟩ :: ⟨.len (.t 8), (some 9), none, []⟩ :: L111_1) T L (rdy h) K := rfl
def L111_3 : List AStep := ⟨.mov (.t 0), (some 6), none, []⟩ :: ⟨.len (.t 6), (some 7), none, []⟩ :: L111_2
theorem v111_3 : wpS P L111_3 T L (rdy h) K = wpS P (⟨.mov (.t 0), (some 6), none, []⟩ :: ⟨.len (.t 6), (some 7), none, []⟩ :: L111_2) T L (rdy h) K := rfl
def L111_4 : List AStep := [⟨.mov (.c (.bool false)), (some 4), none, []⟩]
theorem v111_4 : wpS P L111_4 T L (rdy h) K = wpS P ([⟨.mov (.c (.bool false)), (some 4), none, []⟩]) T L (rdy h) K := rfl
def L111_5 : List AStep := [⟨.mov (.c (.int .i64 0)), (some 5), none, []⟩]
theorem v111_5 : wpS P L111_5 T L (rdy h) K = wpS P ([⟨.mov (.c (.int .i64 0)), (some 5), none, []⟩]) T L (rdy h) K := rfl
def L111_6 : List AStep := [⟨.len (.t 12), (some 13), none, []⟩, ⟨.bin .lss (.t 11) (.t 13), (some 14), none, []⟩]
theorem v111_6 : wpS P L111_6 T L (rdy h) K = wpS P ([⟨.len (.t 12), (some 13), none, []⟩, ⟨.bin .lss (.t 11) (.t 13), (some 14), none, []⟩]) T L (rdy h) K := rfl
def L111_7 : List AStep := ⟨.mov (.t 5), (some 11), none, []⟩ :: ⟨.mov (.t 0), (some 12), none, []⟩ :: L111_6
theorem v111_7 : wpS P L111_7 T L (rdy h) K = wpS P (⟨.mov (.t 5), (some 11), none, []⟩ :: ⟨.mov (.t 0), (some 12), none, []⟩ :: L111_6) T L (rdy h) K := rfl
def L111_8 : List AStep := [⟨.call 186 [(.t 20), (.t 24)], (some 25), none, []⟩, ⟨.not (.t 25), (some 26), none, []⟩]
theorem v111_8 : wpS P L111_8 T L (rdy h) K = wpS P ([⟨.call 186 [(.t 20), (.t 24)], (some 25), none, []⟩, ⟨.not (.t 25), (some 26), none, []⟩]) T L (rdy h) K := rfl
def L111_9 : List AStep := ⟨.iaddr 2 (.t 21) (.t 22), (some 23), none, []⟩ :: ⟨.load 2 true (.t 23), (some 24), none, []⟩ :: L111_8
theorem v111_9 : wpS P L111_9 T L (rdy h) K = wpS P (⟨.iaddr 2 (.t 21) (.t 22), (some 23), none, []⟩ :: ⟨.load 2 true (.t 23), (some 24), none, []⟩ :: L111_8) T L (rdy h) K := rfl
def L111_10 : List AStep := ⟨.mov (.t 1), (some 21), none, []⟩ :: ⟨.mov (.t 5), (some 22), none, []⟩ :: L111_9
theorem v111_10 : wpS P L111_10 T L (rdy h) K = wpS P (⟨.mov (.t 1), (some 21), none, []⟩ :: ⟨.mov (.t 5), (some 22), none, []⟩ :: L111_9) T L (rdy h) K := rfl
def L111_11 : List AStep := ⟨.iaddr 2 (.t 17) (.t 18), (some 19), none, []⟩ :: ⟨.load 2 true (.t 19), (some 20), none, []⟩ :: L111_10
theorem v111_11 : wpS P L111_11 T L (rdy h) K = wpS P (⟨.iaddr 2 (.t 17) (.t 18), (some 19), none, []⟩ :: ⟨.load 2 true (.t 19), (some 20), none, []⟩ :: L111_10) T L (rdy h) K := rfl
def L111_12 : List AStep := ⟨.mov (.t 0), (some 17), none, []⟩ :: ⟨.mov (.t 5), (some 18), none, []⟩ :: L111_11
theorem v111_12 : wpS P L111_12 T L (rdy h) K = wpS P (⟨.mov (.t 0), (some 17), none, []⟩ :: ⟨.mov (.t 5), (some 18), none, []⟩ :: L111_11) T L (rdy h) K := rfl
def L111_13 : List AStep := [⟨.mov (.c (.bool false)), (some 4), none, []⟩]
theorem v111_13 : wpS P L111_13 T L (rdy h) K = wpS P ([⟨.mov (.c (.bool false)), (some 4), none, []⟩]) T L (rdy h) K := rfl
def L111_14 : List AStep := [⟨.mov (.t 16), (some 5), none, []⟩]
theorem v111_14 : wpS P L111_14 T L (rdy h) K = wpS P ([⟨.mov (.t 16), (some 5), none, []⟩]) T L (rdy h) K := rfl
def L111_15 : List AStep := ⟨.mov (.t 5), (some 15), none, []⟩ :: ⟨.bin .add (.t 15) (.c (.int .i64 1)), (some 16), none, []⟩ :: L111_14
theorem v111_15 : wpS P L111_15 T L (rdy h) K = wpS P (⟨.mov (.t 5), (some 15), none, []⟩ :: ⟨.bin .add (.t 15) (.c (.int .i64 1)), (some 16), none, []⟩ :: L111_14) T L (rdy h) K := rfl
def L111_16 : List AStep := [⟨.mov (.c (.bool true)), (some 4), none, []⟩]
theorem v111_16 : wpS P L111_16 T L (rdy h) K = wpS P ([⟨.mov (.c (.bool true)), (some 4), none, []⟩]) T L (rdy h) K := rfl
def C111_0 : ACode := .seq (.reg L111_4) .ret
theorem u111_0 : wpC P C111_0 T L (rdy h) Q = wpC P (.seq (.reg L111_4) .ret) T L (rdy h) Q := rfl
def C111_1 : ACode := .cond (.t 10) C111_0 .skip
theorem u111_1 : wpC P C111_1 T L (rdy h) Q = wpC P (.cond (.t 10) C111_0 .skip) T L (rdy h) Q := rfl
def C111_2 : ACode := .seq (.reg L111_3) C111_1
theorem u111_2 : wpC P C111_2 T L (rdy h) Q = wpC P (.seq (.reg L111_3) C111_1) T L (rdy h) Q := rfl
def C111_3 : ACode := .cond (.t 14) .skip (.exit 0)
theorem u111_3 : wpC P C111_3 T L (rdy h) Q = wpC P (.cond (.t 14) .skip (.exit 0)) T L (rdy h) Q := rfl
def C111_4 : ACode := .seq (.reg L111_7) C111_3
theorem u111_4 : wpC P C111_4 T L (rdy h) Q = wpC P (.seq (.reg L111_7) C111_3) T L (rdy h) Q := rfl
def C111_5 : ACode := .seq (.reg L111_13) .ret
theorem u111_5 : wpC P C111_5 T L (rdy h) Q = wpC P (.seq (.reg L111_13) .ret) T L (rdy h) Q := rfl
def C111_6 : ACode := .cond (.t 26) C111_5 .skip
theorem u111_6 : wpC P C111_6 T L (rdy h) Q = wpC P (.cond (.t 26) C111_5 .skip) T L (rdy h) Q := rfl
def C111_7 : ACode := .seq (.reg L111_12) C111_6
theorem u111_7 : wpC P C111_7 T L (rdy h) Q = wpC P (.seq (.reg L111_12) C111_6) T L (rdy h) Q := rfl
def C111_8 : ACode := .block 1 C111_7
theorem u111_8 : wpC P C111_8 T L (rdy h) Q = wpC P (.block 1 C111_7) T L (rdy h) Q := rfl
def C111_9 : ACode := .seq C111_8 (.reg L111_15)
theorem u111_9 : wpC P C111_9 T L (rdy h) Q = wpC P (.seq C111_8 (.reg L111_15)) T L (rdy h) Q := rfl
def C111_10 : ACode := .seq C111_4 C111_9
theorem u111_10 : wpC P C111_10 T L (rdy h) Q = wpC P (.seq C111_4 C111_9) T L (rdy h) Q := rfl
def C111_11 : ACode := .block 0 (.loop C111_10)
theorem u111_11 : wpC P C111_11 T L (rdy h) Q = wpC P (.block 0 (.loop C111_10)) T L (rdy h) Q := rfl
def C111_12 : ACode := .seq (.reg L111_5) C111_11
theorem u111_12 : wpC P C111_12 T L (rdy h) Q = wpC P (.seq (.reg L111_5) C111_11) T L (rdy h) Q := rfl
def C111_13 : ACode := .seq (.reg L111_16) .ret
theorem u111_13 : wpC P C111_13 T L (rdy h) Q = wpC P (.seq (.reg L111_16) .ret) T L (rdy h) Q := rfl
def C111_14 : ACode := .seq C111_12 C111_13
theorem u111_14 : wpC P C111_14 T L (rdy h) Q = wpC P (.seq C111_12 C111_13) T L (rdy h) Q := rfl
def C111_15 : ACode := .seq C111_2 C111_14
theorem u111_15 : wpC P C111_15 T L (rdy h) Q = wpC P (.seq C111_2 C111_14) T L (rdy h) Q := rfl
def C111_16 : ACode := .seq (.reg L111_0) C111_15
theorem u111_16 : wpC P C111_16 T L (rdy h) Q = wpC P (.seq (.reg L111_0) C111_15) T L (rdy h) Q := rfl
def F111 : AFunc := ⟨27, [.tmp 4], C111_16⟩
theorem cF111 : compB Try.prog 111 = some F111 := by kernel_rfl
end
attribute [local go_sem ↓] u111_0 u111_1 u111_2 u111_3 u111_4 u111_5 u111_6 u111_7 u111_8 u111_9 u111_10 u111_11 u111_12 u111_13 u111_14 u111_15 u111_16 v111_0 v111_1 v111_2 v111_3 v111_4 v111_5 v111_6 v111_7 v111_8 v111_9 v111_10 v111_11 v111_12 v111_13 v111_14 v111_15 v111_16
theorem c_eqPairS (l m : List Pair) (v w : AV) (h : H) (hl : SlP h v l) (hm : SlP h w m) (hn : l.length ≤ big) : bm Try.prog 111 [v, w] h = some (ib (decide (l = m)), h) := by
  refine bm_eq cF111 ?_
  by_cases hlen : l.length = m.length
  case neg =>
    have e1 : decide ((l.length : Int) = (m.length : Int)) = false := decide_eq_false (by omega)
    simp +contextual (maxSteps := 2000000) only [go_sem, Nat.reduceEqDiff, reduceCtorEq, Nat.reduceAdd, Nat.reduceLeDiff, F111, hl.len, hm.len, e1]
    rw [ne_len e1]
  have e1 : decide ((l.length : Int) = (m.length : Int)) = true := decide_eq_true (by omega)
  simp +contextual (maxSteps := 2000000) only [go_sem, Nat.reduceEqDiff, reduceCtorEq, Nat.reduceAdd, Nat.reduceLeDiff, F111, hl.len, hm.len, e1]
  refine wpC_loop (fun i T L h' => h' = h ∧ T 0 = .v v ∧ T 1 = .v w ∧ T 5 = .v (.one (.int .i64 i)) ∧ Upto (eqAt l m) i) l.length ?_ ?_ (Nat.zero_le _) ?_
  · rintro i T L h' hi ⟨rfl, t0, t1, t5, hu⟩
    have him : i < m.length := by omega
    have e2 := eqAt_eq hi him
    simp +contextual (maxSteps := 2000000) only [go_sem, Nat.reduceEqDiff, reduceCtorEq, Nat.reduceAdd, Nat.reduceLeDiff, t0, t1, t5, hl.len, hm.len, hl.iaddr hi, hm.iaddr him, hl.whole hi, hm.whole him, c_eqPair, lt_true hi]
    (repeat' (first | refine And.intro ?_ ?_ | intro _)) <;> first | rfl | rw [wrap_next hi (big_lt hn)] | (refine hu.next ?_; rw [e2]; (simp_all; done)) | (rw [ne_at (l := l) (m := m) (i := i)]; rw [e2]; (simp_all; done))
  · rintro T L h' ⟨rfl, t0, t1, t5, hu⟩
    simp +contextual (maxSteps := 2000000) only [go_sem, Nat.reduceEqDiff, reduceCtorEq, Nat.reduceAdd, Nat.reduceLeDiff, t0, t1, t5, hl.len, hm.len, lt_false, decide_eq_true (eq_of_upto hlen hu)]
  · simp +contextual (maxSteps := 2000000) only [go_sem, Nat.reduceEqDiff, reduceCtorEq, Nat.reduceAdd, Nat.reduceLeDiff]
    (repeat' (first | refine And.intro ?_ ?_ | intro _)) <;> first | rfl | exact Upto.zero
section
variable {P : Program} {T : Tb} {L : Lb} {h : H} {Q : PostC} {K : Post}
/-! laws.eqSignature -/
def L50_0 : List AStep := [⟨.mov (.c (.bool false)), (some 4), none, []⟩]
theorem v50_0 : wpS P L50_0 T L (rdy h) K = wpS P ([⟨.mov (.c (.bool false)), (some 4), none, []⟩]) T L (rdy h) K := rfl
def L50_1 : List AStep := ⟨.box 51 (.t 0), (some 2), none, []⟩ :: ⟨.box 51 (.t 1), (some 3), none, []⟩ :: L50_0
theorem v50_1 : wpS P L50_1 T L (rdy h) K = wpS P (⟨.box 51 (.t 0), (some 2), none, []⟩ :: ⟨.box 51 (.t 1), (some 3), none, []⟩ :: L50_0) T L (rdy h) K := rfl
def L50_2 : List AStep := [⟨.call 127 [(.t 6), (.t 8)], (some 9), none, []⟩, ⟨.not (.t 9), (some 10), none, []⟩]
theorem v50_2 : wpS P L50_2 T L (rdy h) K = wpS P ([⟨.call 127 [(.t 6), (.t 8)], (some 9), none, []⟩, ⟨.not (.t 9), (some 10), none, []⟩]) T L (rdy h) K := rfl
def L50_3 : List AStep := ⟨.faddr 0 (.t 3), (some 7), none, []⟩ :: ⟨.load 1 false (.t 7), (some 8), none, []⟩ :: L50_2
theorem v50_3 : wpS P L50_3 T L (rdy h) K = wpS P (⟨.faddr 0 (.t 3), (some 7), none, []⟩ :: ⟨.load 1 false (.t 7), (some 8), none, []⟩ :: L50_2) T L (rdy h) K := rfl
def L50_4 : List AStep := ⟨.faddr 0 (.t 2), (some 5), none, []⟩ :: ⟨.load 1 false (.t 5), (some 6), none, []⟩ :: L50_3
theorem v50_4 : wpS P L50_4 T L (rdy h) K = wpS P (⟨.faddr 0 (.t 2), (some 5), none, []⟩ :: ⟨.load 1 false (.t 5), (some 6), none, []⟩ :: L50_3) T L (rdy h) K := rfl
def L50_5 : List AStep := [⟨.mov (.c (.bool false)), (some 4), none, []⟩]
theorem v50_5 : wpS P L50_5 T L (rdy h) K = wpS P ([⟨.mov (.c (.bool false)), (some 4), none, []⟩]) T L (rdy h) K := rfl
def L50_6 : List AStep := [⟨.mov (.c (.bool true)), (some 4), none, []⟩]
theorem v50_6 : wpS P L50_6 T L (rdy h) K = wpS P ([⟨.mov (.c (.bool true)), (some 4), none, []⟩]) T L (rdy h) K := rfl
def C50_0 : ACode := .seq (.reg L50_5) .ret
theorem u50_0 : wpC P C50_0 T L (rdy h) Q = wpC P (.seq (.reg L50_5) .ret) T L (rdy h) Q := rfl
def C50_1 : ACode := .cond (.t 10) C50_0 .skip
theorem u50_1 : wpC P C50_1 T L (rdy h) Q = wpC P (.cond (.t 10) C50_0 .skip) T L (rdy h) Q := rfl
def C50_2 : ACode := .seq (.reg L50_4) C50_1
theorem u50_2 : wpC P C50_2 T L (rdy h) Q = wpC P (.seq (.reg L50_4) C50_1) T L (rdy h) Q := rfl
def C50_3 : ACode := .seq (.reg L50_6) .ret
theorem u50_3 : wpC P C50_3 T L (rdy h) Q = wpC P (.seq (.reg L50_6) .ret) T L (rdy h) Q := rfl
def C50_4 : ACode := .seq C50_2 C50_3
theorem u50_4 : wpC P C50_4 T L (rdy h) Q = wpC P (.seq C50_2 C50_3) T L (rdy h) Q := rfl
def C50_5 : ACode := .seq (.reg L50_1) C50_4
theorem u50_5 : wpC P C50_5 T L (rdy h) Q = wpC P (.seq (.reg L50_1) C50_4) T L (rdy h) Q := rfl
def F50 : AFunc := ⟨11, [.tmp 4], C50_5⟩
theorem cF50 : compB Try.prog 50 = some F50 := by kernel_rfl
end
attribute [local go_sem ↓] u50_0 u50_1 u50_2 u50_3 u50_4 u50_5 v50_0 v50_1 v50_2 v50_3 v50_4 v50_5 v50_6
theorem c_eqSignature (l m : List Param) (v w : CV) (h : H) (hl : SlQ h (.one v) l) (hm : SlQ h (.one w) m) (hn : l.length ≤ big) : bm Try.prog 50 [.agg [v], .agg [w]] h = some (ib (decide (l = m)), h) := by
  refine bm_eq cF50 ?_
  simp +contextual (maxSteps := 2000000) only [go_sem, Nat.reduceEqDiff, reduceCtorEq, Nat.reduceAdd, Nat.reduceLeDiff, F50, c_eqParamS _ _ _ _ _ hl hm hn]
  try ((repeat' (first | refine And.intro ?_ ?_ | intro _)) <;> first | simp_all)
section
variable {P : Program} {T : Tb} {L : Lb} {h : H} {Q : PostC} {K : Post}
/-! laws.eqFlat -/
def L37_0 : List AStep := [⟨.mov (.c (.bool false)), (some 4), none, []⟩]
theorem v37_0 : wpS P L37_0 T L (rdy h) K = wpS P ([⟨.mov (.c (.bool false)), (some 4), none, []⟩]) T L (rdy h) K := rfl
def L37_1 : List AStep := ⟨.box 30 (.t 0), (some 2), none, []⟩ :: ⟨.box 30 (.t 1), (some 3), none, []⟩ :: L37_0
theorem v37_1 : wpS P L37_1 T L (rdy h) K = wpS P (⟨.box 30 (.t 0), (some 2), none, []⟩ :: ⟨.box 30 (.t 1), (some 3), none, []⟩ :: L37_0) T L (rdy h) K := rfl
def L37_2 : List AStep := [⟨.call 110 [(.t 6), (.t 8)], (some 9), none, []⟩, ⟨.not (.t 9), (some 10), none, []⟩]
theorem v37_2 : wpS P L37_2 T L (rdy h) K = wpS P ([⟨.call 110 [(.t 6), (.t 8)], (some 9), none, []⟩, ⟨.not (.t 9), (some 10), none, []⟩]) T L (rdy h) K := rfl
def L37_3 : List AStep := ⟨.faddr 0 (.t 3), (some 7), none, []⟩ :: ⟨.load 1 false (.t 7), (some 8), none, []⟩ :: L37_2
theorem v37_3 : wpS P L37_3 T L (rdy h) K = wpS P (⟨.faddr 0 (.t 3), (some 7), none, []⟩ :: ⟨.load 1 false (.t 7), (some 8), none, []⟩ :: L37_2) T L (rdy h) K := rfl
def L37_4 : List AStep := ⟨.faddr 0 (.t 2), (some 5), none, []⟩ :: ⟨.load 1 false (.t 5), (some 6), none, []⟩ :: L37_3
theorem v37_4 : wpS P L37_4 T L (rdy h) K = wpS P (⟨.faddr 0 (.t 2), (some 5), none, []⟩ :: ⟨.load 1 false (.t 5), (some 6), none, []⟩ :: L37_3) T L (rdy h) K := rfl
def L37_5 : List AStep := [⟨.mov (.c (.bool false)), (some 4), none, []⟩]
theorem v37_5 : wpS P L37_5 T L (rdy h) K = wpS P ([⟨.mov (.c (.bool false)), (some 4), none, []⟩]) T L (rdy h) K := rfl
def L37_6 : List AStep := [⟨.call 111 [(.t 12), (.t 14)], (some 15), none, []⟩, ⟨.not (.t 15), (some 16), none, []⟩]
theorem v37_6 : wpS P L37_6 T L (rdy h) K = wpS P ([⟨.call 111 [(.t 12), (.t 14)], (some 15), none, []⟩, ⟨.not (.t 15), (some 16), none, []⟩]) T L (rdy h) K := rfl
def L37_7 : List AStep := ⟨.faddr 1 (.t 3), (some 13), none, []⟩ :: ⟨.load 1 false (.t 13), (some 14), none, []⟩ :: L37_6
theorem v37_7 : wpS P L37_7 T L (rdy h) K = wpS P (⟨.faddr 1 (.t 3), (some 13), none, []⟩ :: ⟨.load 1 false (.t 13), (some 14), none, []⟩ :: L37_6) T L (rdy h) K := rfl
def L37_8 : List AStep := ⟨.faddr 1 (.t 2), (some 11), none, []⟩ :: ⟨.load 1 false (.t 11), (some 12), none, []⟩ :: L37_7
theorem v37_8 : wpS P L37_8 T L (rdy h) K = wpS P (⟨.faddr 1 (.t 2), (some 11), none, []⟩ :: ⟨.load 1 false (.t 11), (some 12), none, []⟩ :: L37_7) T L (rdy h) K := rfl
def L37_9 : List AStep := [⟨.mov (.c (.bool false)), (some 4), none, []⟩]
theorem v37_9 : wpS P L37_9 T L (rdy h) K = wpS P ([⟨.mov (.c (.bool false)), (some 4), none, []⟩]) T L (rdy h) K := rfl
def L37_10 : List AStep := [⟨.mov (.c (.bool true)), (some 4), none, []⟩]
theorem v37_10 : wpS P L37_10 T L (rdy h) K = wpS P ([⟨.mov (.c (.bool true)), (some 4), none, []⟩]) T L (rdy h) K := rfl
def C37_0 : ACode := .seq (.reg L37_5) .ret
theorem u37_0 : wpC P C37_0 T L (rdy h) Q = wpC P (.seq (.reg L37_5) .ret) T L (rdy h) Q := rfl
def C37_1 : ACode := .cond (.t 10) C37_0 .skip
theorem u37_1 : wpC P C37_1 T L (rdy h) Q = wpC P (.cond (.t 10) C37_0 .skip) T L (rdy h) Q := rfl
def C37_2 : ACode := .seq (.reg L37_4) C37_1
theorem u37_2 : wpC P C37_2 T L (rdy h) Q = wpC P (.seq (.reg L37_4) C37_1) T L (rdy h) Q := rfl
def C37_3 : ACode := .seq (.reg L37_9) .ret
theorem u37_3 : wpC P C37_3 T L (rdy h) Q = wpC P (.seq (.reg L37_9) .ret) T L (rdy h) Q := rfl
def C37_4 : ACode := .cond (.t 16) C37_3 .skip
theorem u37_4 : wpC P C37_4 T L (rdy h) Q = wpC P (.cond (.t 16) C37_3 .skip) T L (rdy h) Q := rfl
def C37_5 : ACode := .seq (.reg L37_8) C37_4
theorem u37_5 : wpC P C37_5 T L (rdy h) Q = wpC P (.seq (.reg L37_8) C37_4) T L (rdy h) Q := rfl
def C37_6 : ACode := .seq (.reg L37_10) .ret
theorem u37_6 : wpC P C37_6 T L (rdy h) Q = wpC P (.seq (.reg L37_10) .ret) T L (rdy h) Q := rfl
def C37_7 : ACode := .seq C37_5 C37_6
theorem u37_7 : wpC P C37_7 T L (rdy h) Q = wpC P (.seq C37_5 C37_6) T L (rdy h) Q := rfl
def C37_8 : ACode := .seq C37_2 C37_7
theorem u37_8 : wpC P C37_8 T L (rdy h) Q = wpC P (.seq C37_2 C37_7) T L (rdy h) Q := rfl
def C37_9 : ACode := .seq (.reg L37_1) C37_8
theorem u37_9 : wpC P C37_9 T L (rdy h) Q = wpC P (.seq (.reg L37_1) C37_8) T L (rdy h) Q := rfl
def F37 : AFunc := ⟨17, [.tmp 4], C37_9⟩
theorem cF37 : compB Try.prog 37 = some F37 := by kernel_rfl
end
attribute [local go_sem ↓] u37_0 u37_1 u37_2 u37_3 u37_4 u37_5 u37_6 u37_7 u37_8 u37_9 v37_0 v37_1 v37_2 v37_3 v37_4 v37_5 v37_6 v37_7 v37_8 v37_9 v37_10
theorem c_eqFlat (f g : Flat) (pv nv pw nw : CV) (h : H) (hp : SlI h (.one pv) f.pl) (hq : SlP h (.one nv) f.nl) (kp : SlI h (.one pw) g.pl) (kq : SlP h (.one nw) g.nl) (h1 : f.pl.length ≤ big) (h2 : f.nl.length ≤ big) :
    bm Try.prog 37 [.agg [pv, nv], .agg [pw, nw]] h = some (ib (decide (f = g)), h) := by
  refine bm_eq cF37 ?_
  obtain ⟨fp, fn⟩ := f
  obtain ⟨gp, gn⟩ := g
  simp +contextual (maxSteps := 2000000) only [go_sem, Nat.reduceEqDiff, reduceCtorEq, Nat.reduceAdd, Nat.reduceLeDiff, F37, c_eqIntS _ _ _ _ _ hp kp h1, c_eqPairS _ _ _ _ _ hq kq h2, Flat.mk.injEq]
  try ((repeat' (first | refine And.intro ?_ ?_ | intro _)) <;> first | simp_all)
end Go.Proofs.Ytnphlonhogcedaa.Am
