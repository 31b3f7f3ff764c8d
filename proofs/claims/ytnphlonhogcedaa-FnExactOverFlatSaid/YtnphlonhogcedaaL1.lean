/- Contracts of the laws: comparisons. -/
import Derived.Test.YtnphlonhogcedaaDat
namespace Go.Proofs.Ytnphlonhogcedaa.Am
open Go
set_option maxRecDepth 100000
set_option maxHeartbeats 4000000
set_option linter.unusedSimpArgs false
set_option linter.unusedVariables false
attribute [local go_sem ↓] bv_t bv_c ev_t ev_c put_same put_ne put_none kill_at pro_at lb_same lb_ne start_zero start_succ wpC_seq wpC_reg wpC_cond wpC_block wpC_skip wpC_exit wpC_ret thenQ_normal thenQ_exit thenQ_ret inBlk_normal inBlk_exit inBlk_ret wpS_nil wpS_step wpS_again wpS_guard wpO_mov wpO_load wpO_faddr wpO_nilCheck wpO_pick wpO_build wpO_bin wpO_eqb wpO_eqst wpO_eqnil wpO_not wpO_conv wpO_bytesStr wpO_iaddr wpO_idxStr wpO_field wpO_extract wpO_len wpO_lenStr wpO_cap wpO_min wpO_slice wpO_sliceStr wpO_alloc wpO_box wpO_store wpO_call wpO_callv wpO_mkfn wpO_buildSlice wpO_mkslice wpO_append wpO_appz proA_nil proA_cons tmpX_nil tmpX_tmp tmpX_cell doneB_normal doneB_ret agK_cons agK_nil pureB_load results_one results_two results_nil resBs_cons resBs_nil resB_tmp resB_cell
attribute [local go_sem] kill_v kill_lp_ne kill_lp_same pro_v pro_lp_same pro_lp_ne av_v av_lp optB_some optX_some valX_eq ldX_lp ldX_v faX_lp faX_v ncX_lp ncX_ptr ncX_fn boxK_one boxK_agg stL_some stK_lp_one stK_lp_agg stK_v_one stK_v_agg proM_v proM_lp callG_mk callVG_mk callvK_fn fnG_mk ptrsA_nil ptrsA_cons callH_some whenA_true whenA_false guardH_tt guardH_ff guardH_tf guardH_ft guardH_undef agV_one agV_agg lenO_sl lenStrO_str notO_bool pickO_bool convO_int eqbO_bool eqnilO_sl extractO_tup capO_sl minO_int loadL_one loadL_all storeL_eq fillA_nil fillA_one fillA_agg nat_ge neg_ge nat_lt neg_lt buildO bin_add bin_sub bin_mul bin_eql bin_neq bin_lss bin_leq bin_gtr bin_geq str_eql str_neq str_lss str_leq str_gtr str_geq retK_some endK_mk gcK_same gcK_int gcK_bool tupO_one tupO_agg rdy_self ib ii Option.map_none Option.map_some Option.some.injEq exists_eq_left' exists_eq_left ne_eq not_false_eq_true if_true if_false List.map_cons List.map_nil List.getElem?_cons_zero List.getElem?_cons_succ List.length_cons List.length_nil List.take_succ_cons List.take_zero List.take_nil List.drop_succ_cons List.drop_zero List.drop_nil List.cons_append List.nil_append List.append_nil List.set_cons_zero List.set_cons_succ Nat.zero_add forall_const true_and and_true and_self Bool.false_eq_true false_implies true_implies implies_true Bool.not_true Bool.not_false Bool.not_eq_true' Bool.not_eq_false' beq_self_eq_true Bool.bne_true Bool.bne_false
attribute [local go_sem] lenI lenS lenP lenQ lenB lenL lenT encI_0 encS_0 encP_0 encP_1 encQ_0 encQ_1 encQ_2 encQ_3 encB_0 encB_1 encL_0 encL_1 encT_0 encT_1
attribute [local go_sem low] whenA_bool guardH_bool
section
variable {P : Program} {T : Tb} {L : Lb} {h : H} {Q : PostC} {K : Post}
/-! laws.eqParam -/
def L195_0 : List AStep := [⟨.mov (.c (.bool false)), (some 4), none, []⟩]
theorem v195_0 : wpS P L195_0 T L (rdy h) K = wpS P ([⟨.mov (.c (.bool false)), (some 4), none, []⟩]) T L (rdy h) K := rfl
def L195_1 : List AStep := ⟨.box 108 (.t 0), (some 2), none, []⟩ :: ⟨.box 108 (.t 1), (some 3), none, []⟩ :: L195_0
theorem v195_1 : wpS P L195_1 T L (rdy h) K = wpS P (⟨.box 108 (.t 0), (some 2), none, []⟩ :: ⟨.box 108 (.t 1), (some 3), none, []⟩ :: L195_0) T L (rdy h) K := rfl
def L195_2 : List AStep := [⟨.bin .neq (.t 6) (.t 8), (some 9), none, []⟩]
theorem v195_2 : wpS P L195_2 T L (rdy h) K = wpS P ([⟨.bin .neq (.t 6) (.t 8), (some 9), none, []⟩]) T L (rdy h) K := rfl
def L195_3 : List AStep := ⟨.faddr 0 (.t 3), (some 7), none, []⟩ :: ⟨.load 1 false (.t 7), (some 8), none, []⟩ :: L195_2
theorem v195_3 : wpS P L195_3 T L (rdy h) K = wpS P (⟨.faddr 0 (.t 3), (some 7), none, []⟩ :: ⟨.load 1 false (.t 7), (some 8), none, []⟩ :: L195_2) T L (rdy h) K := rfl
def L195_4 : List AStep := ⟨.faddr 0 (.t 2), (some 5), none, []⟩ :: ⟨.load 1 false (.t 5), (some 6), none, []⟩ :: L195_3
theorem v195_4 : wpS P L195_4 T L (rdy h) K = wpS P (⟨.faddr 0 (.t 2), (some 5), none, []⟩ :: ⟨.load 1 false (.t 5), (some 6), none, []⟩ :: L195_3) T L (rdy h) K := rfl
def L195_5 : List AStep := [⟨.mov (.c (.bool false)), (some 4), none, []⟩]
theorem v195_5 : wpS P L195_5 T L (rdy h) K = wpS P ([⟨.mov (.c (.bool false)), (some 4), none, []⟩]) T L (rdy h) K := rfl
def L195_6 : List AStep := [⟨.bin .neq (.t 11) (.t 13), (some 14), none, []⟩]
theorem v195_6 : wpS P L195_6 T L (rdy h) K = wpS P ([⟨.bin .neq (.t 11) (.t 13), (some 14), none, []⟩]) T L (rdy h) K := rfl
def L195_7 : List AStep := ⟨.faddr 1 (.t 3), (some 12), none, []⟩ :: ⟨.load 1 false (.t 12), (some 13), none, []⟩ :: L195_6
theorem v195_7 : wpS P L195_7 T L (rdy h) K = wpS P (⟨.faddr 1 (.t 3), (some 12), none, []⟩ :: ⟨.load 1 false (.t 12), (some 13), none, []⟩ :: L195_6) T L (rdy h) K := rfl
def L195_8 : List AStep := ⟨.faddr 1 (.t 2), (some 10), none, []⟩ :: ⟨.load 1 false (.t 10), (some 11), none, []⟩ :: L195_7
theorem v195_8 : wpS P L195_8 T L (rdy h) K = wpS P (⟨.faddr 1 (.t 2), (some 10), none, []⟩ :: ⟨.load 1 false (.t 10), (some 11), none, []⟩ :: L195_7) T L (rdy h) K := rfl
def L195_9 : List AStep := [⟨.mov (.c (.bool false)), (some 4), none, []⟩]
theorem v195_9 : wpS P L195_9 T L (rdy h) K = wpS P ([⟨.mov (.c (.bool false)), (some 4), none, []⟩]) T L (rdy h) K := rfl
def L195_10 : List AStep := [⟨.eqb true (.t 16) (.t 18), (some 19), none, []⟩]
theorem v195_10 : wpS P L195_10 T L (rdy h) K = wpS P ([⟨.eqb true (.t 16) (.t 18), (some 19), none, []⟩]) T L (rdy h) K := rfl
def L195_11 : List AStep := ⟨.faddr 2 (.t 3), (some 17), none, []⟩ :: ⟨.load 1 false (.t 17), (some 18), none, []⟩ :: L195_10
theorem v195_11 : wpS P L195_11 T L (rdy h) K = wpS P (⟨.faddr 2 (.t 3), (some 17), none, []⟩ :: ⟨.load 1 false (.t 17), (some 18), none, []⟩ :: L195_10) T L (rdy h) K := rfl
def L195_12 : List AStep := ⟨.faddr 2 (.t 2), (some 15), none, []⟩ :: ⟨.load 1 false (.t 15), (some 16), none, []⟩ :: L195_11
theorem v195_12 : wpS P L195_12 T L (rdy h) K = wpS P (⟨.faddr 2 (.t 2), (some 15), none, []⟩ :: ⟨.load 1 false (.t 15), (some 16), none, []⟩ :: L195_11) T L (rdy h) K := rfl
def L195_13 : List AStep := [⟨.mov (.c (.bool false)), (some 4), none, []⟩]
theorem v195_13 : wpS P L195_13 T L (rdy h) K = wpS P ([⟨.mov (.c (.bool false)), (some 4), none, []⟩]) T L (rdy h) K := rfl
def L195_14 : List AStep := [⟨.bin .neq (.t 21) (.t 23), (some 24), none, []⟩]
theorem v195_14 : wpS P L195_14 T L (rdy h) K = wpS P ([⟨.bin .neq (.t 21) (.t 23), (some 24), none, []⟩]) T L (rdy h) K := rfl
def L195_15 : List AStep := ⟨.faddr 3 (.t 3), (some 22), none, []⟩ :: ⟨.load 1 false (.t 22), (some 23), none, []⟩ :: L195_14
theorem v195_15 : wpS P L195_15 T L (rdy h) K = wpS P (⟨.faddr 3 (.t 3), (some 22), none, []⟩ :: ⟨.load 1 false (.t 22), (some 23), none, []⟩ :: L195_14) T L (rdy h) K := rfl
def L195_16 : List AStep := ⟨.faddr 3 (.t 2), (some 20), none, []⟩ :: ⟨.load 1 false (.t 20), (some 21), none, []⟩ :: L195_15
theorem v195_16 : wpS P L195_16 T L (rdy h) K = wpS P (⟨.faddr 3 (.t 2), (some 20), none, []⟩ :: ⟨.load 1 false (.t 20), (some 21), none, []⟩ :: L195_15) T L (rdy h) K := rfl
def L195_17 : List AStep := [⟨.mov (.c (.bool false)), (some 4), none, []⟩]
theorem v195_17 : wpS P L195_17 T L (rdy h) K = wpS P ([⟨.mov (.c (.bool false)), (some 4), none, []⟩]) T L (rdy h) K := rfl
def L195_18 : List AStep := [⟨.mov (.c (.bool true)), (some 4), none, []⟩]
theorem v195_18 : wpS P L195_18 T L (rdy h) K = wpS P ([⟨.mov (.c (.bool true)), (some 4), none, []⟩]) T L (rdy h) K := rfl
def C195_0 : ACode := .seq (.reg L195_5) .ret
theorem u195_0 : wpC P C195_0 T L (rdy h) Q = wpC P (.seq (.reg L195_5) .ret) T L (rdy h) Q := rfl
def C195_1 : ACode := .cond (.t 9) C195_0 .skip
theorem u195_1 : wpC P C195_1 T L (rdy h) Q = wpC P (.cond (.t 9) C195_0 .skip) T L (rdy h) Q := rfl
def C195_2 : ACode := .seq (.reg L195_4) C195_1
theorem u195_2 : wpC P C195_2 T L (rdy h) Q = wpC P (.seq (.reg L195_4) C195_1) T L (rdy h) Q := rfl
def C195_3 : ACode := .seq (.reg L195_9) .ret
theorem u195_3 : wpC P C195_3 T L (rdy h) Q = wpC P (.seq (.reg L195_9) .ret) T L (rdy h) Q := rfl
def C195_4 : ACode := .cond (.t 14) C195_3 .skip
theorem u195_4 : wpC P C195_4 T L (rdy h) Q = wpC P (.cond (.t 14) C195_3 .skip) T L (rdy h) Q := rfl
def C195_5 : ACode := .seq (.reg L195_8) C195_4
theorem u195_5 : wpC P C195_5 T L (rdy h) Q = wpC P (.seq (.reg L195_8) C195_4) T L (rdy h) Q := rfl
def C195_6 : ACode := .seq (.reg L195_13) .ret
theorem u195_6 : wpC P C195_6 T L (rdy h) Q = wpC P (.seq (.reg L195_13) .ret) T L (rdy h) Q := rfl
def C195_7 : ACode := .cond (.t 19) C195_6 .skip
theorem u195_7 : wpC P C195_7 T L (rdy h) Q = wpC P (.cond (.t 19) C195_6 .skip) T L (rdy h) Q := rfl
def C195_8 : ACode := .seq (.reg L195_12) C195_7
theorem u195_8 : wpC P C195_8 T L (rdy h) Q = wpC P (.seq (.reg L195_12) C195_7) T L (rdy h) Q := rfl
def C195_9 : ACode := .seq (.reg L195_17) .ret
theorem u195_9 : wpC P C195_9 T L (rdy h) Q = wpC P (.seq (.reg L195_17) .ret) T L (rdy h) Q := rfl
def C195_10 : ACode := .cond (.t 24) C195_9 .skip
theorem u195_10 : wpC P C195_10 T L (rdy h) Q = wpC P (.cond (.t 24) C195_9 .skip) T L (rdy h) Q := rfl
def C195_11 : ACode := .seq (.reg L195_16) C195_10
theorem u195_11 : wpC P C195_11 T L (rdy h) Q = wpC P (.seq (.reg L195_16) C195_10) T L (rdy h) Q := rfl
def C195_12 : ACode := .seq (.reg L195_18) .ret
theorem u195_12 : wpC P C195_12 T L (rdy h) Q = wpC P (.seq (.reg L195_18) .ret) T L (rdy h) Q := rfl
def C195_13 : ACode := .seq C195_11 C195_12
theorem u195_13 : wpC P C195_13 T L (rdy h) Q = wpC P (.seq C195_11 C195_12) T L (rdy h) Q := rfl
def C195_14 : ACode := .seq C195_8 C195_13
theorem u195_14 : wpC P C195_14 T L (rdy h) Q = wpC P (.seq C195_8 C195_13) T L (rdy h) Q := rfl
def C195_15 : ACode := .seq C195_5 C195_14
theorem u195_15 : wpC P C195_15 T L (rdy h) Q = wpC P (.seq C195_5 C195_14) T L (rdy h) Q := rfl
def C195_16 : ACode := .seq C195_2 C195_15
theorem u195_16 : wpC P C195_16 T L (rdy h) Q = wpC P (.seq C195_2 C195_15) T L (rdy h) Q := rfl
def C195_17 : ACode := .seq (.reg L195_1) C195_16
theorem u195_17 : wpC P C195_17 T L (rdy h) Q = wpC P (.seq (.reg L195_1) C195_16) T L (rdy h) Q := rfl
def F195 : AFunc := ⟨25, [.tmp 4], C195_17⟩
theorem cF195 : compB Try.prog 195 = some F195 := by kernel_rfl
end
attribute [local go_sem ↓] u195_0 u195_1 u195_2 u195_3 u195_4 u195_5 u195_6 u195_7 u195_8 u195_9 u195_10 u195_11 u195_12 u195_13 u195_14 u195_15 u195_16 u195_17 v195_0 v195_1 v195_2 v195_3 v195_4 v195_5 v195_6 v195_7 v195_8 v195_9 v195_10 v195_11 v195_12 v195_13 v195_14 v195_15 v195_16 v195_17 v195_18
theorem c_eqParam (p q : Param) (h : H) : bm Try.prog 195 [.agg (encQ p), .agg (encQ q)] h = some (ib (decide (p = q)), h) := by
  refine bm_eq cF195 ?_
  obtain ⟨n1, k1, d1, v1⟩ := p
  obtain ⟨n2, k2, d2, v2⟩ := q
  simp +contextual (maxSteps := 2000000) only [go_sem, Nat.reduceEqDiff, reduceCtorEq, Nat.reduceAdd, Nat.reduceLeDiff, F195, Param.mk.injEq]
  try ((repeat' (first | refine And.intro ?_ ?_ | intro _)) <;> first | simp_all)
section
variable {P : Program} {T : Tb} {L : Lb} {h : H} {Q : PostC} {K : Post}
/-! laws.eqPair -/
def L186_0 : List AStep := [⟨.mov (.c (.bool false)), (some 4), none, []⟩]
theorem v186_0 : wpS P L186_0 T L (rdy h) K = wpS P ([⟨.mov (.c (.bool false)), (some 4), none, []⟩]) T L (rdy h) K := rfl
def L186_1 : List AStep := ⟨.box 86 (.t 0), (some 2), none, []⟩ :: ⟨.box 86 (.t 1), (some 3), none, []⟩ :: L186_0
theorem v186_1 : wpS P L186_1 T L (rdy h) K = wpS P (⟨.box 86 (.t 0), (some 2), none, []⟩ :: ⟨.box 86 (.t 1), (some 3), none, []⟩ :: L186_0) T L (rdy h) K := rfl
def L186_2 : List AStep := [⟨.bin .neq (.t 6) (.t 8), (some 9), none, []⟩]
theorem v186_2 : wpS P L186_2 T L (rdy h) K = wpS P ([⟨.bin .neq (.t 6) (.t 8), (some 9), none, []⟩]) T L (rdy h) K := rfl
def L186_3 : List AStep := ⟨.faddr 0 (.t 3), (some 7), none, []⟩ :: ⟨.load 1 false (.t 7), (some 8), none, []⟩ :: L186_2
theorem v186_3 : wpS P L186_3 T L (rdy h) K = wpS P (⟨.faddr 0 (.t 3), (some 7), none, []⟩ :: ⟨.load 1 false (.t 7), (some 8), none, []⟩ :: L186_2) T L (rdy h) K := rfl
def L186_4 : List AStep := ⟨.faddr 0 (.t 2), (some 5), none, []⟩ :: ⟨.load 1 false (.t 5), (some 6), none, []⟩ :: L186_3
theorem v186_4 : wpS P L186_4 T L (rdy h) K = wpS P (⟨.faddr 0 (.t 2), (some 5), none, []⟩ :: ⟨.load 1 false (.t 5), (some 6), none, []⟩ :: L186_3) T L (rdy h) K := rfl
def L186_5 : List AStep := [⟨.mov (.c (.bool false)), (some 4), none, []⟩]
theorem v186_5 : wpS P L186_5 T L (rdy h) K = wpS P ([⟨.mov (.c (.bool false)), (some 4), none, []⟩]) T L (rdy h) K := rfl
def L186_6 : List AStep := [⟨.bin .neq (.t 11) (.t 13), (some 14), none, []⟩]
theorem v186_6 : wpS P L186_6 T L (rdy h) K = wpS P ([⟨.bin .neq (.t 11) (.t 13), (some 14), none, []⟩]) T L (rdy h) K := rfl
def L186_7 : List AStep := ⟨.faddr 1 (.t 3), (some 12), none, []⟩ :: ⟨.load 1 false (.t 12), (some 13), none, []⟩ :: L186_6
theorem v186_7 : wpS P L186_7 T L (rdy h) K = wpS P (⟨.faddr 1 (.t 3), (some 12), none, []⟩ :: ⟨.load 1 false (.t 12), (some 13), none, []⟩ :: L186_6) T L (rdy h) K := rfl
def L186_8 : List AStep := ⟨.faddr 1 (.t 2), (some 10), none, []⟩ :: ⟨.load 1 false (.t 10), (some 11), none, []⟩ :: L186_7
theorem v186_8 : wpS P L186_8 T L (rdy h) K = wpS P (⟨.faddr 1 (.t 2), (some 10), none, []⟩ :: ⟨.load 1 false (.t 10), (some 11), none, []⟩ :: L186_7) T L (rdy h) K := rfl
def L186_9 : List AStep := [⟨.mov (.c (.bool false)), (some 4), none, []⟩]
theorem v186_9 : wpS P L186_9 T L (rdy h) K = wpS P ([⟨.mov (.c (.bool false)), (some 4), none, []⟩]) T L (rdy h) K := rfl
def L186_10 : List AStep := [⟨.mov (.c (.bool true)), (some 4), none, []⟩]
theorem v186_10 : wpS P L186_10 T L (rdy h) K = wpS P ([⟨.mov (.c (.bool true)), (some 4), none, []⟩]) T L (rdy h) K := rfl
def C186_0 : ACode := .seq (.reg L186_5) .ret
theorem u186_0 : wpC P C186_0 T L (rdy h) Q = wpC P (.seq (.reg L186_5) .ret) T L (rdy h) Q := rfl
def C186_1 : ACode := .cond (.t 9) C186_0 .skip
theorem u186_1 : wpC P C186_1 T L (rdy h) Q = wpC P (.cond (.t 9) C186_0 .skip) T L (rdy h) Q := rfl
def C186_2 : ACode := .seq (.reg L186_4) C186_1
theorem u186_2 : wpC P C186_2 T L (rdy h) Q = wpC P (.seq (.reg L186_4) C186_1) T L (rdy h) Q := rfl
def C186_3 : ACode := .seq (.reg L186_9) .ret
theorem u186_3 : wpC P C186_3 T L (rdy h) Q = wpC P (.seq (.reg L186_9) .ret) T L (rdy h) Q := rfl
def C186_4 : ACode := .cond (.t 14) C186_3 .skip
theorem u186_4 : wpC P C186_4 T L (rdy h) Q = wpC P (.cond (.t 14) C186_3 .skip) T L (rdy h) Q := rfl
def C186_5 : ACode := .seq (.reg L186_8) C186_4
theorem u186_5 : wpC P C186_5 T L (rdy h) Q = wpC P (.seq (.reg L186_8) C186_4) T L (rdy h) Q := rfl
def C186_6 : ACode := .seq (.reg L186_10) .ret
theorem u186_6 : wpC P C186_6 T L (rdy h) Q = wpC P (.seq (.reg L186_10) .ret) T L (rdy h) Q := rfl
def C186_7 : ACode := .seq C186_5 C186_6
theorem u186_7 : wpC P C186_7 T L (rdy h) Q = wpC P (.seq C186_5 C186_6) T L (rdy h) Q := rfl
def C186_8 : ACode := .seq C186_2 C186_7
theorem u186_8 : wpC P C186_8 T L (rdy h) Q = wpC P (.seq C186_2 C186_7) T L (rdy h) Q := rfl
def C186_9 : ACode := .seq (.reg L186_1) C186_8
theorem u186_9 : wpC P C186_9 T L (rdy h) Q = wpC P (.seq (.reg L186_1) C186_8) T L (rdy h) Q := rfl
def F186 : AFunc := ⟨15, [.tmp 4], C186_9⟩
theorem cF186 : compB Try.prog 186 = some F186 := by kernel_rfl
end
attribute [local go_sem ↓] u186_0 u186_1 u186_2 u186_3 u186_4 u186_5 u186_6 u186_7 u186_8 u186_9 v186_0 v186_1 v186_2 v186_3 v186_4 v186_5 v186_6 v186_7 v186_8 v186_9 v186_10
theorem c_eqPair (p q : Pair) (h : H) : bm Try.prog 186 [.agg (encP p), .agg (encP q)] h = some (ib (decide (p = q)), h) := by
  refine bm_eq cF186 ?_
  obtain ⟨n1, k1⟩ := p
  obtain ⟨n2, k2⟩ := q
  simp +contextual (maxSteps := 2000000) only [go_sem, Nat.reduceEqDiff, reduceCtorEq, Nat.reduceAdd, Nat.reduceLeDiff, F186, Pair.mk.injEq]
  try ((repeat' (first | refine And.intro ?_ ?_ | intro _)) <;> first | simp_all)
section
variable {P : Program} {T : Tb} {L : Lb} {h : H} {Q : PostC} {K : Post}
/-! laws.eqPlace -/
def L198_0 : List AStep := [⟨.mov (.c (.bool false)), (some 4), none, []⟩]
theorem v198_0 : wpS P L198_0 T L (rdy h) K = wpS P ([⟨.mov (.c (.bool false)), (some 4), none, []⟩]) T L (rdy h) K := rfl
def L198_1 : List AStep := ⟨.box 83 (.t 0), (some 2), none, []⟩ :: ⟨.box 83 (.t 1), (some 3), none, []⟩ :: L198_0
theorem v198_1 : wpS P L198_1 T L (rdy h) K = wpS P (⟨.box 83 (.t 0), (some 2), none, []⟩ :: ⟨.box 83 (.t 1), (some 3), none, []⟩ :: L198_0) T L (rdy h) K := rfl
def L198_2 : List AStep := [⟨.eqb true (.t 6) (.t 8), (some 9), none, []⟩]
theorem v198_2 : wpS P L198_2 T L (rdy h) K = wpS P ([⟨.eqb true (.t 6) (.t 8), (some 9), none, []⟩]) T L (rdy h) K := rfl
def L198_3 : List AStep := ⟨.faddr 0 (.t 3), (some 7), none, []⟩ :: ⟨.load 1 false (.t 7), (some 8), none, []⟩ :: L198_2
theorem v198_3 : wpS P L198_3 T L (rdy h) K = wpS P (⟨.faddr 0 (.t 3), (some 7), none, []⟩ :: ⟨.load 1 false (.t 7), (some 8), none, []⟩ :: L198_2) T L (rdy h) K := rfl
def L198_4 : List AStep := ⟨.faddr 0 (.t 2), (some 5), none, []⟩ :: ⟨.load 1 false (.t 5), (some 6), none, []⟩ :: L198_3
theorem v198_4 : wpS P L198_4 T L (rdy h) K = wpS P (⟨.faddr 0 (.t 2), (some 5), none, []⟩ :: ⟨.load 1 false (.t 5), (some 6), none, []⟩ :: L198_3) T L (rdy h) K := rfl
def L198_5 : List AStep := [⟨.mov (.c (.bool false)), (some 4), none, []⟩]
theorem v198_5 : wpS P L198_5 T L (rdy h) K = wpS P ([⟨.mov (.c (.bool false)), (some 4), none, []⟩]) T L (rdy h) K := rfl
def L198_6 : List AStep := [⟨.bin .neq (.t 11) (.t 13), (some 14), none, []⟩]
theorem v198_6 : wpS P L198_6 T L (rdy h) K = wpS P ([⟨.bin .neq (.t 11) (.t 13), (some 14), none, []⟩]) T L (rdy h) K := rfl
def L198_7 : List AStep := ⟨.faddr 1 (.t 3), (some 12), none, []⟩ :: ⟨.load 1 false (.t 12), (some 13), none, []⟩ :: L198_6
theorem v198_7 : wpS P L198_7 T L (rdy h) K = wpS P (⟨.faddr 1 (.t 3), (some 12), none, []⟩ :: ⟨.load 1 false (.t 12), (some 13), none, []⟩ :: L198_6) T L (rdy h) K := rfl
def L198_8 : List AStep := ⟨.faddr 1 (.t 2), (some 10), none, []⟩ :: ⟨.load 1 false (.t 10), (some 11), none, []⟩ :: L198_7
theorem v198_8 : wpS P L198_8 T L (rdy h) K = wpS P (⟨.faddr 1 (.t 2), (some 10), none, []⟩ :: ⟨.load 1 false (.t 10), (some 11), none, []⟩ :: L198_7) T L (rdy h) K := rfl
def L198_9 : List AStep := [⟨.mov (.c (.bool false)), (some 4), none, []⟩]
theorem v198_9 : wpS P L198_9 T L (rdy h) K = wpS P ([⟨.mov (.c (.bool false)), (some 4), none, []⟩]) T L (rdy h) K := rfl
def L198_10 : List AStep := [⟨.mov (.c (.bool true)), (some 4), none, []⟩]
theorem v198_10 : wpS P L198_10 T L (rdy h) K = wpS P ([⟨.mov (.c (.bool true)), (some 4), none, []⟩]) T L (rdy h) K := rfl
def C198_0 : ACode := .seq (.reg L198_5) .ret
theorem u198_0 : wpC P C198_0 T L (rdy h) Q = wpC P (.seq (.reg L198_5) .ret) T L (rdy h) Q := rfl
def C198_1 : ACode := .cond (.t 9) C198_0 .skip
theorem u198_1 : wpC P C198_1 T L (rdy h) Q = wpC P (.cond (.t 9) C198_0 .skip) T L (rdy h) Q := rfl
def C198_2 : ACode := .seq (.reg L198_4) C198_1
theorem u198_2 : wpC P C198_2 T L (rdy h) Q = wpC P (.seq (.reg L198_4) C198_1) T L (rdy h) Q := rfl
def C198_3 : ACode := .seq (.reg L198_9) .ret
theorem u198_3 : wpC P C198_3 T L (rdy h) Q = wpC P (.seq (.reg L198_9) .ret) T L (rdy h) Q := rfl
def C198_4 : ACode := .cond (.t 14) C198_3 .skip
theorem u198_4 : wpC P C198_4 T L (rdy h) Q = wpC P (.cond (.t 14) C198_3 .skip) T L (rdy h) Q := rfl
def C198_5 : ACode := .seq (.reg L198_8) C198_4
theorem u198_5 : wpC P C198_5 T L (rdy h) Q = wpC P (.seq (.reg L198_8) C198_4) T L (rdy h) Q := rfl
def C198_6 : ACode := .seq (.reg L198_10) .ret
theorem u198_6 : wpC P C198_6 T L (rdy h) Q = wpC P (.seq (.reg L198_10) .ret) T L (rdy h) Q := rfl
def C198_7 : ACode := .seq C198_5 C198_6
theorem u198_7 : wpC P C198_7 T L (rdy h) Q = wpC P (.seq C198_5 C198_6) T L (rdy h) Q := rfl
def C198_8 : ACode := .seq C198_2 C198_7
theorem u198_8 : wpC P C198_8 T L (rdy h) Q = wpC P (.seq C198_2 C198_7) T L (rdy h) Q := rfl
def C198_9 : ACode := .seq (.reg L198_1) C198_8
theorem u198_9 : wpC P C198_9 T L (rdy h) Q = wpC P (.seq (.reg L198_1) C198_8) T L (rdy h) Q := rfl
def F198 : AFunc := ⟨15, [.tmp 4], C198_9⟩
theorem cF198 : compB Try.prog 198 = some F198 := by kernel_rfl
end
attribute [local go_sem ↓] u198_0 u198_1 u198_2 u198_3 u198_4 u198_5 u198_6 u198_7 u198_8 u198_9 v198_0 v198_1 v198_2 v198_3 v198_4 v198_5 v198_6 v198_7 v198_8 v198_9 v198_10
theorem c_eqPlace (p q : Place) (h : H) : bm Try.prog 198 [.agg (encL p), .agg (encL q)] h = some (ib (decide (p = q)), h) := by
  refine bm_eq cF198 ?_
  obtain ⟨n1, k1⟩ := p
  obtain ⟨n2, k2⟩ := q
  simp +contextual (maxSteps := 2000000) only [go_sem, Nat.reduceEqDiff, reduceCtorEq, Nat.reduceAdd, Nat.reduceLeDiff, F198, Place.mk.injEq]
  try ((repeat' (first | refine And.intro ?_ ?_ | intro _)) <;> first | simp_all)
section
variable {P : Program} {T : Tb} {L : Lb} {h : H} {Q : PostC} {K : Post}
/-! laws.eqTurn -/
def L142_0 : List AStep := [⟨.mov (.c (.bool false)), (some 4), none, []⟩]
theorem v142_0 : wpS P L142_0 T L (rdy h) K = wpS P ([⟨.mov (.c (.bool false)), (some 4), none, []⟩]) T L (rdy h) K := rfl
def L142_1 : List AStep := ⟨.box 165 (.t 0), (some 2), none, []⟩ :: ⟨.box 165 (.t 1), (some 3), none, []⟩ :: L142_0
theorem v142_1 : wpS P L142_1 T L (rdy h) K = wpS P (⟨.box 165 (.t 0), (some 2), none, []⟩ :: ⟨.box 165 (.t 1), (some 3), none, []⟩ :: L142_0) T L (rdy h) K := rfl
def L142_2 : List AStep := [⟨.bin .neq (.t 6) (.t 8), (some 9), none, []⟩]
theorem v142_2 : wpS P L142_2 T L (rdy h) K = wpS P ([⟨.bin .neq (.t 6) (.t 8), (some 9), none, []⟩]) T L (rdy h) K := rfl
def L142_3 : List AStep := ⟨.faddr 0 (.t 3), (some 7), none, []⟩ :: ⟨.load 1 false (.t 7), (some 8), none, []⟩ :: L142_2
theorem v142_3 : wpS P L142_3 T L (rdy h) K = wpS P (⟨.faddr 0 (.t 3), (some 7), none, []⟩ :: ⟨.load 1 false (.t 7), (some 8), none, []⟩ :: L142_2) T L (rdy h) K := rfl
def L142_4 : List AStep := ⟨.faddr 0 (.t 2), (some 5), none, []⟩ :: ⟨.load 1 false (.t 5), (some 6), none, []⟩ :: L142_3
theorem v142_4 : wpS P L142_4 T L (rdy h) K = wpS P (⟨.faddr 0 (.t 2), (some 5), none, []⟩ :: ⟨.load 1 false (.t 5), (some 6), none, []⟩ :: L142_3) T L (rdy h) K := rfl
def L142_5 : List AStep := [⟨.mov (.c (.bool false)), (some 4), none, []⟩]
theorem v142_5 : wpS P L142_5 T L (rdy h) K = wpS P ([⟨.mov (.c (.bool false)), (some 4), none, []⟩]) T L (rdy h) K := rfl
def L142_6 : List AStep := [⟨.bin .neq (.t 11) (.t 13), (some 14), none, []⟩]
theorem v142_6 : wpS P L142_6 T L (rdy h) K = wpS P ([⟨.bin .neq (.t 11) (.t 13), (some 14), none, []⟩]) T L (rdy h) K := rfl
def L142_7 : List AStep := ⟨.faddr 1 (.t 3), (some 12), none, []⟩ :: ⟨.load 1 false (.t 12), (some 13), none, []⟩ :: L142_6
theorem v142_7 : wpS P L142_7 T L (rdy h) K = wpS P (⟨.faddr 1 (.t 3), (some 12), none, []⟩ :: ⟨.load 1 false (.t 12), (some 13), none, []⟩ :: L142_6) T L (rdy h) K := rfl
def L142_8 : List AStep := ⟨.faddr 1 (.t 2), (some 10), none, []⟩ :: ⟨.load 1 false (.t 10), (some 11), none, []⟩ :: L142_7
theorem v142_8 : wpS P L142_8 T L (rdy h) K = wpS P (⟨.faddr 1 (.t 2), (some 10), none, []⟩ :: ⟨.load 1 false (.t 10), (some 11), none, []⟩ :: L142_7) T L (rdy h) K := rfl
def L142_9 : List AStep := [⟨.mov (.c (.bool false)), (some 4), none, []⟩]
theorem v142_9 : wpS P L142_9 T L (rdy h) K = wpS P ([⟨.mov (.c (.bool false)), (some 4), none, []⟩]) T L (rdy h) K := rfl
def L142_10 : List AStep := [⟨.mov (.c (.bool true)), (some 4), none, []⟩]
theorem v142_10 : wpS P L142_10 T L (rdy h) K = wpS P ([⟨.mov (.c (.bool true)), (some 4), none, []⟩]) T L (rdy h) K := rfl
def C142_0 : ACode := .seq (.reg L142_5) .ret
theorem u142_0 : wpC P C142_0 T L (rdy h) Q = wpC P (.seq (.reg L142_5) .ret) T L (rdy h) Q := rfl
def C142_1 : ACode := .cond (.t 9) C142_0 .skip
theorem u142_1 : wpC P C142_1 T L (rdy h) Q = wpC P (.cond (.t 9) C142_0 .skip) T L (rdy h) Q := rfl
def C142_2 : ACode := .seq (.reg L142_4) C142_1
theorem u142_2 : wpC P C142_2 T L (rdy h) Q = wpC P (.seq (.reg L142_4) C142_1) T L (rdy h) Q := rfl
def C142_3 : ACode := .seq (.reg L142_9) .ret
theorem u142_3 : wpC P C142_3 T L (rdy h) Q = wpC P (.seq (.reg L142_9) .ret) T L (rdy h) Q := rfl
def C142_4 : ACode := .cond (.t 14) C142_3 .skip
theorem u142_4 : wpC P C142_4 T L (rdy h) Q = wpC P (.cond (.t 14) C142_3 .skip) T L (rdy h) Q := rfl
def C142_5 : ACode := .seq (.reg L142_8) C142_4
theorem u142_5 : wpC P C142_5 T L (rdy h) Q = wpC P (.seq (.reg L142_8) C142_4) T L (rdy h) Q := rfl
def C142_6 : ACode := .seq (.reg L142_10) .ret
theorem u142_6 : wpC P C142_6 T L (rdy h) Q = wpC P (.seq (.reg L142_10) .ret) T L (rdy h) Q := rfl
def C142_7 : ACode := .seq C142_5 C142_6
theorem u142_7 : wpC P C142_7 T L (rdy h) Q = wpC P (.seq C142_5 C142_6) T L (rdy h) Q := rfl
def C142_8 : ACode := .seq C142_2 C142_7
theorem u142_8 : wpC P C142_8 T L (rdy h) Q = wpC P (.seq C142_2 C142_7) T L (rdy h) Q := rfl
def C142_9 : ACode := .seq (.reg L142_1) C142_8
theorem u142_9 : wpC P C142_9 T L (rdy h) Q = wpC P (.seq (.reg L142_1) C142_8) T L (rdy h) Q := rfl
def F142 : AFunc := ⟨15, [.tmp 4], C142_9⟩
theorem cF142 : compB Try.prog 142 = some F142 := by kernel_rfl
end
attribute [local go_sem ↓] u142_0 u142_1 u142_2 u142_3 u142_4 u142_5 u142_6 u142_7 u142_8 u142_9 v142_0 v142_1 v142_2 v142_3 v142_4 v142_5 v142_6 v142_7 v142_8 v142_9 v142_10
theorem c_eqTurn (p q : Turn) (h : H) : bm Try.prog 142 [.agg (encT p), .agg (encT q)] h = some (ib (decide (p = q)), h) := by
  refine bm_eq cF142 ?_
  obtain ⟨n1, k1⟩ := p
  obtain ⟨n2, k2⟩ := q
  simp +contextual (maxSteps := 2000000) only [go_sem, Nat.reduceEqDiff, reduceCtorEq, Nat.reduceAdd, Nat.reduceLeDiff, F142, Turn.mk.injEq]
  try ((repeat' (first | refine And.intro ?_ ?_ | intro _)) <;> first | simp_all)
section
variable {P : Program} {T : Tb} {L : Lb} {h : H} {Q : PostC} {K : Post}
/-! laws.eqIntS -/
def L110_0 : List AStep := [⟨.mov (.c (.bool false)), (some 4), none, []⟩]
theorem v110_0 : wpS P L110_0 T L (rdy h) K = wpS P ([⟨.mov (.c (.bool false)), (some 4), none, []⟩]) T L (rdy h) K := rfl
def L110_1 : List AStep := [⟨.bin .neq (.t 7) (.t 9), (some 10), none, []⟩]
theorem v110_1 : wpS P L110_1 T L (rdy h) K = wpS P ([⟨.bin .neq (.t 7) (.t 9), (some 10), none, []⟩]) T L (rdy h) K := rfl
def L110_2 : List AStep := ⟨.mov (.t 1), (some 8), none, []⟩ :: ⟨.len (.t 8), (some 9), none, []⟩ :: L110_1
theorem v110_2 : wpS P L110_2 T L (rdy h) K = wpS P (⟨.mov (.t 1), (some 8), none, []⟩ :: ⟨.len (.t 8), (some 9), none, []⟩ :: L110_1) T L (rdy h) K := rfl
def L110_3 : List AStep := ⟨.mov (.t 0), (some 6), none, []⟩ :: ⟨.len (.t 6), (some 7), none, []⟩ :: L110_2
theorem v110_3 : wpS P L110_3 T L (rdy h) K = wpS P (⟨.mov (.t 0), (some 6), none, []⟩ :: ⟨.len (.t 6), (some 7), none, []⟩ :: L110_2) T L (rdy h) K := rfl
def L110_4 : List AStep := [⟨.mov (.c (.bool false)), (some 4), none, []⟩]
theorem v110_4 : wpS P L110_4 T L (rdy h) K = wpS P ([⟨.mov (.c (.bool false)), (some 4), none, []⟩]) T L (rdy h) K := rfl
def L110_5 : List AStep := [⟨.mov (.c (.int .i64 0)), (some 5), none, []⟩]
theorem v110_5 : wpS P L110_5 T L (rdy h) K = wpS P ([⟨.mov (.c (.int .i64 0)), (some 5), none, []⟩]) T L (rdy h) K := rfl
def L110_6 : List AStep := [⟨.len (.t 12), (some 13), none, []⟩, ⟨.bin .lss (.t 11) (.t 13), (some 14), none, []⟩]
theorem v110_6 : wpS P L110_6 T L (rdy h) K = wpS P ([⟨.len (.t 12), (some 13), none, []⟩, ⟨.bin .lss (.t 11) (.t 13), (some 14), none, []⟩]) T L (rdy h) K := rfl
def L110_7 : List AStep := ⟨.mov (.t 5), (some 11), none, []⟩ :: ⟨.mov (.t 0), (some 12), none, []⟩ :: L110_6
theorem v110_7 : wpS P L110_7 T L (rdy h) K = wpS P (⟨.mov (.t 5), (some 11), none, []⟩ :: ⟨.mov (.t 0), (some 12), none, []⟩ :: L110_6) T L (rdy h) K := rfl
def L110_8 : List AStep := [⟨.bin .neq (.t 20) (.t 24), (some 25), none, []⟩]
theorem v110_8 : wpS P L110_8 T L (rdy h) K = wpS P ([⟨.bin .neq (.t 20) (.t 24), (some 25), none, []⟩]) T L (rdy h) K := rfl
def L110_9 : List AStep := ⟨.iaddr 1 (.t 21) (.t 22), (some 23), none, []⟩ :: ⟨.load 1 false (.t 23), (some 24), none, []⟩ :: L110_8
theorem v110_9 : wpS P L110_9 T L (rdy h) K = wpS P (⟨.iaddr 1 (.t 21) (.t 22), (some 23), none, []⟩ :: ⟨.load 1 false (.t 23), (some 24), none, []⟩ :: L110_8) T L (rdy h) K := rfl
def L110_10 : List AStep := ⟨.mov (.t 1), (some 21), none, []⟩ :: ⟨.mov (.t 5), (some 22), none, []⟩ :: L110_9
theorem v110_10 : wpS P L110_10 T L (rdy h) K = wpS P (⟨.mov (.t 1), (some 21), none, []⟩ :: ⟨.mov (.t 5), (some 22), none, []⟩ :: L110_9) T L (rdy h) K := rfl
def L110_11 : List AStep := ⟨.iaddr 1 (.t 17) (.t 18), (some 19), none, []⟩ :: ⟨.load 1 false (.t 19), (some 20), none, []⟩ :: L110_10
theorem v110_11 : wpS P L110_11 T L (rdy h) K = wpS P (⟨.iaddr 1 (.t 17) (.t 18), (some 19), none, []⟩ :: ⟨.load 1 false (.t 19), (some 20), none, []⟩ :: L110_10) T L (rdy h) K := rfl
def L110_12 : List AStep := ⟨.mov (.t 0), (some 17), none, []⟩ :: ⟨.mov (.t 5), (some 18), none, []⟩ :: L110_11
theorem v110_12 : wpS P L110_12 T L (rdy h) K = wpS P (⟨.mov (.t 0), (some 17), none, []⟩ :: ⟨.mov (.t 5), (some 18), none, []⟩ :: L110_11) T L (rdy h) K := rfl
def L110_13 : List AStep := [⟨.mov (.c (.bool false)), (some 4), none, []⟩]
theorem v110_13 : wpS P L110_13 T L (rdy h) K = wpS P ([⟨.mov (.c (.bool false)), (some 4), none, []⟩]) T L (rdy h) K := rfl
def L110_14 : List AStep := [⟨.mov (.t 16), (some 5), none, []⟩]
theorem v110_14 : wpS P L110_14 T L (rdy h) K = wpS P ([⟨.mov (.t 16), (some 5), none, []⟩]) T L (rdy h) K := rfl
def L110_15 : List AStep := ⟨.mov (.t 5), (some 15), none, []⟩ :: ⟨.bin .add (.t 15) (.c (.int .i64 1)), (some 16), none, []⟩ :: L110_14
theorem v110_15 : wpS P L110_15 T L (rdy h) K = wpS P (⟨.mov (.t 5), (some 15), none, []⟩ :: ⟨.bin .add (.t 15) (.c (.int .i64 1)), (some 16), none, []⟩ :: L110_14) T L (rdy h) K := rfl
def L110_16 : List AStep := [⟨.mov (.c (.bool true)), (some 4), none, []⟩]
theorem v110_16 : wpS P L110_16 T L (rdy h) K = wpS P ([⟨.mov (.c (.bool true)), (some 4), none, []⟩]) T L (rdy h) K := rfl
def C110_0 : ACode := .seq (.reg L110_4) .ret
theorem u110_0 : wpC P C110_0 T L (rdy h) Q = wpC P (.seq (.reg L110_4) .ret) T L (rdy h) Q := rfl
def C110_1 : ACode := .cond (.t 10) C110_0 .skip
theorem u110_1 : wpC P C110_1 T L (rdy h) Q = wpC P (.cond (.t 10) C110_0 .skip) T L (rdy h) Q := rfl
def C110_2 : ACode := .seq (.reg L110_3) C110_1
theorem u110_2 : wpC P C110_2 T L (rdy h) Q = wpC P (.seq (.reg L110_3) C110_1) T L (rdy h) Q := rfl
def C110_3 : ACode := .cond (.t 14) .skip (.exit 0)
theorem u110_3 : wpC P C110_3 T L (rdy h) Q = wpC P (.cond (.t 14) .skip (.exit 0)) T L (rdy h) Q := rfl
def C110_4 : ACode := .seq (.reg L110_7) C110_3
theorem u110_4 : wpC P C110_4 T L (rdy h) Q = wpC P (.seq (.reg L110_7) C110_3) T L (rdy h) Q := rfl
def C110_5 : ACode := .seq (.reg L110_13) .ret
theorem u110_5 : wpC P C110_5 T L (rdy h) Q = wpC P (.seq (.reg L110_13) .ret) T L (rdy h) Q := rfl
def C110_6 : ACode := .cond (.t 25) C110_5 .skip
theorem u110_6 : wpC P C110_6 T L (rdy h) Q = wpC P (.cond (.t 25) C110_5 .skip) T L (rdy h) Q := rfl
def C110_7 : ACode := .seq (.reg L110_12) C110_6
theorem u110_7 : wpC P C110_7 T L (rdy h) Q = wpC P (.seq (.reg L110_12) C110_6) T L (rdy h) Q := rfl
def C110_8 : ACode := .block 1 C110_7
theorem u110_8 : wpC P C110_8 T L (rdy h) Q = wpC P (.block 1 C110_7) T L (rdy h) Q := rfl
def C110_9 : ACode := .seq C110_8 (.reg L110_15)
theorem u110_9 : wpC P C110_9 T L (rdy h) Q = wpC P (.seq C110_8 (.reg L110_15)) T L (rdy h) Q := rfl
def C110_10 : ACode := .seq C110_4 C110_9
theorem u110_10 : wpC P C110_10 T L (rdy h) Q = wpC P (.seq C110_4 C110_9) T L (rdy h) Q := rfl
def C110_11 : ACode := .block 0 (.loop C110_10)
theorem u110_11 : wpC P C110_11 T L (rdy h) Q = wpC P (.block 0 (.loop C110_10)) T L (rdy h) Q := rfl
def C110_12 : ACode := .seq (.reg L110_5) C110_11
theorem u110_12 : wpC P C110_12 T L (rdy h) Q = wpC P (.seq (.reg L110_5) C110_11) T L (rdy h) Q := rfl
def C110_13 : ACode := .seq (.reg L110_16) .ret
theorem u110_13 : wpC P C110_13 T L (rdy h) Q = wpC P (.seq (.reg L110_16) .ret) T L (rdy h) Q := rfl
def C110_14 : ACode := .seq C110_12 C110_13
theorem u110_14 : wpC P C110_14 T L (rdy h) Q = wpC P (.seq C110_12 C110_13) T L (rdy h) Q := rfl
def C110_15 : ACode := .seq C110_2 C110_14
theorem u110_15 : wpC P C110_15 T L (rdy h) Q = wpC P (.seq C110_2 C110_14) T L (rdy h) Q := rfl
def C110_16 : ACode := .seq (.reg L110_0) C110_15
theorem u110_16 : wpC P C110_16 T L (rdy h) Q = wpC P (.seq (.reg L110_0) C110_15) T L (rdy h) Q := rfl
def F110 : AFunc := ⟨26, [.tmp 4], C110_16⟩
theorem cF110 : compB Try.prog 110 = some F110 := by kernel_rfl
end
attribute [local go_sem ↓] u110_0 u110_1 u110_2 u110_3 u110_4 u110_5 u110_6 u110_7 u110_8 u110_9 u110_10 u110_11 u110_12 u110_13 u110_14 u110_15 u110_16 v110_0 v110_1 v110_2 v110_3 v110_4 v110_5 v110_6 v110_7 v110_8 v110_9 v110_10 v110_11 v110_12 v110_13 v110_14 v110_15 v110_16
theorem c_eqIntS (l m : List Int) (v w : AV) (h : H) (hl : SlI h v l) (hm : SlI h w m) (hn : l.length ≤ big) : bm Try.prog 110 [v, w] h = some (ib (decide (l = m)), h) := by
  refine bm_eq cF110 ?_
  by_cases hlen : l.length = m.length
  case neg =>
    have e1 : decide ((l.length : Int) = (m.length : Int)) = false := decide_eq_false (by omega)
    simp +contextual (maxSteps := 2000000) only [go_sem, Nat.reduceEqDiff, reduceCtorEq, Nat.reduceAdd, Nat.reduceLeDiff, F110, hl.len, hm.len, e1]
    rw [ne_len e1]
  have e1 : decide ((l.length : Int) = (m.length : Int)) = true := decide_eq_true (by omega)
  simp +contextual (maxSteps := 2000000) only [go_sem, Nat.reduceEqDiff, reduceCtorEq, Nat.reduceAdd, Nat.reduceLeDiff, F110, hl.len, hm.len, e1]
  refine wpC_loop (fun i T L h' => h' = h ∧ T 0 = .v v ∧ T 1 = .v w ∧ T 5 = .v (.one (.int .i64 i)) ∧ Upto (eqAt l m) i) l.length ?_ ?_ (Nat.zero_le _) ?_
  · rintro i T L h' hi ⟨rfl, t0, t1, t5, hu⟩
    have him : i < m.length := by omega
    have e2 := eqAt_eq hi him
    simp +contextual (maxSteps := 2000000) only [go_sem, Nat.reduceEqDiff, reduceCtorEq, Nat.reduceAdd, Nat.reduceLeDiff, t0, t1, t5, hl.len, hm.len, hl.iaddr hi, hm.iaddr him, hl.oneO hi, hm.oneO him, lt_true hi]
    (repeat' (first | refine And.intro ?_ ?_ | intro _)) <;> first | rfl | rw [wrap_next hi (big_lt hn)] | (refine hu.next ?_; rw [e2]; (simp_all; done)) | (rw [ne_at (l := l) (m := m) (i := i)]; rw [e2]; (simp_all; done))
  · rintro T L h' ⟨rfl, t0, t1, t5, hu⟩
    simp +contextual (maxSteps := 2000000) only [go_sem, Nat.reduceEqDiff, reduceCtorEq, Nat.reduceAdd, Nat.reduceLeDiff, t0, t1, t5, hl.len, hm.len, lt_false, decide_eq_true (eq_of_upto hlen hu)]
  · simp +contextual (maxSteps := 2000000) only [go_sem, Nat.reduceEqDiff, reduceCtorEq, Nat.reduceAdd, Nat.reduceLeDiff]
    (repeat' (first | refine And.intro ?_ ?_ | intro _)) <;> first | rfl | exact Upto.zero
section
variable {P : Program} {T : Tb} {L : Lb} {h : H} {Q : PostC} {K : Post}
/-! laws.eqParamS -/
def L127_0 : List AStep := [⟨.mov (.c (.bool false)), (some 4), none, []⟩]
theorem v127_0 : wpS P L127_0 T L (rdy h) K = wpS P ([⟨.mov (.c (.bool false)), (some 4), none, []⟩]) T L (rdy h) K := rfl
def L127_1 : List AStep := [⟨.bin .neq (.t 7) (.t 9), (some 10), none, []⟩]
theorem v127_1 : wpS P L127_1 T L (rdy h) K = wpS P ([⟨.bin .neq (.t 7) (.t 9), (some 10), none, []⟩]) T L (rdy h) K := rfl
def L127_2 : List AStep := ⟨.mov (.t 1), (some 8), none, []⟩ :: ⟨.len (.t 8), (some 9), none, []⟩ :: L127_1
theorem v127_2 : wpS P L127_2 T L (rdy h) K = wpS P (⟨.mov (.t 1), (some 8), none, []⟩ :: ⟨.len (.t 8), (some 9), none, []⟩ :: L127_1) T L (rdy h) K := rfl
def L127_3 : List AStep := ⟨.mov (.t 0), (some 6), none, []⟩ :: ⟨.len (.t 6), (some 7), none, []⟩ :: L127_2
theorem v127_3 : wpS P L127_3 T L (rdy h) K = wpS P (⟨.mov (.t 0), (some 6), none, []⟩ :: ⟨.len (.t 6), (some 7), none, []⟩ :: L127_2) T L (rdy h) K := rfl
def L127_4 : List AStep := [⟨.mov (.c (.bool false)), (some 4), none, []⟩]
theorem v127_4 : wpS P L127_4 T L (rdy h) K = wpS P ([⟨.mov (.c (.bool false)), (some 4), none, []⟩]) T L (rdy h) K := rfl
def L127_5 : List AStep := [⟨.mov (.c (.int .i64 0)), (some 5), none, []⟩]
theorem v127_5 : wpS P L127_5 T L (rdy h) K = wpS P ([⟨.mov (.c (.int .i64 0)), (some 5), none, []⟩]) T L (rdy h) K := rfl
def L127_6 : List AStep := [⟨.len (.t 12), (some 13), none, []⟩, ⟨.bin .lss (.t 11) (.t 13), (some 14), none, []⟩]
theorem v127_6 : wpS P L127_6 T L (rdy h) K = wpS P ([⟨.len (.t 12), (some 13), none, []⟩, ⟨.bin .lss (.t 11) (.t 13), (some 14), none, []⟩]) T L (rdy h) K := rfl
def L127_7 : List AStep := ⟨.mov (.t 5), (some 11), none, []⟩ :: ⟨.mov (.t 0), (some 12), none, []⟩ :: L127_6
theorem v127_7 : wpS P L127_7 T L (rdy h) K = wpS P (⟨.mov (.t 5), (some 11), none, []⟩ :: ⟨.mov (.t 0), (some 12), none, []⟩ :: L127_6) T L (rdy h) K := rfl
def L127_8 : List AStep := [⟨.call 195 [(.t 20), (.t 24)], (some 25), none, []⟩, ⟨.not (.t 25), (some 26), none, []⟩]
theorem v127_8 : wpS P L127_8 T L (rdy h) K = wpS P ([⟨.call 195 [(.t 20), (.t 24)], (some 25), none, []⟩, ⟨.not (.t 25), (some 26), none, []⟩]) T L (rdy h) K := rfl
def L127_9 : List AStep := ⟨.iaddr 4 (.t 21) (.t 22), (some 23), none, []⟩ :: ⟨.load 4 true (.t 23), (some 24), none, []⟩ :: L127_8
theorem v127_9 : wpS P L127_9 T L (rdy h) K = wpS P (⟨.iaddr 4 (.t 21) (.t 22), (some 23), none, []⟩ :: ⟨.load 4 true (.t 23), (some 24), none, []⟩ :: L127_8) T L (rdy h) K := rfl
def L127_10 : List AStep := ⟨.mov (.t 1), (some 21), none, []⟩ :: ⟨.mov (.t 5), (some 22), none, []⟩ :: L127_9
theorem v127_10 : wpS P L127_10 T L (rdy h) K = wpS P (⟨.mov (.t 1), (some 21), none, []⟩ :: ⟨.mov (.t 5), (some 22), none, []⟩ :: L127_9) T L (rdy h) K := rfl
def L127_11 : List AStep := ⟨.iaddr 4 (.t 17) (.t 18), (some 19), none, []⟩ :: ⟨.load 4 true (.t 19), (some 20), none, []⟩ :: L127_10
theorem v127_11 : wpS P L127_11 T L (rdy h) K = wpS P (⟨.iaddr 4 (.t 17) (.t 18), (some 19), none, []⟩ :: ⟨.load 4 true (.t 19), (some 20), none, []⟩ :: L127_10) T L (rdy h) K := rfl
def L127_12 : List AStep := ⟨.mov (.t 0), (some 17), none, []⟩ :: ⟨.mov (.t 5), (some 18), none, []⟩ :: L127_11
theorem v127_12 : wpS P L127_12 T L (rdy h) K = wpS P (⟨.mov (.t 0), (some 17), none, []⟩ :: ⟨.mov (.t 5), (some 18), none, []⟩ :: L127_11) T L (rdy h) K := rfl
def L127_13 : List AStep := [⟨.mov (.c (.bool false)), (some 4), none, []⟩]
theorem v127_13 : wpS P L127_13 T L (rdy h) K = wpS P ([⟨.mov (.c (.bool false)), (some 4), none, []⟩]) T L (rdy h) K := rfl
def L127_14 : List AStep := [⟨.mov (.t 16), (some 5), none, []⟩]
theorem v127_14 : wpS P L127_14 T L (rdy h) K = wpS P ([⟨.mov (.t 16), (some 5), none, []⟩]) T L (rdy h) K := rfl
def L127_15 : List AStep := ⟨.mov (.t 5), (some 15), none, []⟩ :: ⟨.bin .add (.t 15) (.c (.int .i64 1)), (some 16), none, []⟩ :: L127_14
theorem v127_15 : wpS P L127_15 T L (rdy h) K = wpS P (⟨.mov (.t 5), (some 15), none, []⟩ :: ⟨.bin .add (.t 15) (.c (.int .i64 1)), (some 16), none, []⟩ :: L127_14) T L (rdy h) K := rfl
def L127_16 : List AStep := [⟨.mov (.c (.bool true)), (some 4), none, []⟩]
theorem v127_16 : wpS P L127_16 T L (rdy h) K = wpS P ([⟨.mov (.c (.bool true)), (some 4), none, []⟩]) T L (rdy h) K := rfl
def C127_0 : ACode := .seq (.reg L127_4) .ret
theorem u127_0 : wpC P C127_0 T L (rdy h) Q = wpC P (.seq (.reg L127_4) .ret) T L (rdy h) Q := rfl
def C127_1 : ACode := .cond (.t 10) C127_0 .skip
theorem u127_1 : wpC P C127_1 T L (rdy h) Q = wpC P (.cond (.t 10) C127_0 .skip) T L (rdy h) Q := rfl
def C127_2 : ACode := .seq (.reg L127_3) C127_1
theorem u127_2 : wpC P C127_2 T L (rdy h) Q = wpC P (.seq (.reg L127_3) C127_1) T L (rdy h) Q := rfl
def C127_3 : ACode := .cond (.t 14) .skip (.exit 0)
theorem u127_3 : wpC P C127_3 T L (rdy h) Q = wpC P (.cond (.t 14) .skip (.exit 0)) T L (rdy h) Q := rfl
def C127_4 : ACode := .seq (.reg L127_7) C127_3
theorem u127_4 : wpC P C127_4 T L (rdy h) Q = wpC P (.seq (.reg L127_7) C127_3) T L (rdy h) Q := rfl
def C127_5 : ACode := .seq (.reg L127_13) .ret
theorem u127_5 : wpC P C127_5 T L (rdy h) Q = wpC P (.seq (.reg L127_13) .ret) T L (rdy h) Q := rfl
def C127_6 : ACode := .cond (.t 26) C127_5 .skip
theorem u127_6 : wpC P C127_6 T L (rdy h) Q = wpC P (.cond (.t 26) C127_5 .skip) T L (rdy h) Q := rfl
def C127_7 : ACode := .seq (.reg L127_12) C127_6
theorem u127_7 : wpC P C127_7 T L (rdy h) Q = wpC P (.seq (.reg L127_12) C127_6) T L (rdy h) Q := rfl
def C127_8 : ACode := .block 1 C127_7
theorem u127_8 : wpC P C127_8 T L (rdy h) Q = wpC P (.block 1 C127_7) T L (rdy h) Q := rfl
def C127_9 : ACode := .seq C127_8 (.reg L127_15)
theorem u127_9 : wpC P C127_9 T L (rdy h) Q = wpC P (.seq C127_8 (.reg L127_15)) T L (rdy h) Q := rfl
def C127_10 : ACode := .seq C127_4 C127_9
theorem u127_10 : wpC P C127_10 T L (rdy h) Q = wpC P (.seq C127_4 C127_9) T L (rdy h) Q := rfl
def C127_11 : ACode := .block 0 (.loop C127_10)
theorem u127_11 : wpC P C127_11 T L (rdy h) Q = wpC P (.block 0 (.loop C127_10)) T L (rdy h) Q := rfl
def C127_12 : ACode := .seq (.reg L127_5) C127_11
theorem u127_12 : wpC P C127_12 T L (rdy h) Q = wpC P (.seq (.reg L127_5) C127_11) T L (rdy h) Q := rfl
def C127_13 : ACode := .seq (.reg L127_16) .ret
theorem u127_13 : wpC P C127_13 T L (rdy h) Q = wpC P (.seq (.reg L127_16) .ret) T L (rdy h) Q := rfl
def C127_14 : ACode := .seq C127_12 C127_13
theorem u127_14 : wpC P C127_14 T L (rdy h) Q = wpC P (.seq C127_12 C127_13) T L (rdy h) Q := rfl
def C127_15 : ACode := .seq C127_2 C127_14
theorem u127_15 : wpC P C127_15 T L (rdy h) Q = wpC P (.seq C127_2 C127_14) T L (rdy h) Q := rfl
def C127_16 : ACode := .seq (.reg L127_0) C127_15
theorem u127_16 : wpC P C127_16 T L (rdy h) Q = wpC P (.seq (.reg L127_0) C127_15) T L (rdy h) Q := rfl
def F127 : AFunc := ⟨27, [.tmp 4], C127_16⟩
theorem cF127 : compB Try.prog 127 = some F127 := by kernel_rfl
end
attribute [local go_sem ↓] u127_0 u127_1 u127_2 u127_3 u127_4 u127_5 u127_6 u127_7 u127_8 u127_9 u127_10 u127_11 u127_12 u127_13 u127_14 u127_15 u127_16 v127_0 v127_1 v127_2 v127_3 v127_4 v127_5 v127_6 v127_7 v127_8 v127_9 v127_10 v127_11 v127_12 v127_13 v127_14 v127_15 v127_16
theorem c_eqParamS (l m : List Param) (v w : AV) (h : H) (hl : SlQ h v l) (hm : SlQ h w m) (hn : l.length ≤ big) : bm Try.prog 127 [v, w] h = some (ib (decide (l = m)), h) := by
  refine bm_eq cF127 ?_
  by_cases hlen : l.length = m.length
  case neg =>
    have e1 : decide ((l.length : Int) = (m.length : Int)) = false := decide_eq_false (by omega)
    simp +contextual (maxSteps := 2000000) only [go_sem, Nat.reduceEqDiff, reduceCtorEq, Nat.reduceAdd, Nat.reduceLeDiff, F127, hl.len, hm.len, e1]
    rw [ne_len e1]
  have e1 : decide ((l.length : Int) = (m.length : Int)) = true := decide_eq_true (by omega)
  simp +contextual (maxSteps := 2000000) only [go_sem, Nat.reduceEqDiff, reduceCtorEq, Nat.reduceAdd, Nat.reduceLeDiff, F127, hl.len, hm.len, e1]
  refine wpC_loop (fun i T L h' => h' = h ∧ T 0 = .v v ∧ T 1 = .v w ∧ T 5 = .v (.one (.int .i64 i)) ∧ Upto (eqAt l m) i) l.length ?_ ?_ (Nat.zero_le _) ?_
  · rintro i T L h' hi ⟨rfl, t0, t1, t5, hu⟩
    have him : i < m.length := by omega
    have e2 := eqAt_eq hi him
    simp +contextual (maxSteps := 2000000) only [go_sem, Nat.reduceEqDiff, reduceCtorEq, Nat.reduceAdd, Nat.reduceLeDiff, t0, t1, t5, hl.len, hm.len, hl.iaddr hi, hm.iaddr him, hl.whole hi, hm.whole him, c_eqParam, lt_true hi]
    (repeat' (first | refine And.intro ?_ ?_ | intro _)) <;> first | rfl | rw [wrap_next hi (big_lt hn)] | (refine hu.next ?_; rw [e2]; (simp_all; done)) | (rw [ne_at (l := l) (m := m) (i := i)]; rw [e2]; (simp_all; done))
  · rintro T L h' ⟨rfl, t0, t1, t5, hu⟩
    simp +contextual (maxSteps := 2000000) only [go_sem, Nat.reduceEqDiff, reduceCtorEq, Nat.reduceAdd, Nat.reduceLeDiff, t0, t1, t5, hl.len, hm.len, lt_false, decide_eq_true (eq_of_upto hlen hu)]
  · simp +contextual (maxSteps := 2000000) only [go_sem, Nat.reduceEqDiff, reduceCtorEq, Nat.reduceAdd, Nat.reduceLeDiff]
    (repeat' (first | refine And.intro ?_ ?_ | intro _)) <;> first | rfl | exact Upto.zero
section
variable {P : Program} {T : Tb} {L : Lb} {h : H} {Q : PostC} {K : Post}
/-! laws.eqPairS -/
def L111_0 : List AStep := [⟨.mov (.c (.bool false)), (some 4), none, []⟩]
theorem v111_0 : wpS P L111_0 T L (rdy h) K = wpS P ([⟨.mov (.c (.bool false)), (some 4), none, []⟩]) T L (rdy h) K := rfl
def L111_1 : List AStep := [⟨.bin .neq (.t 7) (.t 9), (some 10), none, []⟩]
theorem v111_1 : wpS P L111_1 T L (rdy h) K = wpS P ([⟨.bin .neq (.t 7) (.t 9), (some 10), none, []⟩]) T L (rdy h) K := rfl
def L111_2 : List AStep := ⟨.mov (.t 1), (some 8), none, []⟩ :: ⟨.len (.t 8), (some 9), none, []⟩ :: L111_1
theorem v111_2 : wpS P L111_2 T L (rdy h) K = wpS P (⟨.mov (.t 1), (some 8), none, []⟩ :: ⟨.len (.t 8), (some 9), none, []⟩ :: L111_1) T L (rdy h) K := rfl
def L111_3 : List AStep := ⟨.mov (.t 0), (some 6), none, []⟩ :: ⟨.len (.t 6), (some 7), none, []⟩ :: L111_2
theorem v111_3 : wpS P L111_3 T L (rdy h) K = wpS P (⟨.mov (.t 0), (some 6), none, []⟩ :: ⟨.len (.t 6), (some 7), none, []⟩ :: L111_2) T L (rdy h) K := rfl
def L111_4 : List AStep := [⟨.mov (.c (.bool false)), (some 4), none, []⟩]
theorem v111_4 : wpS P L111_4 T L (rdy h) K = wpS P ([⟨.mov (.c (.bool false)), (some 4), none, []⟩]) T L (rdy h) K := rfl
def L111_5 : List AStep := [⟨.mov (.c (.int .i64 0)), (some 5), none, []⟩]
theorem v111_5 : wpS P L111_5 T L (rdy h) K = wpS P ([⟨.mov (.c (.int .i64 0)), (some 5), none, []⟩]) T L (rdy h) K := rfl
def L111_6 : List AStep := [⟨.len (.t 12), (some 13), none, []⟩, ⟨.bin .lss (.t 11) (.t 13), (some 14), none, []⟩]
theorem v111_6 : wpS P L111_6 T L (rdy h) K = wpS P ([⟨.len (.t 12), (some 13), none, []⟩, ⟨.bin .lss (.t 11) (.t 13), (some 14), none, []⟩]) T L (rdy h) K := rfl
def L111_7 : List AStep := ⟨.mov (.t 5), (some 11), none, []⟩ :: ⟨.mov (.t 0), (some 12), none, []⟩ :: L111_6
theorem v111_7 : wpS P L111_7 T L (rdy h) K = wpS P (⟨.mov (.t 5), (some 11), none, []⟩ :: ⟨.mov (.t 0), (some 12), none, []⟩ :: L111_6) T L (rdy h) K := rfl
def L111_8 : List AStep := [⟨.call 186 [(.t 20), (.t 24)], (some 25), none, []⟩, ⟨.not (.t 25), (some 26), none, []⟩]
theorem v111_8 : wpS P L111_8 T L (rdy h) K = wpS P ([⟨.call 186 [(.t 20), (.t 24)], (some 25), none, []⟩, ⟨.not (.t 25), (some 26), none, []⟩]) T L (rdy h) K := rfl
def L111_9 : List AStep := ⟨.iaddr 2 (.t 21) (.t 22), (some 23), none, []⟩ :: ⟨.load 2 true (.t 23), (some 24), none, []⟩ :: L111_8
theorem v111_9 : wpS P L111_9 T L (rdy h) K = wpS P (⟨.iaddr 2 (.t 21) (.t 22), (some 23), none, []⟩ :: ⟨.load 2 true (.t 23), (some 24), none, []⟩ :: L111_8) T L (rdy h) K := rfl
def L111_10 : List AStep := ⟨.mov (.t 1), (some 21), none, []⟩ :: ⟨.mov (.t 5), (some 22), none, []⟩ :: L111_9
theorem v111_10 : wpS P L111_10 T L (rdy h) K = wpS P (⟨.mov (.t 1), (some 21), none, []⟩ :: ⟨.mov (.t 5), (some 22), none, []⟩ :: L111_9) T L (rdy h) K := rfl
def L111_11 : List AStep := ⟨.iaddr 2 (.t 17) (.t 18), (some 19), none, []⟩ :: ⟨.load 2 true (.t 19), (some 20), none, []⟩ :: L111_10
theorem v111_11 : wpS P L111_11 T L (rdy h) K = wpS P (⟨.iaddr 2 (.t 17) (.t 18), (some 19), none, []⟩ :: ⟨.load 2 true (.t 19), (some 20), none, []⟩ :: L111_10) T L (rdy h) K := rfl
def L111_12 : List AStep := ⟨.mov (.t 0), (some 17), none, []⟩ :: ⟨.mov (.t 5), (some 18), none, []⟩ :: L111_11
theorem v111_12 : wpS P L111_12 T L (rdy h) K = wpS P (⟨.mov (.t 0), (some 17), none, []⟩ :: ⟨.mov (.t 5), (some 18), none, []⟩ :: L111_11) T L (rdy h) K := rfl
def L111_13 : List AStep := [⟨.mov (.c (.bool false)), (some 4), none, []⟩]
theorem v111_13 : wpS P L111_13 T L (rdy h) K = wpS P ([⟨.mov (.c (.bool false)), (some 4), none, []⟩]) T L (rdy h) K := rfl
def L111_14 : List AStep := [⟨.mov (.t 16), (some 5), none, []⟩]
theorem v111_14 : wpS P L111_14 T L (rdy h) K = wpS P ([⟨.mov (.t 16), (some 5), none, []⟩]) T L (rdy h) K := rfl
def L111_15 : List AStep := ⟨.mov (.t 5), (some 15), none, []⟩ :: ⟨.bin .add (.t 15) (.c (.int .i64 1)), (some 16), none, []⟩ :: L111_14
theorem v111_15 : wpS P L111_15 T L (rdy h) K = wpS P (⟨.mov (.t 5), (some 15), none, []⟩ :: ⟨.bin .add (.t 15) (.c (.int .i64 1)), (some 16), none, []⟩ :: L111_14) T L (rdy h) K := rfl
def L111_16 : List AStep := [⟨.mov (.c (.bool true)), (some 4), none, []⟩]
theorem v111_16 : wpS P L111_16 T L (rdy h) K = wpS P ([⟨.mov (.c (.bool true)), (some 4), none, []⟩]) T L (rdy h) K := rfl
def C111_0 : ACode := .seq (.reg L111_4) .ret
theorem u111_0 : wpC P C111_0 T L (rdy h) Q = wpC P (.seq (.reg L111_4) .ret) T L (rdy h) Q := rfl
def C111_1 : ACode := .cond (.t 10) C111_0 .skip
theorem u111_1 : wpC P C111_1 T L (rdy h) Q = wpC P (.cond (.t 10) C111_0 .skip) T L (rdy h) Q := rfl
def C111_2 : ACode := .seq (.reg L111_3) C111_1
theorem u111_2 : wpC P C111_2 T L (rdy h) Q = wpC P (.seq (.reg L111_3) C111_1) T L (rdy h) Q := rfl
def C111_3 : ACode := .cond (.t 14) .skip (.exit 0)
theorem u111_3 : wpC P C111_3 T L (rdy h) Q = wpC P (.cond (.t 14) .skip (.exit 0)) T L (rdy h) Q := rfl
def C111_4 : ACode := .seq (.reg L111_7) C111_3
theorem u111_4 : wpC P C111_4 T L (rdy h) Q = wpC P (.seq (.reg L111_7) C111_3) T L (rdy h) Q := rfl
def C111_5 : ACode := .seq (.reg L111_13) .ret
theorem u111_5 : wpC P C111_5 T L (rdy h) Q = wpC P (.seq (.reg L111_13) .ret) T L (rdy h) Q := rfl
def C111_6 : ACode := .cond (.t 26) C111_5 .skip
theorem u111_6 : wpC P C111_6 T L (rdy h) Q = wpC P (.cond (.t 26) C111_5 .skip) T L (rdy h) Q := rfl
def C111_7 : ACode := .seq (.reg L111_12) C111_6
theorem u111_7 : wpC P C111_7 T L (rdy h) Q = wpC P (.seq (.reg L111_12) C111_6) T L (rdy h) Q := rfl
def C111_8 : ACode := .block 1 C111_7
theorem u111_8 : wpC P C111_8 T L (rdy h) Q = wpC P (.block 1 C111_7) T L (rdy h) Q := rfl
def C111_9 : ACode := .seq C111_8 (.reg L111_15)
theorem u111_9 : wpC P C111_9 T L (rdy h) Q = wpC P (.seq C111_8 (.reg L111_15)) T L (rdy h) Q := rfl
def C111_10 : ACode := .seq C111_4 C111_9
theorem u111_10 : wpC P C111_10 T L (rdy h) Q = wpC P (.seq C111_4 C111_9) T L (rdy h) Q := rfl
def C111_11 : ACode := .block 0 (.loop C111_10)
theorem u111_11 : wpC P C111_11 T L (rdy h) Q = wpC P (.block 0 (.loop C111_10)) T L (rdy h) Q := rfl
def C111_12 : ACode := .seq (.reg L111_5) C111_11
theorem u111_12 : wpC P C111_12 T L (rdy h) Q = wpC P (.seq (.reg L111_5) C111_11) T L (rdy h) Q := rfl
def C111_13 : ACode := .seq (.reg L111_16) .ret
theorem u111_13 : wpC P C111_13 T L (rdy h) Q = wpC P (.seq (.reg L111_16) .ret) T L (rdy h) Q := rfl
def C111_14 : ACode := .seq C111_12 C111_13
theorem u111_14 : wpC P C111_14 T L (rdy h) Q = wpC P (.seq C111_12 C111_13) T L (rdy h) Q := rfl
def C111_15 : ACode := .seq C111_2 C111_14
theorem u111_15 : wpC P C111_15 T L (rdy h) Q = wpC P (.seq C111_2 C111_14) T L (rdy h) Q := rfl
def C111_16 : ACode := .seq (.reg L111_0) C111_15
theorem u111_16 : wpC P C111_16 T L (rdy h) Q = wpC P (.seq (.reg L111_0) C111_15) T L (rdy h) Q := rfl
def F111 : AFunc := ⟨27, [.tmp 4], C111_16⟩
theorem cF111 : compB Try.prog 111 = some F111 := by kernel_rfl
end
attribute [local go_sem ↓] u111_0 u111_1 u111_2 u111_3 u111_4 u111_5 u111_6 u111_7 u111_8 u111_9 u111_10 u111_11 u111_12 u111_13 u111_14 u111_15 u111_16 v111_0 v111_1 v111_2 v111_3 v111_4 v111_5 v111_6 v111_7 v111_8 v111_9 v111_10 v111_11 v111_12 v111_13 v111_14 v111_15 v111_16
theorem c_eqPairS (l m : List Pair) (v w : AV) (h : H) (hl : SlP h v l) (hm : SlP h w m) (hn : l.length ≤ big) : bm Try.prog 111 [v, w] h = some (ib (decide (l = m)), h) := by
  refine bm_eq cF111 ?_
  by_cases hlen : l.length = m.length
  case neg =>
    have e1 : decide ((l.length : Int) = (m.length : Int)) = false := decide_eq_false (by omega)
    simp +contextual (maxSteps := 2000000) only [go_sem, Nat.reduceEqDiff, reduceCtorEq, Nat.reduceAdd, Nat.reduceLeDiff, F111, hl.len, hm.len, e1]
    rw [ne_len e1]
  have e1 : decide ((l.length : Int) = (m.length : Int)) = true := decide_eq_true (by omega)
  simp +contextual (maxSteps := 2000000) only [go_sem, Nat.reduceEqDiff, reduceCtorEq, Nat.reduceAdd, Nat.reduceLeDiff, F111, hl.len, hm.len, e1]
  refine wpC_loop (fun i T L h' => h' = h ∧ T 0 = .v v ∧ T 1 = .v w ∧ T 5 = .v (.one (.int .i64 i)) ∧ Upto (eqAt l m) i) l.length ?_ ?_ (Nat.zero_le _) ?_
  · rintro i T L h' hi ⟨rfl, t0, t1, t5, hu⟩
    have him : i < m.length := by omega
    have e2 := eqAt_eq hi him
    simp +contextual (maxSteps := 2000000) only [go_sem, Nat.reduceEqDiff, reduceCtorEq, Nat.reduceAdd, Nat.reduceLeDiff, t0, t1, t5, hl.len, hm.len, hl.iaddr hi, hm.iaddr him, hl.whole hi, hm.whole him, c_eqPair, lt_true hi]
    (repeat' (first | refine And.intro ?_ ?_ | intro _)) <;> first | rfl | rw [wrap_next hi (big_lt hn)] | (refine hu.next ?_; rw [e2]; (simp_all; done)) | (rw [ne_at (l := l) (m := m) (i := i)]; rw [e2]; (simp_all; done))
  · rintro T L h' ⟨rfl, t0, t1, t5, hu⟩
    simp +contextual (maxSteps := 2000000) only [go_sem, Nat.reduceEqDiff, reduceCtorEq, Nat.reduceAdd, Nat.reduceLeDiff, t0, t1, t5, hl.len, hm.len, lt_false, decide_eq_true (eq_of_upto hlen hu)]
  · simp +contextual (maxSteps := 2000000) only [go_sem, Nat.reduceEqDiff, reduceCtorEq, Nat.reduceAdd, Nat.reduceLeDiff]
    (repeat' (first | refine And.intro ?_ ?_ | intro _)) <;> first | rfl | exact Upto.zero
section
variable {P : Program} {T : Tb} {L : Lb} {h : H} {Q : PostC} {K : Post}
/-! laws.eqPlaceS -/
def L132_0 : List AStep := [⟨.mov (.c (.bool false)), (some 4), none, []⟩]
theorem v132_0 : wpS P L132_0 T L (rdy h) K = wpS P ([⟨.mov (.c (.bool false)), (some 4), none, []⟩]) T L (rdy h) K := rfl
def L132_1 : List AStep := [⟨.bin .neq (.t 7) (.t 9), (some 10), none, []⟩]
theorem v132_1 : wpS P L132_1 T L (rdy h) K = wpS P ([⟨.bin .neq (.t 7) (.t 9), (some 10), none, []⟩]) T L (rdy h) K := rfl
def L132_2 : List AStep := ⟨.mov (.t 1), (some 8), none, []⟩ :: ⟨.len (.t 8), (some 9), none, []⟩ :: L132_1
theorem v132_2 : wpS P L132_2 T L (rdy h) K = wpS P (⟨.mov (.t 1), (some 8), none, []⟩ :: ⟨.len (.t 8), (some 9), none, []⟩ :: L132_1) T L (rdy h) K := rfl
def L132_3 : List AStep := ⟨.mov (.t 0), (some 6), none, []⟩ :: ⟨.len (.t 6), (some 7), none, []⟩ :: L132_2
theorem v132_3 : wpS P L132_3 T L (rdy h) K = wpS P (⟨.mov (.t 0), (some 6), none, []⟩ :: ⟨.len (.t 6), (some 7), none, []⟩ :: L132_2) T L (rdy h) K := rfl
def L132_4 : List AStep := [⟨.mov (.c (.bool false)), (some 4), none, []⟩]
theorem v132_4 : wpS P L132_4 T L (rdy h) K = wpS P ([⟨.mov (.c (.bool false)), (some 4), none, []⟩]) T L (rdy h) K := rfl
def L132_5 : List AStep := [⟨.mov (.c (.int .i64 0)), (some 5), none, []⟩]
theorem v132_5 : wpS P L132_5 T L (rdy h) K = wpS P ([⟨.mov (.c (.int .i64 0)), (some 5), none, []⟩]) T L (rdy h) K := rfl
def L132_6 : List AStep := [⟨.len (.t 12), (some 13), none, []⟩, ⟨.bin .lss (.t 11) (.t 13), (some 14), none, []⟩]
theorem v132_6 : wpS P L132_6 T L (rdy h) K = wpS P ([⟨.len (.t 12), (some 13), none, []⟩, ⟨.bin .lss (.t 11) (.t 13), (some 14), none, []⟩]) T L (rdy h) K := rfl
def L132_7 : List AStep := ⟨.mov (.t 5), (some 11), none, []⟩ :: ⟨.mov (.t 0), (some 12), none, []⟩ :: L132_6
theorem v132_7 : wpS P L132_7 T L (rdy h) K = wpS P (⟨.mov (.t 5), (some 11), none, []⟩ :: ⟨.mov (.t 0), (some 12), none, []⟩ :: L132_6) T L (rdy h) K := rfl
def L132_8 : List AStep := [⟨.call 198 [(.t 20), (.t 24)], (some 25), none, []⟩, ⟨.not (.t 25), (some 26), none, []⟩]
theorem v132_8 : wpS P L132_8 T L (rdy h) K = wpS P ([⟨.call 198 [(.t 20), (.t 24)], (some 25), none, []⟩, ⟨.not (.t 25), (some 26), none, []⟩]) T L (rdy h) K := rfl
def L132_9 : List AStep := ⟨.iaddr 2 (.t 21) (.t 22), (some 23), none, []⟩ :: ⟨.load 2 true (.t 23), (some 24), none, []⟩ :: L132_8
theorem v132_9 : wpS P L132_9 T L (rdy h) K = wpS P (⟨.iaddr 2 (.t 21) (.t 22), (some 23), none, []⟩ :: ⟨.load 2 true (.t 23), (some 24), none, []⟩ :: L132_8) T L (rdy h) K := rfl
def L132_10 : List AStep := ⟨.mov (.t 1), (some 21), none, []⟩ :: ⟨.mov (.t 5), (some 22), none, []⟩ :: L132_9
theorem v132_10 : wpS P L132_10 T L (rdy h) K = wpS P (⟨.mov (.t 1), (some 21), none, []⟩ :: ⟨.mov (.t 5), (some 22), none, []⟩ :: L132_9) T L (rdy h) K := rfl
def L132_11 : List AStep := ⟨.iaddr 2 (.t 17) (.t 18), (some 19), none, []⟩ :: ⟨.load 2 true (.t 19), (some 20), none, []⟩ :: L132_10
theorem v132_11 : wpS P L132_11 T L (rdy h) K = wpS P (⟨.iaddr 2 (.t 17) (.t 18), (some 19), none, []⟩ :: ⟨.load 2 true (.t 19), (some 20), none, []⟩ :: L132_10) T L (rdy h) K := rfl
def L132_12 : List AStep := ⟨.mov (.t 0), (some 17), none, []⟩ :: ⟨.mov (.t 5), (some 18), none, []⟩ :: L132_11
theorem v132_12 : wpS P L132_12 T L (rdy h) K = wpS P (⟨.mov (.t 0), (some 17), none, []⟩ :: ⟨.mov (.t 5), (some 18), none, []⟩ :: L132_11) T L (rdy h) K := rfl
def L132_13 : List AStep := [⟨.mov (.c (.bool false)), (some 4), none, []⟩]
theorem v132_13 : wpS P L132_13 T L (rdy h) K = wpS P ([⟨.mov (.c (.bool false)), (some 4), none, []⟩]) T L (rdy h) K := rfl
def L132_14 : List AStep := [⟨.mov (.t 16), (some 5), none, []⟩]
theorem v132_14 : wpS P L132_14 T L (rdy h) K = wpS P ([⟨.mov (.t 16), (some 5), none, []⟩]) T L (rdy h) K := rfl
def L132_15 : List AStep := ⟨.mov (.t 5), (some 15), none, []⟩ :: ⟨.bin .add (.t 15) (.c (.int .i64 1)), (some 16), none, []⟩ :: L132_14
theorem v132_15 : wpS P L132_15 T L (rdy h) K = wpS P (⟨.mov (.t 5), (some 15), none, []⟩ :: ⟨.bin .add (.t 15) (.c (.int .i64 1)), (some 16), none, []⟩ :: L132_14) T L (rdy h) K := rfl
def L132_16 : List AStep := [⟨.mov (.c (.bool true)), (some 4), none, []⟩]
theorem v132_16 : wpS P L132_16 T L (rdy h) K = wpS P ([⟨.mov (.c (.bool true)), (some 4), none, []⟩]) T L (rdy h) K := rfl
def C132_0 : ACode := .seq (.reg L132_4) .ret
theorem u132_0 : wpC P C132_0 T L (rdy h) Q = wpC P (.seq (.reg L132_4) .ret) T L (rdy h) Q := rfl
def C132_1 : ACode := .cond (.t 10) C132_0 .skip
theorem u132_1 : wpC P C132_1 T L (rdy h) Q = wpC P (.cond (.t 10) C132_0 .skip) T L (rdy h) Q := rfl
def C132_2 : ACode := .seq (.reg L132_3) C132_1
theorem u132_2 : wpC P C132_2 T L (rdy h) Q = wpC P (.seq (.reg L132_3) C132_1) T L (rdy h) Q := rfl
def C132_3 : ACode := .cond (.t 14) .skip (.exit 0)
theorem u132_3 : wpC P C132_3 T L (rdy h) Q = wpC P (.cond (.t 14) .skip (.exit 0)) T L (rdy h) Q := rfl
def C132_4 : ACode := .seq (.reg L132_7) C132_3
theorem u132_4 : wpC P C132_4 T L (rdy h) Q = wpC P (.seq (.reg L132_7) C132_3) T L (rdy h) Q := rfl
def C132_5 : ACode := .seq (.reg L132_13) .ret
theorem u132_5 : wpC P C132_5 T L (rdy h) Q = wpC P (.seq (.reg L132_13) .ret) T L (rdy h) Q := rfl
def C132_6 : ACode := .cond (.t 26) C132_5 .skip
theorem u132_6 : wpC P C132_6 T L (rdy h) Q = wpC P (.cond (.t 26) C132_5 .skip) T L (rdy h) Q := rfl
def C132_7 : ACode := .seq (.reg L132_12) C132_6
theorem u132_7 : wpC P C132_7 T L (rdy h) Q = wpC P (.seq (.reg L132_12) C132_6) T L (rdy h) Q := rfl
def C132_8 : ACode := .block 1 C132_7
theorem u132_8 : wpC P C132_8 T L (rdy h) Q = wpC P (.block 1 C132_7) T L (rdy h) Q := rfl
def C132_9 : ACode := .seq C132_8 (.reg L132_15)
theorem u132_9 : wpC P C132_9 T L (rdy h) Q = wpC P (.seq C132_8 (.reg L132_15)) T L (rdy h) Q := rfl
def C132_10 : ACode := .seq C132_4 C132_9
theorem u132_10 : wpC P C132_10 T L (rdy h) Q = wpC P (.seq C132_4 C132_9) T L (rdy h) Q := rfl
def C132_11 : ACode := .block 0 (.loop C132_10)
theorem u132_11 : wpC P C132_11 T L (rdy h) Q = wpC P (.block 0 (.loop C132_10)) T L (rdy h) Q := rfl
def C132_12 : ACode := .seq (.reg L132_5) C132_11
theorem u132_12 : wpC P C132_12 T L (rdy h) Q = wpC P (.seq (.reg L132_5) C132_11) T L (rdy h) Q := rfl
def C132_13 : ACode := .seq (.reg L132_16) .ret
theorem u132_13 : wpC P C132_13 T L (rdy h) Q = wpC P (.seq (.reg L132_16) .ret) T L (rdy h) Q := rfl
def C132_14 : ACode := .seq C132_12 C132_13
theorem u132_14 : wpC P C132_14 T L (rdy h) Q = wpC P (.seq C132_12 C132_13) T L (rdy h) Q := rfl
def C132_15 : ACode := .seq C132_2 C132_14
theorem u132_15 : wpC P C132_15 T L (rdy h) Q = wpC P (.seq C132_2 C132_14) T L (rdy h) Q := rfl
def C132_16 : ACode := .seq (.reg L132_0) C132_15
theorem u132_16 : wpC P C132_16 T L (rdy h) Q = wpC P (.seq (.reg L132_0) C132_15) T L (rdy h) Q := rfl
def F132 : AFunc := ⟨27, [.tmp 4], C132_16⟩
theorem cF132 : compB Try.prog 132 = some F132 := by kernel_rfl
end
attribute [local go_sem ↓] u132_0 u132_1 u132_2 u132_3 u132_4 u132_5 u132_6 u132_7 u132_8 u132_9 u132_10 u132_11 u132_12 u132_13 u132_14 u132_15 u132_16 v132_0 v132_1 v132_2 v132_3 v132_4 v132_5 v132_6 v132_7 v132_8 v132_9 v132_10 v132_11 v132_12 v132_13 v132_14 v132_15 v132_16
theorem c_eqPlaceS (l m : List Place) (v w : AV) (h : H) (hl : SlL h v l) (hm : SlL h w m) (hn : l.length ≤ big) : bm Try.prog 132 [v, w] h = some (ib (decide (l = m)), h) := by
  refine bm_eq cF132 ?_
  by_cases hlen : l.length = m.length
  case neg =>
    have e1 : decide ((l.length : Int) = (m.length : Int)) = false := decide_eq_false (by omega)
    simp +contextual (maxSteps := 2000000) only [go_sem, Nat.reduceEqDiff, reduceCtorEq, Nat.reduceAdd, Nat.reduceLeDiff, F132, hl.len, hm.len, e1]
    rw [ne_len e1]
  have e1 : decide ((l.length : Int) = (m.length : Int)) = true := decide_eq_true (by omega)
  simp +contextual (maxSteps := 2000000) only [go_sem, Nat.reduceEqDiff, reduceCtorEq, Nat.reduceAdd, Nat.reduceLeDiff, F132, hl.len, hm.len, e1]
  refine wpC_loop (fun i T L h' => h' = h ∧ T 0 = .v v ∧ T 1 = .v w ∧ T 5 = .v (.one (.int .i64 i)) ∧ Upto (eqAt l m) i) l.length ?_ ?_ (Nat.zero_le _) ?_
  · rintro i T L h' hi ⟨rfl, t0, t1, t5, hu⟩
    have him : i < m.length := by omega
    have e2 := eqAt_eq hi him
    simp +contextual (maxSteps := 2000000) only [go_sem, Nat.reduceEqDiff, reduceCtorEq, Nat.reduceAdd, Nat.reduceLeDiff, t0, t1, t5, hl.len, hm.len, hl.iaddr hi, hm.iaddr him, hl.whole hi, hm.whole him, c_eqPlace, lt_true hi]
    (repeat' (first | refine And.intro ?_ ?_ | intro _)) <;> first | rfl | rw [wrap_next hi (big_lt hn)] | (refine hu.next ?_; rw [e2]; (simp_all; done)) | (rw [ne_at (l := l) (m := m) (i := i)]; rw [e2]; (simp_all; done))
  · rintro T L h' ⟨rfl, t0, t1, t5, hu⟩
    simp +contextual (maxSteps := 2000000) only [go_sem, Nat.reduceEqDiff, reduceCtorEq, Nat.reduceAdd, Nat.reduceLeDiff, t0, t1, t5, hl.len, hm.len, lt_false, decide_eq_true (eq_of_upto hlen hu)]
  · simp +contextual (maxSteps := 2000000) only [go_sem, Nat.reduceEqDiff, reduceCtorEq, Nat.reduceAdd, Nat.reduceLeDiff]
    (repeat' (first | refine And.intro ?_ ?_ | intro _)) <;> first | rfl | exact Upto.zero
section
variable {P : Program} {T : Tb} {L : Lb} {h : H} {Q : PostC} {K : Post}
/-! laws.eqTurnS -/
def L65_0 : List AStep := [⟨.mov (.c (.bool false)), (some 4), none, []⟩]
theorem v65_0 : wpS P L65_0 T L (rdy h) K = wpS P ([⟨.mov (.c (.bool false)), (some 4), none, []⟩]) T L (rdy h) K := rfl
def L65_1 : List AStep := [⟨.bin .neq (.t 7) (.t 9), (some 10), none, []⟩]
theorem v65_1 : wpS P L65_1 T L (rdy h) K = wpS P ([⟨.bin .neq (.t 7) (.t 9), (some 10), none, []⟩]) T L (rdy h) K := rfl
def L65_2 : List AStep := ⟨.mov (.t 1), (some 8), none, []⟩ :: ⟨.len (.t 8), (some 9), none, []⟩ :: L65_1
theorem v65_2 : wpS P L65_2 T L (rdy h) K = wpS P (⟨.mov (.t 1), (some 8), none, []⟩ :: ⟨.len (.t 8), (some 9), none, []⟩ :: L65_1) T L (rdy h) K := rfl
def L65_3 : List AStep := ⟨.mov (.t 0), (some 6), none, []⟩ :: ⟨.len (.t 6), (some 7), none, []⟩ :: L65_2
theorem v65_3 : wpS P L65_3 T L (rdy h) K = wpS P (⟨.mov (.t 0), (some 6), none, []⟩ :: ⟨.len (.t 6), (some 7), none, []⟩ :: L65_2) T L (rdy h) K := rfl
def L65_4 : List AStep := [⟨.mov (.c (.bool false)), (some 4), none, []⟩]
theorem v65_4 : wpS P L65_4 T L (rdy h) K = wpS P ([⟨.mov (.c (.bool false)), (some 4), none, []⟩]) T L (rdy h) K := rfl
def L65_5 : List AStep := [⟨.mov (.c (.int .i64 0)), (some 5), none, []⟩]
theorem v65_5 : wpS P L65_5 T L (rdy h) K = wpS P ([⟨.mov (.c (.int .i64 0)), (some 5), none, []⟩]) T L (rdy h) K := rfl
def L65_6 : List AStep := [⟨.len (.t 12), (some 13), none, []⟩, ⟨.bin .lss (.t 11) (.t 13), (some 14), none, []⟩]
theorem v65_6 : wpS P L65_6 T L (rdy h) K = wpS P ([⟨.len (.t 12), (some 13), none, []⟩, ⟨.bin .lss (.t 11) (.t 13), (some 14), none, []⟩]) T L (rdy h) K := rfl
def L65_7 : List AStep := ⟨.mov (.t 5), (some 11), none, []⟩ :: ⟨.mov (.t 0), (some 12), none, []⟩ :: L65_6
theorem v65_7 : wpS P L65_7 T L (rdy h) K = wpS P (⟨.mov (.t 5), (some 11), none, []⟩ :: ⟨.mov (.t 0), (some 12), none, []⟩ :: L65_6) T L (rdy h) K := rfl
def L65_8 : List AStep := [⟨.call 142 [(.t 20), (.t 24)], (some 25), none, []⟩, ⟨.not (.t 25), (some 26), none, []⟩]
theorem v65_8 : wpS P L65_8 T L (rdy h) K = wpS P ([⟨.call 142 [(.t 20), (.t 24)], (some 25), none, []⟩, ⟨.not (.t 25), (some 26), none, []⟩]) T L (rdy h) K := rfl
def L65_9 : List AStep := ⟨.iaddr 2 (.t 21) (.t 22), (some 23), none, []⟩ :: ⟨.load 2 true (.t 23), (some 24), none, []⟩ :: L65_8
theorem v65_9 : wpS P L65_9 T L (rdy h) K = wpS P (⟨.iaddr 2 (.t 21) (.t 22), (some 23), none, []⟩ :: ⟨.load 2 true (.t 23), (some 24), none, []⟩ :: L65_8) T L (rdy h) K := rfl
def L65_10 : List AStep := ⟨.mov (.t 1), (some 21), none, []⟩ :: ⟨.mov (.t 5), (some 22), none, []⟩ :: L65_9
theorem v65_10 : wpS P L65_10 T L (rdy h) K = wpS P (⟨.mov (.t 1), (some 21), none, []⟩ :: ⟨.mov (.t 5), (some 22), none, []⟩ :: L65_9) T L (rdy h) K := rfl
def L65_11 : List AStep := ⟨.iaddr 2 (.t 17) (.t 18), (some 19), none, []⟩ :: ⟨.load 2 true (.t 19), (some 20), none, []⟩ :: L65_10
theorem v65_11 : wpS P L65_11 T L (rdy h) K = wpS P (⟨.iaddr 2 (.t 17) (.t 18), (some 19), none, []⟩ :: ⟨.load 2 true (.t 19), (some 20), none, []⟩ :: L65_10) T L (rdy h) K := rfl
def L65_12 : List AStep := ⟨.mov (.t 0), (some 17), none, []⟩ :: ⟨.mov (.t 5), (some 18), none, []⟩ :: L65_11
theorem v65_12 : wpS P L65_12 T L (rdy h) K = wpS P (⟨.mov (.t 0), (some 17), none, []⟩ :: ⟨.mov (.t 5), (some 18), none, []⟩ :: L65_11) T L (rdy h) K := rfl
def L65_13 : List AStep := [⟨.mov (.c (.bool false)), (some 4), none, []⟩]
theorem v65_13 : wpS P L65_13 T L (rdy h) K = wpS P ([⟨.mov (.c (.bool false)), (some 4), none, []⟩]) T L (rdy h) K := rfl
def L65_14 : List AStep := [⟨.mov (.t 16), (some 5), none, []⟩]
theorem v65_14 : wpS P L65_14 T L (rdy h) K = wpS P ([⟨.mov (.t 16), (some 5), none, []⟩]) T L (rdy h) K := rfl
def L65_15 : List AStep := ⟨.mov (.t 5), (some 15), none, []⟩ :: ⟨.bin .add (.t 15) (.c (.int .i64 1)), (some 16), none, []⟩ :: L65_14
theorem v65_15 : wpS P L65_15 T L (rdy h) K = wpS P (⟨.mov (.t 5), (some 15), none, []⟩ :: ⟨.bin .add (.t 15) (.c (.int .i64 1)), (some 16), none, []⟩ :: L65_14) T L (rdy h) K := rfl
def L65_16 : List AStep := [⟨.mov (.c (.bool true)), (some 4), none, []⟩]
theorem v65_16 : wpS P L65_16 T L (rdy h) K = wpS P ([⟨.mov (.c (.bool true)), (some 4), none, []⟩]) T L (rdy h) K := rfl
def C65_0 : ACode := .seq (.reg L65_4) .ret
theorem u65_0 : wpC P C65_0 T L (rdy h) Q = wpC P (.seq (.reg L65_4) .ret) T L (rdy h) Q := rfl
def C65_1 : ACode := .cond (.t 10) C65_0 .skip
theorem u65_1 : wpC P C65_1 T L (rdy h) Q = wpC P (.cond (.t 10) C65_0 .skip) T L (rdy h) Q := rfl
def C65_2 : ACode := .seq (.reg L65_3) C65_1
theorem u65_2 : wpC P C65_2 T L (rdy h) Q = wpC P (.seq (.reg L65_3) C65_1) T L (rdy h) Q := rfl
def C65_3 : ACode := .cond (.t 14) .skip (.exit 0)
theorem u65_3 : wpC P C65_3 T L (rdy h) Q = wpC P (.cond (.t 14) .skip (.exit 0)) T L (rdy h) Q := rfl
def C65_4 : ACode := .seq (.reg L65_7) C65_3
theorem u65_4 : wpC P C65_4 T L (rdy h) Q = wpC P (.seq (.reg L65_7) C65_3) T L (rdy h) Q := rfl
def C65_5 : ACode := .seq (.reg L65_13) .ret
theorem u65_5 : wpC P C65_5 T L (rdy h) Q = wpC P (.seq (.reg L65_13) .ret) T L (rdy h) Q := rfl
def C65_6 : ACode := .cond (.t 26) C65_5 .skip
theorem u65_6 : wpC P C65_6 T L (rdy h) Q = wpC P (.cond (.t 26) C65_5 .skip) T L (rdy h) Q := rfl
def C65_7 : ACode := .seq (.reg L65_12) C65_6
theorem u65_7 : wpC P C65_7 T L (rdy h) Q = wpC P (.seq (.reg L65_12) C65_6) T L (rdy h) Q := rfl
def C65_8 : ACode := .block 1 C65_7
theorem u65_8 : wpC P C65_8 T L (rdy h) Q = wpC P (.block 1 C65_7) T L (rdy h) Q := rfl
def C65_9 : ACode := .seq C65_8 (.reg L65_15)
theorem u65_9 : wpC P C65_9 T L (rdy h) Q = wpC P (.seq C65_8 (.reg L65_15)) T L (rdy h) Q := rfl
def C65_10 : ACode := .seq C65_4 C65_9
theorem u65_10 : wpC P C65_10 T L (rdy h) Q = wpC P (.seq C65_4 C65_9) T L (rdy h) Q := rfl
def C65_11 : ACode := .block 0 (.loop C65_10)
theorem u65_11 : wpC P C65_11 T L (rdy h) Q = wpC P (.block 0 (.loop C65_10)) T L (rdy h) Q := rfl
def C65_12 : ACode := .seq (.reg L65_5) C65_11
theorem u65_12 : wpC P C65_12 T L (rdy h) Q = wpC P (.seq (.reg L65_5) C65_11) T L (rdy h) Q := rfl
def C65_13 : ACode := .seq (.reg L65_16) .ret
theorem u65_13 : wpC P C65_13 T L (rdy h) Q = wpC P (.seq (.reg L65_16) .ret) T L (rdy h) Q := rfl
def C65_14 : ACode := .seq C65_12 C65_13
theorem u65_14 : wpC P C65_14 T L (rdy h) Q = wpC P (.seq C65_12 C65_13) T L (rdy h) Q := rfl
def C65_15 : ACode := .seq C65_2 C65_14
theorem u65_15 : wpC P C65_15 T L (rdy h) Q = wpC P (.seq C65_2 C65_14) T L (rdy h) Q := rfl
def C65_16 : ACode := .seq (.reg L65_0) C65_15
theorem u65_16 : wpC P C65_16 T L (rdy h) Q = wpC P (.seq (.reg L65_0) C65_15) T L (rdy h) Q := rfl
def F65 : AFunc := ⟨27, [.tmp 4], C65_16⟩
theorem cF65 : compB Try.prog 65 = some F65 := by kernel_rfl
end
attribute [local go_sem ↓] u65_0 u65_1 u65_2 u65_3 u65_4 u65_5 u65_6 u65_7 u65_8 u65_9 u65_10 u65_11 u65_12 u65_13 u65_14 u65_15 u65_16 v65_0 v65_1 v65_2 v65_3 v65_4 v65_5 v65_6 v65_7 v65_8 v65_9 v65_10 v65_11 v65_12 v65_13 v65_14 v65_15 v65_16
theorem c_eqTurnS (l m : List Turn) (v w : AV) (h : H) (hl : SlT h v l) (hm : SlT h w m) (hn : l.length ≤ big) : bm Try.prog 65 [v, w] h = some (ib (decide (l = m)), h) := by
  refine bm_eq cF65 ?_
  by_cases hlen : l.length = m.length
  case neg =>
    have e1 : decide ((l.length : Int) = (m.length : Int)) = false := decide_eq_false (by omega)
    simp +contextual (maxSteps := 2000000) only [go_sem, Nat.reduceEqDiff, reduceCtorEq, Nat.reduceAdd, Nat.reduceLeDiff, F65, hl.len, hm.len, e1]
    rw [ne_len e1]
  have e1 : decide ((l.length : Int) = (m.length : Int)) = true := decide_eq_true (by omega)
  simp +contextual (maxSteps := 2000000) only [go_sem, Nat.reduceEqDiff, reduceCtorEq, Nat.reduceAdd, Nat.reduceLeDiff, F65, hl.len, hm.len, e1]
  refine wpC_loop (fun i T L h' => h' = h ∧ T 0 = .v v ∧ T 1 = .v w ∧ T 5 = .v (.one (.int .i64 i)) ∧ Upto (eqAt l m) i) l.length ?_ ?_ (Nat.zero_le _) ?_
  · rintro i T L h' hi ⟨rfl, t0, t1, t5, hu⟩
    have him : i < m.length := by omega
    have e2 := eqAt_eq hi him
    simp +contextual (maxSteps := 2000000) only [go_sem, Nat.reduceEqDiff, reduceCtorEq, Nat.reduceAdd, Nat.reduceLeDiff, t0, t1, t5, hl.len, hm.len, hl.iaddr hi, hm.iaddr him, hl.whole hi, hm.whole him, c_eqTurn, lt_true hi]
    (repeat' (first | refine And.intro ?_ ?_ | intro _)) <;> first | rfl | rw [wrap_next hi (big_lt hn)] | (refine hu.next ?_; rw [e2]; (simp_all; done)) | (rw [ne_at (l := l) (m := m) (i := i)]; rw [e2]; (simp_all; done))
  · rintro T L h' ⟨rfl, t0, t1, t5, hu⟩
    simp +contextual (maxSteps := 2000000) only [go_sem, Nat.reduceEqDiff, reduceCtorEq, Nat.reduceAdd, Nat.reduceLeDiff, t0, t1, t5, hl.len, hm.len, lt_false, decide_eq_true (eq_of_upto hlen hu)]
  · simp +contextual (maxSteps := 2000000) only [go_sem, Nat.reduceEqDiff, reduceCtorEq, Nat.reduceAdd, Nat.reduceLeDiff]
    (repeat' (first | refine And.intro ?_ ?_ | intro _)) <;> first | rfl | exact Upto.zero
section
variable {P : Program} {T : Tb} {L : Lb} {h : H} {Q : PostC} {K : Post}
/-! laws.equalInts -/
def L20_0 : List AStep := [⟨.mov (.c (.bool false)), (some 4), none, []⟩]
theorem v20_0 : wpS P L20_0 T L (rdy h) K = wpS P ([⟨.mov (.c (.bool false)), (some 4), none, []⟩]) T L (rdy h) K := rfl
def L20_1 : List AStep := [⟨.bin .neq (.t 7) (.t 9), (some 10), none, []⟩]
theorem v20_1 : wpS P L20_1 T L (rdy h) K = wpS P ([⟨.bin .neq (.t 7) (.t 9), (some 10), none, []⟩]) T L (rdy h) K := rfl
def L20_2 : List AStep := ⟨.mov (.t 1), (some 8), none, []⟩ :: ⟨.len (.t 8), (some 9), none, []⟩ :: L20_1
theorem v20_2 : wpS P L20_2 T L (rdy h) K = wpS P (⟨.mov (.t 1), (some 8), none, []⟩ :: ⟨.len (.t 8), (some 9), none, []⟩ :: L20_1) T L (rdy h) K := rfl
def L20_3 : List AStep := ⟨.mov (.t 0), (some 6), none, []⟩ :: ⟨.len (.t 6), (some 7), none, []⟩ :: L20_2
theorem v20_3 : wpS P L20_3 T L (rdy h) K = wpS P (⟨.mov (.t 0), (some 6), none, []⟩ :: ⟨.len (.t 6), (some 7), none, []⟩ :: L20_2) T L (rdy h) K := rfl
def L20_4 : List AStep := [⟨.mov (.c (.bool false)), (some 4), none, []⟩]
theorem v20_4 : wpS P L20_4 T L (rdy h) K = wpS P ([⟨.mov (.c (.bool false)), (some 4), none, []⟩]) T L (rdy h) K := rfl
def L20_5 : List AStep := [⟨.mov (.c (.int .i64 0)), (some 5), none, []⟩]
theorem v20_5 : wpS P L20_5 T L (rdy h) K = wpS P ([⟨.mov (.c (.int .i64 0)), (some 5), none, []⟩]) T L (rdy h) K := rfl
def L20_6 : List AStep := [⟨.len (.t 12), (some 13), none, []⟩, ⟨.bin .lss (.t 11) (.t 13), (some 14), none, []⟩]
theorem v20_6 : wpS P L20_6 T L (rdy h) K = wpS P ([⟨.len (.t 12), (some 13), none, []⟩, ⟨.bin .lss (.t 11) (.t 13), (some 14), none, []⟩]) T L (rdy h) K := rfl
def L20_7 : List AStep := ⟨.mov (.t 5), (some 11), none, []⟩ :: ⟨.mov (.t 0), (some 12), none, []⟩ :: L20_6
theorem v20_7 : wpS P L20_7 T L (rdy h) K = wpS P (⟨.mov (.t 5), (some 11), none, []⟩ :: ⟨.mov (.t 0), (some 12), none, []⟩ :: L20_6) T L (rdy h) K := rfl
def L20_8 : List AStep := [⟨.bin .neq (.t 20) (.t 24), (some 25), none, []⟩]
theorem v20_8 : wpS P L20_8 T L (rdy h) K = wpS P ([⟨.bin .neq (.t 20) (.t 24), (some 25), none, []⟩]) T L (rdy h) K := rfl
def L20_9 : List AStep := ⟨.iaddr 1 (.t 21) (.t 22), (some 23), none, []⟩ :: ⟨.load 1 false (.t 23), (some 24), none, []⟩ :: L20_8
theorem v20_9 : wpS P L20_9 T L (rdy h) K = wpS P (⟨.iaddr 1 (.t 21) (.t 22), (some 23), none, []⟩ :: ⟨.load 1 false (.t 23), (some 24), none, []⟩ :: L20_8) T L (rdy h) K := rfl
def L20_10 : List AStep := ⟨.mov (.t 1), (some 21), none, []⟩ :: ⟨.mov (.t 5), (some 22), none, []⟩ :: L20_9
theorem v20_10 : wpS P L20_10 T L (rdy h) K = wpS P (⟨.mov (.t 1), (some 21), none, []⟩ :: ⟨.mov (.t 5), (some 22), none, []⟩ :: L20_9) T L (rdy h) K := rfl
def L20_11 : List AStep := ⟨.iaddr 1 (.t 17) (.t 18), (some 19), none, []⟩ :: ⟨.load 1 false (.t 19), (some 20), none, []⟩ :: L20_10
theorem v20_11 : wpS P L20_11 T L (rdy h) K = wpS P (⟨.iaddr 1 (.t 17) (.t 18), (some 19), none, []⟩ :: ⟨.load 1 false (.t 19), (some 20), none, []⟩ :: L20_10) T L (rdy h) K := rfl
def L20_12 : List AStep := ⟨.mov (.t 0), (some 17), none, []⟩ :: ⟨.mov (.t 5), (some 18), none, []⟩ :: L20_11
theorem v20_12 : wpS P L20_12 T L (rdy h) K = wpS P (⟨.mov (.t 0), (some 17), none, []⟩ :: ⟨.mov (.t 5), (some 18), none, []⟩ :: L20_11) T L (rdy h) K := rfl
def L20_13 : List AStep := [⟨.mov (.c (.bool false)), (some 4), none, []⟩]
theorem v20_13 : wpS P L20_13 T L (rdy h) K = wpS P ([⟨.mov (.c (.bool false)), (some 4), none, []⟩]) T L (rdy h) K := rfl
def L20_14 : List AStep := [⟨.mov (.t 16), (some 5), none, []⟩]
theorem v20_14 : wpS P L20_14 T L (rdy h) K = wpS P ([⟨.mov (.t 16), (some 5), none, []⟩]) T L (rdy h) K := rfl
def L20_15 : List AStep := ⟨.mov (.t 5), (some 15), none, []⟩ :: ⟨.bin .add (.t 15) (.c (.int .i64 1)), (some 16), none, []⟩ :: L20_14
theorem v20_15 : wpS P L20_15 T L (rdy h) K = wpS P (⟨.mov (.t 5), (some 15), none, []⟩ :: ⟨.bin .add (.t 15) (.c (.int .i64 1)), (some 16), none, []⟩ :: L20_14) T L (rdy h) K := rfl
def L20_16 : List AStep := [⟨.mov (.c (.bool true)), (some 4), none, []⟩]
theorem v20_16 : wpS P L20_16 T L (rdy h) K = wpS P ([⟨.mov (.c (.bool true)), (some 4), none, []⟩]) T L (rdy h) K := rfl
def C20_0 : ACode := .seq (.reg L20_4) .ret
theorem u20_0 : wpC P C20_0 T L (rdy h) Q = wpC P (.seq (.reg L20_4) .ret) T L (rdy h) Q := rfl
def C20_1 : ACode := .cond (.t 10) C20_0 .skip
theorem u20_1 : wpC P C20_1 T L (rdy h) Q = wpC P (.cond (.t 10) C20_0 .skip) T L (rdy h) Q := rfl
def C20_2 : ACode := .seq (.reg L20_3) C20_1
theorem u20_2 : wpC P C20_2 T L (rdy h) Q = wpC P (.seq (.reg L20_3) C20_1) T L (rdy h) Q := rfl
def C20_3 : ACode := .cond (.t 14) .skip (.exit 0)
theorem u20_3 : wpC P C20_3 T L (rdy h) Q = wpC P (.cond (.t 14) .skip (.exit 0)) T L (rdy h) Q := rfl
def C20_4 : ACode := .seq (.reg L20_7) C20_3
theorem u20_4 : wpC P C20_4 T L (rdy h) Q = wpC P (.seq (.reg L20_7) C20_3) T L (rdy h) Q := rfl
def C20_5 : ACode := .seq (.reg L20_13) .ret
theorem u20_5 : wpC P C20_5 T L (rdy h) Q = wpC P (.seq (.reg L20_13) .ret) T L (rdy h) Q := rfl
def C20_6 : ACode := .cond (.t 25) C20_5 .skip
theorem u20_6 : wpC P C20_6 T L (rdy h) Q = wpC P (.cond (.t 25) C20_5 .skip) T L (rdy h) Q := rfl
def C20_7 : ACode := .seq (.reg L20_12) C20_6
theorem u20_7 : wpC P C20_7 T L (rdy h) Q = wpC P (.seq (.reg L20_12) C20_6) T L (rdy h) Q := rfl
def C20_8 : ACode := .block 1 C20_7
theorem u20_8 : wpC P C20_8 T L (rdy h) Q = wpC P (.block 1 C20_7) T L (rdy h) Q := rfl
def C20_9 : ACode := .seq C20_8 (.reg L20_15)
theorem u20_9 : wpC P C20_9 T L (rdy h) Q = wpC P (.seq C20_8 (.reg L20_15)) T L (rdy h) Q := rfl
def C20_10 : ACode := .seq C20_4 C20_9
theorem u20_10 : wpC P C20_10 T L (rdy h) Q = wpC P (.seq C20_4 C20_9) T L (rdy h) Q := rfl
def C20_11 : ACode := .block 0 (.loop C20_10)
theorem u20_11 : wpC P C20_11 T L (rdy h) Q = wpC P (.block 0 (.loop C20_10)) T L (rdy h) Q := rfl
def C20_12 : ACode := .seq (.reg L20_5) C20_11
theorem u20_12 : wpC P C20_12 T L (rdy h) Q = wpC P (.seq (.reg L20_5) C20_11) T L (rdy h) Q := rfl
def C20_13 : ACode := .seq (.reg L20_16) .ret
theorem u20_13 : wpC P C20_13 T L (rdy h) Q = wpC P (.seq (.reg L20_16) .ret) T L (rdy h) Q := rfl
def C20_14 : ACode := .seq C20_12 C20_13
theorem u20_14 : wpC P C20_14 T L (rdy h) Q = wpC P (.seq C20_12 C20_13) T L (rdy h) Q := rfl
def C20_15 : ACode := .seq C20_2 C20_14
theorem u20_15 : wpC P C20_15 T L (rdy h) Q = wpC P (.seq C20_2 C20_14) T L (rdy h) Q := rfl
def C20_16 : ACode := .seq (.reg L20_0) C20_15
theorem u20_16 : wpC P C20_16 T L (rdy h) Q = wpC P (.seq (.reg L20_0) C20_15) T L (rdy h) Q := rfl
def F20 : AFunc := ⟨26, [.tmp 4], C20_16⟩
theorem cF20 : compB Try.prog 20 = some F20 := by kernel_rfl
end
attribute [local go_sem ↓] u20_0 u20_1 u20_2 u20_3 u20_4 u20_5 u20_6 u20_7 u20_8 u20_9 u20_10 u20_11 u20_12 u20_13 u20_14 u20_15 u20_16 v20_0 v20_1 v20_2 v20_3 v20_4 v20_5 v20_6 v20_7 v20_8 v20_9 v20_10 v20_11 v20_12 v20_13 v20_14 v20_15 v20_16
theorem c_equalInts (l m : List Int) (v w : AV) (h : H) (hl : SlI h v l) (hm : SlI h w m) (hn : l.length ≤ big) : bm Try.prog 20 [v, w] h = some (ib (decide (l = m)), h) := by
  refine bm_eq cF20 ?_
  by_cases hlen : l.length = m.length
  case neg =>
    have e1 : decide ((l.length : Int) = (m.length : Int)) = false := decide_eq_false (by omega)
    simp +contextual (maxSteps := 2000000) only [go_sem, Nat.reduceEqDiff, reduceCtorEq, Nat.reduceAdd, Nat.reduceLeDiff, F20, hl.len, hm.len, e1]
    rw [ne_len e1]
  have e1 : decide ((l.length : Int) = (m.length : Int)) = true := decide_eq_true (by omega)
  simp +contextual (maxSteps := 2000000) only [go_sem, Nat.reduceEqDiff, reduceCtorEq, Nat.reduceAdd, Nat.reduceLeDiff, F20, hl.len, hm.len, e1]
  refine wpC_loop (fun i T L h' => h' = h ∧ T 0 = .v v ∧ T 1 = .v w ∧ T 5 = .v (.one (.int .i64 i)) ∧ Upto (eqAt l m) i) l.length ?_ ?_ (Nat.zero_le _) ?_
  · rintro i T L h' hi ⟨rfl, t0, t1, t5, hu⟩
    have him : i < m.length := by omega
    have e2 := eqAt_eq hi him
    simp +contextual (maxSteps := 2000000) only [go_sem, Nat.reduceEqDiff, reduceCtorEq, Nat.reduceAdd, Nat.reduceLeDiff, t0, t1, t5, hl.len, hm.len, hl.iaddr hi, hm.iaddr him, hl.oneO hi, hm.oneO him, lt_true hi]
    (repeat' (first | refine And.intro ?_ ?_ | intro _)) <;> first | rfl | rw [wrap_next hi (big_lt hn)] | (refine hu.next ?_; rw [e2]; (simp_all; done)) | (rw [ne_at (l := l) (m := m) (i := i)]; rw [e2]; (simp_all; done))
  · rintro T L h' ⟨rfl, t0, t1, t5, hu⟩
    simp +contextual (maxSteps := 2000000) only [go_sem, Nat.reduceEqDiff, reduceCtorEq, Nat.reduceAdd, Nat.reduceLeDiff, t0, t1, t5, hl.len, hm.len, lt_false, decide_eq_true (eq_of_upto hlen hu)]
  · simp +contextual (maxSteps := 2000000) only [go_sem, Nat.reduceEqDiff, reduceCtorEq, Nat.reduceAdd, Nat.reduceLeDiff]
    (repeat' (first | refine And.intro ?_ ?_ | intro _)) <;> first | rfl | exact Upto.zero
section
variable {P : Program} {T : Tb} {L : Lb} {h : H} {Q : PostC} {K : Post}
/-! laws.equalPairs -/
def L80_0 : List AStep := [⟨.mov (.c (.bool false)), (some 4), none, []⟩]
theorem v80_0 : wpS P L80_0 T L (rdy h) K = wpS P ([⟨.mov (.c (.bool false)), (some 4), none, []⟩]) T L (rdy h) K := rfl
def L80_1 : List AStep := [⟨.bin .neq (.t 7) (.t 9), (some 10), none, []⟩]
theorem v80_1 : wpS P L80_1 T L (rdy h) K = wpS P ([⟨.bin .neq (.t 7) (.t 9), (some 10), none, []⟩]) T L (rdy h) K := rfl
def L80_2 : List AStep := ⟨.mov (.t 1), (some 8), none, []⟩ :: ⟨.len (.t 8), (some 9), none, []⟩ :: L80_1
theorem v80_2 : wpS P L80_2 T L (rdy h) K = wpS P (⟨.mov (.t 1), (some 8), none, []⟩ :: ⟨.len (.t 8), (some 9), none, []⟩ :: L80_1) T L (rdy h) K := rfl
def L80_3 : List AStep := ⟨.mov (.t 0), (some 6), none, []⟩ :: ⟨.len (.t 6), (some 7), none, []⟩ :: L80_2
theorem v80_3 : wpS P L80_3 T L (rdy h) K = wpS P (⟨.mov (.t 0), (some 6), none, []⟩ :: ⟨.len (.t 6), (some 7), none, []⟩ :: L80_2) T L (rdy h) K := rfl
def L80_4 : List AStep := [⟨.mov (.c (.bool false)), (some 4), none, []⟩]
theorem v80_4 : wpS P L80_4 T L (rdy h) K = wpS P ([⟨.mov (.c (.bool false)), (some 4), none, []⟩]) T L (rdy h) K := rfl
def L80_5 : List AStep := [⟨.mov (.c (.int .i64 0)), (some 5), none, []⟩]
theorem v80_5 : wpS P L80_5 T L (rdy h) K = wpS P ([⟨.mov (.c (.int .i64 0)), (some 5), none, []⟩]) T L (rdy h) K := rfl
def L80_6 : List AStep := [⟨.len (.t 12), (some 13), none, []⟩, ⟨.bin .lss (.t 11) (.t 13), (some 14), none, []⟩]
theorem v80_6 : wpS P L80_6 T L (rdy h) K = wpS P ([⟨.len (.t 12), (some 13), none, []⟩, ⟨.bin .lss (.t 11) (.t 13), (some 14), none, []⟩]) T L (rdy h) K := rfl
def L80_7 : List AStep := ⟨.mov (.t 5), (some 11), none, []⟩ :: ⟨.mov (.t 0), (some 12), none, []⟩ :: L80_6
theorem v80_7 : wpS P L80_7 T L (rdy h) K = wpS P (⟨.mov (.t 5), (some 11), none, []⟩ :: ⟨.mov (.t 0), (some 12), none, []⟩ :: L80_6) T L (rdy h) K := rfl
def L80_8 : List AStep := [⟨.eqst true [2, 1] (.t 20) (.t 24), (some 25), none, []⟩]
theorem v80_8 : wpS P L80_8 T L (rdy h) K = wpS P ([⟨.eqst true [2, 1] (.t 20) (.t 24), (some 25), none, []⟩]) T L (rdy h) K := rfl
def L80_9 : List AStep := ⟨.iaddr 2 (.t 21) (.t 22), (some 23), none, []⟩ :: ⟨.load 2 true (.t 23), (some 24), none, []⟩ :: L80_8
theorem v80_9 : wpS P L80_9 T L (rdy h) K = wpS P (⟨.iaddr 2 (.t 21) (.t 22), (some 23), none, []⟩ :: ⟨.load 2 true (.t 23), (some 24), none, []⟩ :: L80_8) T L (rdy h) K := rfl
def L80_10 : List AStep := ⟨.mov (.t 1), (some 21), none, []⟩ :: ⟨.mov (.t 5), (some 22), none, []⟩ :: L80_9
theorem v80_10 : wpS P L80_10 T L (rdy h) K = wpS P (⟨.mov (.t 1), (some 21), none, []⟩ :: ⟨.mov (.t 5), (some 22), none, []⟩ :: L80_9) T L (rdy h) K := rfl
def L80_11 : List AStep := ⟨.iaddr 2 (.t 17) (.t 18), (some 19), none, []⟩ :: ⟨.load 2 true (.t 19), (some 20), none, []⟩ :: L80_10
theorem v80_11 : wpS P L80_11 T L (rdy h) K = wpS P (⟨.iaddr 2 (.t 17) (.t 18), (some 19), none, []⟩ :: ⟨.load 2 true (.t 19), (some 20), none, []⟩ :: L80_10) T L (rdy h) K := rfl
def L80_12 : List AStep := ⟨.mov (.t 0), (some 17), none, []⟩ :: ⟨.mov (.t 5), (some 18), none, []⟩ :: L80_11
theorem v80_12 : wpS P L80_12 T L (rdy h) K = wpS P (⟨.mov (.t 0), (some 17), none, []⟩ :: ⟨.mov (.t 5), (some 18), none, []⟩ :: L80_11) T L (rdy h) K := rfl
def L80_13 : List AStep := [⟨.mov (.c (.bool false)), (some 4), none, []⟩]
theorem v80_13 : wpS P L80_13 T L (rdy h) K = wpS P ([⟨.mov (.c (.bool false)), (some 4), none, []⟩]) T L (rdy h) K := rfl
def L80_14 : List AStep := [⟨.mov (.t 16), (some 5), none, []⟩]
theorem v80_14 : wpS P L80_14 T L (rdy h) K = wpS P ([⟨.mov (.t 16), (some 5), none, []⟩]) T L (rdy h) K := rfl
def L80_15 : List AStep := ⟨.mov (.t 5), (some 15), none, []⟩ :: ⟨.bin .add (.t 15) (.c (.int .i64 1)), (some 16), none, []⟩ :: L80_14
theorem v80_15 : wpS P L80_15 T L (rdy h) K = wpS P (⟨.mov (.t 5), (some 15), none, []⟩ :: ⟨.bin .add (.t 15) (.c (.int .i64 1)), (some 16), none, []⟩ :: L80_14) T L (rdy h) K := rfl
def L80_16 : List AStep := [⟨.mov (.c (.bool true)), (some 4), none, []⟩]
theorem v80_16 : wpS P L80_16 T L (rdy h) K = wpS P ([⟨.mov (.c (.bool true)), (some 4), none, []⟩]) T L (rdy h) K := rfl
def C80_0 : ACode := .seq (.reg L80_4) .ret
theorem u80_0 : wpC P C80_0 T L (rdy h) Q = wpC P (.seq (.reg L80_4) .ret) T L (rdy h) Q := rfl
def C80_1 : ACode := .cond (.t 10) C80_0 .skip
theorem u80_1 : wpC P C80_1 T L (rdy h) Q = wpC P (.cond (.t 10) C80_0 .skip) T L (rdy h) Q := rfl
def C80_2 : ACode := .seq (.reg L80_3) C80_1
theorem u80_2 : wpC P C80_2 T L (rdy h) Q = wpC P (.seq (.reg L80_3) C80_1) T L (rdy h) Q := rfl
def C80_3 : ACode := .cond (.t 14) .skip (.exit 0)
theorem u80_3 : wpC P C80_3 T L (rdy h) Q = wpC P (.cond (.t 14) .skip (.exit 0)) T L (rdy h) Q := rfl
def C80_4 : ACode := .seq (.reg L80_7) C80_3
theorem u80_4 : wpC P C80_4 T L (rdy h) Q = wpC P (.seq (.reg L80_7) C80_3) T L (rdy h) Q := rfl
def C80_5 : ACode := .seq (.reg L80_13) .ret
theorem u80_5 : wpC P C80_5 T L (rdy h) Q = wpC P (.seq (.reg L80_13) .ret) T L (rdy h) Q := rfl
def C80_6 : ACode := .cond (.t 25) C80_5 .skip
theorem u80_6 : wpC P C80_6 T L (rdy h) Q = wpC P (.cond (.t 25) C80_5 .skip) T L (rdy h) Q := rfl
def C80_7 : ACode := .seq (.reg L80_12) C80_6
theorem u80_7 : wpC P C80_7 T L (rdy h) Q = wpC P (.seq (.reg L80_12) C80_6) T L (rdy h) Q := rfl
def C80_8 : ACode := .block 1 C80_7
theorem u80_8 : wpC P C80_8 T L (rdy h) Q = wpC P (.block 1 C80_7) T L (rdy h) Q := rfl
def C80_9 : ACode := .seq C80_8 (.reg L80_15)
theorem u80_9 : wpC P C80_9 T L (rdy h) Q = wpC P (.seq C80_8 (.reg L80_15)) T L (rdy h) Q := rfl
def C80_10 : ACode := .seq C80_4 C80_9
theorem u80_10 : wpC P C80_10 T L (rdy h) Q = wpC P (.seq C80_4 C80_9) T L (rdy h) Q := rfl
def C80_11 : ACode := .block 0 (.loop C80_10)
theorem u80_11 : wpC P C80_11 T L (rdy h) Q = wpC P (.block 0 (.loop C80_10)) T L (rdy h) Q := rfl
def C80_12 : ACode := .seq (.reg L80_5) C80_11
theorem u80_12 : wpC P C80_12 T L (rdy h) Q = wpC P (.seq (.reg L80_5) C80_11) T L (rdy h) Q := rfl
def C80_13 : ACode := .seq (.reg L80_16) .ret
theorem u80_13 : wpC P C80_13 T L (rdy h) Q = wpC P (.seq (.reg L80_16) .ret) T L (rdy h) Q := rfl
def C80_14 : ACode := .seq C80_12 C80_13
theorem u80_14 : wpC P C80_14 T L (rdy h) Q = wpC P (.seq C80_12 C80_13) T L (rdy h) Q := rfl
def C80_15 : ACode := .seq C80_2 C80_14
theorem u80_15 : wpC P C80_15 T L (rdy h) Q = wpC P (.seq C80_2 C80_14) T L (rdy h) Q := rfl
def C80_16 : ACode := .seq (.reg L80_0) C80_15
theorem u80_16 : wpC P C80_16 T L (rdy h) Q = wpC P (.seq (.reg L80_0) C80_15) T L (rdy h) Q := rfl
def F80 : AFunc := ⟨26, [.tmp 4], C80_16⟩
theorem cF80 : compB Try.prog 80 = some F80 := by kernel_rfl
end
attribute [local go_sem ↓] u80_0 u80_1 u80_2 u80_3 u80_4 u80_5 u80_6 u80_7 u80_8 u80_9 u80_10 u80_11 u80_12 u80_13 u80_14 u80_15 u80_16 v80_0 v80_1 v80_2 v80_3 v80_4 v80_5 v80_6 v80_7 v80_8 v80_9 v80_10 v80_11 v80_12 v80_13 v80_14 v80_15 v80_16
theorem c_equalPairs (l m : List Pair) (v w : AV) (h : H) (hl : SlP h v l) (hm : SlP h w m) (hn : l.length ≤ big) : bm Try.prog 80 [v, w] h = some (ib (decide (l = m)), h) := by
  refine bm_eq cF80 ?_
  by_cases hlen : l.length = m.length
  case neg =>
    have e1 : decide ((l.length : Int) = (m.length : Int)) = false := decide_eq_false (by omega)
    simp +contextual (maxSteps := 2000000) only [go_sem, Nat.reduceEqDiff, reduceCtorEq, Nat.reduceAdd, Nat.reduceLeDiff, F80, hl.len, hm.len, e1]
    rw [ne_len e1]
  have e1 : decide ((l.length : Int) = (m.length : Int)) = true := decide_eq_true (by omega)
  simp +contextual (maxSteps := 2000000) only [go_sem, Nat.reduceEqDiff, reduceCtorEq, Nat.reduceAdd, Nat.reduceLeDiff, F80, hl.len, hm.len, e1]
  refine wpC_loop (fun i T L h' => h' = h ∧ T 0 = .v v ∧ T 1 = .v w ∧ T 5 = .v (.one (.int .i64 i)) ∧ Upto (eqAt l m) i) l.length ?_ ?_ (Nat.zero_le _) ?_
  · rintro i T L h' hi ⟨rfl, t0, t1, t5, hu⟩
    have him : i < m.length := by omega
    have e2 := eqAt_eq hi him
    simp +contextual (maxSteps := 2000000) only [go_sem, Nat.reduceEqDiff, reduceCtorEq, Nat.reduceAdd, Nat.reduceLeDiff, t0, t1, t5, hl.len, hm.len, hl.iaddr hi, hm.iaddr him, hl.whole hi, hm.whole him, eqP, lt_true hi]
    (repeat' (first | refine And.intro ?_ ?_ | intro _)) <;> first | rfl | rw [wrap_next hi (big_lt hn)] | (refine hu.next ?_; rw [e2]; (simp_all; done)) | (rw [ne_at (l := l) (m := m) (i := i)]; rw [e2]; (simp_all; done))
  · rintro T L h' ⟨rfl, t0, t1, t5, hu⟩
    simp +contextual (maxSteps := 2000000) only [go_sem, Nat.reduceEqDiff, reduceCtorEq, Nat.reduceAdd, Nat.reduceLeDiff, t0, t1, t5, hl.len, hm.len, lt_false, decide_eq_true (eq_of_upto hlen hu)]
  · simp +contextual (maxSteps := 2000000) only [go_sem, Nat.reduceEqDiff, reduceCtorEq, Nat.reduceAdd, Nat.reduceLeDiff]
    (repeat' (first | refine And.intro ?_ ?_ | intro _)) <;> first | rfl | exact Upto.zero
section
variable {P : Program} {T : Tb} {L : Lb} {h : H} {Q : PostC} {K : Post}
/-! laws.eqSignature -/
def L50_0 : List AStep := [⟨.mov (.c (.bool false)), (some 4), none, []⟩]
theorem v50_0 : wpS P L50_0 T L (rdy h) K = wpS P ([⟨.mov (.c (.bool false)), (some 4), none, []⟩]) T L (rdy h) K := rfl
def L50_1 : List AStep := ⟨.box 51 (.t 0), (some 2), none, []⟩ :: ⟨.box 51 (.t 1), (some 3), none, []⟩ :: L50_0
theorem v50_1 : wpS P L50_1 T L (rdy h) K = wpS P (⟨.box 51 (.t 0), (some 2), none, []⟩ :: ⟨.box 51 (.t 1), (some 3), none, []⟩ :: L50_0) T L (rdy h) K := rfl
def L50_2 : List AStep := [⟨.call 127 [(.t 6), (.t 8)], (some 9), none, []⟩, ⟨.not (.t 9), (some 10), none, []⟩]
theorem v50_2 : wpS P L50_2 T L (rdy h) K = wpS P ([⟨.call 127 [(.t 6), (.t 8)], (some 9), none, []⟩, ⟨.not (.t 9), (some 10), none, []⟩]) T L (rdy h) K := rfl
def L50_3 : List AStep := ⟨.faddr 0 (.t 3), (some 7), none, []⟩ :: ⟨.load 1 false (.t 7), (some 8), none, []⟩ :: L50_2
theorem v50_3 : wpS P L50_3 T L (rdy h) K = wpS P (⟨.faddr 0 (.t 3), (some 7), none, []⟩ :: ⟨.load 1 false (.t 7), (some 8), none, []⟩ :: L50_2) T L (rdy h) K := rfl
def L50_4 : List AStep := ⟨.faddr 0 (.t 2), (some 5), none, []⟩ :: ⟨.load 1 false (.t 5), (some 6), none, []⟩ :: L50_3
theorem v50_4 : wpS P L50_4 T L (rdy h) K = wpS P (⟨.faddr 0 (.t 2), (some 5), none, []⟩ :: ⟨.load 1 false (.t 5), (some 6), none, []⟩ :: L50_3) T L (rdy h) K := rfl
def L50_5 : List AStep := [⟨.mov (.c (.bool false)), (some 4), none, []⟩]
theorem v50_5 : wpS P L50_5 T L (rdy h) K = wpS P ([⟨.mov (.c (.bool false)), (some 4), none, []⟩]) T L (rdy h) K := rfl
def L50_6 : List AStep := [⟨.mov (.c (.bool true)), (some 4), none, []⟩]
theorem v50_6 : wpS P L50_6 T L (rdy h) K = wpS P ([⟨.mov (.c (.bool true)), (some 4), none, []⟩]) T L (rdy h) K := rfl
def C50_0 : ACode := .seq (.reg L50_5) .ret
theorem u50_0 : wpC P C50_0 T L (rdy h) Q = wpC P (.seq (.reg L50_5) .ret) T L (rdy h) Q := rfl
def C50_1 : ACode := .cond (.t 10) C50_0 .skip
theorem u50_1 : wpC P C50_1 T L (rdy h) Q = wpC P (.cond (.t 10) C50_0 .skip) T L (rdy h) Q := rfl
def C50_2 : ACode := .seq (.reg L50_4) C50_1
theorem u50_2 : wpC P C50_2 T L (rdy h) Q = wpC P (.seq (.reg L50_4) C50_1) T L (rdy h) Q := rfl
def C50_3 : ACode := .seq (.reg L50_6) .ret
theorem u50_3 : wpC P C50_3 T L (rdy h) Q = wpC P (.seq (.reg L50_6) .ret) T L (rdy h) Q := rfl
def C50_4 : ACode := .seq C50_2 C50_3
theorem u50_4 : wpC P C50_4 T L (rdy h) Q = wpC P (.seq C50_2 C50_3) T L (rdy h) Q := rfl
def C50_5 : ACode := .seq (.reg L50_1) C50_4
theorem u50_5 : wpC P C50_5 T L (rdy h) Q = wpC P (.seq (.reg L50_1) C50_4) T L (rdy h) Q := rfl
def F50 : AFunc := ⟨11, [.tmp 4], C50_5⟩
theorem cF50 : compB Try.prog 50 = some F50 := by kernel_rfl
end
attribute [local go_sem ↓] u50_0 u50_1 u50_2 u50_3 u50_4 u50_5 v50_0 v50_1 v50_2 v50_3 v50_4 v50_5 v50_6
theorem c_eqSignature (l m : List Param) (v w : CV) (h : H) (hl : SlQ h (.one v) l) (hm : SlQ h (.one w) m) (hn : l.length ≤ big) : bm Try.prog 50 [.agg [v], .agg [w]] h = some (ib (decide (l = m)), h) := by
  refine bm_eq cF50 ?_
  simp +contextual (maxSteps := 2000000) only [go_sem, Nat.reduceEqDiff, reduceCtorEq, Nat.reduceAdd, Nat.reduceLeDiff, F50, c_eqParamS _ _ _ _ _ hl hm hn]
  try ((repeat' (first | refine And.intro ?_ ?_ | intro _)) <;> first | simp_all)
section
variable {P : Program} {T : Tb} {L : Lb} {h : H} {Q : PostC} {K : Post}
/-! laws.eqFlat -/
def L37_0 : List AStep := [⟨.mov (.c (.bool false)), (some 4), none, []⟩]
theorem v37_0 : wpS P L37_0 T L (rdy h) K = wpS P ([⟨.mov (.c (.bool false)), (some 4), none, []⟩]) T L (rdy h) K := rfl
def L37_1 : List AStep := ⟨.box 30 (.t 0), (some 2), none, []⟩ :: ⟨.box 30 (.t 1), (some 3), none, []⟩ :: L37_0
theorem v37_1 : wpS P L37_1 T L (rdy h) K = wpS P (⟨.box 30 (.t 0), (some 2), none, []⟩ :: ⟨.box 30 (.t 1), (some 3), none, []⟩ :: L37_0) T L (rdy h) K := rfl
def L37_2 : List AStep := [⟨.call 110 [(.t 6), (.t 8)], (some 9), none, []⟩, ⟨.not (.t 9), (some 10), none, []⟩]
theorem v37_2 : wpS P L37_2 T L (rdy h) K = wpS P ([⟨.call 110 [(.t 6), (.t 8)], (some 9), none, []⟩, ⟨.not (.t 9), (some 10), none, []⟩]) T L (rdy h) K := rfl
def L37_3 : List AStep := ⟨.faddr 0 (.t 3), (some 7), none, []⟩ :: ⟨.load 1 false (.t 7), (some 8), none, []⟩ :: L37_2
theorem v37_3 : wpS P L37_3 T L (rdy h) K = wpS P (⟨.faddr 0 (.t 3), (some 7), none, []⟩ :: ⟨.load 1 false (.t 7), (some 8), none, []⟩ :: L37_2) T L (rdy h) K := rfl
def L37_4 : List AStep := ⟨.faddr 0 (.t 2), (some 5), none, []⟩ :: ⟨.load 1 false (.t 5), (some 6), none, []⟩ :: L37_3
theorem v37_4 : wpS P L37_4 T L (rdy h) K = wpS P (⟨.faddr 0 (.t 2), (some 5), none, []⟩ :: ⟨.load 1 false (.t 5), (some 6), none, []⟩ :: L37_3) T L (rdy h) K := rfl
def L37_5 : List AStep := [⟨.mov (.c (.bool false)), (some 4), none, []⟩]
theorem v37_5 : wpS P L37_5 T L (rdy h) K = wpS P ([⟨.mov (.c (.bool false)), (some 4), none, []⟩]) T L (rdy h) K := rfl
def L37_6 : List AStep := [⟨.call 111 [(.t 12), (.t 14)], (some 15), none, []⟩, ⟨.not (.t 15), (some 16), none, []⟩]
theorem v37_6 : wpS P L37_6 T L (rdy h) K = wpS P ([⟨.call 111 [(.t 12), (.t 14)], (some 15), none, []⟩, ⟨.not (.t 15), (some 16), none, []⟩]) T L (rdy h) K := rfl
def L37_7 : List AStep := ⟨.faddr 1 (.t 3), (some 13), none, []⟩ :: ⟨.load 1 false (.t 13), (some 14), none, []⟩ :: L37_6
theorem v37_7 : wpS P L37_7 T L (rdy h) K = wpS P (⟨.faddr 1 (.t 3), (some 13), none, []⟩ :: ⟨.load 1 false (.t 13), (some 14), none, []⟩ :: L37_6) T L (rdy h) K := rfl
def L37_8 : List AStep := ⟨.faddr 1 (.t 2), (some 11), none, []⟩ :: ⟨.load 1 false (.t 11), (some 12), none, []⟩ :: L37_7
theorem v37_8 : wpS P L37_8 T L (rdy h) K = wpS P (⟨.faddr 1 (.t 2), (some 11), none, []⟩ :: ⟨.load 1 false (.t 11), (some 12), none, []⟩ :: L37_7) T L (rdy h) K := rfl
def L37_9 : List AStep := [⟨.mov (.c (.bool false)), (some 4), none, []⟩]
theorem v37_9 : wpS P L37_9 T L (rdy h) K = wpS P ([⟨.mov (.c (.bool false)), (some 4), none, []⟩]) T L (rdy h) K := rfl
def L37_10 : List AStep := [⟨.mov (.c (.bool true)), (some 4), none, []⟩]
theorem v37_10 : wpS P L37_10 T L (rdy h) K = wpS P ([⟨.mov (.c (.bool true)), (some 4), none, []⟩]) T L (rdy h) K := rfl
def C37_0 : ACode := .seq (.reg L37_5) .ret
theorem u37_0 : wpC P C37_0 T L (rdy h) Q = wpC P (.seq (.reg L37_5) .ret) T L (rdy h) Q := rfl
def C37_1 : ACode := .cond (.t 10) C37_0 .skip
theorem u37_1 : wpC P C37_1 T L (rdy h) Q = wpC P (.cond (.t 10) C37_0 .skip) T L (rdy h) Q := rfl
def C37_2 : ACode := .seq (.reg L37_4) C37_1
theorem u37_2 : wpC P C37_2 T L (rdy h) Q = wpC P (.seq (.reg L37_4) C37_1) T L (rdy h) Q := rfl
def C37_3 : ACode := .seq (.reg L37_9) .ret
theorem u37_3 : wpC P C37_3 T L (rdy h) Q = wpC P (.seq (.reg L37_9) .ret) T L (rdy h) Q := rfl
def C37_4 : ACode := .cond (.t 16) C37_3 .skip
theorem u37_4 : wpC P C37_4 T L (rdy h) Q = wpC P (.cond (.t 16) C37_3 .skip) T L (rdy h) Q := rfl
def C37_5 : ACode := .seq (.reg L37_8) C37_4
theorem u37_5 : wpC P C37_5 T L (rdy h) Q = wpC P (.seq (.reg L37_8) C37_4) T L (rdy h) Q := rfl
def C37_6 : ACode := .seq (.reg L37_10) .ret
theorem u37_6 : wpC P C37_6 T L (rdy h) Q = wpC P (.seq (.reg L37_10) .ret) T L (rdy h) Q := rfl
def C37_7 : ACode := .seq C37_5 C37_6
theorem u37_7 : wpC P C37_7 T L (rdy h) Q = wpC P (.seq C37_5 C37_6) T L (rdy h) Q := rfl
def C37_8 : ACode := .seq C37_2 C37_7
theorem u37_8 : wpC P C37_8 T L (rdy h) Q = wpC P (.seq C37_2 C37_7) T L (rdy h) Q := rfl
def C37_9 : ACode := .seq (.reg L37_1) C37_8
theorem u37_9 : wpC P C37_9 T L (rdy h) Q = wpC P (.seq (.reg L37_1) C37_8) T L (rdy h) Q := rfl
def F37 : AFunc := ⟨17, [.tmp 4], C37_9⟩
theorem cF37 : compB Try.prog 37 = some F37 := by kernel_rfl
end
attribute [local go_sem ↓] u37_0 u37_1 u37_2 u37_3 u37_4 u37_5 u37_6 u37_7 u37_8 u37_9 v37_0 v37_1 v37_2 v37_3 v37_4 v37_5 v37_6 v37_7 v37_8 v37_9 v37_10
theorem c_eqFlat (f g : Flat) (pv nv pw nw : CV) (h : H) (hp : SlI h (.one pv) f.pl) (hq : SlP h (.one nv) f.nl) (kp : SlI h (.one pw) g.pl) (kq : SlP h (.one nw) g.nl) (h1 : f.pl.length ≤ big) (h2 : f.nl.length ≤ big) :
    bm Try.prog 37 [.agg [pv, nv], .agg [pw, nw]] h = some (ib (decide (f = g)), h) := by
  refine bm_eq cF37 ?_
  obtain ⟨fp, fn⟩ := f
  obtain ⟨gp, gn⟩ := g
  simp +contextual (maxSteps := 2000000) only [go_sem, Nat.reduceEqDiff, reduceCtorEq, Nat.reduceAdd, Nat.reduceLeDiff, F37, c_eqIntS _ _ _ _ _ hp kp h1, c_eqPairS _ _ _ _ _ hq kq h2, Flat.mk.injEq]
  try ((repeat' (first | refine And.intro ?_ ?_ | intro _)) <;> first | simp_all)
section
variable {P : Program} {T : Tb} {L : Lb} {h : H} {Q : PostC} {K : Post}
/-! laws.equalSignature -/
def L30_0 : List AStep := [⟨.mov (.c (.bool false)), (some 4), none, []⟩]
theorem v30_0 : wpS P L30_0 T L (rdy h) K = wpS P ([⟨.mov (.c (.bool false)), (some 4), none, []⟩]) T L (rdy h) K := rfl
def L30_1 : List AStep := ⟨.box 51 (.t 0), (some 2), none, []⟩ :: ⟨.box 51 (.t 1), (some 3), none, []⟩ :: L30_0
theorem v30_1 : wpS P L30_1 T L (rdy h) K = wpS P (⟨.box 51 (.t 0), (some 2), none, []⟩ :: ⟨.box 51 (.t 1), (some 3), none, []⟩ :: L30_0) T L (rdy h) K := rfl
def L30_2 : List AStep := [⟨.bin .neq (.t 8) (.t 11), (some 12), none, []⟩]
theorem v30_2 : wpS P L30_2 T L (rdy h) K = wpS P ([⟨.bin .neq (.t 8) (.t 11), (some 12), none, []⟩]) T L (rdy h) K := rfl
def L30_3 : List AStep := ⟨.load 1 false (.t 9), (some 10), none, []⟩ :: ⟨.len (.t 10), (some 11), none, []⟩ :: L30_2
theorem v30_3 : wpS P L30_3 T L (rdy h) K = wpS P (⟨.load 1 false (.t 9), (some 10), none, []⟩ :: ⟨.len (.t 10), (some 11), none, []⟩ :: L30_2) T L (rdy h) K := rfl
def L30_4 : List AStep := ⟨.len (.t 7), (some 8), none, []⟩ :: ⟨.faddr 0 (.t 3), (some 9), none, []⟩ :: L30_3
theorem v30_4 : wpS P L30_4 T L (rdy h) K = wpS P (⟨.len (.t 7), (some 8), none, []⟩ :: ⟨.faddr 0 (.t 3), (some 9), none, []⟩ :: L30_3) T L (rdy h) K := rfl
def L30_5 : List AStep := ⟨.faddr 0 (.t 2), (some 6), none, []⟩ :: ⟨.load 1 false (.t 6), (some 7), none, []⟩ :: L30_4
theorem v30_5 : wpS P L30_5 T L (rdy h) K = wpS P (⟨.faddr 0 (.t 2), (some 6), none, []⟩ :: ⟨.load 1 false (.t 6), (some 7), none, []⟩ :: L30_4) T L (rdy h) K := rfl
def L30_6 : List AStep := [⟨.mov (.c (.bool false)), (some 4), none, []⟩]
theorem v30_6 : wpS P L30_6 T L (rdy h) K = wpS P ([⟨.mov (.c (.bool false)), (some 4), none, []⟩]) T L (rdy h) K := rfl
def L30_7 : List AStep := [⟨.mov (.c (.int .i64 0)), (some 5), none, []⟩]
theorem v30_7 : wpS P L30_7 T L (rdy h) K = wpS P ([⟨.mov (.c (.int .i64 0)), (some 5), none, []⟩]) T L (rdy h) K := rfl
def L30_8 : List AStep := [⟨.bin .lss (.t 13) (.t 16), (some 17), none, []⟩]
theorem v30_8 : wpS P L30_8 T L (rdy h) K = wpS P ([⟨.bin .lss (.t 13) (.t 16), (some 17), none, []⟩]) T L (rdy h) K := rfl
def L30_9 : List AStep := ⟨.load 1 false (.t 14), (some 15), none, []⟩ :: ⟨.len (.t 15), (some 16), none, []⟩ :: L30_8
theorem v30_9 : wpS P L30_9 T L (rdy h) K = wpS P (⟨.load 1 false (.t 14), (some 15), none, []⟩ :: ⟨.len (.t 15), (some 16), none, []⟩ :: L30_8) T L (rdy h) K := rfl
def L30_10 : List AStep := ⟨.mov (.t 5), (some 13), none, []⟩ :: ⟨.faddr 0 (.t 2), (some 14), none, []⟩ :: L30_9
theorem v30_10 : wpS P L30_10 T L (rdy h) K = wpS P (⟨.mov (.t 5), (some 13), none, []⟩ :: ⟨.faddr 0 (.t 2), (some 14), none, []⟩ :: L30_9) T L (rdy h) K := rfl
def L30_11 : List AStep := [⟨.eqst true [2, 1, 0, 1] (.t 24) (.t 29), (some 30), none, []⟩]
theorem v30_11 : wpS P L30_11 T L (rdy h) K = wpS P ([⟨.eqst true [2, 1, 0, 1] (.t 24) (.t 29), (some 30), none, []⟩]) T L (rdy h) K := rfl
def L30_12 : List AStep := ⟨.iaddr 4 (.t 26) (.t 27), (some 28), none, []⟩ :: ⟨.load 4 true (.t 28), (some 29), none, []⟩ :: L30_11
theorem v30_12 : wpS P L30_12 T L (rdy h) K = wpS P (⟨.iaddr 4 (.t 26) (.t 27), (some 28), none, []⟩ :: ⟨.load 4 true (.t 28), (some 29), none, []⟩ :: L30_11) T L (rdy h) K := rfl
def L30_13 : List AStep := ⟨.load 1 false (.t 25), (some 26), none, []⟩ :: ⟨.mov (.t 5), (some 27), none, []⟩ :: L30_12
theorem v30_13 : wpS P L30_13 T L (rdy h) K = wpS P (⟨.load 1 false (.t 25), (some 26), none, []⟩ :: ⟨.mov (.t 5), (some 27), none, []⟩ :: L30_12) T L (rdy h) K := rfl
def L30_14 : List AStep := ⟨.load 4 true (.t 23), (some 24), none, []⟩ :: ⟨.faddr 0 (.t 3), (some 25), none, []⟩ :: L30_13
theorem v30_14 : wpS P L30_14 T L (rdy h) K = wpS P (⟨.load 4 true (.t 23), (some 24), none, []⟩ :: ⟨.faddr 0 (.t 3), (some 25), none, []⟩ :: L30_13) T L (rdy h) K := rfl
def L30_15 : List AStep := ⟨.mov (.t 5), (some 22), none, []⟩ :: ⟨.iaddr 4 (.t 21) (.t 22), (some 23), none, []⟩ :: L30_14
theorem v30_15 : wpS P L30_15 T L (rdy h) K = wpS P (⟨.mov (.t 5), (some 22), none, []⟩ :: ⟨.iaddr 4 (.t 21) (.t 22), (some 23), none, []⟩ :: L30_14) T L (rdy h) K := rfl
def L30_16 : List AStep := ⟨.faddr 0 (.t 2), (some 20), none, []⟩ :: ⟨.load 1 false (.t 20), (some 21), none, []⟩ :: L30_15
theorem v30_16 : wpS P L30_16 T L (rdy h) K = wpS P (⟨.faddr 0 (.t 2), (some 20), none, []⟩ :: ⟨.load 1 false (.t 20), (some 21), none, []⟩ :: L30_15) T L (rdy h) K := rfl
def L30_17 : List AStep := [⟨.mov (.c (.bool false)), (some 4), none, []⟩]
theorem v30_17 : wpS P L30_17 T L (rdy h) K = wpS P ([⟨.mov (.c (.bool false)), (some 4), none, []⟩]) T L (rdy h) K := rfl
def L30_18 : List AStep := [⟨.mov (.t 19), (some 5), none, []⟩]
theorem v30_18 : wpS P L30_18 T L (rdy h) K = wpS P ([⟨.mov (.t 19), (some 5), none, []⟩]) T L (rdy h) K := rfl
def L30_19 : List AStep := ⟨.mov (.t 5), (some 18), none, []⟩ :: ⟨.bin .add (.t 18) (.c (.int .i64 1)), (some 19), none, []⟩ :: L30_18
theorem v30_19 : wpS P L30_19 T L (rdy h) K = wpS P (⟨.mov (.t 5), (some 18), none, []⟩ :: ⟨.bin .add (.t 18) (.c (.int .i64 1)), (some 19), none, []⟩ :: L30_18) T L (rdy h) K := rfl
def L30_20 : List AStep := [⟨.mov (.c (.bool true)), (some 4), none, []⟩]
theorem v30_20 : wpS P L30_20 T L (rdy h) K = wpS P ([⟨.mov (.c (.bool true)), (some 4), none, []⟩]) T L (rdy h) K := rfl
def C30_0 : ACode := .seq (.reg L30_6) .ret
theorem u30_0 : wpC P C30_0 T L (rdy h) Q = wpC P (.seq (.reg L30_6) .ret) T L (rdy h) Q := rfl
def C30_1 : ACode := .cond (.t 12) C30_0 .skip
theorem u30_1 : wpC P C30_1 T L (rdy h) Q = wpC P (.cond (.t 12) C30_0 .skip) T L (rdy h) Q := rfl
def C30_2 : ACode := .seq (.reg L30_5) C30_1
theorem u30_2 : wpC P C30_2 T L (rdy h) Q = wpC P (.seq (.reg L30_5) C30_1) T L (rdy h) Q := rfl
def C30_3 : ACode := .cond (.t 17) .skip (.exit 0)
theorem u30_3 : wpC P C30_3 T L (rdy h) Q = wpC P (.cond (.t 17) .skip (.exit 0)) T L (rdy h) Q := rfl
def C30_4 : ACode := .seq (.reg L30_10) C30_3
theorem u30_4 : wpC P C30_4 T L (rdy h) Q = wpC P (.seq (.reg L30_10) C30_3) T L (rdy h) Q := rfl
def C30_5 : ACode := .seq (.reg L30_17) .ret
theorem u30_5 : wpC P C30_5 T L (rdy h) Q = wpC P (.seq (.reg L30_17) .ret) T L (rdy h) Q := rfl
def C30_6 : ACode := .cond (.t 30) C30_5 .skip
theorem u30_6 : wpC P C30_6 T L (rdy h) Q = wpC P (.cond (.t 30) C30_5 .skip) T L (rdy h) Q := rfl
def C30_7 : ACode := .seq (.reg L30_16) C30_6
theorem u30_7 : wpC P C30_7 T L (rdy h) Q = wpC P (.seq (.reg L30_16) C30_6) T L (rdy h) Q := rfl
def C30_8 : ACode := .block 1 C30_7
theorem u30_8 : wpC P C30_8 T L (rdy h) Q = wpC P (.block 1 C30_7) T L (rdy h) Q := rfl
def C30_9 : ACode := .seq C30_8 (.reg L30_19)
theorem u30_9 : wpC P C30_9 T L (rdy h) Q = wpC P (.seq C30_8 (.reg L30_19)) T L (rdy h) Q := rfl
def C30_10 : ACode := .seq C30_4 C30_9
theorem u30_10 : wpC P C30_10 T L (rdy h) Q = wpC P (.seq C30_4 C30_9) T L (rdy h) Q := rfl
def C30_11 : ACode := .block 0 (.loop C30_10)
theorem u30_11 : wpC P C30_11 T L (rdy h) Q = wpC P (.block 0 (.loop C30_10)) T L (rdy h) Q := rfl
def C30_12 : ACode := .seq (.reg L30_7) C30_11
theorem u30_12 : wpC P C30_12 T L (rdy h) Q = wpC P (.seq (.reg L30_7) C30_11) T L (rdy h) Q := rfl
def C30_13 : ACode := .seq (.reg L30_20) .ret
theorem u30_13 : wpC P C30_13 T L (rdy h) Q = wpC P (.seq (.reg L30_20) .ret) T L (rdy h) Q := rfl
def C30_14 : ACode := .seq C30_12 C30_13
theorem u30_14 : wpC P C30_14 T L (rdy h) Q = wpC P (.seq C30_12 C30_13) T L (rdy h) Q := rfl
def C30_15 : ACode := .seq C30_2 C30_14
theorem u30_15 : wpC P C30_15 T L (rdy h) Q = wpC P (.seq C30_2 C30_14) T L (rdy h) Q := rfl
def C30_16 : ACode := .seq (.reg L30_1) C30_15
theorem u30_16 : wpC P C30_16 T L (rdy h) Q = wpC P (.seq (.reg L30_1) C30_15) T L (rdy h) Q := rfl
def F30 : AFunc := ⟨31, [.tmp 4], C30_16⟩
theorem cF30 : compB Try.prog 30 = some F30 := by kernel_rfl
end
attribute [local go_sem ↓] u30_0 u30_1 u30_2 u30_3 u30_4 u30_5 u30_6 u30_7 u30_8 u30_9 u30_10 u30_11 u30_12 u30_13 u30_14 u30_15 u30_16 v30_0 v30_1 v30_2 v30_3 v30_4 v30_5 v30_6 v30_7 v30_8 v30_9 v30_10 v30_11 v30_12 v30_13 v30_14 v30_15 v30_16 v30_17 v30_18 v30_19 v30_20
theorem c_equalSignature (l m : List Param) (v w : CV) (h : H) (hl : SlQ h (.one v) l) (hm : SlQ h (.one w) m) (hn : l.length ≤ big) : bm Try.prog 30 [.agg [v], .agg [w]] h = some (ib (decide (l = m)), h) := by
  refine bm_eq cF30 ?_
  by_cases hlen : l.length = m.length
  case neg =>
    have e1 : decide ((l.length : Int) = (m.length : Int)) = false := decide_eq_false (by omega)
    simp +contextual (maxSteps := 2000000) only [go_sem, Nat.reduceEqDiff, reduceCtorEq, Nat.reduceAdd, Nat.reduceLeDiff, F30, hl.len, hm.len, e1]
    rw [ne_len e1]
  have e1 : decide ((l.length : Int) = (m.length : Int)) = true := decide_eq_true (by omega)
  simp +contextual (maxSteps := 2000000) only [go_sem, Nat.reduceEqDiff, reduceCtorEq, Nat.reduceAdd, Nat.reduceLeDiff, F30, hl.len, hm.len, e1]
  refine wpC_loop (fun i T L h' => h' = h ∧ T 2 = .lp 2 0 ∧ T 3 = .lp 3 0 ∧ (L 2).2 = [v] ∧ (L 3).2 = [w] ∧ T 5 = .v (.one (.int .i64 i)) ∧ Upto (eqAt l m) i) l.length ?_ ?_ (Nat.zero_le _) ?_
  · rintro i T L h' hi ⟨rfl, t2, t3, l2, l3, t5, hu⟩
    have him : i < m.length := by omega
    have e2 := eqAt_eq hi him
    simp +contextual (maxSteps := 2000000) only [go_sem, Nat.reduceEqDiff, reduceCtorEq, Nat.reduceAdd, Nat.reduceLeDiff, t2, t3, l2, l3, t5, hl.len, hm.len, hl.iaddr hi, hm.iaddr him, hl.whole hi, hm.whole him, eqQ, lt_true hi]
    (repeat' (first | refine And.intro ?_ ?_ | intro _)) <;> first | rfl | rw [wrap_next hi (big_lt hn)] | (refine hu.next ?_; rw [e2]; (simp_all; done)) | (rw [ne_at (l := l) (m := m) (i := i)]; rw [e2]; (simp_all; done))
  · rintro T L h' ⟨rfl, t2, t3, l2, l3, t5, hu⟩
    simp +contextual (maxSteps := 2000000) only [go_sem, Nat.reduceEqDiff, reduceCtorEq, Nat.reduceAdd, Nat.reduceLeDiff, t2, t3, l2, l3, t5, hl.len, hm.len, lt_false, decide_eq_true (eq_of_upto hlen hu)]
  · simp +contextual (maxSteps := 2000000) only [go_sem, Nat.reduceEqDiff, reduceCtorEq, Nat.reduceAdd, Nat.reduceLeDiff]
    (repeat' (first | refine And.intro ?_ ?_ | intro _)) <;> first | rfl | exact Upto.zero
section
variable {P : Program} {T : Tb} {L : Lb} {h : H} {Q : PostC} {K : Post}
/-! laws.equalFlat -/
def L18_0 : List AStep := [⟨.mov (.c (.bool false)), (some 4), none, []⟩]
theorem v18_0 : wpS P L18_0 T L (rdy h) K = wpS P ([⟨.mov (.c (.bool false)), (some 4), none, []⟩]) T L (rdy h) K := rfl
def L18_1 : List AStep := ⟨.box 30 (.t 0), (some 2), none, []⟩ :: ⟨.box 30 (.t 1), (some 3), none, []⟩ :: L18_0
theorem v18_1 : wpS P L18_1 T L (rdy h) K = wpS P (⟨.box 30 (.t 0), (some 2), none, []⟩ :: ⟨.box 30 (.t 1), (some 3), none, []⟩ :: L18_0) T L (rdy h) K := rfl
def L18_2 : List AStep := [⟨.mov (.t 16), (some 4), none, []⟩]
theorem v18_2 : wpS P L18_2 T L (rdy h) K = wpS P ([⟨.mov (.t 16), (some 4), none, []⟩]) T L (rdy h) K := rfl
def L18_3 : List AStep := ⟨.call 80 [(.t 12), (.t 14)], (some 15), (some (10, true)), []⟩ :: ⟨.pick (.t 10) (.t 15) (.c (.bool false)), (some 16), none, []⟩ :: L18_2
theorem v18_3 : wpS P L18_3 T L (rdy h) K = wpS P (⟨.call 80 [(.t 12), (.t 14)], (some 15), (some (10, true)), []⟩ :: ⟨.pick (.t 10) (.t 15) (.c (.bool false)), (some 16), none, []⟩ :: L18_2) T L (rdy h) K := rfl
def L18_4 : List AStep := ⟨.faddr 1 (.t 3), (some 13), (some (10, true)), []⟩ :: ⟨.load 1 false (.t 13), (some 14), (some (10, true)), []⟩ :: L18_3
theorem v18_4 : wpS P L18_4 T L (rdy h) K = wpS P (⟨.faddr 1 (.t 3), (some 13), (some (10, true)), []⟩ :: ⟨.load 1 false (.t 13), (some 14), (some (10, true)), []⟩ :: L18_3) T L (rdy h) K := rfl
def L18_5 : List AStep := ⟨.faddr 1 (.t 2), (some 11), (some (10, true)), []⟩ :: ⟨.load 1 false (.t 11), (some 12), (some (10, true)), []⟩ :: L18_4
theorem v18_5 : wpS P L18_5 T L (rdy h) K = wpS P (⟨.faddr 1 (.t 2), (some 11), (some (10, true)), []⟩ :: ⟨.load 1 false (.t 11), (some 12), (some (10, true)), []⟩ :: L18_4) T L (rdy h) K := rfl
def L18_6 : List AStep := ⟨.call 20 [(.t 6), (.t 8)], (some 9), none, []⟩ :: ⟨.mov (.t 9), (some 10), none, []⟩ :: L18_5
theorem v18_6 : wpS P L18_6 T L (rdy h) K = wpS P (⟨.call 20 [(.t 6), (.t 8)], (some 9), none, []⟩ :: ⟨.mov (.t 9), (some 10), none, []⟩ :: L18_5) T L (rdy h) K := rfl
def L18_7 : List AStep := ⟨.faddr 0 (.t 3), (some 7), none, []⟩ :: ⟨.load 1 false (.t 7), (some 8), none, []⟩ :: L18_6
theorem v18_7 : wpS P L18_7 T L (rdy h) K = wpS P (⟨.faddr 0 (.t 3), (some 7), none, []⟩ :: ⟨.load 1 false (.t 7), (some 8), none, []⟩ :: L18_6) T L (rdy h) K := rfl
def L18_8 : List AStep := ⟨.faddr 0 (.t 2), (some 5), none, []⟩ :: ⟨.load 1 false (.t 5), (some 6), none, []⟩ :: L18_7
theorem v18_8 : wpS P L18_8 T L (rdy h) K = wpS P (⟨.faddr 0 (.t 2), (some 5), none, []⟩ :: ⟨.load 1 false (.t 5), (some 6), none, []⟩ :: L18_7) T L (rdy h) K := rfl
def C18_0 : ACode := .seq (.reg L18_8) .ret
theorem u18_0 : wpC P C18_0 T L (rdy h) Q = wpC P (.seq (.reg L18_8) .ret) T L (rdy h) Q := rfl
def C18_1 : ACode := .seq (.reg L18_1) C18_0
theorem u18_1 : wpC P C18_1 T L (rdy h) Q = wpC P (.seq (.reg L18_1) C18_0) T L (rdy h) Q := rfl
def F18 : AFunc := ⟨17, [.tmp 4], C18_1⟩
theorem cF18 : compB Try.prog 18 = some F18 := by kernel_rfl
end
attribute [local go_sem ↓] u18_0 u18_1 v18_0 v18_1 v18_2 v18_3 v18_4 v18_5 v18_6 v18_7 v18_8
theorem c_equalFlat (f g : Flat) (pv nv pw nw : CV) (h : H) (hp : SlI h (.one pv) f.pl) (hq : SlP h (.one nv) f.nl) (kp : SlI h (.one pw) g.pl) (kq : SlP h (.one nw) g.nl) (h1 : f.pl.length ≤ big) (h2 : f.nl.length ≤ big) :
    bm Try.prog 18 [.agg [pv, nv], .agg [pw, nw]] h = some (ib (decide (f = g)), h) := by
  refine bm_eq cF18 ?_
  obtain ⟨fp, fn⟩ := f
  obtain ⟨gp, gn⟩ := g
  simp +contextual (maxSteps := 2000000) only [go_sem, Nat.reduceEqDiff, reduceCtorEq, Nat.reduceAdd, Nat.reduceLeDiff, F18, c_equalInts _ _ _ _ _ hp kp h1, c_equalPairs _ _ _ _ _ hq kq h2, Flat.mk.injEq]
  try ((repeat' (first | refine And.intro ?_ ?_ | intro _)) <;> first | simp_all)
section
variable {P : Program} {T : Tb} {L : Lb} {h : H} {Q : PostC} {K : Post}
/-! laws.eqHoles -/
def L57_0 : List AStep := [⟨.mov (.c (.bool false)), (some 4), none, []⟩]
theorem v57_0 : wpS P L57_0 T L (rdy h) K = wpS P ([⟨.mov (.c (.bool false)), (some 4), none, []⟩]) T L (rdy h) K := rfl
def L57_1 : List AStep := ⟨.box 41 (.t 0), (some 2), none, []⟩ :: ⟨.box 41 (.t 1), (some 3), none, []⟩ :: L57_0
theorem v57_1 : wpS P L57_1 T L (rdy h) K = wpS P (⟨.box 41 (.t 0), (some 2), none, []⟩ :: ⟨.box 41 (.t 1), (some 3), none, []⟩ :: L57_0) T L (rdy h) K := rfl
def L57_2 : List AStep := [⟨.call 132 [(.t 6), (.t 8)], (some 9), none, []⟩, ⟨.not (.t 9), (some 10), none, []⟩]
theorem v57_2 : wpS P L57_2 T L (rdy h) K = wpS P ([⟨.call 132 [(.t 6), (.t 8)], (some 9), none, []⟩, ⟨.not (.t 9), (some 10), none, []⟩]) T L (rdy h) K := rfl
def L57_3 : List AStep := ⟨.faddr 0 (.t 3), (some 7), none, []⟩ :: ⟨.load 1 false (.t 7), (some 8), none, []⟩ :: L57_2
theorem v57_3 : wpS P L57_3 T L (rdy h) K = wpS P (⟨.faddr 0 (.t 3), (some 7), none, []⟩ :: ⟨.load 1 false (.t 7), (some 8), none, []⟩ :: L57_2) T L (rdy h) K := rfl
def L57_4 : List AStep := ⟨.faddr 0 (.t 2), (some 5), none, []⟩ :: ⟨.load 1 false (.t 5), (some 6), none, []⟩ :: L57_3
theorem v57_4 : wpS P L57_4 T L (rdy h) K = wpS P (⟨.faddr 0 (.t 2), (some 5), none, []⟩ :: ⟨.load 1 false (.t 5), (some 6), none, []⟩ :: L57_3) T L (rdy h) K := rfl
def L57_5 : List AStep := [⟨.mov (.c (.bool false)), (some 4), none, []⟩]
theorem v57_5 : wpS P L57_5 T L (rdy h) K = wpS P ([⟨.mov (.c (.bool false)), (some 4), none, []⟩]) T L (rdy h) K := rfl
def L57_6 : List AStep := [⟨.call 111 [(.t 12), (.t 14)], (some 15), none, []⟩, ⟨.not (.t 15), (some 16), none, []⟩]
theorem v57_6 : wpS P L57_6 T L (rdy h) K = wpS P ([⟨.call 111 [(.t 12), (.t 14)], (some 15), none, []⟩, ⟨.not (.t 15), (some 16), none, []⟩]) T L (rdy h) K := rfl
def L57_7 : List AStep := ⟨.faddr 1 (.t 3), (some 13), none, []⟩ :: ⟨.load 1 false (.t 13), (some 14), none, []⟩ :: L57_6
theorem v57_7 : wpS P L57_7 T L (rdy h) K = wpS P (⟨.faddr 1 (.t 3), (some 13), none, []⟩ :: ⟨.load 1 false (.t 13), (some 14), none, []⟩ :: L57_6) T L (rdy h) K := rfl
def L57_8 : List AStep := ⟨.faddr 1 (.t 2), (some 11), none, []⟩ :: ⟨.load 1 false (.t 11), (some 12), none, []⟩ :: L57_7
theorem v57_8 : wpS P L57_8 T L (rdy h) K = wpS P (⟨.faddr 1 (.t 2), (some 11), none, []⟩ :: ⟨.load 1 false (.t 11), (some 12), none, []⟩ :: L57_7) T L (rdy h) K := rfl
def L57_9 : List AStep := [⟨.mov (.c (.bool false)), (some 4), none, []⟩]
theorem v57_9 : wpS P L57_9 T L (rdy h) K = wpS P ([⟨.mov (.c (.bool false)), (some 4), none, []⟩]) T L (rdy h) K := rfl
def L57_10 : List AStep := [⟨.mov (.c (.bool true)), (some 4), none, []⟩]
theorem v57_10 : wpS P L57_10 T L (rdy h) K = wpS P ([⟨.mov (.c (.bool true)), (some 4), none, []⟩]) T L (rdy h) K := rfl
def C57_0 : ACode := .seq (.reg L57_5) .ret
theorem u57_0 : wpC P C57_0 T L (rdy h) Q = wpC P (.seq (.reg L57_5) .ret) T L (rdy h) Q := rfl
def C57_1 : ACode := .cond (.t 10) C57_0 .skip
theorem u57_1 : wpC P C57_1 T L (rdy h) Q = wpC P (.cond (.t 10) C57_0 .skip) T L (rdy h) Q := rfl
def C57_2 : ACode := .seq (.reg L57_4) C57_1
theorem u57_2 : wpC P C57_2 T L (rdy h) Q = wpC P (.seq (.reg L57_4) C57_1) T L (rdy h) Q := rfl
def C57_3 : ACode := .seq (.reg L57_9) .ret
theorem u57_3 : wpC P C57_3 T L (rdy h) Q = wpC P (.seq (.reg L57_9) .ret) T L (rdy h) Q := rfl
def C57_4 : ACode := .cond (.t 16) C57_3 .skip
theorem u57_4 : wpC P C57_4 T L (rdy h) Q = wpC P (.cond (.t 16) C57_3 .skip) T L (rdy h) Q := rfl
def C57_5 : ACode := .seq (.reg L57_8) C57_4
theorem u57_5 : wpC P C57_5 T L (rdy h) Q = wpC P (.seq (.reg L57_8) C57_4) T L (rdy h) Q := rfl
def C57_6 : ACode := .seq (.reg L57_10) .ret
theorem u57_6 : wpC P C57_6 T L (rdy h) Q = wpC P (.seq (.reg L57_10) .ret) T L (rdy h) Q := rfl
def C57_7 : ACode := .seq C57_5 C57_6
theorem u57_7 : wpC P C57_7 T L (rdy h) Q = wpC P (.seq C57_5 C57_6) T L (rdy h) Q := rfl
def C57_8 : ACode := .seq C57_2 C57_7
theorem u57_8 : wpC P C57_8 T L (rdy h) Q = wpC P (.seq C57_2 C57_7) T L (rdy h) Q := rfl
def C57_9 : ACode := .seq (.reg L57_1) C57_8
theorem u57_9 : wpC P C57_9 T L (rdy h) Q = wpC P (.seq (.reg L57_1) C57_8) T L (rdy h) Q := rfl
def F57 : AFunc := ⟨17, [.tmp 4], C57_9⟩
theorem cF57 : compB Try.prog 57 = some F57 := by kernel_rfl
end
attribute [local go_sem ↓] u57_0 u57_1 u57_2 u57_3 u57_4 u57_5 u57_6 u57_7 u57_8 u57_9 v57_0 v57_1 v57_2 v57_3 v57_4 v57_5 v57_6 v57_7 v57_8 v57_9 v57_10
theorem c_eqHoles (f g : Holes) (pv nv pw nw : CV) (h : H) (hp : SlL h (.one pv) f.pl) (hq : SlP h (.one nv) f.nl) (kp : SlL h (.one pw) g.pl) (kq : SlP h (.one nw) g.nl) (h1 : f.pl.length ≤ big) (h2 : f.nl.length ≤ big) :
    bm Try.prog 57 [.agg [pv, nv], .agg [pw, nw]] h = some (ib (decide (f = g)), h) := by
  refine bm_eq cF57 ?_
  obtain ⟨fp, fn⟩ := f
  obtain ⟨gp, gn⟩ := g
  simp +contextual (maxSteps := 2000000) only [go_sem, Nat.reduceEqDiff, reduceCtorEq, Nat.reduceAdd, Nat.reduceLeDiff, F57, c_eqPlaceS _ _ _ _ _ hp kp h1, c_eqPairS _ _ _ _ _ hq kq h2, Holes.mk.injEq]
  try ((repeat' (first | refine And.intro ?_ ?_ | intro _)) <;> first | simp_all)
section
variable {P : Program} {T : Tb} {L : Lb} {h : H} {Q : PostC} {K : Post}
/-! laws.equalHoles -/
def L24_0 : List AStep := [⟨.mov (.c (.bool false)), (some 4), none, []⟩]
theorem v24_0 : wpS P L24_0 T L (rdy h) K = wpS P ([⟨.mov (.c (.bool false)), (some 4), none, []⟩]) T L (rdy h) K := rfl
def L24_1 : List AStep := ⟨.box 41 (.t 0), (some 2), none, []⟩ :: ⟨.box 41 (.t 1), (some 3), none, []⟩ :: L24_0
theorem v24_1 : wpS P L24_1 T L (rdy h) K = wpS P (⟨.box 41 (.t 0), (some 2), none, []⟩ :: ⟨.box 41 (.t 1), (some 3), none, []⟩ :: L24_0) T L (rdy h) K := rfl
def L24_2 : List AStep := [⟨.bin .neq (.t 8) (.t 11), (some 12), none, []⟩]
theorem v24_2 : wpS P L24_2 T L (rdy h) K = wpS P ([⟨.bin .neq (.t 8) (.t 11), (some 12), none, []⟩]) T L (rdy h) K := rfl
def L24_3 : List AStep := ⟨.load 1 false (.t 9), (some 10), none, []⟩ :: ⟨.len (.t 10), (some 11), none, []⟩ :: L24_2
theorem v24_3 : wpS P L24_3 T L (rdy h) K = wpS P (⟨.load 1 false (.t 9), (some 10), none, []⟩ :: ⟨.len (.t 10), (some 11), none, []⟩ :: L24_2) T L (rdy h) K := rfl
def L24_4 : List AStep := ⟨.len (.t 7), (some 8), none, []⟩ :: ⟨.faddr 0 (.t 3), (some 9), none, []⟩ :: L24_3
theorem v24_4 : wpS P L24_4 T L (rdy h) K = wpS P (⟨.len (.t 7), (some 8), none, []⟩ :: ⟨.faddr 0 (.t 3), (some 9), none, []⟩ :: L24_3) T L (rdy h) K := rfl
def L24_5 : List AStep := ⟨.faddr 0 (.t 2), (some 6), none, []⟩ :: ⟨.load 1 false (.t 6), (some 7), none, []⟩ :: L24_4
theorem v24_5 : wpS P L24_5 T L (rdy h) K = wpS P (⟨.faddr 0 (.t 2), (some 6), none, []⟩ :: ⟨.load 1 false (.t 6), (some 7), none, []⟩ :: L24_4) T L (rdy h) K := rfl
def L24_6 : List AStep := [⟨.mov (.c (.bool false)), (some 4), none, []⟩]
theorem v24_6 : wpS P L24_6 T L (rdy h) K = wpS P ([⟨.mov (.c (.bool false)), (some 4), none, []⟩]) T L (rdy h) K := rfl
def L24_7 : List AStep := [⟨.mov (.c (.int .i64 0)), (some 5), none, []⟩]
theorem v24_7 : wpS P L24_7 T L (rdy h) K = wpS P ([⟨.mov (.c (.int .i64 0)), (some 5), none, []⟩]) T L (rdy h) K := rfl
def L24_8 : List AStep := [⟨.bin .lss (.t 13) (.t 16), (some 17), none, []⟩]
theorem v24_8 : wpS P L24_8 T L (rdy h) K = wpS P ([⟨.bin .lss (.t 13) (.t 16), (some 17), none, []⟩]) T L (rdy h) K := rfl
def L24_9 : List AStep := ⟨.load 1 false (.t 14), (some 15), none, []⟩ :: ⟨.len (.t 15), (some 16), none, []⟩ :: L24_8
theorem v24_9 : wpS P L24_9 T L (rdy h) K = wpS P (⟨.load 1 false (.t 14), (some 15), none, []⟩ :: ⟨.len (.t 15), (some 16), none, []⟩ :: L24_8) T L (rdy h) K := rfl
def L24_10 : List AStep := ⟨.mov (.t 5), (some 13), none, []⟩ :: ⟨.faddr 0 (.t 2), (some 14), none, []⟩ :: L24_9
theorem v24_10 : wpS P L24_10 T L (rdy h) K = wpS P (⟨.mov (.t 5), (some 13), none, []⟩ :: ⟨.faddr 0 (.t 2), (some 14), none, []⟩ :: L24_9) T L (rdy h) K := rfl
def L24_11 : List AStep := [⟨.eqst true [0, 1] (.t 24) (.t 29), (some 30), none, []⟩]
theorem v24_11 : wpS P L24_11 T L (rdy h) K = wpS P ([⟨.eqst true [0, 1] (.t 24) (.t 29), (some 30), none, []⟩]) T L (rdy h) K := rfl
def L24_12 : List AStep := ⟨.iaddr 2 (.t 26) (.t 27), (some 28), none, []⟩ :: ⟨.load 2 true (.t 28), (some 29), none, []⟩ :: L24_11
theorem v24_12 : wpS P L24_12 T L (rdy h) K = wpS P (⟨.iaddr 2 (.t 26) (.t 27), (some 28), none, []⟩ :: ⟨.load 2 true (.t 28), (some 29), none, []⟩ :: L24_11) T L (rdy h) K := rfl
def L24_13 : List AStep := ⟨.load 1 false (.t 25), (some 26), none, []⟩ :: ⟨.mov (.t 5), (some 27), none, []⟩ :: L24_12
theorem v24_13 : wpS P L24_13 T L (rdy h) K = wpS P (⟨.load 1 false (.t 25), (some 26), none, []⟩ :: ⟨.mov (.t 5), (some 27), none, []⟩ :: L24_12) T L (rdy h) K := rfl
def L24_14 : List AStep := ⟨.load 2 true (.t 23), (some 24), none, []⟩ :: ⟨.faddr 0 (.t 3), (some 25), none, []⟩ :: L24_13
theorem v24_14 : wpS P L24_14 T L (rdy h) K = wpS P (⟨.load 2 true (.t 23), (some 24), none, []⟩ :: ⟨.faddr 0 (.t 3), (some 25), none, []⟩ :: L24_13) T L (rdy h) K := rfl
def L24_15 : List AStep := ⟨.mov (.t 5), (some 22), none, []⟩ :: ⟨.iaddr 2 (.t 21) (.t 22), (some 23), none, []⟩ :: L24_14
theorem v24_15 : wpS P L24_15 T L (rdy h) K = wpS P (⟨.mov (.t 5), (some 22), none, []⟩ :: ⟨.iaddr 2 (.t 21) (.t 22), (some 23), none, []⟩ :: L24_14) T L (rdy h) K := rfl
def L24_16 : List AStep := ⟨.faddr 0 (.t 2), (some 20), none, []⟩ :: ⟨.load 1 false (.t 20), (some 21), none, []⟩ :: L24_15
theorem v24_16 : wpS P L24_16 T L (rdy h) K = wpS P (⟨.faddr 0 (.t 2), (some 20), none, []⟩ :: ⟨.load 1 false (.t 20), (some 21), none, []⟩ :: L24_15) T L (rdy h) K := rfl
def L24_17 : List AStep := [⟨.mov (.c (.bool false)), (some 4), none, []⟩]
theorem v24_17 : wpS P L24_17 T L (rdy h) K = wpS P ([⟨.mov (.c (.bool false)), (some 4), none, []⟩]) T L (rdy h) K := rfl
def L24_18 : List AStep := [⟨.mov (.t 19), (some 5), none, []⟩]
theorem v24_18 : wpS P L24_18 T L (rdy h) K = wpS P ([⟨.mov (.t 19), (some 5), none, []⟩]) T L (rdy h) K := rfl
def L24_19 : List AStep := ⟨.mov (.t 5), (some 18), none, []⟩ :: ⟨.bin .add (.t 18) (.c (.int .i64 1)), (some 19), none, []⟩ :: L24_18
theorem v24_19 : wpS P L24_19 T L (rdy h) K = wpS P (⟨.mov (.t 5), (some 18), none, []⟩ :: ⟨.bin .add (.t 18) (.c (.int .i64 1)), (some 19), none, []⟩ :: L24_18) T L (rdy h) K := rfl
def L24_20 : List AStep := [⟨.call 80 [(.t 32), (.t 34)], (some 35), none, []⟩, ⟨.mov (.t 35), (some 4), none, []⟩]
theorem v24_20 : wpS P L24_20 T L (rdy h) K = wpS P ([⟨.call 80 [(.t 32), (.t 34)], (some 35), none, []⟩, ⟨.mov (.t 35), (some 4), none, []⟩]) T L (rdy h) K := rfl
def L24_21 : List AStep := ⟨.faddr 1 (.t 3), (some 33), none, []⟩ :: ⟨.load 1 false (.t 33), (some 34), none, []⟩ :: L24_20
theorem v24_21 : wpS P L24_21 T L (rdy h) K = wpS P (⟨.faddr 1 (.t 3), (some 33), none, []⟩ :: ⟨.load 1 false (.t 33), (some 34), none, []⟩ :: L24_20) T L (rdy h) K := rfl
def L24_22 : List AStep := ⟨.faddr 1 (.t 2), (some 31), none, []⟩ :: ⟨.load 1 false (.t 31), (some 32), none, []⟩ :: L24_21
theorem v24_22 : wpS P L24_22 T L (rdy h) K = wpS P (⟨.faddr 1 (.t 2), (some 31), none, []⟩ :: ⟨.load 1 false (.t 31), (some 32), none, []⟩ :: L24_21) T L (rdy h) K := rfl
def C24_0 : ACode := .seq (.reg L24_6) .ret
theorem u24_0 : wpC P C24_0 T L (rdy h) Q = wpC P (.seq (.reg L24_6) .ret) T L (rdy h) Q := rfl
def C24_1 : ACode := .cond (.t 12) C24_0 .skip
theorem u24_1 : wpC P C24_1 T L (rdy h) Q = wpC P (.cond (.t 12) C24_0 .skip) T L (rdy h) Q := rfl
def C24_2 : ACode := .seq (.reg L24_5) C24_1
theorem u24_2 : wpC P C24_2 T L (rdy h) Q = wpC P (.seq (.reg L24_5) C24_1) T L (rdy h) Q := rfl
def C24_3 : ACode := .cond (.t 17) .skip (.exit 0)
theorem u24_3 : wpC P C24_3 T L (rdy h) Q = wpC P (.cond (.t 17) .skip (.exit 0)) T L (rdy h) Q := rfl
def C24_4 : ACode := .seq (.reg L24_10) C24_3
theorem u24_4 : wpC P C24_4 T L (rdy h) Q = wpC P (.seq (.reg L24_10) C24_3) T L (rdy h) Q := rfl
def C24_5 : ACode := .seq (.reg L24_17) .ret
theorem u24_5 : wpC P C24_5 T L (rdy h) Q = wpC P (.seq (.reg L24_17) .ret) T L (rdy h) Q := rfl
def C24_6 : ACode := .cond (.t 30) C24_5 .skip
theorem u24_6 : wpC P C24_6 T L (rdy h) Q = wpC P (.cond (.t 30) C24_5 .skip) T L (rdy h) Q := rfl
def C24_7 : ACode := .seq (.reg L24_16) C24_6
theorem u24_7 : wpC P C24_7 T L (rdy h) Q = wpC P (.seq (.reg L24_16) C24_6) T L (rdy h) Q := rfl
def C24_8 : ACode := .block 1 C24_7
theorem u24_8 : wpC P C24_8 T L (rdy h) Q = wpC P (.block 1 C24_7) T L (rdy h) Q := rfl
def C24_9 : ACode := .seq C24_8 (.reg L24_19)
theorem u24_9 : wpC P C24_9 T L (rdy h) Q = wpC P (.seq C24_8 (.reg L24_19)) T L (rdy h) Q := rfl
def C24_10 : ACode := .seq C24_4 C24_9
theorem u24_10 : wpC P C24_10 T L (rdy h) Q = wpC P (.seq C24_4 C24_9) T L (rdy h) Q := rfl
def C24_11 : ACode := .block 0 (.loop C24_10)
theorem u24_11 : wpC P C24_11 T L (rdy h) Q = wpC P (.block 0 (.loop C24_10)) T L (rdy h) Q := rfl
def C24_12 : ACode := .seq (.reg L24_7) C24_11
theorem u24_12 : wpC P C24_12 T L (rdy h) Q = wpC P (.seq (.reg L24_7) C24_11) T L (rdy h) Q := rfl
def C24_13 : ACode := .seq (.reg L24_22) .ret
theorem u24_13 : wpC P C24_13 T L (rdy h) Q = wpC P (.seq (.reg L24_22) .ret) T L (rdy h) Q := rfl
def C24_14 : ACode := .seq C24_12 C24_13
theorem u24_14 : wpC P C24_14 T L (rdy h) Q = wpC P (.seq C24_12 C24_13) T L (rdy h) Q := rfl
def C24_15 : ACode := .seq C24_2 C24_14
theorem u24_15 : wpC P C24_15 T L (rdy h) Q = wpC P (.seq C24_2 C24_14) T L (rdy h) Q := rfl
def C24_16 : ACode := .seq (.reg L24_1) C24_15
theorem u24_16 : wpC P C24_16 T L (rdy h) Q = wpC P (.seq (.reg L24_1) C24_15) T L (rdy h) Q := rfl
def F24 : AFunc := ⟨36, [.tmp 4], C24_16⟩
theorem cF24 : compB Try.prog 24 = some F24 := by kernel_rfl
end
attribute [local go_sem ↓] u24_0 u24_1 u24_2 u24_3 u24_4 u24_5 u24_6 u24_7 u24_8 u24_9 u24_10 u24_11 u24_12 u24_13 u24_14 u24_15 u24_16 v24_0 v24_1 v24_2 v24_3 v24_4 v24_5 v24_6 v24_7 v24_8 v24_9 v24_10 v24_11 v24_12 v24_13 v24_14 v24_15 v24_16 v24_17 v24_18 v24_19 v24_20 v24_21 v24_22
theorem c_equalHoles (f g : Holes) (pv nv pw nw : CV) (h : H) (hp : SlL h (.one pv) f.pl) (hq : SlP h (.one nv) f.nl) (kp : SlL h (.one pw) g.pl) (kq : SlP h (.one nw) g.nl) (h1 : f.pl.length ≤ big) (h2 : f.nl.length ≤ big) :
    bm Try.prog 24 [.agg [pv, nv], .agg [pw, nw]] h = some (ib (decide (f = g)), h) := by
  refine bm_eq cF24 ?_
  obtain ⟨fp, fn⟩ := f
  obtain ⟨gp, gn⟩ := g
  by_cases hlen : fp.length = gp.length
  case neg =>
    have e1 : decide ((fp.length : Int) = (gp.length : Int)) = false := decide_eq_false (by omega)
    have e3 := ne_len e1
    simp +contextual (maxSteps := 2000000) only [go_sem, Nat.reduceEqDiff, reduceCtorEq, Nat.reduceAdd, Nat.reduceLeDiff, F24, hp.len, kp.len, e1, Holes.mk.injEq]
    (simp_all; done)
  have e1 : decide ((fp.length : Int) = (gp.length : Int)) = true := decide_eq_true (by omega)
  simp +contextual (maxSteps := 2000000) only [go_sem, Nat.reduceEqDiff, reduceCtorEq, Nat.reduceAdd, Nat.reduceLeDiff, F24, hp.len, kp.len, e1]
  refine wpC_loop (fun i T L h' => h' = h ∧ T 2 = .lp 2 0 ∧ T 3 = .lp 3 0 ∧ (L 2).2 = [pv, nv] ∧ (L 3).2 = [pw, nw] ∧ T 5 = .v (.one (.int .i64 i)) ∧ Upto (eqAt fp gp) i) fp.length ?_ ?_ (Nat.zero_le _) ?_
  · rintro i T L h' hi ⟨rfl, t2, t3, l2, l3, t5, hu⟩
    have him : i < gp.length := by omega
    have e2 := eqAt_eq hi him
    simp +contextual (maxSteps := 2000000) only [go_sem, Nat.reduceEqDiff, reduceCtorEq, Nat.reduceAdd, Nat.reduceLeDiff, t2, t3, l2, l3, t5, hp.len, kp.len, hp.iaddr hi, kp.iaddr him, hp.whole hi, kp.whole him, eqL, lt_true hi, Holes.mk.injEq]
    (repeat' (first | refine And.intro ?_ ?_ | intro _)) <;> first | rfl | rw [wrap_next hi (big_lt h1)] | (refine hu.next ?_; rw [e2]; (simp_all; done)) | (have e4 := ne_at (l := fp) (m := gp) (i := i) (by rw [e2]; simp_all); simp_all; done)
  · rintro T L h' ⟨rfl, t2, t3, l2, l3, t5, hu⟩
    have e3 := eq_of_upto hlen hu
    simp +contextual (maxSteps := 2000000) only [go_sem, Nat.reduceEqDiff, reduceCtorEq, Nat.reduceAdd, Nat.reduceLeDiff, t2, t3, l2, l3, t5, hp.len, kp.len, lt_false, c_equalPairs _ _ _ _ _ hq kq h2, Holes.mk.injEq, e3]
    try (simp_all; done)
  · simp +contextual (maxSteps := 2000000) only [go_sem, Nat.reduceEqDiff, reduceCtorEq, Nat.reduceAdd, Nat.reduceLeDiff]
    (repeat' (first | refine And.intro ?_ ?_ | intro _)) <;> first | rfl | exact Upto.zero
end Go.Proofs.Ytnphlonhogcedaa.Am
