/- Contracts of the laws: comparisons. -/
import Derived.Test.YtcbnihbilmlokaaDat
namespace Go.Proofs.Ytcbnihbilmlokaa.Am
open Go
set_option maxRecDepth 100000
set_option maxHeartbeats 4000000
set_option linter.unusedSimpArgs false
set_option linter.unusedVariables false
attribute [local go_sem ↓] bv_t bv_c ev_t ev_c put_same put_ne put_none kill_at pro_at lb_same lb_ne start_zero start_succ wpC_seq wpC_reg wpC_cond wpC_block wpC_skip wpC_exit wpC_ret thenQ_normal thenQ_exit thenQ_ret inBlk_normal inBlk_exit inBlk_ret wpS_nil wpS_step wpS_again wpS_guard wpO_mov wpO_load wpO_faddr wpO_nilCheck wpO_pick wpO_build wpO_bin wpO_eqb wpO_eqst wpO_eqnil wpO_not wpO_conv wpO_bytesStr wpO_iaddr wpO_idxStr wpO_field wpO_extract wpO_len wpO_lenStr wpO_cap wpO_min wpO_slice wpO_sliceStr wpO_alloc wpO_box wpO_store wpO_call wpO_callv wpO_mkfn wpO_buildSlice wpO_mkslice wpO_append wpO_appz proA_nil proA_cons tmpX_nil tmpX_tmp tmpX_cell doneB_normal doneB_ret agK_cons agK_nil pureB_load results_one results_two results_nil resBs_cons resBs_nil resB_tmp resB_cell
attribute [local go_sem] kill_v kill_lp_ne kill_lp_same pro_v pro_lp_same pro_lp_ne av_v av_lp optB_some optX_some valX_eq ldX_lp ldX_v faX_lp faX_v ncX_lp ncX_ptr ncX_fn boxK_one boxK_agg stL_some stK_lp_one stK_lp_agg stK_v_one stK_v_agg proM_v proM_lp callG_mk callVG_mk callvK_fn fnG_mk ptrsA_nil ptrsA_cons callH_some whenA_true whenA_false guardH_tt guardH_ff guardH_tf guardH_ft guardH_undef agV_one agV_agg lenO_sl lenStrO_str notO_bool pickO_bool convO_int eqbO_bool eqnilO_sl extractO_tup capO_sl minO_int loadL_one loadL_all storeL_eq fillA_nil fillA_one fillA_agg nat_ge neg_ge nat_lt neg_lt buildO bin_add bin_sub bin_mul bin_eql bin_neq bin_lss bin_leq bin_gtr bin_geq str_eql str_neq str_lss str_leq str_gtr str_geq retK_some endK_mk gcK_same gcK_int gcK_bool tupO_one tupO_agg rdy_self ib ii Option.map_none Option.map_some Option.some.injEq exists_eq_left' exists_eq_left ne_eq not_false_eq_true if_true if_false List.map_cons List.map_nil List.getElem?_cons_zero List.getElem?_cons_succ List.length_cons List.length_nil List.take_succ_cons List.take_zero List.take_nil List.drop_succ_cons List.drop_zero List.drop_nil List.cons_append List.nil_append List.append_nil List.set_cons_zero List.set_cons_succ Nat.zero_add forall_const true_and and_true and_self Bool.false_eq_true false_implies true_implies implies_true Bool.not_true Bool.not_false Bool.not_eq_true' Bool.not_eq_false' beq_self_eq_true Bool.bne_true Bool.bne_false
attribute [local go_sem] lenI lenS lenP lenQ lenB lenL lenT encI_0 encS_0 encP_0 encP_1 encQ_0 encQ_1 encQ_2 encQ_3 encB_0 encB_1 encL_0 encL_1 encT_0 encT_1
attribute [local go_sem low] whenA_bool guardH_bool
section
variable {P : Program} {T : Tb} {L : Lb} {h : H} {Q : PostC} {K : Post}
/-! laws.eqPair -/
def L175_0 : List AStep := [⟨.mov (.c (.bool false)), (some 4), none, []⟩]
theorem v175_0 : wpS P L175_0 T L (rdy h) K = wpS P ([⟨.mov (.c (.bool false)), (some 4), none, []⟩]) T L (rdy h) K := rfl
def L175_1 : List AStep := ⟨.box 133 (.t 0), (some 2), none, []⟩ :: ⟨.box 133 (.t 1), (some 3), none, []⟩ :: L175_0
theorem v175_1 : wpS P L175_1 T L (rdy h) K = wpS P (⟨.box 133 (.t 0), (some 2), none, []⟩ :: ⟨.box 133 (.t 1), (some 3), none, []⟩ :: L175_0) T L (rdy h) K := rfl
def L175_2 : List AStep := [⟨.bin .neq (.t 6) (.t 8), (some 9), none, []⟩]
theorem v175_2 : wpS P L175_2 T L (rdy h) K = wpS P ([⟨.bin .neq (.t 6) (.t 8), (some 9), none, []⟩]) T L (rdy h) K := rfl
def L175_3 : List AStep := ⟨.faddr 0 (.t 3), (some 7), none, []⟩ :: ⟨.load 1 false (.t 7), (some 8), none, []⟩ :: L175_2
theorem v175_3 : wpS P L175_3 T L (rdy h) K = wpS P (⟨.faddr 0 (.t 3), (some 7), none, []⟩ :: ⟨.load 1 false (.t 7), (some 8), none, []⟩ :: L175_2) T L (rdy h) K := rfl
def L175_4 : List AStep := ⟨.faddr 0 (.t 2), (some 5), none, []⟩ :: ⟨.load 1 false (.t 5), (some 6), none, []⟩ :: L175_3
theorem v175_4 : wpS P L175_4 T L (rdy h) K = wpS P (⟨.faddr 0 (.t 2), (some 5), none, []⟩ :: ⟨.load 1 false (.t 5), (some 6), none, []⟩ :: L175_3) T L (rdy h) K := rfl
def L175_5 : List AStep := [⟨.mov (.c (.bool false)), (some 4), none, []⟩]
theorem v175_5 : wpS P L175_5 T L (rdy h) K = wpS P ([⟨.mov (.c (.bool false)), (some 4), none, []⟩]) T L (rdy h) K := rfl
def L175_6 : List AStep := [⟨.bin .neq (.t 11) (.t 13), (some 14), none, []⟩]
theorem v175_6 : wpS P L175_6 T L (rdy h) K = wpS P ([⟨.bin .neq (.t 11) (.t 13), (some 14), none, []⟩]) T L (rdy h) K := rfl
def L175_7 : List AStep := ⟨.faddr 1 (.t 3), (some 12), none, []⟩ :: ⟨.load 1 false (.t 12), (some 13), none, []⟩ :: L175_6
theorem v175_7 : wpS P L175_7 T L (rdy h) K = wpS P (⟨.faddr 1 (.t 3), (some 12), none, []⟩ :: ⟨.load 1 false (.t 12), (some 13), none, []⟩ :: L175_6) T L (rdy h) K := rfl
def L175_8 : List AStep := ⟨.faddr 1 (.t 2), (some 10), none, []⟩ :: ⟨.load 1 false (.t 10), (some 11), none, []⟩ :: L175_7
theorem v175_8 : wpS P L175_8 T L (rdy h) K = wpS P (⟨.faddr 1 (.t 2), (some 10), none, []⟩ :: ⟨.load 1 false (.t 10), (some 11), none, []⟩ :: L175_7) T L (rdy h) K := rfl
def L175_9 : List AStep := [⟨.mov (.c (.bool false)), (some 4), none, []⟩]
theorem v175_9 : wpS P L175_9 T L (rdy h) K = wpS P ([⟨.mov (.c (.bool false)), (some 4), none, []⟩]) T L (rdy h) K := rfl
def L175_10 : List AStep := [⟨.mov (.c (.bool true)), (some 4), none, []⟩]
theorem v175_10 : wpS P L175_10 T L (rdy h) K = wpS P ([⟨.mov (.c (.bool true)), (some 4), none, []⟩]) T L (rdy h) K := rfl
def C175_0 : ACode := .seq (.reg L175_5) .ret
theorem u175_0 : wpC P C175_0 T L (rdy h) Q = wpC P (.seq (.reg L175_5) .ret) T L (rdy h) Q := rfl
def C175_1 : ACode := .cond (.t 9) C175_0 .skip
theorem u175_1 : wpC P C175_1 T L (rdy h) Q = wpC P (.cond (.t 9) C175_0 .skip) T L (rdy h) Q := rfl
def C175_2 : ACode := .seq (.reg L175_4) C175_1
theorem u175_2 : wpC P C175_2 T L (rdy h) Q = wpC P (.seq (.reg L175_4) C175_1) T L (rdy h) Q := rfl
def C175_3 : ACode := .seq (.reg L175_9) .ret
theorem u175_3 : wpC P C175_3 T L (rdy h) Q = wpC P (.seq (.reg L175_9) .ret) T L (rdy h) Q := rfl
def C175_4 : ACode := .cond (.t 14) C175_3 .skip
theorem u175_4 : wpC P C175_4 T L (rdy h) Q = wpC P (.cond (.t 14) C175_3 .skip) T L (rdy h) Q := rfl
def C175_5 : ACode := .seq (.reg L175_8) C175_4
theorem u175_5 : wpC P C175_5 T L (rdy h) Q = wpC P (.seq (.reg L175_8) C175_4) T L (rdy h) Q := rfl
def C175_6 : ACode := .seq (.reg L175_10) .ret
theorem u175_6 : wpC P C175_6 T L (rdy h) Q = wpC P (.seq (.reg L175_10) .ret) T L (rdy h) Q := rfl
def C175_7 : ACode := .seq C175_5 C175_6
theorem u175_7 : wpC P C175_7 T L (rdy h) Q = wpC P (.seq C175_5 C175_6) T L (rdy h) Q := rfl
def C175_8 : ACode := .seq C175_2 C175_7
theorem u175_8 : wpC P C175_8 T L (rdy h) Q = wpC P (.seq C175_2 C175_7) T L (rdy h) Q := rfl
def C175_9 : ACode := .seq (.reg L175_1) C175_8
theorem u175_9 : wpC P C175_9 T L (rdy h) Q = wpC P (.seq (.reg L175_1) C175_8) T L (rdy h) Q := rfl
def F175 : AFunc := ⟨15, [.tmp 4], C175_9⟩
theorem cF175 : compB Try.prog 175 = some F175 := by kernel_rfl
end
attribute [local go_sem ↓] u175_0 u175_1 u175_2 u175_3 u175_4 u175_5 u175_6 u175_7 u175_8 u175_9 v175_0 v175_1 v175_2 v175_3 v175_4 v175_5 v175_6 v175_7 v175_8 v175_9 v175_10
theorem c_eqPair (p q : Pair) (h : H) : bm Try.prog 175 [.agg (encP p), .agg (encP q)] h = some (ib (decide (p = q)), h) := by
  refine bm_eq cF175 ?_
  obtain ⟨n1, k1⟩ := p
  obtain ⟨n2, k2⟩ := q
  simp +contextual (maxSteps := 2000000) only [go_sem, Nat.reduceEqDiff, reduceCtorEq, Nat.reduceAdd, Nat.reduceLeDiff, F175, Pair.mk.injEq]
  try ((repeat' (first | refine And.intro ?_ ?_ | intro _)) <;> first | simp_all)
section
variable {P : Program} {T : Tb} {L : Lb} {h : H} {Q : PostC} {K : Post}
/-! laws.eqTurn -/
def L88_0 : List AStep := [⟨.mov (.c (.bool false)), (some 4), none, []⟩]
theorem v88_0 : wpS P L88_0 T L (rdy h) K = wpS P ([⟨.mov (.c (.bool false)), (some 4), none, []⟩]) T L (rdy h) K := rfl
def L88_1 : List AStep := ⟨.box 134 (.t 0), (some 2), none, []⟩ :: ⟨.box 134 (.t 1), (some 3), none, []⟩ :: L88_0
theorem v88_1 : wpS P L88_1 T L (rdy h) K = wpS P (⟨.box 134 (.t 0), (some 2), none, []⟩ :: ⟨.box 134 (.t 1), (some 3), none, []⟩ :: L88_0) T L (rdy h) K := rfl
def L88_2 : List AStep := [⟨.bin .neq (.t 6) (.t 8), (some 9), none, []⟩]
theorem v88_2 : wpS P L88_2 T L (rdy h) K = wpS P ([⟨.bin .neq (.t 6) (.t 8), (some 9), none, []⟩]) T L (rdy h) K := rfl
def L88_3 : List AStep := ⟨.faddr 0 (.t 3), (some 7), none, []⟩ :: ⟨.load 1 false (.t 7), (some 8), none, []⟩ :: L88_2
theorem v88_3 : wpS P L88_3 T L (rdy h) K = wpS P (⟨.faddr 0 (.t 3), (some 7), none, []⟩ :: ⟨.load 1 false (.t 7), (some 8), none, []⟩ :: L88_2) T L (rdy h) K := rfl
def L88_4 : List AStep := ⟨.faddr 0 (.t 2), (some 5), none, []⟩ :: ⟨.load 1 false (.t 5), (some 6), none, []⟩ :: L88_3
theorem v88_4 : wpS P L88_4 T L (rdy h) K = wpS P (⟨.faddr 0 (.t 2), (some 5), none, []⟩ :: ⟨.load 1 false (.t 5), (some 6), none, []⟩ :: L88_3) T L (rdy h) K := rfl
def L88_5 : List AStep := [⟨.mov (.c (.bool false)), (some 4), none, []⟩]
theorem v88_5 : wpS P L88_5 T L (rdy h) K = wpS P ([⟨.mov (.c (.bool false)), (some 4), none, []⟩]) T L (rdy h) K := rfl
def L88_6 : List AStep := [⟨.bin .neq (.t 11) (.t 13), (some 14), none, []⟩]
theorem v88_6 : wpS P L88_6 T L (rdy h) K = wpS P ([⟨.bin .neq (.t 11) (.t 13), (some 14), none, []⟩]) T L (rdy h) K := rfl
def L88_7 : List AStep := ⟨.faddr 1 (.t 3), (some 12), none, []⟩ :: ⟨.load 1 false (.t 12), (some 13), none, []⟩ :: L88_6
theorem v88_7 : wpS P L88_7 T L (rdy h) K = wpS P (⟨.faddr 1 (.t 3), (some 12), none, []⟩ :: ⟨.load 1 false (.t 12), (some 13), none, []⟩ :: L88_6) T L (rdy h) K := rfl
def L88_8 : List AStep := ⟨.faddr 1 (.t 2), (some 10), none, []⟩ :: ⟨.load 1 false (.t 10), (some 11), none, []⟩ :: L88_7
theorem v88_8 : wpS P L88_8 T L (rdy h) K = wpS P (⟨.faddr 1 (.t 2), (some 10), none, []⟩ :: ⟨.load 1 false (.t 10), (some 11), none, []⟩ :: L88_7) T L (rdy h) K := rfl
def L88_9 : List AStep := [⟨.mov (.c (.bool false)), (some 4), none, []⟩]
theorem v88_9 : wpS P L88_9 T L (rdy h) K = wpS P ([⟨.mov (.c (.bool false)), (some 4), none, []⟩]) T L (rdy h) K := rfl
def L88_10 : List AStep := [⟨.mov (.c (.bool true)), (some 4), none, []⟩]
theorem v88_10 : wpS P L88_10 T L (rdy h) K = wpS P ([⟨.mov (.c (.bool true)), (some 4), none, []⟩]) T L (rdy h) K := rfl
def C88_0 : ACode := .seq (.reg L88_5) .ret
theorem u88_0 : wpC P C88_0 T L (rdy h) Q = wpC P (.seq (.reg L88_5) .ret) T L (rdy h) Q := rfl
def C88_1 : ACode := .cond (.t 9) C88_0 .skip
theorem u88_1 : wpC P C88_1 T L (rdy h) Q = wpC P (.cond (.t 9) C88_0 .skip) T L (rdy h) Q := rfl
def C88_2 : ACode := .seq (.reg L88_4) C88_1
theorem u88_2 : wpC P C88_2 T L (rdy h) Q = wpC P (.seq (.reg L88_4) C88_1) T L (rdy h) Q := rfl
def C88_3 : ACode := .seq (.reg L88_9) .ret
theorem u88_3 : wpC P C88_3 T L (rdy h) Q = wpC P (.seq (.reg L88_9) .ret) T L (rdy h) Q := rfl
def C88_4 : ACode := .cond (.t 14) C88_3 .skip
theorem u88_4 : wpC P C88_4 T L (rdy h) Q = wpC P (.cond (.t 14) C88_3 .skip) T L (rdy h) Q := rfl
def C88_5 : ACode := .seq (.reg L88_8) C88_4
theorem u88_5 : wpC P C88_5 T L (rdy h) Q = wpC P (.seq (.reg L88_8) C88_4) T L (rdy h) Q := rfl
def C88_6 : ACode := .seq (.reg L88_10) .ret
theorem u88_6 : wpC P C88_6 T L (rdy h) Q = wpC P (.seq (.reg L88_10) .ret) T L (rdy h) Q := rfl
def C88_7 : ACode := .seq C88_5 C88_6
theorem u88_7 : wpC P C88_7 T L (rdy h) Q = wpC P (.seq C88_5 C88_6) T L (rdy h) Q := rfl
def C88_8 : ACode := .seq C88_2 C88_7
theorem u88_8 : wpC P C88_8 T L (rdy h) Q = wpC P (.seq C88_2 C88_7) T L (rdy h) Q := rfl
def C88_9 : ACode := .seq (.reg L88_1) C88_8
theorem u88_9 : wpC P C88_9 T L (rdy h) Q = wpC P (.seq (.reg L88_1) C88_8) T L (rdy h) Q := rfl
def F88 : AFunc := ⟨15, [.tmp 4], C88_9⟩
theorem cF88 : compB Try.prog 88 = some F88 := by kernel_rfl
end
attribute [local go_sem ↓] u88_0 u88_1 u88_2 u88_3 u88_4 u88_5 u88_6 u88_7 u88_8 u88_9 v88_0 v88_1 v88_2 v88_3 v88_4 v88_5 v88_6 v88_7 v88_8 v88_9 v88_10
theorem c_eqTurn (p q : Turn) (h : H) : bm Try.prog 88 [.agg (encT p), .agg (encT q)] h = some (ib (decide (p = q)), h) := by
  refine bm_eq cF88 ?_
  obtain ⟨n1, k1⟩ := p
  obtain ⟨n2, k2⟩ := q
  simp +contextual (maxSteps := 2000000) only [go_sem, Nat.reduceEqDiff, reduceCtorEq, Nat.reduceAdd, Nat.reduceLeDiff, F88, Turn.mk.injEq]
  try ((repeat' (first | refine And.intro ?_ ?_ | intro _)) <;> first | simp_all)
section
variable {P : Program} {T : Tb} {L : Lb} {h : H} {Q : PostC} {K : Post}
/-! laws.eqIntS -/
def L86_0 : List AStep := [⟨.mov (.c (.bool false)), (some 4), none, []⟩]
theorem v86_0 : wpS P L86_0 T L (rdy h) K = wpS P ([⟨.mov (.c (.bool false)), (some 4), none, []⟩]) T L (rdy h) K := rfl
def L86_1 : List AStep := [⟨.bin .neq (.t 7) (.t 9), (some 10), none, []⟩]
theorem v86_1 : wpS P L86_1 T L (rdy h) K = wpS P ([⟨.bin .neq (.t 7) (.t 9), (some 10), none, []⟩]) T L (rdy h) K := rfl
def L86_2 : List AStep := ⟨.mov (.t 1), (some 8), none, []⟩ :: ⟨.len (.t 8), (some 9), none, []⟩ :: L86_1
theorem v86_2 : wpS P L86_2 T L (rdy h) K = wpS P (⟨.mov (.t 1), (some 8), none, []⟩ :: ⟨.len (.t 8), (some 9), none, []⟩ :: L86_1) T L (rdy h) K := rfl
def L86_3 : List AStep := ⟨.mov (.t 0), (some 6), none, []⟩ :: ⟨.len (.t 6), (some 7), none, []⟩ :: L86_2
theorem v86_3 : wpS P L86_3 T L (rdy h) K = wpS P (⟨.mov (.t 0), (some 6), none, []⟩ :: ⟨.len (.t 6), (some 7), none, []⟩ :: L86_2) T L (rdy h) K := rfl
def L86_4 : List AStep := [⟨.mov (.c (.bool false)), (some 4), none, []⟩]
theorem v86_4 : wpS P L86_4 T L (rdy h) K = wpS P ([⟨.mov (.c (.bool false)), (some 4), none, []⟩]) T L (rdy h) K := rfl
def L86_5 : List AStep := [⟨.mov (.c (.int .i64 0)), (some 5), none, []⟩]
theorem v86_5 : wpS P L86_5 T L (rdy h) K = wpS P ([⟨.mov (.c (.int .i64 0)), (some 5), none, []⟩]) T L (rdy h) K := rfl
def L86_6 : List AStep := [⟨.len (.t 12), (some 13), none, []⟩, ⟨.bin .lss (.t 11) (.t 13), (some 14), none, []⟩]
theorem v86_6 : wpS P L86_6 T L (rdy h) K = wpS P ([⟨.len (.t 12), (some 13), none, []⟩, ⟨.bin .lss (.t 11) (.t 13), (some 14), none, []⟩]) T L (rdy h) K := rfl
def L86_7 : List AStep := ⟨.mov (.t 5), (some 11), none, []⟩ :: ⟨.mov (.t 0), (some 12), none, []⟩ :: L86_6
theorem v86_7 : wpS P L86_7 T L (rdy h) K = wpS P (⟨.mov (.t 5), (some 11), none, []⟩ :: ⟨.mov (.t 0), (some 12), none, []⟩ :: L86_6) T L (rdy h) K := rfl
def L86_8 : List AStep := [⟨.bin .neq (.t 20) (.t 24), (some 25), none, []⟩]
theorem v86_8 : wpS P L86_8 T L (rdy h) K = wpS P ([⟨.bin .neq (.t 20) (.t 24), (some 25), none, []⟩]) T L (rdy h) K := rfl
def L86_9 : List AStep := ⟨.iaddr 1 (.t 21) (.t 22), (some 23), none, []⟩ :: ⟨.load 1 false (.t 23), (some 24), none, []⟩ :: L86_8
theorem v86_9 : wpS P L86_9 T L (rdy h) K = wpS P (⟨.iaddr 1 (.t 21) (.t 22), (some 23), none, []⟩ :: ⟨.load 1 false (.t 23), (some 24), none, []⟩ :: L86_8) T L (rdy h) K := rfl
def L86_10 : List AStep := ⟨.mov (.t 1), (some 21), none, []⟩ :: ⟨.mov (.t 5), (some 22), none, []⟩ :: L86_9
theorem v86_10 : wpS P L86_10 T L (rdy h) K = wpS P (⟨.mov (.t 1), (some 21), none, []⟩ :: ⟨.mov (.t 5), (some 22), none, []⟩ :: L86_9) T L (rdy h) K := rfl
def L86_11 : List AStep := ⟨.iaddr 1 (.t 17) (.t 18), (some 19), none, []⟩ :: ⟨.load 1 false (.t 19), (some 20), none, []⟩ :: L86_10
theorem v86_11 : wpS P L86_11 T L (rdy h) K = wpS P (⟨.iaddr 1 (.t 17) (.t 18), (some 19), none, []⟩ :: ⟨.load 1 false (.t 19), (some 20), none, []⟩ :: L86_10) T L (rdy h) K := rfl
def L86_12 : List AStep := ⟨.mov (.t 0), (some 17), none, []⟩ :: ⟨.mov (.t 5), (some 18), none, []⟩ :: L86_11
theorem v86_12 : wpS P L86_12 T L (rdy h) K = wpS P (⟨.mov (.t 0), (some 17), none, []⟩ :: ⟨.mov (.t 5), (some 18), none, []⟩ :: L86_11) T L (rdy h) K := rfl
def L86_13 : List AStep := [⟨.mov (.c (.bool false)), (some 4), none, []⟩]
theorem v86_13 : wpS P L86_13 T L (rdy h) K = wpS P ([⟨.mov (.c (.bool false)), (some 4), none, []⟩]) T L (rdy h) K := rfl
def L86_14 : List AStep := [⟨.mov (.t 16), (some 5), none, []⟩]
theorem v86_14 : wpS P L86_14 T L (rdy h) K = wpS P ([⟨.mov (.t 16), (some 5), none, []⟩]) T L (rdy h) K := rfl
def L86_15 : List AStep := ⟨.mov (.t 5), (some 15), none, []⟩ :: ⟨.bin .add (.t 15) (.c (.int .i64 1)), (some 16), none, []⟩ :: L86_14
theorem v86_15 : wpS P L86_15 T L (rdy h) K = wpS P (⟨.mov (.t 5), (some 15), none, []⟩ :: ⟨.bin .add (.t 15) (.c (.int .i64 1)), (some 16), none, []⟩ :: L86_14) T L (rdy h) K := rfl
def L86_16 : List AStep := [⟨.mov (.c (.bool true)), (some 4), none, []⟩]
theorem v86_16 : wpS P L86_16 T L (rdy h) K = wpS P ([⟨.mov (.c (.bool true)), (some 4), none, []⟩]) T L (rdy h) K := rfl
def C86_0 : ACode := .seq (.reg L86_4) .ret
theorem u86_0 : wpC P C86_0 T L (rdy h) Q = wpC P (.seq (.reg L86_4) .ret) T L (rdy h) Q := rfl
def C86_1 : ACode := .cond (.t 10) C86_0 .skip
theorem u86_1 : wpC P C86_1 T L (rdy h) Q = wpC P (.cond (.t 10) C86_0 .skip) T L (rdy h) Q := rfl
def C86_2 : ACode := .seq (.reg L86_3) C86_1
theorem u86_2 : wpC P C86_2 T L (rdy h) Q = wpC P (.seq (.reg L86_3) C86_1) T L (rdy h) Q := rfl
def C86_3 : ACode := .cond (.t 14) .skip (.exit 0)
theorem u86_3 : wpC P C86_3 T L (rdy h) Q = wpC P (.cond (.t 14) .skip (.exit 0)) T L (rdy h) Q := rfl
def C86_4 : ACode := .seq (.reg L86_7) C86_3
theorem u86_4 : wpC P C86_4 T L (rdy h) Q = wpC P (.seq (.reg L86_7) C86_3) T L (rdy h) Q := rfl
def C86_5 : ACode := .seq (.reg L86_13) .ret
theorem u86_5 : wpC P C86_5 T L (rdy h) Q = wpC P (.seq (.reg L86_13) .ret) T L (rdy h) Q := rfl
def C86_6 : ACode := .cond (.t 25) C86_5 .skip
theorem u86_6 : wpC P C86_6 T L (rdy h) Q = wpC P (.cond (.t 25) C86_5 .skip) T L (rdy h) Q := rfl
def C86_7 : ACode := .seq (.reg L86_12) C86_6
theorem u86_7 : wpC P C86_7 T L (rdy h) Q = wpC P (.seq (.reg L86_12) C86_6) T L (rdy h) Q := rfl
def C86_8 : ACode := .block 1 C86_7
theorem u86_8 : wpC P C86_8 T L (rdy h) Q = wpC P (.block 1 C86_7) T L (rdy h) Q := rfl
def C86_9 : ACode := .seq C86_8 (.reg L86_15)
theorem u86_9 : wpC P C86_9 T L (rdy h) Q = wpC P (.seq C86_8 (.reg L86_15)) T L (rdy h) Q := rfl
def C86_10 : ACode := .seq C86_4 C86_9
theorem u86_10 : wpC P C86_10 T L (rdy h) Q = wpC P (.seq C86_4 C86_9) T L (rdy h) Q := rfl
def C86_11 : ACode := .block 0 (.loop C86_10)
theorem u86_11 : wpC P C86_11 T L (rdy h) Q = wpC P (.block 0 (.loop C86_10)) T L (rdy h) Q := rfl
def C86_12 : ACode := .seq (.reg L86_5) C86_11
theorem u86_12 : wpC P C86_12 T L (rdy h) Q = wpC P (.seq (.reg L86_5) C86_11) T L (rdy h) Q := rfl
def C86_13 : ACode := .seq (.reg L86_16) .ret
theorem u86_13 : wpC P C86_13 T L (rdy h) Q = wpC P (.seq (.reg L86_16) .ret) T L (rdy h) Q := rfl
def C86_14 : ACode := .seq C86_12 C86_13
theorem u86_14 : wpC P C86_14 T L (rdy h) Q = wpC P (.seq C86_12 C86_13) T L (rdy h) Q := rfl
def C86_15 : ACode := .seq C86_2 C86_14
theorem u86_15 : wpC P C86_15 T L (rdy h) Q = wpC P (.seq C86_2 C86_14) T L (rdy h) Q := rfl
def C86_16 : ACode := .seq (.reg L86_0) C86_15
theorem u86_16 : wpC P C86_16 T L (rdy h) Q = wpC P (.seq (.reg L86_0) C86_15) T L (rdy h) Q := rfl
def F86 : AFunc := ⟨26, [.tmp 4], C86_16⟩
theorem cF86 : compB Try.prog 86 = some F86 := by kernel_rfl
end
attribute [local go_sem ↓] u86_0 u86_1 u86_2 u86_3 u86_4 u86_5 u86_6 u86_7 u86_8 u86_9 u86_10 u86_11 u86_12 u86_13 u86_14 u86_15 u86_16 v86_0 v86_1 v86_2 v86_3 v86_4 v86_5 v86_6 v86_7 v86_8 v86_9 v86_10 v86_11 v86_12 v86_13 v86_14 v86_15 v86_16
theorem c_eqIntS (l m : List Int) (v w : AV) (h : H) (hl : SlI h v l) (hm : SlI h w m) (hn : l.length ≤ big) : bm Try.prog 86 [v, w] h = some (ib (decide (l = m)), h) := by
  refine bm_eq cF86 ?_
  by_cases hlen : l.length = m.length
  case neg =>
    have e1 : decide ((l.length : Int) = (m.length : Int)) = false := decide_eq_false (by omega)
    simp +contextual (maxSteps := 2000000) only [go_sem, Nat.reduceEqDiff, reduceCtorEq, Nat.reduceAdd, Nat.reduceLeDiff, F86, hl.len, hm.len, e1]
    rw [ne_len e1]
  have e1 : decide ((l.length : Int) = (m.length : Int)) = true := decide_eq_true (by omega)
  simp +contextual (maxSteps := 2000000) only [go_sem, Nat.reduceEqDiff, reduceCtorEq, Nat.reduceAdd, Nat.reduceLeDiff, F86, hl.len, hm.len, e1]
  refine wpC_loop (fun i T L h' => h' = h ∧ T 0 = .v v ∧ T 1 = .v w ∧ T 5 = .v (.one (.int .i64 i)) ∧ Upto (eqAt l m) i) l.length ?_ ?_ (Nat.zero_le _) ?_
  · rintro i T L h' hi ⟨rfl, t0, t1, t5, hu⟩
    have him : i < m.length := by omega
    have e2 := eqAt_eq hi him
    simp +contextual (maxSteps := 2000000) only [go_sem, Nat.reduceEqDiff, reduceCtorEq, Nat.reduceAdd, Nat.reduceLeDiff, t0, t1, t5, hl.len, hm.len, hl.iaddr hi, hm.iaddr him, hl.oneO hi, hm.oneO him, lt_true hi]
    (repeat' (first | refine And.intro ?_ ?_ | intro _)) <;> first | rfl | rw [wrap_next hi (big_lt hn)] | (refine hu.next ?_; rw [e2]; (simp_all; done)) | (rw [ne_at (l := l) (m := m) (i := i)]; rw [e2]; (simp_all; done))
  · rintro T L h' ⟨rfl, t0, t1, t5, hu⟩
    simp +contextual (maxSteps := 2000000) only [go_sem, Nat.reduceEqDiff, reduceCtorEq, Nat.reduceAdd, Nat.reduceLeDiff, t0, t1, t5, hl.len, hm.len, lt_false, decide_eq_true (eq_of_upto hlen hu)]
  · simp +contextual (maxSteps := 2000000) only [go_sem, Nat.reduceEqDiff, reduceCtorEq, Nat.reduceAdd, Nat.reduceLeDiff]
    (repeat' (first | refine And.intro ?_ ?_ | intro _)) <;> first | rfl | exact Upto.zero
section
variable {P : Program} {T : Tb} {L : Lb} {h : H} {Q : PostC} {K : Post}
/-! laws.eqPairS -/
def L87_0 : List AStep := [⟨.mov (.c (.bool false)), (some 4), none, []⟩]
theorem v87_0 : wpS P L87_0 T L (rdy h) K = wpS P ([⟨.mov (.c (.bool false)), (some 4), none, []⟩]) T L (rdy h) K := rfl
def L87_1 : List AStep := [⟨.bin .neq (.t 7) (.t 9), (some 10), none, []⟩]
theorem v87_1 : wpS P L87_1 T L (rdy h) K = wpS P ([⟨.bin .neq (.t 7) (.t 9), (some 10), none, []⟩]) T L (rdy h) K := rfl
def L87_2 : List AStep := ⟨.mov (.t 1), (some 8), none, []⟩ :: ⟨.len (.t 8), (some 9), none, []⟩ :: L87_1
theorem v87_2 : wpS P L87_2 T L (rdy h) K = wpS P (⟨.mov (.t 1), (some 8), none, []⟩ :: ⟨.len (.t 8), (some 9), none, []⟩ :: L87_1) T L (rdy h) K := rfl
def L87_3 : List AStep := ⟨.mov (.t 0), (some 6), none, []⟩ :: ⟨.len (.t 6), (some 7), none, []⟩ :: L87_2
theorem v87_3 : wpS P L87_3 T L (rdy h) K = wpS P (⟨.mov (.t 0), (some 6), none, []⟩ :: ⟨.len (.t 6), (some 7), none, []⟩ :: L87_2) T L (rdy h) K := rfl
def L87_4 : List AStep := [⟨.mov (.c (.bool false)), (some 4), none, []⟩]
theorem v87_4 : wpS P L87_4 T L (rdy h) K = wpS P ([⟨.mov (.c (.bool false)), (some 4), none, []⟩]) T L (rdy h) K := rfl
def L87_5 : List AStep := [⟨.mov (.c (.int .i64 0)), (some 5), none, []⟩]
theorem v87_5 : wpS P L87_5 T L (rdy h) K = wpS P ([⟨.mov (.c (.int .i64 0)), (some 5), none, []⟩]) T L (rdy h) K := rfl
def L87_6 : List AStep := [⟨.len (.t 12), (some 13), none, []⟩, ⟨.bin .lss (.t 11) (.t 13), (some 14), none, []⟩]
theorem v87_6 : wpS P L87_6 T L (rdy h) K = wpS P ([⟨.len (.t 12), (some 13), none, []⟩, ⟨.bin .lss (.t 11) (.t 13), (some 14), none, []⟩]) T L (rdy h) K := rfl
def L87_7 : List AStep := ⟨.mov (.t 5), (some 11), none, []⟩ :: ⟨.mov (.t 0), (some 12), none, []⟩ :: L87_6
theorem v87_7 : wpS P L87_7 T L (rdy h) K = wpS P (⟨.mov (.t 5), (some 11), none, []⟩ :: ⟨.mov (.t 0), (some 12), none, []⟩ :: L87_6) T L (rdy h) K := rfl
def L87_8 : List AStep := [⟨.call 175 [(.t 20), (.t 24)], (some 25), none, []⟩, ⟨.not (.t 25), (some 26), none, []⟩]
theorem v87_8 : wpS P L87_8 T L (rdy h) K = wpS P ([⟨.call 175 [(.t 20), (.t 24)], (some 25), none, []⟩, ⟨.not (.t 25), (some 26), none, []⟩]) T L (rdy h) K := rfl
def L87_9 : List AStep := ⟨.iaddr 2 (.t 21) (.t 22), (some 23), none, []⟩ :: ⟨.load 2 true (.t 23), (some 24), none, []⟩ :: L87_8
theorem v87_9 : wpS P L87_9 T L (rdy h) K = wpS P (⟨.iaddr 2 (.t 21) (.t 22), (some 23), none, []⟩ :: ⟨.load 2 true (.t 23), (some 24), none, []⟩ :: L87_8) T L (rdy h) K := rfl
def L87_10 : List AStep := ⟨.mov (.t 1), (some 21), none, []⟩ :: ⟨.mov (.t 5), (some 22), none, []⟩ :: L87_9
theorem v87_10 : wpS P L87_10 T L (rdy h) K = wpS P (⟨.mov (.t 1), (some 21), none, []⟩ :: ⟨.mov (.t 5), (some 22), none, []⟩ :: L87_9) T L (rdy h) K := rfl
def L87_11 : List AStep := ⟨.iaddr 2 (.t 17) (.t 18), (some 19), none, []⟩ :: ⟨.load 2 true (.t 19), (some 20), none, []⟩ :: L87_10
theorem v87_11 : wpS P L87_11 T L (rdy h) K = wpS P (⟨.iaddr 2 (.t 17) (.t 18), (some 19), none, []⟩ :: ⟨.load 2 true (.t 19), (some 20), none, []⟩ :: L87_10) T L (rdy h) K := rfl
def L87_12 : List AStep := ⟨.mov (.t 0), (some 17), none, []⟩ :: ⟨.mov (.t 5), (some 18), none, []⟩ :: L87_11
theorem v87_12 : wpS P L87_12 T L (rdy h) K = wpS P (⟨.mov (.t 0), (some 17), none, []⟩ :: ⟨.mov (.t 5), (some 18), none, []⟩ :: L87_11) T L (rdy h) K := rfl
def L87_13 : List AStep := [⟨.mov (.c (.bool false)), (some 4), none, []⟩]
theorem v87_13 : wpS P L87_13 T L (rdy h) K = wpS P ([⟨.mov (.c (.bool false)), (some 4), none, []⟩]) T L (rdy h) K := rfl
def L87_14 : List AStep := [⟨.mov (.t 16), (some 5), none, []⟩]
theorem v87_14 : wpS P L87_14 T L (rdy h) K = wpS P ([⟨.mov (.t 16), (some 5), none, []⟩]) T L (rdy h) K := rfl
def L87_15 : List AStep := ⟨.mov (.t 5), (some 15), none, []⟩ :: ⟨.bin .add (.t 15) (.c (.int .i64 1)), (some 16), none, []⟩ :: L87_14
theorem v87_15 : wpS P L87_15 T L (rdy h) K = wpS P (⟨.mov (.t 5), (some 15), none, []⟩ :: ⟨.bin .add (.t 15) (.c (.int .i64 1)), (some 16), none, []⟩ :: L87_14) T L (rdy h) K := rfl
def L87_16 : List AStep := [⟨.mov (.c (.bool true)), (some 4), none, []⟩]
theorem v87_16 : wpS P L87_16 T L (rdy h) K = wpS P ([⟨.mov (.c (.bool true)), (some 4), none, []⟩]) T L (rdy h) K := rfl
def C87_0 : ACode := .seq (.reg L87_4) .ret
theorem u87_0 : wpC P C87_0 T L (rdy h) Q = wpC P (.seq (.reg L87_4) .ret) T L (rdy h) Q := rfl
def C87_1 : ACode := .cond (.t 10) C87_0 .skip
theorem u87_1 : wpC P C87_1 T L (rdy h) Q = wpC P (.cond (.t 10) C87_0 .skip) T L (rdy h) Q := rfl
def C87_2 : ACode := .seq (.reg L87_3) C87_1
theorem u87_2 : wpC P C87_2 T L (rdy h) Q = wpC P (.seq (.reg L87_3) C87_1) T L (rdy h) Q := rfl
def C87_3 : ACode := .cond (.t 14) .skip (.exit 0)
theorem u87_3 : wpC P C87_3 T L (rdy h) Q = wpC P (.cond (.t 14) .skip (.exit 0)) T L (rdy h) Q := rfl
def C87_4 : ACode := .seq (.reg L87_7) C87_3
theorem u87_4 : wpC P C87_4 T L (rdy h) Q = wpC P (.seq (.reg L87_7) C87_3) T L (rdy h) Q := rfl
def C87_5 : ACode := .seq (.reg L87_13) .ret
theorem u87_5 : wpC P C87_5 T L (rdy h) Q = wpC P (.seq (.reg L87_13) .ret) T L (rdy h) Q := rfl
def C87_6 : ACode := .cond (.t 26) C87_5 .skip
theorem u87_6 : wpC P C87_6 T L (rdy h) Q = wpC P (.cond (.t 26) C87_5 .skip) T L (rdy h) Q := rfl
def C87_7 : ACode := .seq (.reg L87_12) C87_6
theorem u87_7 : wpC P C87_7 T L (rdy h) Q = wpC P (.seq (.reg L87_12) C87_6) T L (rdy h) Q := rfl
def C87_8 : ACode := .block 1 C87_7
theorem u87_8 : wpC P C87_8 T L (rdy h) Q = wpC P (.block 1 C87_7) T L (rdy h) Q := rfl
def C87_9 : ACode := .seq C87_8 (.reg L87_15)
theorem u87_9 : wpC P C87_9 T L (rdy h) Q = wpC P (.seq C87_8 (.reg L87_15)) T L (rdy h) Q := rfl
def C87_10 : ACode := .seq C87_4 C87_9
theorem u87_10 : wpC P C87_10 T L (rdy h) Q = wpC P (.seq C87_4 C87_9) T L (rdy h) Q := rfl
def C87_11 : ACode := .block 0 (.loop C87_10)
theorem u87_11 : wpC P C87_11 T L (rdy h) Q = wpC P (.block 0 (.loop C87_10)) T L (rdy h) Q := rfl
def C87_12 : ACode := .seq (.reg L87_5) C87_11
theorem u87_12 : wpC P C87_12 T L (rdy h) Q = wpC P (.seq (.reg L87_5) C87_11) T L (rdy h) Q := rfl
def C87_13 : ACode := .seq (.reg L87_16) .ret
theorem u87_13 : wpC P C87_13 T L (rdy h) Q = wpC P (.seq (.reg L87_16) .ret) T L (rdy h) Q := rfl
def C87_14 : ACode := .seq C87_12 C87_13
theorem u87_14 : wpC P C87_14 T L (rdy h) Q = wpC P (.seq C87_12 C87_13) T L (rdy h) Q := rfl
def C87_15 : ACode := .seq C87_2 C87_14
theorem u87_15 : wpC P C87_15 T L (rdy h) Q = wpC P (.seq C87_2 C87_14) T L (rdy h) Q := rfl
def C87_16 : ACode := .seq (.reg L87_0) C87_15
theorem u87_16 : wpC P C87_16 T L (rdy h) Q = wpC P (.seq (.reg L87_0) C87_15) T L (rdy h) Q := rfl
def F87 : AFunc := ⟨27, [.tmp 4], C87_16⟩
theorem cF87 : compB Try.prog 87 = some F87 := by kernel_rfl
end
attribute [local go_sem ↓] u87_0 u87_1 u87_2 u87_3 u87_4 u87_5 u87_6 u87_7 u87_8 u87_9 u87_10 u87_11 u87_12 u87_13 u87_14 u87_15 u87_16 v87_0 v87_1 v87_2 v87_3 v87_4 v87_5 v87_6 v87_7 v87_8 v87_9 v87_10 v87_11 v87_12 v87_13 v87_14 v87_15 v87_16
theorem c_eqPairS (l m : List Pair) (v w : AV) (h : H) (hl : SlP h v l) (hm : SlP h w m) (hn : l.length ≤ big) : bm Try.prog 87 [v, w] h = some (ib (decide (l = m)), h) := by
  refine bm_eq cF87 ?_
  by_cases hlen : l.length = m.length
  case neg =>
    have e1 : decide ((l.length : Int) = (m.length : Int)) = false := decide_eq_false (by omega)
    simp +contextual (maxSteps := 2000000) only [go_sem, Nat.reduceEqDiff, reduceCtorEq, Nat.reduceAdd, Nat.reduceLeDiff, F87, hl.len, hm.len, e1]
    rw [ne_len e1]
  have e1 : decide ((l.length : Int) = (m.length : Int)) = true := decide_eq_true (by omega)
  simp +contextual (maxSteps := 2000000) only [go_sem, Nat.reduceEqDiff, reduceCtorEq, Nat.reduceAdd, Nat.reduceLeDiff, F87, hl.len, hm.len, e1]
  refine wpC_loop (fun i T L h' => h' = h ∧ T 0 = .v v ∧ T 1 = .v w ∧ T 5 = .v (.one (.int .i64 i)) ∧ Upto (eqAt l m) i) l.length ?_ ?_ (Nat.zero_le _) ?_
  · rintro i T L h' hi ⟨rfl, t0, t1, t5, hu⟩
    have him : i < m.length := by omega
    have e2 := eqAt_eq hi him
    simp +contextual (maxSteps := 2000000) only [go_sem, Nat.reduceEqDiff, reduceCtorEq, Nat.reduceAdd, Nat.reduceLeDiff, t0, t1, t5, hl.len, hm.len, hl.iaddr hi, hm.iaddr him, hl.whole hi, hm.whole him, c_eqPair, lt_true hi]
    (repeat' (first | refine And.intro ?_ ?_ | intro _)) <;> first | rfl | rw [wrap_next hi (big_lt hn)] | (refine hu.next ?_; rw [e2]; (simp_all; done)) | (rw [ne_at (l := l) (m := m) (i := i)]; rw [e2]; (simp_all; done))
  · rintro T L h' ⟨rfl, t0, t1, t5, hu⟩
    simp +contextual (maxSteps := 2000000) only [go_sem, Nat.reduceEqDiff, reduceCtorEq, Nat.reduceAdd, Nat.reduceLeDiff, t0, t1, t5, hl.len, hm.len, lt_false, decide_eq_true (eq_of_upto hlen hu)]
  · simp +contextual (maxSteps := 2000000) only [go_sem, Nat.reduceEqDiff, reduceCtorEq, Nat.reduceAdd, Nat.reduceLeDiff]
    (repeat' (first | refine And.intro ?_ ?_ | intro _)) <;> first | rfl | exact Upto.zero
section
variable {P : Program} {T : Tb} {L : Lb} {h : H} {Q : PostC} {K : Post}
/-! laws.eqTurnS -/
def L20_0 : List AStep := [⟨.mov (.c (.bool false)), (some 4), none, []⟩]
theorem v20_0 : wpS P L20_0 T L (rdy h) K = wpS P ([⟨.mov (.c (.bool false)), (some 4), none, []⟩]) T L (rdy h) K := rfl
def L20_1 : List AStep := [⟨.bin .neq (.t 7) (.t 9), (some 10), none, []⟩]
theorem v20_1 : wpS P L20_1 T L (rdy h) K = wpS P ([⟨.bin .neq (.t 7) (.t 9), (some 10), none, []⟩]) T L (rdy h) K := rfl
def L20_2 : List AStep := ⟨.mov (.t 1), (some 8), none, []⟩ :: ⟨.len (.t 8), (some 9), none, []⟩ :: L20_1
theorem v20_2 : wpS P L20_2 T L (rdy h) K = wpS P (⟨.mov (.t 1), (some 8), none, []⟩ :: ⟨.len (.t 8), (some 9), none, []⟩ :: L20_1) T L (rdy h) K := rfl
def L20_3 : List AStep := ⟨.mov (.t 0), (some 6), none, []⟩ :: ⟨.len (.t 6), (some 7), none, []⟩ :: L20_2
theorem v20_3 : wpS P L20_3 T L (rdy h) K = wpS P (⟨.mov (.t 0), (some 6), none, []⟩ :: ⟨.len (.t 6), (some 7), none, []⟩ :: L20_2) T L (rdy h) K := rfl
def L20_4 : List AStep := [⟨.mov (.c (.bool false)), (some 4), none, []⟩]
theorem v20_4 : wpS P L20_4 T L (rdy h) K = wpS P ([⟨.mov (.c (.bool false)), (some 4), none, []⟩]) T L (rdy h) K := rfl
def L20_5 : List AStep := [⟨.mov (.c (.int .i64 0)), (some 5), none, []⟩]
theorem v20_5 : wpS P L20_5 T L (rdy h) K = wpS P ([⟨.mov (.c (.int .i64 0)), (some 5), none, []⟩]) T L (rdy h) K := rfl
def L20_6 : List AStep := [⟨.len (.t 12), (some 13), none, []⟩, ⟨.bin .lss (.t 11) (.t 13), (some 14), none, []⟩]
theorem v20_6 : wpS P L20_6 T L (rdy h) K = wpS P ([⟨.len (.t 12), (some 13), none, []⟩, ⟨.bin .lss (.t 11) (.t 13), (some 14), none, []⟩]) T L (rdy h) K := rfl
def L20_7 : List AStep := ⟨.mov (.t 5), (some 11), none, []⟩ :: ⟨.mov (.t 0), (some 12), none, []⟩ :: L20_6
theorem v20_7 : wpS P L20_7 T L (rdy h) K = wpS P (⟨.mov (.t 5), (some 11), none, []⟩ :: ⟨.mov (.t 0), (some 12), none, []⟩ :: L20_6) T L (rdy h) K := rfl
def L20_8 : List AStep := [⟨.call 88 [(.t 20), (.t 24)], (some 25), none, []⟩, ⟨.not (.t 25), (some 26), none, []⟩]
theorem v20_8 : wpS P L20_8 T L (rdy h) K = wpS P ([⟨.call 88 [(.t 20), (.t 24)], (some 25), none, []⟩, ⟨.not (.t 25), (some 26), none, []⟩]) T L (rdy h) K := rfl
def L20_9 : List AStep := ⟨.iaddr 2 (.t 21) (.t 22), (some 23), none, []⟩ :: ⟨.load 2 true (.t 23), (some 24), none, []⟩ :: L20_8
theorem v20_9 : wpS P L20_9 T L (rdy h) K = wpS P (⟨.iaddr 2 (.t 21) (.t 22), (some 23), none, []⟩ :: ⟨.load 2 true (.t 23), (some 24), none, []⟩ :: L20_8) T L (rdy h) K := rfl
def L20_10 : List AStep := ⟨.mov (.t 1), (some 21), none, []⟩ :: ⟨.mov (.t 5), (some 22), none, []⟩ :: L20_9
theorem v20_10 : wpS P L20_10 T L (rdy h) K = wpS P (⟨.mov (.t 1), (some 21), none, []⟩ :: ⟨.mov (.t 5), (some 22), none, []⟩ :: L20_9) T L (rdy h) K := rfl
def L20_11 : List AStep := ⟨.iaddr 2 (.t 17) (.t 18), (some 19), none, []⟩ :: ⟨.load 2 true (.t 19), (some 20), none, []⟩ :: L20_10
theorem v20_11 : wpS P L20_11 T L (rdy h) K = wpS P (⟨.iaddr 2 (.t 17) (.t 18), (some 19), none, []⟩ :: ⟨.load 2 true (.t 19), (some 20), none, []⟩ :: L20_10) T L (rdy h) K := rfl
def L20_12 : List AStep := ⟨.mov (.t 0), (some 17), none, []⟩ :: ⟨.mov (.t 5), (some 18), none, []⟩ :: L20_11
theorem v20_12 : wpS P L20_12 T L (rdy h) K = wpS P (⟨.mov (.t 0), (some 17), none, []⟩ :: ⟨.mov (.t 5), (some 18), none, []⟩ :: L20_11) T L (rdy h) K := rfl
def L20_13 : List AStep := [⟨.mov (.c (.bool false)), (some 4), none, []⟩]
theorem v20_13 : wpS P L20_13 T L (rdy h) K = wpS P ([⟨.mov (.c (.bool false)), (some 4), none, []⟩]) T L (rdy h) K := rfl
def L20_14 : List AStep := [⟨.mov (.t 16), (some 5), none, []⟩]
theorem v20_14 : wpS P L20_14 T L (rdy h) K = wpS P ([⟨.mov (.t 16), (some 5), none, []⟩]) T L (rdy h) K := rfl
def L20_15 : List AStep := ⟨.mov (.t 5), (some 15), none, []⟩ :: ⟨.bin .add (.t 15) (.c (.int .i64 1)), (some 16), none, []⟩ :: L20_14
theorem v20_15 : wpS P L20_15 T L (rdy h) K = wpS P (⟨.mov (.t 5), (some 15), none, []⟩ :: ⟨.bin .add (.t 15) (.c (.int .i64 1)), (some 16), none, []⟩ :: L20_14) T L (rdy h) K := rfl
def L20_16 : List AStep := [⟨.mov (.c (.bool true)), (some 4), none, []⟩]
theorem v20_16 : wpS P L20_16 T L (rdy h) K = wpS P ([⟨.mov (.c (.bool true)), (some 4), none, []⟩]) T L (rdy h) K := rfl
def C20_0 : ACode := .seq (.reg L20_4) .ret
theorem u20_0 : wpC P C20_0 T L (rdy h) Q = wpC P (.seq (.reg L20_4) .ret) T L (rdy h) Q := rfl
def C20_1 : ACode := .cond (.t 10) C20_0 .skip
theorem u20_1 : wpC P C20_1 T L (rdy h) Q = wpC P (.cond (.t 10) C20_0 .skip) T L (rdy h) Q := rfl
def C20_2 : ACode := .seq (.reg L20_3) C20_1
theorem u20_2 : wpC P C20_2 T L (rdy h) Q = wpC P (.seq (.reg L20_3) C20_1) T L (rdy h) Q := rfl
def C20_3 : ACode := .cond (.t 14) .skip (.exit 0)
theorem u20_3 : wpC P C20_3 T L (rdy h) Q = wpC P (.cond (.t 14) .skip (.exit 0)) T L (rdy h) Q := rfl
def C20_4 : ACode := .seq (.reg L20_7) C20_3
theorem u20_4 : wpC P C20_4 T L (rdy h) Q = wpC P (.seq (.reg L20_7) C20_3) T L (rdy h) Q := rfl
def C20_5 : ACode := .seq (.reg L20_13) .ret
theorem u20_5 : wpC P C20_5 T L (rdy h) Q = wpC P (.seq (.reg L20_13) .ret) T L (rdy h) Q := rfl
def C20_6 : ACode := .cond (.t 26) C20_5 .skip
theorem u20_6 : wpC P C20_6 T L (rdy h) Q = wpC P (.cond (.t 26) C20_5 .skip) T L (rdy h) Q := rfl
def C20_7 : ACode := .seq (.reg L20_12) C20_6
theorem u20_7 : wpC P C20_7 T L (rdy h) Q = wpC P (.seq (.reg L20_12) C20_6) T L (rdy h) Q := rfl
def C20_8 : ACode := .block 1 C20_7
theorem u20_8 : wpC P C20_8 T L (rdy h) Q = wpC P (.block 1 C20_7) T L (rdy h) Q := rfl
def C20_9 : ACode := .seq C20_8 (.reg L20_15)
theorem u20_9 : wpC P C20_9 T L (rdy h) Q = wpC P (.seq C20_8 (.reg L20_15)) T L (rdy h) Q := rfl
def C20_10 : ACode := .seq C20_4 C20_9
theorem u20_10 : wpC P C20_10 T L (rdy h) Q = wpC P (.seq C20_4 C20_9) T L (rdy h) Q := rfl
def C20_11 : ACode := .block 0 (.loop C20_10)
theorem u20_11 : wpC P C20_11 T L (rdy h) Q = wpC P (.block 0 (.loop C20_10)) T L (rdy h) Q := rfl
def C20_12 : ACode := .seq (.reg L20_5) C20_11
theorem u20_12 : wpC P C20_12 T L (rdy h) Q = wpC P (.seq (.reg L20_5) C20_11) T L (rdy h) Q := rfl
def C20_13 : ACode := .seq (.reg L20_16) .ret
theorem u20_13 : wpC P C20_13 T L (rdy h) Q = wpC P (.seq (.reg L20_16) .ret) T L (rdy h) Q := rfl
def C20_14 : ACode := .seq C20_12 C20_13
theorem u20_14 : wpC P C20_14 T L (rdy h) Q = wpC P (.seq C20_12 C20_13) T L (rdy h) Q := rfl
def C20_15 : ACode := .seq C20_2 C20_14
theorem u20_15 : wpC P C20_15 T L (rdy h) Q = wpC P (.seq C20_2 C20_14) T L (rdy h) Q := rfl
def C20_16 : ACode := .seq (.reg L20_0) C20_15
theorem u20_16 : wpC P C20_16 T L (rdy h) Q = wpC P (.seq (.reg L20_0) C20_15) T L (rdy h) Q := rfl
def F20 : AFunc := ⟨27, [.tmp 4], C20_16⟩
theorem cF20 : compB Try.prog 20 = some F20 := by kernel_rfl
end
attribute [local go_sem ↓] u20_0 u20_1 u20_2 u20_3 u20_4 u20_5 u20_6 u20_7 u20_8 u20_9 u20_10 u20_11 u20_12 u20_13 u20_14 u20_15 u20_16 v20_0 v20_1 v20_2 v20_3 v20_4 v20_5 v20_6 v20_7 v20_8 v20_9 v20_10 v20_11 v20_12 v20_13 v20_14 v20_15 v20_16
theorem c_eqTurnS (l m : List Turn) (v w : AV) (h : H) (hl : SlT h v l) (hm : SlT h w m) (hn : l.length ≤ big) : bm Try.prog 20 [v, w] h = some (ib (decide (l = m)), h) := by
  refine bm_eq cF20 ?_
  by_cases hlen : l.length = m.length
  case neg =>
    have e1 : decide ((l.length : Int) = (m.length : Int)) = false := decide_eq_false (by omega)
    simp +contextual (maxSteps := 2000000) only [go_sem, Nat.reduceEqDiff, reduceCtorEq, Nat.reduceAdd, Nat.reduceLeDiff, F20, hl.len, hm.len, e1]
    rw [ne_len e1]
  have e1 : decide ((l.length : Int) = (m.length : Int)) = true := decide_eq_true (by omega)
  simp +contextual (maxSteps := 2000000) only [go_sem, Nat.reduceEqDiff, reduceCtorEq, Nat.reduceAdd, Nat.reduceLeDiff, F20, hl.len, hm.len, e1]
  refine wpC_loop (fun i T L h' => h' = h ∧ T 0 = .v v ∧ T 1 = .v w ∧ T 5 = .v (.one (.int .i64 i)) ∧ Upto (eqAt l m) i) l.length ?_ ?_ (Nat.zero_le _) ?_
  · rintro i T L h' hi ⟨rfl, t0, t1, t5, hu⟩
    have him : i < m.length := by omega
    have e2 := eqAt_eq hi him
    simp +contextual (maxSteps := 2000000) only [go_sem, Nat.reduceEqDiff, reduceCtorEq, Nat.reduceAdd, Nat.reduceLeDiff, t0, t1, t5, hl.len, hm.len, hl.iaddr hi, hm.iaddr him, hl.whole hi, hm.whole him, c_eqTurn, lt_true hi]
    (repeat' (first | refine And.intro ?_ ?_ | intro _)) <;> first | rfl | rw [wrap_next hi (big_lt hn)] | (refine hu.next ?_; rw [e2]; (simp_all; done)) | (rw [ne_at (l := l) (m := m) (i := i)]; rw [e2]; (simp_all; done))
  · rintro T L h' ⟨rfl, t0, t1, t5, hu⟩
    simp +contextual (maxSteps := 2000000) only [go_sem, Nat.reduceEqDiff, reduceCtorEq, Nat.reduceAdd, Nat.reduceLeDiff, t0, t1, t5, hl.len, hm.len, lt_false, decide_eq_true (eq_of_upto hlen hu)]
  · simp +contextual (maxSteps := 2000000) only [go_sem, Nat.reduceEqDiff, reduceCtorEq, Nat.reduceAdd, Nat.reduceLeDiff]
    (repeat' (first | refine And.intro ?_ ?_ | intro _)) <;> first | rfl | exact Upto.zero
section
variable {P : Program} {T : Tb} {L : Lb} {h : H} {Q : PostC} {K : Post}
/-! laws.eqFlat -/
def L19_0 : List AStep := [⟨.mov (.c (.bool false)), (some 4), none, []⟩]
theorem v19_0 : wpS P L19_0 T L (rdy h) K = wpS P ([⟨.mov (.c (.bool false)), (some 4), none, []⟩]) T L (rdy h) K := rfl
def L19_1 : List AStep := ⟨.box 31 (.t 0), (some 2), none, []⟩ :: ⟨.box 31 (.t 1), (some 3), none, []⟩ :: L19_0
theorem v19_1 : wpS P L19_1 T L (rdy h) K = wpS P (⟨.box 31 (.t 0), (some 2), none, []⟩ :: ⟨.box 31 (.t 1), (some 3), none, []⟩ :: L19_0) T L (rdy h) K := rfl
def L19_2 : List AStep := [⟨.call 86 [(.t 6), (.t 8)], (some 9), none, []⟩, ⟨.not (.t 9), (some 10), none, []⟩]
theorem v19_2 : wpS P L19_2 T L (rdy h) K = wpS P ([⟨.call 86 [(.t 6), (.t 8)], (some 9), none, []⟩, ⟨.not (.t 9), (some 10), none, []⟩]) T L (rdy h) K := rfl
def L19_3 : List AStep := ⟨.faddr 0 (.t 3), (some 7), none, []⟩ :: ⟨.load 1 false (.t 7), (some 8), none, []⟩ :: L19_2
theorem v19_3 : wpS P L19_3 T L (rdy h) K = wpS P (⟨.faddr 0 (.t 3), (some 7), none, []⟩ :: ⟨.load 1 false (.t 7), (some 8), none, []⟩ :: L19_2) T L (rdy h) K := rfl
def L19_4 : List AStep := ⟨.faddr 0 (.t 2), (some 5), none, []⟩ :: ⟨.load 1 false (.t 5), (some 6), none, []⟩ :: L19_3
theorem v19_4 : wpS P L19_4 T L (rdy h) K = wpS P (⟨.faddr 0 (.t 2), (some 5), none, []⟩ :: ⟨.load 1 false (.t 5), (some 6), none, []⟩ :: L19_3) T L (rdy h) K := rfl
def L19_5 : List AStep := [⟨.mov (.c (.bool false)), (some 4), none, []⟩]
theorem v19_5 : wpS P L19_5 T L (rdy h) K = wpS P ([⟨.mov (.c (.bool false)), (some 4), none, []⟩]) T L (rdy h) K := rfl
def L19_6 : List AStep := [⟨.call 87 [(.t 12), (.t 14)], (some 15), none, []⟩, ⟨.not (.t 15), (some 16), none, []⟩]
theorem v19_6 : wpS P L19_6 T L (rdy h) K = wpS P ([⟨.call 87 [(.t 12), (.t 14)], (some 15), none, []⟩, ⟨.not (.t 15), (some 16), none, []⟩]) T L (rdy h) K := rfl
def L19_7 : List AStep := ⟨.faddr 1 (.t 3), (some 13), none, []⟩ :: ⟨.load 1 false (.t 13), (some 14), none, []⟩ :: L19_6
theorem v19_7 : wpS P L19_7 T L (rdy h) K = wpS P (⟨.faddr 1 (.t 3), (some 13), none, []⟩ :: ⟨.load 1 false (.t 13), (some 14), none, []⟩ :: L19_6) T L (rdy h) K := rfl
def L19_8 : List AStep := ⟨.faddr 1 (.t 2), (some 11), none, []⟩ :: ⟨.load 1 false (.t 11), (some 12), none, []⟩ :: L19_7
theorem v19_8 : wpS P L19_8 T L (rdy h) K = wpS P (⟨.faddr 1 (.t 2), (some 11), none, []⟩ :: ⟨.load 1 false (.t 11), (some 12), none, []⟩ :: L19_7) T L (rdy h) K := rfl
def L19_9 : List AStep := [⟨.mov (.c (.bool false)), (some 4), none, []⟩]
theorem v19_9 : wpS P L19_9 T L (rdy h) K = wpS P ([⟨.mov (.c (.bool false)), (some 4), none, []⟩]) T L (rdy h) K := rfl
def L19_10 : List AStep := [⟨.mov (.c (.bool true)), (some 4), none, []⟩]
theorem v19_10 : wpS P L19_10 T L (rdy h) K = wpS P ([⟨.mov (.c (.bool true)), (some 4), none, []⟩]) T L (rdy h) K := rfl
def C19_0 : ACode := .seq (.reg L19_5) .ret
theorem u19_0 : wpC P C19_0 T L (rdy h) Q = wpC P (.seq (.reg L19_5) .ret) T L (rdy h) Q := rfl
def C19_1 : ACode := .cond (.t 10) C19_0 .skip
theorem u19_1 : wpC P C19_1 T L (rdy h) Q = wpC P (.cond (.t 10) C19_0 .skip) T L (rdy h) Q := rfl
def C19_2 : ACode := .seq (.reg L19_4) C19_1
theorem u19_2 : wpC P C19_2 T L (rdy h) Q = wpC P (.seq (.reg L19_4) C19_1) T L (rdy h) Q := rfl
def C19_3 : ACode := .seq (.reg L19_9) .ret
theorem u19_3 : wpC P C19_3 T L (rdy h) Q = wpC P (.seq (.reg L19_9) .ret) T L (rdy h) Q := rfl
def C19_4 : ACode := .cond (.t 16) C19_3 .skip
theorem u19_4 : wpC P C19_4 T L (rdy h) Q = wpC P (.cond (.t 16) C19_3 .skip) T L (rdy h) Q := rfl
def C19_5 : ACode := .seq (.reg L19_8) C19_4
theorem u19_5 : wpC P C19_5 T L (rdy h) Q = wpC P (.seq (.reg L19_8) C19_4) T L (rdy h) Q := rfl
def C19_6 : ACode := .seq (.reg L19_10) .ret
theorem u19_6 : wpC P C19_6 T L (rdy h) Q = wpC P (.seq (.reg L19_10) .ret) T L (rdy h) Q := rfl
def C19_7 : ACode := .seq C19_5 C19_6
theorem u19_7 : wpC P C19_7 T L (rdy h) Q = wpC P (.seq C19_5 C19_6) T L (rdy h) Q := rfl
def C19_8 : ACode := .seq C19_2 C19_7
theorem u19_8 : wpC P C19_8 T L (rdy h) Q = wpC P (.seq C19_2 C19_7) T L (rdy h) Q := rfl
def C19_9 : ACode := .seq (.reg L19_1) C19_8
theorem u19_9 : wpC P C19_9 T L (rdy h) Q = wpC P (.seq (.reg L19_1) C19_8) T L (rdy h) Q := rfl
def F19 : AFunc := ⟨17, [.tmp 4], C19_9⟩
theorem cF19 : compB Try.prog 19 = some F19 := by kernel_rfl
end
attribute [local go_sem ↓] u19_0 u19_1 u19_2 u19_3 u19_4 u19_5 u19_6 u19_7 u19_8 u19_9 v19_0 v19_1 v19_2 v19_3 v19_4 v19_5 v19_6 v19_7 v19_8 v19_9 v19_10
theorem c_eqFlat (f g : Flat) (pv nv pw nw : CV) (h : H) (hp : SlI h (.one pv) f.pl) (hq : SlP h (.one nv) f.nl) (kp : SlI h (.one pw) g.pl) (kq : SlP h (.one nw) g.nl) (h1 : f.pl.length ≤ big) (h2 : f.nl.length ≤ big) :
    bm Try.prog 19 [.agg [pv, nv], .agg [pw, nw]] h = some (ib (decide (f = g)), h) := by
  refine bm_eq cF19 ?_
  obtain ⟨fp, fn⟩ := f
  obtain ⟨gp, gn⟩ := g
  simp +contextual (maxSteps := 2000000) only [go_sem, Nat.reduceEqDiff, reduceCtorEq, Nat.reduceAdd, Nat.reduceLeDiff, F19, c_eqIntS _ _ _ _ _ hp kp h1, c_eqPairS _ _ _ _ _ hq kq h2, Flat.mk.injEq]
  try ((repeat' (first | refine And.intro ?_ ?_ | intro _)) <;> first | simp_all)
end Go.Proofs.Ytcbnihbilmlokaa.Am
