/- Contracts of the laws on lists whose elements hold slices: equal, marked, held. -/
import Derived.Test.YtnphlonhogcedaaDN
import Derived.Test.YtnphlonhogcedaaL1
import Derived.Test.YtnphlonhogcedaaL3
namespace Go.Proofs.Ytnphlonhogcedaa.Am
open Go
set_option maxRecDepth 100000
set_option maxHeartbeats 4000000
set_option linter.unusedSimpArgs false
set_option linter.unusedVariables false
attribute [local go_sem ↓] bv_t bv_c ev_t ev_c put_same put_ne put_none kill_at pro_at lb_same lb_ne start_zero start_succ wpC_seq wpC_reg wpC_cond wpC_block wpC_skip wpC_exit wpC_ret thenQ_normal thenQ_exit thenQ_ret inBlk_normal inBlk_exit inBlk_ret wpS_nil wpS_step wpS_again wpS_guard wpO_mov wpO_load wpO_faddr wpO_nilCheck wpO_pick wpO_build wpO_bin wpO_eqb wpO_eqst wpO_eqnil wpO_not wpO_conv wpO_bytesStr wpO_iaddr wpO_idxStr wpO_field wpO_extract wpO_len wpO_lenStr wpO_cap wpO_min wpO_slice wpO_sliceStr wpO_alloc wpO_box wpO_store wpO_call wpO_callv wpO_mkfn wpO_buildSlice wpO_mkslice wpO_append wpO_appz proA_nil proA_cons tmpX_nil tmpX_tmp tmpX_cell doneB_normal doneB_ret agK_cons agK_nil pureB_load results_one results_two results_nil resBs_cons resBs_nil resB_tmp resB_cell
attribute [local go_sem] kill_v kill_lp_ne kill_lp_same pro_v pro_lp_same pro_lp_ne av_v av_lp optB_some optX_some valX_eq ldX_lp ldX_v faX_lp faX_v ncX_lp ncX_ptr ncX_fn boxK_one boxK_agg stL_some stK_lp_one stK_lp_agg stK_v_one stK_v_agg proM_v proM_lp callG_mk callVG_mk callvK_fn fnG_mk ptrsA_nil ptrsA_cons callH_some whenA_true whenA_false guardH_tt guardH_ff guardH_tf guardH_ft guardH_undef agV_one agV_agg lenO_sl lenStrO_str notO_bool pickO_bool convO_int eqbO_bool eqnilO_sl extractO_tup capO_sl minO_int loadL_one loadL_all storeL_eq fillA_nil fillA_one fillA_agg nat_ge neg_ge nat_lt neg_lt buildO bin_add bin_sub bin_mul bin_eql bin_neq bin_lss bin_leq bin_gtr bin_geq str_eql str_neq str_lss str_leq str_gtr str_geq retK_some endK_mk gcK_same gcK_int gcK_bool tupO_one tupO_agg rdy_self ib ii Option.map_none Option.map_some Option.some.injEq exists_eq_left' exists_eq_left ne_eq not_false_eq_true if_true if_false List.map_cons List.map_nil List.getElem?_cons_zero List.getElem?_cons_succ List.length_cons List.length_nil List.take_succ_cons List.take_zero List.take_nil List.drop_succ_cons List.drop_zero List.drop_nil List.cons_append List.nil_append List.append_nil List.set_cons_zero List.set_cons_succ Nat.zero_add forall_const true_and and_true and_self Bool.false_eq_true false_implies true_implies implies_true Bool.not_true Bool.not_false Bool.not_eq_true' Bool.not_eq_false' beq_self_eq_true Bool.bne_true Bool.bne_false
attribute [local go_sem] lenI lenS lenP lenQ lenB lenL lenT encI_0 encS_0 encP_0 encP_1 encQ_0 encQ_1 encQ_2 encQ_3 encB_0 encB_1 encL_0 encL_1 encT_0 encT_1
attribute [local go_sem low] whenA_bool guardH_bool
attribute [local go_sem] lenC encC_0 encC_1 encC_2 encC_3
section
variable {P : Program} {T : Tb} {L : Lb} {h : H} {Q : PostC} {K : Post}
/-! laws.eqArg -/
def L185_0 : List AStep := [⟨.mov (.c (.bool false)), (some 4), none, []⟩]
theorem v185_0 : wpS P L185_0 T L (rdy h) K = wpS P ([⟨.mov (.c (.bool false)), (some 4), none, []⟩]) T L (rdy h) K := rfl
def L185_1 : List AStep := ⟨.box 36 (.t 0), (some 2), none, []⟩ :: ⟨.box 36 (.t 1), (some 3), none, []⟩ :: L185_0
theorem v185_1 : wpS P L185_1 T L (rdy h) K = wpS P (⟨.box 36 (.t 0), (some 2), none, []⟩ :: ⟨.box 36 (.t 1), (some 3), none, []⟩ :: L185_0) T L (rdy h) K := rfl
def L185_2 : List AStep := [⟨.bin .neq (.t 6) (.t 8), (some 9), none, []⟩]
theorem v185_2 : wpS P L185_2 T L (rdy h) K = wpS P ([⟨.bin .neq (.t 6) (.t 8), (some 9), none, []⟩]) T L (rdy h) K := rfl
def L185_3 : List AStep := ⟨.faddr 0 (.t 3), (some 7), none, []⟩ :: ⟨.load 1 false (.t 7), (some 8), none, []⟩ :: L185_2
theorem v185_3 : wpS P L185_3 T L (rdy h) K = wpS P (⟨.faddr 0 (.t 3), (some 7), none, []⟩ :: ⟨.load 1 false (.t 7), (some 8), none, []⟩ :: L185_2) T L (rdy h) K := rfl
def L185_4 : List AStep := ⟨.faddr 0 (.t 2), (some 5), none, []⟩ :: ⟨.load 1 false (.t 5), (some 6), none, []⟩ :: L185_3
theorem v185_4 : wpS P L185_4 T L (rdy h) K = wpS P (⟨.faddr 0 (.t 2), (some 5), none, []⟩ :: ⟨.load 1 false (.t 5), (some 6), none, []⟩ :: L185_3) T L (rdy h) K := rfl
def L185_5 : List AStep := [⟨.mov (.c (.bool false)), (some 4), none, []⟩]
theorem v185_5 : wpS P L185_5 T L (rdy h) K = wpS P ([⟨.mov (.c (.bool false)), (some 4), none, []⟩]) T L (rdy h) K := rfl
def L185_6 : List AStep := [⟨.bin .neq (.t 11) (.t 13), (some 14), none, []⟩]
theorem v185_6 : wpS P L185_6 T L (rdy h) K = wpS P ([⟨.bin .neq (.t 11) (.t 13), (some 14), none, []⟩]) T L (rdy h) K := rfl
def L185_7 : List AStep := ⟨.faddr 1 (.t 3), (some 12), none, []⟩ :: ⟨.load 1 false (.t 12), (some 13), none, []⟩ :: L185_6
theorem v185_7 : wpS P L185_7 T L (rdy h) K = wpS P (⟨.faddr 1 (.t 3), (some 12), none, []⟩ :: ⟨.load 1 false (.t 12), (some 13), none, []⟩ :: L185_6) T L (rdy h) K := rfl
def L185_8 : List AStep := ⟨.faddr 1 (.t 2), (some 10), none, []⟩ :: ⟨.load 1 false (.t 10), (some 11), none, []⟩ :: L185_7
theorem v185_8 : wpS P L185_8 T L (rdy h) K = wpS P (⟨.faddr 1 (.t 2), (some 10), none, []⟩ :: ⟨.load 1 false (.t 10), (some 11), none, []⟩ :: L185_7) T L (rdy h) K := rfl
def L185_9 : List AStep := [⟨.mov (.c (.bool false)), (some 4), none, []⟩]
theorem v185_9 : wpS P L185_9 T L (rdy h) K = wpS P ([⟨.mov (.c (.bool false)), (some 4), none, []⟩]) T L (rdy h) K := rfl
def L185_10 : List AStep := [⟨.call 110 [(.t 16), (.t 18)], (some 19), none, []⟩, ⟨.not (.t 19), (some 20), none, []⟩]
theorem v185_10 : wpS P L185_10 T L (rdy h) K = wpS P ([⟨.call 110 [(.t 16), (.t 18)], (some 19), none, []⟩, ⟨.not (.t 19), (some 20), none, []⟩]) T L (rdy h) K := rfl
def L185_11 : List AStep := ⟨.faddr 2 (.t 3), (some 17), none, []⟩ :: ⟨.load 1 false (.t 17), (some 18), none, []⟩ :: L185_10
theorem v185_11 : wpS P L185_11 T L (rdy h) K = wpS P (⟨.faddr 2 (.t 3), (some 17), none, []⟩ :: ⟨.load 1 false (.t 17), (some 18), none, []⟩ :: L185_10) T L (rdy h) K := rfl
def L185_12 : List AStep := ⟨.faddr 2 (.t 2), (some 15), none, []⟩ :: ⟨.load 1 false (.t 15), (some 16), none, []⟩ :: L185_11
theorem v185_12 : wpS P L185_12 T L (rdy h) K = wpS P (⟨.faddr 2 (.t 2), (some 15), none, []⟩ :: ⟨.load 1 false (.t 15), (some 16), none, []⟩ :: L185_11) T L (rdy h) K := rfl
def L185_13 : List AStep := [⟨.mov (.c (.bool false)), (some 4), none, []⟩]
theorem v185_13 : wpS P L185_13 T L (rdy h) K = wpS P ([⟨.mov (.c (.bool false)), (some 4), none, []⟩]) T L (rdy h) K := rfl
def L185_14 : List AStep := [⟨.call 111 [(.t 22), (.t 24)], (some 25), none, []⟩, ⟨.not (.t 25), (some 26), none, []⟩]
theorem v185_14 : wpS P L185_14 T L (rdy h) K = wpS P ([⟨.call 111 [(.t 22), (.t 24)], (some 25), none, []⟩, ⟨.not (.t 25), (some 26), none, []⟩]) T L (rdy h) K := rfl
def L185_15 : List AStep := ⟨.faddr 3 (.t 3), (some 23), none, []⟩ :: ⟨.load 1 false (.t 23), (some 24), none, []⟩ :: L185_14
theorem v185_15 : wpS P L185_15 T L (rdy h) K = wpS P (⟨.faddr 3 (.t 3), (some 23), none, []⟩ :: ⟨.load 1 false (.t 23), (some 24), none, []⟩ :: L185_14) T L (rdy h) K := rfl
def L185_16 : List AStep := ⟨.faddr 3 (.t 2), (some 21), none, []⟩ :: ⟨.load 1 false (.t 21), (some 22), none, []⟩ :: L185_15
theorem v185_16 : wpS P L185_16 T L (rdy h) K = wpS P (⟨.faddr 3 (.t 2), (some 21), none, []⟩ :: ⟨.load 1 false (.t 21), (some 22), none, []⟩ :: L185_15) T L (rdy h) K := rfl
def L185_17 : List AStep := [⟨.mov (.c (.bool false)), (some 4), none, []⟩]
theorem v185_17 : wpS P L185_17 T L (rdy h) K = wpS P ([⟨.mov (.c (.bool false)), (some 4), none, []⟩]) T L (rdy h) K := rfl
def L185_18 : List AStep := [⟨.mov (.c (.bool true)), (some 4), none, []⟩]
theorem v185_18 : wpS P L185_18 T L (rdy h) K = wpS P ([⟨.mov (.c (.bool true)), (some 4), none, []⟩]) T L (rdy h) K := rfl
def C185_0 : ACode := .seq (.reg L185_5) .ret
theorem u185_0 : wpC P C185_0 T L (rdy h) Q = wpC P (.seq (.reg L185_5) .ret) T L (rdy h) Q := rfl
def C185_1 : ACode := .cond (.t 9) C185_0 .skip
theorem u185_1 : wpC P C185_1 T L (rdy h) Q = wpC P (.cond (.t 9) C185_0 .skip) T L (rdy h) Q := rfl
def C185_2 : ACode := .seq (.reg L185_4) C185_1
theorem u185_2 : wpC P C185_2 T L (rdy h) Q = wpC P (.seq (.reg L185_4) C185_1) T L (rdy h) Q := rfl
def C185_3 : ACode := .seq (.reg L185_9) .ret
theorem u185_3 : wpC P C185_3 T L (rdy h) Q = wpC P (.seq (.reg L185_9) .ret) T L (rdy h) Q := rfl
def C185_4 : ACode := .cond (.t 14) C185_3 .skip
theorem u185_4 : wpC P C185_4 T L (rdy h) Q = wpC P (.cond (.t 14) C185_3 .skip) T L (rdy h) Q := rfl
def C185_5 : ACode := .seq (.reg L185_8) C185_4
theorem u185_5 : wpC P C185_5 T L (rdy h) Q = wpC P (.seq (.reg L185_8) C185_4) T L (rdy h) Q := rfl
def C185_6 : ACode := .seq (.reg L185_13) .ret
theorem u185_6 : wpC P C185_6 T L (rdy h) Q = wpC P (.seq (.reg L185_13) .ret) T L (rdy h) Q := rfl
def C185_7 : ACode := .cond (.t 20) C185_6 .skip
theorem u185_7 : wpC P C185_7 T L (rdy h) Q = wpC P (.cond (.t 20) C185_6 .skip) T L (rdy h) Q := rfl
def C185_8 : ACode := .seq (.reg L185_12) C185_7
theorem u185_8 : wpC P C185_8 T L (rdy h) Q = wpC P (.seq (.reg L185_12) C185_7) T L (rdy h) Q := rfl
def C185_9 : ACode := .seq (.reg L185_17) .ret
theorem u185_9 : wpC P C185_9 T L (rdy h) Q = wpC P (.seq (.reg L185_17) .ret) T L (rdy h) Q := rfl
def C185_10 : ACode := .cond (.t 26) C185_9 .skip
theorem u185_10 : wpC P C185_10 T L (rdy h) Q = wpC P (.cond (.t 26) C185_9 .skip) T L (rdy h) Q := rfl
def C185_11 : ACode := .seq (.reg L185_16) C185_10
theorem u185_11 : wpC P C185_11 T L (rdy h) Q = wpC P (.seq (.reg L185_16) C185_10) T L (rdy h) Q := rfl
def C185_12 : ACode := .seq (.reg L185_18) .ret
theorem u185_12 : wpC P C185_12 T L (rdy h) Q = wpC P (.seq (.reg L185_18) .ret) T L (rdy h) Q := rfl
def C185_13 : ACode := .seq C185_11 C185_12
theorem u185_13 : wpC P C185_13 T L (rdy h) Q = wpC P (.seq C185_11 C185_12) T L (rdy h) Q := rfl
def C185_14 : ACode := .seq C185_8 C185_13
theorem u185_14 : wpC P C185_14 T L (rdy h) Q = wpC P (.seq C185_8 C185_13) T L (rdy h) Q := rfl
def C185_15 : ACode := .seq C185_5 C185_14
theorem u185_15 : wpC P C185_15 T L (rdy h) Q = wpC P (.seq C185_5 C185_14) T L (rdy h) Q := rfl
def C185_16 : ACode := .seq C185_2 C185_15
theorem u185_16 : wpC P C185_16 T L (rdy h) Q = wpC P (.seq C185_2 C185_15) T L (rdy h) Q := rfl
def C185_17 : ACode := .seq (.reg L185_1) C185_16
theorem u185_17 : wpC P C185_17 T L (rdy h) Q = wpC P (.seq (.reg L185_1) C185_16) T L (rdy h) Q := rfl
def F185 : AFunc := ⟨27, [.tmp 4], C185_17⟩
theorem cF185 : compB Try.prog 185 = some F185 := by kernel_rfl
end
attribute [local go_sem ↓] u185_0 u185_1 u185_2 u185_3 u185_4 u185_5 u185_6 u185_7 u185_8 u185_9 u185_10 u185_11 u185_12 u185_13 u185_14 u185_15 u185_16 u185_17 v185_0 v185_1 v185_2 v185_3 v185_4 v185_5 v185_6 v185_7 v185_8 v185_9 v185_10 v185_11 v185_12 v185_13 v185_14 v185_15 v185_16 v185_17 v185_18
theorem c_eqArg (r q : RArg) (a b : Arg) (h : H) (x : AtC 3 86 h r a) (y : AtC 3 86 h q b) (k0 : a.list.length ≤ big) (k1 : a.pairs.length ≤ big) : bm Try.prog 185 [.agg (encC r), .agg (encC q)] h = some (ib (decide (a = b)), h) := by
  refine bm_eq cF185 ?_
  have e1 : encC r = [.int .i64 a.kind, .str a.name, r.lv, r.pv] := by simp only [encC, x.kind, x.name]
  have e2 : encC q = [.int .i64 b.kind, .str b.name, q.lv, q.pv] := by simp only [encC, y.kind, y.name]
  have ed : decide (a = b) = (decide (a.kind = b.kind) && (decide (a.name = b.name) && (decide (a.list = b.list) && decide (a.pairs = b.pairs)))) := by
    cases a
    cases b
    rw [Bool.eq_iff_iff]
    simp
  rw [e1, e2, ed]
  cases b0 : decide (a.kind = b.kind) with
  | false => simp +contextual (maxSteps := 2000000) only [go_sem, Nat.reduceEqDiff, reduceCtorEq, Nat.reduceAdd, Nat.reduceLeDiff, F185, c_eqIntS _ _ _ _ _ x.list y.list k0, c_eqPairS _ _ _ _ _ x.pairs y.pairs k1, b0, Bool.true_and, Bool.false_and]
  | true =>
  cases b1 : decide (a.name = b.name) with
  | false => simp +contextual (maxSteps := 2000000) only [go_sem, Nat.reduceEqDiff, reduceCtorEq, Nat.reduceAdd, Nat.reduceLeDiff, F185, c_eqIntS _ _ _ _ _ x.list y.list k0, c_eqPairS _ _ _ _ _ x.pairs y.pairs k1, b0, b1, Bool.true_and, Bool.false_and]
  | true =>
  cases b2 : decide (a.list = b.list) with
  | false => simp +contextual (maxSteps := 2000000) only [go_sem, Nat.reduceEqDiff, reduceCtorEq, Nat.reduceAdd, Nat.reduceLeDiff, F185, c_eqIntS _ _ _ _ _ x.list y.list k0, c_eqPairS _ _ _ _ _ x.pairs y.pairs k1, b0, b1, b2, Bool.true_and, Bool.false_and]
  | true =>
  cases b3 : decide (a.pairs = b.pairs) with
  | false => simp +contextual (maxSteps := 2000000) only [go_sem, Nat.reduceEqDiff, reduceCtorEq, Nat.reduceAdd, Nat.reduceLeDiff, F185, c_eqIntS _ _ _ _ _ x.list y.list k0, c_eqPairS _ _ _ _ _ x.pairs y.pairs k1, b0, b1, b2, b3, Bool.true_and, Bool.false_and]
  | true =>
  simp +contextual (maxSteps := 2000000) only [go_sem, Nat.reduceEqDiff, reduceCtorEq, Nat.reduceAdd, Nat.reduceLeDiff, F185, c_eqIntS _ _ _ _ _ x.list y.list k0, c_eqPairS _ _ _ _ _ x.pairs y.pairs k1, b0, b1, b2, b3, Bool.true_and]
section
variable {P : Program} {T : Tb} {L : Lb} {h : H} {Q : PostC} {K : Post}
/-! laws.eqArgS -/
def L109_0 : List AStep := [⟨.mov (.c (.bool false)), (some 4), none, []⟩]
theorem v109_0 : wpS P L109_0 T L (rdy h) K = wpS P ([⟨.mov (.c (.bool false)), (some 4), none, []⟩]) T L (rdy h) K := rfl
def L109_1 : List AStep := [⟨.bin .neq (.t 7) (.t 9), (some 10), none, []⟩]
theorem v109_1 : wpS P L109_1 T L (rdy h) K = wpS P ([⟨.bin .neq (.t 7) (.t 9), (some 10), none, []⟩]) T L (rdy h) K := rfl
def L109_2 : List AStep := ⟨.mov (.t 1), (some 8), none, []⟩ :: ⟨.len (.t 8), (some 9), none, []⟩ :: L109_1
theorem v109_2 : wpS P L109_2 T L (rdy h) K = wpS P (⟨.mov (.t 1), (some 8), none, []⟩ :: ⟨.len (.t 8), (some 9), none, []⟩ :: L109_1) T L (rdy h) K := rfl
def L109_3 : List AStep := ⟨.mov (.t 0), (some 6), none, []⟩ :: ⟨.len (.t 6), (some 7), none, []⟩ :: L109_2
theorem v109_3 : wpS P L109_3 T L (rdy h) K = wpS P (⟨.mov (.t 0), (some 6), none, []⟩ :: ⟨.len (.t 6), (some 7), none, []⟩ :: L109_2) T L (rdy h) K := rfl
def L109_4 : List AStep := [⟨.mov (.c (.bool false)), (some 4), none, []⟩]
theorem v109_4 : wpS P L109_4 T L (rdy h) K = wpS P ([⟨.mov (.c (.bool false)), (some 4), none, []⟩]) T L (rdy h) K := rfl
def L109_5 : List AStep := [⟨.mov (.c (.int .i64 0)), (some 5), none, []⟩]
theorem v109_5 : wpS P L109_5 T L (rdy h) K = wpS P ([⟨.mov (.c (.int .i64 0)), (some 5), none, []⟩]) T L (rdy h) K := rfl
def L109_6 : List AStep := [⟨.len (.t 12), (some 13), none, []⟩, ⟨.bin .lss (.t 11) (.t 13), (some 14), none, []⟩]
theorem v109_6 : wpS P L109_6 T L (rdy h) K = wpS P ([⟨.len (.t 12), (some 13), none, []⟩, ⟨.bin .lss (.t 11) (.t 13), (some 14), none, []⟩]) T L (rdy h) K := rfl
def L109_7 : List AStep := ⟨.mov (.t 5), (some 11), none, []⟩ :: ⟨.mov (.t 0), (some 12), none, []⟩ :: L109_6
theorem v109_7 : wpS P L109_7 T L (rdy h) K = wpS P (⟨.mov (.t 5), (some 11), none, []⟩ :: ⟨.mov (.t 0), (some 12), none, []⟩ :: L109_6) T L (rdy h) K := rfl
def L109_8 : List AStep := [⟨.call 185 [(.t 20), (.t 24)], (some 25), none, []⟩, ⟨.not (.t 25), (some 26), none, []⟩]
theorem v109_8 : wpS P L109_8 T L (rdy h) K = wpS P ([⟨.call 185 [(.t 20), (.t 24)], (some 25), none, []⟩, ⟨.not (.t 25), (some 26), none, []⟩]) T L (rdy h) K := rfl
def L109_9 : List AStep := ⟨.iaddr 4 (.t 21) (.t 22), (some 23), none, []⟩ :: ⟨.load 4 true (.t 23), (some 24), none, []⟩ :: L109_8
theorem v109_9 : wpS P L109_9 T L (rdy h) K = wpS P (⟨.iaddr 4 (.t 21) (.t 22), (some 23), none, []⟩ :: ⟨.load 4 true (.t 23), (some 24), none, []⟩ :: L109_8) T L (rdy h) K := rfl
def L109_10 : List AStep := ⟨.mov (.t 1), (some 21), none, []⟩ :: ⟨.mov (.t 5), (some 22), none, []⟩ :: L109_9
theorem v109_10 : wpS P L109_10 T L (rdy h) K = wpS P (⟨.mov (.t 1), (some 21), none, []⟩ :: ⟨.mov (.t 5), (some 22), none, []⟩ :: L109_9) T L (rdy h) K := rfl
def L109_11 : List AStep := ⟨.iaddr 4 (.t 17) (.t 18), (some 19), none, []⟩ :: ⟨.load 4 true (.t 19), (some 20), none, []⟩ :: L109_10
theorem v109_11 : wpS P L109_11 T L (rdy h) K = wpS P (⟨.iaddr 4 (.t 17) (.t 18), (some 19), none, []⟩ :: ⟨.load 4 true (.t 19), (some 20), none, []⟩ :: L109_10) T L (rdy h) K := rfl
def L109_12 : List AStep := ⟨.mov (.t 0), (some 17), none, []⟩ :: ⟨.mov (.t 5), (some 18), none, []⟩ :: L109_11
theorem v109_12 : wpS P L109_12 T L (rdy h) K = wpS P (⟨.mov (.t 0), (some 17), none, []⟩ :: ⟨.mov (.t 5), (some 18), none, []⟩ :: L109_11) T L (rdy h) K := rfl
def L109_13 : List AStep := [⟨.mov (.c (.bool false)), (some 4), none, []⟩]
theorem v109_13 : wpS P L109_13 T L (rdy h) K = wpS P ([⟨.mov (.c (.bool false)), (some 4), none, []⟩]) T L (rdy h) K := rfl
def L109_14 : List AStep := [⟨.mov (.t 16), (some 5), none, []⟩]
theorem v109_14 : wpS P L109_14 T L (rdy h) K = wpS P ([⟨.mov (.t 16), (some 5), none, []⟩]) T L (rdy h) K := rfl
def L109_15 : List AStep := ⟨.mov (.t 5), (some 15), none, []⟩ :: ⟨.bin .add (.t 15) (.c (.int .i64 1)), (some 16), none, []⟩ :: L109_14
theorem v109_15 : wpS P L109_15 T L (rdy h) K = wpS P (⟨.mov (.t 5), (some 15), none, []⟩ :: ⟨.bin .add (.t 15) (.c (.int .i64 1)), (some 16), none, []⟩ :: L109_14) T L (rdy h) K := rfl
def L109_16 : List AStep := [⟨.mov (.c (.bool true)), (some 4), none, []⟩]
theorem v109_16 : wpS P L109_16 T L (rdy h) K = wpS P ([⟨.mov (.c (.bool true)), (some 4), none, []⟩]) T L (rdy h) K := rfl
def C109_0 : ACode := .seq (.reg L109_4) .ret
theorem u109_0 : wpC P C109_0 T L (rdy h) Q = wpC P (.seq (.reg L109_4) .ret) T L (rdy h) Q := rfl
def C109_1 : ACode := .cond (.t 10) C109_0 .skip
theorem u109_1 : wpC P C109_1 T L (rdy h) Q = wpC P (.cond (.t 10) C109_0 .skip) T L (rdy h) Q := rfl
def C109_2 : ACode := .seq (.reg L109_3) C109_1
theorem u109_2 : wpC P C109_2 T L (rdy h) Q = wpC P (.seq (.reg L109_3) C109_1) T L (rdy h) Q := rfl
def C109_3 : ACode := .cond (.t 14) .skip (.exit 0)
theorem u109_3 : wpC P C109_3 T L (rdy h) Q = wpC P (.cond (.t 14) .skip (.exit 0)) T L (rdy h) Q := rfl
def C109_4 : ACode := .seq (.reg L109_7) C109_3
theorem u109_4 : wpC P C109_4 T L (rdy h) Q = wpC P (.seq (.reg L109_7) C109_3) T L (rdy h) Q := rfl
def C109_5 : ACode := .seq (.reg L109_13) .ret
theorem u109_5 : wpC P C109_5 T L (rdy h) Q = wpC P (.seq (.reg L109_13) .ret) T L (rdy h) Q := rfl
def C109_6 : ACode := .cond (.t 26) C109_5 .skip
theorem u109_6 : wpC P C109_6 T L (rdy h) Q = wpC P (.cond (.t 26) C109_5 .skip) T L (rdy h) Q := rfl
def C109_7 : ACode := .seq (.reg L109_12) C109_6
theorem u109_7 : wpC P C109_7 T L (rdy h) Q = wpC P (.seq (.reg L109_12) C109_6) T L (rdy h) Q := rfl
def C109_8 : ACode := .block 1 C109_7
theorem u109_8 : wpC P C109_8 T L (rdy h) Q = wpC P (.block 1 C109_7) T L (rdy h) Q := rfl
def C109_9 : ACode := .seq C109_8 (.reg L109_15)
theorem u109_9 : wpC P C109_9 T L (rdy h) Q = wpC P (.seq C109_8 (.reg L109_15)) T L (rdy h) Q := rfl
def C109_10 : ACode := .seq C109_4 C109_9
theorem u109_10 : wpC P C109_10 T L (rdy h) Q = wpC P (.seq C109_4 C109_9) T L (rdy h) Q := rfl
def C109_11 : ACode := .block 0 (.loop C109_10)
theorem u109_11 : wpC P C109_11 T L (rdy h) Q = wpC P (.block 0 (.loop C109_10)) T L (rdy h) Q := rfl
def C109_12 : ACode := .seq (.reg L109_5) C109_11
theorem u109_12 : wpC P C109_12 T L (rdy h) Q = wpC P (.seq (.reg L109_5) C109_11) T L (rdy h) Q := rfl
def C109_13 : ACode := .seq (.reg L109_16) .ret
theorem u109_13 : wpC P C109_13 T L (rdy h) Q = wpC P (.seq (.reg L109_16) .ret) T L (rdy h) Q := rfl
def C109_14 : ACode := .seq C109_12 C109_13
theorem u109_14 : wpC P C109_14 T L (rdy h) Q = wpC P (.seq C109_12 C109_13) T L (rdy h) Q := rfl
def C109_15 : ACode := .seq C109_2 C109_14
theorem u109_15 : wpC P C109_15 T L (rdy h) Q = wpC P (.seq C109_2 C109_14) T L (rdy h) Q := rfl
def C109_16 : ACode := .seq (.reg L109_0) C109_15
theorem u109_16 : wpC P C109_16 T L (rdy h) Q = wpC P (.seq (.reg L109_0) C109_15) T L (rdy h) Q := rfl
def F109 : AFunc := ⟨27, [.tmp 4], C109_16⟩
theorem cF109 : compB Try.prog 109 = some F109 := by kernel_rfl
end
attribute [local go_sem ↓] u109_0 u109_1 u109_2 u109_3 u109_4 u109_5 u109_6 u109_7 u109_8 u109_9 u109_10 u109_11 u109_12 u109_13 u109_14 u109_15 u109_16 v109_0 v109_1 v109_2 v109_3 v109_4 v109_5 v109_6 v109_7 v109_8 v109_9 v109_10 v109_11 v109_12 v109_13 v109_14 v109_15 v109_16
theorem c_eqArgS (l m : List Arg) (v w : CV) (h : H) (hl : SlC h v l) (hm : SlC h w m) (hn : miniC l) : bm Try.prog 109 [.one v, .one w] h = some (ib (decide (l = m)), h) := by
  refine bm_eq cF109 ?_
  obtain ⟨rs, x⟩ := hl.ex
  obtain ⟨qs, y⟩ := hm.ex
  have len1 := x.out.len
  have len2 := y.out.len
  rw [x.len] at len1
  rw [y.len] at len2
  by_cases hlen : l.length = m.length
  case neg =>
    have e1 : decide ((l.length : Int) = (m.length : Int)) = false := decide_eq_false (by omega)
    simp +contextual (maxSteps := 2000000) only [go_sem, Nat.reduceEqDiff, reduceCtorEq, Nat.reduceAdd, Nat.reduceLeDiff, F109, len1, len2, e1]
    rw [ne_len e1]
  have e1 : decide ((l.length : Int) = (m.length : Int)) = true := decide_eq_true (by omega)
  simp +contextual (maxSteps := 2000000) only [go_sem, Nat.reduceEqDiff, reduceCtorEq, Nat.reduceAdd, Nat.reduceLeDiff, F109, len1, len2, e1]
  refine wpC_loop (fun i T L h' => h' = h ∧ T 0 = .v (.one v) ∧ T 1 = .v (.one w) ∧ T 5 = .v (.one (.int .i64 i)) ∧ Upto (eqAt l m) i) l.length ?_ ?_ (Nat.zero_le _) ?_
  · rintro i T L h' hi ⟨rfl, t0, t1, t5, hu⟩
    have him : i < m.length := by omega
    have hi1 : i < rs.length := by rw [x.len]; exact hi
    have hi2 : i < qs.length := by rw [y.len]; exact him
    have e2 := eqAt_eq hi him
    have hw1 := x.out.whole hi1
    have hw2 := y.out.whole hi2
    have ee := c_eqArg rs[i] qs[i] _ _ h' (x.el i hi1) (y.el i hi2) (by rw [getC_eq hi]; exact Nat.le_trans (hn.list _ (List.getElem_mem hi)) (by decide)) (by rw [getC_eq hi]; exact Nat.le_trans (hn.pairs _ (List.getElem_mem hi)) (by decide))
    rw [getC_eq hi, getC_eq him] at ee
    simp +contextual (maxSteps := 2000000) only [go_sem, Nat.reduceEqDiff, reduceCtorEq, Nat.reduceAdd, Nat.reduceLeDiff, t0, t1, t5, len1, len2, x.out.iaddr hi1, y.out.iaddr hi2, hw1, hw2, ee, lt_true hi]
    (repeat' (first | refine And.intro ?_ ?_ | intro _)) <;> first | rfl | rw [wrap_next hi (Nat.lt_of_le_of_lt hn.len (by decide))] | (refine hu.next ?_; rw [e2]; (simp_all; done)) | (rw [ne_at (l := l) (m := m) (i := i)]; rw [e2]; (simp_all; done))
  · rintro T L h' ⟨rfl, t0, t1, t5, hu⟩
    simp +contextual (maxSteps := 2000000) only [go_sem, Nat.reduceEqDiff, reduceCtorEq, Nat.reduceAdd, Nat.reduceLeDiff, t0, t1, t5, len1, len2, lt_false, decide_eq_true (eq_of_upto hlen hu)]
  · simp +contextual (maxSteps := 2000000) only [go_sem, Nat.reduceEqDiff, reduceCtorEq, Nat.reduceAdd, Nat.reduceLeDiff]
    (repeat' (first | refine And.intro ?_ ?_ | intro _)) <;> first | rfl | exact Upto.zero
section
variable {P : Program} {T : Tb} {L : Lb} {h : H} {Q : PostC} {K : Post}
/-! laws.markArgS -/
def L114_0 : List AStep := [⟨.mov (.c (.int .i64 0)), (some 4), none, []⟩]
theorem v114_0 : wpS P L114_0 T L (rdy h) K = wpS P ([⟨.mov (.c (.int .i64 0)), (some 4), none, []⟩]) T L (rdy h) K := rfl
def L114_1 : List AStep := [⟨.mov (.c (.int .i64 0)), (some 5), none, []⟩]
theorem v114_1 : wpS P L114_1 T L (rdy h) K = wpS P ([⟨.mov (.c (.int .i64 0)), (some 5), none, []⟩]) T L (rdy h) K := rfl
def L114_2 : List AStep := [⟨.len (.t 7), (some 8), none, []⟩, ⟨.bin .lss (.t 6) (.t 8), (some 9), none, []⟩]
theorem v114_2 : wpS P L114_2 T L (rdy h) K = wpS P ([⟨.len (.t 7), (some 8), none, []⟩, ⟨.bin .lss (.t 6) (.t 8), (some 9), none, []⟩]) T L (rdy h) K := rfl
def L114_3 : List AStep := ⟨.mov (.t 5), (some 6), none, []⟩ :: ⟨.mov (.t 0), (some 7), none, []⟩ :: L114_2
theorem v114_3 : wpS P L114_3 T L (rdy h) K = wpS P (⟨.mov (.t 5), (some 6), none, []⟩ :: ⟨.mov (.t 0), (some 7), none, []⟩ :: L114_2) T L (rdy h) K := rfl
def L114_4 : List AStep := [⟨.faddr 0 (.t 15), (some 16), none, []⟩, ⟨.store 1 (.t 16) (.t 14), none, none, []⟩]
theorem v114_4 : wpS P L114_4 T L (rdy h) K = wpS P ([⟨.faddr 0 (.t 15), (some 16), none, []⟩, ⟨.store 1 (.t 16) (.t 14), none, none, []⟩]) T L (rdy h) K := rfl
def L114_5 : List AStep := ⟨.mov (.t 1), (some 14), none, []⟩ :: ⟨.iaddr 4 (.t 12) (.t 13), (some 15), none, []⟩ :: L114_4
theorem v114_5 : wpS P L114_5 T L (rdy h) K = wpS P (⟨.mov (.t 1), (some 14), none, []⟩ :: ⟨.iaddr 4 (.t 12) (.t 13), (some 15), none, []⟩ :: L114_4) T L (rdy h) K := rfl
def L114_6 : List AStep := ⟨.mov (.t 0), (some 12), none, []⟩ :: ⟨.mov (.t 5), (some 13), none, []⟩ :: L114_5
theorem v114_6 : wpS P L114_6 T L (rdy h) K = wpS P (⟨.mov (.t 0), (some 12), none, []⟩ :: ⟨.mov (.t 5), (some 13), none, []⟩ :: L114_5) T L (rdy h) K := rfl
def L114_7 : List AStep := [⟨.mov (.t 18), (some 1), none, []⟩]
theorem v114_7 : wpS P L114_7 T L (rdy h) K = wpS P ([⟨.mov (.t 18), (some 1), none, []⟩]) T L (rdy h) K := rfl
def L114_8 : List AStep := ⟨.mov (.t 1), (some 17), none, []⟩ :: ⟨.bin .add (.t 17) (.c (.int .i64 1)), (some 18), none, []⟩ :: L114_7
theorem v114_8 : wpS P L114_8 T L (rdy h) K = wpS P (⟨.mov (.t 1), (some 17), none, []⟩ :: ⟨.bin .add (.t 17) (.c (.int .i64 1)), (some 18), none, []⟩ :: L114_7) T L (rdy h) K := rfl
def L114_9 : List AStep := [⟨.store 1 (.t 24) (.t 22), none, none, []⟩]
theorem v114_9 : wpS P L114_9 T L (rdy h) K = wpS P ([⟨.store 1 (.t 24) (.t 22), none, none, []⟩]) T L (rdy h) K := rfl
def L114_10 : List AStep := ⟨.iaddr 4 (.t 19) (.t 20), (some 23), none, []⟩ :: ⟨.faddr 1 (.t 23), (some 24), none, []⟩ :: L114_9
theorem v114_10 : wpS P L114_10 T L (rdy h) K = wpS P (⟨.iaddr 4 (.t 19) (.t 20), (some 23), none, []⟩ :: ⟨.faddr 1 (.t 23), (some 24), none, []⟩ :: L114_9) T L (rdy h) K := rfl
def L114_11 : List AStep := ⟨.mov (.t 1), (some 21), none, []⟩ :: ⟨.call 143 [(.t 21)], (some 22), none, []⟩ :: L114_10
theorem v114_11 : wpS P L114_11 T L (rdy h) K = wpS P (⟨.mov (.t 1), (some 21), none, []⟩ :: ⟨.call 143 [(.t 21)], (some 22), none, []⟩ :: L114_10) T L (rdy h) K := rfl
def L114_12 : List AStep := ⟨.mov (.t 0), (some 19), none, []⟩ :: ⟨.mov (.t 5), (some 20), none, []⟩ :: L114_11
theorem v114_12 : wpS P L114_12 T L (rdy h) K = wpS P (⟨.mov (.t 0), (some 19), none, []⟩ :: ⟨.mov (.t 5), (some 20), none, []⟩ :: L114_11) T L (rdy h) K := rfl
def L114_13 : List AStep := [⟨.mov (.t 26), (some 1), none, []⟩]
theorem v114_13 : wpS P L114_13 T L (rdy h) K = wpS P ([⟨.mov (.t 26), (some 1), none, []⟩]) T L (rdy h) K := rfl
def L114_14 : List AStep := ⟨.mov (.t 1), (some 25), none, []⟩ :: ⟨.bin .add (.t 25) (.c (.int .i64 1)), (some 26), none, []⟩ :: L114_13
theorem v114_14 : wpS P L114_14 T L (rdy h) K = wpS P (⟨.mov (.t 1), (some 25), none, []⟩ :: ⟨.bin .add (.t 25) (.c (.int .i64 1)), (some 26), none, []⟩ :: L114_13) T L (rdy h) K := rfl
def L114_15 : List AStep := [⟨.call 112 [(.t 31), (.t 32)], (some 33), none, []⟩, ⟨.mov (.t 33), (some 1), none, []⟩]
theorem v114_15 : wpS P L114_15 T L (rdy h) K = wpS P ([⟨.call 112 [(.t 31), (.t 32)], (some 33), none, []⟩, ⟨.mov (.t 33), (some 1), none, []⟩]) T L (rdy h) K := rfl
def L114_16 : List AStep := ⟨.load 1 false (.t 30), (some 31), none, []⟩ :: ⟨.mov (.t 1), (some 32), none, []⟩ :: L114_15
theorem v114_16 : wpS P L114_16 T L (rdy h) K = wpS P (⟨.load 1 false (.t 30), (some 31), none, []⟩ :: ⟨.mov (.t 1), (some 32), none, []⟩ :: L114_15) T L (rdy h) K := rfl
def L114_17 : List AStep := ⟨.iaddr 4 (.t 27) (.t 28), (some 29), none, []⟩ :: ⟨.faddr 2 (.t 29), (some 30), none, []⟩ :: L114_16
theorem v114_17 : wpS P L114_17 T L (rdy h) K = wpS P (⟨.iaddr 4 (.t 27) (.t 28), (some 29), none, []⟩ :: ⟨.faddr 2 (.t 29), (some 30), none, []⟩ :: L114_16) T L (rdy h) K := rfl
def L114_18 : List AStep := ⟨.mov (.t 0), (some 27), none, []⟩ :: ⟨.mov (.t 5), (some 28), none, []⟩ :: L114_17
theorem v114_18 : wpS P L114_18 T L (rdy h) K = wpS P (⟨.mov (.t 0), (some 27), none, []⟩ :: ⟨.mov (.t 5), (some 28), none, []⟩ :: L114_17) T L (rdy h) K := rfl
def L114_19 : List AStep := [⟨.call 113 [(.t 38), (.t 39)], (some 40), none, []⟩, ⟨.mov (.t 40), (some 1), none, []⟩]
theorem v114_19 : wpS P L114_19 T L (rdy h) K = wpS P ([⟨.call 113 [(.t 38), (.t 39)], (some 40), none, []⟩, ⟨.mov (.t 40), (some 1), none, []⟩]) T L (rdy h) K := rfl
def L114_20 : List AStep := ⟨.load 1 false (.t 37), (some 38), none, []⟩ :: ⟨.mov (.t 1), (some 39), none, []⟩ :: L114_19
theorem v114_20 : wpS P L114_20 T L (rdy h) K = wpS P (⟨.load 1 false (.t 37), (some 38), none, []⟩ :: ⟨.mov (.t 1), (some 39), none, []⟩ :: L114_19) T L (rdy h) K := rfl
def L114_21 : List AStep := ⟨.iaddr 4 (.t 34) (.t 35), (some 36), none, []⟩ :: ⟨.faddr 3 (.t 36), (some 37), none, []⟩ :: L114_20
theorem v114_21 : wpS P L114_21 T L (rdy h) K = wpS P (⟨.iaddr 4 (.t 34) (.t 35), (some 36), none, []⟩ :: ⟨.faddr 3 (.t 36), (some 37), none, []⟩ :: L114_20) T L (rdy h) K := rfl
def L114_22 : List AStep := ⟨.mov (.t 0), (some 34), none, []⟩ :: ⟨.mov (.t 5), (some 35), none, []⟩ :: L114_21
theorem v114_22 : wpS P L114_22 T L (rdy h) K = wpS P (⟨.mov (.t 0), (some 34), none, []⟩ :: ⟨.mov (.t 5), (some 35), none, []⟩ :: L114_21) T L (rdy h) K := rfl
def L114_23 : List AStep := [⟨.mov (.t 11), (some 5), none, []⟩]
theorem v114_23 : wpS P L114_23 T L (rdy h) K = wpS P ([⟨.mov (.t 11), (some 5), none, []⟩]) T L (rdy h) K := rfl
def L114_24 : List AStep := ⟨.mov (.t 5), (some 10), none, []⟩ :: ⟨.bin .add (.t 10) (.c (.int .i64 1)), (some 11), none, []⟩ :: L114_23
theorem v114_24 : wpS P L114_24 T L (rdy h) K = wpS P (⟨.mov (.t 5), (some 10), none, []⟩ :: ⟨.bin .add (.t 10) (.c (.int .i64 1)), (some 11), none, []⟩ :: L114_23) T L (rdy h) K := rfl
def L114_25 : List AStep := [⟨.mov (.t 1), (some 41), none, []⟩, ⟨.mov (.t 41), (some 4), none, []⟩]
theorem v114_25 : wpS P L114_25 T L (rdy h) K = wpS P ([⟨.mov (.t 1), (some 41), none, []⟩, ⟨.mov (.t 41), (some 4), none, []⟩]) T L (rdy h) K := rfl
def C114_0 : ACode := .cond (.t 9) .skip (.exit 0)
theorem u114_0 : wpC P C114_0 T L (rdy h) Q = wpC P (.cond (.t 9) .skip (.exit 0)) T L (rdy h) Q := rfl
def C114_1 : ACode := .seq (.reg L114_3) C114_0
theorem u114_1 : wpC P C114_1 T L (rdy h) Q = wpC P (.seq (.reg L114_3) C114_0) T L (rdy h) Q := rfl
def C114_2 : ACode := .seq (.reg L114_18) (.reg L114_22)
theorem u114_2 : wpC P C114_2 T L (rdy h) Q = wpC P (.seq (.reg L114_18) (.reg L114_22)) T L (rdy h) Q := rfl
def C114_3 : ACode := .seq (.reg L114_14) C114_2
theorem u114_3 : wpC P C114_3 T L (rdy h) Q = wpC P (.seq (.reg L114_14) C114_2) T L (rdy h) Q := rfl
def C114_4 : ACode := .seq (.reg L114_12) C114_3
theorem u114_4 : wpC P C114_4 T L (rdy h) Q = wpC P (.seq (.reg L114_12) C114_3) T L (rdy h) Q := rfl
def C114_5 : ACode := .seq (.reg L114_8) C114_4
theorem u114_5 : wpC P C114_5 T L (rdy h) Q = wpC P (.seq (.reg L114_8) C114_4) T L (rdy h) Q := rfl
def C114_6 : ACode := .seq (.reg L114_6) C114_5
theorem u114_6 : wpC P C114_6 T L (rdy h) Q = wpC P (.seq (.reg L114_6) C114_5) T L (rdy h) Q := rfl
def C114_7 : ACode := .block 1 C114_6
theorem u114_7 : wpC P C114_7 T L (rdy h) Q = wpC P (.block 1 C114_6) T L (rdy h) Q := rfl
def C114_8 : ACode := .seq C114_7 (.reg L114_24)
theorem u114_8 : wpC P C114_8 T L (rdy h) Q = wpC P (.seq C114_7 (.reg L114_24)) T L (rdy h) Q := rfl
def C114_9 : ACode := .seq C114_1 C114_8
theorem u114_9 : wpC P C114_9 T L (rdy h) Q = wpC P (.seq C114_1 C114_8) T L (rdy h) Q := rfl
def C114_10 : ACode := .block 0 (.loop C114_9)
theorem u114_10 : wpC P C114_10 T L (rdy h) Q = wpC P (.block 0 (.loop C114_9)) T L (rdy h) Q := rfl
def C114_11 : ACode := .seq (.reg L114_1) C114_10
theorem u114_11 : wpC P C114_11 T L (rdy h) Q = wpC P (.seq (.reg L114_1) C114_10) T L (rdy h) Q := rfl
def C114_12 : ACode := .seq (.reg L114_25) .ret
theorem u114_12 : wpC P C114_12 T L (rdy h) Q = wpC P (.seq (.reg L114_25) .ret) T L (rdy h) Q := rfl
def C114_13 : ACode := .seq C114_11 C114_12
theorem u114_13 : wpC P C114_13 T L (rdy h) Q = wpC P (.seq C114_11 C114_12) T L (rdy h) Q := rfl
def C114_14 : ACode := .seq (.reg L114_0) C114_13
theorem u114_14 : wpC P C114_14 T L (rdy h) Q = wpC P (.seq (.reg L114_0) C114_13) T L (rdy h) Q := rfl
def F114 : AFunc := ⟨42, [.tmp 4], C114_14⟩
theorem cF114 : compB Try.prog 114 = some F114 := by kernel_rfl
end
attribute [local go_sem ↓] u114_0 u114_1 u114_2 u114_3 u114_4 u114_5 u114_6 u114_7 u114_8 u114_9 u114_10 u114_11 u114_12 u114_13 u114_14 v114_0 v114_1 v114_2 v114_3 v114_4 v114_5 v114_6 v114_7 v114_8 v114_9 v114_10 v114_11 v114_12 v114_13 v114_14 v114_15 v114_16 v114_17 v114_18 v114_19 v114_20 v114_21 v114_22 v114_23 v114_24 v114_25
theorem c_markArgS (l : List Arg) (v : CV) (rs : List RArg) (k : Int) (h0 hb h : H) {l0 : List Arg} (hl : NwC h0 h v rs l) (ho : NwC h0 hb v rs l0) (g : Grow h0 h) (k1 : 0 ≤ k) (k2 : k ≤ 2 ^ 32) (hn : miniC l) :
    callK (bm Try.prog 114 [.one v, .one (.int .i64 k)] h) fun r h' => r = ii (k + (cellsC l : Nat)) ∧ Grow h0 h' ∧ SlC h' v (mkC k l) ∧ Mid h0.n hb.n h h' ∧ (Grow h h' → SlC h v (mkC k l)) := by
  refine bm_of cF114 ?_
  simp +contextual (maxSteps := 2000000) only [go_sem, Nat.reduceEqDiff, reduceCtorEq, Nat.reduceAdd, Nat.reduceLeDiff, F114]
  refine wpC_loop (fun i T L h' => Grow h0 h' ∧ Mid h0.n hb.n h h' ∧ T 0 = .v (.one v) ∧ T 1 = .v (.one (.int .i64 (k + ((wsum cellsEC l i : Nat) : Int)))) ∧ T 5 = .v (.one (.int .i64 i)) ∧ ∃ rs2 : List RArg, (∀ j (hj : j < rs.length) (hj2 : j < rs2.length), rs2[j].lv = rs[j].lv ∧ rs2[j].pv = rs[j].pv) ∧ OwC h0 h' v rs2 l.length (mixC k l i)) l.length ?_ ?_ (Nat.zero_le _) ?_
  · rintro i T L h' hi ⟨g, M, t0, t1, t5, rs2, hsame, x⟩
    have hi2 : i < rs2.length := by rw [x.len]; exact hi
    have hi1 : i < rs.length := by rw [ho.out.len.trans (ho.out.len.symm.trans hl.out.len)]; exact hi
    have hsm := hsame i hi1 hi2
    have hlen := x.out.length
    rw [x.len] at hlen
    have hws : wsum cellsEC l (i + 1) ≤ cellsC l := wsum_le (by omega)
    have hwn := wsum_next (f := cellsEC) hi
    have hcl := hn.cells
    have hzlv := hn.list _ (List.getElem_mem hi)
    have hzpv := hn.pairs _ (List.getElem_mem hi)
    have hfi := mixC_at (k := k) hi
    have hel := x.el i hi2
    rw [hfi] at hel
    have wr1 : IntKind.i64.wrap ((k + ((wsum cellsEC l i : Nat) : Int)) + 1) = ((k + ((wsum cellsEC l i : Nat) : Int)) + 1) := (i64_wrap (by omega) (by omega)).trans (by omega)
    have wr2 : IntKind.i64.wrap (((k + ((wsum cellsEC l i : Nat) : Int)) + 1) + 1) = ((k + ((wsum cellsEC l i : Nat) : Int)) + 2) := (i64_wrap (by omega) (by omega)).trans (by omega)
    have ia0 := (x.out).iaddr (i := i) (by first | exact hi2 | (simp only [List.length_set]; exact hi2)) (kd := .i64)
    simp +contextual (maxSteps := 2000000) only [go_sem, Nat.reduceEqDiff, reduceCtorEq, Nat.reduceAdd, Nat.reduceLeDiff, t0, t1, t5, hlen, lt_true hi, wr1, wr2, c_markText ((k + ((wsum cellsEC l i : Nat) : Int)) + 1) _ (by omega), ia0]
    refine wp_set (x := (⟨(k + ((wsum cellsEC l i : Nat) : Int)), rs2[i].name, rs2[i].lv, rs2[i].pv⟩ : RArg)) (off := 0) (vs := [.int .i64 (k + ((wsum cellsEC l i : Nat) : Int))]) lenC (x.out) (by first | exact hi2 | (simp only [List.length_set]; exact hi2)) rfl (by simp [encC, List.getElem_set_self]) (Nat.le_of_ble_eq_true rfl) g ?_
    intro ha0 ga0 na0 sa0
    have ia1 := (na0).iaddr (i := i) (by first | exact hi2 | (simp only [List.length_set]; exact hi2)) (kd := .i64)
    simp +contextual (maxSteps := 2000000) only [go_sem, Nat.reduceEqDiff, reduceCtorEq, Nat.reduceAdd, Nat.reduceLeDiff, t0, t1, t5, hlen, lt_true hi, wr1, wr2, c_markText ((k + ((wsum cellsEC l i : Nat) : Int)) + 1) _ (by omega), ia1]
    refine wp_set (x := (⟨(k + ((wsum cellsEC l i : Nat) : Int)), (mtxt ((k + ((wsum cellsEC l i : Nat) : Int)) + 1)), rs2[i].lv, rs2[i].pv⟩ : RArg)) (off := 1) (vs := [.str (mtxt ((k + ((wsum cellsEC l i : Nat) : Int)) + 1))]) lenC (na0) (by first | exact hi2 | (simp only [List.length_set]; exact hi2)) rfl (by simp [encC, List.getElem_set_self]) (Nat.le_of_ble_eq_true rfl) ga0 ?_
    intro ha1 ga1 na1 sa1
    rw [List.set_set] at na1
    have o0 : OwC h0 ha1 v _ _ (updC (mixC k l i) i (⟨(k + ((wsum cellsEC l i : Nat) : Int)), (mtxt ((k + ((wsum cellsEC l i : Nat) : Int)) + 1)), l[i].list, l[i].pairs⟩ : Arg)) := x.set hi2 (r := ⟨(k + ((wsum cellsEC l i : Nat) : Int)), (mtxt ((k + ((wsum cellsEC l i : Nat) : Int)) + 1)), rs2[i].lv, rs2[i].pv⟩) (a := (⟨(k + ((wsum cellsEC l i : Nat) : Int)), (mtxt ((k + ((wsum cellsEC l i : Nat) : Int)) + 1)), l[i].list, l[i].pairs⟩ : Arg)) na1 (sa0.trans sa1) rfl rfl rfl (by rw [hfi]) rfl (by rw [hfi])
    have M0 := M.trans (ho.out.out.mid (sa0.trans sa1))
    have hi3 : i < (rs2.set i ⟨(k + ((wsum cellsEC l i : Nat) : Int)), (mtxt ((k + ((wsum cellsEC l i : Nat) : Int)) + 1)), rs2[i].lv, rs2[i].pv⟩).length := by simpa using hi2
    have hr3 : (rs2.set i ⟨(k + ((wsum cellsEC l i : Nat) : Int)), (mtxt ((k + ((wsum cellsEC l i : Nat) : Int)) + 1)), rs2[i].lv, rs2[i].pv⟩)[i] = ⟨(k + ((wsum cellsEC l i : Nat) : Int)), (mtxt ((k + ((wsum cellsEC l i : Nat) : Int)) + 1)), rs2[i].lv, rs2[i].pv⟩ := List.getElem_set_self _
    have f0 : updC (mixC k l i) i (⟨(k + ((wsum cellsEC l i : Nat) : Int)), (mtxt ((k + ((wsum cellsEC l i : Nat) : Int)) + 1)), l[i].list, l[i].pairs⟩ : Arg) i = (⟨(k + ((wsum cellsEC l i : Nat) : Int)), (mtxt ((k + ((wsum cellsEC l i : Nat) : Int)) + 1)), l[i].list, l[i].pairs⟩ : Arg) := updC_at
    have ib0 := o0.out.iaddr hi3 (kd := .i64)
    have e0 := o0.el i hi3
    rw [f0] at e0
    rw [hr3] at e0
    have hq0 := (o0.out.sl lenC).fieldO (off := 2) hi3 (by omega)
    rw [hr3] at hq0
    simp +contextual (maxSteps := 2000000) only [go_sem, Nat.reduceEqDiff, reduceCtorEq, Nat.reduceAdd, Nat.reduceLeDiff, t0, t1, t5, hlen, lt_true hi, wr1, wr2, c_markText ((k + ((wsum cellsEC l i : Nat) : Int)) + 1) _ (by omega), ib0, hq0]
    refine wp_call (c_markIntS l[i].list (.one rs2[i].lv) ((k + ((wsum cellsEC l i : Nat) : Int)) + 2) h0 ha1 e0.list ga1 (by omega) (by omega) (by have := hn.list _ (List.getElem_mem hi); omega)) ?_
    rintro r hc0 ⟨rfl, gc0, nc0, sc0⟩
    have o1 : OwC h0 hc0 v (rs2.set i ⟨(k + ((wsum cellsEC l i : Nat) : Int)), (mtxt ((k + ((wsum cellsEC l i : Nat) : Int)) + 1)), rs2[i].lv, rs2[i].pv⟩) l.length (updC (updC (mixC k l i) i (⟨(k + ((wsum cellsEC l i : Nat) : Int)), (mtxt ((k + ((wsum cellsEC l i : Nat) : Int)) + 1)), l[i].list, l[i].pairs⟩ : Arg)) i (⟨(k + ((wsum cellsEC l i : Nat) : Int)), (mtxt ((k + ((wsum cellsEC l i : Nat) : Int)) + 1)), markL mkI 1 ((k + ((wsum cellsEC l i : Nat) : Int)) + 2) l[i].list.length, l[i].pairs⟩ : Arg)) := by
      have z := o0.list hi3 (by rw [hr3]; exact nc0) (by rw [hr3]; exact sc0)
      rw [f0] at z
      exact z
    have M1 := M0.trans (((ho.out.el i hi1).list).mid (h1 := hc0) (by rw [← hsm.1]; exact sc0))
    have f1 : updC (updC (mixC k l i) i (⟨(k + ((wsum cellsEC l i : Nat) : Int)), (mtxt ((k + ((wsum cellsEC l i : Nat) : Int)) + 1)), l[i].list, l[i].pairs⟩ : Arg)) i (⟨(k + ((wsum cellsEC l i : Nat) : Int)), (mtxt ((k + ((wsum cellsEC l i : Nat) : Int)) + 1)), markL mkI 1 ((k + ((wsum cellsEC l i : Nat) : Int)) + 2) l[i].list.length, l[i].pairs⟩ : Arg) i = (⟨(k + ((wsum cellsEC l i : Nat) : Int)), (mtxt ((k + ((wsum cellsEC l i : Nat) : Int)) + 1)), markL mkI 1 ((k + ((wsum cellsEC l i : Nat) : Int)) + 2) l[i].list.length, l[i].pairs⟩ : Arg) := updC_at
    have ib1 := o1.out.iaddr hi3 (kd := .i64)
    have e1 := o1.el i hi3
    rw [f1] at e1
    rw [hr3] at e1
    have hq1 := (o1.out.sl lenC).fieldO (off := 3) hi3 (by omega)
    rw [hr3] at hq1
    simp +contextual (maxSteps := 2000000) only [go_sem, Nat.reduceEqDiff, reduceCtorEq, Nat.reduceAdd, Nat.reduceLeDiff, t0, t1, t5, hlen, lt_true hi, wr1, wr2, c_markText ((k + ((wsum cellsEC l i : Nat) : Int)) + 1) _ (by omega), ib1, hq1]
    refine wp_call (c_markPairS l[i].pairs (.one rs2[i].pv) (((k + ((wsum cellsEC l i : Nat) : Int)) + 2) + ((1 * l[i].list.length : Nat) : Int)) h0 hc0 e1.pairs gc0 (by omega) (by omega) (by have := hn.pairs _ (List.getElem_mem hi); omega)) ?_
    rintro r hc1 ⟨rfl, gc1, nc1, sc1⟩
    have o2 : OwC h0 hc1 v (rs2.set i ⟨(k + ((wsum cellsEC l i : Nat) : Int)), (mtxt ((k + ((wsum cellsEC l i : Nat) : Int)) + 1)), rs2[i].lv, rs2[i].pv⟩) l.length (updC (updC (updC (mixC k l i) i (⟨(k + ((wsum cellsEC l i : Nat) : Int)), (mtxt ((k + ((wsum cellsEC l i : Nat) : Int)) + 1)), l[i].list, l[i].pairs⟩ : Arg)) i (⟨(k + ((wsum cellsEC l i : Nat) : Int)), (mtxt ((k + ((wsum cellsEC l i : Nat) : Int)) + 1)), markL mkI 1 ((k + ((wsum cellsEC l i : Nat) : Int)) + 2) l[i].list.length, l[i].pairs⟩ : Arg)) i (⟨(k + ((wsum cellsEC l i : Nat) : Int)), (mtxt ((k + ((wsum cellsEC l i : Nat) : Int)) + 1)), markL mkI 1 ((k + ((wsum cellsEC l i : Nat) : Int)) + 2) l[i].list.length, markL mkP 2 (((k + ((wsum cellsEC l i : Nat) : Int)) + 2) + ((1 * l[i].list.length : Nat) : Int)) l[i].pairs.length⟩ : Arg)) := by
      have z := o1.pairs hi3 (by rw [hr3]; exact nc1) (by rw [hr3]; exact sc1)
      rw [f1] at z
      exact z
    have M2 := M1.trans (((ho.out.el i hi1).pairs).mid (h1 := hc1) (by rw [← hsm.2]; exact sc1))
    have f2 : updC (updC (updC (mixC k l i) i (⟨(k + ((wsum cellsEC l i : Nat) : Int)), (mtxt ((k + ((wsum cellsEC l i : Nat) : Int)) + 1)), l[i].list, l[i].pairs⟩ : Arg)) i (⟨(k + ((wsum cellsEC l i : Nat) : Int)), (mtxt ((k + ((wsum cellsEC l i : Nat) : Int)) + 1)), markL mkI 1 ((k + ((wsum cellsEC l i : Nat) : Int)) + 2) l[i].list.length, l[i].pairs⟩ : Arg)) i (⟨(k + ((wsum cellsEC l i : Nat) : Int)), (mtxt ((k + ((wsum cellsEC l i : Nat) : Int)) + 1)), markL mkI 1 ((k + ((wsum cellsEC l i : Nat) : Int)) + 2) l[i].list.length, markL mkP 2 (((k + ((wsum cellsEC l i : Nat) : Int)) + 2) + ((1 * l[i].list.length : Nat) : Int)) l[i].pairs.length⟩ : Arg) i = (⟨(k + ((wsum cellsEC l i : Nat) : Int)), (mtxt ((k + ((wsum cellsEC l i : Nat) : Int)) + 1)), markL mkI 1 ((k + ((wsum cellsEC l i : Nat) : Int)) + 2) l[i].list.length, markL mkP 2 (((k + ((wsum cellsEC l i : Nat) : Int)) + 2) + ((1 * l[i].list.length : Nat) : Int)) l[i].pairs.length⟩ : Arg) := updC_at
    simp +contextual (maxSteps := 2000000) only [go_sem, Nat.reduceEqDiff, reduceCtorEq, Nat.reduceAdd, Nat.reduceLeDiff, t0, t1, t5, hlen, lt_true hi, wr1, wr2, c_markText ((k + ((wsum cellsEC l i : Nat) : Int)) + 1) _ (by omega)]
    have ek : ((((k + ((wsum cellsEC l i : Nat) : Int)) + 2) + ((1 * l[i].list.length : Nat) : Int)) + ((2 * l[i].pairs.length : Nat) : Int)) = k + ((wsum cellsEC l (i + 1) : Nat) : Int) := by rw [hwn]; unfold cellsEC; omega
    have o9 := o2
    rw [updC_upd, updC_upd, show (⟨(k + ((wsum cellsEC l i : Nat) : Int)), (mtxt ((k + ((wsum cellsEC l i : Nat) : Int)) + 1)), markL mkI 1 ((k + ((wsum cellsEC l i : Nat) : Int)) + 2) l[i].list.length, markL mkP 2 (((k + ((wsum cellsEC l i : Nat) : Int)) + 2) + ((1 * l[i].list.length : Nat) : Int)) l[i].pairs.length⟩ : Arg) = mkEC (k + ((wsum cellsEC l i : Nat) : Int)) l[i] from rfl, mixC_next hi] at o9
    refine ⟨gc1, M2, ?_, ?_, _, fun j hj hj2 => by
      have z := hsame j hj (by simpa using hj2)
      rw [List.getElem_set]
      split
      · rename_i e; subst e; exact z
      · exact z, o9⟩
    · rw [ek]
    · rw [wrap_next hi (Nat.lt_of_le_of_lt hn.len (by decide))]
  · rintro T L h' ⟨g, M, t0, t1, t5, rs2, hsame, x⟩
    have hlen := x.out.length
    rw [x.len] at hlen
    simp +contextual (maxSteps := 2000000) only [go_sem, Nat.reduceEqDiff, reduceCtorEq, Nat.reduceAdd, Nat.reduceLeDiff, t0, t1, t5, hlen, lt_false]
    have y := x.congr (fun j hj => mixC_all hj)
    have yr : SlC h' v (mkC k l) := ⟨rs2, by rw [mkC_len]; exact y.rd⟩
    have back : Grow h h' → SlC h v (mkC k l) := fun gg => ⟨rs2, (y.out.back hl.out.out gg).sl lenC, by rw [mkC_len]; exact y.len, fun j hj => by
      have hj1 : j < rs.length := by rw [hl.out.len, ← y.len]; exact hj
      have z := hsame j hj1 hj
      exact ⟨(y.el j hj).kind, (y.el j hj).name, ((y.el j hj).list.back (by rw [z.1]; exact (hl.out.el j hj1).list) gg).sl lenI, ((y.el j hj).pairs.back (by rw [z.2]; exact (hl.out.el j hj1).pairs) gg).sl lenP⟩⟩
    exact gcK_of ⟨rfl, g, yr, M, back⟩ (fun _ gg => ⟨rfl, ‹Grow h0 h›, back gg, (Grow.refl h).mid, fun _ => back gg⟩)
  · simp +contextual (maxSteps := 2000000) only [go_sem, Nat.reduceEqDiff, reduceCtorEq, Nat.reduceAdd, Nat.reduceLeDiff]
    exact ⟨g, (Grow.refl h).mid, by simp [wsum_zero], rfl, rs, fun j hj hj2 => by simp, hl.out.congr (fun j hj => mixC_zero.symm)⟩
section
variable {P : Program} {T : Tb} {L : Lb} {h : H} {Q : PostC} {K : Post}
/-! laws.heldArgS -/
def L115_0 : List AStep := [⟨.mov (.c (.int .i64 0)), (some 4), none, []⟩]
theorem v115_0 : wpS P L115_0 T L (rdy h) K = wpS P ([⟨.mov (.c (.int .i64 0)), (some 4), none, []⟩]) T L (rdy h) K := rfl
def L115_1 : List AStep := [⟨.mov (.c (.int .i64 0)), (some 5), none, []⟩]
theorem v115_1 : wpS P L115_1 T L (rdy h) K = wpS P ([⟨.mov (.c (.int .i64 0)), (some 5), none, []⟩]) T L (rdy h) K := rfl
def L115_2 : List AStep := [⟨.len (.t 7), (some 8), none, []⟩, ⟨.bin .lss (.t 6) (.t 8), (some 9), none, []⟩]
theorem v115_2 : wpS P L115_2 T L (rdy h) K = wpS P ([⟨.len (.t 7), (some 8), none, []⟩, ⟨.bin .lss (.t 6) (.t 8), (some 9), none, []⟩]) T L (rdy h) K := rfl
def L115_3 : List AStep := ⟨.mov (.t 5), (some 6), none, []⟩ :: ⟨.mov (.t 0), (some 7), none, []⟩ :: L115_2
theorem v115_3 : wpS P L115_3 T L (rdy h) K = wpS P (⟨.mov (.t 5), (some 6), none, []⟩ :: ⟨.mov (.t 0), (some 7), none, []⟩ :: L115_2) T L (rdy h) K := rfl
def L115_4 : List AStep := [⟨.bin .neq (.t 16) (.t 17), (some 18), none, []⟩]
theorem v115_4 : wpS P L115_4 T L (rdy h) K = wpS P ([⟨.bin .neq (.t 16) (.t 17), (some 18), none, []⟩]) T L (rdy h) K := rfl
def L115_5 : List AStep := ⟨.load 1 false (.t 15), (some 16), none, []⟩ :: ⟨.mov (.t 1), (some 17), none, []⟩ :: L115_4
theorem v115_5 : wpS P L115_5 T L (rdy h) K = wpS P (⟨.load 1 false (.t 15), (some 16), none, []⟩ :: ⟨.mov (.t 1), (some 17), none, []⟩ :: L115_4) T L (rdy h) K := rfl
def L115_6 : List AStep := ⟨.iaddr 4 (.t 12) (.t 13), (some 14), none, []⟩ :: ⟨.faddr 0 (.t 14), (some 15), none, []⟩ :: L115_5
theorem v115_6 : wpS P L115_6 T L (rdy h) K = wpS P (⟨.iaddr 4 (.t 12) (.t 13), (some 14), none, []⟩ :: ⟨.faddr 0 (.t 14), (some 15), none, []⟩ :: L115_5) T L (rdy h) K := rfl
def L115_7 : List AStep := ⟨.mov (.t 0), (some 12), none, []⟩ :: ⟨.mov (.t 5), (some 13), none, []⟩ :: L115_6
theorem v115_7 : wpS P L115_7 T L (rdy h) K = wpS P (⟨.mov (.t 0), (some 12), none, []⟩ :: ⟨.mov (.t 5), (some 13), none, []⟩ :: L115_6) T L (rdy h) K := rfl
def L115_8 : List AStep := [⟨.mov (.c (.int .i64 (-1))), (some 4), none, []⟩]
theorem v115_8 : wpS P L115_8 T L (rdy h) K = wpS P ([⟨.mov (.c (.int .i64 (-1))), (some 4), none, []⟩]) T L (rdy h) K := rfl
def L115_9 : List AStep := [⟨.mov (.t 20), (some 1), none, []⟩]
theorem v115_9 : wpS P L115_9 T L (rdy h) K = wpS P ([⟨.mov (.t 20), (some 1), none, []⟩]) T L (rdy h) K := rfl
def L115_10 : List AStep := ⟨.mov (.t 1), (some 19), none, []⟩ :: ⟨.bin .add (.t 19) (.c (.int .i64 1)), (some 20), none, []⟩ :: L115_9
theorem v115_10 : wpS P L115_10 T L (rdy h) K = wpS P (⟨.mov (.t 1), (some 19), none, []⟩ :: ⟨.bin .add (.t 19) (.c (.int .i64 1)), (some 20), none, []⟩ :: L115_9) T L (rdy h) K := rfl
def L115_11 : List AStep := [⟨.call 143 [(.t 26)], (some 27), none, [(.load 1 false (.t 24), (some 25), none)]⟩, ⟨.bin .neq (.t 25) (.t 27), (some 28), none, []⟩]
theorem v115_11 : wpS P L115_11 T L (rdy h) K = wpS P ([⟨.call 143 [(.t 26)], (some 27), none, [(.load 1 false (.t 24), (some 25), none)]⟩, ⟨.bin .neq (.t 25) (.t 27), (some 28), none, []⟩]) T L (rdy h) K := rfl
def L115_12 : List AStep := ⟨.load 1 false (.t 24), (some 25), none, []⟩ :: ⟨.mov (.t 1), (some 26), none, []⟩ :: L115_11
theorem v115_12 : wpS P L115_12 T L (rdy h) K = wpS P (⟨.load 1 false (.t 24), (some 25), none, []⟩ :: ⟨.mov (.t 1), (some 26), none, []⟩ :: L115_11) T L (rdy h) K := rfl
def L115_13 : List AStep := ⟨.iaddr 4 (.t 21) (.t 22), (some 23), none, []⟩ :: ⟨.faddr 1 (.t 23), (some 24), none, []⟩ :: L115_12
theorem v115_13 : wpS P L115_13 T L (rdy h) K = wpS P (⟨.iaddr 4 (.t 21) (.t 22), (some 23), none, []⟩ :: ⟨.faddr 1 (.t 23), (some 24), none, []⟩ :: L115_12) T L (rdy h) K := rfl
def L115_14 : List AStep := ⟨.mov (.t 0), (some 21), none, []⟩ :: ⟨.mov (.t 5), (some 22), none, []⟩ :: L115_13
theorem v115_14 : wpS P L115_14 T L (rdy h) K = wpS P (⟨.mov (.t 0), (some 21), none, []⟩ :: ⟨.mov (.t 5), (some 22), none, []⟩ :: L115_13) T L (rdy h) K := rfl
def L115_15 : List AStep := [⟨.mov (.c (.int .i64 (-1))), (some 4), none, []⟩]
theorem v115_15 : wpS P L115_15 T L (rdy h) K = wpS P ([⟨.mov (.c (.int .i64 (-1))), (some 4), none, []⟩]) T L (rdy h) K := rfl
def L115_16 : List AStep := [⟨.mov (.t 30), (some 1), none, []⟩]
theorem v115_16 : wpS P L115_16 T L (rdy h) K = wpS P ([⟨.mov (.t 30), (some 1), none, []⟩]) T L (rdy h) K := rfl
def L115_17 : List AStep := ⟨.mov (.t 1), (some 29), none, []⟩ :: ⟨.bin .add (.t 29) (.c (.int .i64 1)), (some 30), none, []⟩ :: L115_16
theorem v115_17 : wpS P L115_17 T L (rdy h) K = wpS P (⟨.mov (.t 1), (some 29), none, []⟩ :: ⟨.bin .add (.t 29) (.c (.int .i64 1)), (some 30), none, []⟩ :: L115_16) T L (rdy h) K := rfl
def L115_18 : List AStep := [⟨.call 119 [(.t 35), (.t 36)], (some 37), none, []⟩, ⟨.mov (.t 37), (some 1), none, []⟩]
theorem v115_18 : wpS P L115_18 T L (rdy h) K = wpS P ([⟨.call 119 [(.t 35), (.t 36)], (some 37), none, []⟩, ⟨.mov (.t 37), (some 1), none, []⟩]) T L (rdy h) K := rfl
def L115_19 : List AStep := ⟨.load 1 false (.t 34), (some 35), none, []⟩ :: ⟨.mov (.t 1), (some 36), none, []⟩ :: L115_18
theorem v115_19 : wpS P L115_19 T L (rdy h) K = wpS P (⟨.load 1 false (.t 34), (some 35), none, []⟩ :: ⟨.mov (.t 1), (some 36), none, []⟩ :: L115_18) T L (rdy h) K := rfl
def L115_20 : List AStep := ⟨.iaddr 4 (.t 31) (.t 32), (some 33), none, []⟩ :: ⟨.faddr 2 (.t 33), (some 34), none, []⟩ :: L115_19
theorem v115_20 : wpS P L115_20 T L (rdy h) K = wpS P (⟨.iaddr 4 (.t 31) (.t 32), (some 33), none, []⟩ :: ⟨.faddr 2 (.t 33), (some 34), none, []⟩ :: L115_19) T L (rdy h) K := rfl
def L115_21 : List AStep := ⟨.mov (.t 0), (some 31), none, []⟩ :: ⟨.mov (.t 5), (some 32), none, []⟩ :: L115_20
theorem v115_21 : wpS P L115_21 T L (rdy h) K = wpS P (⟨.mov (.t 0), (some 31), none, []⟩ :: ⟨.mov (.t 5), (some 32), none, []⟩ :: L115_20) T L (rdy h) K := rfl
def L115_22 : List AStep := [⟨.mov (.t 1), (some 38), none, []⟩, ⟨.bin .lss (.t 38) (.c (.int .i64 0)), (some 39), none, []⟩]
theorem v115_22 : wpS P L115_22 T L (rdy h) K = wpS P ([⟨.mov (.t 1), (some 38), none, []⟩, ⟨.bin .lss (.t 38) (.c (.int .i64 0)), (some 39), none, []⟩]) T L (rdy h) K := rfl
def L115_23 : List AStep := [⟨.mov (.c (.int .i64 (-1))), (some 4), none, []⟩]
theorem v115_23 : wpS P L115_23 T L (rdy h) K = wpS P ([⟨.mov (.c (.int .i64 (-1))), (some 4), none, []⟩]) T L (rdy h) K := rfl
def L115_24 : List AStep := [⟨.call 120 [(.t 44), (.t 45)], (some 46), none, []⟩, ⟨.mov (.t 46), (some 1), none, []⟩]
theorem v115_24 : wpS P L115_24 T L (rdy h) K = wpS P ([⟨.call 120 [(.t 44), (.t 45)], (some 46), none, []⟩, ⟨.mov (.t 46), (some 1), none, []⟩]) T L (rdy h) K := rfl
def L115_25 : List AStep := ⟨.load 1 false (.t 43), (some 44), none, []⟩ :: ⟨.mov (.t 1), (some 45), none, []⟩ :: L115_24
theorem v115_25 : wpS P L115_25 T L (rdy h) K = wpS P (⟨.load 1 false (.t 43), (some 44), none, []⟩ :: ⟨.mov (.t 1), (some 45), none, []⟩ :: L115_24) T L (rdy h) K := rfl
def L115_26 : List AStep := ⟨.iaddr 4 (.t 40) (.t 41), (some 42), none, []⟩ :: ⟨.faddr 3 (.t 42), (some 43), none, []⟩ :: L115_25
theorem v115_26 : wpS P L115_26 T L (rdy h) K = wpS P (⟨.iaddr 4 (.t 40) (.t 41), (some 42), none, []⟩ :: ⟨.faddr 3 (.t 42), (some 43), none, []⟩ :: L115_25) T L (rdy h) K := rfl
def L115_27 : List AStep := ⟨.mov (.t 0), (some 40), none, []⟩ :: ⟨.mov (.t 5), (some 41), none, []⟩ :: L115_26
theorem v115_27 : wpS P L115_27 T L (rdy h) K = wpS P (⟨.mov (.t 0), (some 40), none, []⟩ :: ⟨.mov (.t 5), (some 41), none, []⟩ :: L115_26) T L (rdy h) K := rfl
def L115_28 : List AStep := [⟨.mov (.t 1), (some 47), none, []⟩, ⟨.bin .lss (.t 47) (.c (.int .i64 0)), (some 48), none, []⟩]
theorem v115_28 : wpS P L115_28 T L (rdy h) K = wpS P ([⟨.mov (.t 1), (some 47), none, []⟩, ⟨.bin .lss (.t 47) (.c (.int .i64 0)), (some 48), none, []⟩]) T L (rdy h) K := rfl
def L115_29 : List AStep := [⟨.mov (.c (.int .i64 (-1))), (some 4), none, []⟩]
theorem v115_29 : wpS P L115_29 T L (rdy h) K = wpS P ([⟨.mov (.c (.int .i64 (-1))), (some 4), none, []⟩]) T L (rdy h) K := rfl
def L115_30 : List AStep := [⟨.mov (.t 11), (some 5), none, []⟩]
theorem v115_30 : wpS P L115_30 T L (rdy h) K = wpS P ([⟨.mov (.t 11), (some 5), none, []⟩]) T L (rdy h) K := rfl
def L115_31 : List AStep := ⟨.mov (.t 5), (some 10), none, []⟩ :: ⟨.bin .add (.t 10) (.c (.int .i64 1)), (some 11), none, []⟩ :: L115_30
theorem v115_31 : wpS P L115_31 T L (rdy h) K = wpS P (⟨.mov (.t 5), (some 10), none, []⟩ :: ⟨.bin .add (.t 10) (.c (.int .i64 1)), (some 11), none, []⟩ :: L115_30) T L (rdy h) K := rfl
def L115_32 : List AStep := [⟨.mov (.t 1), (some 49), none, []⟩, ⟨.mov (.t 49), (some 4), none, []⟩]
theorem v115_32 : wpS P L115_32 T L (rdy h) K = wpS P ([⟨.mov (.t 1), (some 49), none, []⟩, ⟨.mov (.t 49), (some 4), none, []⟩]) T L (rdy h) K := rfl
def C115_0 : ACode := .cond (.t 9) .skip (.exit 0)
theorem u115_0 : wpC P C115_0 T L (rdy h) Q = wpC P (.cond (.t 9) .skip (.exit 0)) T L (rdy h) Q := rfl
def C115_1 : ACode := .seq (.reg L115_3) C115_0
theorem u115_1 : wpC P C115_1 T L (rdy h) Q = wpC P (.seq (.reg L115_3) C115_0) T L (rdy h) Q := rfl
def C115_2 : ACode := .seq (.reg L115_8) .ret
theorem u115_2 : wpC P C115_2 T L (rdy h) Q = wpC P (.seq (.reg L115_8) .ret) T L (rdy h) Q := rfl
def C115_3 : ACode := .cond (.t 18) C115_2 .skip
theorem u115_3 : wpC P C115_3 T L (rdy h) Q = wpC P (.cond (.t 18) C115_2 .skip) T L (rdy h) Q := rfl
def C115_4 : ACode := .seq (.reg L115_7) C115_3
theorem u115_4 : wpC P C115_4 T L (rdy h) Q = wpC P (.seq (.reg L115_7) C115_3) T L (rdy h) Q := rfl
def C115_5 : ACode := .seq (.reg L115_15) .ret
theorem u115_5 : wpC P C115_5 T L (rdy h) Q = wpC P (.seq (.reg L115_15) .ret) T L (rdy h) Q := rfl
def C115_6 : ACode := .cond (.t 28) C115_5 .skip
theorem u115_6 : wpC P C115_6 T L (rdy h) Q = wpC P (.cond (.t 28) C115_5 .skip) T L (rdy h) Q := rfl
def C115_7 : ACode := .seq (.reg L115_14) C115_6
theorem u115_7 : wpC P C115_7 T L (rdy h) Q = wpC P (.seq (.reg L115_14) C115_6) T L (rdy h) Q := rfl
def C115_8 : ACode := .seq (.reg L115_23) .ret
theorem u115_8 : wpC P C115_8 T L (rdy h) Q = wpC P (.seq (.reg L115_23) .ret) T L (rdy h) Q := rfl
def C115_9 : ACode := .cond (.t 39) C115_8 .skip
theorem u115_9 : wpC P C115_9 T L (rdy h) Q = wpC P (.cond (.t 39) C115_8 .skip) T L (rdy h) Q := rfl
def C115_10 : ACode := .seq (.reg L115_22) C115_9
theorem u115_10 : wpC P C115_10 T L (rdy h) Q = wpC P (.seq (.reg L115_22) C115_9) T L (rdy h) Q := rfl
def C115_11 : ACode := .seq (.reg L115_29) .ret
theorem u115_11 : wpC P C115_11 T L (rdy h) Q = wpC P (.seq (.reg L115_29) .ret) T L (rdy h) Q := rfl
def C115_12 : ACode := .cond (.t 48) C115_11 .skip
theorem u115_12 : wpC P C115_12 T L (rdy h) Q = wpC P (.cond (.t 48) C115_11 .skip) T L (rdy h) Q := rfl
def C115_13 : ACode := .seq (.reg L115_28) C115_12
theorem u115_13 : wpC P C115_13 T L (rdy h) Q = wpC P (.seq (.reg L115_28) C115_12) T L (rdy h) Q := rfl
def C115_14 : ACode := .seq (.reg L115_27) C115_13
theorem u115_14 : wpC P C115_14 T L (rdy h) Q = wpC P (.seq (.reg L115_27) C115_13) T L (rdy h) Q := rfl
def C115_15 : ACode := .seq C115_10 C115_14
theorem u115_15 : wpC P C115_15 T L (rdy h) Q = wpC P (.seq C115_10 C115_14) T L (rdy h) Q := rfl
def C115_16 : ACode := .seq (.reg L115_21) C115_15
theorem u115_16 : wpC P C115_16 T L (rdy h) Q = wpC P (.seq (.reg L115_21) C115_15) T L (rdy h) Q := rfl
def C115_17 : ACode := .seq (.reg L115_17) C115_16
theorem u115_17 : wpC P C115_17 T L (rdy h) Q = wpC P (.seq (.reg L115_17) C115_16) T L (rdy h) Q := rfl
def C115_18 : ACode := .seq C115_7 C115_17
theorem u115_18 : wpC P C115_18 T L (rdy h) Q = wpC P (.seq C115_7 C115_17) T L (rdy h) Q := rfl
def C115_19 : ACode := .seq (.reg L115_10) C115_18
theorem u115_19 : wpC P C115_19 T L (rdy h) Q = wpC P (.seq (.reg L115_10) C115_18) T L (rdy h) Q := rfl
def C115_20 : ACode := .seq C115_4 C115_19
theorem u115_20 : wpC P C115_20 T L (rdy h) Q = wpC P (.seq C115_4 C115_19) T L (rdy h) Q := rfl
def C115_21 : ACode := .block 1 C115_20
theorem u115_21 : wpC P C115_21 T L (rdy h) Q = wpC P (.block 1 C115_20) T L (rdy h) Q := rfl
def C115_22 : ACode := .seq C115_21 (.reg L115_31)
theorem u115_22 : wpC P C115_22 T L (rdy h) Q = wpC P (.seq C115_21 (.reg L115_31)) T L (rdy h) Q := rfl
def C115_23 : ACode := .seq C115_1 C115_22
theorem u115_23 : wpC P C115_23 T L (rdy h) Q = wpC P (.seq C115_1 C115_22) T L (rdy h) Q := rfl
def C115_24 : ACode := .block 0 (.loop C115_23)
theorem u115_24 : wpC P C115_24 T L (rdy h) Q = wpC P (.block 0 (.loop C115_23)) T L (rdy h) Q := rfl
def C115_25 : ACode := .seq (.reg L115_1) C115_24
theorem u115_25 : wpC P C115_25 T L (rdy h) Q = wpC P (.seq (.reg L115_1) C115_24) T L (rdy h) Q := rfl
def C115_26 : ACode := .seq (.reg L115_32) .ret
theorem u115_26 : wpC P C115_26 T L (rdy h) Q = wpC P (.seq (.reg L115_32) .ret) T L (rdy h) Q := rfl
def C115_27 : ACode := .seq C115_25 C115_26
theorem u115_27 : wpC P C115_27 T L (rdy h) Q = wpC P (.seq C115_25 C115_26) T L (rdy h) Q := rfl
def C115_28 : ACode := .seq (.reg L115_0) C115_27
theorem u115_28 : wpC P C115_28 T L (rdy h) Q = wpC P (.seq (.reg L115_0) C115_27) T L (rdy h) Q := rfl
def F115 : AFunc := ⟨50, [.tmp 4], C115_28⟩
theorem cF115 : compB Try.prog 115 = some F115 := by kernel_rfl
end
attribute [local go_sem ↓] u115_0 u115_1 u115_2 u115_3 u115_4 u115_5 u115_6 u115_7 u115_8 u115_9 u115_10 u115_11 u115_12 u115_13 u115_14 u115_15 u115_16 u115_17 u115_18 u115_19 u115_20 u115_21 u115_22 u115_23 u115_24 u115_25 u115_26 u115_27 u115_28 v115_0 v115_1 v115_2 v115_3 v115_4 v115_5 v115_6 v115_7 v115_8 v115_9 v115_10 v115_11 v115_12 v115_13 v115_14 v115_15 v115_16 v115_17 v115_18 v115_19 v115_20 v115_21 v115_22 v115_23 v115_24 v115_25 v115_26 v115_27 v115_28 v115_29 v115_30 v115_31 v115_32
theorem c_heldArgS (l : List Arg) (v : CV) (k : Int) (h : H) (hl : SlC h v (mkC k l)) (k1 : 0 ≤ k) (k2 : k ≤ 2 ^ 32) (hn : miniC l) : bm Try.prog 115 [.one v, .one (.int .i64 k)] h = some (ii (k + (cellsC l : Nat)), h) := by
  refine bm_eq cF115 ?_
  obtain ⟨rs, x⟩ := hl.ex
  have hlen := x.out.len
  rw [x.len, mkC_len] at hlen
  simp +contextual (maxSteps := 2000000) only [go_sem, Nat.reduceEqDiff, reduceCtorEq, Nat.reduceAdd, Nat.reduceLeDiff, F115]
  refine wpC_loop (fun i T L h' => h' = h ∧ T 0 = .v (.one v) ∧ T 1 = .v (.one (.int .i64 (k + ((wsum cellsEC l i : Nat) : Int)))) ∧ T 5 = .v (.one (.int .i64 i))) l.length ?_ ?_ (Nat.zero_le _) ?_
  · rintro i T L h' hi ⟨rfl, t0, t1, t5⟩
    have hi2 : i < rs.length := by rw [x.len, mkC_len]; exact hi
    have hws : wsum cellsEC l (i + 1) ≤ cellsC l := wsum_le (by omega)
    have hwn := wsum_next (f := cellsEC) hi
    have hcl := hn.cells
    have hzlv := hn.list _ (List.getElem_mem hi)
    have hzpv := hn.pairs _ (List.getElem_mem hi)
    have el := x.el i hi2
    rw [mkC_get hi, getC_eq hi] at el
    have hia := x.out.iaddr hi2 (kd := .i64)
    have wr1 : IntKind.i64.wrap ((k + ((wsum cellsEC l i : Nat) : Int)) + 1) = ((k + ((wsum cellsEC l i : Nat) : Int)) + 1) := (i64_wrap (by omega) (by omega)).trans (by omega)
    have wr2 : IntKind.i64.wrap (((k + ((wsum cellsEC l i : Nat) : Int)) + 1) + 1) = ((k + ((wsum cellsEC l i : Nat) : Int)) + 2) := (i64_wrap (by omega) (by omega)).trans (by omega)
    have hf0 := x.out.fieldO (off := 0) hi2 (by omega)
    rw [encC_0] at hf0
    rw [show rs[i].kind = (k + ((wsum cellsEC l i : Nat) : Int)) from el.kind] at hf0
    have hf1 := x.out.fieldO (off := 1) hi2 (by omega)
    rw [encC_1] at hf1
    rw [show rs[i].name = (mtxt ((k + ((wsum cellsEC l i : Nat) : Int)) + 1)) from el.name] at hf1
    have hf2 := x.out.fieldO (off := 2) hi2 (by omega)
    rw [encC_2] at hf2
    have he0 := c_heldIntS l[i].list.length (.one rs[i].lv) ((k + ((wsum cellsEC l i : Nat) : Int)) + 2) h' el.list (by omega) (by omega) (by omega)
    have hd0 : decide ((((k + ((wsum cellsEC l i : Nat) : Int)) + 2) + ((1 * l[i].list.length : Nat) : Int)) < 0) = false := decide_eq_false (by omega)
    have hf3 := x.out.fieldO (off := 3) hi2 (by omega)
    rw [encC_3] at hf3
    have he1 := c_heldPairS l[i].pairs.length (.one rs[i].pv) (((k + ((wsum cellsEC l i : Nat) : Int)) + 2) + ((1 * l[i].list.length : Nat) : Int)) h' el.pairs (by omega) (by omega) (by omega)
    have hd1 : decide (((((k + ((wsum cellsEC l i : Nat) : Int)) + 2) + ((1 * l[i].list.length : Nat) : Int)) + ((2 * l[i].pairs.length : Nat) : Int)) < 0) = false := decide_eq_false (by omega)
    simp +contextual (maxSteps := 2000000) only [go_sem, Nat.reduceEqDiff, reduceCtorEq, Nat.reduceAdd, Nat.reduceLeDiff, t0, t1, t5, hlen, hia, lt_true hi, wr1, wr2, c_markText ((k + ((wsum cellsEC l i : Nat) : Int)) + 1) _ (by omega), mBool, decide_true, hf0, hf1, hf2, he0, hd0, hf3, he1, hd1]
    rw [show ((((k + ((wsum cellsEC l i : Nat) : Int)) + 2) + ((1 * l[i].list.length : Nat) : Int)) + ((2 * l[i].pairs.length : Nat) : Int)) = k + ((wsum cellsEC l (i + 1) : Nat) : Int) by rw [hwn]; unfold cellsEC; omega, wrap_next hi (Nat.lt_of_le_of_lt hn.len (by decide))]
    try exact ⟨rfl, rfl⟩
  · rintro T L h' ⟨rfl, t0, t1, t5⟩
    simp +contextual (maxSteps := 2000000) only [go_sem, Nat.reduceEqDiff, reduceCtorEq, Nat.reduceAdd, Nat.reduceLeDiff, t0, t1, t5, hlen, lt_false]
    try rfl
  · simp +contextual (maxSteps := 2000000) only [go_sem, Nat.reduceEqDiff, reduceCtorEq, Nat.reduceAdd, Nat.reduceLeDiff]
    try simp [wsum_zero]
section
variable {P : Program} {T : Tb} {L : Lb} {h : H} {Q : PostC} {K : Post}
/-! laws.eqCall -/
def L36_0 : List AStep := [⟨.mov (.c (.bool false)), (some 4), none, []⟩]
theorem v36_0 : wpS P L36_0 T L (rdy h) K = wpS P ([⟨.mov (.c (.bool false)), (some 4), none, []⟩]) T L (rdy h) K := rfl
def L36_1 : List AStep := ⟨.box 25 (.t 0), (some 2), none, []⟩ :: ⟨.box 25 (.t 1), (some 3), none, []⟩ :: L36_0
theorem v36_1 : wpS P L36_1 T L (rdy h) K = wpS P (⟨.box 25 (.t 0), (some 2), none, []⟩ :: ⟨.box 25 (.t 1), (some 3), none, []⟩ :: L36_0) T L (rdy h) K := rfl
def L36_2 : List AStep := [⟨.call 109 [(.t 6), (.t 8)], (some 9), none, []⟩, ⟨.not (.t 9), (some 10), none, []⟩]
theorem v36_2 : wpS P L36_2 T L (rdy h) K = wpS P ([⟨.call 109 [(.t 6), (.t 8)], (some 9), none, []⟩, ⟨.not (.t 9), (some 10), none, []⟩]) T L (rdy h) K := rfl
def L36_3 : List AStep := ⟨.faddr 0 (.t 3), (some 7), none, []⟩ :: ⟨.load 1 false (.t 7), (some 8), none, []⟩ :: L36_2
theorem v36_3 : wpS P L36_3 T L (rdy h) K = wpS P (⟨.faddr 0 (.t 3), (some 7), none, []⟩ :: ⟨.load 1 false (.t 7), (some 8), none, []⟩ :: L36_2) T L (rdy h) K := rfl
def L36_4 : List AStep := ⟨.faddr 0 (.t 2), (some 5), none, []⟩ :: ⟨.load 1 false (.t 5), (some 6), none, []⟩ :: L36_3
theorem v36_4 : wpS P L36_4 T L (rdy h) K = wpS P (⟨.faddr 0 (.t 2), (some 5), none, []⟩ :: ⟨.load 1 false (.t 5), (some 6), none, []⟩ :: L36_3) T L (rdy h) K := rfl
def L36_5 : List AStep := [⟨.mov (.c (.bool false)), (some 4), none, []⟩]
theorem v36_5 : wpS P L36_5 T L (rdy h) K = wpS P ([⟨.mov (.c (.bool false)), (some 4), none, []⟩]) T L (rdy h) K := rfl
def L36_6 : List AStep := [⟨.mov (.c (.bool true)), (some 4), none, []⟩]
theorem v36_6 : wpS P L36_6 T L (rdy h) K = wpS P ([⟨.mov (.c (.bool true)), (some 4), none, []⟩]) T L (rdy h) K := rfl
def C36_0 : ACode := .seq (.reg L36_5) .ret
theorem u36_0 : wpC P C36_0 T L (rdy h) Q = wpC P (.seq (.reg L36_5) .ret) T L (rdy h) Q := rfl
def C36_1 : ACode := .cond (.t 10) C36_0 .skip
theorem u36_1 : wpC P C36_1 T L (rdy h) Q = wpC P (.cond (.t 10) C36_0 .skip) T L (rdy h) Q := rfl
def C36_2 : ACode := .seq (.reg L36_4) C36_1
theorem u36_2 : wpC P C36_2 T L (rdy h) Q = wpC P (.seq (.reg L36_4) C36_1) T L (rdy h) Q := rfl
def C36_3 : ACode := .seq (.reg L36_6) .ret
theorem u36_3 : wpC P C36_3 T L (rdy h) Q = wpC P (.seq (.reg L36_6) .ret) T L (rdy h) Q := rfl
def C36_4 : ACode := .seq C36_2 C36_3
theorem u36_4 : wpC P C36_4 T L (rdy h) Q = wpC P (.seq C36_2 C36_3) T L (rdy h) Q := rfl
def C36_5 : ACode := .seq (.reg L36_1) C36_4
theorem u36_5 : wpC P C36_5 T L (rdy h) Q = wpC P (.seq (.reg L36_1) C36_4) T L (rdy h) Q := rfl
def F36 : AFunc := ⟨11, [.tmp 4], C36_5⟩
theorem cF36 : compB Try.prog 36 = some F36 := by kernel_rfl
end
attribute [local go_sem ↓] u36_0 u36_1 u36_2 u36_3 u36_4 u36_5 v36_0 v36_1 v36_2 v36_3 v36_4 v36_5 v36_6
theorem k_eqC (x y : List Arg) (p q : CV) (h : H) (a : SlC h p x) (b : SlC h q y) (m : miniC x) : bm Try.prog 36 [.agg [p], .agg [q]] h = some (ib (decide (x = y)), h) := by
  refine bm_eq cF36 ?_
  simp +contextual (maxSteps := 2000000) only [go_sem, Nat.reduceEqDiff, reduceCtorEq, Nat.reduceAdd, Nat.reduceLeDiff, F36, c_eqArgS _ _ _ _ _ a b m]
  try (cases decide (x = y) <;> simp)
section
variable {P : Program} {T : Tb} {L : Lb} {h : H} {Q : PostC} {K : Post}
/-! laws.markCall -/
def L39_0 : List AStep := [⟨.box 25 (.t 0), (some 2), none, []⟩, ⟨.mov (.c (.int .i64 0)), (some 4), none, []⟩]
theorem v39_0 : wpS P L39_0 T L (rdy h) K = wpS P ([⟨.box 25 (.t 0), (some 2), none, []⟩, ⟨.mov (.c (.int .i64 0)), (some 4), none, []⟩]) T L (rdy h) K := rfl
def L39_1 : List AStep := [⟨.mov (.t 8), (some 1), none, []⟩]
theorem v39_1 : wpS P L39_1 T L (rdy h) K = wpS P ([⟨.mov (.t 8), (some 1), none, []⟩]) T L (rdy h) K := rfl
def L39_2 : List AStep := ⟨.mov (.t 1), (some 7), none, []⟩ :: ⟨.call 114 [(.t 6), (.t 7)], (some 8), none, []⟩ :: L39_1
theorem v39_2 : wpS P L39_2 T L (rdy h) K = wpS P (⟨.mov (.t 1), (some 7), none, []⟩ :: ⟨.call 114 [(.t 6), (.t 7)], (some 8), none, []⟩ :: L39_1) T L (rdy h) K := rfl
def L39_3 : List AStep := ⟨.faddr 0 (.t 2), (some 5), none, []⟩ :: ⟨.load 1 false (.t 5), (some 6), none, []⟩ :: L39_2
theorem v39_3 : wpS P L39_3 T L (rdy h) K = wpS P (⟨.faddr 0 (.t 2), (some 5), none, []⟩ :: ⟨.load 1 false (.t 5), (some 6), none, []⟩ :: L39_2) T L (rdy h) K := rfl
def L39_4 : List AStep := [⟨.mov (.t 1), (some 9), none, []⟩, ⟨.mov (.t 9), (some 4), none, []⟩]
theorem v39_4 : wpS P L39_4 T L (rdy h) K = wpS P ([⟨.mov (.t 1), (some 9), none, []⟩, ⟨.mov (.t 9), (some 4), none, []⟩]) T L (rdy h) K := rfl
def C39_0 : ACode := .seq (.reg L39_4) .ret
theorem u39_0 : wpC P C39_0 T L (rdy h) Q = wpC P (.seq (.reg L39_4) .ret) T L (rdy h) Q := rfl
def C39_1 : ACode := .seq (.reg L39_3) C39_0
theorem u39_1 : wpC P C39_1 T L (rdy h) Q = wpC P (.seq (.reg L39_3) C39_0) T L (rdy h) Q := rfl
def C39_2 : ACode := .seq (.reg L39_0) C39_1
theorem u39_2 : wpC P C39_2 T L (rdy h) Q = wpC P (.seq (.reg L39_0) C39_1) T L (rdy h) Q := rfl
def F39 : AFunc := ⟨10, [.tmp 4], C39_2⟩
theorem cF39 : compB Try.prog 39 = some F39 := by kernel_rfl
end
attribute [local go_sem ↓] u39_0 u39_1 u39_2 v39_0 v39_1 v39_2 v39_3 v39_4
theorem k_markC (x : List Arg) (p : CV) (rs : List RArg) (k : Int) (h0 hb h : H) {x0 : List Arg} (a : NwC h0 h p rs x) (b : NwC h0 hb p rs x0) (g : Grow h0 h) (k1 : 0 ≤ k) (k2 : k ≤ 2 ^ 32) (m : miniC x) :
    callK (bm Try.prog 39 [.agg [p], .one (.int .i64 k)] h) fun r h' => r = ii (k + (cellsC x : Nat)) ∧ Grow h0 h' ∧ SlC h' p (mkC k x) ∧ Mid h0.n hb.n h h' := by
  refine bm_of cF39 ?_
  simp +contextual (maxSteps := 2000000) only [go_sem, Nat.reduceEqDiff, reduceCtorEq, Nat.reduceAdd, Nat.reduceLeDiff, F39]
  refine wp_call (c_markArgS x p rs k h0 hb h a b g k1 k2 m) ?_
  rintro r h1 ⟨rfl, g1, n1, M1, bk⟩
  simp +contextual (maxSteps := 2000000) only [go_sem, Nat.reduceEqDiff, reduceCtorEq, Nat.reduceAdd, Nat.reduceLeDiff]
  exact gcK_of ⟨rfl, g1, n1, M1⟩ (fun _ gg => ⟨rfl, g, bk gg, (Grow.refl h).mid⟩)
section
variable {P : Program} {T : Tb} {L : Lb} {h : H} {Q : PostC} {K : Post}
/-! laws.heldCall -/
def L40_0 : List AStep := [⟨.box 25 (.t 0), (some 2), none, []⟩, ⟨.mov (.c (.int .i64 0)), (some 4), none, []⟩]
theorem v40_0 : wpS P L40_0 T L (rdy h) K = wpS P ([⟨.box 25 (.t 0), (some 2), none, []⟩, ⟨.mov (.c (.int .i64 0)), (some 4), none, []⟩]) T L (rdy h) K := rfl
def L40_1 : List AStep := [⟨.mov (.t 8), (some 1), none, []⟩]
theorem v40_1 : wpS P L40_1 T L (rdy h) K = wpS P ([⟨.mov (.t 8), (some 1), none, []⟩]) T L (rdy h) K := rfl
def L40_2 : List AStep := ⟨.mov (.t 1), (some 7), none, []⟩ :: ⟨.call 115 [(.t 6), (.t 7)], (some 8), none, []⟩ :: L40_1
theorem v40_2 : wpS P L40_2 T L (rdy h) K = wpS P (⟨.mov (.t 1), (some 7), none, []⟩ :: ⟨.call 115 [(.t 6), (.t 7)], (some 8), none, []⟩ :: L40_1) T L (rdy h) K := rfl
def L40_3 : List AStep := ⟨.faddr 0 (.t 2), (some 5), none, []⟩ :: ⟨.load 1 false (.t 5), (some 6), none, []⟩ :: L40_2
theorem v40_3 : wpS P L40_3 T L (rdy h) K = wpS P (⟨.faddr 0 (.t 2), (some 5), none, []⟩ :: ⟨.load 1 false (.t 5), (some 6), none, []⟩ :: L40_2) T L (rdy h) K := rfl
def L40_4 : List AStep := [⟨.mov (.t 1), (some 9), none, []⟩, ⟨.bin .lss (.t 9) (.c (.int .i64 0)), (some 10), none, []⟩]
theorem v40_4 : wpS P L40_4 T L (rdy h) K = wpS P ([⟨.mov (.t 1), (some 9), none, []⟩, ⟨.bin .lss (.t 9) (.c (.int .i64 0)), (some 10), none, []⟩]) T L (rdy h) K := rfl
def L40_5 : List AStep := [⟨.mov (.c (.int .i64 (-1))), (some 4), none, []⟩]
theorem v40_5 : wpS P L40_5 T L (rdy h) K = wpS P ([⟨.mov (.c (.int .i64 (-1))), (some 4), none, []⟩]) T L (rdy h) K := rfl
def L40_6 : List AStep := [⟨.mov (.t 1), (some 11), none, []⟩, ⟨.mov (.t 11), (some 4), none, []⟩]
theorem v40_6 : wpS P L40_6 T L (rdy h) K = wpS P ([⟨.mov (.t 1), (some 11), none, []⟩, ⟨.mov (.t 11), (some 4), none, []⟩]) T L (rdy h) K := rfl
def C40_0 : ACode := .seq (.reg L40_5) .ret
theorem u40_0 : wpC P C40_0 T L (rdy h) Q = wpC P (.seq (.reg L40_5) .ret) T L (rdy h) Q := rfl
def C40_1 : ACode := .cond (.t 10) C40_0 .skip
theorem u40_1 : wpC P C40_1 T L (rdy h) Q = wpC P (.cond (.t 10) C40_0 .skip) T L (rdy h) Q := rfl
def C40_2 : ACode := .seq (.reg L40_4) C40_1
theorem u40_2 : wpC P C40_2 T L (rdy h) Q = wpC P (.seq (.reg L40_4) C40_1) T L (rdy h) Q := rfl
def C40_3 : ACode := .seq (.reg L40_6) .ret
theorem u40_3 : wpC P C40_3 T L (rdy h) Q = wpC P (.seq (.reg L40_6) .ret) T L (rdy h) Q := rfl
def C40_4 : ACode := .seq C40_2 C40_3
theorem u40_4 : wpC P C40_4 T L (rdy h) Q = wpC P (.seq C40_2 C40_3) T L (rdy h) Q := rfl
def C40_5 : ACode := .seq (.reg L40_3) C40_4
theorem u40_5 : wpC P C40_5 T L (rdy h) Q = wpC P (.seq (.reg L40_3) C40_4) T L (rdy h) Q := rfl
def C40_6 : ACode := .seq (.reg L40_0) C40_5
theorem u40_6 : wpC P C40_6 T L (rdy h) Q = wpC P (.seq (.reg L40_0) C40_5) T L (rdy h) Q := rfl
def F40 : AFunc := ⟨12, [.tmp 4], C40_6⟩
theorem cF40 : compB Try.prog 40 = some F40 := by kernel_rfl
end
attribute [local go_sem ↓] u40_0 u40_1 u40_2 u40_3 u40_4 u40_5 u40_6 v40_0 v40_1 v40_2 v40_3 v40_4 v40_5 v40_6
theorem k_heldC (x : List Arg) (p : CV) (k : Int) (h : H) (a : SlC h p (mkC k x)) (k1 : 0 ≤ k) (k2 : k ≤ 2 ^ 32) (m : miniC x) : bm Try.prog 40 [.agg [p], .one (.int .i64 k)] h = some (ii (k + (cellsC x : Nat)), h) := by
  refine bm_eq cF40 ?_
  simp +contextual (maxSteps := 2000000) only [go_sem, Nat.reduceEqDiff, reduceCtorEq, Nat.reduceAdd, Nat.reduceLeDiff, F40, c_heldArgS x p k h a k1 k2 m, decide_eq_false (show ¬ (k + (cellsC x : Nat) < 0) by omega)]
attribute [local go_sem] lenY encY_0 encY_1 encY_2
attribute [local go_sem] lenV encV_0
end Go.Proofs.Ytnphlonhogcedaa.Am
