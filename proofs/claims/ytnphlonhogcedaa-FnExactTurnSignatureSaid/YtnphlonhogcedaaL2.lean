/- Contracts of the laws: sizes. -/
import Derived.Test.YtnphlonhogcedaaDat
namespace Go.Proofs.Ytnphlonhogcedaa.Am
open Go
set_option maxRecDepth 100000
set_option maxHeartbeats 4000000
set_option linter.unusedSimpArgs false
set_option linter.unusedVariables false
attribute [local go_sem ↓] bv_t bv_c ev_t ev_c put_same put_ne put_none kill_at pro_at lb_same lb_ne start_zero start_succ wpC_seq wpC_reg wpC_cond wpC_block wpC_skip wpC_exit wpC_ret thenQ_normal thenQ_exit thenQ_ret inBlk_normal inBlk_exit inBlk_ret wpS_nil wpS_step wpS_again wpS_guard wpO_mov wpO_load wpO_faddr wpO_nilCheck wpO_pick wpO_build wpO_bin wpO_eqb wpO_eqst wpO_eqnil wpO_not wpO_conv wpO_bytesStr wpO_iaddr wpO_idxStr wpO_field wpO_extract wpO_len wpO_lenStr wpO_cap wpO_min wpO_slice wpO_sliceStr wpO_alloc wpO_box wpO_store wpO_call wpO_callv wpO_mkfn wpO_buildSlice wpO_mkslice wpO_append wpO_appz proA_nil proA_cons tmpX_nil tmpX_tmp tmpX_cell doneB_normal doneB_ret agK_cons agK_nil pureB_load results_one results_two results_nil resBs_cons resBs_nil resB_tmp resB_cell
attribute [local go_sem] kill_v kill_lp_ne kill_lp_same pro_v pro_lp_same pro_lp_ne av_v av_lp optB_some optX_some valX_eq ldX_lp ldX_v faX_lp faX_v ncX_lp ncX_ptr ncX_fn boxK_one boxK_agg stL_some stK_lp_one stK_lp_agg stK_v_one stK_v_agg proM_v proM_lp callG_mk callVG_mk callvK_fn fnG_mk ptrsA_nil ptrsA_cons callH_some whenA_true whenA_false guardH_tt guardH_ff guardH_tf guardH_ft guardH_undef agV_one agV_agg lenO_sl lenStrO_str notO_bool pickO_bool convO_int eqbO_bool eqnilO_sl extractO_tup capO_sl minO_int loadL_one loadL_all storeL_eq fillA_nil fillA_one fillA_agg nat_ge neg_ge nat_lt neg_lt buildO bin_add bin_sub bin_mul bin_eql bin_neq bin_lss bin_leq bin_gtr bin_geq str_eql str_neq str_lss str_leq str_gtr str_geq retK_some endK_mk gcK_same gcK_int gcK_bool tupO_one tupO_agg rdy_self ib ii Option.map_none Option.map_some Option.some.injEq exists_eq_left' exists_eq_left ne_eq not_false_eq_true if_true if_false List.map_cons List.map_nil List.getElem?_cons_zero List.getElem?_cons_succ List.length_cons List.length_nil List.take_succ_cons List.take_zero List.take_nil List.drop_succ_cons List.drop_zero List.drop_nil List.cons_append List.nil_append List.append_nil List.set_cons_zero List.set_cons_succ Nat.zero_add forall_const true_and and_true and_self Bool.false_eq_true false_implies true_implies implies_true Bool.not_true Bool.not_false Bool.not_eq_true' Bool.not_eq_false' beq_self_eq_true Bool.bne_true Bool.bne_false
attribute [local go_sem] lenI lenS lenP lenQ lenB lenL lenT encI_0 encS_0 encP_0 encP_1 encQ_0 encQ_1 encQ_2 encQ_3 encB_0 encB_1 encL_0 encL_1 encT_0 encT_1
attribute [local go_sem low] whenA_bool guardH_bool
theorem i64_sub {a : Int} {n : Nat} (h1 : 0 ≤ a) (h2 : a ≤ 1048576) (h3 : n ≤ far) : IntKind.i64.wrap (a - n) = a - n := by unfold far at h3; rw [i64_wrap (by omega) (by omega)]
section
variable {P : Program} {T : Tb} {L : Lb} {h : H} {Q : PostC} {K : Post}
/-! laws.szParam -/
def L190_0 : List AStep := [⟨.box 202 (.t 0), (some 2), none, []⟩, ⟨.mov (.c (.int .i64 0)), (some 4), none, []⟩]
theorem v190_0 : wpS P L190_0 T L (rdy h) K = wpS P ([⟨.box 202 (.t 0), (some 2), none, []⟩, ⟨.mov (.c (.int .i64 0)), (some 4), none, []⟩]) T L (rdy h) K := rfl
def L190_1 : List AStep := [⟨.bin .sub (.t 5) (.t 8), (some 9), none, []⟩, ⟨.mov (.t 9), (some 1), none, []⟩]
theorem v190_1 : wpS P L190_1 T L (rdy h) K = wpS P ([⟨.bin .sub (.t 5) (.t 8), (some 9), none, []⟩, ⟨.mov (.t 9), (some 1), none, []⟩]) T L (rdy h) K := rfl
def L190_2 : List AStep := ⟨.load 1 false (.t 6), (some 7), none, []⟩ :: ⟨.lenStr (.t 7), (some 8), none, []⟩ :: L190_1
theorem v190_2 : wpS P L190_2 T L (rdy h) K = wpS P (⟨.load 1 false (.t 6), (some 7), none, []⟩ :: ⟨.lenStr (.t 7), (some 8), none, []⟩ :: L190_1) T L (rdy h) K := rfl
def L190_3 : List AStep := ⟨.mov (.t 1), (some 5), none, []⟩ :: ⟨.faddr 0 (.t 2), (some 6), none, []⟩ :: L190_2
theorem v190_3 : wpS P L190_3 T L (rdy h) K = wpS P (⟨.mov (.t 1), (some 5), none, []⟩ :: ⟨.faddr 0 (.t 2), (some 6), none, []⟩ :: L190_2) T L (rdy h) K := rfl
def L190_4 : List AStep := [⟨.mov (.t 1), (some 10), none, []⟩, ⟨.bin .lss (.t 10) (.c (.int .i64 0)), (some 11), none, []⟩]
theorem v190_4 : wpS P L190_4 T L (rdy h) K = wpS P ([⟨.mov (.t 1), (some 10), none, []⟩, ⟨.bin .lss (.t 10) (.c (.int .i64 0)), (some 11), none, []⟩]) T L (rdy h) K := rfl
def L190_5 : List AStep := [⟨.mov (.c (.int .i64 (-1))), (some 4), none, []⟩]
theorem v190_5 : wpS P L190_5 T L (rdy h) K = wpS P ([⟨.mov (.c (.int .i64 (-1))), (some 4), none, []⟩]) T L (rdy h) K := rfl
def L190_6 : List AStep := [⟨.mov (.t 1), (some 12), none, []⟩, ⟨.mov (.t 12), (some 4), none, []⟩]
theorem v190_6 : wpS P L190_6 T L (rdy h) K = wpS P ([⟨.mov (.t 1), (some 12), none, []⟩, ⟨.mov (.t 12), (some 4), none, []⟩]) T L (rdy h) K := rfl
def C190_0 : ACode := .seq (.reg L190_5) .ret
theorem u190_0 : wpC P C190_0 T L (rdy h) Q = wpC P (.seq (.reg L190_5) .ret) T L (rdy h) Q := rfl
def C190_1 : ACode := .cond (.t 11) C190_0 .skip
theorem u190_1 : wpC P C190_1 T L (rdy h) Q = wpC P (.cond (.t 11) C190_0 .skip) T L (rdy h) Q := rfl
def C190_2 : ACode := .seq (.reg L190_4) C190_1
theorem u190_2 : wpC P C190_2 T L (rdy h) Q = wpC P (.seq (.reg L190_4) C190_1) T L (rdy h) Q := rfl
def C190_3 : ACode := .seq (.reg L190_6) .ret
theorem u190_3 : wpC P C190_3 T L (rdy h) Q = wpC P (.seq (.reg L190_6) .ret) T L (rdy h) Q := rfl
def C190_4 : ACode := .seq C190_2 C190_3
theorem u190_4 : wpC P C190_4 T L (rdy h) Q = wpC P (.seq C190_2 C190_3) T L (rdy h) Q := rfl
def C190_5 : ACode := .seq (.reg L190_3) C190_4
theorem u190_5 : wpC P C190_5 T L (rdy h) Q = wpC P (.seq (.reg L190_3) C190_4) T L (rdy h) Q := rfl
def C190_6 : ACode := .seq (.reg L190_0) C190_5
theorem u190_6 : wpC P C190_6 T L (rdy h) Q = wpC P (.seq (.reg L190_0) C190_5) T L (rdy h) Q := rfl
def F190 : AFunc := ⟨13, [.tmp 4], C190_6⟩
theorem cF190 : compB Try.prog 190 = some F190 := by kernel_rfl
end
attribute [local go_sem ↓] u190_0 u190_1 u190_2 u190_3 u190_4 u190_5 u190_6 v190_0 v190_1 v190_2 v190_3 v190_4 v190_5 v190_6
theorem c_szParam (p : Param) (left : Int) (h : H) (h1 : 0 ≤ left) (h2 : left ≤ 1048576) (k0 : p.name.size ≤ far) : bm Try.prog 190 [.agg (encQ p), .one (.int .i64 left)] h = some (ii (szr left (wtQ p)), h) := by
  refine bm_eq cF190 ?_
  simp +contextual (maxSteps := 2000000) only [go_sem, Nat.reduceEqDiff, reduceCtorEq, Nat.reduceAdd, Nat.reduceLeDiff, F190, i64_sub h1 h2 k0]
  unfold szr wtQ
  (repeat' (first | refine And.intro ?_ ?_ | intro _)) <;> first | (simp_all; done) | (simp_all; omega)
section
variable {P : Program} {T : Tb} {L : Lb} {h : H} {Q : PostC} {K : Post}
/-! laws.szTurn -/
def L137_0 : List AStep := [⟨.box 163 (.t 0), (some 2), none, []⟩, ⟨.mov (.c (.int .i64 0)), (some 4), none, []⟩]
theorem v137_0 : wpS P L137_0 T L (rdy h) K = wpS P ([⟨.box 163 (.t 0), (some 2), none, []⟩, ⟨.mov (.c (.int .i64 0)), (some 4), none, []⟩]) T L (rdy h) K := rfl
def L137_1 : List AStep := [⟨.bin .sub (.t 5) (.t 8), (some 9), none, []⟩, ⟨.mov (.t 9), (some 1), none, []⟩]
theorem v137_1 : wpS P L137_1 T L (rdy h) K = wpS P ([⟨.bin .sub (.t 5) (.t 8), (some 9), none, []⟩, ⟨.mov (.t 9), (some 1), none, []⟩]) T L (rdy h) K := rfl
def L137_2 : List AStep := ⟨.load 1 false (.t 6), (some 7), none, []⟩ :: ⟨.lenStr (.t 7), (some 8), none, []⟩ :: L137_1
theorem v137_2 : wpS P L137_2 T L (rdy h) K = wpS P (⟨.load 1 false (.t 6), (some 7), none, []⟩ :: ⟨.lenStr (.t 7), (some 8), none, []⟩ :: L137_1) T L (rdy h) K := rfl
def L137_3 : List AStep := ⟨.mov (.t 1), (some 5), none, []⟩ :: ⟨.faddr 0 (.t 2), (some 6), none, []⟩ :: L137_2
theorem v137_3 : wpS P L137_3 T L (rdy h) K = wpS P (⟨.mov (.t 1), (some 5), none, []⟩ :: ⟨.faddr 0 (.t 2), (some 6), none, []⟩ :: L137_2) T L (rdy h) K := rfl
def L137_4 : List AStep := [⟨.mov (.t 1), (some 10), none, []⟩, ⟨.bin .lss (.t 10) (.c (.int .i64 0)), (some 11), none, []⟩]
theorem v137_4 : wpS P L137_4 T L (rdy h) K = wpS P ([⟨.mov (.t 1), (some 10), none, []⟩, ⟨.bin .lss (.t 10) (.c (.int .i64 0)), (some 11), none, []⟩]) T L (rdy h) K := rfl
def L137_5 : List AStep := [⟨.mov (.c (.int .i64 (-1))), (some 4), none, []⟩]
theorem v137_5 : wpS P L137_5 T L (rdy h) K = wpS P ([⟨.mov (.c (.int .i64 (-1))), (some 4), none, []⟩]) T L (rdy h) K := rfl
def L137_6 : List AStep := [⟨.bin .sub (.t 12) (.t 15), (some 16), none, []⟩, ⟨.mov (.t 16), (some 1), none, []⟩]
theorem v137_6 : wpS P L137_6 T L (rdy h) K = wpS P ([⟨.bin .sub (.t 12) (.t 15), (some 16), none, []⟩, ⟨.mov (.t 16), (some 1), none, []⟩]) T L (rdy h) K := rfl
def L137_7 : List AStep := ⟨.load 1 false (.t 13), (some 14), none, []⟩ :: ⟨.lenStr (.t 14), (some 15), none, []⟩ :: L137_6
theorem v137_7 : wpS P L137_7 T L (rdy h) K = wpS P (⟨.load 1 false (.t 13), (some 14), none, []⟩ :: ⟨.lenStr (.t 14), (some 15), none, []⟩ :: L137_6) T L (rdy h) K := rfl
def L137_8 : List AStep := ⟨.mov (.t 1), (some 12), none, []⟩ :: ⟨.faddr 1 (.t 2), (some 13), none, []⟩ :: L137_7
theorem v137_8 : wpS P L137_8 T L (rdy h) K = wpS P (⟨.mov (.t 1), (some 12), none, []⟩ :: ⟨.faddr 1 (.t 2), (some 13), none, []⟩ :: L137_7) T L (rdy h) K := rfl
def L137_9 : List AStep := [⟨.mov (.t 1), (some 17), none, []⟩, ⟨.bin .lss (.t 17) (.c (.int .i64 0)), (some 18), none, []⟩]
theorem v137_9 : wpS P L137_9 T L (rdy h) K = wpS P ([⟨.mov (.t 1), (some 17), none, []⟩, ⟨.bin .lss (.t 17) (.c (.int .i64 0)), (some 18), none, []⟩]) T L (rdy h) K := rfl
def L137_10 : List AStep := [⟨.mov (.c (.int .i64 (-1))), (some 4), none, []⟩]
theorem v137_10 : wpS P L137_10 T L (rdy h) K = wpS P ([⟨.mov (.c (.int .i64 (-1))), (some 4), none, []⟩]) T L (rdy h) K := rfl
def L137_11 : List AStep := [⟨.mov (.t 1), (some 19), none, []⟩, ⟨.mov (.t 19), (some 4), none, []⟩]
theorem v137_11 : wpS P L137_11 T L (rdy h) K = wpS P ([⟨.mov (.t 1), (some 19), none, []⟩, ⟨.mov (.t 19), (some 4), none, []⟩]) T L (rdy h) K := rfl
def C137_0 : ACode := .seq (.reg L137_5) .ret
theorem u137_0 : wpC P C137_0 T L (rdy h) Q = wpC P (.seq (.reg L137_5) .ret) T L (rdy h) Q := rfl
def C137_1 : ACode := .cond (.t 11) C137_0 .skip
theorem u137_1 : wpC P C137_1 T L (rdy h) Q = wpC P (.cond (.t 11) C137_0 .skip) T L (rdy h) Q := rfl
def C137_2 : ACode := .seq (.reg L137_4) C137_1
theorem u137_2 : wpC P C137_2 T L (rdy h) Q = wpC P (.seq (.reg L137_4) C137_1) T L (rdy h) Q := rfl
def C137_3 : ACode := .seq (.reg L137_10) .ret
theorem u137_3 : wpC P C137_3 T L (rdy h) Q = wpC P (.seq (.reg L137_10) .ret) T L (rdy h) Q := rfl
def C137_4 : ACode := .cond (.t 18) C137_3 .skip
theorem u137_4 : wpC P C137_4 T L (rdy h) Q = wpC P (.cond (.t 18) C137_3 .skip) T L (rdy h) Q := rfl
def C137_5 : ACode := .seq (.reg L137_9) C137_4
theorem u137_5 : wpC P C137_5 T L (rdy h) Q = wpC P (.seq (.reg L137_9) C137_4) T L (rdy h) Q := rfl
def C137_6 : ACode := .seq (.reg L137_11) .ret
theorem u137_6 : wpC P C137_6 T L (rdy h) Q = wpC P (.seq (.reg L137_11) .ret) T L (rdy h) Q := rfl
def C137_7 : ACode := .seq C137_5 C137_6
theorem u137_7 : wpC P C137_7 T L (rdy h) Q = wpC P (.seq C137_5 C137_6) T L (rdy h) Q := rfl
def C137_8 : ACode := .seq (.reg L137_8) C137_7
theorem u137_8 : wpC P C137_8 T L (rdy h) Q = wpC P (.seq (.reg L137_8) C137_7) T L (rdy h) Q := rfl
def C137_9 : ACode := .seq C137_2 C137_8
theorem u137_9 : wpC P C137_9 T L (rdy h) Q = wpC P (.seq C137_2 C137_8) T L (rdy h) Q := rfl
def C137_10 : ACode := .seq (.reg L137_3) C137_9
theorem u137_10 : wpC P C137_10 T L (rdy h) Q = wpC P (.seq (.reg L137_3) C137_9) T L (rdy h) Q := rfl
def C137_11 : ACode := .seq (.reg L137_0) C137_10
theorem u137_11 : wpC P C137_11 T L (rdy h) Q = wpC P (.seq (.reg L137_0) C137_10) T L (rdy h) Q := rfl
def F137 : AFunc := ⟨20, [.tmp 4], C137_11⟩
theorem cF137 : compB Try.prog 137 = some F137 := by kernel_rfl
end
attribute [local go_sem ↓] u137_0 u137_1 u137_2 u137_3 u137_4 u137_5 u137_6 u137_7 u137_8 u137_9 u137_10 u137_11 v137_0 v137_1 v137_2 v137_3 v137_4 v137_5 v137_6 v137_7 v137_8 v137_9 v137_10 v137_11
theorem c_szTurn (p : Turn) (left : Int) (h : H) (h1 : 0 ≤ left) (h2 : left ≤ 1048576) (k0 : p.fr.size ≤ far) (k1 : p.to.size ≤ far) : bm Try.prog 137 [.agg (encT p), .one (.int .i64 left)] h = some (ii (szr left (wtT p)), h) := by
  refine bm_eq cF137 ?_
  by_cases e : left - (p.fr.size : Int) < 0
  · simp +contextual (maxSteps := 2000000) only [go_sem, Nat.reduceEqDiff, reduceCtorEq, Nat.reduceAdd, Nat.reduceLeDiff, F137, i64_sub h1 h2 k0, decide_eq_true e]
    unfold szr wtT
    rw [if_pos (by omega)]
  · simp +contextual (maxSteps := 2000000) only [go_sem, Nat.reduceEqDiff, reduceCtorEq, Nat.reduceAdd, Nat.reduceLeDiff, F137, i64_sub h1 h2 k0, decide_eq_false e, i64_sub (show 0 ≤ left - (p.fr.size : Int) by omega) (by omega) k1]
    unfold szr wtT
    (repeat' (first | refine And.intro ?_ ?_ | intro _)) <;> first | (split <;> simp_all <;> omega)
section
variable {P : Program} {T : Tb} {L : Lb} {h : H} {Q : PostC} {K : Post}
/-! laws.szParamS -/
def L122_0 : List AStep := [⟨.mov (.c (.int .i64 0)), (some 4), none, []⟩]
theorem v122_0 : wpS P L122_0 T L (rdy h) K = wpS P ([⟨.mov (.c (.int .i64 0)), (some 4), none, []⟩]) T L (rdy h) K := rfl
def L122_1 : List AStep := [⟨.mov (.t 9), (some 1), none, []⟩]
theorem v122_1 : wpS P L122_1 T L (rdy h) K = wpS P ([⟨.mov (.t 9), (some 1), none, []⟩]) T L (rdy h) K := rfl
def L122_2 : List AStep := ⟨.len (.t 7), (some 8), none, []⟩ :: ⟨.bin .sub (.t 6) (.t 8), (some 9), none, []⟩ :: L122_1
theorem v122_2 : wpS P L122_2 T L (rdy h) K = wpS P (⟨.len (.t 7), (some 8), none, []⟩ :: ⟨.bin .sub (.t 6) (.t 8), (some 9), none, []⟩ :: L122_1) T L (rdy h) K := rfl
def L122_3 : List AStep := ⟨.mov (.t 1), (some 6), none, []⟩ :: ⟨.mov (.t 0), (some 7), none, []⟩ :: L122_2
theorem v122_3 : wpS P L122_3 T L (rdy h) K = wpS P (⟨.mov (.t 1), (some 6), none, []⟩ :: ⟨.mov (.t 0), (some 7), none, []⟩ :: L122_2) T L (rdy h) K := rfl
def L122_4 : List AStep := [⟨.mov (.t 1), (some 10), none, []⟩, ⟨.bin .lss (.t 10) (.c (.int .i64 0)), (some 11), none, []⟩]
theorem v122_4 : wpS P L122_4 T L (rdy h) K = wpS P ([⟨.mov (.t 1), (some 10), none, []⟩, ⟨.bin .lss (.t 10) (.c (.int .i64 0)), (some 11), none, []⟩]) T L (rdy h) K := rfl
def L122_5 : List AStep := [⟨.mov (.c (.int .i64 (-1))), (some 4), none, []⟩]
theorem v122_5 : wpS P L122_5 T L (rdy h) K = wpS P ([⟨.mov (.c (.int .i64 (-1))), (some 4), none, []⟩]) T L (rdy h) K := rfl
def L122_6 : List AStep := [⟨.mov (.c (.int .i64 0)), (some 5), none, []⟩]
theorem v122_6 : wpS P L122_6 T L (rdy h) K = wpS P ([⟨.mov (.c (.int .i64 0)), (some 5), none, []⟩]) T L (rdy h) K := rfl
def L122_7 : List AStep := [⟨.len (.t 13), (some 14), none, []⟩, ⟨.bin .lss (.t 12) (.t 14), (some 15), none, []⟩]
theorem v122_7 : wpS P L122_7 T L (rdy h) K = wpS P ([⟨.len (.t 13), (some 14), none, []⟩, ⟨.bin .lss (.t 12) (.t 14), (some 15), none, []⟩]) T L (rdy h) K := rfl
def L122_8 : List AStep := ⟨.mov (.t 5), (some 12), none, []⟩ :: ⟨.mov (.t 0), (some 13), none, []⟩ :: L122_7
theorem v122_8 : wpS P L122_8 T L (rdy h) K = wpS P (⟨.mov (.t 5), (some 12), none, []⟩ :: ⟨.mov (.t 0), (some 13), none, []⟩ :: L122_7) T L (rdy h) K := rfl
def L122_9 : List AStep := [⟨.mov (.t 23), (some 1), none, []⟩]
theorem v122_9 : wpS P L122_9 T L (rdy h) K = wpS P ([⟨.mov (.t 23), (some 1), none, []⟩]) T L (rdy h) K := rfl
def L122_10 : List AStep := ⟨.mov (.t 1), (some 22), none, []⟩ :: ⟨.call 190 [(.t 21), (.t 22)], (some 23), none, []⟩ :: L122_9
theorem v122_10 : wpS P L122_10 T L (rdy h) K = wpS P (⟨.mov (.t 1), (some 22), none, []⟩ :: ⟨.call 190 [(.t 21), (.t 22)], (some 23), none, []⟩ :: L122_9) T L (rdy h) K := rfl
def L122_11 : List AStep := ⟨.iaddr 4 (.t 18) (.t 19), (some 20), none, []⟩ :: ⟨.load 4 true (.t 20), (some 21), none, []⟩ :: L122_10
theorem v122_11 : wpS P L122_11 T L (rdy h) K = wpS P (⟨.iaddr 4 (.t 18) (.t 19), (some 20), none, []⟩ :: ⟨.load 4 true (.t 20), (some 21), none, []⟩ :: L122_10) T L (rdy h) K := rfl
def L122_12 : List AStep := ⟨.mov (.t 0), (some 18), none, []⟩ :: ⟨.mov (.t 5), (some 19), none, []⟩ :: L122_11
theorem v122_12 : wpS P L122_12 T L (rdy h) K = wpS P (⟨.mov (.t 0), (some 18), none, []⟩ :: ⟨.mov (.t 5), (some 19), none, []⟩ :: L122_11) T L (rdy h) K := rfl
def L122_13 : List AStep := [⟨.mov (.t 1), (some 24), none, []⟩, ⟨.bin .lss (.t 24) (.c (.int .i64 0)), (some 25), none, []⟩]
theorem v122_13 : wpS P L122_13 T L (rdy h) K = wpS P ([⟨.mov (.t 1), (some 24), none, []⟩, ⟨.bin .lss (.t 24) (.c (.int .i64 0)), (some 25), none, []⟩]) T L (rdy h) K := rfl
def L122_14 : List AStep := [⟨.mov (.c (.int .i64 (-1))), (some 4), none, []⟩]
theorem v122_14 : wpS P L122_14 T L (rdy h) K = wpS P ([⟨.mov (.c (.int .i64 (-1))), (some 4), none, []⟩]) T L (rdy h) K := rfl
def L122_15 : List AStep := [⟨.mov (.t 17), (some 5), none, []⟩]
theorem v122_15 : wpS P L122_15 T L (rdy h) K = wpS P ([⟨.mov (.t 17), (some 5), none, []⟩]) T L (rdy h) K := rfl
def L122_16 : List AStep := ⟨.mov (.t 5), (some 16), none, []⟩ :: ⟨.bin .add (.t 16) (.c (.int .i64 1)), (some 17), none, []⟩ :: L122_15
theorem v122_16 : wpS P L122_16 T L (rdy h) K = wpS P (⟨.mov (.t 5), (some 16), none, []⟩ :: ⟨.bin .add (.t 16) (.c (.int .i64 1)), (some 17), none, []⟩ :: L122_15) T L (rdy h) K := rfl
def L122_17 : List AStep := [⟨.mov (.t 1), (some 26), none, []⟩, ⟨.mov (.t 26), (some 4), none, []⟩]
theorem v122_17 : wpS P L122_17 T L (rdy h) K = wpS P ([⟨.mov (.t 1), (some 26), none, []⟩, ⟨.mov (.t 26), (some 4), none, []⟩]) T L (rdy h) K := rfl
def C122_0 : ACode := .seq (.reg L122_5) .ret
theorem u122_0 : wpC P C122_0 T L (rdy h) Q = wpC P (.seq (.reg L122_5) .ret) T L (rdy h) Q := rfl
def C122_1 : ACode := .cond (.t 11) C122_0 .skip
theorem u122_1 : wpC P C122_1 T L (rdy h) Q = wpC P (.cond (.t 11) C122_0 .skip) T L (rdy h) Q := rfl
def C122_2 : ACode := .seq (.reg L122_4) C122_1
theorem u122_2 : wpC P C122_2 T L (rdy h) Q = wpC P (.seq (.reg L122_4) C122_1) T L (rdy h) Q := rfl
def C122_3 : ACode := .cond (.t 15) .skip (.exit 0)
theorem u122_3 : wpC P C122_3 T L (rdy h) Q = wpC P (.cond (.t 15) .skip (.exit 0)) T L (rdy h) Q := rfl
def C122_4 : ACode := .seq (.reg L122_8) C122_3
theorem u122_4 : wpC P C122_4 T L (rdy h) Q = wpC P (.seq (.reg L122_8) C122_3) T L (rdy h) Q := rfl
def C122_5 : ACode := .seq (.reg L122_14) .ret
theorem u122_5 : wpC P C122_5 T L (rdy h) Q = wpC P (.seq (.reg L122_14) .ret) T L (rdy h) Q := rfl
def C122_6 : ACode := .cond (.t 25) C122_5 .skip
theorem u122_6 : wpC P C122_6 T L (rdy h) Q = wpC P (.cond (.t 25) C122_5 .skip) T L (rdy h) Q := rfl
def C122_7 : ACode := .seq (.reg L122_13) C122_6
theorem u122_7 : wpC P C122_7 T L (rdy h) Q = wpC P (.seq (.reg L122_13) C122_6) T L (rdy h) Q := rfl
def C122_8 : ACode := .seq (.reg L122_12) C122_7
theorem u122_8 : wpC P C122_8 T L (rdy h) Q = wpC P (.seq (.reg L122_12) C122_7) T L (rdy h) Q := rfl
def C122_9 : ACode := .block 1 C122_8
theorem u122_9 : wpC P C122_9 T L (rdy h) Q = wpC P (.block 1 C122_8) T L (rdy h) Q := rfl
def C122_10 : ACode := .seq C122_9 (.reg L122_16)
theorem u122_10 : wpC P C122_10 T L (rdy h) Q = wpC P (.seq C122_9 (.reg L122_16)) T L (rdy h) Q := rfl
def C122_11 : ACode := .seq C122_4 C122_10
theorem u122_11 : wpC P C122_11 T L (rdy h) Q = wpC P (.seq C122_4 C122_10) T L (rdy h) Q := rfl
def C122_12 : ACode := .block 0 (.loop C122_11)
theorem u122_12 : wpC P C122_12 T L (rdy h) Q = wpC P (.block 0 (.loop C122_11)) T L (rdy h) Q := rfl
def C122_13 : ACode := .seq (.reg L122_6) C122_12
theorem u122_13 : wpC P C122_13 T L (rdy h) Q = wpC P (.seq (.reg L122_6) C122_12) T L (rdy h) Q := rfl
def C122_14 : ACode := .seq (.reg L122_17) .ret
theorem u122_14 : wpC P C122_14 T L (rdy h) Q = wpC P (.seq (.reg L122_17) .ret) T L (rdy h) Q := rfl
def C122_15 : ACode := .seq C122_13 C122_14
theorem u122_15 : wpC P C122_15 T L (rdy h) Q = wpC P (.seq C122_13 C122_14) T L (rdy h) Q := rfl
def C122_16 : ACode := .seq C122_2 C122_15
theorem u122_16 : wpC P C122_16 T L (rdy h) Q = wpC P (.seq C122_2 C122_15) T L (rdy h) Q := rfl
def C122_17 : ACode := .seq (.reg L122_3) C122_16
theorem u122_17 : wpC P C122_17 T L (rdy h) Q = wpC P (.seq (.reg L122_3) C122_16) T L (rdy h) Q := rfl
def C122_18 : ACode := .seq (.reg L122_0) C122_17
theorem u122_18 : wpC P C122_18 T L (rdy h) Q = wpC P (.seq (.reg L122_0) C122_17) T L (rdy h) Q := rfl
def F122 : AFunc := ⟨27, [.tmp 4], C122_18⟩
theorem cF122 : compB Try.prog 122 = some F122 := by kernel_rfl
end
attribute [local go_sem ↓] u122_0 u122_1 u122_2 u122_3 u122_4 u122_5 u122_6 u122_7 u122_8 u122_9 u122_10 u122_11 u122_12 u122_13 u122_14 u122_15 u122_16 u122_17 u122_18 v122_0 v122_1 v122_2 v122_3 v122_4 v122_5 v122_6 v122_7 v122_8 v122_9 v122_10 v122_11 v122_12 v122_13 v122_14 v122_15 v122_16 v122_17
theorem c_szParamS {ty : Nat} (l : List Param) (v : AV) (left : Int) (h : H) (h1 : 0 ≤ left) (h2 : left ≤ 1048576) (hl : Sl encQ 4 ty h v l) (k0 : l.length ≤ far) (k1 : ∀ x ∈ l, x.name.size ≤ far) : bm Try.prog 122 [v, .one (.int .i64 left)] h = some (ii (szr left (wtL wtQ l)), h) := by
  refine bm_eq cF122 ?_
  by_cases e : left - (l.length : Int) < 0
  · simp +contextual (maxSteps := 2000000) only [go_sem, Nat.reduceEqDiff, reduceCtorEq, Nat.reduceAdd, Nat.reduceLeDiff, F122, hl.len, i64_sub h1 h2 k0, decide_eq_true e]
    unfold szr wtL
    rw [if_pos (by omega)]
  simp +contextual (maxSteps := 2000000) only [go_sem, Nat.reduceEqDiff, reduceCtorEq, Nat.reduceAdd, Nat.reduceLeDiff, F122, hl.len, i64_sub h1 h2 k0, decide_eq_false e]
  refine wpC_loop (fun i T L h' => h' = h ∧ T 0 = .v v ∧ T 5 = .v (.one (.int .i64 i)) ∧ T 1 = .v (.one (.int .i64 (left - (l.length : Int) - (wsum wtQ l i : Int)))) ∧ 0 ≤ left - (l.length : Int) - (wsum wtQ l i : Int)) l.length ?_ ?_ (Nat.zero_le _) ?_
  · rintro i T L h' hi ⟨rfl, t0, t5, t1, hw⟩
    have hm := List.getElem_mem hi
    have e2 := wsum_next (f := wtQ) hi
    have e3 := wsum_le (f := wtQ) (l := l) (show i + 1 ≤ l.length by omega)
    have e1 := c_szParam l[i] (left - (l.length : Int) - (wsum wtQ l i : Int)) h' hw (by omega) (k1 _ hm)
    by_cases e4 : left - (l.length : Int) - (wsum wtQ l i : Int) - (wtQ l[i] : Int) < 0
    · simp +contextual (maxSteps := 2000000) only [go_sem, Nat.reduceEqDiff, reduceCtorEq, Nat.reduceAdd, Nat.reduceLeDiff, t0, t1, t5, hl.len, hl.iaddr hi, hl.whole hi, e1, lt_true hi, decide_eq_true (szr_lt.2 e4)]
      unfold szr wtL
      rw [if_pos (by omega)]
    · simp +contextual (maxSteps := 2000000) only [go_sem, Nat.reduceEqDiff, reduceCtorEq, Nat.reduceAdd, Nat.reduceLeDiff, t0, t1, t5, hl.len, hl.iaddr hi, hl.whole hi, e1, lt_true hi, decide_eq_false (show ¬ szr (left - (l.length : Int) - (wsum wtQ l i : Int)) (wtQ l[i]) < 0 by rw [szr_lt]; exact e4)]
      have e5 : szr (left - (l.length : Int) - (wsum wtQ l i : Int)) (wtQ l[i]) = left - (l.length : Int) - (wsum wtQ l (i + 1) : Int) := by
        unfold szr
        rw [if_neg e4, e2]
        omega
      rw [wrap_next hi (by omega), e5]
      exact ⟨rfl, rfl, by omega⟩
  · rintro T L h' ⟨rfl, t0, t5, t1, hw⟩
    simp +contextual (maxSteps := 2000000) only [go_sem, Nat.reduceEqDiff, reduceCtorEq, Nat.reduceAdd, Nat.reduceLeDiff, t0, t1, t5, hl.len, lt_false]
    unfold szr wtL
    rw [if_neg (by omega)]
    rw [show left - (l.length : Int) - (wsum wtQ l l.length : Int) = left - ((l.length + wsum wtQ l l.length : Nat) : Int) by omega]
  · simp +contextual (maxSteps := 2000000) only [go_sem, Nat.reduceEqDiff, reduceCtorEq, Nat.reduceAdd, Nat.reduceLeDiff, wsum_zero]
    (repeat' (first | refine And.intro ?_ ?_ | intro _)) <;> first | rfl | (simp; done) | (simp; omega)
section
variable {P : Program} {T : Tb} {L : Lb} {h : H} {Q : PostC} {K : Post}
/-! laws.szTurnS -/
def L61_0 : List AStep := [⟨.mov (.c (.int .i64 0)), (some 4), none, []⟩]
theorem v61_0 : wpS P L61_0 T L (rdy h) K = wpS P ([⟨.mov (.c (.int .i64 0)), (some 4), none, []⟩]) T L (rdy h) K := rfl
def L61_1 : List AStep := [⟨.mov (.t 9), (some 1), none, []⟩]
theorem v61_1 : wpS P L61_1 T L (rdy h) K = wpS P ([⟨.mov (.t 9), (some 1), none, []⟩]) T L (rdy h) K := rfl
def L61_2 : List AStep := ⟨.len (.t 7), (some 8), none, []⟩ :: ⟨.bin .sub (.t 6) (.t 8), (some 9), none, []⟩ :: L61_1
theorem v61_2 : wpS P L61_2 T L (rdy h) K = wpS P (⟨.len (.t 7), (some 8), none, []⟩ :: ⟨.bin .sub (.t 6) (.t 8), (some 9), none, []⟩ :: L61_1) T L (rdy h) K := rfl
def L61_3 : List AStep := ⟨.mov (.t 1), (some 6), none, []⟩ :: ⟨.mov (.t 0), (some 7), none, []⟩ :: L61_2
theorem v61_3 : wpS P L61_3 T L (rdy h) K = wpS P (⟨.mov (.t 1), (some 6), none, []⟩ :: ⟨.mov (.t 0), (some 7), none, []⟩ :: L61_2) T L (rdy h) K := rfl
def L61_4 : List AStep := [⟨.mov (.t 1), (some 10), none, []⟩, ⟨.bin .lss (.t 10) (.c (.int .i64 0)), (some 11), none, []⟩]
theorem v61_4 : wpS P L61_4 T L (rdy h) K = wpS P ([⟨.mov (.t 1), (some 10), none, []⟩, ⟨.bin .lss (.t 10) (.c (.int .i64 0)), (some 11), none, []⟩]) T L (rdy h) K := rfl
def L61_5 : List AStep := [⟨.mov (.c (.int .i64 (-1))), (some 4), none, []⟩]
theorem v61_5 : wpS P L61_5 T L (rdy h) K = wpS P ([⟨.mov (.c (.int .i64 (-1))), (some 4), none, []⟩]) T L (rdy h) K := rfl
def L61_6 : List AStep := [⟨.mov (.c (.int .i64 0)), (some 5), none, []⟩]
theorem v61_6 : wpS P L61_6 T L (rdy h) K = wpS P ([⟨.mov (.c (.int .i64 0)), (some 5), none, []⟩]) T L (rdy h) K := rfl
def L61_7 : List AStep := [⟨.len (.t 13), (some 14), none, []⟩, ⟨.bin .lss (.t 12) (.t 14), (some 15), none, []⟩]
theorem v61_7 : wpS P L61_7 T L (rdy h) K = wpS P ([⟨.len (.t 13), (some 14), none, []⟩, ⟨.bin .lss (.t 12) (.t 14), (some 15), none, []⟩]) T L (rdy h) K := rfl
def L61_8 : List AStep := ⟨.mov (.t 5), (some 12), none, []⟩ :: ⟨.mov (.t 0), (some 13), none, []⟩ :: L61_7
theorem v61_8 : wpS P L61_8 T L (rdy h) K = wpS P (⟨.mov (.t 5), (some 12), none, []⟩ :: ⟨.mov (.t 0), (some 13), none, []⟩ :: L61_7) T L (rdy h) K := rfl
def L61_9 : List AStep := [⟨.mov (.t 23), (some 1), none, []⟩]
theorem v61_9 : wpS P L61_9 T L (rdy h) K = wpS P ([⟨.mov (.t 23), (some 1), none, []⟩]) T L (rdy h) K := rfl
def L61_10 : List AStep := ⟨.mov (.t 1), (some 22), none, []⟩ :: ⟨.call 137 [(.t 21), (.t 22)], (some 23), none, []⟩ :: L61_9
theorem v61_10 : wpS P L61_10 T L (rdy h) K = wpS P (⟨.mov (.t 1), (some 22), none, []⟩ :: ⟨.call 137 [(.t 21), (.t 22)], (some 23), none, []⟩ :: L61_9) T L (rdy h) K := rfl
def L61_11 : List AStep := ⟨.iaddr 2 (.t 18) (.t 19), (some 20), none, []⟩ :: ⟨.load 2 true (.t 20), (some 21), none, []⟩ :: L61_10
theorem v61_11 : wpS P L61_11 T L (rdy h) K = wpS P (⟨.iaddr 2 (.t 18) (.t 19), (some 20), none, []⟩ :: ⟨.load 2 true (.t 20), (some 21), none, []⟩ :: L61_10) T L (rdy h) K := rfl
def L61_12 : List AStep := ⟨.mov (.t 0), (some 18), none, []⟩ :: ⟨.mov (.t 5), (some 19), none, []⟩ :: L61_11
theorem v61_12 : wpS P L61_12 T L (rdy h) K = wpS P (⟨.mov (.t 0), (some 18), none, []⟩ :: ⟨.mov (.t 5), (some 19), none, []⟩ :: L61_11) T L (rdy h) K := rfl
def L61_13 : List AStep := [⟨.mov (.t 1), (some 24), none, []⟩, ⟨.bin .lss (.t 24) (.c (.int .i64 0)), (some 25), none, []⟩]
theorem v61_13 : wpS P L61_13 T L (rdy h) K = wpS P ([⟨.mov (.t 1), (some 24), none, []⟩, ⟨.bin .lss (.t 24) (.c (.int .i64 0)), (some 25), none, []⟩]) T L (rdy h) K := rfl
def L61_14 : List AStep := [⟨.mov (.c (.int .i64 (-1))), (some 4), none, []⟩]
theorem v61_14 : wpS P L61_14 T L (rdy h) K = wpS P ([⟨.mov (.c (.int .i64 (-1))), (some 4), none, []⟩]) T L (rdy h) K := rfl
def L61_15 : List AStep := [⟨.mov (.t 17), (some 5), none, []⟩]
theorem v61_15 : wpS P L61_15 T L (rdy h) K = wpS P ([⟨.mov (.t 17), (some 5), none, []⟩]) T L (rdy h) K := rfl
def L61_16 : List AStep := ⟨.mov (.t 5), (some 16), none, []⟩ :: ⟨.bin .add (.t 16) (.c (.int .i64 1)), (some 17), none, []⟩ :: L61_15
theorem v61_16 : wpS P L61_16 T L (rdy h) K = wpS P (⟨.mov (.t 5), (some 16), none, []⟩ :: ⟨.bin .add (.t 16) (.c (.int .i64 1)), (some 17), none, []⟩ :: L61_15) T L (rdy h) K := rfl
def L61_17 : List AStep := [⟨.mov (.t 1), (some 26), none, []⟩, ⟨.mov (.t 26), (some 4), none, []⟩]
theorem v61_17 : wpS P L61_17 T L (rdy h) K = wpS P ([⟨.mov (.t 1), (some 26), none, []⟩, ⟨.mov (.t 26), (some 4), none, []⟩]) T L (rdy h) K := rfl
def C61_0 : ACode := .seq (.reg L61_5) .ret
theorem u61_0 : wpC P C61_0 T L (rdy h) Q = wpC P (.seq (.reg L61_5) .ret) T L (rdy h) Q := rfl
def C61_1 : ACode := .cond (.t 11) C61_0 .skip
theorem u61_1 : wpC P C61_1 T L (rdy h) Q = wpC P (.cond (.t 11) C61_0 .skip) T L (rdy h) Q := rfl
def C61_2 : ACode := .seq (.reg L61_4) C61_1
theorem u61_2 : wpC P C61_2 T L (rdy h) Q = wpC P (.seq (.reg L61_4) C61_1) T L (rdy h) Q := rfl
def C61_3 : ACode := .cond (.t 15) .skip (.exit 0)
theorem u61_3 : wpC P C61_3 T L (rdy h) Q = wpC P (.cond (.t 15) .skip (.exit 0)) T L (rdy h) Q := rfl
def C61_4 : ACode := .seq (.reg L61_8) C61_3
theorem u61_4 : wpC P C61_4 T L (rdy h) Q = wpC P (.seq (.reg L61_8) C61_3) T L (rdy h) Q := rfl
def C61_5 : ACode := .seq (.reg L61_14) .ret
theorem u61_5 : wpC P C61_5 T L (rdy h) Q = wpC P (.seq (.reg L61_14) .ret) T L (rdy h) Q := rfl
def C61_6 : ACode := .cond (.t 25) C61_5 .skip
theorem u61_6 : wpC P C61_6 T L (rdy h) Q = wpC P (.cond (.t 25) C61_5 .skip) T L (rdy h) Q := rfl
def C61_7 : ACode := .seq (.reg L61_13) C61_6
theorem u61_7 : wpC P C61_7 T L (rdy h) Q = wpC P (.seq (.reg L61_13) C61_6) T L (rdy h) Q := rfl
def C61_8 : ACode := .seq (.reg L61_12) C61_7
theorem u61_8 : wpC P C61_8 T L (rdy h) Q = wpC P (.seq (.reg L61_12) C61_7) T L (rdy h) Q := rfl
def C61_9 : ACode := .block 1 C61_8
theorem u61_9 : wpC P C61_9 T L (rdy h) Q = wpC P (.block 1 C61_8) T L (rdy h) Q := rfl
def C61_10 : ACode := .seq C61_9 (.reg L61_16)
theorem u61_10 : wpC P C61_10 T L (rdy h) Q = wpC P (.seq C61_9 (.reg L61_16)) T L (rdy h) Q := rfl
def C61_11 : ACode := .seq C61_4 C61_10
theorem u61_11 : wpC P C61_11 T L (rdy h) Q = wpC P (.seq C61_4 C61_10) T L (rdy h) Q := rfl
def C61_12 : ACode := .block 0 (.loop C61_11)
theorem u61_12 : wpC P C61_12 T L (rdy h) Q = wpC P (.block 0 (.loop C61_11)) T L (rdy h) Q := rfl
def C61_13 : ACode := .seq (.reg L61_6) C61_12
theorem u61_13 : wpC P C61_13 T L (rdy h) Q = wpC P (.seq (.reg L61_6) C61_12) T L (rdy h) Q := rfl
def C61_14 : ACode := .seq (.reg L61_17) .ret
theorem u61_14 : wpC P C61_14 T L (rdy h) Q = wpC P (.seq (.reg L61_17) .ret) T L (rdy h) Q := rfl
def C61_15 : ACode := .seq C61_13 C61_14
theorem u61_15 : wpC P C61_15 T L (rdy h) Q = wpC P (.seq C61_13 C61_14) T L (rdy h) Q := rfl
def C61_16 : ACode := .seq C61_2 C61_15
theorem u61_16 : wpC P C61_16 T L (rdy h) Q = wpC P (.seq C61_2 C61_15) T L (rdy h) Q := rfl
def C61_17 : ACode := .seq (.reg L61_3) C61_16
theorem u61_17 : wpC P C61_17 T L (rdy h) Q = wpC P (.seq (.reg L61_3) C61_16) T L (rdy h) Q := rfl
def C61_18 : ACode := .seq (.reg L61_0) C61_17
theorem u61_18 : wpC P C61_18 T L (rdy h) Q = wpC P (.seq (.reg L61_0) C61_17) T L (rdy h) Q := rfl
def F61 : AFunc := ⟨27, [.tmp 4], C61_18⟩
theorem cF61 : compB Try.prog 61 = some F61 := by kernel_rfl
end
attribute [local go_sem ↓] u61_0 u61_1 u61_2 u61_3 u61_4 u61_5 u61_6 u61_7 u61_8 u61_9 u61_10 u61_11 u61_12 u61_13 u61_14 u61_15 u61_16 u61_17 u61_18 v61_0 v61_1 v61_2 v61_3 v61_4 v61_5 v61_6 v61_7 v61_8 v61_9 v61_10 v61_11 v61_12 v61_13 v61_14 v61_15 v61_16 v61_17
theorem c_szTurnS {ty : Nat} (l : List Turn) (v : AV) (left : Int) (h : H) (h1 : 0 ≤ left) (h2 : left ≤ 1048576) (hl : Sl encT 2 ty h v l) (k0 : l.length ≤ far) (k1 : ∀ x ∈ l, x.fr.size ≤ far ∧ x.to.size ≤ far) : bm Try.prog 61 [v, .one (.int .i64 left)] h = some (ii (szr left (wtL wtT l)), h) := by
  refine bm_eq cF61 ?_
  by_cases e : left - (l.length : Int) < 0
  · simp +contextual (maxSteps := 2000000) only [go_sem, Nat.reduceEqDiff, reduceCtorEq, Nat.reduceAdd, Nat.reduceLeDiff, F61, hl.len, i64_sub h1 h2 k0, decide_eq_true e]
    unfold szr wtL
    rw [if_pos (by omega)]
  simp +contextual (maxSteps := 2000000) only [go_sem, Nat.reduceEqDiff, reduceCtorEq, Nat.reduceAdd, Nat.reduceLeDiff, F61, hl.len, i64_sub h1 h2 k0, decide_eq_false e]
  refine wpC_loop (fun i T L h' => h' = h ∧ T 0 = .v v ∧ T 5 = .v (.one (.int .i64 i)) ∧ T 1 = .v (.one (.int .i64 (left - (l.length : Int) - (wsum wtT l i : Int)))) ∧ 0 ≤ left - (l.length : Int) - (wsum wtT l i : Int)) l.length ?_ ?_ (Nat.zero_le _) ?_
  · rintro i T L h' hi ⟨rfl, t0, t5, t1, hw⟩
    have hm := List.getElem_mem hi
    have e2 := wsum_next (f := wtT) hi
    have e3 := wsum_le (f := wtT) (l := l) (show i + 1 ≤ l.length by omega)
    have e1 := c_szTurn l[i] (left - (l.length : Int) - (wsum wtT l i : Int)) h' hw (by omega) (k1 _ hm).1 (k1 _ hm).2
    by_cases e4 : left - (l.length : Int) - (wsum wtT l i : Int) - (wtT l[i] : Int) < 0
    · simp +contextual (maxSteps := 2000000) only [go_sem, Nat.reduceEqDiff, reduceCtorEq, Nat.reduceAdd, Nat.reduceLeDiff, t0, t1, t5, hl.len, hl.iaddr hi, hl.whole hi, e1, lt_true hi, decide_eq_true (szr_lt.2 e4)]
      unfold szr wtL
      rw [if_pos (by omega)]
    · simp +contextual (maxSteps := 2000000) only [go_sem, Nat.reduceEqDiff, reduceCtorEq, Nat.reduceAdd, Nat.reduceLeDiff, t0, t1, t5, hl.len, hl.iaddr hi, hl.whole hi, e1, lt_true hi, decide_eq_false (show ¬ szr (left - (l.length : Int) - (wsum wtT l i : Int)) (wtT l[i]) < 0 by rw [szr_lt]; exact e4)]
      have e5 : szr (left - (l.length : Int) - (wsum wtT l i : Int)) (wtT l[i]) = left - (l.length : Int) - (wsum wtT l (i + 1) : Int) := by
        unfold szr
        rw [if_neg e4, e2]
        omega
      rw [wrap_next hi (by omega), e5]
      exact ⟨rfl, rfl, by omega⟩
  · rintro T L h' ⟨rfl, t0, t5, t1, hw⟩
    simp +contextual (maxSteps := 2000000) only [go_sem, Nat.reduceEqDiff, reduceCtorEq, Nat.reduceAdd, Nat.reduceLeDiff, t0, t1, t5, hl.len, lt_false]
    unfold szr wtL
    rw [if_neg (by omega)]
    rw [show left - (l.length : Int) - (wsum wtT l l.length : Int) = left - ((l.length + wsum wtT l l.length : Nat) : Int) by omega]
  · simp +contextual (maxSteps := 2000000) only [go_sem, Nat.reduceEqDiff, reduceCtorEq, Nat.reduceAdd, Nat.reduceLeDiff, wsum_zero]
    (repeat' (first | refine And.intro ?_ ?_ | intro _)) <;> first | rfl | (simp; done) | (simp; omega)
section
variable {P : Program} {T : Tb} {L : Lb} {h : H} {Q : PostC} {K : Post}
/-! laws.szSignature -/
def L46_0 : List AStep := [⟨.box 74 (.t 0), (some 2), none, []⟩, ⟨.mov (.c (.int .i64 0)), (some 4), none, []⟩]
theorem v46_0 : wpS P L46_0 T L (rdy h) K = wpS P ([⟨.box 74 (.t 0), (some 2), none, []⟩, ⟨.mov (.c (.int .i64 0)), (some 4), none, []⟩]) T L (rdy h) K := rfl
def L46_1 : List AStep := [⟨.mov (.t 8), (some 1), none, []⟩]
theorem v46_1 : wpS P L46_1 T L (rdy h) K = wpS P ([⟨.mov (.t 8), (some 1), none, []⟩]) T L (rdy h) K := rfl
def L46_2 : List AStep := ⟨.mov (.t 1), (some 7), none, []⟩ :: ⟨.call 122 [(.t 6), (.t 7)], (some 8), none, []⟩ :: L46_1
theorem v46_2 : wpS P L46_2 T L (rdy h) K = wpS P (⟨.mov (.t 1), (some 7), none, []⟩ :: ⟨.call 122 [(.t 6), (.t 7)], (some 8), none, []⟩ :: L46_1) T L (rdy h) K := rfl
def L46_3 : List AStep := ⟨.faddr 0 (.t 2), (some 5), none, []⟩ :: ⟨.load 1 false (.t 5), (some 6), none, []⟩ :: L46_2
theorem v46_3 : wpS P L46_3 T L (rdy h) K = wpS P (⟨.faddr 0 (.t 2), (some 5), none, []⟩ :: ⟨.load 1 false (.t 5), (some 6), none, []⟩ :: L46_2) T L (rdy h) K := rfl
def L46_4 : List AStep := [⟨.mov (.t 1), (some 9), none, []⟩, ⟨.bin .lss (.t 9) (.c (.int .i64 0)), (some 10), none, []⟩]
theorem v46_4 : wpS P L46_4 T L (rdy h) K = wpS P ([⟨.mov (.t 1), (some 9), none, []⟩, ⟨.bin .lss (.t 9) (.c (.int .i64 0)), (some 10), none, []⟩]) T L (rdy h) K := rfl
def L46_5 : List AStep := [⟨.mov (.c (.int .i64 (-1))), (some 4), none, []⟩]
theorem v46_5 : wpS P L46_5 T L (rdy h) K = wpS P ([⟨.mov (.c (.int .i64 (-1))), (some 4), none, []⟩]) T L (rdy h) K := rfl
def L46_6 : List AStep := [⟨.mov (.t 1), (some 11), none, []⟩, ⟨.mov (.t 11), (some 4), none, []⟩]
theorem v46_6 : wpS P L46_6 T L (rdy h) K = wpS P ([⟨.mov (.t 1), (some 11), none, []⟩, ⟨.mov (.t 11), (some 4), none, []⟩]) T L (rdy h) K := rfl
def C46_0 : ACode := .seq (.reg L46_5) .ret
theorem u46_0 : wpC P C46_0 T L (rdy h) Q = wpC P (.seq (.reg L46_5) .ret) T L (rdy h) Q := rfl
def C46_1 : ACode := .cond (.t 10) C46_0 .skip
theorem u46_1 : wpC P C46_1 T L (rdy h) Q = wpC P (.cond (.t 10) C46_0 .skip) T L (rdy h) Q := rfl
def C46_2 : ACode := .seq (.reg L46_4) C46_1
theorem u46_2 : wpC P C46_2 T L (rdy h) Q = wpC P (.seq (.reg L46_4) C46_1) T L (rdy h) Q := rfl
def C46_3 : ACode := .seq (.reg L46_6) .ret
theorem u46_3 : wpC P C46_3 T L (rdy h) Q = wpC P (.seq (.reg L46_6) .ret) T L (rdy h) Q := rfl
def C46_4 : ACode := .seq C46_2 C46_3
theorem u46_4 : wpC P C46_4 T L (rdy h) Q = wpC P (.seq C46_2 C46_3) T L (rdy h) Q := rfl
def C46_5 : ACode := .seq (.reg L46_3) C46_4
theorem u46_5 : wpC P C46_5 T L (rdy h) Q = wpC P (.seq (.reg L46_3) C46_4) T L (rdy h) Q := rfl
def C46_6 : ACode := .seq (.reg L46_0) C46_5
theorem u46_6 : wpC P C46_6 T L (rdy h) Q = wpC P (.seq (.reg L46_0) C46_5) T L (rdy h) Q := rfl
def F46 : AFunc := ⟨12, [.tmp 4], C46_6⟩
theorem cF46 : compB Try.prog 46 = some F46 := by kernel_rfl
end
attribute [local go_sem ↓] u46_0 u46_1 u46_2 u46_3 u46_4 u46_5 u46_6 v46_0 v46_1 v46_2 v46_3 v46_4 v46_5 v46_6
theorem c_szSignature {ty : Nat} (l : List Param) (v : CV) (left : Int) (h : H) (h1 : 0 ≤ left) (h2 : left ≤ 1048576) (hl : Sl encQ 4 ty h (.one v) l) (k0 : l.length ≤ far) (k1 : ∀ x ∈ l, x.name.size ≤ far) : bm Try.prog 46 [.agg [v], .one (.int .i64 left)] h = some (ii (szr left (wtL wtQ l)), h) := by
  refine bm_eq cF46 ?_
  simp +contextual (maxSteps := 2000000) only [go_sem, Nat.reduceEqDiff, reduceCtorEq, Nat.reduceAdd, Nat.reduceLeDiff, F46, c_szParamS _ _ _ _ h1 h2 hl k0 k1]
  unfold szr
  (repeat' (first | refine And.intro ?_ ?_ | intro _)) <;> first | (simp_all; done) | (simp_all; omega)
end Go.Proofs.Ytnphlonhogcedaa.Am
