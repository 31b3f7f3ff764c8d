/- Contracts of the laws: sizes. -/
import Derived.Test.YtcbnihbilmlokaaDat
namespace Go.Proofs.Ytcbnihbilmlokaa.Am
open Go
set_option maxRecDepth 100000
set_option maxHeartbeats 4000000
set_option linter.unusedSimpArgs false
set_option linter.unusedVariables false
attribute [local go_sem ↓] bv_t bv_c ev_t ev_c put_same put_ne put_none kill_at pro_at lb_same lb_ne start_zero start_succ wpC_seq wpC_reg wpC_cond wpC_block wpC_skip wpC_exit wpC_ret thenQ_normal thenQ_exit thenQ_ret inBlk_normal inBlk_exit inBlk_ret wpS_nil wpS_step wpS_again wpS_guard wpO_mov wpO_load wpO_faddr wpO_nilCheck wpO_pick wpO_build wpO_bin wpO_eqb wpO_eqst wpO_eqnil wpO_not wpO_conv wpO_bytesStr wpO_iaddr wpO_idxStr wpO_field wpO_extract wpO_len wpO_lenStr wpO_cap wpO_min wpO_slice wpO_sliceStr wpO_alloc wpO_box wpO_store wpO_call wpO_callv wpO_mkfn wpO_buildSlice wpO_mkslice wpO_append wpO_appz proA_nil proA_cons tmpX_nil tmpX_tmp tmpX_cell doneB_normal doneB_ret agK_cons agK_nil pureB_load results_one results_two results_nil resBs_cons resBs_nil resB_tmp resB_cell
attribute [local go_sem] kill_v kill_lp_ne kill_lp_same pro_v pro_lp_same pro_lp_ne av_v av_lp optB_some optX_some valX_eq ldX_lp ldX_v faX_lp faX_v ncX_lp ncX_ptr ncX_fn boxK_one boxK_agg stL_some stK_lp_one stK_lp_agg stK_v_one stK_v_agg proM_v proM_lp callG_mk callVG_mk callvK_fn fnG_mk ptrsA_nil ptrsA_cons callH_some whenA_true whenA_false guardH_tt guardH_ff guardH_tf guardH_ft guardH_undef agV_one agV_agg lenO_sl lenStrO_str notO_bool pickO_bool convO_int eqbO_bool eqnilO_sl extractO_tup capO_sl minO_int loadL_one loadL_all storeL_eq fillA_nil fillA_one fillA_agg nat_ge neg_ge nat_lt neg_lt buildO bin_add bin_sub bin_mul bin_eql bin_neq bin_lss bin_leq bin_gtr bin_geq str_eql str_neq str_lss str_leq str_gtr str_geq retK_some endK_mk gcK_same gcK_int gcK_bool tupO_one tupO_agg rdy_self ib ii Option.map_none Option.map_some Option.some.injEq exists_eq_left' exists_eq_left ne_eq not_false_eq_true if_true if_false List.map_cons List.map_nil List.getElem?_cons_zero List.getElem?_cons_succ List.length_cons List.length_nil List.take_succ_cons List.take_zero List.take_nil List.drop_succ_cons List.drop_zero List.drop_nil List.cons_append List.nil_append List.append_nil List.set_cons_zero List.set_cons_succ Nat.zero_add forall_const true_and and_true and_self Bool.false_eq_true false_implies true_implies implies_true Bool.not_true Bool.not_false Bool.not_eq_true' Bool.not_eq_false' beq_self_eq_true Bool.bne_true Bool.bne_false
attribute [local go_sem] lenI lenS lenP lenQ lenB lenL lenT encI_0 encS_0 encP_0 encP_1 encQ_0 encQ_1 encQ_2 encQ_3 encB_0 encB_1 encL_0 encL_1 encT_0 encT_1
attribute [local go_sem low] whenA_bool guardH_bool
theorem i64_sub {a : Int} {n : Nat} (h1 : 0 ≤ a) (h2 : a ≤ 1048576) (h3 : n ≤ far) : IntKind.i64.wrap (a - n) = a - n := by unfold far at h3; rw [i64_wrap (by omega) (by omega)]
section
variable {P : Program} {T : Tb} {L : Lb} {h : H} {Q : PostC} {K : Post}
/-! laws.szPair -/
def L163_0 : List AStep := [⟨.box 203 (.t 0), (some 2), none, []⟩, ⟨.mov (.c (.int .i64 0)), (some 4), none, []⟩]
theorem v163_0 : wpS P L163_0 T L (rdy h) K = wpS P ([⟨.box 203 (.t 0), (some 2), none, []⟩, ⟨.mov (.c (.int .i64 0)), (some 4), none, []⟩]) T L (rdy h) K := rfl
def L163_1 : List AStep := [⟨.bin .sub (.t 5) (.t 8), (some 9), none, []⟩, ⟨.mov (.t 9), (some 1), none, []⟩]
theorem v163_1 : wpS P L163_1 T L (rdy h) K = wpS P ([⟨.bin .sub (.t 5) (.t 8), (some 9), none, []⟩, ⟨.mov (.t 9), (some 1), none, []⟩]) T L (rdy h) K := rfl
def L163_2 : List AStep := ⟨.load 1 false (.t 6), (some 7), none, []⟩ :: ⟨.lenStr (.t 7), (some 8), none, []⟩ :: L163_1
theorem v163_2 : wpS P L163_2 T L (rdy h) K = wpS P (⟨.load 1 false (.t 6), (some 7), none, []⟩ :: ⟨.lenStr (.t 7), (some 8), none, []⟩ :: L163_1) T L (rdy h) K := rfl
def L163_3 : List AStep := ⟨.mov (.t 1), (some 5), none, []⟩ :: ⟨.faddr 0 (.t 2), (some 6), none, []⟩ :: L163_2
theorem v163_3 : wpS P L163_3 T L (rdy h) K = wpS P (⟨.mov (.t 1), (some 5), none, []⟩ :: ⟨.faddr 0 (.t 2), (some 6), none, []⟩ :: L163_2) T L (rdy h) K := rfl
def L163_4 : List AStep := [⟨.mov (.t 1), (some 10), none, []⟩, ⟨.bin .lss (.t 10) (.c (.int .i64 0)), (some 11), none, []⟩]
theorem v163_4 : wpS P L163_4 T L (rdy h) K = wpS P ([⟨.mov (.t 1), (some 10), none, []⟩, ⟨.bin .lss (.t 10) (.c (.int .i64 0)), (some 11), none, []⟩]) T L (rdy h) K := rfl
def L163_5 : List AStep := [⟨.mov (.c (.int .i64 (-1))), (some 4), none, []⟩]
theorem v163_5 : wpS P L163_5 T L (rdy h) K = wpS P ([⟨.mov (.c (.int .i64 (-1))), (some 4), none, []⟩]) T L (rdy h) K := rfl
def L163_6 : List AStep := [⟨.mov (.t 1), (some 12), none, []⟩, ⟨.mov (.t 12), (some 4), none, []⟩]
theorem v163_6 : wpS P L163_6 T L (rdy h) K = wpS P ([⟨.mov (.t 1), (some 12), none, []⟩, ⟨.mov (.t 12), (some 4), none, []⟩]) T L (rdy h) K := rfl
def C163_0 : ACode := .seq (.reg L163_5) .ret
theorem u163_0 : wpC P C163_0 T L (rdy h) Q = wpC P (.seq (.reg L163_5) .ret) T L (rdy h) Q := rfl
def C163_1 : ACode := .cond (.t 11) C163_0 .skip
theorem u163_1 : wpC P C163_1 T L (rdy h) Q = wpC P (.cond (.t 11) C163_0 .skip) T L (rdy h) Q := rfl
def C163_2 : ACode := .seq (.reg L163_4) C163_1
theorem u163_2 : wpC P C163_2 T L (rdy h) Q = wpC P (.seq (.reg L163_4) C163_1) T L (rdy h) Q := rfl
def C163_3 : ACode := .seq (.reg L163_6) .ret
theorem u163_3 : wpC P C163_3 T L (rdy h) Q = wpC P (.seq (.reg L163_6) .ret) T L (rdy h) Q := rfl
def C163_4 : ACode := .seq C163_2 C163_3
theorem u163_4 : wpC P C163_4 T L (rdy h) Q = wpC P (.seq C163_2 C163_3) T L (rdy h) Q := rfl
def C163_5 : ACode := .seq (.reg L163_3) C163_4
theorem u163_5 : wpC P C163_5 T L (rdy h) Q = wpC P (.seq (.reg L163_3) C163_4) T L (rdy h) Q := rfl
def C163_6 : ACode := .seq (.reg L163_0) C163_5
theorem u163_6 : wpC P C163_6 T L (rdy h) Q = wpC P (.seq (.reg L163_0) C163_5) T L (rdy h) Q := rfl
def F163 : AFunc := ⟨13, [.tmp 4], C163_6⟩
theorem cF163 : compB Try.prog 163 = some F163 := by kernel_rfl
end
attribute [local go_sem ↓] u163_0 u163_1 u163_2 u163_3 u163_4 u163_5 u163_6 v163_0 v163_1 v163_2 v163_3 v163_4 v163_5 v163_6
theorem c_szPair (p : Pair) (left : Int) (h : H) (h1 : 0 ≤ left) (h2 : left ≤ 1048576) (k0 : p.name.size ≤ far) : bm Try.prog 163 [.agg (encP p), .one (.int .i64 left)] h = some (ii (szr left (wtP p)), h) := by
  refine bm_eq cF163 ?_
  simp +contextual (maxSteps := 2000000) only [go_sem, Nat.reduceEqDiff, reduceCtorEq, Nat.reduceAdd, Nat.reduceLeDiff, F163, i64_sub h1 h2 k0]
  unfold szr wtP
  (repeat' (first | refine And.intro ?_ ?_ | intro _)) <;> first | (simp_all; done) | (simp_all; omega)
section
variable {P : Program} {T : Tb} {L : Lb} {h : H} {Q : PostC} {K : Post}
/-! laws.szTurn -/
def L73_0 : List AStep := [⟨.box 126 (.t 0), (some 2), none, []⟩, ⟨.mov (.c (.int .i64 0)), (some 4), none, []⟩]
theorem v73_0 : wpS P L73_0 T L (rdy h) K = wpS P ([⟨.box 126 (.t 0), (some 2), none, []⟩, ⟨.mov (.c (.int .i64 0)), (some 4), none, []⟩]) T L (rdy h) K := rfl
def L73_1 : List AStep := [⟨.bin .sub (.t 5) (.t 8), (some 9), none, []⟩, ⟨.mov (.t 9), (some 1), none, []⟩]
theorem v73_1 : wpS P L73_1 T L (rdy h) K = wpS P ([⟨.bin .sub (.t 5) (.t 8), (some 9), none, []⟩, ⟨.mov (.t 9), (some 1), none, []⟩]) T L (rdy h) K := rfl
def L73_2 : List AStep := ⟨.load 1 false (.t 6), (some 7), none, []⟩ :: ⟨.lenStr (.t 7), (some 8), none, []⟩ :: L73_1
theorem v73_2 : wpS P L73_2 T L (rdy h) K = wpS P (⟨.load 1 false (.t 6), (some 7), none, []⟩ :: ⟨.lenStr (.t 7), (some 8), none, []⟩ :: L73_1) T L (rdy h) K := rfl
def L73_3 : List AStep := ⟨.mov (.t 1), (some 5), none, []⟩ :: ⟨.faddr 0 (.t 2), (some 6), none, []⟩ :: L73_2
theorem v73_3 : wpS P L73_3 T L (rdy h) K = wpS P (⟨.mov (.t 1), (some 5), none, []⟩ :: ⟨.faddr 0 (.t 2), (some 6), none, []⟩ :: L73_2) T L (rdy h) K := rfl
def L73_4 : List AStep := [⟨.mov (.t 1), (some 10), none, []⟩, ⟨.bin .lss (.t 10) (.c (.int .i64 0)), (some 11), none, []⟩]
theorem v73_4 : wpS P L73_4 T L (rdy h) K = wpS P ([⟨.mov (.t 1), (some 10), none, []⟩, ⟨.bin .lss (.t 10) (.c (.int .i64 0)), (some 11), none, []⟩]) T L (rdy h) K := rfl
def L73_5 : List AStep := [⟨.mov (.c (.int .i64 (-1))), (some 4), none, []⟩]
theorem v73_5 : wpS P L73_5 T L (rdy h) K = wpS P ([⟨.mov (.c (.int .i64 (-1))), (some 4), none, []⟩]) T L (rdy h) K := rfl
def L73_6 : List AStep := [⟨.bin .sub (.t 12) (.t 15), (some 16), none, []⟩, ⟨.mov (.t 16), (some 1), none, []⟩]
theorem v73_6 : wpS P L73_6 T L (rdy h) K = wpS P ([⟨.bin .sub (.t 12) (.t 15), (some 16), none, []⟩, ⟨.mov (.t 16), (some 1), none, []⟩]) T L (rdy h) K := rfl
def L73_7 : List AStep := ⟨.load 1 false (.t 13), (some 14), none, []⟩ :: ⟨.lenStr (.t 14), (some 15), none, []⟩ :: L73_6
theorem v73_7 : wpS P L73_7 T L (rdy h) K = wpS P (⟨.load 1 false (.t 13), (some 14), none, []⟩ :: ⟨.lenStr (.t 14), (some 15), none, []⟩ :: L73_6) T L (rdy h) K := rfl
def L73_8 : List AStep := ⟨.mov (.t 1), (some 12), none, []⟩ :: ⟨.faddr 1 (.t 2), (some 13), none, []⟩ :: L73_7
theorem v73_8 : wpS P L73_8 T L (rdy h) K = wpS P (⟨.mov (.t 1), (some 12), none, []⟩ :: ⟨.faddr 1 (.t 2), (some 13), none, []⟩ :: L73_7) T L (rdy h) K := rfl
def L73_9 : List AStep := [⟨.mov (.t 1), (some 17), none, []⟩, ⟨.bin .lss (.t 17) (.c (.int .i64 0)), (some 18), none, []⟩]
theorem v73_9 : wpS P L73_9 T L (rdy h) K = wpS P ([⟨.mov (.t 1), (some 17), none, []⟩, ⟨.bin .lss (.t 17) (.c (.int .i64 0)), (some 18), none, []⟩]) T L (rdy h) K := rfl
def L73_10 : List AStep := [⟨.mov (.c (.int .i64 (-1))), (some 4), none, []⟩]
theorem v73_10 : wpS P L73_10 T L (rdy h) K = wpS P ([⟨.mov (.c (.int .i64 (-1))), (some 4), none, []⟩]) T L (rdy h) K := rfl
def L73_11 : List AStep := [⟨.mov (.t 1), (some 19), none, []⟩, ⟨.mov (.t 19), (some 4), none, []⟩]
theorem v73_11 : wpS P L73_11 T L (rdy h) K = wpS P ([⟨.mov (.t 1), (some 19), none, []⟩, ⟨.mov (.t 19), (some 4), none, []⟩]) T L (rdy h) K := rfl
def C73_0 : ACode := .seq (.reg L73_5) .ret
theorem u73_0 : wpC P C73_0 T L (rdy h) Q = wpC P (.seq (.reg L73_5) .ret) T L (rdy h) Q := rfl
def C73_1 : ACode := .cond (.t 11) C73_0 .skip
theorem u73_1 : wpC P C73_1 T L (rdy h) Q = wpC P (.cond (.t 11) C73_0 .skip) T L (rdy h) Q := rfl
def C73_2 : ACode := .seq (.reg L73_4) C73_1
theorem u73_2 : wpC P C73_2 T L (rdy h) Q = wpC P (.seq (.reg L73_4) C73_1) T L (rdy h) Q := rfl
def C73_3 : ACode := .seq (.reg L73_10) .ret
theorem u73_3 : wpC P C73_3 T L (rdy h) Q = wpC P (.seq (.reg L73_10) .ret) T L (rdy h) Q := rfl
def C73_4 : ACode := .cond (.t 18) C73_3 .skip
theorem u73_4 : wpC P C73_4 T L (rdy h) Q = wpC P (.cond (.t 18) C73_3 .skip) T L (rdy h) Q := rfl
def C73_5 : ACode := .seq (.reg L73_9) C73_4
theorem u73_5 : wpC P C73_5 T L (rdy h) Q = wpC P (.seq (.reg L73_9) C73_4) T L (rdy h) Q := rfl
def C73_6 : ACode := .seq (.reg L73_11) .ret
theorem u73_6 : wpC P C73_6 T L (rdy h) Q = wpC P (.seq (.reg L73_11) .ret) T L (rdy h) Q := rfl
def C73_7 : ACode := .seq C73_5 C73_6
theorem u73_7 : wpC P C73_7 T L (rdy h) Q = wpC P (.seq C73_5 C73_6) T L (rdy h) Q := rfl
def C73_8 : ACode := .seq (.reg L73_8) C73_7
theorem u73_8 : wpC P C73_8 T L (rdy h) Q = wpC P (.seq (.reg L73_8) C73_7) T L (rdy h) Q := rfl
def C73_9 : ACode := .seq C73_2 C73_8
theorem u73_9 : wpC P C73_9 T L (rdy h) Q = wpC P (.seq C73_2 C73_8) T L (rdy h) Q := rfl
def C73_10 : ACode := .seq (.reg L73_3) C73_9
theorem u73_10 : wpC P C73_10 T L (rdy h) Q = wpC P (.seq (.reg L73_3) C73_9) T L (rdy h) Q := rfl
def C73_11 : ACode := .seq (.reg L73_0) C73_10
theorem u73_11 : wpC P C73_11 T L (rdy h) Q = wpC P (.seq (.reg L73_0) C73_10) T L (rdy h) Q := rfl
def F73 : AFunc := ⟨20, [.tmp 4], C73_11⟩
theorem cF73 : compB Try.prog 73 = some F73 := by kernel_rfl
end
attribute [local go_sem ↓] u73_0 u73_1 u73_2 u73_3 u73_4 u73_5 u73_6 u73_7 u73_8 u73_9 u73_10 u73_11 v73_0 v73_1 v73_2 v73_3 v73_4 v73_5 v73_6 v73_7 v73_8 v73_9 v73_10 v73_11
theorem c_szTurn (p : Turn) (left : Int) (h : H) (h1 : 0 ≤ left) (h2 : left ≤ 1048576) (k0 : p.fr.size ≤ far) (k1 : p.to.size ≤ far) : bm Try.prog 73 [.agg (encT p), .one (.int .i64 left)] h = some (ii (szr left (wtT p)), h) := by
  refine bm_eq cF73 ?_
  by_cases e : left - (p.fr.size : Int) < 0
  · simp +contextual (maxSteps := 2000000) only [go_sem, Nat.reduceEqDiff, reduceCtorEq, Nat.reduceAdd, Nat.reduceLeDiff, F73, i64_sub h1 h2 k0, decide_eq_true e]
    unfold szr wtT
    rw [if_pos (by omega)]
  · simp +contextual (maxSteps := 2000000) only [go_sem, Nat.reduceEqDiff, reduceCtorEq, Nat.reduceAdd, Nat.reduceLeDiff, F73, i64_sub h1 h2 k0, decide_eq_false e, i64_sub (show 0 ≤ left - (p.fr.size : Int) by omega) (by omega) k1]
    unfold szr wtT
    (repeat' (first | refine And.intro ?_ ?_ | intro _)) <;> first | (split <;> simp_all <;> omega)
section
variable {P : Program} {T : Tb} {L : Lb} {h : H} {Q : PostC} {K : Post}
/-! laws.szIntS -/
def L74_0 : List AStep := [⟨.mov (.c (.int .i64 0)), (some 4), none, []⟩]
theorem v74_0 : wpS P L74_0 T L (rdy h) K = wpS P ([⟨.mov (.c (.int .i64 0)), (some 4), none, []⟩]) T L (rdy h) K := rfl
def L74_1 : List AStep := [⟨.mov (.t 8), (some 1), none, []⟩]
theorem v74_1 : wpS P L74_1 T L (rdy h) K = wpS P ([⟨.mov (.t 8), (some 1), none, []⟩]) T L (rdy h) K := rfl
def L74_2 : List AStep := ⟨.len (.t 6), (some 7), none, []⟩ :: ⟨.bin .sub (.t 5) (.t 7), (some 8), none, []⟩ :: L74_1
theorem v74_2 : wpS P L74_2 T L (rdy h) K = wpS P (⟨.len (.t 6), (some 7), none, []⟩ :: ⟨.bin .sub (.t 5) (.t 7), (some 8), none, []⟩ :: L74_1) T L (rdy h) K := rfl
def L74_3 : List AStep := ⟨.mov (.t 1), (some 5), none, []⟩ :: ⟨.mov (.t 0), (some 6), none, []⟩ :: L74_2
theorem v74_3 : wpS P L74_3 T L (rdy h) K = wpS P (⟨.mov (.t 1), (some 5), none, []⟩ :: ⟨.mov (.t 0), (some 6), none, []⟩ :: L74_2) T L (rdy h) K := rfl
def L74_4 : List AStep := [⟨.mov (.t 1), (some 9), none, []⟩, ⟨.bin .lss (.t 9) (.c (.int .i64 0)), (some 10), none, []⟩]
theorem v74_4 : wpS P L74_4 T L (rdy h) K = wpS P ([⟨.mov (.t 1), (some 9), none, []⟩, ⟨.bin .lss (.t 9) (.c (.int .i64 0)), (some 10), none, []⟩]) T L (rdy h) K := rfl
def L74_5 : List AStep := [⟨.mov (.c (.int .i64 (-1))), (some 4), none, []⟩]
theorem v74_5 : wpS P L74_5 T L (rdy h) K = wpS P ([⟨.mov (.c (.int .i64 (-1))), (some 4), none, []⟩]) T L (rdy h) K := rfl
def L74_6 : List AStep := [⟨.mov (.t 1), (some 11), none, []⟩, ⟨.mov (.t 11), (some 4), none, []⟩]
theorem v74_6 : wpS P L74_6 T L (rdy h) K = wpS P ([⟨.mov (.t 1), (some 11), none, []⟩, ⟨.mov (.t 11), (some 4), none, []⟩]) T L (rdy h) K := rfl
def C74_0 : ACode := .seq (.reg L74_5) .ret
theorem u74_0 : wpC P C74_0 T L (rdy h) Q = wpC P (.seq (.reg L74_5) .ret) T L (rdy h) Q := rfl
def C74_1 : ACode := .cond (.t 10) C74_0 .skip
theorem u74_1 : wpC P C74_1 T L (rdy h) Q = wpC P (.cond (.t 10) C74_0 .skip) T L (rdy h) Q := rfl
def C74_2 : ACode := .seq (.reg L74_4) C74_1
theorem u74_2 : wpC P C74_2 T L (rdy h) Q = wpC P (.seq (.reg L74_4) C74_1) T L (rdy h) Q := rfl
def C74_3 : ACode := .seq (.reg L74_6) .ret
theorem u74_3 : wpC P C74_3 T L (rdy h) Q = wpC P (.seq (.reg L74_6) .ret) T L (rdy h) Q := rfl
def C74_4 : ACode := .seq C74_2 C74_3
theorem u74_4 : wpC P C74_4 T L (rdy h) Q = wpC P (.seq C74_2 C74_3) T L (rdy h) Q := rfl
def C74_5 : ACode := .seq (.reg L74_3) C74_4
theorem u74_5 : wpC P C74_5 T L (rdy h) Q = wpC P (.seq (.reg L74_3) C74_4) T L (rdy h) Q := rfl
def C74_6 : ACode := .seq (.reg L74_0) C74_5
theorem u74_6 : wpC P C74_6 T L (rdy h) Q = wpC P (.seq (.reg L74_0) C74_5) T L (rdy h) Q := rfl
def F74 : AFunc := ⟨12, [.tmp 4], C74_6⟩
theorem cF74 : compB Try.prog 74 = some F74 := by kernel_rfl
end
attribute [local go_sem ↓] u74_0 u74_1 u74_2 u74_3 u74_4 u74_5 u74_6 v74_0 v74_1 v74_2 v74_3 v74_4 v74_5 v74_6
theorem c_szIntS {ty : Nat} (l : List Int) (v : AV) (left : Int) (h : H) (h1 : 0 ≤ left) (h2 : left ≤ 1048576) (hl : Sl encI 1 ty h v l) (k0 : l.length ≤ far) : bm Try.prog 74 [v, .one (.int .i64 left)] h = some (ii (szr left l.length), h) := by
  refine bm_eq cF74 ?_
  simp +contextual (maxSteps := 2000000) only [go_sem, Nat.reduceEqDiff, reduceCtorEq, Nat.reduceAdd, Nat.reduceLeDiff, F74, hl.len, i64_sub h1 h2 k0]
  unfold szr
  (repeat' (first | refine And.intro ?_ ?_ | intro _)) <;> first | (simp_all; done) | (simp_all; omega)
section
variable {P : Program} {T : Tb} {L : Lb} {h : H} {Q : PostC} {K : Post}
/-! laws.szPairS -/
def L75_0 : List AStep := [⟨.mov (.c (.int .i64 0)), (some 4), none, []⟩]
theorem v75_0 : wpS P L75_0 T L (rdy h) K = wpS P ([⟨.mov (.c (.int .i64 0)), (some 4), none, []⟩]) T L (rdy h) K := rfl
def L75_1 : List AStep := [⟨.mov (.t 9), (some 1), none, []⟩]
theorem v75_1 : wpS P L75_1 T L (rdy h) K = wpS P ([⟨.mov (.t 9), (some 1), none, []⟩]) T L (rdy h) K := rfl
def L75_2 : List AStep := ⟨.len (.t 7), (some 8), none, []⟩ :: ⟨.bin .sub (.t 6) (.t 8), (some 9), none, []⟩ :: L75_1
theorem v75_2 : wpS P L75_2 T L (rdy h) K = wpS P (⟨.len (.t 7), (some 8), none, []⟩ :: ⟨.bin .sub (.t 6) (.t 8), (some 9), none, []⟩ :: L75_1) T L (rdy h) K := rfl
def L75_3 : List AStep := ⟨.mov (.t 1), (some 6), none, []⟩ :: ⟨.mov (.t 0), (some 7), none, []⟩ :: L75_2
theorem v75_3 : wpS P L75_3 T L (rdy h) K = wpS P (⟨.mov (.t 1), (some 6), none, []⟩ :: ⟨.mov (.t 0), (some 7), none, []⟩ :: L75_2) T L (rdy h) K := rfl
def L75_4 : List AStep := [⟨.mov (.t 1), (some 10), none, []⟩, ⟨.bin .lss (.t 10) (.c (.int .i64 0)), (some 11), none, []⟩]
theorem v75_4 : wpS P L75_4 T L (rdy h) K = wpS P ([⟨.mov (.t 1), (some 10), none, []⟩, ⟨.bin .lss (.t 10) (.c (.int .i64 0)), (some 11), none, []⟩]) T L (rdy h) K := rfl
def L75_5 : List AStep := [⟨.mov (.c (.int .i64 (-1))), (some 4), none, []⟩]
theorem v75_5 : wpS P L75_5 T L (rdy h) K = wpS P ([⟨.mov (.c (.int .i64 (-1))), (some 4), none, []⟩]) T L (rdy h) K := rfl
def L75_6 : List AStep := [⟨.mov (.c (.int .i64 0)), (some 5), none, []⟩]
theorem v75_6 : wpS P L75_6 T L (rdy h) K = wpS P ([⟨.mov (.c (.int .i64 0)), (some 5), none, []⟩]) T L (rdy h) K := rfl
def L75_7 : List AStep := [⟨.len (.t 13), (some 14), none, []⟩, ⟨.bin .lss (.t 12) (.t 14), (some 15), none, []⟩]
theorem v75_7 : wpS P L75_7 T L (rdy h) K = wpS P ([⟨.len (.t 13), (some 14), none, []⟩, ⟨.bin .lss (.t 12) (.t 14), (some 15), none, []⟩]) T L (rdy h) K := rfl
def L75_8 : List AStep := ⟨.mov (.t 5), (some 12), none, []⟩ :: ⟨.mov (.t 0), (some 13), none, []⟩ :: L75_7
theorem v75_8 : wpS P L75_8 T L (rdy h) K = wpS P (⟨.mov (.t 5), (some 12), none, []⟩ :: ⟨.mov (.t 0), (some 13), none, []⟩ :: L75_7) T L (rdy h) K := rfl
def L75_9 : List AStep := [⟨.mov (.t 23), (some 1), none, []⟩]
theorem v75_9 : wpS P L75_9 T L (rdy h) K = wpS P ([⟨.mov (.t 23), (some 1), none, []⟩]) T L (rdy h) K := rfl
def L75_10 : List AStep := ⟨.mov (.t 1), (some 22), none, []⟩ :: ⟨.call 163 [(.t 21), (.t 22)], (some 23), none, []⟩ :: L75_9
theorem v75_10 : wpS P L75_10 T L (rdy h) K = wpS P (⟨.mov (.t 1), (some 22), none, []⟩ :: ⟨.call 163 [(.t 21), (.t 22)], (some 23), none, []⟩ :: L75_9) T L (rdy h) K := rfl
def L75_11 : List AStep := ⟨.iaddr 2 (.t 18) (.t 19), (some 20), none, []⟩ :: ⟨.load 2 true (.t 20), (some 21), none, []⟩ :: L75_10
theorem v75_11 : wpS P L75_11 T L (rdy h) K = wpS P (⟨.iaddr 2 (.t 18) (.t 19), (some 20), none, []⟩ :: ⟨.load 2 true (.t 20), (some 21), none, []⟩ :: L75_10) T L (rdy h) K := rfl
def L75_12 : List AStep := ⟨.mov (.t 0), (some 18), none, []⟩ :: ⟨.mov (.t 5), (some 19), none, []⟩ :: L75_11
theorem v75_12 : wpS P L75_12 T L (rdy h) K = wpS P (⟨.mov (.t 0), (some 18), none, []⟩ :: ⟨.mov (.t 5), (some 19), none, []⟩ :: L75_11) T L (rdy h) K := rfl
def L75_13 : List AStep := [⟨.mov (.t 1), (some 24), none, []⟩, ⟨.bin .lss (.t 24) (.c (.int .i64 0)), (some 25), none, []⟩]
theorem v75_13 : wpS P L75_13 T L (rdy h) K = wpS P ([⟨.mov (.t 1), (some 24), none, []⟩, ⟨.bin .lss (.t 24) (.c (.int .i64 0)), (some 25), none, []⟩]) T L (rdy h) K := rfl
def L75_14 : List AStep := [⟨.mov (.c (.int .i64 (-1))), (some 4), none, []⟩]
theorem v75_14 : wpS P L75_14 T L (rdy h) K = wpS P ([⟨.mov (.c (.int .i64 (-1))), (some 4), none, []⟩]) T L (rdy h) K := rfl
def L75_15 : List AStep := [⟨.mov (.t 17), (some 5), none, []⟩]
theorem v75_15 : wpS P L75_15 T L (rdy h) K = wpS P ([⟨.mov (.t 17), (some 5), none, []⟩]) T L (rdy h) K := rfl
def L75_16 : List AStep := ⟨.mov (.t 5), (some 16), none, []⟩ :: ⟨.bin .add (.t 16) (.c (.int .i64 1)), (some 17), none, []⟩ :: L75_15
theorem v75_16 : wpS P L75_16 T L (rdy h) K = wpS P (⟨.mov (.t 5), (some 16), none, []⟩ :: ⟨.bin .add (.t 16) (.c (.int .i64 1)), (some 17), none, []⟩ :: L75_15) T L (rdy h) K := rfl
def L75_17 : List AStep := [⟨.mov (.t 1), (some 26), none, []⟩, ⟨.mov (.t 26), (some 4), none, []⟩]
theorem v75_17 : wpS P L75_17 T L (rdy h) K = wpS P ([⟨.mov (.t 1), (some 26), none, []⟩, ⟨.mov (.t 26), (some 4), none, []⟩]) T L (rdy h) K := rfl
def C75_0 : ACode := .seq (.reg L75_5) .ret
theorem u75_0 : wpC P C75_0 T L (rdy h) Q = wpC P (.seq (.reg L75_5) .ret) T L (rdy h) Q := rfl
def C75_1 : ACode := .cond (.t 11) C75_0 .skip
theorem u75_1 : wpC P C75_1 T L (rdy h) Q = wpC P (.cond (.t 11) C75_0 .skip) T L (rdy h) Q := rfl
def C75_2 : ACode := .seq (.reg L75_4) C75_1
theorem u75_2 : wpC P C75_2 T L (rdy h) Q = wpC P (.seq (.reg L75_4) C75_1) T L (rdy h) Q := rfl
def C75_3 : ACode := .cond (.t 15) .skip (.exit 0)
theorem u75_3 : wpC P C75_3 T L (rdy h) Q = wpC P (.cond (.t 15) .skip (.exit 0)) T L (rdy h) Q := rfl
def C75_4 : ACode := .seq (.reg L75_8) C75_3
theorem u75_4 : wpC P C75_4 T L (rdy h) Q = wpC P (.seq (.reg L75_8) C75_3) T L (rdy h) Q := rfl
def C75_5 : ACode := .seq (.reg L75_14) .ret
theorem u75_5 : wpC P C75_5 T L (rdy h) Q = wpC P (.seq (.reg L75_14) .ret) T L (rdy h) Q := rfl
def C75_6 : ACode := .cond (.t 25) C75_5 .skip
theorem u75_6 : wpC P C75_6 T L (rdy h) Q = wpC P (.cond (.t 25) C75_5 .skip) T L (rdy h) Q := rfl
def C75_7 : ACode := .seq (.reg L75_13) C75_6
theorem u75_7 : wpC P C75_7 T L (rdy h) Q = wpC P (.seq (.reg L75_13) C75_6) T L (rdy h) Q := rfl
def C75_8 : ACode := .seq (.reg L75_12) C75_7
theorem u75_8 : wpC P C75_8 T L (rdy h) Q = wpC P (.seq (.reg L75_12) C75_7) T L (rdy h) Q := rfl
def C75_9 : ACode := .block 1 C75_8
theorem u75_9 : wpC P C75_9 T L (rdy h) Q = wpC P (.block 1 C75_8) T L (rdy h) Q := rfl
def C75_10 : ACode := .seq C75_9 (.reg L75_16)
theorem u75_10 : wpC P C75_10 T L (rdy h) Q = wpC P (.seq C75_9 (.reg L75_16)) T L (rdy h) Q := rfl
def C75_11 : ACode := .seq C75_4 C75_10
theorem u75_11 : wpC P C75_11 T L (rdy h) Q = wpC P (.seq C75_4 C75_10) T L (rdy h) Q := rfl
def C75_12 : ACode := .block 0 (.loop C75_11)
theorem u75_12 : wpC P C75_12 T L (rdy h) Q = wpC P (.block 0 (.loop C75_11)) T L (rdy h) Q := rfl
def C75_13 : ACode := .seq (.reg L75_6) C75_12
theorem u75_13 : wpC P C75_13 T L (rdy h) Q = wpC P (.seq (.reg L75_6) C75_12) T L (rdy h) Q := rfl
def C75_14 : ACode := .seq (.reg L75_17) .ret
theorem u75_14 : wpC P C75_14 T L (rdy h) Q = wpC P (.seq (.reg L75_17) .ret) T L (rdy h) Q := rfl
def C75_15 : ACode := .seq C75_13 C75_14
theorem u75_15 : wpC P C75_15 T L (rdy h) Q = wpC P (.seq C75_13 C75_14) T L (rdy h) Q := rfl
def C75_16 : ACode := .seq C75_2 C75_15
theorem u75_16 : wpC P C75_16 T L (rdy h) Q = wpC P (.seq C75_2 C75_15) T L (rdy h) Q := rfl
def C75_17 : ACode := .seq (.reg L75_3) C75_16
theorem u75_17 : wpC P C75_17 T L (rdy h) Q = wpC P (.seq (.reg L75_3) C75_16) T L (rdy h) Q := rfl
def C75_18 : ACode := .seq (.reg L75_0) C75_17
theorem u75_18 : wpC P C75_18 T L (rdy h) Q = wpC P (.seq (.reg L75_0) C75_17) T L (rdy h) Q := rfl
def F75 : AFunc := ⟨27, [.tmp 4], C75_18⟩
theorem cF75 : compB Try.prog 75 = some F75 := by kernel_rfl
end
attribute [local go_sem ↓] u75_0 u75_1 u75_2 u75_3 u75_4 u75_5 u75_6 u75_7 u75_8 u75_9 u75_10 u75_11 u75_12 u75_13 u75_14 u75_15 u75_16 u75_17 u75_18 v75_0 v75_1 v75_2 v75_3 v75_4 v75_5 v75_6 v75_7 v75_8 v75_9 v75_10 v75_11 v75_12 v75_13 v75_14 v75_15 v75_16 v75_17
theorem c_szPairS {ty : Nat} (l : List Pair) (v : AV) (left : Int) (h : H) (h1 : 0 ≤ left) (h2 : left ≤ 1048576) (hl : Sl encP 2 ty h v l) (k0 : l.length ≤ far) (k1 : ∀ x ∈ l, x.name.size ≤ far) : bm Try.prog 75 [v, .one (.int .i64 left)] h = some (ii (szr left (wtL wtP l)), h) := by
  refine bm_eq cF75 ?_
  by_cases e : left - (l.length : Int) < 0
  · simp +contextual (maxSteps := 2000000) only [go_sem, Nat.reduceEqDiff, reduceCtorEq, Nat.reduceAdd, Nat.reduceLeDiff, F75, hl.len, i64_sub h1 h2 k0, decide_eq_true e]
    unfold szr wtL
    rw [if_pos (by omega)]
  simp +contextual (maxSteps := 2000000) only [go_sem, Nat.reduceEqDiff, reduceCtorEq, Nat.reduceAdd, Nat.reduceLeDiff, F75, hl.len, i64_sub h1 h2 k0, decide_eq_false e]
  refine wpC_loop (fun i T L h' => h' = h ∧ T 0 = .v v ∧ T 5 = .v (.one (.int .i64 i)) ∧ T 1 = .v (.one (.int .i64 (left - (l.length : Int) - (wsum wtP l i : Int)))) ∧ 0 ≤ left - (l.length : Int) - (wsum wtP l i : Int)) l.length ?_ ?_ (Nat.zero_le _) ?_
  · rintro i T L h' hi ⟨rfl, t0, t5, t1, hw⟩
    have hm := List.getElem_mem hi
    have e2 := wsum_next (f := wtP) hi
    have e3 := wsum_le (f := wtP) (l := l) (show i + 1 ≤ l.length by omega)
    have e1 := c_szPair l[i] (left - (l.length : Int) - (wsum wtP l i : Int)) h' hw (by omega) (k1 _ hm)
    by_cases e4 : left - (l.length : Int) - (wsum wtP l i : Int) - (wtP l[i] : Int) < 0
    · simp +contextual (maxSteps := 2000000) only [go_sem, Nat.reduceEqDiff, reduceCtorEq, Nat.reduceAdd, Nat.reduceLeDiff, t0, t1, t5, hl.len, hl.iaddr hi, hl.whole hi, e1, lt_true hi, decide_eq_true (szr_lt.2 e4)]
      unfold szr wtL
      rw [if_pos (by omega)]
    · simp +contextual (maxSteps := 2000000) only [go_sem, Nat.reduceEqDiff, reduceCtorEq, Nat.reduceAdd, Nat.reduceLeDiff, t0, t1, t5, hl.len, hl.iaddr hi, hl.whole hi, e1, lt_true hi, decide_eq_false (show ¬ szr (left - (l.length : Int) - (wsum wtP l i : Int)) (wtP l[i]) < 0 by rw [szr_lt]; exact e4)]
      have e5 : szr (left - (l.length : Int) - (wsum wtP l i : Int)) (wtP l[i]) = left - (l.length : Int) - (wsum wtP l (i + 1) : Int) := by
        unfold szr
        rw [if_neg e4, e2]
        omega
      rw [wrap_next hi (by omega), e5]
      exact ⟨rfl, rfl, by omega⟩
  · rintro T L h' ⟨rfl, t0, t5, t1, hw⟩
    simp +contextual (maxSteps := 2000000) only [go_sem, Nat.reduceEqDiff, reduceCtorEq, Nat.reduceAdd, Nat.reduceLeDiff, t0, t1, t5, hl.len, lt_false]
    unfold szr wtL
    rw [if_neg (by omega)]
    rw [show left - (l.length : Int) - (wsum wtP l l.length : Int) = left - ((l.length + wsum wtP l l.length : Nat) : Int) by omega]
  · simp +contextual (maxSteps := 2000000) only [go_sem, Nat.reduceEqDiff, reduceCtorEq, Nat.reduceAdd, Nat.reduceLeDiff, wsum_zero]
    (repeat' (first | refine And.intro ?_ ?_ | intro _)) <;> first | rfl | (simp; done) | (simp; omega)
section
variable {P : Program} {T : Tb} {L : Lb} {h : H} {Q : PostC} {K : Post}
/-! laws.szTurnS -/
def L13_0 : List AStep := [⟨.mov (.c (.int .i64 0)), (some 4), none, []⟩]
theorem v13_0 : wpS P L13_0 T L (rdy h) K = wpS P ([⟨.mov (.c (.int .i64 0)), (some 4), none, []⟩]) T L (rdy h) K := rfl
def L13_1 : List AStep := [⟨.mov (.t 9), (some 1), none, []⟩]
theorem v13_1 : wpS P L13_1 T L (rdy h) K = wpS P ([⟨.mov (.t 9), (some 1), none, []⟩]) T L (rdy h) K := rfl
def L13_2 : List AStep := ⟨.len (.t 7), (some 8), none, []⟩ :: ⟨.bin .sub (.t 6) (.t 8), (some 9), none, []⟩ :: L13_1
theorem v13_2 : wpS P L13_2 T L (rdy h) K = wpS P (⟨.len (.t 7), (some 8), none, []⟩ :: ⟨.bin .sub (.t 6) (.t 8), (some 9), none, []⟩ :: L13_1) T L (rdy h) K := rfl
def L13_3 : List AStep := ⟨.mov (.t 1), (some 6), none, []⟩ :: ⟨.mov (.t 0), (some 7), none, []⟩ :: L13_2
theorem v13_3 : wpS P L13_3 T L (rdy h) K = wpS P (⟨.mov (.t 1), (some 6), none, []⟩ :: ⟨.mov (.t 0), (some 7), none, []⟩ :: L13_2) T L (rdy h) K := rfl
def L13_4 : List AStep := [⟨.mov (.t 1), (some 10), none, []⟩, ⟨.bin .lss (.t 10) (.c (.int .i64 0)), (some 11), none, []⟩]
theorem v13_4 : wpS P L13_4 T L (rdy h) K = wpS P ([⟨.mov (.t 1), (some 10), none, []⟩, ⟨.bin .lss (.t 10) (.c (.int .i64 0)), (some 11), none, []⟩]) T L (rdy h) K := rfl
def L13_5 : List AStep := [⟨.mov (.c (.int .i64 (-1))), (some 4), none, []⟩]
theorem v13_5 : wpS P L13_5 T L (rdy h) K = wpS P ([⟨.mov (.c (.int .i64 (-1))), (some 4), none, []⟩]) T L (rdy h) K := rfl
def L13_6 : List AStep := [⟨.mov (.c (.int .i64 0)), (some 5), none, []⟩]
theorem v13_6 : wpS P L13_6 T L (rdy h) K = wpS P ([⟨.mov (.c (.int .i64 0)), (some 5), none, []⟩]) T L (rdy h) K := rfl
def L13_7 : List AStep := [⟨.len (.t 13), (some 14), none, []⟩, ⟨.bin .lss (.t 12) (.t 14), (some 15), none, []⟩]
theorem v13_7 : wpS P L13_7 T L (rdy h) K = wpS P ([⟨.len (.t 13), (some 14), none, []⟩, ⟨.bin .lss (.t 12) (.t 14), (some 15), none, []⟩]) T L (rdy h) K := rfl
def L13_8 : List AStep := ⟨.mov (.t 5), (some 12), none, []⟩ :: ⟨.mov (.t 0), (some 13), none, []⟩ :: L13_7
theorem v13_8 : wpS P L13_8 T L (rdy h) K = wpS P (⟨.mov (.t 5), (some 12), none, []⟩ :: ⟨.mov (.t 0), (some 13), none, []⟩ :: L13_7) T L (rdy h) K := rfl
def L13_9 : List AStep := [⟨.mov (.t 23), (some 1), none, []⟩]
theorem v13_9 : wpS P L13_9 T L (rdy h) K = wpS P ([⟨.mov (.t 23), (some 1), none, []⟩]) T L (rdy h) K := rfl
def L13_10 : List AStep := ⟨.mov (.t 1), (some 22), none, []⟩ :: ⟨.call 73 [(.t 21), (.t 22)], (some 23), none, []⟩ :: L13_9
theorem v13_10 : wpS P L13_10 T L (rdy h) K = wpS P (⟨.mov (.t 1), (some 22), none, []⟩ :: ⟨.call 73 [(.t 21), (.t 22)], (some 23), none, []⟩ :: L13_9) T L (rdy h) K := rfl
def L13_11 : List AStep := ⟨.iaddr 2 (.t 18) (.t 19), (some 20), none, []⟩ :: ⟨.load 2 true (.t 20), (some 21), none, []⟩ :: L13_10
theorem v13_11 : wpS P L13_11 T L (rdy h) K = wpS P (⟨.iaddr 2 (.t 18) (.t 19), (some 20), none, []⟩ :: ⟨.load 2 true (.t 20), (some 21), none, []⟩ :: L13_10) T L (rdy h) K := rfl
def L13_12 : List AStep := ⟨.mov (.t 0), (some 18), none, []⟩ :: ⟨.mov (.t 5), (some 19), none, []⟩ :: L13_11
theorem v13_12 : wpS P L13_12 T L (rdy h) K = wpS P (⟨.mov (.t 0), (some 18), none, []⟩ :: ⟨.mov (.t 5), (some 19), none, []⟩ :: L13_11) T L (rdy h) K := rfl
def L13_13 : List AStep := [⟨.mov (.t 1), (some 24), none, []⟩, ⟨.bin .lss (.t 24) (.c (.int .i64 0)), (some 25), none, []⟩]
theorem v13_13 : wpS P L13_13 T L (rdy h) K = wpS P ([⟨.mov (.t 1), (some 24), none, []⟩, ⟨.bin .lss (.t 24) (.c (.int .i64 0)), (some 25), none, []⟩]) T L (rdy h) K := rfl
def L13_14 : List AStep := [⟨.mov (.c (.int .i64 (-1))), (some 4), none, []⟩]
theorem v13_14 : wpS P L13_14 T L (rdy h) K = wpS P ([⟨.mov (.c (.int .i64 (-1))), (some 4), none, []⟩]) T L (rdy h) K := rfl
def L13_15 : List AStep := [⟨.mov (.t 17), (some 5), none, []⟩]
theorem v13_15 : wpS P L13_15 T L (rdy h) K = wpS P ([⟨.mov (.t 17), (some 5), none, []⟩]) T L (rdy h) K := rfl
def L13_16 : List AStep := ⟨.mov (.t 5), (some 16), none, []⟩ :: ⟨.bin .add (.t 16) (.c (.int .i64 1)), (some 17), none, []⟩ :: L13_15
theorem v13_16 : wpS P L13_16 T L (rdy h) K = wpS P (⟨.mov (.t 5), (some 16), none, []⟩ :: ⟨.bin .add (.t 16) (.c (.int .i64 1)), (some 17), none, []⟩ :: L13_15) T L (rdy h) K := rfl
def L13_17 : List AStep := [⟨.mov (.t 1), (some 26), none, []⟩, ⟨.mov (.t 26), (some 4), none, []⟩]
theorem v13_17 : wpS P L13_17 T L (rdy h) K = wpS P ([⟨.mov (.t 1), (some 26), none, []⟩, ⟨.mov (.t 26), (some 4), none, []⟩]) T L (rdy h) K := rfl
def C13_0 : ACode := .seq (.reg L13_5) .ret
theorem u13_0 : wpC P C13_0 T L (rdy h) Q = wpC P (.seq (.reg L13_5) .ret) T L (rdy h) Q := rfl
def C13_1 : ACode := .cond (.t 11) C13_0 .skip
theorem u13_1 : wpC P C13_1 T L (rdy h) Q = wpC P (.cond (.t 11) C13_0 .skip) T L (rdy h) Q := rfl
def C13_2 : ACode := .seq (.reg L13_4) C13_1
theorem u13_2 : wpC P C13_2 T L (rdy h) Q = wpC P (.seq (.reg L13_4) C13_1) T L (rdy h) Q := rfl
def C13_3 : ACode := .cond (.t 15) .skip (.exit 0)
theorem u13_3 : wpC P C13_3 T L (rdy h) Q = wpC P (.cond (.t 15) .skip (.exit 0)) T L (rdy h) Q := rfl
def C13_4 : ACode := .seq (.reg L13_8) C13_3
theorem u13_4 : wpC P C13_4 T L (rdy h) Q = wpC P (.seq (.reg L13_8) C13_3) T L (rdy h) Q := rfl
def C13_5 : ACode := .seq (.reg L13_14) .ret
theorem u13_5 : wpC P C13_5 T L (rdy h) Q = wpC P (.seq (.reg L13_14) .ret) T L (rdy h) Q := rfl
def C13_6 : ACode := .cond (.t 25) C13_5 .skip
theorem u13_6 : wpC P C13_6 T L (rdy h) Q = wpC P (.cond (.t 25) C13_5 .skip) T L (rdy h) Q := rfl
def C13_7 : ACode := .seq (.reg L13_13) C13_6
theorem u13_7 : wpC P C13_7 T L (rdy h) Q = wpC P (.seq (.reg L13_13) C13_6) T L (rdy h) Q := rfl
def C13_8 : ACode := .seq (.reg L13_12) C13_7
theorem u13_8 : wpC P C13_8 T L (rdy h) Q = wpC P (.seq (.reg L13_12) C13_7) T L (rdy h) Q := rfl
def C13_9 : ACode := .block 1 C13_8
theorem u13_9 : wpC P C13_9 T L (rdy h) Q = wpC P (.block 1 C13_8) T L (rdy h) Q := rfl
def C13_10 : ACode := .seq C13_9 (.reg L13_16)
theorem u13_10 : wpC P C13_10 T L (rdy h) Q = wpC P (.seq C13_9 (.reg L13_16)) T L (rdy h) Q := rfl
def C13_11 : ACode := .seq C13_4 C13_10
theorem u13_11 : wpC P C13_11 T L (rdy h) Q = wpC P (.seq C13_4 C13_10) T L (rdy h) Q := rfl
def C13_12 : ACode := .block 0 (.loop C13_11)
theorem u13_12 : wpC P C13_12 T L (rdy h) Q = wpC P (.block 0 (.loop C13_11)) T L (rdy h) Q := rfl
def C13_13 : ACode := .seq (.reg L13_6) C13_12
theorem u13_13 : wpC P C13_13 T L (rdy h) Q = wpC P (.seq (.reg L13_6) C13_12) T L (rdy h) Q := rfl
def C13_14 : ACode := .seq (.reg L13_17) .ret
theorem u13_14 : wpC P C13_14 T L (rdy h) Q = wpC P (.seq (.reg L13_17) .ret) T L (rdy h) Q := rfl
def C13_15 : ACode := .seq C13_13 C13_14
theorem u13_15 : wpC P C13_15 T L (rdy h) Q = wpC P (.seq C13_13 C13_14) T L (rdy h) Q := rfl
def C13_16 : ACode := .seq C13_2 C13_15
theorem u13_16 : wpC P C13_16 T L (rdy h) Q = wpC P (.seq C13_2 C13_15) T L (rdy h) Q := rfl
def C13_17 : ACode := .seq (.reg L13_3) C13_16
theorem u13_17 : wpC P C13_17 T L (rdy h) Q = wpC P (.seq (.reg L13_3) C13_16) T L (rdy h) Q := rfl
def C13_18 : ACode := .seq (.reg L13_0) C13_17
theorem u13_18 : wpC P C13_18 T L (rdy h) Q = wpC P (.seq (.reg L13_0) C13_17) T L (rdy h) Q := rfl
def F13 : AFunc := ⟨27, [.tmp 4], C13_18⟩
theorem cF13 : compB Try.prog 13 = some F13 := by kernel_rfl
end
attribute [local go_sem ↓] u13_0 u13_1 u13_2 u13_3 u13_4 u13_5 u13_6 u13_7 u13_8 u13_9 u13_10 u13_11 u13_12 u13_13 u13_14 u13_15 u13_16 u13_17 u13_18 v13_0 v13_1 v13_2 v13_3 v13_4 v13_5 v13_6 v13_7 v13_8 v13_9 v13_10 v13_11 v13_12 v13_13 v13_14 v13_15 v13_16 v13_17
theorem c_szTurnS {ty : Nat} (l : List Turn) (v : AV) (left : Int) (h : H) (h1 : 0 ≤ left) (h2 : left ≤ 1048576) (hl : Sl encT 2 ty h v l) (k0 : l.length ≤ far) (k1 : ∀ x ∈ l, x.fr.size ≤ far ∧ x.to.size ≤ far) : bm Try.prog 13 [v, .one (.int .i64 left)] h = some (ii (szr left (wtL wtT l)), h) := by
  refine bm_eq cF13 ?_
  by_cases e : left - (l.length : Int) < 0
  · simp +contextual (maxSteps := 2000000) only [go_sem, Nat.reduceEqDiff, reduceCtorEq, Nat.reduceAdd, Nat.reduceLeDiff, F13, hl.len, i64_sub h1 h2 k0, decide_eq_true e]
    unfold szr wtL
    rw [if_pos (by omega)]
  simp +contextual (maxSteps := 2000000) only [go_sem, Nat.reduceEqDiff, reduceCtorEq, Nat.reduceAdd, Nat.reduceLeDiff, F13, hl.len, i64_sub h1 h2 k0, decide_eq_false e]
  refine wpC_loop (fun i T L h' => h' = h ∧ T 0 = .v v ∧ T 5 = .v (.one (.int .i64 i)) ∧ T 1 = .v (.one (.int .i64 (left - (l.length : Int) - (wsum wtT l i : Int)))) ∧ 0 ≤ left - (l.length : Int) - (wsum wtT l i : Int)) l.length ?_ ?_ (Nat.zero_le _) ?_
  · rintro i T L h' hi ⟨rfl, t0, t5, t1, hw⟩
    have hm := List.getElem_mem hi
    have e2 := wsum_next (f := wtT) hi
    have e3 := wsum_le (f := wtT) (l := l) (show i + 1 ≤ l.length by omega)
    have e1 := c_szTurn l[i] (left - (l.length : Int) - (wsum wtT l i : Int)) h' hw (by omega) (k1 _ hm).1 (k1 _ hm).2
    by_cases e4 : left - (l.length : Int) - (wsum wtT l i : Int) - (wtT l[i] : Int) < 0
    · simp +contextual (maxSteps := 2000000) only [go_sem, Nat.reduceEqDiff, reduceCtorEq, Nat.reduceAdd, Nat.reduceLeDiff, t0, t1, t5, hl.len, hl.iaddr hi, hl.whole hi, e1, lt_true hi, decide_eq_true (szr_lt.2 e4)]
      unfold szr wtL
      rw [if_pos (by omega)]
    · simp +contextual (maxSteps := 2000000) only [go_sem, Nat.reduceEqDiff, reduceCtorEq, Nat.reduceAdd, Nat.reduceLeDiff, t0, t1, t5, hl.len, hl.iaddr hi, hl.whole hi, e1, lt_true hi, decide_eq_false (show ¬ szr (left - (l.length : Int) - (wsum wtT l i : Int)) (wtT l[i]) < 0 by rw [szr_lt]; exact e4)]
      have e5 : szr (left - (l.length : Int) - (wsum wtT l i : Int)) (wtT l[i]) = left - (l.length : Int) - (wsum wtT l (i + 1) : Int) := by
        unfold szr
        rw [if_neg e4, e2]
        omega
      rw [wrap_next hi (by omega), e5]
      exact ⟨rfl, rfl, by omega⟩
  · rintro T L h' ⟨rfl, t0, t5, t1, hw⟩
    simp +contextual (maxSteps := 2000000) only [go_sem, Nat.reduceEqDiff, reduceCtorEq, Nat.reduceAdd, Nat.reduceLeDiff, t0, t1, t5, hl.len, lt_false]
    unfold szr wtL
    rw [if_neg (by omega)]
    rw [show left - (l.length : Int) - (wsum wtT l l.length : Int) = left - ((l.length + wsum wtT l l.length : Nat) : Int) by omega]
  · simp +contextual (maxSteps := 2000000) only [go_sem, Nat.reduceEqDiff, reduceCtorEq, Nat.reduceAdd, Nat.reduceLeDiff, wsum_zero]
    (repeat' (first | refine And.intro ?_ ?_ | intro _)) <;> first | rfl | (simp; done) | (simp; omega)
section
variable {P : Program} {T : Tb} {L : Lb} {h : H} {Q : PostC} {K : Post}
/-! laws.szFlat -/
def L14_0 : List AStep := [⟨.box 26 (.t 0), (some 2), none, []⟩, ⟨.mov (.c (.int .i64 0)), (some 4), none, []⟩]
theorem v14_0 : wpS P L14_0 T L (rdy h) K = wpS P ([⟨.box 26 (.t 0), (some 2), none, []⟩, ⟨.mov (.c (.int .i64 0)), (some 4), none, []⟩]) T L (rdy h) K := rfl
def L14_1 : List AStep := [⟨.mov (.t 8), (some 1), none, []⟩]
theorem v14_1 : wpS P L14_1 T L (rdy h) K = wpS P ([⟨.mov (.t 8), (some 1), none, []⟩]) T L (rdy h) K := rfl
def L14_2 : List AStep := ⟨.mov (.t 1), (some 7), none, []⟩ :: ⟨.call 74 [(.t 6), (.t 7)], (some 8), none, []⟩ :: L14_1
theorem v14_2 : wpS P L14_2 T L (rdy h) K = wpS P (⟨.mov (.t 1), (some 7), none, []⟩ :: ⟨.call 74 [(.t 6), (.t 7)], (some 8), none, []⟩ :: L14_1) T L (rdy h) K := rfl
def L14_3 : List AStep := ⟨.faddr 0 (.t 2), (some 5), none, []⟩ :: ⟨.load 1 false (.t 5), (some 6), none, []⟩ :: L14_2
theorem v14_3 : wpS P L14_3 T L (rdy h) K = wpS P (⟨.faddr 0 (.t 2), (some 5), none, []⟩ :: ⟨.load 1 false (.t 5), (some 6), none, []⟩ :: L14_2) T L (rdy h) K := rfl
def L14_4 : List AStep := [⟨.mov (.t 1), (some 9), none, []⟩, ⟨.bin .lss (.t 9) (.c (.int .i64 0)), (some 10), none, []⟩]
theorem v14_4 : wpS P L14_4 T L (rdy h) K = wpS P ([⟨.mov (.t 1), (some 9), none, []⟩, ⟨.bin .lss (.t 9) (.c (.int .i64 0)), (some 10), none, []⟩]) T L (rdy h) K := rfl
def L14_5 : List AStep := [⟨.mov (.c (.int .i64 (-1))), (some 4), none, []⟩]
theorem v14_5 : wpS P L14_5 T L (rdy h) K = wpS P ([⟨.mov (.c (.int .i64 (-1))), (some 4), none, []⟩]) T L (rdy h) K := rfl
def L14_6 : List AStep := [⟨.mov (.t 14), (some 1), none, []⟩]
theorem v14_6 : wpS P L14_6 T L (rdy h) K = wpS P ([⟨.mov (.t 14), (some 1), none, []⟩]) T L (rdy h) K := rfl
def L14_7 : List AStep := ⟨.mov (.t 1), (some 13), none, []⟩ :: ⟨.call 75 [(.t 12), (.t 13)], (some 14), none, []⟩ :: L14_6
theorem v14_7 : wpS P L14_7 T L (rdy h) K = wpS P (⟨.mov (.t 1), (some 13), none, []⟩ :: ⟨.call 75 [(.t 12), (.t 13)], (some 14), none, []⟩ :: L14_6) T L (rdy h) K := rfl
def L14_8 : List AStep := ⟨.faddr 1 (.t 2), (some 11), none, []⟩ :: ⟨.load 1 false (.t 11), (some 12), none, []⟩ :: L14_7
theorem v14_8 : wpS P L14_8 T L (rdy h) K = wpS P (⟨.faddr 1 (.t 2), (some 11), none, []⟩ :: ⟨.load 1 false (.t 11), (some 12), none, []⟩ :: L14_7) T L (rdy h) K := rfl
def L14_9 : List AStep := [⟨.mov (.t 1), (some 15), none, []⟩, ⟨.bin .lss (.t 15) (.c (.int .i64 0)), (some 16), none, []⟩]
theorem v14_9 : wpS P L14_9 T L (rdy h) K = wpS P ([⟨.mov (.t 1), (some 15), none, []⟩, ⟨.bin .lss (.t 15) (.c (.int .i64 0)), (some 16), none, []⟩]) T L (rdy h) K := rfl
def L14_10 : List AStep := [⟨.mov (.c (.int .i64 (-1))), (some 4), none, []⟩]
theorem v14_10 : wpS P L14_10 T L (rdy h) K = wpS P ([⟨.mov (.c (.int .i64 (-1))), (some 4), none, []⟩]) T L (rdy h) K := rfl
def L14_11 : List AStep := [⟨.mov (.t 1), (some 17), none, []⟩, ⟨.mov (.t 17), (some 4), none, []⟩]
theorem v14_11 : wpS P L14_11 T L (rdy h) K = wpS P ([⟨.mov (.t 1), (some 17), none, []⟩, ⟨.mov (.t 17), (some 4), none, []⟩]) T L (rdy h) K := rfl
def C14_0 : ACode := .seq (.reg L14_5) .ret
theorem u14_0 : wpC P C14_0 T L (rdy h) Q = wpC P (.seq (.reg L14_5) .ret) T L (rdy h) Q := rfl
def C14_1 : ACode := .cond (.t 10) C14_0 .skip
theorem u14_1 : wpC P C14_1 T L (rdy h) Q = wpC P (.cond (.t 10) C14_0 .skip) T L (rdy h) Q := rfl
def C14_2 : ACode := .seq (.reg L14_4) C14_1
theorem u14_2 : wpC P C14_2 T L (rdy h) Q = wpC P (.seq (.reg L14_4) C14_1) T L (rdy h) Q := rfl
def C14_3 : ACode := .seq (.reg L14_10) .ret
theorem u14_3 : wpC P C14_3 T L (rdy h) Q = wpC P (.seq (.reg L14_10) .ret) T L (rdy h) Q := rfl
def C14_4 : ACode := .cond (.t 16) C14_3 .skip
theorem u14_4 : wpC P C14_4 T L (rdy h) Q = wpC P (.cond (.t 16) C14_3 .skip) T L (rdy h) Q := rfl
def C14_5 : ACode := .seq (.reg L14_9) C14_4
theorem u14_5 : wpC P C14_5 T L (rdy h) Q = wpC P (.seq (.reg L14_9) C14_4) T L (rdy h) Q := rfl
def C14_6 : ACode := .seq (.reg L14_11) .ret
theorem u14_6 : wpC P C14_6 T L (rdy h) Q = wpC P (.seq (.reg L14_11) .ret) T L (rdy h) Q := rfl
def C14_7 : ACode := .seq C14_5 C14_6
theorem u14_7 : wpC P C14_7 T L (rdy h) Q = wpC P (.seq C14_5 C14_6) T L (rdy h) Q := rfl
def C14_8 : ACode := .seq (.reg L14_8) C14_7
theorem u14_8 : wpC P C14_8 T L (rdy h) Q = wpC P (.seq (.reg L14_8) C14_7) T L (rdy h) Q := rfl
def C14_9 : ACode := .seq C14_2 C14_8
theorem u14_9 : wpC P C14_9 T L (rdy h) Q = wpC P (.seq C14_2 C14_8) T L (rdy h) Q := rfl
def C14_10 : ACode := .seq (.reg L14_3) C14_9
theorem u14_10 : wpC P C14_10 T L (rdy h) Q = wpC P (.seq (.reg L14_3) C14_9) T L (rdy h) Q := rfl
def C14_11 : ACode := .seq (.reg L14_0) C14_10
theorem u14_11 : wpC P C14_11 T L (rdy h) Q = wpC P (.seq (.reg L14_0) C14_10) T L (rdy h) Q := rfl
def F14 : AFunc := ⟨18, [.tmp 4], C14_11⟩
theorem cF14 : compB Try.prog 14 = some F14 := by kernel_rfl
end
attribute [local go_sem ↓] u14_0 u14_1 u14_2 u14_3 u14_4 u14_5 u14_6 u14_7 u14_8 u14_9 u14_10 u14_11 v14_0 v14_1 v14_2 v14_3 v14_4 v14_5 v14_6 v14_7 v14_8 v14_9 v14_10 v14_11
theorem c_szFlat {t1 t2 : Nat} (f : Flat) (pv nv : CV) (left : Int) (h : H) (h1 : 0 ≤ left) (h2 : left ≤ 1048576) (hp : Sl encI 1 t1 h (.one pv) f.pl) (hq : Sl encP 2 t2 h (.one nv) f.nl) (k0 : f.pl.length ≤ far) (k1 : f.nl.length ≤ far) (k2 : ∀ x ∈ f.nl, x.name.size ≤ far) :
    bm Try.prog 14 [.agg [pv, nv], .one (.int .i64 left)] h = some (ii (szr left (wtF f)), h) := by
  refine bm_eq cF14 ?_
  by_cases e : left - (f.pl.length : Int) < 0
  · simp +contextual (maxSteps := 2000000) only [go_sem, Nat.reduceEqDiff, reduceCtorEq, Nat.reduceAdd, Nat.reduceLeDiff, F14, c_szIntS _ _ _ _ h1 h2 hp k0, decide_eq_true (szr_lt.2 e)]
    unfold szr wtF
    rw [if_pos (by omega)]
  · have e1 : szr left f.pl.length = left - (f.pl.length : Int) := by unfold szr; rw [if_neg e]
    simp +contextual (maxSteps := 2000000) only [go_sem, Nat.reduceEqDiff, reduceCtorEq, Nat.reduceAdd, Nat.reduceLeDiff, F14, c_szIntS _ _ _ _ h1 h2 hp k0, e1, decide_eq_false e, c_szPairS _ _ (left - (f.pl.length : Int)) _ (by omega) (by omega) hq k1 k2]
    unfold szr wtF
    (repeat' (first | refine And.intro ?_ ?_ | intro _)) <;> first | (split <;> simp_all <;> omega)
end Go.Proofs.Ytcbnihbilmlokaa.Am
