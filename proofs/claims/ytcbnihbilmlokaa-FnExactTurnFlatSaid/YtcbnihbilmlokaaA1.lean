/- Contracts of the reference: numbers, names, pairs, flat calls and signatures that are valid. -/
import Derived.Test.YtcbnihbilmlokaaDat
namespace Go.Proofs.Ytcbnihbilmlokaa.Am
open Go
set_option maxRecDepth 100000
set_option maxHeartbeats 4000000
set_option linter.unusedSimpArgs false
set_option linter.unusedVariables false
attribute [local go_sem ↓] bv_t bv_c ev_t ev_c put_same put_ne put_none kill_at pro_at lb_same lb_ne start_zero start_succ wpC_seq wpC_reg wpC_cond wpC_block wpC_skip wpC_exit wpC_ret thenQ_normal thenQ_exit thenQ_ret inBlk_normal inBlk_exit inBlk_ret wpS_nil wpS_step wpS_again wpS_guard wpO_mov wpO_load wpO_faddr wpO_nilCheck wpO_pick wpO_build wpO_bin wpO_eqb wpO_eqst wpO_eqnil wpO_not wpO_conv wpO_bytesStr wpO_iaddr wpO_idxStr wpO_field wpO_extract wpO_len wpO_lenStr wpO_cap wpO_min wpO_slice wpO_sliceStr wpO_alloc wpO_box wpO_store wpO_call wpO_callv wpO_mkfn wpO_buildSlice wpO_mkslice wpO_append wpO_appz proA_nil proA_cons tmpX_nil tmpX_tmp tmpX_cell doneB_normal doneB_ret agK_cons agK_nil pureB_load results_one results_two results_nil resBs_cons resBs_nil resB_tmp resB_cell
attribute [local go_sem] kill_v kill_lp_ne kill_lp_same pro_v pro_lp_same pro_lp_ne av_v av_lp optB_some optX_some valX_eq ldX_lp ldX_v faX_lp faX_v ncX_lp ncX_ptr ncX_fn boxK_one boxK_agg stL_some stK_lp_one stK_lp_agg stK_v_one stK_v_agg proM_v proM_lp callG_mk callVG_mk callvK_fn fnG_mk ptrsA_nil ptrsA_cons callH_some whenA_true whenA_false guardH_tt guardH_ff guardH_tf guardH_ft guardH_undef agV_one agV_agg lenO_sl lenStrO_str notO_bool pickO_bool convO_int eqbO_bool eqnilO_sl extractO_tup capO_sl minO_int loadL_one loadL_all storeL_eq fillA_nil fillA_one fillA_agg nat_ge neg_ge nat_lt neg_lt buildO bin_add bin_sub bin_mul bin_eql bin_neq bin_lss bin_leq bin_gtr bin_geq str_eql str_neq str_lss str_leq str_gtr str_geq retK_some endK_mk gcK_same gcK_int gcK_bool tupO_one tupO_agg rdy_self ib ii Option.map_none Option.map_some Option.some.injEq exists_eq_left' exists_eq_left ne_eq not_false_eq_true if_true if_false List.map_cons List.map_nil List.getElem?_cons_zero List.getElem?_cons_succ List.length_cons List.length_nil List.take_succ_cons List.take_zero List.take_nil List.drop_succ_cons List.drop_zero List.drop_nil List.cons_append List.nil_append List.append_nil List.set_cons_zero List.set_cons_succ Nat.zero_add forall_const true_and and_true and_self Bool.false_eq_true false_implies true_implies implies_true Bool.not_true Bool.not_false Bool.not_eq_true' Bool.not_eq_false' beq_self_eq_true Bool.bne_true Bool.bne_false
attribute [local go_sem] lenI lenS lenP lenQ lenB lenL lenT encI_0 encS_0 encP_0 encP_1 encQ_0 encQ_1 encQ_2 encQ_3 encB_0 encB_1 encL_0 encL_1 encT_0 encT_1
attribute [local go_sem low] whenA_bool guardH_bool
section
variable {P : Program} {T : Tb} {L : Lb} {h : H} {Q : PostC} {K : Post}
/-! spec.inRange -/
def L196_0 : List AStep := [⟨.mov (.c (.bool false)), (some 6), none, []⟩]
theorem v196_0 : wpS P L196_0 T L (rdy h) K = wpS P ([⟨.mov (.c (.bool false)), (some 6), none, []⟩]) T L (rdy h) K := rfl
def L196_1 : List AStep := [⟨.mov (.t 14), (some 6), none, []⟩]
theorem v196_1 : wpS P L196_1 T L (rdy h) K = wpS P ([⟨.mov (.t 14), (some 6), none, []⟩]) T L (rdy h) K := rfl
def L196_2 : List AStep := ⟨.bin .leq (.t 11) (.t 12), (some 13), (some (10, true)), []⟩ :: ⟨.pick (.t 10) (.t 13) (.c (.bool false)), (some 14), none, []⟩ :: L196_1
theorem v196_2 : wpS P L196_2 T L (rdy h) K = wpS P (⟨.bin .leq (.t 11) (.t 12), (some 13), (some (10, true)), []⟩ :: ⟨.pick (.t 10) (.t 13) (.c (.bool false)), (some 14), none, []⟩ :: L196_1) T L (rdy h) K := rfl
def L196_3 : List AStep := ⟨.mov (.t 0), (some 11), (some (10, true)), []⟩ :: ⟨.mov (.t 2), (some 12), (some (10, true)), []⟩ :: L196_2
theorem v196_3 : wpS P L196_3 T L (rdy h) K = wpS P (⟨.mov (.t 0), (some 11), (some (10, true)), []⟩ :: ⟨.mov (.t 2), (some 12), (some (10, true)), []⟩ :: L196_2) T L (rdy h) K := rfl
def L196_4 : List AStep := ⟨.bin .leq (.t 7) (.t 8), (some 9), none, []⟩ :: ⟨.mov (.t 9), (some 10), none, []⟩ :: L196_3
theorem v196_4 : wpS P L196_4 T L (rdy h) K = wpS P (⟨.bin .leq (.t 7) (.t 8), (some 9), none, []⟩ :: ⟨.mov (.t 9), (some 10), none, []⟩ :: L196_3) T L (rdy h) K := rfl
def L196_5 : List AStep := ⟨.mov (.t 1), (some 7), none, []⟩ :: ⟨.mov (.t 0), (some 8), none, []⟩ :: L196_4
theorem v196_5 : wpS P L196_5 T L (rdy h) K = wpS P (⟨.mov (.t 1), (some 7), none, []⟩ :: ⟨.mov (.t 0), (some 8), none, []⟩ :: L196_4) T L (rdy h) K := rfl
def C196_0 : ACode := .seq (.reg L196_5) .ret
theorem u196_0 : wpC P C196_0 T L (rdy h) Q = wpC P (.seq (.reg L196_5) .ret) T L (rdy h) Q := rfl
def C196_1 : ACode := .seq (.reg L196_0) C196_0
theorem u196_1 : wpC P C196_1 T L (rdy h) Q = wpC P (.seq (.reg L196_0) C196_0) T L (rdy h) Q := rfl
def F196 : AFunc := ⟨15, [.tmp 6], C196_1⟩
theorem cF196 : compB Try.prog 196 = some F196 := by kernel_rfl
end
attribute [local go_sem ↓] u196_0 u196_1 v196_0 v196_1 v196_2 v196_3 v196_4 v196_5
theorem c_inRange (n lo hi : Int) (h : H) : bm Try.prog 196 [.one (.int .i64 n), .one (.int .i64 lo), .one (.int .i64 hi)] h = some (ib (decide (lo ≤ n) && decide (n ≤ hi)), h) := by
  refine bm_eq cF196 ?_
  simp +contextual (maxSteps := 2000000) only [go_sem, Nat.reduceEqDiff, reduceCtorEq, Nat.reduceAdd, Nat.reduceLeDiff, F196]
  cases decide (lo ≤ n) <;> simp
section
variable {P : Program} {T : Tb} {L : Lb} {h : H} {Q : PostC} {K : Post}
/-! spec.validNumber -/
def L202_0 : List AStep := [⟨.mov (.c (.bool false)), (some 2), none, []⟩]
theorem v202_0 : wpS P L202_0 T L (rdy h) K = wpS P ([⟨.mov (.c (.bool false)), (some 2), none, []⟩]) T L (rdy h) K := rfl
def L202_1 : List AStep := [⟨.mov (.t 4), (some 2), none, []⟩]
theorem v202_1 : wpS P L202_1 T L (rdy h) K = wpS P ([⟨.mov (.t 4), (some 2), none, []⟩]) T L (rdy h) K := rfl
def L202_2 : List AStep := ⟨.mov (.t 0), (some 3), none, []⟩ :: ⟨.call 196 [(.t 3), (.c (.int .i64 (-99))), (.c (.int .i64 99))], (some 4), none, []⟩ :: L202_1
theorem v202_2 : wpS P L202_2 T L (rdy h) K = wpS P (⟨.mov (.t 0), (some 3), none, []⟩ :: ⟨.call 196 [(.t 3), (.c (.int .i64 (-99))), (.c (.int .i64 99))], (some 4), none, []⟩ :: L202_1) T L (rdy h) K := rfl
def C202_0 : ACode := .seq (.reg L202_2) .ret
theorem u202_0 : wpC P C202_0 T L (rdy h) Q = wpC P (.seq (.reg L202_2) .ret) T L (rdy h) Q := rfl
def C202_1 : ACode := .seq (.reg L202_0) C202_0
theorem u202_1 : wpC P C202_1 T L (rdy h) Q = wpC P (.seq (.reg L202_0) C202_0) T L (rdy h) Q := rfl
def F202 : AFunc := ⟨5, [.tmp 2], C202_1⟩
theorem cF202 : compB Try.prog 202 = some F202 := by kernel_rfl
end
attribute [local go_sem ↓] u202_0 u202_1 v202_0 v202_1 v202_2
theorem c_validNumber (n : Int) (h : H) : bm Try.prog 202 [.one (.int .i64 n)] h = some (ib (okNum n), h) := by
  refine bm_eq cF202 ?_
  simp +contextual (maxSteps := 2000000) only [go_sem, Nat.reduceEqDiff, reduceCtorEq, Nat.reduceAdd, Nat.reduceLeDiff, F202, c_inRange, okNum]
section
variable {P : Program} {T : Tb} {L : Lb} {h : H} {Q : PostC} {K : Post}
/-! spec.validNumbers -/
def L167_0 : List AStep := [⟨.mov (.c (.bool false)), (some 2), none, []⟩]
theorem v167_0 : wpS P L167_0 T L (rdy h) K = wpS P ([⟨.mov (.c (.bool false)), (some 2), none, []⟩]) T L (rdy h) K := rfl
def L167_1 : List AStep := [⟨.mov (.c (.int .i64 0)), (some 3), none, []⟩]
theorem v167_1 : wpS P L167_1 T L (rdy h) K = wpS P ([⟨.mov (.c (.int .i64 0)), (some 3), none, []⟩]) T L (rdy h) K := rfl
def L167_2 : List AStep := [⟨.len (.t 5), (some 6), none, []⟩, ⟨.bin .lss (.t 4) (.t 6), (some 7), none, []⟩]
theorem v167_2 : wpS P L167_2 T L (rdy h) K = wpS P ([⟨.len (.t 5), (some 6), none, []⟩, ⟨.bin .lss (.t 4) (.t 6), (some 7), none, []⟩]) T L (rdy h) K := rfl
def L167_3 : List AStep := ⟨.mov (.t 3), (some 4), none, []⟩ :: ⟨.mov (.t 0), (some 5), none, []⟩ :: L167_2
theorem v167_3 : wpS P L167_3 T L (rdy h) K = wpS P (⟨.mov (.t 3), (some 4), none, []⟩ :: ⟨.mov (.t 0), (some 5), none, []⟩ :: L167_2) T L (rdy h) K := rfl
def L167_4 : List AStep := [⟨.call 202 [(.t 13)], (some 14), none, []⟩, ⟨.not (.t 14), (some 15), none, []⟩]
theorem v167_4 : wpS P L167_4 T L (rdy h) K = wpS P ([⟨.call 202 [(.t 13)], (some 14), none, []⟩, ⟨.not (.t 14), (some 15), none, []⟩]) T L (rdy h) K := rfl
def L167_5 : List AStep := ⟨.iaddr 1 (.t 10) (.t 11), (some 12), none, []⟩ :: ⟨.load 1 false (.t 12), (some 13), none, []⟩ :: L167_4
theorem v167_5 : wpS P L167_5 T L (rdy h) K = wpS P (⟨.iaddr 1 (.t 10) (.t 11), (some 12), none, []⟩ :: ⟨.load 1 false (.t 12), (some 13), none, []⟩ :: L167_4) T L (rdy h) K := rfl
def L167_6 : List AStep := ⟨.mov (.t 0), (some 10), none, []⟩ :: ⟨.mov (.t 3), (some 11), none, []⟩ :: L167_5
theorem v167_6 : wpS P L167_6 T L (rdy h) K = wpS P (⟨.mov (.t 0), (some 10), none, []⟩ :: ⟨.mov (.t 3), (some 11), none, []⟩ :: L167_5) T L (rdy h) K := rfl
def L167_7 : List AStep := [⟨.mov (.c (.bool false)), (some 2), none, []⟩]
theorem v167_7 : wpS P L167_7 T L (rdy h) K = wpS P ([⟨.mov (.c (.bool false)), (some 2), none, []⟩]) T L (rdy h) K := rfl
def L167_8 : List AStep := [⟨.mov (.t 9), (some 3), none, []⟩]
theorem v167_8 : wpS P L167_8 T L (rdy h) K = wpS P ([⟨.mov (.t 9), (some 3), none, []⟩]) T L (rdy h) K := rfl
def L167_9 : List AStep := ⟨.mov (.t 3), (some 8), none, []⟩ :: ⟨.bin .add (.t 8) (.c (.int .i64 1)), (some 9), none, []⟩ :: L167_8
theorem v167_9 : wpS P L167_9 T L (rdy h) K = wpS P (⟨.mov (.t 3), (some 8), none, []⟩ :: ⟨.bin .add (.t 8) (.c (.int .i64 1)), (some 9), none, []⟩ :: L167_8) T L (rdy h) K := rfl
def L167_10 : List AStep := [⟨.mov (.c (.bool true)), (some 2), none, []⟩]
theorem v167_10 : wpS P L167_10 T L (rdy h) K = wpS P ([⟨.mov (.c (.bool true)), (some 2), none, []⟩]) T L (rdy h) K := rfl
def C167_0 : ACode := .cond (.t 7) .skip (.exit 0)
theorem u167_0 : wpC P C167_0 T L (rdy h) Q = wpC P (.cond (.t 7) .skip (.exit 0)) T L (rdy h) Q := rfl
def C167_1 : ACode := .seq (.reg L167_3) C167_0
theorem u167_1 : wpC P C167_1 T L (rdy h) Q = wpC P (.seq (.reg L167_3) C167_0) T L (rdy h) Q := rfl
def C167_2 : ACode := .seq (.reg L167_7) .ret
theorem u167_2 : wpC P C167_2 T L (rdy h) Q = wpC P (.seq (.reg L167_7) .ret) T L (rdy h) Q := rfl
def C167_3 : ACode := .cond (.t 15) C167_2 .skip
theorem u167_3 : wpC P C167_3 T L (rdy h) Q = wpC P (.cond (.t 15) C167_2 .skip) T L (rdy h) Q := rfl
def C167_4 : ACode := .seq (.reg L167_6) C167_3
theorem u167_4 : wpC P C167_4 T L (rdy h) Q = wpC P (.seq (.reg L167_6) C167_3) T L (rdy h) Q := rfl
def C167_5 : ACode := .block 1 C167_4
theorem u167_5 : wpC P C167_5 T L (rdy h) Q = wpC P (.block 1 C167_4) T L (rdy h) Q := rfl
def C167_6 : ACode := .seq C167_5 (.reg L167_9)
theorem u167_6 : wpC P C167_6 T L (rdy h) Q = wpC P (.seq C167_5 (.reg L167_9)) T L (rdy h) Q := rfl
def C167_7 : ACode := .seq C167_1 C167_6
theorem u167_7 : wpC P C167_7 T L (rdy h) Q = wpC P (.seq C167_1 C167_6) T L (rdy h) Q := rfl
def C167_8 : ACode := .block 0 (.loop C167_7)
theorem u167_8 : wpC P C167_8 T L (rdy h) Q = wpC P (.block 0 (.loop C167_7)) T L (rdy h) Q := rfl
def C167_9 : ACode := .seq (.reg L167_1) C167_8
theorem u167_9 : wpC P C167_9 T L (rdy h) Q = wpC P (.seq (.reg L167_1) C167_8) T L (rdy h) Q := rfl
def C167_10 : ACode := .seq (.reg L167_10) .ret
theorem u167_10 : wpC P C167_10 T L (rdy h) Q = wpC P (.seq (.reg L167_10) .ret) T L (rdy h) Q := rfl
def C167_11 : ACode := .seq C167_9 C167_10
theorem u167_11 : wpC P C167_11 T L (rdy h) Q = wpC P (.seq C167_9 C167_10) T L (rdy h) Q := rfl
def C167_12 : ACode := .seq (.reg L167_0) C167_11
theorem u167_12 : wpC P C167_12 T L (rdy h) Q = wpC P (.seq (.reg L167_0) C167_11) T L (rdy h) Q := rfl
def F167 : AFunc := ⟨16, [.tmp 2], C167_12⟩
theorem cF167 : compB Try.prog 167 = some F167 := by kernel_rfl
end
attribute [local go_sem ↓] u167_0 u167_1 u167_2 u167_3 u167_4 u167_5 u167_6 u167_7 u167_8 u167_9 u167_10 u167_11 u167_12 v167_0 v167_1 v167_2 v167_3 v167_4 v167_5 v167_6 v167_7 v167_8 v167_9 v167_10
theorem c_validNumbers (l : List Int) (v : AV) (h : H) (hl : SlI h v l) (hn : l.length ≤ big) : bm Try.prog 167 [v] h = some (ib (l.all okNum), h) := by
  refine bm_eq cF167 ?_
  simp +contextual (maxSteps := 2000000) only [go_sem, Nat.reduceEqDiff, reduceCtorEq, Nat.reduceAdd, Nat.reduceLeDiff, F167]
  refine wpC_loop (fun i T L h' => h' = h ∧ T 0 = .v v ∧ T 3 = .v (.one (.int .i64 i)) ∧ Pre okNum true l i) l.length ?_ ?_ (Nat.zero_le _) ?_
  · rintro i T L h' hi ⟨rfl, h0, h3, hp⟩
    simp +contextual (maxSteps := 2000000) only [go_sem, Nat.reduceEqDiff, reduceCtorEq, Nat.reduceAdd, Nat.reduceLeDiff, h0, h3, hl.len, hl.iaddr hi, hl.oneO hi, c_validNumber, lt_true hi]
    (repeat' (first | refine And.intro ?_ ?_ | intro _)) <;> first | rfl | rw [wrap_next hi (big_lt hn)] | exact hp.next hi ‹_› | rw [all_stop hi ‹_›]
  · rintro T L h' ⟨rfl, h0, h3, hp⟩
    simp +contextual (maxSteps := 2000000) only [go_sem, Nat.reduceEqDiff, reduceCtorEq, Nat.reduceAdd, Nat.reduceLeDiff, h0, h3, hl.len, lt_false, hp.all]
  · simp +contextual (maxSteps := 2000000) only [go_sem, Nat.reduceEqDiff, reduceCtorEq, Nat.reduceAdd, Nat.reduceLeDiff]
    (repeat' (first | refine And.intro ?_ ?_ | intro _)) <;> first | rfl | exact Pre.zero
section
variable {P : Program} {T : Tb} {L : Lb} {h : H} {Q : PostC} {K : Post}
/-! spec.pairAt -/
def L166_0 : List AStep := [⟨.mov (.c (.int .i64 0)), (some 4), none, []⟩]
theorem v166_0 : wpS P L166_0 T L (rdy h) K = wpS P ([⟨.mov (.c (.int .i64 0)), (some 4), none, []⟩]) T L (rdy h) K := rfl
def L166_1 : List AStep := [⟨.mov (.c (.int .i64 0)), (some 5), none, []⟩]
theorem v166_1 : wpS P L166_1 T L (rdy h) K = wpS P ([⟨.mov (.c (.int .i64 0)), (some 5), none, []⟩]) T L (rdy h) K := rfl
def L166_2 : List AStep := [⟨.len (.t 7), (some 8), none, []⟩, ⟨.bin .lss (.t 6) (.t 8), (some 9), none, []⟩]
theorem v166_2 : wpS P L166_2 T L (rdy h) K = wpS P ([⟨.len (.t 7), (some 8), none, []⟩, ⟨.bin .lss (.t 6) (.t 8), (some 9), none, []⟩]) T L (rdy h) K := rfl
def L166_3 : List AStep := ⟨.mov (.t 5), (some 6), none, []⟩ :: ⟨.mov (.t 0), (some 7), none, []⟩ :: L166_2
theorem v166_3 : wpS P L166_3 T L (rdy h) K = wpS P (⟨.mov (.t 5), (some 6), none, []⟩ :: ⟨.mov (.t 0), (some 7), none, []⟩ :: L166_2) T L (rdy h) K := rfl
def L166_4 : List AStep := [⟨.bin .eql (.t 16) (.t 17), (some 18), none, []⟩]
theorem v166_4 : wpS P L166_4 T L (rdy h) K = wpS P ([⟨.bin .eql (.t 16) (.t 17), (some 18), none, []⟩]) T L (rdy h) K := rfl
def L166_5 : List AStep := ⟨.load 1 false (.t 15), (some 16), none, []⟩ :: ⟨.mov (.t 1), (some 17), none, []⟩ :: L166_4
theorem v166_5 : wpS P L166_5 T L (rdy h) K = wpS P (⟨.load 1 false (.t 15), (some 16), none, []⟩ :: ⟨.mov (.t 1), (some 17), none, []⟩ :: L166_4) T L (rdy h) K := rfl
def L166_6 : List AStep := ⟨.iaddr 2 (.t 12) (.t 13), (some 14), none, []⟩ :: ⟨.faddr 0 (.t 14), (some 15), none, []⟩ :: L166_5
theorem v166_6 : wpS P L166_6 T L (rdy h) K = wpS P (⟨.iaddr 2 (.t 12) (.t 13), (some 14), none, []⟩ :: ⟨.faddr 0 (.t 14), (some 15), none, []⟩ :: L166_5) T L (rdy h) K := rfl
def L166_7 : List AStep := ⟨.mov (.t 0), (some 12), none, []⟩ :: ⟨.mov (.t 5), (some 13), none, []⟩ :: L166_6
theorem v166_7 : wpS P L166_7 T L (rdy h) K = wpS P (⟨.mov (.t 0), (some 12), none, []⟩ :: ⟨.mov (.t 5), (some 13), none, []⟩ :: L166_6) T L (rdy h) K := rfl
def L166_8 : List AStep := [⟨.mov (.t 5), (some 19), none, []⟩, ⟨.mov (.t 19), (some 4), none, []⟩]
theorem v166_8 : wpS P L166_8 T L (rdy h) K = wpS P ([⟨.mov (.t 5), (some 19), none, []⟩, ⟨.mov (.t 19), (some 4), none, []⟩]) T L (rdy h) K := rfl
def L166_9 : List AStep := [⟨.mov (.t 11), (some 5), none, []⟩]
theorem v166_9 : wpS P L166_9 T L (rdy h) K = wpS P ([⟨.mov (.t 11), (some 5), none, []⟩]) T L (rdy h) K := rfl
def L166_10 : List AStep := ⟨.mov (.t 5), (some 10), none, []⟩ :: ⟨.bin .add (.t 10) (.c (.int .i64 1)), (some 11), none, []⟩ :: L166_9
theorem v166_10 : wpS P L166_10 T L (rdy h) K = wpS P (⟨.mov (.t 5), (some 10), none, []⟩ :: ⟨.bin .add (.t 10) (.c (.int .i64 1)), (some 11), none, []⟩ :: L166_9) T L (rdy h) K := rfl
def L166_11 : List AStep := [⟨.mov (.c (.int .i64 (-1))), (some 4), none, []⟩]
theorem v166_11 : wpS P L166_11 T L (rdy h) K = wpS P ([⟨.mov (.c (.int .i64 (-1))), (some 4), none, []⟩]) T L (rdy h) K := rfl
def C166_0 : ACode := .cond (.t 9) .skip (.exit 0)
theorem u166_0 : wpC P C166_0 T L (rdy h) Q = wpC P (.cond (.t 9) .skip (.exit 0)) T L (rdy h) Q := rfl
def C166_1 : ACode := .seq (.reg L166_3) C166_0
theorem u166_1 : wpC P C166_1 T L (rdy h) Q = wpC P (.seq (.reg L166_3) C166_0) T L (rdy h) Q := rfl
def C166_2 : ACode := .seq (.reg L166_8) .ret
theorem u166_2 : wpC P C166_2 T L (rdy h) Q = wpC P (.seq (.reg L166_8) .ret) T L (rdy h) Q := rfl
def C166_3 : ACode := .cond (.t 18) C166_2 .skip
theorem u166_3 : wpC P C166_3 T L (rdy h) Q = wpC P (.cond (.t 18) C166_2 .skip) T L (rdy h) Q := rfl
def C166_4 : ACode := .seq (.reg L166_7) C166_3
theorem u166_4 : wpC P C166_4 T L (rdy h) Q = wpC P (.seq (.reg L166_7) C166_3) T L (rdy h) Q := rfl
def C166_5 : ACode := .block 1 C166_4
theorem u166_5 : wpC P C166_5 T L (rdy h) Q = wpC P (.block 1 C166_4) T L (rdy h) Q := rfl
def C166_6 : ACode := .seq C166_5 (.reg L166_10)
theorem u166_6 : wpC P C166_6 T L (rdy h) Q = wpC P (.seq C166_5 (.reg L166_10)) T L (rdy h) Q := rfl
def C166_7 : ACode := .seq C166_1 C166_6
theorem u166_7 : wpC P C166_7 T L (rdy h) Q = wpC P (.seq C166_1 C166_6) T L (rdy h) Q := rfl
def C166_8 : ACode := .block 0 (.loop C166_7)
theorem u166_8 : wpC P C166_8 T L (rdy h) Q = wpC P (.block 0 (.loop C166_7)) T L (rdy h) Q := rfl
def C166_9 : ACode := .seq (.reg L166_1) C166_8
theorem u166_9 : wpC P C166_9 T L (rdy h) Q = wpC P (.seq (.reg L166_1) C166_8) T L (rdy h) Q := rfl
def C166_10 : ACode := .seq (.reg L166_11) .ret
theorem u166_10 : wpC P C166_10 T L (rdy h) Q = wpC P (.seq (.reg L166_11) .ret) T L (rdy h) Q := rfl
def C166_11 : ACode := .seq C166_9 C166_10
theorem u166_11 : wpC P C166_11 T L (rdy h) Q = wpC P (.seq C166_9 C166_10) T L (rdy h) Q := rfl
def C166_12 : ACode := .seq (.reg L166_0) C166_11
theorem u166_12 : wpC P C166_12 T L (rdy h) Q = wpC P (.seq (.reg L166_0) C166_11) T L (rdy h) Q := rfl
def F166 : AFunc := ⟨20, [.tmp 4], C166_12⟩
theorem cF166 : compB Try.prog 166 = some F166 := by kernel_rfl
end
attribute [local go_sem ↓] u166_0 u166_1 u166_2 u166_3 u166_4 u166_5 u166_6 u166_7 u166_8 u166_9 u166_10 u166_11 u166_12 v166_0 v166_1 v166_2 v166_3 v166_4 v166_5 v166_6 v166_7 v166_8 v166_9 v166_10 v166_11
theorem c_pairAt (l : List Pair) (v : AV) (s : ByteArray) (h : H) (hl : SlP h v l) (hn : smP l) : bm Try.prog 166 [v, .one (.str s)] h = some (ii (pairAt l s), h) := by
  refine bm_eq cF166 ?_
  simp +contextual (maxSteps := 2000000) only [go_sem, Nat.reduceEqDiff, reduceCtorEq, Nat.reduceAdd, Nat.reduceLeDiff, F166]
  refine wpC_loop (fun i T L h' => h' = h ∧ T 0 = .v v ∧ T 1 = .v (.one (.str s)) ∧ T 5 = .v (.one (.int .i64 i)) ∧ Pre (fun p => decide (p.name = s)) false l i) l.length ?_ ?_ (Nat.zero_le _) ?_
  · rintro i T L h' hi ⟨rfl, h0, h1, h3, hp⟩
    simp +contextual (maxSteps := 2000000) only [go_sem, Nat.reduceEqDiff, reduceCtorEq, Nat.reduceAdd, Nat.reduceLeDiff, h0, h1, h3, hl.len, hl.iaddr hi, hl.fieldO hi, lt_true hi]
    (repeat' (first | refine And.intro ?_ ?_ | intro _)) <;> first | rfl | rw [wrap_next hi hn.len] | exact hp.next hi ‹_› | rw [pairAt, idx_hit hi hp ‹_›]
  · rintro T L h' ⟨rfl, h0, h1, h3, hp⟩
    simp +contextual (maxSteps := 2000000) only [go_sem, Nat.reduceEqDiff, reduceCtorEq, Nat.reduceAdd, Nat.reduceLeDiff, h0, h1, h3, hl.len, lt_false, pairAt, idx_none hp]
  · simp +contextual (maxSteps := 2000000) only [go_sem, Nat.reduceEqDiff, reduceCtorEq, Nat.reduceAdd, Nat.reduceLeDiff]
    (repeat' (first | refine And.intro ?_ ?_ | intro _)) <;> first | rfl | exact Pre.zero
section
variable {P : Program} {T : Tb} {L : Lb} {h : H} {Q : PostC} {K : Post}
/-! spec.validName -/
def L164_0 : List AStep := [⟨.mov (.c (.bool false)), (some 2), none, []⟩]
theorem v164_0 : wpS P L164_0 T L (rdy h) K = wpS P ([⟨.mov (.c (.bool false)), (some 2), none, []⟩]) T L (rdy h) K := rfl
def L164_1 : List AStep := [⟨.mov (.c (.int .i64 0)), (some 3), none, []⟩]
theorem v164_1 : wpS P L164_1 T L (rdy h) K = wpS P ([⟨.mov (.c (.int .i64 0)), (some 3), none, []⟩]) T L (rdy h) K := rfl
def L164_2 : List AStep := [⟨.lenStr (.t 5), (some 6), none, []⟩, ⟨.bin .lss (.t 4) (.t 6), (some 7), none, []⟩]
theorem v164_2 : wpS P L164_2 T L (rdy h) K = wpS P ([⟨.lenStr (.t 5), (some 6), none, []⟩, ⟨.bin .lss (.t 4) (.t 6), (some 7), none, []⟩]) T L (rdy h) K := rfl
def L164_3 : List AStep := ⟨.mov (.t 3), (some 4), none, []⟩ :: ⟨.mov (.t 0), (some 5), none, []⟩ :: L164_2
theorem v164_3 : wpS P L164_3 T L (rdy h) K = wpS P (⟨.mov (.t 3), (some 4), none, []⟩ :: ⟨.mov (.t 0), (some 5), none, []⟩ :: L164_2) T L (rdy h) K := rfl
def L164_4 : List AStep := [⟨.bin .gtr (.t 17) (.c (.int .u8 122)), (some 18), (some (14, false)), []⟩, ⟨.pick (.t 14) (.c (.bool true)) (.t 18), (some 19), none, []⟩]
theorem v164_4 : wpS P L164_4 T L (rdy h) K = wpS P ([⟨.bin .gtr (.t 17) (.c (.int .u8 122)), (some 18), (some (14, false)), []⟩, ⟨.pick (.t 14) (.c (.bool true)) (.t 18), (some 19), none, []⟩]) T L (rdy h) K := rfl
def L164_5 : List AStep := ⟨.mov (.t 3), (some 16), (some (14, false)), []⟩ :: ⟨.idxStr (.t 15) (.t 16), (some 17), (some (14, false)), []⟩ :: L164_4
theorem v164_5 : wpS P L164_5 T L (rdy h) K = wpS P (⟨.mov (.t 3), (some 16), (some (14, false)), []⟩ :: ⟨.idxStr (.t 15) (.t 16), (some 17), (some (14, false)), []⟩ :: L164_4) T L (rdy h) K := rfl
def L164_6 : List AStep := ⟨.mov (.t 13), (some 14), none, []⟩ :: ⟨.mov (.t 0), (some 15), (some (14, false)), []⟩ :: L164_5
theorem v164_6 : wpS P L164_6 T L (rdy h) K = wpS P (⟨.mov (.t 13), (some 14), none, []⟩ :: ⟨.mov (.t 0), (some 15), (some (14, false)), []⟩ :: L164_5) T L (rdy h) K := rfl
def L164_7 : List AStep := ⟨.idxStr (.t 10) (.t 11), (some 12), none, []⟩ :: ⟨.bin .lss (.t 12) (.c (.int .u8 97)), (some 13), none, []⟩ :: L164_6
theorem v164_7 : wpS P L164_7 T L (rdy h) K = wpS P (⟨.idxStr (.t 10) (.t 11), (some 12), none, []⟩ :: ⟨.bin .lss (.t 12) (.c (.int .u8 97)), (some 13), none, []⟩ :: L164_6) T L (rdy h) K := rfl
def L164_8 : List AStep := ⟨.mov (.t 0), (some 10), none, []⟩ :: ⟨.mov (.t 3), (some 11), none, []⟩ :: L164_7
theorem v164_8 : wpS P L164_8 T L (rdy h) K = wpS P (⟨.mov (.t 0), (some 10), none, []⟩ :: ⟨.mov (.t 3), (some 11), none, []⟩ :: L164_7) T L (rdy h) K := rfl
def L164_9 : List AStep := [⟨.mov (.c (.bool false)), (some 2), none, []⟩]
theorem v164_9 : wpS P L164_9 T L (rdy h) K = wpS P ([⟨.mov (.c (.bool false)), (some 2), none, []⟩]) T L (rdy h) K := rfl
def L164_10 : List AStep := [⟨.mov (.t 9), (some 3), none, []⟩]
theorem v164_10 : wpS P L164_10 T L (rdy h) K = wpS P ([⟨.mov (.t 9), (some 3), none, []⟩]) T L (rdy h) K := rfl
def L164_11 : List AStep := ⟨.mov (.t 3), (some 8), none, []⟩ :: ⟨.bin .add (.t 8) (.c (.int .i64 1)), (some 9), none, []⟩ :: L164_10
theorem v164_11 : wpS P L164_11 T L (rdy h) K = wpS P (⟨.mov (.t 3), (some 8), none, []⟩ :: ⟨.bin .add (.t 8) (.c (.int .i64 1)), (some 9), none, []⟩ :: L164_10) T L (rdy h) K := rfl
def L164_12 : List AStep := [⟨.call 196 [(.t 21), (.c (.int .i64 1)), (.c (.int .i64 6))], (some 22), none, []⟩, ⟨.mov (.t 22), (some 2), none, []⟩]
theorem v164_12 : wpS P L164_12 T L (rdy h) K = wpS P ([⟨.call 196 [(.t 21), (.c (.int .i64 1)), (.c (.int .i64 6))], (some 22), none, []⟩, ⟨.mov (.t 22), (some 2), none, []⟩]) T L (rdy h) K := rfl
def L164_13 : List AStep := ⟨.mov (.t 0), (some 20), none, []⟩ :: ⟨.lenStr (.t 20), (some 21), none, []⟩ :: L164_12
theorem v164_13 : wpS P L164_13 T L (rdy h) K = wpS P (⟨.mov (.t 0), (some 20), none, []⟩ :: ⟨.lenStr (.t 20), (some 21), none, []⟩ :: L164_12) T L (rdy h) K := rfl
def C164_0 : ACode := .cond (.t 7) .skip (.exit 0)
theorem u164_0 : wpC P C164_0 T L (rdy h) Q = wpC P (.cond (.t 7) .skip (.exit 0)) T L (rdy h) Q := rfl
def C164_1 : ACode := .seq (.reg L164_3) C164_0
theorem u164_1 : wpC P C164_1 T L (rdy h) Q = wpC P (.seq (.reg L164_3) C164_0) T L (rdy h) Q := rfl
def C164_2 : ACode := .seq (.reg L164_9) .ret
theorem u164_2 : wpC P C164_2 T L (rdy h) Q = wpC P (.seq (.reg L164_9) .ret) T L (rdy h) Q := rfl
def C164_3 : ACode := .cond (.t 19) C164_2 .skip
theorem u164_3 : wpC P C164_3 T L (rdy h) Q = wpC P (.cond (.t 19) C164_2 .skip) T L (rdy h) Q := rfl
def C164_4 : ACode := .seq (.reg L164_8) C164_3
theorem u164_4 : wpC P C164_4 T L (rdy h) Q = wpC P (.seq (.reg L164_8) C164_3) T L (rdy h) Q := rfl
def C164_5 : ACode := .block 1 C164_4
theorem u164_5 : wpC P C164_5 T L (rdy h) Q = wpC P (.block 1 C164_4) T L (rdy h) Q := rfl
def C164_6 : ACode := .seq C164_5 (.reg L164_11)
theorem u164_6 : wpC P C164_6 T L (rdy h) Q = wpC P (.seq C164_5 (.reg L164_11)) T L (rdy h) Q := rfl
def C164_7 : ACode := .seq C164_1 C164_6
theorem u164_7 : wpC P C164_7 T L (rdy h) Q = wpC P (.seq C164_1 C164_6) T L (rdy h) Q := rfl
def C164_8 : ACode := .block 0 (.loop C164_7)
theorem u164_8 : wpC P C164_8 T L (rdy h) Q = wpC P (.block 0 (.loop C164_7)) T L (rdy h) Q := rfl
def C164_9 : ACode := .seq (.reg L164_1) C164_8
theorem u164_9 : wpC P C164_9 T L (rdy h) Q = wpC P (.seq (.reg L164_1) C164_8) T L (rdy h) Q := rfl
def C164_10 : ACode := .seq (.reg L164_13) .ret
theorem u164_10 : wpC P C164_10 T L (rdy h) Q = wpC P (.seq (.reg L164_13) .ret) T L (rdy h) Q := rfl
def C164_11 : ACode := .seq C164_9 C164_10
theorem u164_11 : wpC P C164_11 T L (rdy h) Q = wpC P (.seq C164_9 C164_10) T L (rdy h) Q := rfl
def C164_12 : ACode := .seq (.reg L164_0) C164_11
theorem u164_12 : wpC P C164_12 T L (rdy h) Q = wpC P (.seq (.reg L164_0) C164_11) T L (rdy h) Q := rfl
def F164 : AFunc := ⟨23, [.tmp 2], C164_12⟩
theorem cF164 : compB Try.prog 164 = some F164 := by kernel_rfl
end
attribute [local go_sem ↓] u164_0 u164_1 u164_2 u164_3 u164_4 u164_5 u164_6 u164_7 u164_8 u164_9 u164_10 u164_11 u164_12 v164_0 v164_1 v164_2 v164_3 v164_4 v164_5 v164_6 v164_7 v164_8 v164_9 v164_10 v164_11 v164_12 v164_13
theorem c_validName (s : ByteArray) (h : H) (hn : s.size < 2 ^ 62) : bm Try.prog 164 [.one (.str s)] h = some (ib (okName s), h) := by
  refine bm_eq cF164 ?_
  simp +contextual (maxSteps := 2000000) only [go_sem, Nat.reduceEqDiff, reduceCtorEq, Nat.reduceAdd, Nat.reduceLeDiff, F164]
  have hsz : s.data.toList.length = s.size := Array.length_toList
  refine wpC_loop (fun i T L h' => h' = h ∧ T 0 = .v (.one (.str s)) ∧ T 3 = .v (.one (.int .i64 i)) ∧ Pre isLow true s.data.toList i) s.size ?_ ?_ (Nat.zero_le _) ?_
  · rintro i T L h' hi ⟨rfl, h0, h3, hp⟩
    simp +contextual (maxSteps := 2000000) only [go_sem, Nat.reduceEqDiff, reduceCtorEq, Nat.reduceAdd, Nat.reduceLeDiff, h0, h3, idx_at hi, lt_true hi]
    have e : s.data.toList[i]'(by omega) = s.data[i]'hi := Array.getElem_toList _
    have bad : isLow (s.data[i]'hi) = false → okName s = false := fun hx => by
      unfold okName
      rw [all_stop (l := s.data.toList) (i := i) (by omega) (by rw [e]; exact hx)]
      rfl
    have low : isLow (s.data[i]'hi) = (!(decide ((↑(s.data[i]'hi).toNat : Int) < 97)) && !(decide ((↑(s.data[i]'hi).toNat : Int) > 122))) := by
      unfold isLow
      rw [Bool.eq_iff_iff]
      simp
      omega
    (repeat' (first | refine And.intro ?_ ?_ | intro _)) <;> first | rfl | rw [wrap_next hi hn] | exact hp.next (by omega) (by rw [e, low]; simp_all) | rw [bad (by rw [low]; simp_all)]
  · rintro T L h' ⟨rfl, h0, h3, hp⟩
    rw [← hsz] at hp
    simp +contextual (maxSteps := 2000000) only [go_sem, Nat.reduceEqDiff, reduceCtorEq, Nat.reduceAdd, Nat.reduceLeDiff, h0, h3, lt_false, c_inRange, okName, hp.all, Bool.true_and]
  · simp +contextual (maxSteps := 2000000) only [go_sem, Nat.reduceEqDiff, reduceCtorEq, Nat.reduceAdd, Nat.reduceLeDiff]
    (repeat' (first | refine And.intro ?_ ?_ | intro _)) <;> first | rfl | exact Pre.zero
section
variable {P : Program} {T : Tb} {L : Lb} {h : H} {Q : PostC} {K : Post}
/-! spec.validPairs -/
def L168_0 : List AStep := [⟨.mov (.c (.bool false)), (some 2), none, []⟩]
theorem v168_0 : wpS P L168_0 T L (rdy h) K = wpS P ([⟨.mov (.c (.bool false)), (some 2), none, []⟩]) T L (rdy h) K := rfl
def L168_1 : List AStep := [⟨.mov (.c (.int .i64 0)), (some 3), none, []⟩]
theorem v168_1 : wpS P L168_1 T L (rdy h) K = wpS P ([⟨.mov (.c (.int .i64 0)), (some 3), none, []⟩]) T L (rdy h) K := rfl
def L168_2 : List AStep := [⟨.len (.t 5), (some 6), none, []⟩, ⟨.bin .lss (.t 4) (.t 6), (some 7), none, []⟩]
theorem v168_2 : wpS P L168_2 T L (rdy h) K = wpS P ([⟨.len (.t 5), (some 6), none, []⟩, ⟨.bin .lss (.t 4) (.t 6), (some 7), none, []⟩]) T L (rdy h) K := rfl
def L168_3 : List AStep := ⟨.mov (.t 3), (some 4), none, []⟩ :: ⟨.mov (.t 0), (some 5), none, []⟩ :: L168_2
theorem v168_3 : wpS P L168_3 T L (rdy h) K = wpS P (⟨.mov (.t 3), (some 4), none, []⟩ :: ⟨.mov (.t 0), (some 5), none, []⟩ :: L168_2) T L (rdy h) K := rfl
def L168_4 : List AStep := [⟨.not (.t 23), (some 24), (some (17, false)), []⟩, ⟨.pick (.t 17) (.c (.bool true)) (.t 24), (some 25), none, []⟩]
theorem v168_4 : wpS P L168_4 T L (rdy h) K = wpS P ([⟨.not (.t 23), (some 24), (some (17, false)), []⟩, ⟨.pick (.t 17) (.c (.bool true)) (.t 24), (some 25), none, []⟩]) T L (rdy h) K := rfl
def L168_5 : List AStep := ⟨.load 1 false (.t 21), (some 22), (some (17, false)), []⟩ :: ⟨.call 202 [(.t 22)], (some 23), (some (17, false)), []⟩ :: L168_4
theorem v168_5 : wpS P L168_5 T L (rdy h) K = wpS P (⟨.load 1 false (.t 21), (some 22), (some (17, false)), []⟩ :: ⟨.call 202 [(.t 22)], (some 23), (some (17, false)), []⟩ :: L168_4) T L (rdy h) K := rfl
def L168_6 : List AStep := ⟨.iaddr 2 (.t 18) (.t 19), (some 20), (some (17, false)), []⟩ :: ⟨.faddr 1 (.t 20), (some 21), (some (17, false)), []⟩ :: L168_5
theorem v168_6 : wpS P L168_6 T L (rdy h) K = wpS P (⟨.iaddr 2 (.t 18) (.t 19), (some 20), (some (17, false)), []⟩ :: ⟨.faddr 1 (.t 20), (some 21), (some (17, false)), []⟩ :: L168_5) T L (rdy h) K := rfl
def L168_7 : List AStep := ⟨.mov (.t 0), (some 18), (some (17, false)), []⟩ :: ⟨.mov (.t 3), (some 19), (some (17, false)), []⟩ :: L168_6
theorem v168_7 : wpS P L168_7 T L (rdy h) K = wpS P (⟨.mov (.t 0), (some 18), (some (17, false)), []⟩ :: ⟨.mov (.t 3), (some 19), (some (17, false)), []⟩ :: L168_6) T L (rdy h) K := rfl
def L168_8 : List AStep := ⟨.not (.t 15), (some 16), none, []⟩ :: ⟨.mov (.t 16), (some 17), none, []⟩ :: L168_7
theorem v168_8 : wpS P L168_8 T L (rdy h) K = wpS P (⟨.not (.t 15), (some 16), none, []⟩ :: ⟨.mov (.t 16), (some 17), none, []⟩ :: L168_7) T L (rdy h) K := rfl
def L168_9 : List AStep := ⟨.load 1 false (.t 13), (some 14), none, []⟩ :: ⟨.call 164 [(.t 14)], (some 15), none, []⟩ :: L168_8
theorem v168_9 : wpS P L168_9 T L (rdy h) K = wpS P (⟨.load 1 false (.t 13), (some 14), none, []⟩ :: ⟨.call 164 [(.t 14)], (some 15), none, []⟩ :: L168_8) T L (rdy h) K := rfl
def L168_10 : List AStep := ⟨.iaddr 2 (.t 10) (.t 11), (some 12), none, []⟩ :: ⟨.faddr 0 (.t 12), (some 13), none, []⟩ :: L168_9
theorem v168_10 : wpS P L168_10 T L (rdy h) K = wpS P (⟨.iaddr 2 (.t 10) (.t 11), (some 12), none, []⟩ :: ⟨.faddr 0 (.t 12), (some 13), none, []⟩ :: L168_9) T L (rdy h) K := rfl
def L168_11 : List AStep := ⟨.mov (.t 0), (some 10), none, []⟩ :: ⟨.mov (.t 3), (some 11), none, []⟩ :: L168_10
theorem v168_11 : wpS P L168_11 T L (rdy h) K = wpS P (⟨.mov (.t 0), (some 10), none, []⟩ :: ⟨.mov (.t 3), (some 11), none, []⟩ :: L168_10) T L (rdy h) K := rfl
def L168_12 : List AStep := [⟨.mov (.c (.bool false)), (some 2), none, []⟩]
theorem v168_12 : wpS P L168_12 T L (rdy h) K = wpS P ([⟨.mov (.c (.bool false)), (some 2), none, []⟩]) T L (rdy h) K := rfl
def L168_13 : List AStep := [⟨.mov (.t 9), (some 3), none, []⟩]
theorem v168_13 : wpS P L168_13 T L (rdy h) K = wpS P ([⟨.mov (.t 9), (some 3), none, []⟩]) T L (rdy h) K := rfl
def L168_14 : List AStep := ⟨.mov (.t 3), (some 8), none, []⟩ :: ⟨.bin .add (.t 8) (.c (.int .i64 1)), (some 9), none, []⟩ :: L168_13
theorem v168_14 : wpS P L168_14 T L (rdy h) K = wpS P (⟨.mov (.t 3), (some 8), none, []⟩ :: ⟨.bin .add (.t 8) (.c (.int .i64 1)), (some 9), none, []⟩ :: L168_13) T L (rdy h) K := rfl
def L168_15 : List AStep := [⟨.mov (.c (.bool true)), (some 2), none, []⟩]
theorem v168_15 : wpS P L168_15 T L (rdy h) K = wpS P ([⟨.mov (.c (.bool true)), (some 2), none, []⟩]) T L (rdy h) K := rfl
def C168_0 : ACode := .cond (.t 7) .skip (.exit 0)
theorem u168_0 : wpC P C168_0 T L (rdy h) Q = wpC P (.cond (.t 7) .skip (.exit 0)) T L (rdy h) Q := rfl
def C168_1 : ACode := .seq (.reg L168_3) C168_0
theorem u168_1 : wpC P C168_1 T L (rdy h) Q = wpC P (.seq (.reg L168_3) C168_0) T L (rdy h) Q := rfl
def C168_2 : ACode := .seq (.reg L168_12) .ret
theorem u168_2 : wpC P C168_2 T L (rdy h) Q = wpC P (.seq (.reg L168_12) .ret) T L (rdy h) Q := rfl
def C168_3 : ACode := .cond (.t 25) C168_2 .skip
theorem u168_3 : wpC P C168_3 T L (rdy h) Q = wpC P (.cond (.t 25) C168_2 .skip) T L (rdy h) Q := rfl
def C168_4 : ACode := .seq (.reg L168_11) C168_3
theorem u168_4 : wpC P C168_4 T L (rdy h) Q = wpC P (.seq (.reg L168_11) C168_3) T L (rdy h) Q := rfl
def C168_5 : ACode := .block 1 C168_4
theorem u168_5 : wpC P C168_5 T L (rdy h) Q = wpC P (.block 1 C168_4) T L (rdy h) Q := rfl
def C168_6 : ACode := .seq C168_5 (.reg L168_14)
theorem u168_6 : wpC P C168_6 T L (rdy h) Q = wpC P (.seq C168_5 (.reg L168_14)) T L (rdy h) Q := rfl
def C168_7 : ACode := .seq C168_1 C168_6
theorem u168_7 : wpC P C168_7 T L (rdy h) Q = wpC P (.seq C168_1 C168_6) T L (rdy h) Q := rfl
def C168_8 : ACode := .block 0 (.loop C168_7)
theorem u168_8 : wpC P C168_8 T L (rdy h) Q = wpC P (.block 0 (.loop C168_7)) T L (rdy h) Q := rfl
def C168_9 : ACode := .seq (.reg L168_1) C168_8
theorem u168_9 : wpC P C168_9 T L (rdy h) Q = wpC P (.seq (.reg L168_1) C168_8) T L (rdy h) Q := rfl
def C168_10 : ACode := .seq (.reg L168_15) .ret
theorem u168_10 : wpC P C168_10 T L (rdy h) Q = wpC P (.seq (.reg L168_15) .ret) T L (rdy h) Q := rfl
def C168_11 : ACode := .seq C168_9 C168_10
theorem u168_11 : wpC P C168_11 T L (rdy h) Q = wpC P (.seq C168_9 C168_10) T L (rdy h) Q := rfl
def C168_12 : ACode := .seq (.reg L168_0) C168_11
theorem u168_12 : wpC P C168_12 T L (rdy h) Q = wpC P (.seq (.reg L168_0) C168_11) T L (rdy h) Q := rfl
def F168 : AFunc := ⟨26, [.tmp 2], C168_12⟩
theorem cF168 : compB Try.prog 168 = some F168 := by kernel_rfl
end
attribute [local go_sem ↓] u168_0 u168_1 u168_2 u168_3 u168_4 u168_5 u168_6 u168_7 u168_8 u168_9 u168_10 u168_11 u168_12 v168_0 v168_1 v168_2 v168_3 v168_4 v168_5 v168_6 v168_7 v168_8 v168_9 v168_10 v168_11 v168_12 v168_13 v168_14 v168_15
theorem c_validPairs (l : List Pair) (v : AV) (h : H) (hl : SlP h v l) (hn : smP l) : bm Try.prog 168 [v] h = some (ib (l.all okPair), h) := by
  refine bm_eq cF168 ?_
  simp +contextual (maxSteps := 2000000) only [go_sem, Nat.reduceEqDiff, reduceCtorEq, Nat.reduceAdd, Nat.reduceLeDiff, F168]
  refine wpC_loop (fun i T L h' => h' = h ∧ T 0 = .v v ∧ T 3 = .v (.one (.int .i64 i)) ∧ Pre okPair true l i) l.length ?_ ?_ (Nat.zero_le _) ?_
  · rintro i T L h' hi ⟨rfl, h0, h3, hp⟩
    simp +contextual (maxSteps := 2000000) only [go_sem, Nat.reduceEqDiff, reduceCtorEq, Nat.reduceAdd, Nat.reduceLeDiff, h0, h3, hl.len, hl.iaddr hi, hl.fieldO hi, c_validNumber, c_validName _ _ (hn.at hi), lt_true hi]
    (repeat' (first | refine And.intro ?_ ?_ | intro _)) <;> first | rfl | rw [wrap_next hi hn.len] | exact hp.next hi (by simp [okPair, *]) | rw [all_stop hi (by simp [okPair, *])]
  · rintro T L h' ⟨rfl, h0, h3, hp⟩
    simp +contextual (maxSteps := 2000000) only [go_sem, Nat.reduceEqDiff, reduceCtorEq, Nat.reduceAdd, Nat.reduceLeDiff, h0, h3, hl.len, lt_false, hp.all]
  · simp +contextual (maxSteps := 2000000) only [go_sem, Nat.reduceEqDiff, reduceCtorEq, Nat.reduceAdd, Nat.reduceLeDiff]
    (repeat' (first | refine And.intro ?_ ?_ | intro _)) <;> first | rfl | exact Pre.zero
section
variable {P : Program} {T : Tb} {L : Lb} {h : H} {Q : PostC} {K : Post}
/-! spec.validFlat -/
def L77_0 : List AStep := [⟨.box 31 (.t 0), (some 1), none, []⟩, ⟨.mov (.c (.bool false)), (some 2), none, []⟩]
theorem v77_0 : wpS P L77_0 T L (rdy h) K = wpS P ([⟨.box 31 (.t 0), (some 1), none, []⟩, ⟨.mov (.c (.bool false)), (some 2), none, []⟩]) T L (rdy h) K := rfl
def L77_1 : List AStep := [⟨.mov (.c (.int .i64 0)), (some 3), none, []⟩]
theorem v77_1 : wpS P L77_1 T L (rdy h) K = wpS P ([⟨.mov (.c (.int .i64 0)), (some 3), none, []⟩]) T L (rdy h) K := rfl
def L77_2 : List AStep := [⟨.bin .lss (.t 4) (.t 7), (some 8), none, []⟩]
theorem v77_2 : wpS P L77_2 T L (rdy h) K = wpS P ([⟨.bin .lss (.t 4) (.t 7), (some 8), none, []⟩]) T L (rdy h) K := rfl
def L77_3 : List AStep := ⟨.load 1 false (.t 5), (some 6), none, []⟩ :: ⟨.len (.t 6), (some 7), none, []⟩ :: L77_2
theorem v77_3 : wpS P L77_3 T L (rdy h) K = wpS P (⟨.load 1 false (.t 5), (some 6), none, []⟩ :: ⟨.len (.t 6), (some 7), none, []⟩ :: L77_2) T L (rdy h) K := rfl
def L77_4 : List AStep := ⟨.mov (.t 3), (some 4), none, []⟩ :: ⟨.faddr 1 (.t 1), (some 5), none, []⟩ :: L77_3
theorem v77_4 : wpS P L77_4 T L (rdy h) K = wpS P (⟨.mov (.t 3), (some 4), none, []⟩ :: ⟨.faddr 1 (.t 1), (some 5), none, []⟩ :: L77_3) T L (rdy h) K := rfl
def L77_5 : List AStep := [⟨.call 166 [(.t 14), (.t 20)], (some 21), none, []⟩, ⟨.bin .geq (.t 21) (.c (.int .i64 0)), (some 22), none, []⟩]
theorem v77_5 : wpS P L77_5 T L (rdy h) K = wpS P ([⟨.call 166 [(.t 14), (.t 20)], (some 21), none, []⟩, ⟨.bin .geq (.t 21) (.c (.int .i64 0)), (some 22), none, []⟩]) T L (rdy h) K := rfl
def L77_6 : List AStep := ⟨.faddr 0 (.t 18), (some 19), none, []⟩ :: ⟨.load 1 false (.t 19), (some 20), none, []⟩ :: L77_5
theorem v77_6 : wpS P L77_6 T L (rdy h) K = wpS P (⟨.faddr 0 (.t 18), (some 19), none, []⟩ :: ⟨.load 1 false (.t 19), (some 20), none, []⟩ :: L77_5) T L (rdy h) K := rfl
def L77_7 : List AStep := ⟨.mov (.t 3), (some 17), none, []⟩ :: ⟨.iaddr 2 (.t 16) (.t 17), (some 18), none, []⟩ :: L77_6
theorem v77_7 : wpS P L77_7 T L (rdy h) K = wpS P (⟨.mov (.t 3), (some 17), none, []⟩ :: ⟨.iaddr 2 (.t 16) (.t 17), (some 18), none, []⟩ :: L77_6) T L (rdy h) K := rfl
def L77_8 : List AStep := ⟨.faddr 1 (.t 1), (some 15), none, []⟩ :: ⟨.load 1 false (.t 15), (some 16), none, []⟩ :: L77_7
theorem v77_8 : wpS P L77_8 T L (rdy h) K = wpS P (⟨.faddr 1 (.t 1), (some 15), none, []⟩ :: ⟨.load 1 false (.t 15), (some 16), none, []⟩ :: L77_7) T L (rdy h) K := rfl
def L77_9 : List AStep := ⟨.mov (.t 3), (some 13), none, []⟩ :: ⟨.slice 133 2 (.t 12) none (some (.t 13)) none, (some 14), none, []⟩ :: L77_8
theorem v77_9 : wpS P L77_9 T L (rdy h) K = wpS P (⟨.mov (.t 3), (some 13), none, []⟩ :: ⟨.slice 133 2 (.t 12) none (some (.t 13)) none, (some 14), none, []⟩ :: L77_8) T L (rdy h) K := rfl
def L77_10 : List AStep := ⟨.faddr 1 (.t 1), (some 11), none, []⟩ :: ⟨.load 1 false (.t 11), (some 12), none, []⟩ :: L77_9
theorem v77_10 : wpS P L77_10 T L (rdy h) K = wpS P (⟨.faddr 1 (.t 1), (some 11), none, []⟩ :: ⟨.load 1 false (.t 11), (some 12), none, []⟩ :: L77_9) T L (rdy h) K := rfl
def L77_11 : List AStep := [⟨.mov (.c (.bool false)), (some 2), none, []⟩]
theorem v77_11 : wpS P L77_11 T L (rdy h) K = wpS P ([⟨.mov (.c (.bool false)), (some 2), none, []⟩]) T L (rdy h) K := rfl
def L77_12 : List AStep := [⟨.mov (.t 10), (some 3), none, []⟩]
theorem v77_12 : wpS P L77_12 T L (rdy h) K = wpS P ([⟨.mov (.t 10), (some 3), none, []⟩]) T L (rdy h) K := rfl
def L77_13 : List AStep := ⟨.mov (.t 3), (some 9), none, []⟩ :: ⟨.bin .add (.t 9) (.c (.int .i64 1)), (some 10), none, []⟩ :: L77_12
theorem v77_13 : wpS P L77_13 T L (rdy h) K = wpS P (⟨.mov (.t 3), (some 9), none, []⟩ :: ⟨.bin .add (.t 9) (.c (.int .i64 1)), (some 10), none, []⟩ :: L77_12) T L (rdy h) K := rfl
def L77_14 : List AStep := [⟨.mov (.t 42), (some 2), none, []⟩]
theorem v77_14 : wpS P L77_14 T L (rdy h) K = wpS P ([⟨.mov (.t 42), (some 2), none, []⟩]) T L (rdy h) K := rfl
def L77_15 : List AStep := ⟨.bin .leq (.t 40) (.c (.int .i64 8)), (some 41), (some (37, true)), []⟩ :: ⟨.pick (.t 37) (.t 41) (.c (.bool false)), (some 42), none, []⟩ :: L77_14
theorem v77_15 : wpS P L77_15 T L (rdy h) K = wpS P (⟨.bin .leq (.t 40) (.c (.int .i64 8)), (some 41), (some (37, true)), []⟩ :: ⟨.pick (.t 37) (.t 41) (.c (.bool false)), (some 42), none, []⟩ :: L77_14) T L (rdy h) K := rfl
def L77_16 : List AStep := ⟨.load 1 false (.t 38), (some 39), (some (37, true)), []⟩ :: ⟨.len (.t 39), (some 40), (some (37, true)), []⟩ :: L77_15
theorem v77_16 : wpS P L77_16 T L (rdy h) K = wpS P (⟨.load 1 false (.t 38), (some 39), (some (37, true)), []⟩ :: ⟨.len (.t 39), (some 40), (some (37, true)), []⟩ :: L77_15) T L (rdy h) K := rfl
def L77_17 : List AStep := ⟨.mov (.t 36), (some 37), none, []⟩ :: ⟨.faddr 1 (.t 1), (some 38), (some (37, true)), []⟩ :: L77_16
theorem v77_17 : wpS P L77_17 T L (rdy h) K = wpS P (⟨.mov (.t 36), (some 37), none, []⟩ :: ⟨.faddr 1 (.t 1), (some 38), (some (37, true)), []⟩ :: L77_16) T L (rdy h) K := rfl
def L77_18 : List AStep := ⟨.bin .leq (.t 34) (.c (.int .i64 8)), (some 35), (some (31, true)), []⟩ :: ⟨.pick (.t 31) (.t 35) (.c (.bool false)), (some 36), none, []⟩ :: L77_17
theorem v77_18 : wpS P L77_18 T L (rdy h) K = wpS P (⟨.bin .leq (.t 34) (.c (.int .i64 8)), (some 35), (some (31, true)), []⟩ :: ⟨.pick (.t 31) (.t 35) (.c (.bool false)), (some 36), none, []⟩ :: L77_17) T L (rdy h) K := rfl
def L77_19 : List AStep := ⟨.load 1 false (.t 32), (some 33), (some (31, true)), []⟩ :: ⟨.len (.t 33), (some 34), (some (31, true)), []⟩ :: L77_18
theorem v77_19 : wpS P L77_19 T L (rdy h) K = wpS P (⟨.load 1 false (.t 32), (some 33), (some (31, true)), []⟩ :: ⟨.len (.t 33), (some 34), (some (31, true)), []⟩ :: L77_18) T L (rdy h) K := rfl
def L77_20 : List AStep := ⟨.mov (.t 30), (some 31), none, []⟩ :: ⟨.faddr 0 (.t 1), (some 32), (some (31, true)), []⟩ :: L77_19
theorem v77_20 : wpS P L77_20 T L (rdy h) K = wpS P (⟨.mov (.t 30), (some 31), none, []⟩ :: ⟨.faddr 0 (.t 1), (some 32), (some (31, true)), []⟩ :: L77_19) T L (rdy h) K := rfl
def L77_21 : List AStep := ⟨.call 168 [(.t 28)], (some 29), (some (26, true)), []⟩ :: ⟨.pick (.t 26) (.t 29) (.c (.bool false)), (some 30), none, []⟩ :: L77_20
theorem v77_21 : wpS P L77_21 T L (rdy h) K = wpS P (⟨.call 168 [(.t 28)], (some 29), (some (26, true)), []⟩ :: ⟨.pick (.t 26) (.t 29) (.c (.bool false)), (some 30), none, []⟩ :: L77_20) T L (rdy h) K := rfl
def L77_22 : List AStep := ⟨.faddr 1 (.t 1), (some 27), (some (26, true)), []⟩ :: ⟨.load 1 false (.t 27), (some 28), (some (26, true)), []⟩ :: L77_21
theorem v77_22 : wpS P L77_22 T L (rdy h) K = wpS P (⟨.faddr 1 (.t 1), (some 27), (some (26, true)), []⟩ :: ⟨.load 1 false (.t 27), (some 28), (some (26, true)), []⟩ :: L77_21) T L (rdy h) K := rfl
def L77_23 : List AStep := ⟨.call 167 [(.t 24)], (some 25), none, []⟩ :: ⟨.mov (.t 25), (some 26), none, []⟩ :: L77_22
theorem v77_23 : wpS P L77_23 T L (rdy h) K = wpS P (⟨.call 167 [(.t 24)], (some 25), none, []⟩ :: ⟨.mov (.t 25), (some 26), none, []⟩ :: L77_22) T L (rdy h) K := rfl
def L77_24 : List AStep := ⟨.faddr 0 (.t 1), (some 23), none, []⟩ :: ⟨.load 1 false (.t 23), (some 24), none, []⟩ :: L77_23
theorem v77_24 : wpS P L77_24 T L (rdy h) K = wpS P (⟨.faddr 0 (.t 1), (some 23), none, []⟩ :: ⟨.load 1 false (.t 23), (some 24), none, []⟩ :: L77_23) T L (rdy h) K := rfl
def C77_0 : ACode := .cond (.t 8) .skip (.exit 0)
theorem u77_0 : wpC P C77_0 T L (rdy h) Q = wpC P (.cond (.t 8) .skip (.exit 0)) T L (rdy h) Q := rfl
def C77_1 : ACode := .seq (.reg L77_4) C77_0
theorem u77_1 : wpC P C77_1 T L (rdy h) Q = wpC P (.seq (.reg L77_4) C77_0) T L (rdy h) Q := rfl
def C77_2 : ACode := .seq (.reg L77_11) .ret
theorem u77_2 : wpC P C77_2 T L (rdy h) Q = wpC P (.seq (.reg L77_11) .ret) T L (rdy h) Q := rfl
def C77_3 : ACode := .cond (.t 22) C77_2 .skip
theorem u77_3 : wpC P C77_3 T L (rdy h) Q = wpC P (.cond (.t 22) C77_2 .skip) T L (rdy h) Q := rfl
def C77_4 : ACode := .seq (.reg L77_10) C77_3
theorem u77_4 : wpC P C77_4 T L (rdy h) Q = wpC P (.seq (.reg L77_10) C77_3) T L (rdy h) Q := rfl
def C77_5 : ACode := .block 1 C77_4
theorem u77_5 : wpC P C77_5 T L (rdy h) Q = wpC P (.block 1 C77_4) T L (rdy h) Q := rfl
def C77_6 : ACode := .seq C77_5 (.reg L77_13)
theorem u77_6 : wpC P C77_6 T L (rdy h) Q = wpC P (.seq C77_5 (.reg L77_13)) T L (rdy h) Q := rfl
def C77_7 : ACode := .seq C77_1 C77_6
theorem u77_7 : wpC P C77_7 T L (rdy h) Q = wpC P (.seq C77_1 C77_6) T L (rdy h) Q := rfl
def C77_8 : ACode := .block 0 (.loop C77_7)
theorem u77_8 : wpC P C77_8 T L (rdy h) Q = wpC P (.block 0 (.loop C77_7)) T L (rdy h) Q := rfl
def C77_9 : ACode := .seq (.reg L77_1) C77_8
theorem u77_9 : wpC P C77_9 T L (rdy h) Q = wpC P (.seq (.reg L77_1) C77_8) T L (rdy h) Q := rfl
def C77_10 : ACode := .seq (.reg L77_24) .ret
theorem u77_10 : wpC P C77_10 T L (rdy h) Q = wpC P (.seq (.reg L77_24) .ret) T L (rdy h) Q := rfl
def C77_11 : ACode := .seq C77_9 C77_10
theorem u77_11 : wpC P C77_11 T L (rdy h) Q = wpC P (.seq C77_9 C77_10) T L (rdy h) Q := rfl
def C77_12 : ACode := .seq (.reg L77_0) C77_11
theorem u77_12 : wpC P C77_12 T L (rdy h) Q = wpC P (.seq (.reg L77_0) C77_11) T L (rdy h) Q := rfl
def F77 : AFunc := ⟨43, [.tmp 2], C77_12⟩
theorem cF77 : compB Try.prog 77 = some F77 := by kernel_rfl
end
attribute [local go_sem ↓] u77_0 u77_1 u77_2 u77_3 u77_4 u77_5 u77_6 u77_7 u77_8 u77_9 u77_10 u77_11 u77_12 v77_0 v77_1 v77_2 v77_3 v77_4 v77_5 v77_6 v77_7 v77_8 v77_9 v77_10 v77_11 v77_12 v77_13 v77_14 v77_15 v77_16 v77_17 v77_18 v77_19 v77_20 v77_21 v77_22 v77_23 v77_24
theorem c_validFlat (f : Flat) (pv nv : CV) (h : H) (hp : SlI h (.one pv) f.pl) (hq : SlP h (.one nv) f.nl) (hn : smF f) : bm Try.prog 77 [.agg [pv, nv]] h = some (ib (okFlat f), h) := by
  refine bm_eq cF77 ?_
  simp +contextual (maxSteps := 2000000) only [go_sem, Nat.reduceEqDiff, reduceCtorEq, Nat.reduceAdd, Nat.reduceLeDiff, F77]
  refine wpC_loop (fun i T L h' => h' = h ∧ T 1 = .lp 1 0 ∧ (L 1).2 = [pv, nv] ∧ T 3 = .v (.one (.int .i64 i)) ∧ Upto (newAt Pair.name f.nl) i) f.nl.length ?_ ?_ (Nat.zero_le _) ?_
  · rintro i T L h' hi ⟨rfl, t1, l1, t3, hu⟩
    obtain ⟨v', e1, s1⟩ := hq.takeO (i := i) (by omega) (kd := .i64)
    have e2 : decide (pairAt (f.nl.take i) f.nl[i].name ≥ 0) = !(newAt Pair.name f.nl i) := newAt_ge hi
    simp +contextual (maxSteps := 2000000) only [go_sem, Nat.reduceEqDiff, reduceCtorEq, Nat.reduceAdd, Nat.reduceLeDiff, e2, t1, l1, t3, hq.len, hq.iaddr hi, hq.fieldO hi, lt_true hi, e1, c_pairAt _ _ _ _ s1 (hn.nl.take i)]
    (repeat' (first | refine And.intro ?_ ?_ | intro _)) <;> first | rfl | rw [wrap_next hi hn.nl.len] | exact hu.next (by simp_all) | rw [okFlat, apart_not hi (by simp_all)]; rfl
  · rintro T L h' ⟨rfl, t1, l1, t3, hu⟩
    simp +contextual (maxSteps := 2000000) only [go_sem, Nat.reduceEqDiff, reduceCtorEq, Nat.reduceAdd, Nat.reduceLeDiff, t1, l1, t3, hq.len, hp.len, lt_false, c_validNumbers _ _ _ hp hn.pl, c_validPairs _ _ _ hq hn.nl, okFlat, apart_of hu]
    (repeat' (first | refine And.intro ?_ ?_ | intro _)) <;> first | rfl | simp_all
  · simp +contextual (maxSteps := 2000000) only [go_sem, Nat.reduceEqDiff, reduceCtorEq, Nat.reduceAdd, Nat.reduceLeDiff]
    (repeat' (first | refine And.intro ?_ ?_ | intro _)) <;> first | rfl | exact Upto.zero
end Go.Proofs.Ytcbnihbilmlokaa.Am
