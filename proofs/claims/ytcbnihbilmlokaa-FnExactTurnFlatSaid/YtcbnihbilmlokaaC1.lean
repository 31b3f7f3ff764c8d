/- Contracts: turns, of both sides. -/
import Derived.Test.YtcbnihbilmlokaaA2
import Derived.Test.YtcbnihbilmlokaaA3
import Derived.Test.YtcbnihbilmlokaaA4
import Derived.Test.YtcbnihbilmlokaaB1
import Derived.Test.YtcbnihbilmlokaaB2
namespace Go.Proofs.Ytcbnihbilmlokaa.Am
open Go
set_option maxRecDepth 100000
set_option maxHeartbeats 4000000
set_option linter.unusedSimpArgs false
set_option linter.unusedVariables false
attribute [local go_sem ↓] bv_t bv_c ev_t ev_c put_same put_ne put_none kill_at pro_at lb_same lb_ne start_zero start_succ wpC_seq wpC_reg wpC_cond wpC_block wpC_skip wpC_exit wpC_ret thenQ_normal thenQ_exit thenQ_ret inBlk_normal inBlk_exit inBlk_ret wpS_nil wpS_step wpS_again wpS_guard wpO_mov wpO_load wpO_faddr wpO_nilCheck wpO_pick wpO_build wpO_bin wpO_eqb wpO_eqst wpO_eqnil wpO_not wpO_conv wpO_bytesStr wpO_iaddr wpO_idxStr wpO_field wpO_extract wpO_len wpO_lenStr wpO_cap wpO_min wpO_slice wpO_sliceStr wpO_alloc wpO_box wpO_store wpO_call wpO_callv wpO_mkfn wpO_buildSlice wpO_mkslice wpO_append wpO_appz proA_nil proA_cons tmpX_nil tmpX_tmp tmpX_cell doneB_normal doneB_ret agK_cons agK_nil pureB_load results_one results_two results_nil resBs_cons resBs_nil resB_tmp resB_cell
attribute [local go_sem] kill_v kill_lp_ne kill_lp_same pro_v pro_lp_same pro_lp_ne av_v av_lp optB_some optX_some valX_eq ldX_lp ldX_v faX_lp faX_v ncX_lp ncX_ptr ncX_fn boxK_one boxK_agg stL_some stK_lp_one stK_lp_agg stK_v_one stK_v_agg proM_v proM_lp callG_mk callVG_mk callvK_fn fnG_mk ptrsA_nil ptrsA_cons callH_some whenA_true whenA_false guardH_tt guardH_ff guardH_tf guardH_ft guardH_undef agV_one agV_agg lenO_sl lenStrO_str notO_bool pickO_bool convO_int eqbO_bool eqnilO_sl extractO_tup capO_sl minO_int loadL_one loadL_all storeL_eq fillA_nil fillA_one fillA_agg nat_ge neg_ge nat_lt neg_lt buildO bin_add bin_sub bin_mul bin_eql bin_neq bin_lss bin_leq bin_gtr bin_geq str_eql str_neq str_lss str_leq str_gtr str_geq retK_some endK_mk gcK_same gcK_int gcK_bool tupO_one tupO_agg rdy_self ib ii Option.map_none Option.map_some Option.some.injEq exists_eq_left' exists_eq_left ne_eq not_false_eq_true if_true if_false List.map_cons List.map_nil List.getElem?_cons_zero List.getElem?_cons_succ List.length_cons List.length_nil List.take_succ_cons List.take_zero List.take_nil List.drop_succ_cons List.drop_zero List.drop_nil List.cons_append List.nil_append List.append_nil List.set_cons_zero List.set_cons_succ Nat.zero_add forall_const true_and and_true and_self Bool.false_eq_true false_implies true_implies implies_true Bool.not_true Bool.not_false Bool.not_eq_true' Bool.not_eq_false' beq_self_eq_true Bool.bne_true Bool.bne_false
attribute [local go_sem] lenI lenS lenP lenQ lenB lenL lenT encI_0 encS_0 encP_0 encP_1 encQ_0 encQ_1 encQ_2 encQ_3 encB_0 encB_1 encL_0 encL_1 encT_0 encT_1
attribute [local go_sem low] whenA_bool guardH_bool
section
variable {P : Program} {T : Tb} {L : Lb} {h : H} {Q : PostC} {K : Post}
/-! spec.turnAt -/
def L165_0 : List AStep := [⟨.mov (.c (.int .i64 0)), (some 4), none, []⟩]
theorem v165_0 : wpS P L165_0 T L (rdy h) K = wpS P ([⟨.mov (.c (.int .i64 0)), (some 4), none, []⟩]) T L (rdy h) K := rfl
def L165_1 : List AStep := [⟨.mov (.c (.int .i64 0)), (some 5), none, []⟩]
theorem v165_1 : wpS P L165_1 T L (rdy h) K = wpS P ([⟨.mov (.c (.int .i64 0)), (some 5), none, []⟩]) T L (rdy h) K := rfl
def L165_2 : List AStep := [⟨.len (.t 7), (some 8), none, []⟩, ⟨.bin .lss (.t 6) (.t 8), (some 9), none, []⟩]
theorem v165_2 : wpS P L165_2 T L (rdy h) K = wpS P ([⟨.len (.t 7), (some 8), none, []⟩, ⟨.bin .lss (.t 6) (.t 8), (some 9), none, []⟩]) T L (rdy h) K := rfl
def L165_3 : List AStep := ⟨.mov (.t 5), (some 6), none, []⟩ :: ⟨.mov (.t 0), (some 7), none, []⟩ :: L165_2
theorem v165_3 : wpS P L165_3 T L (rdy h) K = wpS P (⟨.mov (.t 5), (some 6), none, []⟩ :: ⟨.mov (.t 0), (some 7), none, []⟩ :: L165_2) T L (rdy h) K := rfl
def L165_4 : List AStep := [⟨.bin .eql (.t 16) (.t 17), (some 18), none, []⟩]
theorem v165_4 : wpS P L165_4 T L (rdy h) K = wpS P ([⟨.bin .eql (.t 16) (.t 17), (some 18), none, []⟩]) T L (rdy h) K := rfl
def L165_5 : List AStep := ⟨.load 1 false (.t 15), (some 16), none, []⟩ :: ⟨.mov (.t 1), (some 17), none, []⟩ :: L165_4
theorem v165_5 : wpS P L165_5 T L (rdy h) K = wpS P (⟨.load 1 false (.t 15), (some 16), none, []⟩ :: ⟨.mov (.t 1), (some 17), none, []⟩ :: L165_4) T L (rdy h) K := rfl
def L165_6 : List AStep := ⟨.iaddr 2 (.t 12) (.t 13), (some 14), none, []⟩ :: ⟨.faddr 0 (.t 14), (some 15), none, []⟩ :: L165_5
theorem v165_6 : wpS P L165_6 T L (rdy h) K = wpS P (⟨.iaddr 2 (.t 12) (.t 13), (some 14), none, []⟩ :: ⟨.faddr 0 (.t 14), (some 15), none, []⟩ :: L165_5) T L (rdy h) K := rfl
def L165_7 : List AStep := ⟨.mov (.t 0), (some 12), none, []⟩ :: ⟨.mov (.t 5), (some 13), none, []⟩ :: L165_6
theorem v165_7 : wpS P L165_7 T L (rdy h) K = wpS P (⟨.mov (.t 0), (some 12), none, []⟩ :: ⟨.mov (.t 5), (some 13), none, []⟩ :: L165_6) T L (rdy h) K := rfl
def L165_8 : List AStep := [⟨.mov (.t 5), (some 19), none, []⟩, ⟨.mov (.t 19), (some 4), none, []⟩]
theorem v165_8 : wpS P L165_8 T L (rdy h) K = wpS P ([⟨.mov (.t 5), (some 19), none, []⟩, ⟨.mov (.t 19), (some 4), none, []⟩]) T L (rdy h) K := rfl
def L165_9 : List AStep := [⟨.mov (.t 11), (some 5), none, []⟩]
theorem v165_9 : wpS P L165_9 T L (rdy h) K = wpS P ([⟨.mov (.t 11), (some 5), none, []⟩]) T L (rdy h) K := rfl
def L165_10 : List AStep := ⟨.mov (.t 5), (some 10), none, []⟩ :: ⟨.bin .add (.t 10) (.c (.int .i64 1)), (some 11), none, []⟩ :: L165_9
theorem v165_10 : wpS P L165_10 T L (rdy h) K = wpS P (⟨.mov (.t 5), (some 10), none, []⟩ :: ⟨.bin .add (.t 10) (.c (.int .i64 1)), (some 11), none, []⟩ :: L165_9) T L (rdy h) K := rfl
def L165_11 : List AStep := [⟨.mov (.c (.int .i64 (-1))), (some 4), none, []⟩]
theorem v165_11 : wpS P L165_11 T L (rdy h) K = wpS P ([⟨.mov (.c (.int .i64 (-1))), (some 4), none, []⟩]) T L (rdy h) K := rfl
def C165_0 : ACode := .cond (.t 9) .skip (.exit 0)
theorem u165_0 : wpC P C165_0 T L (rdy h) Q = wpC P (.cond (.t 9) .skip (.exit 0)) T L (rdy h) Q := rfl
def C165_1 : ACode := .seq (.reg L165_3) C165_0
theorem u165_1 : wpC P C165_1 T L (rdy h) Q = wpC P (.seq (.reg L165_3) C165_0) T L (rdy h) Q := rfl
def C165_2 : ACode := .seq (.reg L165_8) .ret
theorem u165_2 : wpC P C165_2 T L (rdy h) Q = wpC P (.seq (.reg L165_8) .ret) T L (rdy h) Q := rfl
def C165_3 : ACode := .cond (.t 18) C165_2 .skip
theorem u165_3 : wpC P C165_3 T L (rdy h) Q = wpC P (.cond (.t 18) C165_2 .skip) T L (rdy h) Q := rfl
def C165_4 : ACode := .seq (.reg L165_7) C165_3
theorem u165_4 : wpC P C165_4 T L (rdy h) Q = wpC P (.seq (.reg L165_7) C165_3) T L (rdy h) Q := rfl
def C165_5 : ACode := .block 1 C165_4
theorem u165_5 : wpC P C165_5 T L (rdy h) Q = wpC P (.block 1 C165_4) T L (rdy h) Q := rfl
def C165_6 : ACode := .seq C165_5 (.reg L165_10)
theorem u165_6 : wpC P C165_6 T L (rdy h) Q = wpC P (.seq C165_5 (.reg L165_10)) T L (rdy h) Q := rfl
def C165_7 : ACode := .seq C165_1 C165_6
theorem u165_7 : wpC P C165_7 T L (rdy h) Q = wpC P (.seq C165_1 C165_6) T L (rdy h) Q := rfl
def C165_8 : ACode := .block 0 (.loop C165_7)
theorem u165_8 : wpC P C165_8 T L (rdy h) Q = wpC P (.block 0 (.loop C165_7)) T L (rdy h) Q := rfl
def C165_9 : ACode := .seq (.reg L165_1) C165_8
theorem u165_9 : wpC P C165_9 T L (rdy h) Q = wpC P (.seq (.reg L165_1) C165_8) T L (rdy h) Q := rfl
def C165_10 : ACode := .seq (.reg L165_11) .ret
theorem u165_10 : wpC P C165_10 T L (rdy h) Q = wpC P (.seq (.reg L165_11) .ret) T L (rdy h) Q := rfl
def C165_11 : ACode := .seq C165_9 C165_10
theorem u165_11 : wpC P C165_11 T L (rdy h) Q = wpC P (.seq C165_9 C165_10) T L (rdy h) Q := rfl
def C165_12 : ACode := .seq (.reg L165_0) C165_11
theorem u165_12 : wpC P C165_12 T L (rdy h) Q = wpC P (.seq (.reg L165_0) C165_11) T L (rdy h) Q := rfl
def F165 : AFunc := ⟨20, [.tmp 4], C165_12⟩
theorem cF165 : compB Try.prog 165 = some F165 := by kernel_rfl
end
attribute [local go_sem ↓] u165_0 u165_1 u165_2 u165_3 u165_4 u165_5 u165_6 u165_7 u165_8 u165_9 u165_10 u165_11 u165_12 v165_0 v165_1 v165_2 v165_3 v165_4 v165_5 v165_6 v165_7 v165_8 v165_9 v165_10 v165_11
theorem c_turnAt (l : List Turn) (v : AV) (s : ByteArray) (h : H) (hl : SlT h v l) (hn : l.length < 2 ^ 62) : bm Try.prog 165 [v, .one (.str s)] h = some (ii (turnAt l s), h) := by
  refine bm_eq cF165 ?_
  simp +contextual (maxSteps := 2000000) only [go_sem, Nat.reduceEqDiff, reduceCtorEq, Nat.reduceAdd, Nat.reduceLeDiff, F165]
  refine wpC_loop (fun i T L h' => h' = h ∧ T 0 = .v v ∧ T 1 = .v (.one (.str s)) ∧ T 5 = .v (.one (.int .i64 i)) ∧ Pre (fun p => decide (p.fr = s)) false l i) l.length ?_ ?_ (Nat.zero_le _) ?_
  · rintro i T L h' hi ⟨rfl, h0, h1, h3, hp⟩
    simp +contextual (maxSteps := 2000000) only [go_sem, Nat.reduceEqDiff, reduceCtorEq, Nat.reduceAdd, Nat.reduceLeDiff, h0, h1, h3, hl.len, hl.iaddr hi, hl.fieldO hi, lt_true hi]
    (repeat' (first | refine And.intro ?_ ?_ | intro _)) <;> first | rfl | rw [wrap_next hi hn] | exact hp.next hi ‹_› | rw [turnAt, idx_hit hi hp ‹_›]
  · rintro T L h' ⟨rfl, h0, h1, h3, hp⟩
    simp +contextual (maxSteps := 2000000) only [go_sem, Nat.reduceEqDiff, reduceCtorEq, Nat.reduceAdd, Nat.reduceLeDiff, h0, h1, h3, hl.len, lt_false, turnAt, idx_none hp]
  · simp +contextual (maxSteps := 2000000) only [go_sem, Nat.reduceEqDiff, reduceCtorEq, Nat.reduceAdd, Nat.reduceLeDiff]
    (repeat' (first | refine And.intro ?_ ?_ | intro _)) <;> first | rfl | exact Pre.zero
section
variable {P : Program} {T : Tb} {L : Lb} {h : H} {Q : PostC} {K : Post}
/-! spec.turned -/
def L79_0 : List AStep := [⟨.mov (.c (.str (strOfNums []))), (some 4), none, []⟩]
theorem v79_0 : wpS P L79_0 T L (rdy h) K = wpS P ([⟨.mov (.c (.str (strOfNums []))), (some 4), none, []⟩]) T L (rdy h) K := rfl
def L79_1 : List AStep := [⟨.call 165 [(.t 6), (.t 7)], (some 8), none, []⟩, ⟨.mov (.t 8), (some 5), none, []⟩]
theorem v79_1 : wpS P L79_1 T L (rdy h) K = wpS P ([⟨.call 165 [(.t 6), (.t 7)], (some 8), none, []⟩, ⟨.mov (.t 8), (some 5), none, []⟩]) T L (rdy h) K := rfl
def L79_2 : List AStep := ⟨.mov (.t 0), (some 6), none, []⟩ :: ⟨.mov (.t 1), (some 7), none, []⟩ :: L79_1
theorem v79_2 : wpS P L79_2 T L (rdy h) K = wpS P (⟨.mov (.t 0), (some 6), none, []⟩ :: ⟨.mov (.t 1), (some 7), none, []⟩ :: L79_1) T L (rdy h) K := rfl
def L79_3 : List AStep := [⟨.mov (.t 5), (some 9), none, []⟩, ⟨.bin .geq (.t 9) (.c (.int .i64 0)), (some 10), none, []⟩]
theorem v79_3 : wpS P L79_3 T L (rdy h) K = wpS P ([⟨.mov (.t 5), (some 9), none, []⟩, ⟨.bin .geq (.t 9) (.c (.int .i64 0)), (some 10), none, []⟩]) T L (rdy h) K := rfl
def L79_4 : List AStep := [⟨.load 1 false (.t 14), (some 15), none, []⟩, ⟨.mov (.t 15), (some 4), none, []⟩]
theorem v79_4 : wpS P L79_4 T L (rdy h) K = wpS P ([⟨.load 1 false (.t 14), (some 15), none, []⟩, ⟨.mov (.t 15), (some 4), none, []⟩]) T L (rdy h) K := rfl
def L79_5 : List AStep := ⟨.iaddr 2 (.t 11) (.t 12), (some 13), none, []⟩ :: ⟨.faddr 1 (.t 13), (some 14), none, []⟩ :: L79_4
theorem v79_5 : wpS P L79_5 T L (rdy h) K = wpS P (⟨.iaddr 2 (.t 11) (.t 12), (some 13), none, []⟩ :: ⟨.faddr 1 (.t 13), (some 14), none, []⟩ :: L79_4) T L (rdy h) K := rfl
def L79_6 : List AStep := ⟨.mov (.t 0), (some 11), none, []⟩ :: ⟨.mov (.t 5), (some 12), none, []⟩ :: L79_5
theorem v79_6 : wpS P L79_6 T L (rdy h) K = wpS P (⟨.mov (.t 0), (some 11), none, []⟩ :: ⟨.mov (.t 5), (some 12), none, []⟩ :: L79_5) T L (rdy h) K := rfl
def L79_7 : List AStep := [⟨.mov (.t 1), (some 16), none, []⟩, ⟨.mov (.t 16), (some 4), none, []⟩]
theorem v79_7 : wpS P L79_7 T L (rdy h) K = wpS P ([⟨.mov (.t 1), (some 16), none, []⟩, ⟨.mov (.t 16), (some 4), none, []⟩]) T L (rdy h) K := rfl
def C79_0 : ACode := .seq (.reg L79_6) .ret
theorem u79_0 : wpC P C79_0 T L (rdy h) Q = wpC P (.seq (.reg L79_6) .ret) T L (rdy h) Q := rfl
def C79_1 : ACode := .cond (.t 10) C79_0 .skip
theorem u79_1 : wpC P C79_1 T L (rdy h) Q = wpC P (.cond (.t 10) C79_0 .skip) T L (rdy h) Q := rfl
def C79_2 : ACode := .seq (.reg L79_3) C79_1
theorem u79_2 : wpC P C79_2 T L (rdy h) Q = wpC P (.seq (.reg L79_3) C79_1) T L (rdy h) Q := rfl
def C79_3 : ACode := .seq (.reg L79_7) .ret
theorem u79_3 : wpC P C79_3 T L (rdy h) Q = wpC P (.seq (.reg L79_7) .ret) T L (rdy h) Q := rfl
def C79_4 : ACode := .seq C79_2 C79_3
theorem u79_4 : wpC P C79_4 T L (rdy h) Q = wpC P (.seq C79_2 C79_3) T L (rdy h) Q := rfl
def C79_5 : ACode := .seq (.reg L79_2) C79_4
theorem u79_5 : wpC P C79_5 T L (rdy h) Q = wpC P (.seq (.reg L79_2) C79_4) T L (rdy h) Q := rfl
def C79_6 : ACode := .seq (.reg L79_0) C79_5
theorem u79_6 : wpC P C79_6 T L (rdy h) Q = wpC P (.seq (.reg L79_0) C79_5) T L (rdy h) Q := rfl
def F79 : AFunc := ⟨17, [.tmp 4], C79_6⟩
theorem cF79 : compB Try.prog 79 = some F79 := by kernel_rfl
end
attribute [local go_sem ↓] u79_0 u79_1 u79_2 u79_3 u79_4 u79_5 u79_6 v79_0 v79_1 v79_2 v79_3 v79_4 v79_5 v79_6 v79_7
theorem c_turned (l : List Turn) (v : AV) (s : ByteArray) (h : H) (hl : SlT h v l) (hn : l.length < 2 ^ 62) : bm Try.prog 79 [v, .one (.str s)] h = some (.one (.str (turned l s)), h) := by
  refine bm_eq cF79 ?_
  rcases idx_cases (fun p : Turn => decide (p.fr = s)) l with e | ⟨j, hj, e, _⟩ <;> (replace e := (show turnAt l s = _ from e))
  · simp +contextual (maxSteps := 2000000) only [go_sem, Nat.reduceEqDiff, reduceCtorEq, Nat.reduceAdd, Nat.reduceLeDiff, F79, c_turnAt _ _ _ _ hl hn, e, turned_none e]
  · simp +contextual (maxSteps := 2000000) only [go_sem, Nat.reduceEqDiff, reduceCtorEq, Nat.reduceAdd, Nat.reduceLeDiff, F79, c_turnAt _ _ _ _ hl hn, e, turned_some hj e, hl.iaddr hj, hl.fieldO hj]
section
variable {P : Program} {T : Tb} {L : Lb} {h : H} {Q : PostC} {K : Post}
/-! spec.validTurns -/
def L76_0 : List AStep := [⟨.mov (.c (.bool false)), (some 2), none, []⟩]
theorem v76_0 : wpS P L76_0 T L (rdy h) K = wpS P ([⟨.mov (.c (.bool false)), (some 2), none, []⟩]) T L (rdy h) K := rfl
def L76_1 : List AStep := [⟨.mov (.c (.int .i64 0)), (some 3), none, []⟩]
theorem v76_1 : wpS P L76_1 T L (rdy h) K = wpS P ([⟨.mov (.c (.int .i64 0)), (some 3), none, []⟩]) T L (rdy h) K := rfl
def L76_2 : List AStep := [⟨.len (.t 6), (some 7), none, []⟩, ⟨.bin .lss (.t 5) (.t 7), (some 8), none, []⟩]
theorem v76_2 : wpS P L76_2 T L (rdy h) K = wpS P ([⟨.len (.t 6), (some 7), none, []⟩, ⟨.bin .lss (.t 5) (.t 7), (some 8), none, []⟩]) T L (rdy h) K := rfl
def L76_3 : List AStep := ⟨.mov (.t 3), (some 5), none, []⟩ :: ⟨.mov (.t 0), (some 6), none, []⟩ :: L76_2
theorem v76_3 : wpS P L76_3 T L (rdy h) K = wpS P (⟨.mov (.t 3), (some 5), none, []⟩ :: ⟨.mov (.t 0), (some 6), none, []⟩ :: L76_2) T L (rdy h) K := rfl
def L76_4 : List AStep := [⟨.pick (.t 28) (.c (.bool true)) (.t 38), (some 39), none, []⟩]
theorem v76_4 : wpS P L76_4 T L (rdy h) K = wpS P ([⟨.pick (.t 28) (.c (.bool true)) (.t 38), (some 39), none, []⟩]) T L (rdy h) K := rfl
def L76_5 : List AStep := ⟨.call 165 [(.t 31), (.t 36)], (some 37), (some (28, false)), []⟩ :: ⟨.bin .geq (.t 37) (.c (.int .i64 0)), (some 38), (some (28, false)), []⟩ :: L76_4
theorem v76_5 : wpS P L76_5 T L (rdy h) K = wpS P (⟨.call 165 [(.t 31), (.t 36)], (some 37), (some (28, false)), []⟩ :: ⟨.bin .geq (.t 37) (.c (.int .i64 0)), (some 38), (some (28, false)), []⟩ :: L76_4) T L (rdy h) K := rfl
def L76_6 : List AStep := ⟨.faddr 0 (.t 34), (some 35), (some (28, false)), []⟩ :: ⟨.load 1 false (.t 35), (some 36), (some (28, false)), []⟩ :: L76_5
theorem v76_6 : wpS P L76_6 T L (rdy h) K = wpS P (⟨.faddr 0 (.t 34), (some 35), (some (28, false)), []⟩ :: ⟨.load 1 false (.t 35), (some 36), (some (28, false)), []⟩ :: L76_5) T L (rdy h) K := rfl
def L76_7 : List AStep := ⟨.mov (.t 3), (some 33), (some (28, false)), []⟩ :: ⟨.iaddr 2 (.t 32) (.t 33), (some 34), (some (28, false)), []⟩ :: L76_6
theorem v76_7 : wpS P L76_7 T L (rdy h) K = wpS P (⟨.mov (.t 3), (some 33), (some (28, false)), []⟩ :: ⟨.iaddr 2 (.t 32) (.t 33), (some 34), (some (28, false)), []⟩ :: L76_6) T L (rdy h) K := rfl
def L76_8 : List AStep := ⟨.slice 134 2 (.t 29) none (some (.t 30)) none, (some 31), (some (28, false)), []⟩ :: ⟨.mov (.t 0), (some 32), (some (28, false)), []⟩ :: L76_7
theorem v76_8 : wpS P L76_8 T L (rdy h) K = wpS P (⟨.slice 134 2 (.t 29) none (some (.t 30)) none, (some 31), (some (28, false)), []⟩ :: ⟨.mov (.t 0), (some 32), (some (28, false)), []⟩ :: L76_7) T L (rdy h) K := rfl
def L76_9 : List AStep := ⟨.mov (.t 0), (some 29), (some (28, false)), []⟩ :: ⟨.mov (.t 3), (some 30), (some (28, false)), []⟩ :: L76_8
theorem v76_9 : wpS P L76_9 T L (rdy h) K = wpS P (⟨.mov (.t 0), (some 29), (some (28, false)), []⟩ :: ⟨.mov (.t 3), (some 30), (some (28, false)), []⟩ :: L76_8) T L (rdy h) K := rfl
def L76_10 : List AStep := ⟨.pick (.t 18) (.c (.bool true)) (.t 26), (some 27), none, []⟩ :: ⟨.mov (.t 27), (some 28), none, []⟩ :: L76_9
theorem v76_10 : wpS P L76_10 T L (rdy h) K = wpS P (⟨.pick (.t 18) (.c (.bool true)) (.t 26), (some 27), none, []⟩ :: ⟨.mov (.t 27), (some 28), none, []⟩ :: L76_9) T L (rdy h) K := rfl
def L76_11 : List AStep := ⟨.call 165 [(.t 19), (.t 24)], (some 25), (some (18, false)), []⟩ :: ⟨.bin .lss (.t 25) (.c (.int .i64 0)), (some 26), (some (18, false)), []⟩ :: L76_10
theorem v76_11 : wpS P L76_11 T L (rdy h) K = wpS P (⟨.call 165 [(.t 19), (.t 24)], (some 25), (some (18, false)), []⟩ :: ⟨.bin .lss (.t 25) (.c (.int .i64 0)), (some 26), (some (18, false)), []⟩ :: L76_10) T L (rdy h) K := rfl
def L76_12 : List AStep := ⟨.faddr 1 (.t 22), (some 23), (some (18, false)), []⟩ :: ⟨.load 1 false (.t 23), (some 24), (some (18, false)), []⟩ :: L76_11
theorem v76_12 : wpS P L76_12 T L (rdy h) K = wpS P (⟨.faddr 1 (.t 22), (some 23), (some (18, false)), []⟩ :: ⟨.load 1 false (.t 23), (some 24), (some (18, false)), []⟩ :: L76_11) T L (rdy h) K := rfl
def L76_13 : List AStep := ⟨.mov (.t 3), (some 21), (some (18, false)), []⟩ :: ⟨.iaddr 2 (.t 20) (.t 21), (some 22), (some (18, false)), []⟩ :: L76_12
theorem v76_13 : wpS P L76_13 T L (rdy h) K = wpS P (⟨.mov (.t 3), (some 21), (some (18, false)), []⟩ :: ⟨.iaddr 2 (.t 20) (.t 21), (some 22), (some (18, false)), []⟩ :: L76_12) T L (rdy h) K := rfl
def L76_14 : List AStep := ⟨.mov (.t 0), (some 19), (some (18, false)), []⟩ :: ⟨.mov (.t 0), (some 20), (some (18, false)), []⟩ :: L76_13
theorem v76_14 : wpS P L76_14 T L (rdy h) K = wpS P (⟨.mov (.t 0), (some 19), (some (18, false)), []⟩ :: ⟨.mov (.t 0), (some 20), (some (18, false)), []⟩ :: L76_13) T L (rdy h) K := rfl
def L76_15 : List AStep := ⟨.not (.t 16), (some 17), none, []⟩ :: ⟨.mov (.t 17), (some 18), none, []⟩ :: L76_14
theorem v76_15 : wpS P L76_15 T L (rdy h) K = wpS P (⟨.not (.t 16), (some 17), none, []⟩ :: ⟨.mov (.t 17), (some 18), none, []⟩ :: L76_14) T L (rdy h) K := rfl
def L76_16 : List AStep := ⟨.load 1 false (.t 14), (some 15), none, []⟩ :: ⟨.call 164 [(.t 15)], (some 16), none, []⟩ :: L76_15
theorem v76_16 : wpS P L76_16 T L (rdy h) K = wpS P (⟨.load 1 false (.t 14), (some 15), none, []⟩ :: ⟨.call 164 [(.t 15)], (some 16), none, []⟩ :: L76_15) T L (rdy h) K := rfl
def L76_17 : List AStep := ⟨.iaddr 2 (.t 11) (.t 12), (some 13), none, []⟩ :: ⟨.faddr 0 (.t 13), (some 14), none, []⟩ :: L76_16
theorem v76_17 : wpS P L76_17 T L (rdy h) K = wpS P (⟨.iaddr 2 (.t 11) (.t 12), (some 13), none, []⟩ :: ⟨.faddr 0 (.t 13), (some 14), none, []⟩ :: L76_16) T L (rdy h) K := rfl
def L76_18 : List AStep := ⟨.mov (.t 0), (some 11), none, []⟩ :: ⟨.mov (.t 3), (some 12), none, []⟩ :: L76_17
theorem v76_18 : wpS P L76_18 T L (rdy h) K = wpS P (⟨.mov (.t 0), (some 11), none, []⟩ :: ⟨.mov (.t 3), (some 12), none, []⟩ :: L76_17) T L (rdy h) K := rfl
def L76_19 : List AStep := [⟨.mov (.c (.bool false)), (some 2), none, []⟩]
theorem v76_19 : wpS P L76_19 T L (rdy h) K = wpS P ([⟨.mov (.c (.bool false)), (some 2), none, []⟩]) T L (rdy h) K := rfl
def L76_20 : List AStep := [⟨.mov (.c (.int .i64 0)), (some 4), none, []⟩]
theorem v76_20 : wpS P L76_20 T L (rdy h) K = wpS P ([⟨.mov (.c (.int .i64 0)), (some 4), none, []⟩]) T L (rdy h) K := rfl
def L76_21 : List AStep := [⟨.bin .lss (.t 40) (.t 41), (some 42), none, []⟩]
theorem v76_21 : wpS P L76_21 T L (rdy h) K = wpS P ([⟨.bin .lss (.t 40) (.t 41), (some 42), none, []⟩]) T L (rdy h) K := rfl
def L76_22 : List AStep := ⟨.mov (.t 4), (some 40), none, []⟩ :: ⟨.mov (.t 3), (some 41), none, []⟩ :: L76_21
theorem v76_22 : wpS P L76_22 T L (rdy h) K = wpS P (⟨.mov (.t 4), (some 40), none, []⟩ :: ⟨.mov (.t 3), (some 41), none, []⟩ :: L76_21) T L (rdy h) K := rfl
def L76_23 : List AStep := [⟨.bin .eql (.t 49) (.t 54), (some 55), none, []⟩]
theorem v76_23 : wpS P L76_23 T L (rdy h) K = wpS P ([⟨.bin .eql (.t 49) (.t 54), (some 55), none, []⟩]) T L (rdy h) K := rfl
def L76_24 : List AStep := ⟨.faddr 1 (.t 52), (some 53), none, []⟩ :: ⟨.load 1 false (.t 53), (some 54), none, []⟩ :: L76_23
theorem v76_24 : wpS P L76_24 T L (rdy h) K = wpS P (⟨.faddr 1 (.t 52), (some 53), none, []⟩ :: ⟨.load 1 false (.t 53), (some 54), none, []⟩ :: L76_23) T L (rdy h) K := rfl
def L76_25 : List AStep := ⟨.mov (.t 3), (some 51), none, []⟩ :: ⟨.iaddr 2 (.t 50) (.t 51), (some 52), none, []⟩ :: L76_24
theorem v76_25 : wpS P L76_25 T L (rdy h) K = wpS P (⟨.mov (.t 3), (some 51), none, []⟩ :: ⟨.iaddr 2 (.t 50) (.t 51), (some 52), none, []⟩ :: L76_24) T L (rdy h) K := rfl
def L76_26 : List AStep := ⟨.load 1 false (.t 48), (some 49), none, []⟩ :: ⟨.mov (.t 0), (some 50), none, []⟩ :: L76_25
theorem v76_26 : wpS P L76_26 T L (rdy h) K = wpS P (⟨.load 1 false (.t 48), (some 49), none, []⟩ :: ⟨.mov (.t 0), (some 50), none, []⟩ :: L76_25) T L (rdy h) K := rfl
def L76_27 : List AStep := ⟨.iaddr 2 (.t 45) (.t 46), (some 47), none, []⟩ :: ⟨.faddr 1 (.t 47), (some 48), none, []⟩ :: L76_26
theorem v76_27 : wpS P L76_27 T L (rdy h) K = wpS P (⟨.iaddr 2 (.t 45) (.t 46), (some 47), none, []⟩ :: ⟨.faddr 1 (.t 47), (some 48), none, []⟩ :: L76_26) T L (rdy h) K := rfl
def L76_28 : List AStep := ⟨.mov (.t 0), (some 45), none, []⟩ :: ⟨.mov (.t 4), (some 46), none, []⟩ :: L76_27
theorem v76_28 : wpS P L76_28 T L (rdy h) K = wpS P (⟨.mov (.t 0), (some 45), none, []⟩ :: ⟨.mov (.t 4), (some 46), none, []⟩ :: L76_27) T L (rdy h) K := rfl
def L76_29 : List AStep := [⟨.mov (.c (.bool false)), (some 2), none, []⟩]
theorem v76_29 : wpS P L76_29 T L (rdy h) K = wpS P ([⟨.mov (.c (.bool false)), (some 2), none, []⟩]) T L (rdy h) K := rfl
def L76_30 : List AStep := [⟨.mov (.t 44), (some 4), none, []⟩]
theorem v76_30 : wpS P L76_30 T L (rdy h) K = wpS P ([⟨.mov (.t 44), (some 4), none, []⟩]) T L (rdy h) K := rfl
def L76_31 : List AStep := ⟨.mov (.t 4), (some 43), none, []⟩ :: ⟨.bin .add (.t 43) (.c (.int .i64 1)), (some 44), none, []⟩ :: L76_30
theorem v76_31 : wpS P L76_31 T L (rdy h) K = wpS P (⟨.mov (.t 4), (some 43), none, []⟩ :: ⟨.bin .add (.t 43) (.c (.int .i64 1)), (some 44), none, []⟩ :: L76_30) T L (rdy h) K := rfl
def L76_32 : List AStep := [⟨.mov (.t 10), (some 3), none, []⟩]
theorem v76_32 : wpS P L76_32 T L (rdy h) K = wpS P ([⟨.mov (.t 10), (some 3), none, []⟩]) T L (rdy h) K := rfl
def L76_33 : List AStep := ⟨.mov (.t 3), (some 9), none, []⟩ :: ⟨.bin .add (.t 9) (.c (.int .i64 1)), (some 10), none, []⟩ :: L76_32
theorem v76_33 : wpS P L76_33 T L (rdy h) K = wpS P (⟨.mov (.t 3), (some 9), none, []⟩ :: ⟨.bin .add (.t 9) (.c (.int .i64 1)), (some 10), none, []⟩ :: L76_32) T L (rdy h) K := rfl
def L76_34 : List AStep := [⟨.bin .leq (.t 57) (.c (.int .i64 8)), (some 58), none, []⟩, ⟨.mov (.t 58), (some 2), none, []⟩]
theorem v76_34 : wpS P L76_34 T L (rdy h) K = wpS P ([⟨.bin .leq (.t 57) (.c (.int .i64 8)), (some 58), none, []⟩, ⟨.mov (.t 58), (some 2), none, []⟩]) T L (rdy h) K := rfl
def L76_35 : List AStep := ⟨.mov (.t 0), (some 56), none, []⟩ :: ⟨.len (.t 56), (some 57), none, []⟩ :: L76_34
theorem v76_35 : wpS P L76_35 T L (rdy h) K = wpS P (⟨.mov (.t 0), (some 56), none, []⟩ :: ⟨.len (.t 56), (some 57), none, []⟩ :: L76_34) T L (rdy h) K := rfl
def C76_0 : ACode := .cond (.t 8) .skip (.exit 0)
theorem u76_0 : wpC P C76_0 T L (rdy h) Q = wpC P (.cond (.t 8) .skip (.exit 0)) T L (rdy h) Q := rfl
def C76_1 : ACode := .seq (.reg L76_3) C76_0
theorem u76_1 : wpC P C76_1 T L (rdy h) Q = wpC P (.seq (.reg L76_3) C76_0) T L (rdy h) Q := rfl
def C76_2 : ACode := .seq (.reg L76_19) .ret
theorem u76_2 : wpC P C76_2 T L (rdy h) Q = wpC P (.seq (.reg L76_19) .ret) T L (rdy h) Q := rfl
def C76_3 : ACode := .cond (.t 39) C76_2 .skip
theorem u76_3 : wpC P C76_3 T L (rdy h) Q = wpC P (.cond (.t 39) C76_2 .skip) T L (rdy h) Q := rfl
def C76_4 : ACode := .seq (.reg L76_18) C76_3
theorem u76_4 : wpC P C76_4 T L (rdy h) Q = wpC P (.seq (.reg L76_18) C76_3) T L (rdy h) Q := rfl
def C76_5 : ACode := .cond (.t 42) .skip (.exit 2)
theorem u76_5 : wpC P C76_5 T L (rdy h) Q = wpC P (.cond (.t 42) .skip (.exit 2)) T L (rdy h) Q := rfl
def C76_6 : ACode := .seq (.reg L76_22) C76_5
theorem u76_6 : wpC P C76_6 T L (rdy h) Q = wpC P (.seq (.reg L76_22) C76_5) T L (rdy h) Q := rfl
def C76_7 : ACode := .seq (.reg L76_29) .ret
theorem u76_7 : wpC P C76_7 T L (rdy h) Q = wpC P (.seq (.reg L76_29) .ret) T L (rdy h) Q := rfl
def C76_8 : ACode := .cond (.t 55) C76_7 .skip
theorem u76_8 : wpC P C76_8 T L (rdy h) Q = wpC P (.cond (.t 55) C76_7 .skip) T L (rdy h) Q := rfl
def C76_9 : ACode := .seq (.reg L76_28) C76_8
theorem u76_9 : wpC P C76_9 T L (rdy h) Q = wpC P (.seq (.reg L76_28) C76_8) T L (rdy h) Q := rfl
def C76_10 : ACode := .block 3 C76_9
theorem u76_10 : wpC P C76_10 T L (rdy h) Q = wpC P (.block 3 C76_9) T L (rdy h) Q := rfl
def C76_11 : ACode := .seq C76_10 (.reg L76_31)
theorem u76_11 : wpC P C76_11 T L (rdy h) Q = wpC P (.seq C76_10 (.reg L76_31)) T L (rdy h) Q := rfl
def C76_12 : ACode := .seq C76_6 C76_11
theorem u76_12 : wpC P C76_12 T L (rdy h) Q = wpC P (.seq C76_6 C76_11) T L (rdy h) Q := rfl
def C76_13 : ACode := .block 2 (.loop C76_12)
theorem u76_13 : wpC P C76_13 T L (rdy h) Q = wpC P (.block 2 (.loop C76_12)) T L (rdy h) Q := rfl
def C76_14 : ACode := .seq (.reg L76_20) C76_13
theorem u76_14 : wpC P C76_14 T L (rdy h) Q = wpC P (.seq (.reg L76_20) C76_13) T L (rdy h) Q := rfl
def C76_15 : ACode := .seq C76_4 C76_14
theorem u76_15 : wpC P C76_15 T L (rdy h) Q = wpC P (.seq C76_4 C76_14) T L (rdy h) Q := rfl
def C76_16 : ACode := .block 1 C76_15
theorem u76_16 : wpC P C76_16 T L (rdy h) Q = wpC P (.block 1 C76_15) T L (rdy h) Q := rfl
def C76_17 : ACode := .seq C76_16 (.reg L76_33)
theorem u76_17 : wpC P C76_17 T L (rdy h) Q = wpC P (.seq C76_16 (.reg L76_33)) T L (rdy h) Q := rfl
def C76_18 : ACode := .seq C76_1 C76_17
theorem u76_18 : wpC P C76_18 T L (rdy h) Q = wpC P (.seq C76_1 C76_17) T L (rdy h) Q := rfl
def C76_19 : ACode := .block 0 (.loop C76_18)
theorem u76_19 : wpC P C76_19 T L (rdy h) Q = wpC P (.block 0 (.loop C76_18)) T L (rdy h) Q := rfl
def C76_20 : ACode := .seq (.reg L76_1) C76_19
theorem u76_20 : wpC P C76_20 T L (rdy h) Q = wpC P (.seq (.reg L76_1) C76_19) T L (rdy h) Q := rfl
def C76_21 : ACode := .seq (.reg L76_35) .ret
theorem u76_21 : wpC P C76_21 T L (rdy h) Q = wpC P (.seq (.reg L76_35) .ret) T L (rdy h) Q := rfl
def C76_22 : ACode := .seq C76_20 C76_21
theorem u76_22 : wpC P C76_22 T L (rdy h) Q = wpC P (.seq C76_20 C76_21) T L (rdy h) Q := rfl
def C76_23 : ACode := .seq (.reg L76_0) C76_22
theorem u76_23 : wpC P C76_23 T L (rdy h) Q = wpC P (.seq (.reg L76_0) C76_22) T L (rdy h) Q := rfl
def F76 : AFunc := ⟨59, [.tmp 2], C76_23⟩
theorem cF76 : compB Try.prog 76 = some F76 := by kernel_rfl
end
attribute [local go_sem ↓] u76_0 u76_1 u76_2 u76_3 u76_4 u76_5 u76_6 u76_7 u76_8 u76_9 u76_10 u76_11 u76_12 u76_13 u76_14 u76_15 u76_16 u76_17 u76_18 u76_19 u76_20 u76_21 u76_22 u76_23 v76_0 v76_1 v76_2 v76_3 v76_4 v76_5 v76_6 v76_7 v76_8 v76_9 v76_10 v76_11 v76_12 v76_13 v76_14 v76_15 v76_16 v76_17 v76_18 v76_19 v76_20 v76_21 v76_22 v76_23 v76_24 v76_25 v76_26 v76_27 v76_28 v76_29 v76_30 v76_31 v76_32 v76_33 v76_34 v76_35
theorem c_validTurns (l : List Turn) (v : AV) (h : H) (hl : SlT h v l) (hn : miniU l) : bm Try.prog 76 [v] h = some (ib (okTurns l), h) := by
  refine bm_eq cF76 ?_
  simp +contextual (maxSteps := 2000000) only [go_sem, Nat.reduceEqDiff, reduceCtorEq, Nat.reduceAdd, Nat.reduceLeDiff, F76]
  refine wpC_loop (fun i T L h' => h' = h ∧ T 0 = .v v ∧ T 3 = .v (.one (.int .i64 i)) ∧ Upto (okTurnAt l) i) l.length ?_ ?_ (Nat.zero_le _) ?_
  · rintro i T L h' hi ⟨rfl, t0, t3, hu⟩
    obtain ⟨v', e1, s1⟩ := hl.takeO (i := i) (by omega) (kd := .i64)
    have e3 := okTurnAt_eq hi
    have e4 : decide (turnAt l l[i].to < 0) = !(l.any (fun u => decide (u.fr = l[i].to))) := by
      rw [← idx_any]
      unfold turnAt
      by_cases hx : idx (fun t : Turn => decide (t.fr = l[i].to)) l < 0
      · rw [decide_eq_true hx, decide_eq_false (by omega)]
        rfl
      · rw [decide_eq_false hx, decide_eq_true (by omega)]
        rfl
    have e5 : decide (turnAt (l.take i) l[i].fr ≥ 0) = (l.take i).any (fun u => decide (u.fr = l[i].fr)) := idx_any
    have hb : ∀ (p q : Turn → Bool), (l.take i).any (fun u => p u || q u) = ((l.take i).any p || (l.take i).any q) := fun p q => by
      rw [Bool.eq_iff_iff]
      simp only [List.any_eq_true, Bool.or_eq_true]
      constructor
      · rintro ⟨x, hx, a | a⟩
        · exact .inl ⟨x, hx, a⟩
        · exact .inr ⟨x, hx, a⟩
      · rintro (⟨x, hx, a⟩ | ⟨x, hx, a⟩)
        · exact ⟨x, hx, .inl a⟩
        · exact ⟨x, hx, .inr a⟩
    rw [hb] at e3
    cases b1 : okName l[i].fr with
    | false =>
      simp +contextual (maxSteps := 2000000) only [go_sem, Nat.reduceEqDiff, reduceCtorEq, Nat.reduceAdd, Nat.reduceLeDiff, t0, t3, hl.len, hl.iaddr hi, hl.fieldO hi, lt_true hi, c_validName _ _ (hn.at hi), b1]
      rw [okTurns_not hi (by rw [e3, b1]; rfl)]
    | true =>
    cases b2 : l.any (fun u => decide (u.fr = l[i].to)) with
    | false =>
      simp +contextual (maxSteps := 2000000) only [go_sem, Nat.reduceEqDiff, reduceCtorEq, Nat.reduceAdd, Nat.reduceLeDiff, t0, t3, hl.len, hl.iaddr hi, hl.fieldO hi, lt_true hi, c_validName _ _ (hn.at hi), b1, c_turnAt _ _ _ _ hl hn.lt, e4, b2]
      rw [okTurns_not hi (by rw [e3, b1, b2]; rfl)]
    | true =>
    have hn1 : (l.take i).length < 2 ^ 62 := by have := hn.lt; simp; omega
    cases b3 : (l.take i).any (fun u => decide (u.fr = l[i].fr)) with
    | true =>
      simp +contextual (maxSteps := 2000000) only [go_sem, Nat.reduceEqDiff, reduceCtorEq, Nat.reduceAdd, Nat.reduceLeDiff, t0, t3, hl.len, hl.iaddr hi, hl.fieldO hi, lt_true hi, c_validName _ _ (hn.at hi), b1, c_turnAt _ _ _ _ hl hn.lt, e4, b2, e1, c_turnAt _ _ _ _ s1 hn1, e5, b3]
      rw [okTurns_not hi (by rw [e3, b1, b2, b3]; rfl)]
    | false =>
    simp +contextual (maxSteps := 2000000) only [go_sem, Nat.reduceEqDiff, reduceCtorEq, Nat.reduceAdd, Nat.reduceLeDiff, t0, t3, hl.len, hl.iaddr hi, hl.fieldO hi, lt_true hi, c_validName _ _ (hn.at hi), b1, c_turnAt _ _ _ _ hl hn.lt, e4, b2, e1, c_turnAt _ _ _ _ s1 hn1, e5, b3]
    refine wpC_loop (fun k T L h2 => h2 = h' ∧ T 0 = .v v ∧ T 3 = .v (.one (.int .i64 i)) ∧ T 4 = .v (.one (.int .i64 k)) ∧ Pre (fun u : Turn => decide (u.to = l[i].to)) false l k) i ?_ ?_ (Nat.zero_le _) ?_
    · rintro k T L h2 hk ⟨rfl, t0, t3, t4, hp⟩
      have hk2 : k < l.length := by omega
      simp +contextual (maxSteps := 2000000) only [go_sem, Nat.reduceEqDiff, reduceCtorEq, Nat.reduceAdd, Nat.reduceLeDiff, t0, t3, t4, hl.iaddr hi, hl.fieldO hi, hl.iaddr hk2, hl.fieldO hk2, lt_true hk]
      have bad : decide (l[k].to = l[i].to) = true → (l.take i).any (fun u => decide (u.to = l[i].to)) = true := fun e => List.any_eq_true.2 ⟨l[k], List.mem_take_iff_getElem.2 ⟨k, by omega, rfl⟩, e⟩
      (repeat' (first | refine And.intro ?_ ?_ | intro _)) <;> first | rfl | rw [wrap_next hk (Nat.lt_trans hi hn.lt)] | exact hp.next hk2 ‹_› | (rw [okTurns_not hi (by rw [e3, b1, b2, b3, bad ‹_›]; rfl)])
    · rintro T L h2 ⟨rfl, t0, t3, t4, hp⟩
      simp +contextual (maxSteps := 2000000) only [go_sem, Nat.reduceEqDiff, reduceCtorEq, Nat.reduceAdd, Nat.reduceLeDiff, t0, t3, t4, lt_false]
      have e6 : (l.take i).any (fun u => decide (u.to = l[i].to)) = false := List.any_eq_false.2 fun x hx => by have := hp.out x hx; simpa using this
      (repeat' (first | refine And.intro ?_ ?_ | intro _)) <;> first | rfl | rw [wrap_next hi hn.lt] | exact hu.next (by rw [e3, b1, b2, b3, e6]; rfl)
    · simp +contextual (maxSteps := 2000000) only [go_sem, Nat.reduceEqDiff, reduceCtorEq, Nat.reduceAdd, Nat.reduceLeDiff, t0, t3]
      (repeat' (first | refine And.intro ?_ ?_ | intro _)) <;> first | rfl | exact Pre.zero
  · rintro T L h' ⟨rfl, t0, t3, hu⟩
    simp +contextual (maxSteps := 2000000) only [go_sem, Nat.reduceEqDiff, reduceCtorEq, Nat.reduceAdd, Nat.reduceLeDiff, t0, t3, hl.len, lt_false, okTurns_of hu]
  · simp +contextual (maxSteps := 2000000) only [go_sem, Nat.reduceEqDiff, reduceCtorEq, Nat.reduceAdd, Nat.reduceLeDiff]
    (repeat' (first | refine And.intro ?_ ?_ | intro _)) <;> first | rfl | exact Upto.zero
section
variable {P : Program} {T : Tb} {L : Lb} {h : H} {Q : PostC} {K : Post}
/-! impl.turn -/
def L85_0 : List AStep := [⟨.mov (.c (.str (strOfNums []))), (some 4), none, []⟩]
theorem v85_0 : wpS P L85_0 T L (rdy h) K = wpS P ([⟨.mov (.c (.str (strOfNums []))), (some 4), none, []⟩]) T L (rdy h) K := rfl
def L85_1 : List AStep := [⟨.mov (.c (.int .i64 0)), (some 9), none, []⟩]
theorem v85_1 : wpS P L85_1 T L (rdy h) K = wpS P ([⟨.mov (.c (.int .i64 0)), (some 9), none, []⟩]) T L (rdy h) K := rfl
def L85_2 : List AStep := ⟨.mov (.t 0), (some 7), none, []⟩ :: ⟨.len (.t 7), (some 8), none, []⟩ :: L85_1
theorem v85_2 : wpS P L85_2 T L (rdy h) K = wpS P (⟨.mov (.t 0), (some 7), none, []⟩ :: ⟨.len (.t 7), (some 8), none, []⟩ :: L85_1) T L (rdy h) K := rfl
def L85_3 : List AStep := [⟨.bin .lss (.t 9) (.t 8), (some 10), none, []⟩]
theorem v85_3 : wpS P L85_3 T L (rdy h) K = wpS P ([⟨.bin .lss (.t 9) (.t 8), (some 10), none, []⟩]) T L (rdy h) K := rfl
def L85_4 : List AStep := [⟨.alloc 134 [(.str (strOfNums [])), (.str (strOfNums []))], (some 6), none, []⟩, ⟨.store 2 (.t 6) (.t 12), none, none, []⟩]
theorem v85_4 : wpS P L85_4 T L (rdy h) K = wpS P ([⟨.alloc 134 [(.str (strOfNums [])), (.str (strOfNums []))], (some 6), none, []⟩, ⟨.store 2 (.t 6) (.t 12), none, none, []⟩]) T L (rdy h) K := rfl
def L85_5 : List AStep := ⟨.iaddr 2 (.t 7) (.t 9), (some 11), none, []⟩ :: ⟨.load 2 true (.t 11), (some 12), none, []⟩ :: L85_4
theorem v85_5 : wpS P L85_5 T L (rdy h) K = wpS P (⟨.iaddr 2 (.t 7) (.t 9), (some 11), none, []⟩ :: ⟨.load 2 true (.t 11), (some 12), none, []⟩ :: L85_4) T L (rdy h) K := rfl
def L85_6 : List AStep := [⟨.mov (.t 1), (some 15), none, []⟩, ⟨.bin .eql (.t 14) (.t 15), (some 16), none, []⟩]
theorem v85_6 : wpS P L85_6 T L (rdy h) K = wpS P ([⟨.mov (.t 1), (some 15), none, []⟩, ⟨.bin .eql (.t 14) (.t 15), (some 16), none, []⟩]) T L (rdy h) K := rfl
def L85_7 : List AStep := ⟨.faddr 0 (.t 6), (some 13), none, []⟩ :: ⟨.load 1 false (.t 13), (some 14), none, []⟩ :: L85_6
theorem v85_7 : wpS P L85_7 T L (rdy h) K = wpS P (⟨.faddr 0 (.t 6), (some 13), none, []⟩ :: ⟨.load 1 false (.t 13), (some 14), none, []⟩ :: L85_6) T L (rdy h) K := rfl
def L85_8 : List AStep := [⟨.mov (.t 18), (some 4), none, []⟩]
theorem v85_8 : wpS P L85_8 T L (rdy h) K = wpS P ([⟨.mov (.t 18), (some 4), none, []⟩]) T L (rdy h) K := rfl
def L85_9 : List AStep := ⟨.faddr 1 (.t 6), (some 17), none, []⟩ :: ⟨.load 1 false (.t 17), (some 18), none, []⟩ :: L85_8
theorem v85_9 : wpS P L85_9 T L (rdy h) K = wpS P (⟨.faddr 1 (.t 6), (some 17), none, []⟩ :: ⟨.load 1 false (.t 17), (some 18), none, []⟩ :: L85_8) T L (rdy h) K := rfl
def L85_10 : List AStep := [⟨.bin .add (.t 9) (.c (.int .i64 1)), (some 19), none, []⟩, ⟨.mov (.t 19), (some 9), none, []⟩]
theorem v85_10 : wpS P L85_10 T L (rdy h) K = wpS P ([⟨.bin .add (.t 9) (.c (.int .i64 1)), (some 19), none, []⟩, ⟨.mov (.t 19), (some 9), none, []⟩]) T L (rdy h) K := rfl
def L85_11 : List AStep := [⟨.mov (.t 1), (some 20), none, []⟩, ⟨.mov (.t 20), (some 4), none, []⟩]
theorem v85_11 : wpS P L85_11 T L (rdy h) K = wpS P ([⟨.mov (.t 1), (some 20), none, []⟩, ⟨.mov (.t 20), (some 4), none, []⟩]) T L (rdy h) K := rfl
def C85_0 : ACode := .cond (.t 10) .skip (.exit 0)
theorem u85_0 : wpC P C85_0 T L (rdy h) Q = wpC P (.cond (.t 10) .skip (.exit 0)) T L (rdy h) Q := rfl
def C85_1 : ACode := .seq (.reg L85_9) .ret
theorem u85_1 : wpC P C85_1 T L (rdy h) Q = wpC P (.seq (.reg L85_9) .ret) T L (rdy h) Q := rfl
def C85_2 : ACode := .cond (.t 16) C85_1 .skip
theorem u85_2 : wpC P C85_2 T L (rdy h) Q = wpC P (.cond (.t 16) C85_1 .skip) T L (rdy h) Q := rfl
def C85_3 : ACode := .seq (.reg L85_7) C85_2
theorem u85_3 : wpC P C85_3 T L (rdy h) Q = wpC P (.seq (.reg L85_7) C85_2) T L (rdy h) Q := rfl
def C85_4 : ACode := .seq (.reg L85_5) C85_3
theorem u85_4 : wpC P C85_4 T L (rdy h) Q = wpC P (.seq (.reg L85_5) C85_3) T L (rdy h) Q := rfl
def C85_5 : ACode := .block 1 C85_4
theorem u85_5 : wpC P C85_5 T L (rdy h) Q = wpC P (.block 1 C85_4) T L (rdy h) Q := rfl
def C85_6 : ACode := .seq C85_5 (.reg L85_10)
theorem u85_6 : wpC P C85_6 T L (rdy h) Q = wpC P (.seq C85_5 (.reg L85_10)) T L (rdy h) Q := rfl
def C85_7 : ACode := .seq C85_0 C85_6
theorem u85_7 : wpC P C85_7 T L (rdy h) Q = wpC P (.seq C85_0 C85_6) T L (rdy h) Q := rfl
def C85_8 : ACode := .seq (.reg L85_3) C85_7
theorem u85_8 : wpC P C85_8 T L (rdy h) Q = wpC P (.seq (.reg L85_3) C85_7) T L (rdy h) Q := rfl
def C85_9 : ACode := .block 0 (.loop C85_8)
theorem u85_9 : wpC P C85_9 T L (rdy h) Q = wpC P (.block 0 (.loop C85_8)) T L (rdy h) Q := rfl
def C85_10 : ACode := .seq (.reg L85_2) C85_9
theorem u85_10 : wpC P C85_10 T L (rdy h) Q = wpC P (.seq (.reg L85_2) C85_9) T L (rdy h) Q := rfl
def C85_11 : ACode := .seq (.reg L85_11) .ret
theorem u85_11 : wpC P C85_11 T L (rdy h) Q = wpC P (.seq (.reg L85_11) .ret) T L (rdy h) Q := rfl
def C85_12 : ACode := .seq C85_10 C85_11
theorem u85_12 : wpC P C85_12 T L (rdy h) Q = wpC P (.seq C85_10 C85_11) T L (rdy h) Q := rfl
def C85_13 : ACode := .seq (.reg L85_0) C85_12
theorem u85_13 : wpC P C85_13 T L (rdy h) Q = wpC P (.seq (.reg L85_0) C85_12) T L (rdy h) Q := rfl
def F85 : AFunc := ⟨21, [.tmp 4], C85_13⟩
theorem cF85 : compB Try.prog 85 = some F85 := by kernel_rfl
end
attribute [local go_sem ↓] u85_0 u85_1 u85_2 u85_3 u85_4 u85_5 u85_6 u85_7 u85_8 u85_9 u85_10 u85_11 u85_12 u85_13 v85_0 v85_1 v85_2 v85_3 v85_4 v85_5 v85_6 v85_7 v85_8 v85_9 v85_10 v85_11
theorem c_turn (l : List Turn) (v : AV) (s : ByteArray) (h : H) (hl : SlT h v l) (hn : l.length < 2 ^ 62) : bm Try.prog 85 [v, .one (.str s)] h = some (.one (.str (turned l s)), h) := by
  refine bm_eq cF85 ?_
  simp +contextual (maxSteps := 2000000) only [go_sem, Nat.reduceEqDiff, reduceCtorEq, Nat.reduceAdd, Nat.reduceLeDiff, F85, hl.len]
  refine wpC_loop (fun i T L h' => h' = h ∧ T 0 = .v v ∧ T 1 = .v (.one (.str s)) ∧ T 7 = .v v ∧ T 8 = .v (.one (.int .i64 l.length)) ∧ T 9 = .v (.one (.int .i64 i)) ∧ Pre (fun p => decide (p.fr = s)) false l i) l.length ?_ ?_ (Nat.zero_le _) ?_
  · rintro i T L h' hi ⟨rfl, h0, h1, t7, t8, t9, hp⟩
    simp +contextual (maxSteps := 2000000) only [go_sem, Nat.reduceEqDiff, reduceCtorEq, Nat.reduceAdd, Nat.reduceLeDiff, h0, h1, t7, t8, t9, hl.iaddr hi, hl.whole hi, lt_true hi]
    (repeat' (first | refine And.intro ?_ ?_ | intro _)) <;> first | rfl | rw [wrap_next hi hn] | exact hp.next hi ‹_› | rw [turned_some hi (idx_hit hi hp ‹_›)]
  · rintro T L h' ⟨rfl, h0, h1, t7, t8, t9, hp⟩
    simp +contextual (maxSteps := 2000000) only [go_sem, Nat.reduceEqDiff, reduceCtorEq, Nat.reduceAdd, Nat.reduceLeDiff, h0, h1, t7, t8, t9, lt_false, turned_none (idx_none hp)]
  · simp +contextual (maxSteps := 2000000) only [go_sem, Nat.reduceEqDiff, reduceCtorEq, Nat.reduceAdd, Nat.reduceLeDiff]
    (repeat' (first | refine And.intro ?_ ?_ | intro _)) <;> first | rfl | exact Pre.zero
section
variable {P : Program} {T : Tb} {L : Lb} {h : H} {Q : PostC} {K : Post}
/-! impl.ValidTurns$1 -/
def L171_0 : List AStep := [⟨.box 134 (.t 0), (some 2), none, []⟩, ⟨.mov (.c (.bool false)), (some 3), none, []⟩]
theorem v171_0 : wpS P L171_0 T L (rdy h) K = wpS P ([⟨.box 134 (.t 0), (some 2), none, []⟩, ⟨.mov (.c (.bool false)), (some 3), none, []⟩]) T L (rdy h) K := rfl
def L171_1 : List AStep := [⟨.bin .eql (.t 5) (.t 7), (some 8), none, []⟩, ⟨.mov (.t 8), (some 3), none, []⟩]
theorem v171_1 : wpS P L171_1 T L (rdy h) K = wpS P ([⟨.bin .eql (.t 5) (.t 7), (some 8), none, []⟩, ⟨.mov (.t 8), (some 3), none, []⟩]) T L (rdy h) K := rfl
def L171_2 : List AStep := ⟨.faddr 1 (.t 1), (some 6), none, []⟩ :: ⟨.load 1 false (.t 6), (some 7), none, []⟩ :: L171_1
theorem v171_2 : wpS P L171_2 T L (rdy h) K = wpS P (⟨.faddr 1 (.t 1), (some 6), none, []⟩ :: ⟨.load 1 false (.t 6), (some 7), none, []⟩ :: L171_1) T L (rdy h) K := rfl
def L171_3 : List AStep := ⟨.faddr 0 (.t 2), (some 4), none, []⟩ :: ⟨.load 1 false (.t 4), (some 5), none, []⟩ :: L171_2
theorem v171_3 : wpS P L171_3 T L (rdy h) K = wpS P (⟨.faddr 0 (.t 2), (some 4), none, []⟩ :: ⟨.load 1 false (.t 4), (some 5), none, []⟩ :: L171_2) T L (rdy h) K := rfl
def C171_0 : ACode := .seq (.reg L171_3) .ret
theorem u171_0 : wpC P C171_0 T L (rdy h) Q = wpC P (.seq (.reg L171_3) .ret) T L (rdy h) Q := rfl
def C171_1 : ACode := .seq (.reg L171_0) C171_0
theorem u171_1 : wpC P C171_1 T L (rdy h) Q = wpC P (.seq (.reg L171_0) C171_0) T L (rdy h) Q := rfl
def F171 : AFunc := ⟨9, [.tmp 3], C171_1⟩
theorem cF171 : compB Try.prog 171 = some F171 := by kernel_rfl
end
attribute [local go_sem ↓] u171_0 u171_1 v171_0 v171_1 v171_2 v171_3
theorem c_ValidTurns1 (u t : Turn) (b : Nat) (h : H) (hb : Box h b (encT t) 134) : bm Try.prog 171 [.agg (encT u), .one (.ptr (some (b, 0)))] h = some (ib (decide (u.fr = t.to)), h) := by
  have e : loadO 1 false h (.one (.ptr (some (b, 1)))) = some (.one (.str t.to)) := hb.one rfl
  refine bm_eq cF171 ?_
  simp +contextual (maxSteps := 2000000) only [go_sem, Nat.reduceEqDiff, reduceCtorEq, Nat.reduceAdd, Nat.reduceLeDiff, F171, e]
section
variable {P : Program} {T : Tb} {L : Lb} {h : H} {Q : PostC} {K : Post}
/-! impl.ValidTurns$2 -/
def L172_0 : List AStep := [⟨.box 134 (.t 0), (some 2), none, []⟩, ⟨.mov (.c (.bool false)), (some 3), none, []⟩]
theorem v172_0 : wpS P L172_0 T L (rdy h) K = wpS P ([⟨.box 134 (.t 0), (some 2), none, []⟩, ⟨.mov (.c (.bool false)), (some 3), none, []⟩]) T L (rdy h) K := rfl
def L172_1 : List AStep := [⟨.mov (.t 15), (some 3), none, []⟩]
theorem v172_1 : wpS P L172_1 T L (rdy h) K = wpS P ([⟨.mov (.t 15), (some 3), none, []⟩]) T L (rdy h) K := rfl
def L172_2 : List AStep := ⟨.bin .eql (.t 11) (.t 13), (some 14), (some (9, false)), []⟩ :: ⟨.pick (.t 9) (.c (.bool true)) (.t 14), (some 15), none, []⟩ :: L172_1
theorem v172_2 : wpS P L172_2 T L (rdy h) K = wpS P (⟨.bin .eql (.t 11) (.t 13), (some 14), (some (9, false)), []⟩ :: ⟨.pick (.t 9) (.c (.bool true)) (.t 14), (some 15), none, []⟩ :: L172_1) T L (rdy h) K := rfl
def L172_3 : List AStep := ⟨.faddr 1 (.t 1), (some 12), (some (9, false)), []⟩ :: ⟨.load 1 false (.t 12), (some 13), (some (9, false)), []⟩ :: L172_2
theorem v172_3 : wpS P L172_3 T L (rdy h) K = wpS P (⟨.faddr 1 (.t 1), (some 12), (some (9, false)), []⟩ :: ⟨.load 1 false (.t 12), (some 13), (some (9, false)), []⟩ :: L172_2) T L (rdy h) K := rfl
def L172_4 : List AStep := ⟨.faddr 1 (.t 2), (some 10), (some (9, false)), []⟩ :: ⟨.load 1 false (.t 10), (some 11), (some (9, false)), []⟩ :: L172_3
theorem v172_4 : wpS P L172_4 T L (rdy h) K = wpS P (⟨.faddr 1 (.t 2), (some 10), (some (9, false)), []⟩ :: ⟨.load 1 false (.t 10), (some 11), (some (9, false)), []⟩ :: L172_3) T L (rdy h) K := rfl
def L172_5 : List AStep := ⟨.bin .eql (.t 5) (.t 7), (some 8), none, []⟩ :: ⟨.mov (.t 8), (some 9), none, []⟩ :: L172_4
theorem v172_5 : wpS P L172_5 T L (rdy h) K = wpS P (⟨.bin .eql (.t 5) (.t 7), (some 8), none, []⟩ :: ⟨.mov (.t 8), (some 9), none, []⟩ :: L172_4) T L (rdy h) K := rfl
def L172_6 : List AStep := ⟨.faddr 0 (.t 1), (some 6), none, []⟩ :: ⟨.load 1 false (.t 6), (some 7), none, []⟩ :: L172_5
theorem v172_6 : wpS P L172_6 T L (rdy h) K = wpS P (⟨.faddr 0 (.t 1), (some 6), none, []⟩ :: ⟨.load 1 false (.t 6), (some 7), none, []⟩ :: L172_5) T L (rdy h) K := rfl
def L172_7 : List AStep := ⟨.faddr 0 (.t 2), (some 4), none, []⟩ :: ⟨.load 1 false (.t 4), (some 5), none, []⟩ :: L172_6
theorem v172_7 : wpS P L172_7 T L (rdy h) K = wpS P (⟨.faddr 0 (.t 2), (some 4), none, []⟩ :: ⟨.load 1 false (.t 4), (some 5), none, []⟩ :: L172_6) T L (rdy h) K := rfl
def C172_0 : ACode := .seq (.reg L172_7) .ret
theorem u172_0 : wpC P C172_0 T L (rdy h) Q = wpC P (.seq (.reg L172_7) .ret) T L (rdy h) Q := rfl
def C172_1 : ACode := .seq (.reg L172_0) C172_0
theorem u172_1 : wpC P C172_1 T L (rdy h) Q = wpC P (.seq (.reg L172_0) C172_0) T L (rdy h) Q := rfl
def F172 : AFunc := ⟨16, [.tmp 3], C172_1⟩
theorem cF172 : compB Try.prog 172 = some F172 := by kernel_rfl
end
attribute [local go_sem ↓] u172_0 u172_1 v172_0 v172_1 v172_2 v172_3 v172_4 v172_5 v172_6 v172_7
theorem c_ValidTurns2 (u t : Turn) (b : Nat) (h : H) (hb : Box h b (encT t) 134) : bm Try.prog 172 [.agg (encT u), .one (.ptr (some (b, 0)))] h = some (ib (decide (u.fr = t.fr) || decide (u.to = t.to)), h) := by
  have e : loadO 1 false h (.one (.ptr (some (b, 1)))) = some (.one (.str t.to)) := hb.one rfl
  have e2 : loadO 1 false h (.one (.ptr (some (b, 0)))) = some (.one (.str t.fr)) := hb.one rfl
  refine bm_eq cF172 ?_
  cases h1 : decide (u.fr = t.fr) with
  | true => simp +contextual (maxSteps := 2000000) only [go_sem, Nat.reduceEqDiff, reduceCtorEq, Nat.reduceAdd, Nat.reduceLeDiff, F172, e, e2, h1, Bool.true_or]
  | false => simp +contextual (maxSteps := 2000000) only [go_sem, Nat.reduceEqDiff, reduceCtorEq, Nat.reduceAdd, Nat.reduceLeDiff, F172, e, e2, h1, Bool.false_or]
section
variable {P : Program} {T : Tb} {L : Lb} {h : H} {Q : PostC} {K : Post}
/-! impl.ValidTurns -/
def L83_0 : List AStep := [⟨.mov (.c (.bool false)), (some 2), none, []⟩]
theorem v83_0 : wpS P L83_0 T L (rdy h) K = wpS P ([⟨.mov (.c (.bool false)), (some 2), none, []⟩]) T L (rdy h) K := rfl
def L83_1 : List AStep := [⟨.mov (.c (.int .i64 0)), (some 7), none, []⟩]
theorem v83_1 : wpS P L83_1 T L (rdy h) K = wpS P ([⟨.mov (.c (.int .i64 0)), (some 7), none, []⟩]) T L (rdy h) K := rfl
def L83_2 : List AStep := ⟨.mov (.t 0), (some 5), none, []⟩ :: ⟨.len (.t 5), (some 6), none, []⟩ :: L83_1
theorem v83_2 : wpS P L83_2 T L (rdy h) K = wpS P (⟨.mov (.t 0), (some 5), none, []⟩ :: ⟨.len (.t 5), (some 6), none, []⟩ :: L83_1) T L (rdy h) K := rfl
def L83_3 : List AStep := [⟨.bin .lss (.t 7) (.t 6), (some 8), none, []⟩]
theorem v83_3 : wpS P L83_3 T L (rdy h) K = wpS P ([⟨.bin .lss (.t 7) (.t 6), (some 8), none, []⟩]) T L (rdy h) K := rfl
def L83_4 : List AStep := [⟨.mov (.t 9), (some 3), none, []⟩, ⟨.store 2 (.t 4) (.t 11), none, none, []⟩]
theorem v83_4 : wpS P L83_4 T L (rdy h) K = wpS P ([⟨.mov (.t 9), (some 3), none, []⟩, ⟨.store 2 (.t 4) (.t 11), none, none, []⟩]) T L (rdy h) K := rfl
def L83_5 : List AStep := ⟨.load 2 true (.t 10), (some 11), none, []⟩ :: ⟨.alloc 134 [(.str (strOfNums [])), (.str (strOfNums []))], (some 4), none, []⟩ :: L83_4
theorem v83_5 : wpS P L83_5 T L (rdy h) K = wpS P (⟨.load 2 true (.t 10), (some 11), none, []⟩ :: ⟨.alloc 134 [(.str (strOfNums [])), (.str (strOfNums []))], (some 4), none, []⟩ :: L83_4) T L (rdy h) K := rfl
def L83_6 : List AStep := ⟨.mov (.t 7), (some 9), none, []⟩ :: ⟨.iaddr 2 (.t 5) (.t 7), (some 10), none, []⟩ :: L83_5
theorem v83_6 : wpS P L83_6 T L (rdy h) K = wpS P (⟨.mov (.t 7), (some 9), none, []⟩ :: ⟨.iaddr 2 (.t 5) (.t 7), (some 10), none, []⟩ :: L83_5) T L (rdy h) K := rfl
def L83_7 : List AStep := [⟨.pick (.t 22) (.c (.bool true)) (.t 27), (some 28), none, []⟩]
theorem v83_7 : wpS P L83_7 T L (rdy h) K = wpS P ([⟨.pick (.t 22) (.c (.bool true)) (.t 27), (some 28), none, []⟩]) T L (rdy h) K := rfl
def L83_8 : List AStep := ⟨.mkfn 172 [(.t 4)], (some 26), (some (22, false)), []⟩ :: ⟨.call 170 [(.t 25), (.t 26)], (some 27), (some (22, false)), []⟩ :: L83_7
theorem v83_8 : wpS P L83_8 T L (rdy h) K = wpS P (⟨.mkfn 172 [(.t 4)], (some 26), (some (22, false)), []⟩ :: ⟨.call 170 [(.t 25), (.t 26)], (some 27), (some (22, false)), []⟩ :: L83_7) T L (rdy h) K := rfl
def L83_9 : List AStep := ⟨.mov (.t 3), (some 24), (some (22, false)), []⟩ :: ⟨.slice 134 2 (.t 23) none (some (.t 24)) none, (some 25), (some (22, false)), []⟩ :: L83_8
theorem v83_9 : wpS P L83_9 T L (rdy h) K = wpS P (⟨.mov (.t 3), (some 24), (some (22, false)), []⟩ :: ⟨.slice 134 2 (.t 23) none (some (.t 24)) none, (some 25), (some (22, false)), []⟩ :: L83_8) T L (rdy h) K := rfl
def L83_10 : List AStep := ⟨.mov (.t 21), (some 22), none, []⟩ :: ⟨.mov (.t 0), (some 23), (some (22, false)), []⟩ :: L83_9
theorem v83_10 : wpS P L83_10 T L (rdy h) K = wpS P (⟨.mov (.t 21), (some 22), none, []⟩ :: ⟨.mov (.t 0), (some 23), (some (22, false)), []⟩ :: L83_9) T L (rdy h) K := rfl
def L83_11 : List AStep := ⟨.not (.t 19), (some 20), (some (16, false)), []⟩ :: ⟨.pick (.t 16) (.c (.bool true)) (.t 20), (some 21), none, []⟩ :: L83_10
theorem v83_11 : wpS P L83_11 T L (rdy h) K = wpS P (⟨.not (.t 19), (some 20), (some (16, false)), []⟩ :: ⟨.pick (.t 16) (.c (.bool true)) (.t 20), (some 21), none, []⟩ :: L83_10) T L (rdy h) K := rfl
def L83_12 : List AStep := ⟨.mkfn 171 [(.t 4)], (some 18), (some (16, false)), []⟩ :: ⟨.call 170 [(.t 17), (.t 18)], (some 19), (some (16, false)), []⟩ :: L83_11
theorem v83_12 : wpS P L83_12 T L (rdy h) K = wpS P (⟨.mkfn 171 [(.t 4)], (some 18), (some (16, false)), []⟩ :: ⟨.call 170 [(.t 17), (.t 18)], (some 19), (some (16, false)), []⟩ :: L83_11) T L (rdy h) K := rfl
def L83_13 : List AStep := ⟨.mov (.t 15), (some 16), none, []⟩ :: ⟨.mov (.t 0), (some 17), (some (16, false)), []⟩ :: L83_12
theorem v83_13 : wpS P L83_13 T L (rdy h) K = wpS P (⟨.mov (.t 15), (some 16), none, []⟩ :: ⟨.mov (.t 0), (some 17), (some (16, false)), []⟩ :: L83_12) T L (rdy h) K := rfl
def L83_14 : List AStep := ⟨.call 160 [(.t 13)], (some 14), none, []⟩ :: ⟨.not (.t 14), (some 15), none, []⟩ :: L83_13
theorem v83_14 : wpS P L83_14 T L (rdy h) K = wpS P (⟨.call 160 [(.t 13)], (some 14), none, []⟩ :: ⟨.not (.t 14), (some 15), none, []⟩ :: L83_13) T L (rdy h) K := rfl
def L83_15 : List AStep := ⟨.faddr 0 (.t 4), (some 12), none, []⟩ :: ⟨.load 1 false (.t 12), (some 13), none, []⟩ :: L83_14
theorem v83_15 : wpS P L83_15 T L (rdy h) K = wpS P (⟨.faddr 0 (.t 4), (some 12), none, []⟩ :: ⟨.load 1 false (.t 12), (some 13), none, []⟩ :: L83_14) T L (rdy h) K := rfl
def L83_16 : List AStep := [⟨.mov (.c (.bool false)), (some 2), none, []⟩]
theorem v83_16 : wpS P L83_16 T L (rdy h) K = wpS P ([⟨.mov (.c (.bool false)), (some 2), none, []⟩]) T L (rdy h) K := rfl
def L83_17 : List AStep := [⟨.bin .add (.t 7) (.c (.int .i64 1)), (some 29), none, []⟩, ⟨.mov (.t 29), (some 7), none, []⟩]
theorem v83_17 : wpS P L83_17 T L (rdy h) K = wpS P ([⟨.bin .add (.t 7) (.c (.int .i64 1)), (some 29), none, []⟩, ⟨.mov (.t 29), (some 7), none, []⟩]) T L (rdy h) K := rfl
def L83_18 : List AStep := [⟨.bin .leq (.t 31) (.c (.int .i64 8)), (some 32), none, []⟩, ⟨.mov (.t 32), (some 2), none, []⟩]
theorem v83_18 : wpS P L83_18 T L (rdy h) K = wpS P ([⟨.bin .leq (.t 31) (.c (.int .i64 8)), (some 32), none, []⟩, ⟨.mov (.t 32), (some 2), none, []⟩]) T L (rdy h) K := rfl
def L83_19 : List AStep := ⟨.mov (.t 0), (some 30), none, []⟩ :: ⟨.len (.t 30), (some 31), none, []⟩ :: L83_18
theorem v83_19 : wpS P L83_19 T L (rdy h) K = wpS P (⟨.mov (.t 0), (some 30), none, []⟩ :: ⟨.len (.t 30), (some 31), none, []⟩ :: L83_18) T L (rdy h) K := rfl
def C83_0 : ACode := .cond (.t 8) .skip (.exit 0)
theorem u83_0 : wpC P C83_0 T L (rdy h) Q = wpC P (.cond (.t 8) .skip (.exit 0)) T L (rdy h) Q := rfl
def C83_1 : ACode := .seq (.reg L83_16) .ret
theorem u83_1 : wpC P C83_1 T L (rdy h) Q = wpC P (.seq (.reg L83_16) .ret) T L (rdy h) Q := rfl
def C83_2 : ACode := .cond (.t 28) C83_1 .skip
theorem u83_2 : wpC P C83_2 T L (rdy h) Q = wpC P (.cond (.t 28) C83_1 .skip) T L (rdy h) Q := rfl
def C83_3 : ACode := .seq (.reg L83_15) C83_2
theorem u83_3 : wpC P C83_3 T L (rdy h) Q = wpC P (.seq (.reg L83_15) C83_2) T L (rdy h) Q := rfl
def C83_4 : ACode := .seq (.reg L83_6) C83_3
theorem u83_4 : wpC P C83_4 T L (rdy h) Q = wpC P (.seq (.reg L83_6) C83_3) T L (rdy h) Q := rfl
def C83_5 : ACode := .block 1 C83_4
theorem u83_5 : wpC P C83_5 T L (rdy h) Q = wpC P (.block 1 C83_4) T L (rdy h) Q := rfl
def C83_6 : ACode := .seq C83_5 (.reg L83_17)
theorem u83_6 : wpC P C83_6 T L (rdy h) Q = wpC P (.seq C83_5 (.reg L83_17)) T L (rdy h) Q := rfl
def C83_7 : ACode := .seq C83_0 C83_6
theorem u83_7 : wpC P C83_7 T L (rdy h) Q = wpC P (.seq C83_0 C83_6) T L (rdy h) Q := rfl
def C83_8 : ACode := .seq (.reg L83_3) C83_7
theorem u83_8 : wpC P C83_8 T L (rdy h) Q = wpC P (.seq (.reg L83_3) C83_7) T L (rdy h) Q := rfl
def C83_9 : ACode := .block 0 (.loop C83_8)
theorem u83_9 : wpC P C83_9 T L (rdy h) Q = wpC P (.block 0 (.loop C83_8)) T L (rdy h) Q := rfl
def C83_10 : ACode := .seq (.reg L83_2) C83_9
theorem u83_10 : wpC P C83_10 T L (rdy h) Q = wpC P (.seq (.reg L83_2) C83_9) T L (rdy h) Q := rfl
def C83_11 : ACode := .seq (.reg L83_19) .ret
theorem u83_11 : wpC P C83_11 T L (rdy h) Q = wpC P (.seq (.reg L83_19) .ret) T L (rdy h) Q := rfl
def C83_12 : ACode := .seq C83_10 C83_11
theorem u83_12 : wpC P C83_12 T L (rdy h) Q = wpC P (.seq C83_10 C83_11) T L (rdy h) Q := rfl
def C83_13 : ACode := .seq (.reg L83_0) C83_12
theorem u83_13 : wpC P C83_13 T L (rdy h) Q = wpC P (.seq (.reg L83_0) C83_12) T L (rdy h) Q := rfl
def F83 : AFunc := ⟨33, [.tmp 2], C83_13⟩
theorem cF83 : compB Try.prog 83 = some F83 := by kernel_rfl
end
attribute [local go_sem ↓] u83_0 u83_1 u83_2 u83_3 u83_4 u83_5 u83_6 u83_7 u83_8 u83_9 u83_10 u83_11 u83_12 u83_13 v83_0 v83_1 v83_2 v83_3 v83_4 v83_5 v83_6 v83_7 v83_8 v83_9 v83_10 v83_11 v83_12 v83_13 v83_14 v83_15 v83_16 v83_17 v83_18 v83_19
theorem c_ValidTurns (l : List Turn) (v : AV) (h : H) (hl : SlT h v l) (hn : miniU l) : bm Try.prog 83 [v] h = some (ib (okTurns l), h) := by
  refine bm_eq cF83 ?_
  simp +contextual (maxSteps := 2000000) only [go_sem, Nat.reduceEqDiff, reduceCtorEq, Nat.reduceAdd, Nat.reduceLeDiff, F83, hl.len]
  refine wpC_loop (fun i T L h' => Grow h h' ∧ T 0 = .v v ∧ T 5 = .v v ∧ T 6 = .v (.one (.int .i64 l.length)) ∧ T 7 = .v (.one (.int .i64 i)) ∧ Upto (okTurnAt l) i) l.length ?_ ?_ (Nat.zero_le _) ?_
  · rintro i T L h' hi ⟨g, t0, t5, t6, t7, hu⟩
    have hl' := hl.grow g
    have e3 := okTurnAt_eq hi
    have g2 : Grow h' (h'.alloc (encT l[i]) 134) := Grow.alloc _ _ _
    have hl2 := hl'.grow g2
    obtain ⟨v', e1, s1⟩ := hl2.takeO (i := i) (by omega) (kd := .i64)
    have f1 := c_hasT l v 171 [(h'.n, 0)] (fun u => decide (u.fr = l[i].to)) _ hl2 (Nat.le_trans hn.len (by decide)) (fun j hj x hx => c_ValidTurns1 x l[i] _ _ Box.new)
    have f2 := c_hasT (l.take i) v' 172 [(h'.n, 0)] (fun u => decide (u.fr = l[i].fr) || decide (u.to = l[i].to)) _ s1 (by have := hn.len; simp; unfold big; omega) (fun j hj x hx => c_ValidTurns2 x l[i] _ _ Box.new)
    simp only [encT] at f1 f2 e1
    cases b1 : okName l[i].fr with
    | false =>
      simp +contextual (maxSteps := 2000000) only [go_sem, Nat.reduceEqDiff, reduceCtorEq, Nat.reduceAdd, Nat.reduceLeDiff, t0, t5, t6, t7, hl'.iaddr hi, hl'.whole hi, encT, lt_true hi, c_isName _ _ (hn.at hi), b1]
      rw [okTurns_not hi (by rw [e3, b1]; rfl)]
      exact gcR_of g rfl ⟨rfl, rfl⟩
    | true =>
    cases b2 : l.any (fun u => decide (u.fr = l[i].to)) with
    | false =>
      rw [b2] at f1
      simp +contextual (maxSteps := 2000000) only [go_sem, Nat.reduceEqDiff, reduceCtorEq, Nat.reduceAdd, Nat.reduceLeDiff, t0, t5, t6, t7, hl'.iaddr hi, hl'.whole hi, encT, lt_true hi, c_isName _ _ (hn.at hi), b1, f1]
      rw [okTurns_not hi (by rw [e3, b1, b2]; rfl)]
      exact gcR_of (g.trans g2) rfl ⟨rfl, rfl⟩
    | true =>
    rw [b2] at f1
    cases b3 : (l.take i).any (fun u => decide (u.fr = l[i].fr) || decide (u.to = l[i].to)) with
    | true =>
      rw [b3] at f2
      simp +contextual (maxSteps := 2000000) only [go_sem, Nat.reduceEqDiff, reduceCtorEq, Nat.reduceAdd, Nat.reduceLeDiff, t0, t5, t6, t7, hl'.iaddr hi, hl'.whole hi, encT, lt_true hi, c_isName _ _ (hn.at hi), b1, f1, e1, f2]
      rw [okTurns_not hi (by rw [e3, b1, b2, b3]; rfl)]
      exact gcR_of (g.trans g2) rfl ⟨rfl, rfl⟩
    | false =>
      rw [b3] at f2
      simp +contextual (maxSteps := 2000000) only [go_sem, Nat.reduceEqDiff, reduceCtorEq, Nat.reduceAdd, Nat.reduceLeDiff, t0, t5, t6, t7, hl'.iaddr hi, hl'.whole hi, encT, lt_true hi, c_isName _ _ (hn.at hi), b1, f1, e1, f2]
      exact ⟨g.trans g2, by rw [wrap_next hi hn.lt], hu.next (by rw [e3, b1, b2, b3]; rfl)⟩
  · rintro T L h' ⟨g, t0, t5, t6, t7, hu⟩
    simp +contextual (maxSteps := 2000000) only [go_sem, Nat.reduceEqDiff, reduceCtorEq, Nat.reduceAdd, Nat.reduceLeDiff, t0, t5, t6, t7, (hl.grow g).len, lt_false, okTurns_of hu]
    exact gcR_of g rfl ⟨rfl, rfl⟩
  · simp +contextual (maxSteps := 2000000) only [go_sem, Nat.reduceEqDiff, reduceCtorEq, Nat.reduceAdd, Nat.reduceLeDiff]
    exact ⟨Grow.refl h, rfl, Upto.zero⟩
section
variable {P : Program} {T : Tb} {L : Lb} {h : H} {Q : PostC} {K : Post}
/-! spec.TurnFlat -/
def L15_0 : List AStep := [⟨.box 31 (.t 1), (some 3), none, []⟩, ⟨.alloc 31 [(.sl none 0 (some 0)), (.sl none 0 (some 0))], (some 4), none, []⟩]
theorem v15_0 : wpS P L15_0 T L (rdy h) K = wpS P ([⟨.box 31 (.t 1), (some 3), none, []⟩, ⟨.alloc 31 [(.sl none 0 (some 0)), (.sl none 0 (some 0))], (some 4), none, []⟩]) T L (rdy h) K := rfl
def L15_1 : List AStep := [⟨.not (.t 12), (some 13), (some (10, false)), []⟩, ⟨.pick (.t 10) (.c (.bool true)) (.t 13), (some 14), none, []⟩]
theorem v15_1 : wpS P L15_1 T L (rdy h) K = wpS P ([⟨.not (.t 12), (some 13), (some (10, false)), []⟩, ⟨.pick (.t 10) (.c (.bool true)) (.t 13), (some 14), none, []⟩]) T L (rdy h) K := rfl
def L15_2 : List AStep := ⟨.load 2 true (.t 3), (some 11), (some (10, false)), []⟩ :: ⟨.call 77 [(.t 11)], (some 12), (some (10, false)), []⟩ :: L15_1
theorem v15_2 : wpS P L15_2 T L (rdy h) K = wpS P (⟨.load 2 true (.t 3), (some 11), (some (10, false)), []⟩ :: ⟨.call 77 [(.t 11)], (some 12), (some (10, false)), []⟩ :: L15_1) T L (rdy h) K := rfl
def L15_3 : List AStep := ⟨.not (.t 8), (some 9), none, []⟩ :: ⟨.mov (.t 9), (some 10), none, []⟩ :: L15_2
theorem v15_3 : wpS P L15_3 T L (rdy h) K = wpS P (⟨.not (.t 8), (some 9), none, []⟩ :: ⟨.mov (.t 9), (some 10), none, []⟩ :: L15_2) T L (rdy h) K := rfl
def L15_4 : List AStep := ⟨.mov (.t 0), (some 7), none, []⟩ :: ⟨.call 76 [(.t 7)], (some 8), none, []⟩ :: L15_3
theorem v15_4 : wpS P L15_4 T L (rdy h) K = wpS P (⟨.mov (.t 0), (some 7), none, []⟩ :: ⟨.call 76 [(.t 7)], (some 8), none, []⟩ :: L15_3) T L (rdy h) K := rfl
def L15_5 : List AStep := [⟨.build [(.sl none 0 (some 0)), (.sl none 0 (some 0))] [], (some 15), none, []⟩, ⟨.store 2 (.t 4) (.t 15), none, none, []⟩]
theorem v15_5 : wpS P L15_5 T L (rdy h) K = wpS P ([⟨.build [(.sl none 0 (some 0)), (.sl none 0 (some 0))] [], (some 15), none, []⟩, ⟨.store 2 (.t 4) (.t 15), none, none, []⟩]) T L (rdy h) K := rfl
def L15_6 : List AStep := [⟨.alloc 31 [(.sl none 0 (some 0)), (.sl none 0 (some 0))], (some 5), none, []⟩, ⟨.store 2 (.t 5) (.t 17), none, none, []⟩]
theorem v15_6 : wpS P L15_6 T L (rdy h) K = wpS P ([⟨.alloc 31 [(.sl none 0 (some 0)), (.sl none 0 (some 0))], (some 5), none, []⟩, ⟨.store 2 (.t 5) (.t 17), none, none, []⟩]) T L (rdy h) K := rfl
def L15_7 : List AStep := ⟨.load 2 true (.t 3), (some 16), none, []⟩ :: ⟨.call 78 [(.t 16)], (some 17), none, []⟩ :: L15_6
theorem v15_7 : wpS P L15_7 T L (rdy h) K = wpS P (⟨.load 2 true (.t 3), (some 16), none, []⟩ :: ⟨.call 78 [(.t 16)], (some 17), none, []⟩ :: L15_6) T L (rdy h) K := rfl
def L15_8 : List AStep := [⟨.mov (.c (.int .i64 0)), (some 6), none, []⟩]
theorem v15_8 : wpS P L15_8 T L (rdy h) K = wpS P ([⟨.mov (.c (.int .i64 0)), (some 6), none, []⟩]) T L (rdy h) K := rfl
def L15_9 : List AStep := [⟨.bin .lss (.t 18) (.t 21), (some 22), none, []⟩]
theorem v15_9 : wpS P L15_9 T L (rdy h) K = wpS P ([⟨.bin .lss (.t 18) (.t 21), (some 22), none, []⟩]) T L (rdy h) K := rfl
def L15_10 : List AStep := ⟨.load 1 false (.t 19), (some 20), none, []⟩ :: ⟨.len (.t 20), (some 21), none, []⟩ :: L15_9
theorem v15_10 : wpS P L15_10 T L (rdy h) K = wpS P (⟨.load 1 false (.t 19), (some 20), none, []⟩ :: ⟨.len (.t 20), (some 21), none, []⟩ :: L15_9) T L (rdy h) K := rfl
def L15_11 : List AStep := ⟨.mov (.t 6), (some 18), none, []⟩ :: ⟨.faddr 1 (.t 5), (some 19), none, []⟩ :: L15_10
theorem v15_11 : wpS P L15_11 T L (rdy h) K = wpS P (⟨.mov (.t 6), (some 18), none, []⟩ :: ⟨.faddr 1 (.t 5), (some 19), none, []⟩ :: L15_10) T L (rdy h) K := rfl
def L15_12 : List AStep := [⟨.faddr 0 (.t 36), (some 37), none, []⟩, ⟨.store 1 (.t 37) (.t 35), none, none, []⟩]
theorem v15_12 : wpS P L15_12 T L (rdy h) K = wpS P ([⟨.faddr 0 (.t 36), (some 37), none, []⟩, ⟨.store 1 (.t 37) (.t 35), none, none, []⟩]) T L (rdy h) K := rfl
def L15_13 : List AStep := ⟨.call 79 [(.t 28), (.t 34)], (some 35), none, [(.load 1 false (.t 25), (some 26), none)]⟩ :: ⟨.iaddr 2 (.t 26) (.t 27), (some 36), none, []⟩ :: L15_12
theorem v15_13 : wpS P L15_13 T L (rdy h) K = wpS P (⟨.call 79 [(.t 28), (.t 34)], (some 35), none, [(.load 1 false (.t 25), (some 26), none)]⟩ :: ⟨.iaddr 2 (.t 26) (.t 27), (some 36), none, []⟩ :: L15_12) T L (rdy h) K := rfl
def L15_14 : List AStep := ⟨.faddr 0 (.t 32), (some 33), none, []⟩ :: ⟨.load 1 false (.t 33), (some 34), none, []⟩ :: L15_13
theorem v15_14 : wpS P L15_14 T L (rdy h) K = wpS P (⟨.faddr 0 (.t 32), (some 33), none, []⟩ :: ⟨.load 1 false (.t 33), (some 34), none, []⟩ :: L15_13) T L (rdy h) K := rfl
def L15_15 : List AStep := ⟨.mov (.t 6), (some 31), none, []⟩ :: ⟨.iaddr 2 (.t 30) (.t 31), (some 32), none, []⟩ :: L15_14
theorem v15_15 : wpS P L15_15 T L (rdy h) K = wpS P (⟨.mov (.t 6), (some 31), none, []⟩ :: ⟨.iaddr 2 (.t 30) (.t 31), (some 32), none, []⟩ :: L15_14) T L (rdy h) K := rfl
def L15_16 : List AStep := ⟨.faddr 1 (.t 5), (some 29), none, []⟩ :: ⟨.load 1 false (.t 29), (some 30), none, []⟩ :: L15_15
theorem v15_16 : wpS P L15_16 T L (rdy h) K = wpS P (⟨.faddr 1 (.t 5), (some 29), none, []⟩ :: ⟨.load 1 false (.t 29), (some 30), none, []⟩ :: L15_15) T L (rdy h) K := rfl
def L15_17 : List AStep := ⟨.mov (.t 6), (some 27), none, []⟩ :: ⟨.mov (.t 0), (some 28), none, []⟩ :: L15_16
theorem v15_17 : wpS P L15_17 T L (rdy h) K = wpS P (⟨.mov (.t 6), (some 27), none, []⟩ :: ⟨.mov (.t 0), (some 28), none, []⟩ :: L15_16) T L (rdy h) K := rfl
def L15_18 : List AStep := ⟨.faddr 1 (.t 5), (some 25), none, []⟩ :: ⟨.load 1 false (.t 25), (some 26), none, []⟩ :: L15_17
theorem v15_18 : wpS P L15_18 T L (rdy h) K = wpS P (⟨.faddr 1 (.t 5), (some 25), none, []⟩ :: ⟨.load 1 false (.t 25), (some 26), none, []⟩ :: L15_17) T L (rdy h) K := rfl
def L15_19 : List AStep := [⟨.mov (.t 24), (some 6), none, []⟩]
theorem v15_19 : wpS P L15_19 T L (rdy h) K = wpS P ([⟨.mov (.t 24), (some 6), none, []⟩]) T L (rdy h) K := rfl
def L15_20 : List AStep := ⟨.mov (.t 6), (some 23), none, []⟩ :: ⟨.bin .add (.t 23) (.c (.int .i64 1)), (some 24), none, []⟩ :: L15_19
theorem v15_20 : wpS P L15_20 T L (rdy h) K = wpS P (⟨.mov (.t 6), (some 23), none, []⟩ :: ⟨.bin .add (.t 23) (.c (.int .i64 1)), (some 24), none, []⟩ :: L15_19) T L (rdy h) K := rfl
def L15_21 : List AStep := [⟨.load 2 true (.t 5), (some 38), none, []⟩, ⟨.store 2 (.t 4) (.t 38), none, none, []⟩]
theorem v15_21 : wpS P L15_21 T L (rdy h) K = wpS P ([⟨.load 2 true (.t 5), (some 38), none, []⟩, ⟨.store 2 (.t 4) (.t 38), none, none, []⟩]) T L (rdy h) K := rfl
def C15_0 : ACode := .seq (.reg L15_5) .ret
theorem u15_0 : wpC P C15_0 T L (rdy h) Q = wpC P (.seq (.reg L15_5) .ret) T L (rdy h) Q := rfl
def C15_1 : ACode := .cond (.t 14) C15_0 .skip
theorem u15_1 : wpC P C15_1 T L (rdy h) Q = wpC P (.cond (.t 14) C15_0 .skip) T L (rdy h) Q := rfl
def C15_2 : ACode := .seq (.reg L15_4) C15_1
theorem u15_2 : wpC P C15_2 T L (rdy h) Q = wpC P (.seq (.reg L15_4) C15_1) T L (rdy h) Q := rfl
def C15_3 : ACode := .cond (.t 22) .skip (.exit 0)
theorem u15_3 : wpC P C15_3 T L (rdy h) Q = wpC P (.cond (.t 22) .skip (.exit 0)) T L (rdy h) Q := rfl
def C15_4 : ACode := .seq (.reg L15_11) C15_3
theorem u15_4 : wpC P C15_4 T L (rdy h) Q = wpC P (.seq (.reg L15_11) C15_3) T L (rdy h) Q := rfl
def C15_5 : ACode := .block 1 (.reg L15_18)
theorem u15_5 : wpC P C15_5 T L (rdy h) Q = wpC P (.block 1 (.reg L15_18)) T L (rdy h) Q := rfl
def C15_6 : ACode := .seq C15_5 (.reg L15_20)
theorem u15_6 : wpC P C15_6 T L (rdy h) Q = wpC P (.seq C15_5 (.reg L15_20)) T L (rdy h) Q := rfl
def C15_7 : ACode := .seq C15_4 C15_6
theorem u15_7 : wpC P C15_7 T L (rdy h) Q = wpC P (.seq C15_4 C15_6) T L (rdy h) Q := rfl
def C15_8 : ACode := .block 0 (.loop C15_7)
theorem u15_8 : wpC P C15_8 T L (rdy h) Q = wpC P (.block 0 (.loop C15_7)) T L (rdy h) Q := rfl
def C15_9 : ACode := .seq (.reg L15_8) C15_8
theorem u15_9 : wpC P C15_9 T L (rdy h) Q = wpC P (.seq (.reg L15_8) C15_8) T L (rdy h) Q := rfl
def C15_10 : ACode := .seq (.reg L15_21) .ret
theorem u15_10 : wpC P C15_10 T L (rdy h) Q = wpC P (.seq (.reg L15_21) .ret) T L (rdy h) Q := rfl
def C15_11 : ACode := .seq C15_9 C15_10
theorem u15_11 : wpC P C15_11 T L (rdy h) Q = wpC P (.seq C15_9 C15_10) T L (rdy h) Q := rfl
def C15_12 : ACode := .seq (.reg L15_7) C15_11
theorem u15_12 : wpC P C15_12 T L (rdy h) Q = wpC P (.seq (.reg L15_7) C15_11) T L (rdy h) Q := rfl
def C15_13 : ACode := .seq C15_2 C15_12
theorem u15_13 : wpC P C15_13 T L (rdy h) Q = wpC P (.seq C15_2 C15_12) T L (rdy h) Q := rfl
def C15_14 : ACode := .seq (.reg L15_0) C15_13
theorem u15_14 : wpC P C15_14 T L (rdy h) Q = wpC P (.seq (.reg L15_0) C15_13) T L (rdy h) Q := rfl
def F15 : AFunc := ⟨39, [.cell 4 2 true], C15_14⟩
theorem cF15 : compB Try.prog 15 = some F15 := by kernel_rfl
end
attribute [local go_sem ↓] u15_0 u15_1 u15_2 u15_3 u15_4 u15_5 u15_6 u15_7 u15_8 u15_9 u15_10 u15_11 u15_12 u15_13 u15_14 v15_0 v15_1 v15_2 v15_3 v15_4 v15_5 v15_6 v15_7 v15_8 v15_9 v15_10 v15_11 v15_12 v15_13 v15_14 v15_15 v15_16 v15_17 v15_18 v15_19 v15_20 v15_21
theorem k_sTurnFlat (l : List Turn) (x : Flat) (u p n : CV) (h : H) (hl : SlU h u l) (hx : SlF h p n x) (hn : miniU l) (hm : miniF x) :
    callK (bm Try.prog 15 [.one u, .agg [p, n]] h) fun r h' => Grow h h' ∧ ∃ p' n', r = .agg [p', n'] ∧ NwF h h' p' n' (turnFlat l x) := by
  refine bm_of cF15 ?_
  unfold turnFlat
  cases h1 : okTurns l with
  | false =>
    simp +contextual (maxSteps := 2000000) only [go_sem, Nat.reduceEqDiff, reduceCtorEq, Nat.reduceAdd, Nat.reduceLeDiff, F15, c_validTurns _ _ _ hl.out hn, h1, false_and, if_false]
    exact ⟨Grow.refl h, _, _, rfl, .nil⟩
  | true =>
  cases h2 : okFlat x with
  | false =>
    simp +contextual (maxSteps := 2000000) only [go_sem, Nat.reduceEqDiff, reduceCtorEq, Nat.reduceAdd, Nat.reduceLeDiff, F15, c_validTurns _ _ _ hl.out hn, h1, c_validFlat _ _ _ _ hx.pl hx.nl hm.sm, h2, and_false, if_false]
    exact ⟨Grow.refl h, _, _, rfl, .nil⟩
  | true =>
  simp +contextual (maxSteps := 2000000) only [go_sem, Nat.reduceEqDiff, reduceCtorEq, Nat.reduceAdd, Nat.reduceLeDiff, F15, c_validTurns _ _ _ hl.out hn, h1, c_validFlat _ _ _ _ hx.pl hx.nl hm.sm, h2, and_self, if_true]
  refine wp_call (c_copyFlat x p n h hx hm.sm) ?_
  rintro r h1 ⟨g1, c, d, rfl, n1⟩
  simp +contextual (maxSteps := 2000000) only [go_sem, Nat.reduceEqDiff, reduceCtorEq, Nat.reduceAdd, Nat.reduceLeDiff]
  refine wpC_loop (fun i T L h' => Grow h h' ∧ T 0 = .v (.one u) ∧ T 4 = .lp 4 0 ∧ (L 4).2 = [.sl none 0 (some 0), .sl none 0 (some 0)] ∧ T 5 = .lp 5 0 ∧ (L 5).2 = [c, d] ∧ T 6 = .v (.one (.int .i64 i)) ∧ NwI h h' (.one c) x.pl ∧ NwP h h' (.one d) (mapT (turnP l) x.nl i)) x.nl.length ?_ ?_ (Nat.zero_le _) ?_
  · rintro i T L h' hi ⟨g, t0, t4, l4, t5, l5, t6, pl, no⟩
    have hlen : (mapT (turnP l) x.nl i).length = x.nl.length := mapT_len (by omega)
    have hio : i < (mapT (turnP l) x.nl i).length := by omega
    have hln := no.length
    rw [hlen] at hln
    have hf := (no.sl lenP).fieldO (off := 0) hio (by omega)
    rw [mapT_at hi hio] at hf
    simp +contextual (maxSteps := 2000000) only [go_sem, Nat.reduceEqDiff, reduceCtorEq, Nat.reduceAdd, Nat.reduceLeDiff, t0, t4, l4, t5, l5, t6, hln, no.iaddr hio, hf, lt_true hi, c_turned _ _ _ _ (hl.out.grow g) hn.lt]
    refine wp_set (x := turnP l x.nl[i]) (off := 0) (vs := [.str (turned l x.nl[i].name)]) lenP no hio rfl (by rw [mapT_at hi hio]; rfl) (Nat.le_of_ble_eq_true rfl) g ?_
    intro h2 g2 n2 s2
    simp +contextual (maxSteps := 2000000) only [go_sem, Nat.reduceEqDiff, reduceCtorEq, Nat.reduceAdd, Nat.reduceLeDiff, t0, t4, l4, t5, l5, t6]
    rw [mapT_set hi] at n2
    exact ⟨g2, by rw [wrap_next hi (Nat.lt_of_le_of_lt hm.nl (by decide))], pl.stay s2 n1.sep, n2⟩
  · rintro T L h' ⟨g, t0, t4, l4, t5, l5, t6, pl, no⟩
    have hln := no.length
    rw [mapT_len (Nat.le_refl _)] at hln
    rw [mapT_all] at no
    simp +contextual (maxSteps := 2000000) only [go_sem, Nat.reduceEqDiff, reduceCtorEq, Nat.reduceAdd, Nat.reduceLeDiff, t0, t4, l4, t5, l5, t6, hln, lt_false]
    have z : NwF h h' c d ⟨x.pl, x.nl.map (turnP l)⟩ := ⟨pl, no, n1.sep⟩
    exact gcK_of ⟨g, _, _, rfl, z⟩ (fun hs _ => ⟨Grow.refl h, _, _, rfl, z.scalar hs h⟩)
  · simp +contextual (maxSteps := 2000000) only [go_sem, Nat.reduceEqDiff, reduceCtorEq, Nat.reduceAdd, Nat.reduceLeDiff]
    exact ⟨g1, rfl, n1.pl, by rw [mapT_zero]; exact n1.nl⟩
section
variable {P : Program} {T : Tb} {L : Lb} {h : H} {Q : PostC} {K : Post}
/-! impl.TurnFlat -/
def L18_0 : List AStep := [⟨.box 31 (.t 1), (some 3), none, []⟩, ⟨.alloc 31 [(.sl none 0 (some 0)), (.sl none 0 (some 0))], (some 4), none, []⟩]
theorem v18_0 : wpS P L18_0 T L (rdy h) K = wpS P ([⟨.box 31 (.t 1), (some 3), none, []⟩, ⟨.alloc 31 [(.sl none 0 (some 0)), (.sl none 0 (some 0))], (some 4), none, []⟩]) T L (rdy h) K := rfl
def L18_1 : List AStep := [⟨.not (.t 12), (some 13), (some (10, false)), []⟩, ⟨.pick (.t 10) (.c (.bool true)) (.t 13), (some 14), none, []⟩]
theorem v18_1 : wpS P L18_1 T L (rdy h) K = wpS P ([⟨.not (.t 12), (some 13), (some (10, false)), []⟩, ⟨.pick (.t 10) (.c (.bool true)) (.t 13), (some 14), none, []⟩]) T L (rdy h) K := rfl
def L18_2 : List AStep := ⟨.load 2 true (.t 3), (some 11), (some (10, false)), []⟩ :: ⟨.call 60 [(.t 11)], (some 12), (some (10, false)), []⟩ :: L18_1
theorem v18_2 : wpS P L18_2 T L (rdy h) K = wpS P (⟨.load 2 true (.t 3), (some 11), (some (10, false)), []⟩ :: ⟨.call 60 [(.t 11)], (some 12), (some (10, false)), []⟩ :: L18_1) T L (rdy h) K := rfl
def L18_3 : List AStep := ⟨.not (.t 8), (some 9), none, []⟩ :: ⟨.mov (.t 9), (some 10), none, []⟩ :: L18_2
theorem v18_3 : wpS P L18_3 T L (rdy h) K = wpS P (⟨.not (.t 8), (some 9), none, []⟩ :: ⟨.mov (.t 9), (some 10), none, []⟩ :: L18_2) T L (rdy h) K := rfl
def L18_4 : List AStep := ⟨.mov (.t 0), (some 7), none, []⟩ :: ⟨.call 83 [(.t 7)], (some 8), none, []⟩ :: L18_3
theorem v18_4 : wpS P L18_4 T L (rdy h) K = wpS P (⟨.mov (.t 0), (some 7), none, []⟩ :: ⟨.call 83 [(.t 7)], (some 8), none, []⟩ :: L18_3) T L (rdy h) K := rfl
def L18_5 : List AStep := [⟨.build [(.sl none 0 (some 0)), (.sl none 0 (some 0))] [], (some 15), none, []⟩, ⟨.store 2 (.t 4) (.t 15), none, none, []⟩]
theorem v18_5 : wpS P L18_5 T L (rdy h) K = wpS P ([⟨.build [(.sl none 0 (some 0)), (.sl none 0 (some 0))] [], (some 15), none, []⟩, ⟨.store 2 (.t 4) (.t 15), none, none, []⟩]) T L (rdy h) K := rfl
def L18_6 : List AStep := [⟨.alloc 31 [(.sl none 0 (some 0)), (.sl none 0 (some 0))], (some 5), none, []⟩, ⟨.store 2 (.t 5) (.t 17), none, none, []⟩]
theorem v18_6 : wpS P L18_6 T L (rdy h) K = wpS P ([⟨.alloc 31 [(.sl none 0 (some 0)), (.sl none 0 (some 0))], (some 5), none, []⟩, ⟨.store 2 (.t 5) (.t 17), none, none, []⟩]) T L (rdy h) K := rfl
def L18_7 : List AStep := ⟨.load 2 true (.t 3), (some 16), none, []⟩ :: ⟨.call 84 [(.t 16)], (some 17), none, []⟩ :: L18_6
theorem v18_7 : wpS P L18_7 T L (rdy h) K = wpS P (⟨.load 2 true (.t 3), (some 16), none, []⟩ :: ⟨.call 84 [(.t 16)], (some 17), none, []⟩ :: L18_6) T L (rdy h) K := rfl
def L18_8 : List AStep := [⟨.len (.t 19), (some 20), none, []⟩, ⟨.mov (.c (.int .i64 0)), (some 21), none, []⟩]
theorem v18_8 : wpS P L18_8 T L (rdy h) K = wpS P ([⟨.len (.t 19), (some 20), none, []⟩, ⟨.mov (.c (.int .i64 0)), (some 21), none, []⟩]) T L (rdy h) K := rfl
def L18_9 : List AStep := ⟨.faddr 1 (.t 5), (some 18), none, []⟩ :: ⟨.load 1 false (.t 18), (some 19), none, []⟩ :: L18_8
theorem v18_9 : wpS P L18_9 T L (rdy h) K = wpS P (⟨.faddr 1 (.t 5), (some 18), none, []⟩ :: ⟨.load 1 false (.t 18), (some 19), none, []⟩ :: L18_8) T L (rdy h) K := rfl
def L18_10 : List AStep := [⟨.bin .lss (.t 21) (.t 20), (some 22), none, []⟩]
theorem v18_10 : wpS P L18_10 T L (rdy h) K = wpS P ([⟨.bin .lss (.t 21) (.t 20), (some 22), none, []⟩]) T L (rdy h) K := rfl
def L18_11 : List AStep := [⟨.mov (.t 21), (some 23), none, []⟩, ⟨.mov (.t 23), (some 6), none, []⟩]
theorem v18_11 : wpS P L18_11 T L (rdy h) K = wpS P ([⟨.mov (.t 21), (some 23), none, []⟩, ⟨.mov (.t 23), (some 6), none, []⟩]) T L (rdy h) K := rfl
def L18_12 : List AStep := [⟨.faddr 0 (.t 35), (some 36), none, []⟩, ⟨.store 1 (.t 36) (.t 34), none, none, []⟩]
theorem v18_12 : wpS P L18_12 T L (rdy h) K = wpS P ([⟨.faddr 0 (.t 35), (some 36), none, []⟩, ⟨.store 1 (.t 36) (.t 34), none, none, []⟩]) T L (rdy h) K := rfl
def L18_13 : List AStep := ⟨.call 85 [(.t 27), (.t 33)], (some 34), none, [(.load 1 false (.t 24), (some 25), none)]⟩ :: ⟨.iaddr 2 (.t 25) (.t 26), (some 35), none, []⟩ :: L18_12
theorem v18_13 : wpS P L18_13 T L (rdy h) K = wpS P (⟨.call 85 [(.t 27), (.t 33)], (some 34), none, [(.load 1 false (.t 24), (some 25), none)]⟩ :: ⟨.iaddr 2 (.t 25) (.t 26), (some 35), none, []⟩ :: L18_12) T L (rdy h) K := rfl
def L18_14 : List AStep := ⟨.faddr 0 (.t 31), (some 32), none, []⟩ :: ⟨.load 1 false (.t 32), (some 33), none, []⟩ :: L18_13
theorem v18_14 : wpS P L18_14 T L (rdy h) K = wpS P (⟨.faddr 0 (.t 31), (some 32), none, []⟩ :: ⟨.load 1 false (.t 32), (some 33), none, []⟩ :: L18_13) T L (rdy h) K := rfl
def L18_15 : List AStep := ⟨.mov (.t 6), (some 30), none, []⟩ :: ⟨.iaddr 2 (.t 29) (.t 30), (some 31), none, []⟩ :: L18_14
theorem v18_15 : wpS P L18_15 T L (rdy h) K = wpS P (⟨.mov (.t 6), (some 30), none, []⟩ :: ⟨.iaddr 2 (.t 29) (.t 30), (some 31), none, []⟩ :: L18_14) T L (rdy h) K := rfl
def L18_16 : List AStep := ⟨.faddr 1 (.t 5), (some 28), none, []⟩ :: ⟨.load 1 false (.t 28), (some 29), none, []⟩ :: L18_15
theorem v18_16 : wpS P L18_16 T L (rdy h) K = wpS P (⟨.faddr 1 (.t 5), (some 28), none, []⟩ :: ⟨.load 1 false (.t 28), (some 29), none, []⟩ :: L18_15) T L (rdy h) K := rfl
def L18_17 : List AStep := ⟨.mov (.t 6), (some 26), none, []⟩ :: ⟨.mov (.t 0), (some 27), none, []⟩ :: L18_16
theorem v18_17 : wpS P L18_17 T L (rdy h) K = wpS P (⟨.mov (.t 6), (some 26), none, []⟩ :: ⟨.mov (.t 0), (some 27), none, []⟩ :: L18_16) T L (rdy h) K := rfl
def L18_18 : List AStep := ⟨.faddr 1 (.t 5), (some 24), none, []⟩ :: ⟨.load 1 false (.t 24), (some 25), none, []⟩ :: L18_17
theorem v18_18 : wpS P L18_18 T L (rdy h) K = wpS P (⟨.faddr 1 (.t 5), (some 24), none, []⟩ :: ⟨.load 1 false (.t 24), (some 25), none, []⟩ :: L18_17) T L (rdy h) K := rfl
def L18_19 : List AStep := [⟨.bin .add (.t 21) (.c (.int .i64 1)), (some 37), none, []⟩, ⟨.mov (.t 37), (some 21), none, []⟩]
theorem v18_19 : wpS P L18_19 T L (rdy h) K = wpS P ([⟨.bin .add (.t 21) (.c (.int .i64 1)), (some 37), none, []⟩, ⟨.mov (.t 37), (some 21), none, []⟩]) T L (rdy h) K := rfl
def L18_20 : List AStep := [⟨.load 2 true (.t 5), (some 38), none, []⟩, ⟨.store 2 (.t 4) (.t 38), none, none, []⟩]
theorem v18_20 : wpS P L18_20 T L (rdy h) K = wpS P ([⟨.load 2 true (.t 5), (some 38), none, []⟩, ⟨.store 2 (.t 4) (.t 38), none, none, []⟩]) T L (rdy h) K := rfl
def C18_0 : ACode := .seq (.reg L18_5) .ret
theorem u18_0 : wpC P C18_0 T L (rdy h) Q = wpC P (.seq (.reg L18_5) .ret) T L (rdy h) Q := rfl
def C18_1 : ACode := .cond (.t 14) C18_0 .skip
theorem u18_1 : wpC P C18_1 T L (rdy h) Q = wpC P (.cond (.t 14) C18_0 .skip) T L (rdy h) Q := rfl
def C18_2 : ACode := .seq (.reg L18_4) C18_1
theorem u18_2 : wpC P C18_2 T L (rdy h) Q = wpC P (.seq (.reg L18_4) C18_1) T L (rdy h) Q := rfl
def C18_3 : ACode := .cond (.t 22) .skip (.exit 0)
theorem u18_3 : wpC P C18_3 T L (rdy h) Q = wpC P (.cond (.t 22) .skip (.exit 0)) T L (rdy h) Q := rfl
def C18_4 : ACode := .seq (.reg L18_11) (.reg L18_18)
theorem u18_4 : wpC P C18_4 T L (rdy h) Q = wpC P (.seq (.reg L18_11) (.reg L18_18)) T L (rdy h) Q := rfl
def C18_5 : ACode := .block 1 C18_4
theorem u18_5 : wpC P C18_5 T L (rdy h) Q = wpC P (.block 1 C18_4) T L (rdy h) Q := rfl
def C18_6 : ACode := .seq C18_5 (.reg L18_19)
theorem u18_6 : wpC P C18_6 T L (rdy h) Q = wpC P (.seq C18_5 (.reg L18_19)) T L (rdy h) Q := rfl
def C18_7 : ACode := .seq C18_3 C18_6
theorem u18_7 : wpC P C18_7 T L (rdy h) Q = wpC P (.seq C18_3 C18_6) T L (rdy h) Q := rfl
def C18_8 : ACode := .seq (.reg L18_10) C18_7
theorem u18_8 : wpC P C18_8 T L (rdy h) Q = wpC P (.seq (.reg L18_10) C18_7) T L (rdy h) Q := rfl
def C18_9 : ACode := .block 0 (.loop C18_8)
theorem u18_9 : wpC P C18_9 T L (rdy h) Q = wpC P (.block 0 (.loop C18_8)) T L (rdy h) Q := rfl
def C18_10 : ACode := .seq (.reg L18_9) C18_9
theorem u18_10 : wpC P C18_10 T L (rdy h) Q = wpC P (.seq (.reg L18_9) C18_9) T L (rdy h) Q := rfl
def C18_11 : ACode := .seq (.reg L18_20) .ret
theorem u18_11 : wpC P C18_11 T L (rdy h) Q = wpC P (.seq (.reg L18_20) .ret) T L (rdy h) Q := rfl
def C18_12 : ACode := .seq C18_10 C18_11
theorem u18_12 : wpC P C18_12 T L (rdy h) Q = wpC P (.seq C18_10 C18_11) T L (rdy h) Q := rfl
def C18_13 : ACode := .seq (.reg L18_7) C18_12
theorem u18_13 : wpC P C18_13 T L (rdy h) Q = wpC P (.seq (.reg L18_7) C18_12) T L (rdy h) Q := rfl
def C18_14 : ACode := .seq C18_2 C18_13
theorem u18_14 : wpC P C18_14 T L (rdy h) Q = wpC P (.seq C18_2 C18_13) T L (rdy h) Q := rfl
def C18_15 : ACode := .seq (.reg L18_0) C18_14
theorem u18_15 : wpC P C18_15 T L (rdy h) Q = wpC P (.seq (.reg L18_0) C18_14) T L (rdy h) Q := rfl
def F18 : AFunc := ⟨39, [.cell 4 2 true], C18_15⟩
theorem cF18 : compB Try.prog 18 = some F18 := by kernel_rfl
end
attribute [local go_sem ↓] u18_0 u18_1 u18_2 u18_3 u18_4 u18_5 u18_6 u18_7 u18_8 u18_9 u18_10 u18_11 u18_12 u18_13 u18_14 u18_15 v18_0 v18_1 v18_2 v18_3 v18_4 v18_5 v18_6 v18_7 v18_8 v18_9 v18_10 v18_11 v18_12 v18_13 v18_14 v18_15 v18_16 v18_17 v18_18 v18_19 v18_20
theorem k_iTurnFlat (l : List Turn) (x : Flat) (u p n : CV) (h : H) (hl : SlU h u l) (hx : SlF h p n x) (hn : miniU l) (hm : miniF x) :
    callK (bm Try.prog 18 [.one u, .agg [p, n]] h) fun r h' => Grow h h' ∧ ∃ p' n', r = .agg [p', n'] ∧ NwF h h' p' n' (turnFlat l x) := by
  refine bm_of cF18 ?_
  unfold turnFlat
  cases h1 : okTurns l with
  | false =>
    simp +contextual (maxSteps := 2000000) only [go_sem, Nat.reduceEqDiff, reduceCtorEq, Nat.reduceAdd, Nat.reduceLeDiff, F18, c_ValidTurns _ _ _ hl.out hn, h1, false_and, if_false]
    exact ⟨Grow.refl h, _, _, rfl, .nil⟩
  | true =>
  cases h2 : okFlat x with
  | false =>
    simp +contextual (maxSteps := 2000000) only [go_sem, Nat.reduceEqDiff, reduceCtorEq, Nat.reduceAdd, Nat.reduceLeDiff, F18, c_ValidTurns _ _ _ hl.out hn, h1, c_ValidFlat _ _ _ _ hx.pl hx.nl hm.sm, h2, and_false, if_false]
    exact ⟨Grow.refl h, _, _, rfl, .nil⟩
  | true =>
  simp +contextual (maxSteps := 2000000) only [go_sem, Nat.reduceEqDiff, reduceCtorEq, Nat.reduceAdd, Nat.reduceLeDiff, F18, c_ValidTurns _ _ _ hl.out hn, h1, c_ValidFlat _ _ _ _ hx.pl hx.nl hm.sm, h2, and_self, if_true]
  refine wp_call (c_copyOfF x p n h hx hm.sm) ?_
  rintro r h1 ⟨g1, c, d, rfl, n1⟩
  simp +contextual (maxSteps := 2000000) only [go_sem, Nat.reduceEqDiff, reduceCtorEq, Nat.reduceAdd, Nat.reduceLeDiff, n1.nl.length]
  refine wpC_loop (fun i T L h' => Grow h h' ∧ T 0 = .v (.one u) ∧ T 4 = .lp 4 0 ∧ (L 4).2 = [.sl none 0 (some 0), .sl none 0 (some 0)] ∧ T 5 = .lp 5 0 ∧ (L 5).2 = [c, d] ∧ T 20 = .v (.one (.int .i64 x.nl.length)) ∧ T 21 = .v (.one (.int .i64 i)) ∧ NwI h h' (.one c) x.pl ∧ NwP h h' (.one d) (mapT (turnP l) x.nl i)) x.nl.length ?_ ?_ (Nat.zero_le _) ?_
  · rintro i T L h' hi ⟨g, t0, t4, l4, t5, l5, t20, t21, pl, no⟩
    have hlen : (mapT (turnP l) x.nl i).length = x.nl.length := mapT_len (by omega)
    have hio : i < (mapT (turnP l) x.nl i).length := by omega
    have hf := (no.sl lenP).fieldO (off := 0) hio (by omega)
    rw [mapT_at hi hio] at hf
    simp +contextual (maxSteps := 2000000) only [go_sem, Nat.reduceEqDiff, reduceCtorEq, Nat.reduceAdd, Nat.reduceLeDiff, t0, t4, l4, t5, l5, t20, t21, no.iaddr hio, hf, lt_true hi, c_turn _ _ _ _ (hl.out.grow g) hn.lt]
    refine wp_set (x := turnP l x.nl[i]) (off := 0) (vs := [.str (turned l x.nl[i].name)]) lenP no hio rfl (by rw [mapT_at hi hio]; rfl) (Nat.le_of_ble_eq_true rfl) g ?_
    intro h2 g2 n2 s2
    simp +contextual (maxSteps := 2000000) only [go_sem, Nat.reduceEqDiff, reduceCtorEq, Nat.reduceAdd, Nat.reduceLeDiff, t0, t4, l4, t5, l5, t20, t21]
    rw [mapT_set hi] at n2
    exact ⟨g2, by rw [wrap_next hi (Nat.lt_of_le_of_lt hm.nl (by decide))], pl.stay s2 n1.sep, n2⟩
  · rintro T L h' ⟨g, t0, t4, l4, t5, l5, t20, t21, pl, no⟩
    rw [mapT_all] at no
    simp +contextual (maxSteps := 2000000) only [go_sem, Nat.reduceEqDiff, reduceCtorEq, Nat.reduceAdd, Nat.reduceLeDiff, t0, t4, l4, t5, l5, t20, t21, lt_false]
    have z : NwF h h' c d ⟨x.pl, x.nl.map (turnP l)⟩ := ⟨pl, no, n1.sep⟩
    exact gcK_of ⟨g, _, _, rfl, z⟩ (fun hs _ => ⟨Grow.refl h, _, _, rfl, z.scalar hs h⟩)
  · simp +contextual (maxSteps := 2000000) only [go_sem, Nat.reduceEqDiff, reduceCtorEq, Nat.reduceAdd, Nat.reduceLeDiff]
    exact ⟨g1, rfl, n1.pl, by rw [mapT_zero]; exact n1.nl⟩
end Go.Proofs.Ytcbnihbilmlokaa.Am
