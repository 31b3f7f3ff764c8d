/- Contracts: turns, of both sides. -/
import Derived.Test.YtnphlonhogcedaaA2
import Derived.Test.YtnphlonhogcedaaA3
import Derived.Test.YtnphlonhogcedaaA4
import Derived.Test.YtnphlonhogcedaaB1
import Derived.Test.YtnphlonhogcedaaB2
namespace Go.Proofs.Ytnphlonhogcedaa.Am
open Go
set_option maxRecDepth 100000
set_option maxHeartbeats 4000000
set_option linter.unusedSimpArgs false
set_option linter.unusedVariables false
attribute [local go_sem ↓] bv_t bv_c ev_t ev_c put_same put_ne put_none kill_at pro_at lb_same lb_ne start_zero start_succ wpC_seq wpC_reg wpC_cond wpC_block wpC_skip wpC_exit wpC_ret thenQ_normal thenQ_exit thenQ_ret inBlk_normal inBlk_exit inBlk_ret wpS_nil wpS_step wpS_again wpS_guard wpO_mov wpO_load wpO_faddr wpO_nilCheck wpO_pick wpO_build wpO_bin wpO_eqb wpO_eqst wpO_eqnil wpO_not wpO_conv wpO_bytesStr wpO_iaddr wpO_idxStr wpO_field wpO_extract wpO_len wpO_lenStr wpO_cap wpO_min wpO_slice wpO_sliceStr wpO_alloc wpO_box wpO_store wpO_call wpO_callv wpO_mkfn wpO_buildSlice wpO_mkslice wpO_append wpO_appz proA_nil proA_cons tmpX_nil tmpX_tmp tmpX_cell doneB_normal doneB_ret agK_cons agK_nil pureB_load results_one results_two results_nil resBs_cons resBs_nil resB_tmp resB_cell
attribute [local go_sem] kill_v kill_lp_ne kill_lp_same pro_v pro_lp_same pro_lp_ne av_v av_lp optB_some optX_some valX_eq ldX_lp ldX_v faX_lp faX_v ncX_lp ncX_ptr ncX_fn boxK_one boxK_agg stL_some stK_lp_one stK_lp_agg stK_v_one stK_v_agg proM_v proM_lp callG_mk callVG_mk callvK_fn fnG_mk ptrsA_nil ptrsA_cons callH_some whenA_true whenA_false guardH_tt guardH_ff guardH_tf guardH_ft guardH_undef agV_one agV_agg lenO_sl lenStrO_str notO_bool pickO_bool convO_int eqbO_bool eqnilO_sl extractO_tup capO_sl minO_int loadL_one loadL_all storeL_eq fillA_nil fillA_one fillA_agg nat_ge neg_ge nat_lt neg_lt buildO bin_add bin_sub bin_mul bin_eql bin_neq bin_lss bin_leq bin_gtr bin_geq str_eql str_neq str_lss str_leq str_gtr str_geq retK_some endK_mk gcK_same gcK_int gcK_bool tupO_one tupO_agg rdy_self ib ii Option.map_none Option.map_some Option.some.injEq exists_eq_left' exists_eq_left ne_eq not_false_eq_true if_true if_false List.map_cons List.map_nil List.getElem?_cons_zero List.getElem?_cons_succ List.length_cons List.length_nil List.take_succ_cons List.take_zero List.take_nil List.drop_succ_cons List.drop_zero List.drop_nil List.cons_append List.nil_append List.append_nil List.set_cons_zero List.set_cons_succ Nat.zero_add forall_const true_and and_true and_self Bool.false_eq_true false_implies true_implies implies_true Bool.not_true Bool.not_false Bool.not_eq_true' Bool.not_eq_false' beq_self_eq_true Bool.bne_true Bool.bne_false
attribute [local go_sem] lenI lenS lenP lenQ lenB lenL lenT encI_0 encS_0 encP_0 encP_1 encQ_0 encQ_1 encQ_2 encQ_3 encB_0 encB_1 encL_0 encL_1 encT_0 encT_1
attribute [local go_sem low] whenA_bool guardH_bool
section
variable {P : Program} {T : Tb} {L : Lb} {h : H} {Q : PostC} {K : Post}
/-! spec.turnAt -/
def L202_0 : List AStep := [⟨.mov (.c (.int .i64 0)), (some 4), none, []⟩]
theorem v202_0 : wpS P L202_0 T L (rdy h) K = wpS P ([⟨.mov (.c (.int .i64 0)), (some 4), none, []⟩]) T L (rdy h) K := rfl
def L202_1 : List AStep := [⟨.mov (.c (.int .i64 0)), (some 5), none, []⟩]
theorem v202_1 : wpS P L202_1 T L (rdy h) K = wpS P ([⟨.mov (.c (.int .i64 0)), (some 5), none, []⟩]) T L (rdy h) K := rfl
def L202_2 : List AStep := [⟨.len (.t 7), (some 8), none, []⟩, ⟨.bin .lss (.t 6) (.t 8), (some 9), none, []⟩]
theorem v202_2 : wpS P L202_2 T L (rdy h) K = wpS P ([⟨.len (.t 7), (some 8), none, []⟩, ⟨.bin .lss (.t 6) (.t 8), (some 9), none, []⟩]) T L (rdy h) K := rfl
def L202_3 : List AStep := ⟨.mov (.t 5), (some 6), none, []⟩ :: ⟨.mov (.t 0), (some 7), none, []⟩ :: L202_2
theorem v202_3 : wpS P L202_3 T L (rdy h) K = wpS P (⟨.mov (.t 5), (some 6), none, []⟩ :: ⟨.mov (.t 0), (some 7), none, []⟩ :: L202_2) T L (rdy h) K := rfl
def L202_4 : List AStep := [⟨.bin .eql (.t 16) (.t 17), (some 18), none, []⟩]
theorem v202_4 : wpS P L202_4 T L (rdy h) K = wpS P ([⟨.bin .eql (.t 16) (.t 17), (some 18), none, []⟩]) T L (rdy h) K := rfl
def L202_5 : List AStep := ⟨.load 1 false (.t 15), (some 16), none, []⟩ :: ⟨.mov (.t 1), (some 17), none, []⟩ :: L202_4
theorem v202_5 : wpS P L202_5 T L (rdy h) K = wpS P (⟨.load 1 false (.t 15), (some 16), none, []⟩ :: ⟨.mov (.t 1), (some 17), none, []⟩ :: L202_4) T L (rdy h) K := rfl
def L202_6 : List AStep := ⟨.iaddr 2 (.t 12) (.t 13), (some 14), none, []⟩ :: ⟨.faddr 0 (.t 14), (some 15), none, []⟩ :: L202_5
theorem v202_6 : wpS P L202_6 T L (rdy h) K = wpS P (⟨.iaddr 2 (.t 12) (.t 13), (some 14), none, []⟩ :: ⟨.faddr 0 (.t 14), (some 15), none, []⟩ :: L202_5) T L (rdy h) K := rfl
def L202_7 : List AStep := ⟨.mov (.t 0), (some 12), none, []⟩ :: ⟨.mov (.t 5), (some 13), none, []⟩ :: L202_6
theorem v202_7 : wpS P L202_7 T L (rdy h) K = wpS P (⟨.mov (.t 0), (some 12), none, []⟩ :: ⟨.mov (.t 5), (some 13), none, []⟩ :: L202_6) T L (rdy h) K := rfl
def L202_8 : List AStep := [⟨.mov (.t 5), (some 19), none, []⟩, ⟨.mov (.t 19), (some 4), none, []⟩]
theorem v202_8 : wpS P L202_8 T L (rdy h) K = wpS P ([⟨.mov (.t 5), (some 19), none, []⟩, ⟨.mov (.t 19), (some 4), none, []⟩]) T L (rdy h) K := rfl
def L202_9 : List AStep := [⟨.mov (.t 11), (some 5), none, []⟩]
theorem v202_9 : wpS P L202_9 T L (rdy h) K = wpS P ([⟨.mov (.t 11), (some 5), none, []⟩]) T L (rdy h) K := rfl
def L202_10 : List AStep := ⟨.mov (.t 5), (some 10), none, []⟩ :: ⟨.bin .add (.t 10) (.c (.int .i64 1)), (some 11), none, []⟩ :: L202_9
theorem v202_10 : wpS P L202_10 T L (rdy h) K = wpS P (⟨.mov (.t 5), (some 10), none, []⟩ :: ⟨.bin .add (.t 10) (.c (.int .i64 1)), (some 11), none, []⟩ :: L202_9) T L (rdy h) K := rfl
def L202_11 : List AStep := [⟨.mov (.c (.int .i64 (-1))), (some 4), none, []⟩]
theorem v202_11 : wpS P L202_11 T L (rdy h) K = wpS P ([⟨.mov (.c (.int .i64 (-1))), (some 4), none, []⟩]) T L (rdy h) K := rfl
def C202_0 : ACode := .cond (.t 9) .skip (.exit 0)
theorem u202_0 : wpC P C202_0 T L (rdy h) Q = wpC P (.cond (.t 9) .skip (.exit 0)) T L (rdy h) Q := rfl
def C202_1 : ACode := .seq (.reg L202_3) C202_0
theorem u202_1 : wpC P C202_1 T L (rdy h) Q = wpC P (.seq (.reg L202_3) C202_0) T L (rdy h) Q := rfl
def C202_2 : ACode := .seq (.reg L202_8) .ret
theorem u202_2 : wpC P C202_2 T L (rdy h) Q = wpC P (.seq (.reg L202_8) .ret) T L (rdy h) Q := rfl
def C202_3 : ACode := .cond (.t 18) C202_2 .skip
theorem u202_3 : wpC P C202_3 T L (rdy h) Q = wpC P (.cond (.t 18) C202_2 .skip) T L (rdy h) Q := rfl
def C202_4 : ACode := .seq (.reg L202_7) C202_3
theorem u202_4 : wpC P C202_4 T L (rdy h) Q = wpC P (.seq (.reg L202_7) C202_3) T L (rdy h) Q := rfl
def C202_5 : ACode := .block 1 C202_4
theorem u202_5 : wpC P C202_5 T L (rdy h) Q = wpC P (.block 1 C202_4) T L (rdy h) Q := rfl
def C202_6 : ACode := .seq C202_5 (.reg L202_10)
theorem u202_6 : wpC P C202_6 T L (rdy h) Q = wpC P (.seq C202_5 (.reg L202_10)) T L (rdy h) Q := rfl
def C202_7 : ACode := .seq C202_1 C202_6
theorem u202_7 : wpC P C202_7 T L (rdy h) Q = wpC P (.seq C202_1 C202_6) T L (rdy h) Q := rfl
def C202_8 : ACode := .block 0 (.loop C202_7)
theorem u202_8 : wpC P C202_8 T L (rdy h) Q = wpC P (.block 0 (.loop C202_7)) T L (rdy h) Q := rfl
def C202_9 : ACode := .seq (.reg L202_1) C202_8
theorem u202_9 : wpC P C202_9 T L (rdy h) Q = wpC P (.seq (.reg L202_1) C202_8) T L (rdy h) Q := rfl
def C202_10 : ACode := .seq (.reg L202_11) .ret
theorem u202_10 : wpC P C202_10 T L (rdy h) Q = wpC P (.seq (.reg L202_11) .ret) T L (rdy h) Q := rfl
def C202_11 : ACode := .seq C202_9 C202_10
theorem u202_11 : wpC P C202_11 T L (rdy h) Q = wpC P (.seq C202_9 C202_10) T L (rdy h) Q := rfl
def C202_12 : ACode := .seq (.reg L202_0) C202_11
theorem u202_12 : wpC P C202_12 T L (rdy h) Q = wpC P (.seq (.reg L202_0) C202_11) T L (rdy h) Q := rfl
def F202 : AFunc := ⟨20, [.tmp 4], C202_12⟩
theorem cF202 : compB Try.prog 202 = some F202 := by kernel_rfl
end
attribute [local go_sem ↓] u202_0 u202_1 u202_2 u202_3 u202_4 u202_5 u202_6 u202_7 u202_8 u202_9 u202_10 u202_11 u202_12 v202_0 v202_1 v202_2 v202_3 v202_4 v202_5 v202_6 v202_7 v202_8 v202_9 v202_10 v202_11
theorem c_turnAt (l : List Turn) (v : AV) (s : ByteArray) (h : H) (hl : SlT h v l) (hn : l.length < 2 ^ 62) : bm Try.prog 202 [v, .one (.str s)] h = some (ii (turnAt l s), h) := by
  refine bm_eq cF202 ?_
  simp +contextual (maxSteps := 2000000) only [go_sem, Nat.reduceEqDiff, reduceCtorEq, Nat.reduceAdd, Nat.reduceLeDiff, F202]
  refine wpC_loop (fun i T L h' => h' = h ∧ T 0 = .v v ∧ T 1 = .v (.one (.str s)) ∧ T 5 = .v (.one (.int .i64 i)) ∧ Pre (fun p => decide (p.fr = s)) false l i) l.length ?_ ?_ (Nat.zero_le _) ?_
  · rintro i T L h' hi ⟨rfl, h0, h1, h3, hp⟩
    simp +contextual (maxSteps := 2000000) only [go_sem, Nat.reduceEqDiff, reduceCtorEq, Nat.reduceAdd, Nat.reduceLeDiff, h0, h1, h3, hl.len, hl.iaddr hi, hl.fieldO hi, lt_true hi]
    (repeat' (first | refine And.intro ?_ ?_ | intro _)) <;> first | rfl | rw [wrap_next hi hn] | exact hp.next hi ‹_› | rw [turnAt, idx_hit hi hp ‹_›]
  · rintro T L h' ⟨rfl, h0, h1, h3, hp⟩
    simp +contextual (maxSteps := 2000000) only [go_sem, Nat.reduceEqDiff, reduceCtorEq, Nat.reduceAdd, Nat.reduceLeDiff, h0, h1, h3, hl.len, lt_false, turnAt, idx_none hp]
  · simp +contextual (maxSteps := 2000000) only [go_sem, Nat.reduceEqDiff, reduceCtorEq, Nat.reduceAdd, Nat.reduceLeDiff]
    (repeat' (first | refine And.intro ?_ ?_ | intro _)) <;> first | rfl | exact Pre.zero
section
variable {P : Program} {T : Tb} {L : Lb} {h : H} {Q : PostC} {K : Post}
/-! spec.turned -/
def L139_0 : List AStep := [⟨.mov (.c (.str (strOfNums []))), (some 4), none, []⟩]
theorem v139_0 : wpS P L139_0 T L (rdy h) K = wpS P ([⟨.mov (.c (.str (strOfNums []))), (some 4), none, []⟩]) T L (rdy h) K := rfl
def L139_1 : List AStep := [⟨.call 202 [(.t 6), (.t 7)], (some 8), none, []⟩, ⟨.mov (.t 8), (some 5), none, []⟩]
theorem v139_1 : wpS P L139_1 T L (rdy h) K = wpS P ([⟨.call 202 [(.t 6), (.t 7)], (some 8), none, []⟩, ⟨.mov (.t 8), (some 5), none, []⟩]) T L (rdy h) K := rfl
def L139_2 : List AStep := ⟨.mov (.t 0), (some 6), none, []⟩ :: ⟨.mov (.t 1), (some 7), none, []⟩ :: L139_1
theorem v139_2 : wpS P L139_2 T L (rdy h) K = wpS P (⟨.mov (.t 0), (some 6), none, []⟩ :: ⟨.mov (.t 1), (some 7), none, []⟩ :: L139_1) T L (rdy h) K := rfl
def L139_3 : List AStep := [⟨.mov (.t 5), (some 9), none, []⟩, ⟨.bin .geq (.t 9) (.c (.int .i64 0)), (some 10), none, []⟩]
theorem v139_3 : wpS P L139_3 T L (rdy h) K = wpS P ([⟨.mov (.t 5), (some 9), none, []⟩, ⟨.bin .geq (.t 9) (.c (.int .i64 0)), (some 10), none, []⟩]) T L (rdy h) K := rfl
def L139_4 : List AStep := [⟨.load 1 false (.t 14), (some 15), none, []⟩, ⟨.mov (.t 15), (some 4), none, []⟩]
theorem v139_4 : wpS P L139_4 T L (rdy h) K = wpS P ([⟨.load 1 false (.t 14), (some 15), none, []⟩, ⟨.mov (.t 15), (some 4), none, []⟩]) T L (rdy h) K := rfl
def L139_5 : List AStep := ⟨.iaddr 2 (.t 11) (.t 12), (some 13), none, []⟩ :: ⟨.faddr 1 (.t 13), (some 14), none, []⟩ :: L139_4
theorem v139_5 : wpS P L139_5 T L (rdy h) K = wpS P (⟨.iaddr 2 (.t 11) (.t 12), (some 13), none, []⟩ :: ⟨.faddr 1 (.t 13), (some 14), none, []⟩ :: L139_4) T L (rdy h) K := rfl
def L139_6 : List AStep := ⟨.mov (.t 0), (some 11), none, []⟩ :: ⟨.mov (.t 5), (some 12), none, []⟩ :: L139_5
theorem v139_6 : wpS P L139_6 T L (rdy h) K = wpS P (⟨.mov (.t 0), (some 11), none, []⟩ :: ⟨.mov (.t 5), (some 12), none, []⟩ :: L139_5) T L (rdy h) K := rfl
def L139_7 : List AStep := [⟨.mov (.t 1), (some 16), none, []⟩, ⟨.mov (.t 16), (some 4), none, []⟩]
theorem v139_7 : wpS P L139_7 T L (rdy h) K = wpS P ([⟨.mov (.t 1), (some 16), none, []⟩, ⟨.mov (.t 16), (some 4), none, []⟩]) T L (rdy h) K := rfl
def C139_0 : ACode := .seq (.reg L139_6) .ret
theorem u139_0 : wpC P C139_0 T L (rdy h) Q = wpC P (.seq (.reg L139_6) .ret) T L (rdy h) Q := rfl
def C139_1 : ACode := .cond (.t 10) C139_0 .skip
theorem u139_1 : wpC P C139_1 T L (rdy h) Q = wpC P (.cond (.t 10) C139_0 .skip) T L (rdy h) Q := rfl
def C139_2 : ACode := .seq (.reg L139_3) C139_1
theorem u139_2 : wpC P C139_2 T L (rdy h) Q = wpC P (.seq (.reg L139_3) C139_1) T L (rdy h) Q := rfl
def C139_3 : ACode := .seq (.reg L139_7) .ret
theorem u139_3 : wpC P C139_3 T L (rdy h) Q = wpC P (.seq (.reg L139_7) .ret) T L (rdy h) Q := rfl
def C139_4 : ACode := .seq C139_2 C139_3
theorem u139_4 : wpC P C139_4 T L (rdy h) Q = wpC P (.seq C139_2 C139_3) T L (rdy h) Q := rfl
def C139_5 : ACode := .seq (.reg L139_2) C139_4
theorem u139_5 : wpC P C139_5 T L (rdy h) Q = wpC P (.seq (.reg L139_2) C139_4) T L (rdy h) Q := rfl
def C139_6 : ACode := .seq (.reg L139_0) C139_5
theorem u139_6 : wpC P C139_6 T L (rdy h) Q = wpC P (.seq (.reg L139_0) C139_5) T L (rdy h) Q := rfl
def F139 : AFunc := ⟨17, [.tmp 4], C139_6⟩
theorem cF139 : compB Try.prog 139 = some F139 := by kernel_rfl
end
attribute [local go_sem ↓] u139_0 u139_1 u139_2 u139_3 u139_4 u139_5 u139_6 v139_0 v139_1 v139_2 v139_3 v139_4 v139_5 v139_6 v139_7
theorem c_turned (l : List Turn) (v : AV) (s : ByteArray) (h : H) (hl : SlT h v l) (hn : l.length < 2 ^ 62) : bm Try.prog 139 [v, .one (.str s)] h = some (.one (.str (turned l s)), h) := by
  refine bm_eq cF139 ?_
  rcases idx_cases (fun p : Turn => decide (p.fr = s)) l with e | ⟨j, hj, e, _⟩ <;> (replace e := (show turnAt l s = _ from e))
  · simp +contextual (maxSteps := 2000000) only [go_sem, Nat.reduceEqDiff, reduceCtorEq, Nat.reduceAdd, Nat.reduceLeDiff, F139, c_turnAt _ _ _ _ hl hn, e, turned_none e]
  · simp +contextual (maxSteps := 2000000) only [go_sem, Nat.reduceEqDiff, reduceCtorEq, Nat.reduceAdd, Nat.reduceLeDiff, F139, c_turnAt _ _ _ _ hl hn, e, turned_some hj e, hl.iaddr hj, hl.fieldO hj]
section
variable {P : Program} {T : Tb} {L : Lb} {h : H} {Q : PostC} {K : Post}
/-! spec.validTurns -/
def L138_0 : List AStep := [⟨.mov (.c (.bool false)), (some 2), none, []⟩]
theorem v138_0 : wpS P L138_0 T L (rdy h) K = wpS P ([⟨.mov (.c (.bool false)), (some 2), none, []⟩]) T L (rdy h) K := rfl
def L138_1 : List AStep := [⟨.mov (.c (.int .i64 0)), (some 3), none, []⟩]
theorem v138_1 : wpS P L138_1 T L (rdy h) K = wpS P ([⟨.mov (.c (.int .i64 0)), (some 3), none, []⟩]) T L (rdy h) K := rfl
def L138_2 : List AStep := [⟨.len (.t 6), (some 7), none, []⟩, ⟨.bin .lss (.t 5) (.t 7), (some 8), none, []⟩]
theorem v138_2 : wpS P L138_2 T L (rdy h) K = wpS P ([⟨.len (.t 6), (some 7), none, []⟩, ⟨.bin .lss (.t 5) (.t 7), (some 8), none, []⟩]) T L (rdy h) K := rfl
def L138_3 : List AStep := ⟨.mov (.t 3), (some 5), none, []⟩ :: ⟨.mov (.t 0), (some 6), none, []⟩ :: L138_2
theorem v138_3 : wpS P L138_3 T L (rdy h) K = wpS P (⟨.mov (.t 3), (some 5), none, []⟩ :: ⟨.mov (.t 0), (some 6), none, []⟩ :: L138_2) T L (rdy h) K := rfl
def L138_4 : List AStep := [⟨.pick (.t 28) (.c (.bool true)) (.t 38), (some 39), none, []⟩]
theorem v138_4 : wpS P L138_4 T L (rdy h) K = wpS P ([⟨.pick (.t 28) (.c (.bool true)) (.t 38), (some 39), none, []⟩]) T L (rdy h) K := rfl
def L138_5 : List AStep := ⟨.call 202 [(.t 31), (.t 36)], (some 37), (some (28, false)), []⟩ :: ⟨.bin .geq (.t 37) (.c (.int .i64 0)), (some 38), (some (28, false)), []⟩ :: L138_4
theorem v138_5 : wpS P L138_5 T L (rdy h) K = wpS P (⟨.call 202 [(.t 31), (.t 36)], (some 37), (some (28, false)), []⟩ :: ⟨.bin .geq (.t 37) (.c (.int .i64 0)), (some 38), (some (28, false)), []⟩ :: L138_4) T L (rdy h) K := rfl
def L138_6 : List AStep := ⟨.faddr 0 (.t 34), (some 35), (some (28, false)), []⟩ :: ⟨.load 1 false (.t 35), (some 36), (some (28, false)), []⟩ :: L138_5
theorem v138_6 : wpS P L138_6 T L (rdy h) K = wpS P (⟨.faddr 0 (.t 34), (some 35), (some (28, false)), []⟩ :: ⟨.load 1 false (.t 35), (some 36), (some (28, false)), []⟩ :: L138_5) T L (rdy h) K := rfl
def L138_7 : List AStep := ⟨.mov (.t 3), (some 33), (some (28, false)), []⟩ :: ⟨.iaddr 2 (.t 32) (.t 33), (some 34), (some (28, false)), []⟩ :: L138_6
theorem v138_7 : wpS P L138_7 T L (rdy h) K = wpS P (⟨.mov (.t 3), (some 33), (some (28, false)), []⟩ :: ⟨.iaddr 2 (.t 32) (.t 33), (some 34), (some (28, false)), []⟩ :: L138_6) T L (rdy h) K := rfl
def L138_8 : List AStep := ⟨.slice 165 2 (.t 29) none (some (.t 30)) none, (some 31), (some (28, false)), []⟩ :: ⟨.mov (.t 0), (some 32), (some (28, false)), []⟩ :: L138_7
theorem v138_8 : wpS P L138_8 T L (rdy h) K = wpS P (⟨.slice 165 2 (.t 29) none (some (.t 30)) none, (some 31), (some (28, false)), []⟩ :: ⟨.mov (.t 0), (some 32), (some (28, false)), []⟩ :: L138_7) T L (rdy h) K := rfl
def L138_9 : List AStep := ⟨.mov (.t 0), (some 29), (some (28, false)), []⟩ :: ⟨.mov (.t 3), (some 30), (some (28, false)), []⟩ :: L138_8
theorem v138_9 : wpS P L138_9 T L (rdy h) K = wpS P (⟨.mov (.t 0), (some 29), (some (28, false)), []⟩ :: ⟨.mov (.t 3), (some 30), (some (28, false)), []⟩ :: L138_8) T L (rdy h) K := rfl
def L138_10 : List AStep := ⟨.pick (.t 18) (.c (.bool true)) (.t 26), (some 27), none, []⟩ :: ⟨.mov (.t 27), (some 28), none, []⟩ :: L138_9
theorem v138_10 : wpS P L138_10 T L (rdy h) K = wpS P (⟨.pick (.t 18) (.c (.bool true)) (.t 26), (some 27), none, []⟩ :: ⟨.mov (.t 27), (some 28), none, []⟩ :: L138_9) T L (rdy h) K := rfl
def L138_11 : List AStep := ⟨.call 202 [(.t 19), (.t 24)], (some 25), (some (18, false)), []⟩ :: ⟨.bin .lss (.t 25) (.c (.int .i64 0)), (some 26), (some (18, false)), []⟩ :: L138_10
theorem v138_11 : wpS P L138_11 T L (rdy h) K = wpS P (⟨.call 202 [(.t 19), (.t 24)], (some 25), (some (18, false)), []⟩ :: ⟨.bin .lss (.t 25) (.c (.int .i64 0)), (some 26), (some (18, false)), []⟩ :: L138_10) T L (rdy h) K := rfl
def L138_12 : List AStep := ⟨.faddr 1 (.t 22), (some 23), (some (18, false)), []⟩ :: ⟨.load 1 false (.t 23), (some 24), (some (18, false)), []⟩ :: L138_11
theorem v138_12 : wpS P L138_12 T L (rdy h) K = wpS P (⟨.faddr 1 (.t 22), (some 23), (some (18, false)), []⟩ :: ⟨.load 1 false (.t 23), (some 24), (some (18, false)), []⟩ :: L138_11) T L (rdy h) K := rfl
def L138_13 : List AStep := ⟨.mov (.t 3), (some 21), (some (18, false)), []⟩ :: ⟨.iaddr 2 (.t 20) (.t 21), (some 22), (some (18, false)), []⟩ :: L138_12
theorem v138_13 : wpS P L138_13 T L (rdy h) K = wpS P (⟨.mov (.t 3), (some 21), (some (18, false)), []⟩ :: ⟨.iaddr 2 (.t 20) (.t 21), (some 22), (some (18, false)), []⟩ :: L138_12) T L (rdy h) K := rfl
def L138_14 : List AStep := ⟨.mov (.t 0), (some 19), (some (18, false)), []⟩ :: ⟨.mov (.t 0), (some 20), (some (18, false)), []⟩ :: L138_13
theorem v138_14 : wpS P L138_14 T L (rdy h) K = wpS P (⟨.mov (.t 0), (some 19), (some (18, false)), []⟩ :: ⟨.mov (.t 0), (some 20), (some (18, false)), []⟩ :: L138_13) T L (rdy h) K := rfl
def L138_15 : List AStep := ⟨.not (.t 16), (some 17), none, []⟩ :: ⟨.mov (.t 17), (some 18), none, []⟩ :: L138_14
theorem v138_15 : wpS P L138_15 T L (rdy h) K = wpS P (⟨.not (.t 16), (some 17), none, []⟩ :: ⟨.mov (.t 17), (some 18), none, []⟩ :: L138_14) T L (rdy h) K := rfl
def L138_16 : List AStep := ⟨.load 1 false (.t 14), (some 15), none, []⟩ :: ⟨.call 201 [(.t 15)], (some 16), none, []⟩ :: L138_15
theorem v138_16 : wpS P L138_16 T L (rdy h) K = wpS P (⟨.load 1 false (.t 14), (some 15), none, []⟩ :: ⟨.call 201 [(.t 15)], (some 16), none, []⟩ :: L138_15) T L (rdy h) K := rfl
def L138_17 : List AStep := ⟨.iaddr 2 (.t 11) (.t 12), (some 13), none, []⟩ :: ⟨.faddr 0 (.t 13), (some 14), none, []⟩ :: L138_16
theorem v138_17 : wpS P L138_17 T L (rdy h) K = wpS P (⟨.iaddr 2 (.t 11) (.t 12), (some 13), none, []⟩ :: ⟨.faddr 0 (.t 13), (some 14), none, []⟩ :: L138_16) T L (rdy h) K := rfl
def L138_18 : List AStep := ⟨.mov (.t 0), (some 11), none, []⟩ :: ⟨.mov (.t 3), (some 12), none, []⟩ :: L138_17
theorem v138_18 : wpS P L138_18 T L (rdy h) K = wpS P (⟨.mov (.t 0), (some 11), none, []⟩ :: ⟨.mov (.t 3), (some 12), none, []⟩ :: L138_17) T L (rdy h) K := rfl
def L138_19 : List AStep := [⟨.mov (.c (.bool false)), (some 2), none, []⟩]
theorem v138_19 : wpS P L138_19 T L (rdy h) K = wpS P ([⟨.mov (.c (.bool false)), (some 2), none, []⟩]) T L (rdy h) K := rfl
def L138_20 : List AStep := [⟨.mov (.c (.int .i64 0)), (some 4), none, []⟩]
theorem v138_20 : wpS P L138_20 T L (rdy h) K = wpS P ([⟨.mov (.c (.int .i64 0)), (some 4), none, []⟩]) T L (rdy h) K := rfl
def L138_21 : List AStep := [⟨.bin .lss (.t 40) (.t 41), (some 42), none, []⟩]
theorem v138_21 : wpS P L138_21 T L (rdy h) K = wpS P ([⟨.bin .lss (.t 40) (.t 41), (some 42), none, []⟩]) T L (rdy h) K := rfl
def L138_22 : List AStep := ⟨.mov (.t 4), (some 40), none, []⟩ :: ⟨.mov (.t 3), (some 41), none, []⟩ :: L138_21
theorem v138_22 : wpS P L138_22 T L (rdy h) K = wpS P (⟨.mov (.t 4), (some 40), none, []⟩ :: ⟨.mov (.t 3), (some 41), none, []⟩ :: L138_21) T L (rdy h) K := rfl
def L138_23 : List AStep := [⟨.bin .eql (.t 49) (.t 54), (some 55), none, []⟩]
theorem v138_23 : wpS P L138_23 T L (rdy h) K = wpS P ([⟨.bin .eql (.t 49) (.t 54), (some 55), none, []⟩]) T L (rdy h) K := rfl
def L138_24 : List AStep := ⟨.faddr 1 (.t 52), (some 53), none, []⟩ :: ⟨.load 1 false (.t 53), (some 54), none, []⟩ :: L138_23
theorem v138_24 : wpS P L138_24 T L (rdy h) K = wpS P (⟨.faddr 1 (.t 52), (some 53), none, []⟩ :: ⟨.load 1 false (.t 53), (some 54), none, []⟩ :: L138_23) T L (rdy h) K := rfl
def L138_25 : List AStep := ⟨.mov (.t 3), (some 51), none, []⟩ :: ⟨.iaddr 2 (.t 50) (.t 51), (some 52), none, []⟩ :: L138_24
theorem v138_25 : wpS P L138_25 T L (rdy h) K = wpS P (⟨.mov (.t 3), (some 51), none, []⟩ :: ⟨.iaddr 2 (.t 50) (.t 51), (some 52), none, []⟩ :: L138_24) T L (rdy h) K := rfl
def L138_26 : List AStep := ⟨.load 1 false (.t 48), (some 49), none, []⟩ :: ⟨.mov (.t 0), (some 50), none, []⟩ :: L138_25
theorem v138_26 : wpS P L138_26 T L (rdy h) K = wpS P (⟨.load 1 false (.t 48), (some 49), none, []⟩ :: ⟨.mov (.t 0), (some 50), none, []⟩ :: L138_25) T L (rdy h) K := rfl
def L138_27 : List AStep := ⟨.iaddr 2 (.t 45) (.t 46), (some 47), none, []⟩ :: ⟨.faddr 1 (.t 47), (some 48), none, []⟩ :: L138_26
theorem v138_27 : wpS P L138_27 T L (rdy h) K = wpS P (⟨.iaddr 2 (.t 45) (.t 46), (some 47), none, []⟩ :: ⟨.faddr 1 (.t 47), (some 48), none, []⟩ :: L138_26) T L (rdy h) K := rfl
def L138_28 : List AStep := ⟨.mov (.t 0), (some 45), none, []⟩ :: ⟨.mov (.t 4), (some 46), none, []⟩ :: L138_27
theorem v138_28 : wpS P L138_28 T L (rdy h) K = wpS P (⟨.mov (.t 0), (some 45), none, []⟩ :: ⟨.mov (.t 4), (some 46), none, []⟩ :: L138_27) T L (rdy h) K := rfl
def L138_29 : List AStep := [⟨.mov (.c (.bool false)), (some 2), none, []⟩]
theorem v138_29 : wpS P L138_29 T L (rdy h) K = wpS P ([⟨.mov (.c (.bool false)), (some 2), none, []⟩]) T L (rdy h) K := rfl
def L138_30 : List AStep := [⟨.mov (.t 44), (some 4), none, []⟩]
theorem v138_30 : wpS P L138_30 T L (rdy h) K = wpS P ([⟨.mov (.t 44), (some 4), none, []⟩]) T L (rdy h) K := rfl
def L138_31 : List AStep := ⟨.mov (.t 4), (some 43), none, []⟩ :: ⟨.bin .add (.t 43) (.c (.int .i64 1)), (some 44), none, []⟩ :: L138_30
theorem v138_31 : wpS P L138_31 T L (rdy h) K = wpS P (⟨.mov (.t 4), (some 43), none, []⟩ :: ⟨.bin .add (.t 43) (.c (.int .i64 1)), (some 44), none, []⟩ :: L138_30) T L (rdy h) K := rfl
def L138_32 : List AStep := [⟨.mov (.t 10), (some 3), none, []⟩]
theorem v138_32 : wpS P L138_32 T L (rdy h) K = wpS P ([⟨.mov (.t 10), (some 3), none, []⟩]) T L (rdy h) K := rfl
def L138_33 : List AStep := ⟨.mov (.t 3), (some 9), none, []⟩ :: ⟨.bin .add (.t 9) (.c (.int .i64 1)), (some 10), none, []⟩ :: L138_32
theorem v138_33 : wpS P L138_33 T L (rdy h) K = wpS P (⟨.mov (.t 3), (some 9), none, []⟩ :: ⟨.bin .add (.t 9) (.c (.int .i64 1)), (some 10), none, []⟩ :: L138_32) T L (rdy h) K := rfl
def L138_34 : List AStep := [⟨.bin .leq (.t 57) (.c (.int .i64 8)), (some 58), none, []⟩, ⟨.mov (.t 58), (some 2), none, []⟩]
theorem v138_34 : wpS P L138_34 T L (rdy h) K = wpS P ([⟨.bin .leq (.t 57) (.c (.int .i64 8)), (some 58), none, []⟩, ⟨.mov (.t 58), (some 2), none, []⟩]) T L (rdy h) K := rfl
def L138_35 : List AStep := ⟨.mov (.t 0), (some 56), none, []⟩ :: ⟨.len (.t 56), (some 57), none, []⟩ :: L138_34
theorem v138_35 : wpS P L138_35 T L (rdy h) K = wpS P (⟨.mov (.t 0), (some 56), none, []⟩ :: ⟨.len (.t 56), (some 57), none, []⟩ :: L138_34) T L (rdy h) K := rfl
def C138_0 : ACode := .cond (.t 8) .skip (.exit 0)
theorem u138_0 : wpC P C138_0 T L (rdy h) Q = wpC P (.cond (.t 8) .skip (.exit 0)) T L (rdy h) Q := rfl
def C138_1 : ACode := .seq (.reg L138_3) C138_0
theorem u138_1 : wpC P C138_1 T L (rdy h) Q = wpC P (.seq (.reg L138_3) C138_0) T L (rdy h) Q := rfl
def C138_2 : ACode := .seq (.reg L138_19) .ret
theorem u138_2 : wpC P C138_2 T L (rdy h) Q = wpC P (.seq (.reg L138_19) .ret) T L (rdy h) Q := rfl
def C138_3 : ACode := .cond (.t 39) C138_2 .skip
theorem u138_3 : wpC P C138_3 T L (rdy h) Q = wpC P (.cond (.t 39) C138_2 .skip) T L (rdy h) Q := rfl
def C138_4 : ACode := .seq (.reg L138_18) C138_3
theorem u138_4 : wpC P C138_4 T L (rdy h) Q = wpC P (.seq (.reg L138_18) C138_3) T L (rdy h) Q := rfl
def C138_5 : ACode := .cond (.t 42) .skip (.exit 2)
theorem u138_5 : wpC P C138_5 T L (rdy h) Q = wpC P (.cond (.t 42) .skip (.exit 2)) T L (rdy h) Q := rfl
def C138_6 : ACode := .seq (.reg L138_22) C138_5
theorem u138_6 : wpC P C138_6 T L (rdy h) Q = wpC P (.seq (.reg L138_22) C138_5) T L (rdy h) Q := rfl
def C138_7 : ACode := .seq (.reg L138_29) .ret
theorem u138_7 : wpC P C138_7 T L (rdy h) Q = wpC P (.seq (.reg L138_29) .ret) T L (rdy h) Q := rfl
def C138_8 : ACode := .cond (.t 55) C138_7 .skip
theorem u138_8 : wpC P C138_8 T L (rdy h) Q = wpC P (.cond (.t 55) C138_7 .skip) T L (rdy h) Q := rfl
def C138_9 : ACode := .seq (.reg L138_28) C138_8
theorem u138_9 : wpC P C138_9 T L (rdy h) Q = wpC P (.seq (.reg L138_28) C138_8) T L (rdy h) Q := rfl
def C138_10 : ACode := .block 3 C138_9
theorem u138_10 : wpC P C138_10 T L (rdy h) Q = wpC P (.block 3 C138_9) T L (rdy h) Q := rfl
def C138_11 : ACode := .seq C138_10 (.reg L138_31)
theorem u138_11 : wpC P C138_11 T L (rdy h) Q = wpC P (.seq C138_10 (.reg L138_31)) T L (rdy h) Q := rfl
def C138_12 : ACode := .seq C138_6 C138_11
theorem u138_12 : wpC P C138_12 T L (rdy h) Q = wpC P (.seq C138_6 C138_11) T L (rdy h) Q := rfl
def C138_13 : ACode := .block 2 (.loop C138_12)
theorem u138_13 : wpC P C138_13 T L (rdy h) Q = wpC P (.block 2 (.loop C138_12)) T L (rdy h) Q := rfl
def C138_14 : ACode := .seq (.reg L138_20) C138_13
theorem u138_14 : wpC P C138_14 T L (rdy h) Q = wpC P (.seq (.reg L138_20) C138_13) T L (rdy h) Q := rfl
def C138_15 : ACode := .seq C138_4 C138_14
theorem u138_15 : wpC P C138_15 T L (rdy h) Q = wpC P (.seq C138_4 C138_14) T L (rdy h) Q := rfl
def C138_16 : ACode := .block 1 C138_15
theorem u138_16 : wpC P C138_16 T L (rdy h) Q = wpC P (.block 1 C138_15) T L (rdy h) Q := rfl
def C138_17 : ACode := .seq C138_16 (.reg L138_33)
theorem u138_17 : wpC P C138_17 T L (rdy h) Q = wpC P (.seq C138_16 (.reg L138_33)) T L (rdy h) Q := rfl
def C138_18 : ACode := .seq C138_1 C138_17
theorem u138_18 : wpC P C138_18 T L (rdy h) Q = wpC P (.seq C138_1 C138_17) T L (rdy h) Q := rfl
def C138_19 : ACode := .block 0 (.loop C138_18)
theorem u138_19 : wpC P C138_19 T L (rdy h) Q = wpC P (.block 0 (.loop C138_18)) T L (rdy h) Q := rfl
def C138_20 : ACode := .seq (.reg L138_1) C138_19
theorem u138_20 : wpC P C138_20 T L (rdy h) Q = wpC P (.seq (.reg L138_1) C138_19) T L (rdy h) Q := rfl
def C138_21 : ACode := .seq (.reg L138_35) .ret
theorem u138_21 : wpC P C138_21 T L (rdy h) Q = wpC P (.seq (.reg L138_35) .ret) T L (rdy h) Q := rfl
def C138_22 : ACode := .seq C138_20 C138_21
theorem u138_22 : wpC P C138_22 T L (rdy h) Q = wpC P (.seq C138_20 C138_21) T L (rdy h) Q := rfl
def C138_23 : ACode := .seq (.reg L138_0) C138_22
theorem u138_23 : wpC P C138_23 T L (rdy h) Q = wpC P (.seq (.reg L138_0) C138_22) T L (rdy h) Q := rfl
def F138 : AFunc := ⟨59, [.tmp 2], C138_23⟩
theorem cF138 : compB Try.prog 138 = some F138 := by kernel_rfl
end
attribute [local go_sem ↓] u138_0 u138_1 u138_2 u138_3 u138_4 u138_5 u138_6 u138_7 u138_8 u138_9 u138_10 u138_11 u138_12 u138_13 u138_14 u138_15 u138_16 u138_17 u138_18 u138_19 u138_20 u138_21 u138_22 u138_23 v138_0 v138_1 v138_2 v138_3 v138_4 v138_5 v138_6 v138_7 v138_8 v138_9 v138_10 v138_11 v138_12 v138_13 v138_14 v138_15 v138_16 v138_17 v138_18 v138_19 v138_20 v138_21 v138_22 v138_23 v138_24 v138_25 v138_26 v138_27 v138_28 v138_29 v138_30 v138_31 v138_32 v138_33 v138_34 v138_35
theorem c_validTurns (l : List Turn) (v : AV) (h : H) (hl : SlT h v l) (hn : miniU l) : bm Try.prog 138 [v] h = some (ib (okTurns l), h) := by
  refine bm_eq cF138 ?_
  simp +contextual (maxSteps := 2000000) only [go_sem, Nat.reduceEqDiff, reduceCtorEq, Nat.reduceAdd, Nat.reduceLeDiff, F138]
  refine wpC_loop (fun i T L h' => h' = h ∧ T 0 = .v v ∧ T 3 = .v (.one (.int .i64 i)) ∧ Upto (okTurnAt l) i) l.length ?_ ?_ (Nat.zero_le _) ?_
  · rintro i T L h' hi ⟨rfl, t0, t3, hu⟩
    obtain ⟨v', e1, s1⟩ := hl.takeO (i := i) (by omega) (kd := .i64)
    have e3 := okTurnAt_eq hi
    have e4 : decide (turnAt l l[i].to < 0) = !(l.any (fun u => decide (u.fr = l[i].to))) := by
      rw [← idx_any]
      unfold turnAt
      by_cases hx : idx (fun t : Turn => decide (t.fr = l[i].to)) l < 0
      · rw [decide_eq_true hx, decide_eq_false (by omega)]
        rfl
      · rw [decide_eq_false hx, decide_eq_true (by omega)]
        rfl
    have e5 : decide (turnAt (l.take i) l[i].fr ≥ 0) = (l.take i).any (fun u => decide (u.fr = l[i].fr)) := idx_any
    have hb : ∀ (p q : Turn → Bool), (l.take i).any (fun u => p u || q u) = ((l.take i).any p || (l.take i).any q) := fun p q => by
      rw [Bool.eq_iff_iff]
      simp only [List.any_eq_true, Bool.or_eq_true]
      constructor
      · rintro ⟨x, hx, a | a⟩
        · exact .inl ⟨x, hx, a⟩
        · exact .inr ⟨x, hx, a⟩
      · rintro (⟨x, hx, a⟩ | ⟨x, hx, a⟩)
        · exact ⟨x, hx, .inl a⟩
        · exact ⟨x, hx, .inr a⟩
    rw [hb] at e3
    cases b1 : okName l[i].fr with
    | false =>
      simp +contextual (maxSteps := 2000000) only [go_sem, Nat.reduceEqDiff, reduceCtorEq, Nat.reduceAdd, Nat.reduceLeDiff, t0, t3, hl.len, hl.iaddr hi, hl.fieldO hi, lt_true hi, c_validName _ _ (hn.at hi), b1]
      rw [okTurns_not hi (by rw [e3, b1]; rfl)]
    | true =>
    cases b2 : l.any (fun u => decide (u.fr = l[i].to)) with
    | false =>
      simp +contextual (maxSteps := 2000000) only [go_sem, Nat.reduceEqDiff, reduceCtorEq, Nat.reduceAdd, Nat.reduceLeDiff, t0, t3, hl.len, hl.iaddr hi, hl.fieldO hi, lt_true hi, c_validName _ _ (hn.at hi), b1, c_turnAt _ _ _ _ hl hn.lt, e4, b2]
      rw [okTurns_not hi (by rw [e3, b1, b2]; rfl)]
    | true =>
    have hn1 : (l.take i).length < 2 ^ 62 := by have := hn.lt; simp; omega
    cases b3 : (l.take i).any (fun u => decide (u.fr = l[i].fr)) with
    | true =>
      simp +contextual (maxSteps := 2000000) only [go_sem, Nat.reduceEqDiff, reduceCtorEq, Nat.reduceAdd, Nat.reduceLeDiff, t0, t3, hl.len, hl.iaddr hi, hl.fieldO hi, lt_true hi, c_validName _ _ (hn.at hi), b1, c_turnAt _ _ _ _ hl hn.lt, e4, b2, e1, c_turnAt _ _ _ _ s1 hn1, e5, b3]
      rw [okTurns_not hi (by rw [e3, b1, b2, b3]; rfl)]
    | false =>
    simp +contextual (maxSteps := 2000000) only [go_sem, Nat.reduceEqDiff, reduceCtorEq, Nat.reduceAdd, Nat.reduceLeDiff, t0, t3, hl.len, hl.iaddr hi, hl.fieldO hi, lt_true hi, c_validName _ _ (hn.at hi), b1, c_turnAt _ _ _ _ hl hn.lt, e4, b2, e1, c_turnAt _ _ _ _ s1 hn1, e5, b3]
    refine wpC_loop (fun k T L h2 => h2 = h' ∧ T 0 = .v v ∧ T 3 = .v (.one (.int .i64 i)) ∧ T 4 = .v (.one (.int .i64 k)) ∧ Pre (fun u : Turn => decide (u.to = l[i].to)) false l k) i ?_ ?_ (Nat.zero_le _) ?_
    · rintro k T L h2 hk ⟨rfl, t0, t3, t4, hp⟩
      have hk2 : k < l.length := by omega
      simp +contextual (maxSteps := 2000000) only [go_sem, Nat.reduceEqDiff, reduceCtorEq, Nat.reduceAdd, Nat.reduceLeDiff, t0, t3, t4, hl.iaddr hi, hl.fieldO hi, hl.iaddr hk2, hl.fieldO hk2, lt_true hk]
      have bad : decide (l[k].to = l[i].to) = true → (l.take i).any (fun u => decide (u.to = l[i].to)) = true := fun e => List.any_eq_true.2 ⟨l[k], List.mem_take_iff_getElem.2 ⟨k, by omega, rfl⟩, e⟩
      (repeat' (first | refine And.intro ?_ ?_ | intro _)) <;> first | rfl | rw [wrap_next hk (Nat.lt_trans hi hn.lt)] | exact hp.next hk2 ‹_› | (rw [okTurns_not hi (by rw [e3, b1, b2, b3, bad ‹_›]; rfl)])
    · rintro T L h2 ⟨rfl, t0, t3, t4, hp⟩
      simp +contextual (maxSteps := 2000000) only [go_sem, Nat.reduceEqDiff, reduceCtorEq, Nat.reduceAdd, Nat.reduceLeDiff, t0, t3, t4, lt_false]
      have e6 : (l.take i).any (fun u => decide (u.to = l[i].to)) = false := List.any_eq_false.2 fun x hx => by have := hp.out x hx; simpa using this
      (repeat' (first | refine And.intro ?_ ?_ | intro _)) <;> first | rfl | rw [wrap_next hi hn.lt] | exact hu.next (by rw [e3, b1, b2, b3, e6]; rfl)
    · simp +contextual (maxSteps := 2000000) only [go_sem, Nat.reduceEqDiff, reduceCtorEq, Nat.reduceAdd, Nat.reduceLeDiff, t0, t3]
      (repeat' (first | refine And.intro ?_ ?_ | intro _)) <;> first | rfl | exact Pre.zero
  · rintro T L h' ⟨rfl, t0, t3, hu⟩
    simp +contextual (maxSteps := 2000000) only [go_sem, Nat.reduceEqDiff, reduceCtorEq, Nat.reduceAdd, Nat.reduceLeDiff, t0, t3, hl.len, lt_false, okTurns_of hu]
  · simp +contextual (maxSteps := 2000000) only [go_sem, Nat.reduceEqDiff, reduceCtorEq, Nat.reduceAdd, Nat.reduceLeDiff]
    (repeat' (first | refine And.intro ?_ ?_ | intro _)) <;> first | rfl | exact Upto.zero
section
variable {P : Program} {T : Tb} {L : Lb} {h : H} {Q : PostC} {K : Post}
/-! spec.TurnSignature -/
def L62_0 : List AStep := [⟨.box 51 (.t 1), (some 3), none, []⟩, ⟨.alloc 51 [(.sl none 0 (some 0))], (some 4), none, []⟩]
theorem v62_0 : wpS P L62_0 T L (rdy h) K = wpS P ([⟨.box 51 (.t 1), (some 3), none, []⟩, ⟨.alloc 51 [(.sl none 0 (some 0))], (some 4), none, []⟩]) T L (rdy h) K := rfl
def L62_1 : List AStep := [⟨.not (.t 12), (some 13), (some (10, false)), []⟩, ⟨.pick (.t 10) (.c (.bool true)) (.t 13), (some 14), none, []⟩]
theorem v62_1 : wpS P L62_1 T L (rdy h) K = wpS P ([⟨.not (.t 12), (some 13), (some (10, false)), []⟩, ⟨.pick (.t 10) (.c (.bool true)) (.t 13), (some 14), none, []⟩]) T L (rdy h) K := rfl
def L62_2 : List AStep := ⟨.load 1 true (.t 3), (some 11), (some (10, false)), []⟩ :: ⟨.call 96 [(.t 11)], (some 12), (some (10, false)), []⟩ :: L62_1
theorem v62_2 : wpS P L62_2 T L (rdy h) K = wpS P (⟨.load 1 true (.t 3), (some 11), (some (10, false)), []⟩ :: ⟨.call 96 [(.t 11)], (some 12), (some (10, false)), []⟩ :: L62_1) T L (rdy h) K := rfl
def L62_3 : List AStep := ⟨.not (.t 8), (some 9), none, []⟩ :: ⟨.mov (.t 9), (some 10), none, []⟩ :: L62_2
theorem v62_3 : wpS P L62_3 T L (rdy h) K = wpS P (⟨.not (.t 8), (some 9), none, []⟩ :: ⟨.mov (.t 9), (some 10), none, []⟩ :: L62_2) T L (rdy h) K := rfl
def L62_4 : List AStep := ⟨.mov (.t 0), (some 7), none, []⟩ :: ⟨.call 138 [(.t 7)], (some 8), none, []⟩ :: L62_3
theorem v62_4 : wpS P L62_4 T L (rdy h) K = wpS P (⟨.mov (.t 0), (some 7), none, []⟩ :: ⟨.call 138 [(.t 7)], (some 8), none, []⟩ :: L62_3) T L (rdy h) K := rfl
def L62_5 : List AStep := [⟨.build [(.sl none 0 (some 0))] [], (some 15), none, []⟩, ⟨.store 1 (.t 4) (.t 15), none, none, []⟩]
theorem v62_5 : wpS P L62_5 T L (rdy h) K = wpS P ([⟨.build [(.sl none 0 (some 0))] [], (some 15), none, []⟩, ⟨.store 1 (.t 4) (.t 15), none, none, []⟩]) T L (rdy h) K := rfl
def L62_6 : List AStep := [⟨.call 98 [(.t 17)], (some 18), none, []⟩, ⟨.mov (.t 18), (some 5), none, []⟩]
theorem v62_6 : wpS P L62_6 T L (rdy h) K = wpS P ([⟨.call 98 [(.t 17)], (some 18), none, []⟩, ⟨.mov (.t 18), (some 5), none, []⟩]) T L (rdy h) K := rfl
def L62_7 : List AStep := ⟨.faddr 0 (.t 3), (some 16), none, []⟩ :: ⟨.load 1 false (.t 16), (some 17), none, []⟩ :: L62_6
theorem v62_7 : wpS P L62_7 T L (rdy h) K = wpS P (⟨.faddr 0 (.t 3), (some 16), none, []⟩ :: ⟨.load 1 false (.t 16), (some 17), none, []⟩ :: L62_6) T L (rdy h) K := rfl
def L62_8 : List AStep := [⟨.mov (.c (.int .i64 0)), (some 6), none, []⟩]
theorem v62_8 : wpS P L62_8 T L (rdy h) K = wpS P ([⟨.mov (.c (.int .i64 0)), (some 6), none, []⟩]) T L (rdy h) K := rfl
def L62_9 : List AStep := [⟨.len (.t 20), (some 21), none, []⟩, ⟨.bin .lss (.t 19) (.t 21), (some 22), none, []⟩]
theorem v62_9 : wpS P L62_9 T L (rdy h) K = wpS P ([⟨.len (.t 20), (some 21), none, []⟩, ⟨.bin .lss (.t 19) (.t 21), (some 22), none, []⟩]) T L (rdy h) K := rfl
def L62_10 : List AStep := ⟨.mov (.t 6), (some 19), none, []⟩ :: ⟨.mov (.t 5), (some 20), none, []⟩ :: L62_9
theorem v62_10 : wpS P L62_10 T L (rdy h) K = wpS P (⟨.mov (.t 6), (some 19), none, []⟩ :: ⟨.mov (.t 5), (some 20), none, []⟩ :: L62_9) T L (rdy h) K := rfl
def L62_11 : List AStep := [⟨.faddr 0 (.t 34), (some 35), none, []⟩, ⟨.store 1 (.t 35) (.t 33), none, none, []⟩]
theorem v62_11 : wpS P L62_11 T L (rdy h) K = wpS P ([⟨.faddr 0 (.t 34), (some 35), none, []⟩, ⟨.store 1 (.t 35) (.t 33), none, none, []⟩]) T L (rdy h) K := rfl
def L62_12 : List AStep := ⟨.call 139 [(.t 27), (.t 32)], (some 33), none, []⟩ :: ⟨.iaddr 4 (.t 25) (.t 26), (some 34), none, []⟩ :: L62_11
theorem v62_12 : wpS P L62_12 T L (rdy h) K = wpS P (⟨.call 139 [(.t 27), (.t 32)], (some 33), none, []⟩ :: ⟨.iaddr 4 (.t 25) (.t 26), (some 34), none, []⟩ :: L62_11) T L (rdy h) K := rfl
def L62_13 : List AStep := ⟨.faddr 0 (.t 30), (some 31), none, []⟩ :: ⟨.load 1 false (.t 31), (some 32), none, []⟩ :: L62_12
theorem v62_13 : wpS P L62_13 T L (rdy h) K = wpS P (⟨.faddr 0 (.t 30), (some 31), none, []⟩ :: ⟨.load 1 false (.t 31), (some 32), none, []⟩ :: L62_12) T L (rdy h) K := rfl
def L62_14 : List AStep := ⟨.mov (.t 6), (some 29), none, []⟩ :: ⟨.iaddr 4 (.t 28) (.t 29), (some 30), none, []⟩ :: L62_13
theorem v62_14 : wpS P L62_14 T L (rdy h) K = wpS P (⟨.mov (.t 6), (some 29), none, []⟩ :: ⟨.iaddr 4 (.t 28) (.t 29), (some 30), none, []⟩ :: L62_13) T L (rdy h) K := rfl
def L62_15 : List AStep := ⟨.mov (.t 0), (some 27), none, []⟩ :: ⟨.mov (.t 5), (some 28), none, []⟩ :: L62_14
theorem v62_15 : wpS P L62_15 T L (rdy h) K = wpS P (⟨.mov (.t 0), (some 27), none, []⟩ :: ⟨.mov (.t 5), (some 28), none, []⟩ :: L62_14) T L (rdy h) K := rfl
def L62_16 : List AStep := ⟨.mov (.t 5), (some 25), none, []⟩ :: ⟨.mov (.t 6), (some 26), none, []⟩ :: L62_15
theorem v62_16 : wpS P L62_16 T L (rdy h) K = wpS P (⟨.mov (.t 5), (some 25), none, []⟩ :: ⟨.mov (.t 6), (some 26), none, []⟩ :: L62_15) T L (rdy h) K := rfl
def L62_17 : List AStep := [⟨.mov (.t 24), (some 6), none, []⟩]
theorem v62_17 : wpS P L62_17 T L (rdy h) K = wpS P ([⟨.mov (.t 24), (some 6), none, []⟩]) T L (rdy h) K := rfl
def L62_18 : List AStep := ⟨.mov (.t 6), (some 23), none, []⟩ :: ⟨.bin .add (.t 23) (.c (.int .i64 1)), (some 24), none, []⟩ :: L62_17
theorem v62_18 : wpS P L62_18 T L (rdy h) K = wpS P (⟨.mov (.t 6), (some 23), none, []⟩ :: ⟨.bin .add (.t 23) (.c (.int .i64 1)), (some 24), none, []⟩ :: L62_17) T L (rdy h) K := rfl
def L62_19 : List AStep := [⟨.store 1 (.t 4) (.t 37), none, none, []⟩]
theorem v62_19 : wpS P L62_19 T L (rdy h) K = wpS P ([⟨.store 1 (.t 4) (.t 37), none, none, []⟩]) T L (rdy h) K := rfl
def L62_20 : List AStep := ⟨.mov (.t 5), (some 36), none, []⟩ :: ⟨.build [(.sl none 0 (some 0))] [(0, 1, (.t 36))], (some 37), none, []⟩ :: L62_19
theorem v62_20 : wpS P L62_20 T L (rdy h) K = wpS P (⟨.mov (.t 5), (some 36), none, []⟩ :: ⟨.build [(.sl none 0 (some 0))] [(0, 1, (.t 36))], (some 37), none, []⟩ :: L62_19) T L (rdy h) K := rfl
def C62_0 : ACode := .seq (.reg L62_5) .ret
theorem u62_0 : wpC P C62_0 T L (rdy h) Q = wpC P (.seq (.reg L62_5) .ret) T L (rdy h) Q := rfl
def C62_1 : ACode := .cond (.t 14) C62_0 .skip
theorem u62_1 : wpC P C62_1 T L (rdy h) Q = wpC P (.cond (.t 14) C62_0 .skip) T L (rdy h) Q := rfl
def C62_2 : ACode := .seq (.reg L62_4) C62_1
theorem u62_2 : wpC P C62_2 T L (rdy h) Q = wpC P (.seq (.reg L62_4) C62_1) T L (rdy h) Q := rfl
def C62_3 : ACode := .cond (.t 22) .skip (.exit 0)
theorem u62_3 : wpC P C62_3 T L (rdy h) Q = wpC P (.cond (.t 22) .skip (.exit 0)) T L (rdy h) Q := rfl
def C62_4 : ACode := .seq (.reg L62_10) C62_3
theorem u62_4 : wpC P C62_4 T L (rdy h) Q = wpC P (.seq (.reg L62_10) C62_3) T L (rdy h) Q := rfl
def C62_5 : ACode := .block 1 (.reg L62_16)
theorem u62_5 : wpC P C62_5 T L (rdy h) Q = wpC P (.block 1 (.reg L62_16)) T L (rdy h) Q := rfl
def C62_6 : ACode := .seq C62_5 (.reg L62_18)
theorem u62_6 : wpC P C62_6 T L (rdy h) Q = wpC P (.seq C62_5 (.reg L62_18)) T L (rdy h) Q := rfl
def C62_7 : ACode := .seq C62_4 C62_6
theorem u62_7 : wpC P C62_7 T L (rdy h) Q = wpC P (.seq C62_4 C62_6) T L (rdy h) Q := rfl
def C62_8 : ACode := .block 0 (.loop C62_7)
theorem u62_8 : wpC P C62_8 T L (rdy h) Q = wpC P (.block 0 (.loop C62_7)) T L (rdy h) Q := rfl
def C62_9 : ACode := .seq (.reg L62_8) C62_8
theorem u62_9 : wpC P C62_9 T L (rdy h) Q = wpC P (.seq (.reg L62_8) C62_8) T L (rdy h) Q := rfl
def C62_10 : ACode := .seq (.reg L62_20) .ret
theorem u62_10 : wpC P C62_10 T L (rdy h) Q = wpC P (.seq (.reg L62_20) .ret) T L (rdy h) Q := rfl
def C62_11 : ACode := .seq C62_9 C62_10
theorem u62_11 : wpC P C62_11 T L (rdy h) Q = wpC P (.seq C62_9 C62_10) T L (rdy h) Q := rfl
def C62_12 : ACode := .seq (.reg L62_7) C62_11
theorem u62_12 : wpC P C62_12 T L (rdy h) Q = wpC P (.seq (.reg L62_7) C62_11) T L (rdy h) Q := rfl
def C62_13 : ACode := .seq C62_2 C62_12
theorem u62_13 : wpC P C62_13 T L (rdy h) Q = wpC P (.seq C62_2 C62_12) T L (rdy h) Q := rfl
def C62_14 : ACode := .seq (.reg L62_0) C62_13
theorem u62_14 : wpC P C62_14 T L (rdy h) Q = wpC P (.seq (.reg L62_0) C62_13) T L (rdy h) Q := rfl
def F62 : AFunc := ⟨38, [.cell 4 1 true], C62_14⟩
theorem cF62 : compB Try.prog 62 = some F62 := by kernel_rfl
end
attribute [local go_sem ↓] u62_0 u62_1 u62_2 u62_3 u62_4 u62_5 u62_6 u62_7 u62_8 u62_9 u62_10 u62_11 u62_12 u62_13 u62_14 v62_0 v62_1 v62_2 v62_3 v62_4 v62_5 v62_6 v62_7 v62_8 v62_9 v62_10 v62_11 v62_12 v62_13 v62_14 v62_15 v62_16 v62_17 v62_18 v62_19 v62_20
theorem k_sTurnSignature (l : List Turn) (x : List Param) (u p : CV) (h : H) (hl : SlU h u l) (hx : SlG h p x) (hn : miniU l) (hm : miniG x) :
    callK (bm Try.prog 62 [.one u, .agg [p]] h) fun r h' => Grow h h' ∧ ∃ p', r = .agg [p'] ∧ NwG h h' p' (turnSig l x) := by
  refine bm_of cF62 ?_
  unfold turnSig
  cases h1 : okTurns l with
  | false =>
    simp +contextual (maxSteps := 2000000) only [go_sem, Nat.reduceEqDiff, reduceCtorEq, Nat.reduceAdd, Nat.reduceLeDiff, F62, c_validTurns _ _ _ hl.out hn, h1, false_and, if_false]
    exact ⟨Grow.refl h, _, rfl, .nil⟩
  | true =>
  cases h2 : okSig x with
  | false =>
    simp +contextual (maxSteps := 2000000) only [go_sem, Nat.reduceEqDiff, reduceCtorEq, Nat.reduceAdd, Nat.reduceLeDiff, F62, c_validTurns _ _ _ hl.out hn, h1, c_validSignature _ _ _ hx.out hm.sm, h2, and_false, if_false]
    exact ⟨Grow.refl h, _, rfl, .nil⟩
  | true =>
  simp +contextual (maxSteps := 2000000) only [go_sem, Nat.reduceEqDiff, reduceCtorEq, Nat.reduceAdd, Nat.reduceLeDiff, F62, c_validTurns _ _ _ hl.out hn, h1, c_validSignature _ _ _ hx.out hm.sm, h2, and_self, if_true]
  refine wp_call (c_copyParams x _ h hx.out hm.sm.1) ?_
  rintro r h1 ⟨g1, n1⟩
  obtain ⟨c, rfl⟩ := n1.one
  simp +contextual (maxSteps := 2000000) only [go_sem, Nat.reduceEqDiff, reduceCtorEq, Nat.reduceAdd, Nat.reduceLeDiff]
  refine wpC_loop (fun i T L h' => Grow h h' ∧ T 0 = .v (.one u) ∧ T 4 = .lp 4 0 ∧ (L 4).2 = [.sl none 0 (some 0)] ∧ T 5 = .v (.one c) ∧ T 6 = .v (.one (.int .i64 i)) ∧ NwQ h h' (.one c) (mapT (turnQ l) x i)) x.length ?_ ?_ (Nat.zero_le _) ?_
  · rintro i T L h' hi ⟨g, t0, t4, l4, t5, t6, no⟩
    have hlen : (mapT (turnQ l) x i).length = x.length := mapT_len (by omega)
    have hio : i < (mapT (turnQ l) x i).length := by omega
    have hln := no.length
    rw [hlen] at hln
    have hf := (no.sl lenQ).fieldO (off := 0) hio (by omega)
    rw [mapT_at hi hio] at hf
    simp +contextual (maxSteps := 2000000) only [go_sem, Nat.reduceEqDiff, reduceCtorEq, Nat.reduceAdd, Nat.reduceLeDiff, t0, t4, l4, t5, t6, hln, no.iaddr hio, hf, lt_true hi, c_turned _ _ _ _ (hl.out.grow g) hn.lt]
    refine wp_set (x := turnQ l x[i]) (off := 0) (vs := [.str (turned l x[i].name)]) lenQ no hio rfl (by rw [mapT_at hi hio]; rfl) (Nat.le_of_ble_eq_true rfl) g ?_
    intro h2 g2 n2 s2
    simp +contextual (maxSteps := 2000000) only [go_sem, Nat.reduceEqDiff, reduceCtorEq, Nat.reduceAdd, Nat.reduceLeDiff, t0, t4, l4, t5, t6]
    rw [mapT_set hi] at n2
    exact ⟨g2, by rw [wrap_next hi (Nat.lt_of_le_of_lt hm.len (by decide))], n2⟩
  · rintro T L h' ⟨g, t0, t4, l4, t5, t6, no⟩
    have hln := no.length
    rw [mapT_len (Nat.le_refl _)] at hln
    rw [mapT_all] at no
    simp +contextual (maxSteps := 2000000) only [go_sem, Nat.reduceEqDiff, reduceCtorEq, Nat.reduceAdd, Nat.reduceLeDiff, t0, t4, l4, t5, t6, hln, lt_false]
    exact gcK_of ⟨g, _, rfl, ⟨no⟩⟩ (fun hs _ => ⟨Grow.refl h, _, rfl, ⟨no.scalar (by simpa [AV.scalar] using hs) h⟩⟩)
  · simp +contextual (maxSteps := 2000000) only [go_sem, Nat.reduceEqDiff, reduceCtorEq, Nat.reduceAdd, Nat.reduceLeDiff]
    exact ⟨g1, rfl, by rw [mapT_zero]; exact n1⟩
section
variable {P : Program} {T : Tb} {L : Lb} {h : H} {Q : PostC} {K : Post}
/-! impl.turn -/
def L141_0 : List AStep := [⟨.mov (.c (.str (strOfNums []))), (some 4), none, []⟩]
theorem v141_0 : wpS P L141_0 T L (rdy h) K = wpS P ([⟨.mov (.c (.str (strOfNums []))), (some 4), none, []⟩]) T L (rdy h) K := rfl
def L141_1 : List AStep := [⟨.mov (.c (.int .i64 0)), (some 9), none, []⟩]
theorem v141_1 : wpS P L141_1 T L (rdy h) K = wpS P ([⟨.mov (.c (.int .i64 0)), (some 9), none, []⟩]) T L (rdy h) K := rfl
def L141_2 : List AStep := ⟨.mov (.t 0), (some 7), none, []⟩ :: ⟨.len (.t 7), (some 8), none, []⟩ :: L141_1
theorem v141_2 : wpS P L141_2 T L (rdy h) K = wpS P (⟨.mov (.t 0), (some 7), none, []⟩ :: ⟨.len (.t 7), (some 8), none, []⟩ :: L141_1) T L (rdy h) K := rfl
def L141_3 : List AStep := [⟨.bin .lss (.t 9) (.t 8), (some 10), none, []⟩]
theorem v141_3 : wpS P L141_3 T L (rdy h) K = wpS P ([⟨.bin .lss (.t 9) (.t 8), (some 10), none, []⟩]) T L (rdy h) K := rfl
def L141_4 : List AStep := [⟨.alloc 165 [(.str (strOfNums [])), (.str (strOfNums []))], (some 6), none, []⟩, ⟨.store 2 (.t 6) (.t 12), none, none, []⟩]
theorem v141_4 : wpS P L141_4 T L (rdy h) K = wpS P ([⟨.alloc 165 [(.str (strOfNums [])), (.str (strOfNums []))], (some 6), none, []⟩, ⟨.store 2 (.t 6) (.t 12), none, none, []⟩]) T L (rdy h) K := rfl
def L141_5 : List AStep := ⟨.iaddr 2 (.t 7) (.t 9), (some 11), none, []⟩ :: ⟨.load 2 true (.t 11), (some 12), none, []⟩ :: L141_4
theorem v141_5 : wpS P L141_5 T L (rdy h) K = wpS P (⟨.iaddr 2 (.t 7) (.t 9), (some 11), none, []⟩ :: ⟨.load 2 true (.t 11), (some 12), none, []⟩ :: L141_4) T L (rdy h) K := rfl
def L141_6 : List AStep := [⟨.mov (.t 1), (some 15), none, []⟩, ⟨.bin .eql (.t 14) (.t 15), (some 16), none, []⟩]
theorem v141_6 : wpS P L141_6 T L (rdy h) K = wpS P ([⟨.mov (.t 1), (some 15), none, []⟩, ⟨.bin .eql (.t 14) (.t 15), (some 16), none, []⟩]) T L (rdy h) K := rfl
def L141_7 : List AStep := ⟨.faddr 0 (.t 6), (some 13), none, []⟩ :: ⟨.load 1 false (.t 13), (some 14), none, []⟩ :: L141_6
theorem v141_7 : wpS P L141_7 T L (rdy h) K = wpS P (⟨.faddr 0 (.t 6), (some 13), none, []⟩ :: ⟨.load 1 false (.t 13), (some 14), none, []⟩ :: L141_6) T L (rdy h) K := rfl
def L141_8 : List AStep := [⟨.mov (.t 18), (some 4), none, []⟩]
theorem v141_8 : wpS P L141_8 T L (rdy h) K = wpS P ([⟨.mov (.t 18), (some 4), none, []⟩]) T L (rdy h) K := rfl
def L141_9 : List AStep := ⟨.faddr 1 (.t 6), (some 17), none, []⟩ :: ⟨.load 1 false (.t 17), (some 18), none, []⟩ :: L141_8
theorem v141_9 : wpS P L141_9 T L (rdy h) K = wpS P (⟨.faddr 1 (.t 6), (some 17), none, []⟩ :: ⟨.load 1 false (.t 17), (some 18), none, []⟩ :: L141_8) T L (rdy h) K := rfl
def L141_10 : List AStep := [⟨.bin .add (.t 9) (.c (.int .i64 1)), (some 19), none, []⟩, ⟨.mov (.t 19), (some 9), none, []⟩]
theorem v141_10 : wpS P L141_10 T L (rdy h) K = wpS P ([⟨.bin .add (.t 9) (.c (.int .i64 1)), (some 19), none, []⟩, ⟨.mov (.t 19), (some 9), none, []⟩]) T L (rdy h) K := rfl
def L141_11 : List AStep := [⟨.mov (.t 1), (some 20), none, []⟩, ⟨.mov (.t 20), (some 4), none, []⟩]
theorem v141_11 : wpS P L141_11 T L (rdy h) K = wpS P ([⟨.mov (.t 1), (some 20), none, []⟩, ⟨.mov (.t 20), (some 4), none, []⟩]) T L (rdy h) K := rfl
def C141_0 : ACode := .cond (.t 10) .skip (.exit 0)
theorem u141_0 : wpC P C141_0 T L (rdy h) Q = wpC P (.cond (.t 10) .skip (.exit 0)) T L (rdy h) Q := rfl
def C141_1 : ACode := .seq (.reg L141_9) .ret
theorem u141_1 : wpC P C141_1 T L (rdy h) Q = wpC P (.seq (.reg L141_9) .ret) T L (rdy h) Q := rfl
def C141_2 : ACode := .cond (.t 16) C141_1 .skip
theorem u141_2 : wpC P C141_2 T L (rdy h) Q = wpC P (.cond (.t 16) C141_1 .skip) T L (rdy h) Q := rfl
def C141_3 : ACode := .seq (.reg L141_7) C141_2
theorem u141_3 : wpC P C141_3 T L (rdy h) Q = wpC P (.seq (.reg L141_7) C141_2) T L (rdy h) Q := rfl
def C141_4 : ACode := .seq (.reg L141_5) C141_3
theorem u141_4 : wpC P C141_4 T L (rdy h) Q = wpC P (.seq (.reg L141_5) C141_3) T L (rdy h) Q := rfl
def C141_5 : ACode := .block 1 C141_4
theorem u141_5 : wpC P C141_5 T L (rdy h) Q = wpC P (.block 1 C141_4) T L (rdy h) Q := rfl
def C141_6 : ACode := .seq C141_5 (.reg L141_10)
theorem u141_6 : wpC P C141_6 T L (rdy h) Q = wpC P (.seq C141_5 (.reg L141_10)) T L (rdy h) Q := rfl
def C141_7 : ACode := .seq C141_0 C141_6
theorem u141_7 : wpC P C141_7 T L (rdy h) Q = wpC P (.seq C141_0 C141_6) T L (rdy h) Q := rfl
def C141_8 : ACode := .seq (.reg L141_3) C141_7
theorem u141_8 : wpC P C141_8 T L (rdy h) Q = wpC P (.seq (.reg L141_3) C141_7) T L (rdy h) Q := rfl
def C141_9 : ACode := .block 0 (.loop C141_8)
theorem u141_9 : wpC P C141_9 T L (rdy h) Q = wpC P (.block 0 (.loop C141_8)) T L (rdy h) Q := rfl
def C141_10 : ACode := .seq (.reg L141_2) C141_9
theorem u141_10 : wpC P C141_10 T L (rdy h) Q = wpC P (.seq (.reg L141_2) C141_9) T L (rdy h) Q := rfl
def C141_11 : ACode := .seq (.reg L141_11) .ret
theorem u141_11 : wpC P C141_11 T L (rdy h) Q = wpC P (.seq (.reg L141_11) .ret) T L (rdy h) Q := rfl
def C141_12 : ACode := .seq C141_10 C141_11
theorem u141_12 : wpC P C141_12 T L (rdy h) Q = wpC P (.seq C141_10 C141_11) T L (rdy h) Q := rfl
def C141_13 : ACode := .seq (.reg L141_0) C141_12
theorem u141_13 : wpC P C141_13 T L (rdy h) Q = wpC P (.seq (.reg L141_0) C141_12) T L (rdy h) Q := rfl
def F141 : AFunc := ⟨21, [.tmp 4], C141_13⟩
theorem cF141 : compB Try.prog 141 = some F141 := by kernel_rfl
end
attribute [local go_sem ↓] u141_0 u141_1 u141_2 u141_3 u141_4 u141_5 u141_6 u141_7 u141_8 u141_9 u141_10 u141_11 u141_12 u141_13 v141_0 v141_1 v141_2 v141_3 v141_4 v141_5 v141_6 v141_7 v141_8 v141_9 v141_10 v141_11
theorem c_turn (l : List Turn) (v : AV) (s : ByteArray) (h : H) (hl : SlT h v l) (hn : l.length < 2 ^ 62) : bm Try.prog 141 [v, .one (.str s)] h = some (.one (.str (turned l s)), h) := by
  refine bm_eq cF141 ?_
  simp +contextual (maxSteps := 2000000) only [go_sem, Nat.reduceEqDiff, reduceCtorEq, Nat.reduceAdd, Nat.reduceLeDiff, F141, hl.len]
  refine wpC_loop (fun i T L h' => h' = h ∧ T 0 = .v v ∧ T 1 = .v (.one (.str s)) ∧ T 7 = .v v ∧ T 8 = .v (.one (.int .i64 l.length)) ∧ T 9 = .v (.one (.int .i64 i)) ∧ Pre (fun p => decide (p.fr = s)) false l i) l.length ?_ ?_ (Nat.zero_le _) ?_
  · rintro i T L h' hi ⟨rfl, h0, h1, t7, t8, t9, hp⟩
    simp +contextual (maxSteps := 2000000) only [go_sem, Nat.reduceEqDiff, reduceCtorEq, Nat.reduceAdd, Nat.reduceLeDiff, h0, h1, t7, t8, t9, hl.iaddr hi, hl.whole hi, lt_true hi]
    (repeat' (first | refine And.intro ?_ ?_ | intro _)) <;> first | rfl | rw [wrap_next hi hn] | exact hp.next hi ‹_› | rw [turned_some hi (idx_hit hi hp ‹_›)]
  · rintro T L h' ⟨rfl, h0, h1, t7, t8, t9, hp⟩
    simp +contextual (maxSteps := 2000000) only [go_sem, Nat.reduceEqDiff, reduceCtorEq, Nat.reduceAdd, Nat.reduceLeDiff, h0, h1, t7, t8, t9, lt_false, turned_none (idx_none hp)]
  · simp +contextual (maxSteps := 2000000) only [go_sem, Nat.reduceEqDiff, reduceCtorEq, Nat.reduceAdd, Nat.reduceLeDiff]
    (repeat' (first | refine And.intro ?_ ?_ | intro _)) <;> first | rfl | exact Pre.zero
section
variable {P : Program} {T : Tb} {L : Lb} {h : H} {Q : PostC} {K : Post}
/-! impl.ValidTurns$1 -/
def L149_0 : List AStep := [⟨.box 165 (.t 0), (some 2), none, []⟩, ⟨.mov (.c (.bool false)), (some 3), none, []⟩]
theorem v149_0 : wpS P L149_0 T L (rdy h) K = wpS P ([⟨.box 165 (.t 0), (some 2), none, []⟩, ⟨.mov (.c (.bool false)), (some 3), none, []⟩]) T L (rdy h) K := rfl
def L149_1 : List AStep := [⟨.bin .eql (.t 5) (.t 7), (some 8), none, []⟩, ⟨.mov (.t 8), (some 3), none, []⟩]
theorem v149_1 : wpS P L149_1 T L (rdy h) K = wpS P ([⟨.bin .eql (.t 5) (.t 7), (some 8), none, []⟩, ⟨.mov (.t 8), (some 3), none, []⟩]) T L (rdy h) K := rfl
def L149_2 : List AStep := ⟨.faddr 1 (.t 1), (some 6), none, []⟩ :: ⟨.load 1 false (.t 6), (some 7), none, []⟩ :: L149_1
theorem v149_2 : wpS P L149_2 T L (rdy h) K = wpS P (⟨.faddr 1 (.t 1), (some 6), none, []⟩ :: ⟨.load 1 false (.t 6), (some 7), none, []⟩ :: L149_1) T L (rdy h) K := rfl
def L149_3 : List AStep := ⟨.faddr 0 (.t 2), (some 4), none, []⟩ :: ⟨.load 1 false (.t 4), (some 5), none, []⟩ :: L149_2
theorem v149_3 : wpS P L149_3 T L (rdy h) K = wpS P (⟨.faddr 0 (.t 2), (some 4), none, []⟩ :: ⟨.load 1 false (.t 4), (some 5), none, []⟩ :: L149_2) T L (rdy h) K := rfl
def C149_0 : ACode := .seq (.reg L149_3) .ret
theorem u149_0 : wpC P C149_0 T L (rdy h) Q = wpC P (.seq (.reg L149_3) .ret) T L (rdy h) Q := rfl
def C149_1 : ACode := .seq (.reg L149_0) C149_0
theorem u149_1 : wpC P C149_1 T L (rdy h) Q = wpC P (.seq (.reg L149_0) C149_0) T L (rdy h) Q := rfl
def F149 : AFunc := ⟨9, [.tmp 3], C149_1⟩
theorem cF149 : compB Try.prog 149 = some F149 := by kernel_rfl
end
attribute [local go_sem ↓] u149_0 u149_1 v149_0 v149_1 v149_2 v149_3
theorem c_ValidTurns1 (u t : Turn) (b : Nat) (h : H) (hb : Box h b (encT t) 165) : bm Try.prog 149 [.agg (encT u), .one (.ptr (some (b, 0)))] h = some (ib (decide (u.fr = t.to)), h) := by
  have e : loadO 1 false h (.one (.ptr (some (b, 1)))) = some (.one (.str t.to)) := hb.one rfl
  refine bm_eq cF149 ?_
  simp +contextual (maxSteps := 2000000) only [go_sem, Nat.reduceEqDiff, reduceCtorEq, Nat.reduceAdd, Nat.reduceLeDiff, F149, e]
section
variable {P : Program} {T : Tb} {L : Lb} {h : H} {Q : PostC} {K : Post}
/-! impl.ValidTurns$2 -/
def L150_0 : List AStep := [⟨.box 165 (.t 0), (some 2), none, []⟩, ⟨.mov (.c (.bool false)), (some 3), none, []⟩]
theorem v150_0 : wpS P L150_0 T L (rdy h) K = wpS P ([⟨.box 165 (.t 0), (some 2), none, []⟩, ⟨.mov (.c (.bool false)), (some 3), none, []⟩]) T L (rdy h) K := rfl
def L150_1 : List AStep := [⟨.mov (.t 15), (some 3), none, []⟩]
theorem v150_1 : wpS P L150_1 T L (rdy h) K = wpS P ([⟨.mov (.t 15), (some 3), none, []⟩]) T L (rdy h) K := rfl
def L150_2 : List AStep := ⟨.bin .eql (.t 11) (.t 13), (some 14), (some (9, false)), []⟩ :: ⟨.pick (.t 9) (.c (.bool true)) (.t 14), (some 15), none, []⟩ :: L150_1
theorem v150_2 : wpS P L150_2 T L (rdy h) K = wpS P (⟨.bin .eql (.t 11) (.t 13), (some 14), (some (9, false)), []⟩ :: ⟨.pick (.t 9) (.c (.bool true)) (.t 14), (some 15), none, []⟩ :: L150_1) T L (rdy h) K := rfl
def L150_3 : List AStep := ⟨.faddr 1 (.t 1), (some 12), (some (9, false)), []⟩ :: ⟨.load 1 false (.t 12), (some 13), (some (9, false)), []⟩ :: L150_2
theorem v150_3 : wpS P L150_3 T L (rdy h) K = wpS P (⟨.faddr 1 (.t 1), (some 12), (some (9, false)), []⟩ :: ⟨.load 1 false (.t 12), (some 13), (some (9, false)), []⟩ :: L150_2) T L (rdy h) K := rfl
def L150_4 : List AStep := ⟨.faddr 1 (.t 2), (some 10), (some (9, false)), []⟩ :: ⟨.load 1 false (.t 10), (some 11), (some (9, false)), []⟩ :: L150_3
theorem v150_4 : wpS P L150_4 T L (rdy h) K = wpS P (⟨.faddr 1 (.t 2), (some 10), (some (9, false)), []⟩ :: ⟨.load 1 false (.t 10), (some 11), (some (9, false)), []⟩ :: L150_3) T L (rdy h) K := rfl
def L150_5 : List AStep := ⟨.bin .eql (.t 5) (.t 7), (some 8), none, []⟩ :: ⟨.mov (.t 8), (some 9), none, []⟩ :: L150_4
theorem v150_5 : wpS P L150_5 T L (rdy h) K = wpS P (⟨.bin .eql (.t 5) (.t 7), (some 8), none, []⟩ :: ⟨.mov (.t 8), (some 9), none, []⟩ :: L150_4) T L (rdy h) K := rfl
def L150_6 : List AStep := ⟨.faddr 0 (.t 1), (some 6), none, []⟩ :: ⟨.load 1 false (.t 6), (some 7), none, []⟩ :: L150_5
theorem v150_6 : wpS P L150_6 T L (rdy h) K = wpS P (⟨.faddr 0 (.t 1), (some 6), none, []⟩ :: ⟨.load 1 false (.t 6), (some 7), none, []⟩ :: L150_5) T L (rdy h) K := rfl
def L150_7 : List AStep := ⟨.faddr 0 (.t 2), (some 4), none, []⟩ :: ⟨.load 1 false (.t 4), (some 5), none, []⟩ :: L150_6
theorem v150_7 : wpS P L150_7 T L (rdy h) K = wpS P (⟨.faddr 0 (.t 2), (some 4), none, []⟩ :: ⟨.load 1 false (.t 4), (some 5), none, []⟩ :: L150_6) T L (rdy h) K := rfl
def C150_0 : ACode := .seq (.reg L150_7) .ret
theorem u150_0 : wpC P C150_0 T L (rdy h) Q = wpC P (.seq (.reg L150_7) .ret) T L (rdy h) Q := rfl
def C150_1 : ACode := .seq (.reg L150_0) C150_0
theorem u150_1 : wpC P C150_1 T L (rdy h) Q = wpC P (.seq (.reg L150_0) C150_0) T L (rdy h) Q := rfl
def F150 : AFunc := ⟨16, [.tmp 3], C150_1⟩
theorem cF150 : compB Try.prog 150 = some F150 := by kernel_rfl
end
attribute [local go_sem ↓] u150_0 u150_1 v150_0 v150_1 v150_2 v150_3 v150_4 v150_5 v150_6 v150_7
theorem c_ValidTurns2 (u t : Turn) (b : Nat) (h : H) (hb : Box h b (encT t) 165) : bm Try.prog 150 [.agg (encT u), .one (.ptr (some (b, 0)))] h = some (ib (decide (u.fr = t.fr) || decide (u.to = t.to)), h) := by
  have e : loadO 1 false h (.one (.ptr (some (b, 1)))) = some (.one (.str t.to)) := hb.one rfl
  have e2 : loadO 1 false h (.one (.ptr (some (b, 0)))) = some (.one (.str t.fr)) := hb.one rfl
  refine bm_eq cF150 ?_
  cases h1 : decide (u.fr = t.fr) with
  | true => simp +contextual (maxSteps := 2000000) only [go_sem, Nat.reduceEqDiff, reduceCtorEq, Nat.reduceAdd, Nat.reduceLeDiff, F150, e, e2, h1, Bool.true_or]
  | false => simp +contextual (maxSteps := 2000000) only [go_sem, Nat.reduceEqDiff, reduceCtorEq, Nat.reduceAdd, Nat.reduceLeDiff, F150, e, e2, h1, Bool.false_or]
section
variable {P : Program} {T : Tb} {L : Lb} {h : H} {Q : PostC} {K : Post}
/-! impl.ValidTurns -/
def L71_0 : List AStep := [⟨.mov (.c (.bool false)), (some 2), none, []⟩]
theorem v71_0 : wpS P L71_0 T L (rdy h) K = wpS P ([⟨.mov (.c (.bool false)), (some 2), none, []⟩]) T L (rdy h) K := rfl
def L71_1 : List AStep := [⟨.mov (.c (.int .i64 0)), (some 7), none, []⟩]
theorem v71_1 : wpS P L71_1 T L (rdy h) K = wpS P ([⟨.mov (.c (.int .i64 0)), (some 7), none, []⟩]) T L (rdy h) K := rfl
def L71_2 : List AStep := ⟨.mov (.t 0), (some 5), none, []⟩ :: ⟨.len (.t 5), (some 6), none, []⟩ :: L71_1
theorem v71_2 : wpS P L71_2 T L (rdy h) K = wpS P (⟨.mov (.t 0), (some 5), none, []⟩ :: ⟨.len (.t 5), (some 6), none, []⟩ :: L71_1) T L (rdy h) K := rfl
def L71_3 : List AStep := [⟨.bin .lss (.t 7) (.t 6), (some 8), none, []⟩]
theorem v71_3 : wpS P L71_3 T L (rdy h) K = wpS P ([⟨.bin .lss (.t 7) (.t 6), (some 8), none, []⟩]) T L (rdy h) K := rfl
def L71_4 : List AStep := [⟨.mov (.t 9), (some 3), none, []⟩, ⟨.store 2 (.t 4) (.t 11), none, none, []⟩]
theorem v71_4 : wpS P L71_4 T L (rdy h) K = wpS P ([⟨.mov (.t 9), (some 3), none, []⟩, ⟨.store 2 (.t 4) (.t 11), none, none, []⟩]) T L (rdy h) K := rfl
def L71_5 : List AStep := ⟨.load 2 true (.t 10), (some 11), none, []⟩ :: ⟨.alloc 165 [(.str (strOfNums [])), (.str (strOfNums []))], (some 4), none, []⟩ :: L71_4
theorem v71_5 : wpS P L71_5 T L (rdy h) K = wpS P (⟨.load 2 true (.t 10), (some 11), none, []⟩ :: ⟨.alloc 165 [(.str (strOfNums [])), (.str (strOfNums []))], (some 4), none, []⟩ :: L71_4) T L (rdy h) K := rfl
def L71_6 : List AStep := ⟨.mov (.t 7), (some 9), none, []⟩ :: ⟨.iaddr 2 (.t 5) (.t 7), (some 10), none, []⟩ :: L71_5
theorem v71_6 : wpS P L71_6 T L (rdy h) K = wpS P (⟨.mov (.t 7), (some 9), none, []⟩ :: ⟨.iaddr 2 (.t 5) (.t 7), (some 10), none, []⟩ :: L71_5) T L (rdy h) K := rfl
def L71_7 : List AStep := [⟨.pick (.t 22) (.c (.bool true)) (.t 27), (some 28), none, []⟩]
theorem v71_7 : wpS P L71_7 T L (rdy h) K = wpS P ([⟨.pick (.t 22) (.c (.bool true)) (.t 27), (some 28), none, []⟩]) T L (rdy h) K := rfl
def L71_8 : List AStep := ⟨.mkfn 150 [(.t 4)], (some 26), (some (22, false)), []⟩ :: ⟨.call 148 [(.t 25), (.t 26)], (some 27), (some (22, false)), []⟩ :: L71_7
theorem v71_8 : wpS P L71_8 T L (rdy h) K = wpS P (⟨.mkfn 150 [(.t 4)], (some 26), (some (22, false)), []⟩ :: ⟨.call 148 [(.t 25), (.t 26)], (some 27), (some (22, false)), []⟩ :: L71_7) T L (rdy h) K := rfl
def L71_9 : List AStep := ⟨.mov (.t 3), (some 24), (some (22, false)), []⟩ :: ⟨.slice 165 2 (.t 23) none (some (.t 24)) none, (some 25), (some (22, false)), []⟩ :: L71_8
theorem v71_9 : wpS P L71_9 T L (rdy h) K = wpS P (⟨.mov (.t 3), (some 24), (some (22, false)), []⟩ :: ⟨.slice 165 2 (.t 23) none (some (.t 24)) none, (some 25), (some (22, false)), []⟩ :: L71_8) T L (rdy h) K := rfl
def L71_10 : List AStep := ⟨.mov (.t 21), (some 22), none, []⟩ :: ⟨.mov (.t 0), (some 23), (some (22, false)), []⟩ :: L71_9
theorem v71_10 : wpS P L71_10 T L (rdy h) K = wpS P (⟨.mov (.t 21), (some 22), none, []⟩ :: ⟨.mov (.t 0), (some 23), (some (22, false)), []⟩ :: L71_9) T L (rdy h) K := rfl
def L71_11 : List AStep := ⟨.not (.t 19), (some 20), (some (16, false)), []⟩ :: ⟨.pick (.t 16) (.c (.bool true)) (.t 20), (some 21), none, []⟩ :: L71_10
theorem v71_11 : wpS P L71_11 T L (rdy h) K = wpS P (⟨.not (.t 19), (some 20), (some (16, false)), []⟩ :: ⟨.pick (.t 16) (.c (.bool true)) (.t 20), (some 21), none, []⟩ :: L71_10) T L (rdy h) K := rfl
def L71_12 : List AStep := ⟨.mkfn 149 [(.t 4)], (some 18), (some (16, false)), []⟩ :: ⟨.call 148 [(.t 17), (.t 18)], (some 19), (some (16, false)), []⟩ :: L71_11
theorem v71_12 : wpS P L71_12 T L (rdy h) K = wpS P (⟨.mkfn 149 [(.t 4)], (some 18), (some (16, false)), []⟩ :: ⟨.call 148 [(.t 17), (.t 18)], (some 19), (some (16, false)), []⟩ :: L71_11) T L (rdy h) K := rfl
def L71_13 : List AStep := ⟨.mov (.t 15), (some 16), none, []⟩ :: ⟨.mov (.t 0), (some 17), (some (16, false)), []⟩ :: L71_12
theorem v71_13 : wpS P L71_13 T L (rdy h) K = wpS P (⟨.mov (.t 15), (some 16), none, []⟩ :: ⟨.mov (.t 0), (some 17), (some (16, false)), []⟩ :: L71_12) T L (rdy h) K := rfl
def L71_14 : List AStep := ⟨.call 147 [(.t 13)], (some 14), none, []⟩ :: ⟨.not (.t 14), (some 15), none, []⟩ :: L71_13
theorem v71_14 : wpS P L71_14 T L (rdy h) K = wpS P (⟨.call 147 [(.t 13)], (some 14), none, []⟩ :: ⟨.not (.t 14), (some 15), none, []⟩ :: L71_13) T L (rdy h) K := rfl
def L71_15 : List AStep := ⟨.faddr 0 (.t 4), (some 12), none, []⟩ :: ⟨.load 1 false (.t 12), (some 13), none, []⟩ :: L71_14
theorem v71_15 : wpS P L71_15 T L (rdy h) K = wpS P (⟨.faddr 0 (.t 4), (some 12), none, []⟩ :: ⟨.load 1 false (.t 12), (some 13), none, []⟩ :: L71_14) T L (rdy h) K := rfl
def L71_16 : List AStep := [⟨.mov (.c (.bool false)), (some 2), none, []⟩]
theorem v71_16 : wpS P L71_16 T L (rdy h) K = wpS P ([⟨.mov (.c (.bool false)), (some 2), none, []⟩]) T L (rdy h) K := rfl
def L71_17 : List AStep := [⟨.bin .add (.t 7) (.c (.int .i64 1)), (some 29), none, []⟩, ⟨.mov (.t 29), (some 7), none, []⟩]
theorem v71_17 : wpS P L71_17 T L (rdy h) K = wpS P ([⟨.bin .add (.t 7) (.c (.int .i64 1)), (some 29), none, []⟩, ⟨.mov (.t 29), (some 7), none, []⟩]) T L (rdy h) K := rfl
def L71_18 : List AStep := [⟨.bin .leq (.t 31) (.c (.int .i64 8)), (some 32), none, []⟩, ⟨.mov (.t 32), (some 2), none, []⟩]
theorem v71_18 : wpS P L71_18 T L (rdy h) K = wpS P ([⟨.bin .leq (.t 31) (.c (.int .i64 8)), (some 32), none, []⟩, ⟨.mov (.t 32), (some 2), none, []⟩]) T L (rdy h) K := rfl
def L71_19 : List AStep := ⟨.mov (.t 0), (some 30), none, []⟩ :: ⟨.len (.t 30), (some 31), none, []⟩ :: L71_18
theorem v71_19 : wpS P L71_19 T L (rdy h) K = wpS P (⟨.mov (.t 0), (some 30), none, []⟩ :: ⟨.len (.t 30), (some 31), none, []⟩ :: L71_18) T L (rdy h) K := rfl
def C71_0 : ACode := .cond (.t 8) .skip (.exit 0)
theorem u71_0 : wpC P C71_0 T L (rdy h) Q = wpC P (.cond (.t 8) .skip (.exit 0)) T L (rdy h) Q := rfl
def C71_1 : ACode := .seq (.reg L71_16) .ret
theorem u71_1 : wpC P C71_1 T L (rdy h) Q = wpC P (.seq (.reg L71_16) .ret) T L (rdy h) Q := rfl
def C71_2 : ACode := .cond (.t 28) C71_1 .skip
theorem u71_2 : wpC P C71_2 T L (rdy h) Q = wpC P (.cond (.t 28) C71_1 .skip) T L (rdy h) Q := rfl
def C71_3 : ACode := .seq (.reg L71_15) C71_2
theorem u71_3 : wpC P C71_3 T L (rdy h) Q = wpC P (.seq (.reg L71_15) C71_2) T L (rdy h) Q := rfl
def C71_4 : ACode := .seq (.reg L71_6) C71_3
theorem u71_4 : wpC P C71_4 T L (rdy h) Q = wpC P (.seq (.reg L71_6) C71_3) T L (rdy h) Q := rfl
def C71_5 : ACode := .block 1 C71_4
theorem u71_5 : wpC P C71_5 T L (rdy h) Q = wpC P (.block 1 C71_4) T L (rdy h) Q := rfl
def C71_6 : ACode := .seq C71_5 (.reg L71_17)
theorem u71_6 : wpC P C71_6 T L (rdy h) Q = wpC P (.seq C71_5 (.reg L71_17)) T L (rdy h) Q := rfl
def C71_7 : ACode := .seq C71_0 C71_6
theorem u71_7 : wpC P C71_7 T L (rdy h) Q = wpC P (.seq C71_0 C71_6) T L (rdy h) Q := rfl
def C71_8 : ACode := .seq (.reg L71_3) C71_7
theorem u71_8 : wpC P C71_8 T L (rdy h) Q = wpC P (.seq (.reg L71_3) C71_7) T L (rdy h) Q := rfl
def C71_9 : ACode := .block 0 (.loop C71_8)
theorem u71_9 : wpC P C71_9 T L (rdy h) Q = wpC P (.block 0 (.loop C71_8)) T L (rdy h) Q := rfl
def C71_10 : ACode := .seq (.reg L71_2) C71_9
theorem u71_10 : wpC P C71_10 T L (rdy h) Q = wpC P (.seq (.reg L71_2) C71_9) T L (rdy h) Q := rfl
def C71_11 : ACode := .seq (.reg L71_19) .ret
theorem u71_11 : wpC P C71_11 T L (rdy h) Q = wpC P (.seq (.reg L71_19) .ret) T L (rdy h) Q := rfl
def C71_12 : ACode := .seq C71_10 C71_11
theorem u71_12 : wpC P C71_12 T L (rdy h) Q = wpC P (.seq C71_10 C71_11) T L (rdy h) Q := rfl
def C71_13 : ACode := .seq (.reg L71_0) C71_12
theorem u71_13 : wpC P C71_13 T L (rdy h) Q = wpC P (.seq (.reg L71_0) C71_12) T L (rdy h) Q := rfl
def F71 : AFunc := ⟨33, [.tmp 2], C71_13⟩
theorem cF71 : compB Try.prog 71 = some F71 := by kernel_rfl
end
attribute [local go_sem ↓] u71_0 u71_1 u71_2 u71_3 u71_4 u71_5 u71_6 u71_7 u71_8 u71_9 u71_10 u71_11 u71_12 u71_13 v71_0 v71_1 v71_2 v71_3 v71_4 v71_5 v71_6 v71_7 v71_8 v71_9 v71_10 v71_11 v71_12 v71_13 v71_14 v71_15 v71_16 v71_17 v71_18 v71_19
theorem c_ValidTurns (l : List Turn) (v : AV) (h : H) (hl : SlT h v l) (hn : miniU l) : bm Try.prog 71 [v] h = some (ib (okTurns l), h) := by
  refine bm_eq cF71 ?_
  simp +contextual (maxSteps := 2000000) only [go_sem, Nat.reduceEqDiff, reduceCtorEq, Nat.reduceAdd, Nat.reduceLeDiff, F71, hl.len]
  refine wpC_loop (fun i T L h' => Grow h h' ∧ T 0 = .v v ∧ T 5 = .v v ∧ T 6 = .v (.one (.int .i64 l.length)) ∧ T 7 = .v (.one (.int .i64 i)) ∧ Upto (okTurnAt l) i) l.length ?_ ?_ (Nat.zero_le _) ?_
  · rintro i T L h' hi ⟨g, t0, t5, t6, t7, hu⟩
    have hl' := hl.grow g
    have e3 := okTurnAt_eq hi
    have g2 : Grow h' (h'.alloc (encT l[i]) 165) := Grow.alloc _ _ _
    have hl2 := hl'.grow g2
    obtain ⟨v', e1, s1⟩ := hl2.takeO (i := i) (by omega) (kd := .i64)
    have f1 := c_hasT l v 149 [(h'.n, 0)] (fun u => decide (u.fr = l[i].to)) _ hl2 (Nat.le_trans hn.len (by decide)) (fun j hj x hx => c_ValidTurns1 x l[i] _ _ Box.new)
    have f2 := c_hasT (l.take i) v' 150 [(h'.n, 0)] (fun u => decide (u.fr = l[i].fr) || decide (u.to = l[i].to)) _ s1 (by have := hn.len; simp; unfold big; omega) (fun j hj x hx => c_ValidTurns2 x l[i] _ _ Box.new)
    simp only [encT] at f1 f2 e1
    cases b1 : okName l[i].fr with
    | false =>
      simp +contextual (maxSteps := 2000000) only [go_sem, Nat.reduceEqDiff, reduceCtorEq, Nat.reduceAdd, Nat.reduceLeDiff, t0, t5, t6, t7, hl'.iaddr hi, hl'.whole hi, encT, lt_true hi, c_isName _ _ (hn.at hi), b1]
      rw [okTurns_not hi (by rw [e3, b1]; rfl)]
      exact gcR_of g rfl ⟨rfl, rfl⟩
    | true =>
    cases b2 : l.any (fun u => decide (u.fr = l[i].to)) with
    | false =>
      rw [b2] at f1
      simp +contextual (maxSteps := 2000000) only [go_sem, Nat.reduceEqDiff, reduceCtorEq, Nat.reduceAdd, Nat.reduceLeDiff, t0, t5, t6, t7, hl'.iaddr hi, hl'.whole hi, encT, lt_true hi, c_isName _ _ (hn.at hi), b1, f1]
      rw [okTurns_not hi (by rw [e3, b1, b2]; rfl)]
      exact gcR_of (g.trans g2) rfl ⟨rfl, rfl⟩
    | true =>
    rw [b2] at f1
    cases b3 : (l.take i).any (fun u => decide (u.fr = l[i].fr) || decide (u.to = l[i].to)) with
    | true =>
      rw [b3] at f2
      simp +contextual (maxSteps := 2000000) only [go_sem, Nat.reduceEqDiff, reduceCtorEq, Nat.reduceAdd, Nat.reduceLeDiff, t0, t5, t6, t7, hl'.iaddr hi, hl'.whole hi, encT, lt_true hi, c_isName _ _ (hn.at hi), b1, f1, e1, f2]
      rw [okTurns_not hi (by rw [e3, b1, b2, b3]; rfl)]
      exact gcR_of (g.trans g2) rfl ⟨rfl, rfl⟩
    | false =>
      rw [b3] at f2
      simp +contextual (maxSteps := 2000000) only [go_sem, Nat.reduceEqDiff, reduceCtorEq, Nat.reduceAdd, Nat.reduceLeDiff, t0, t5, t6, t7, hl'.iaddr hi, hl'.whole hi, encT, lt_true hi, c_isName _ _ (hn.at hi), b1, f1, e1, f2]
      exact ⟨g.trans g2, by rw [wrap_next hi hn.lt], hu.next (by rw [e3, b1, b2, b3]; rfl)⟩
  · rintro T L h' ⟨g, t0, t5, t6, t7, hu⟩
    simp +contextual (maxSteps := 2000000) only [go_sem, Nat.reduceEqDiff, reduceCtorEq, Nat.reduceAdd, Nat.reduceLeDiff, t0, t5, t6, t7, (hl.grow g).len, lt_false, okTurns_of hu]
    exact gcR_of g rfl ⟨rfl, rfl⟩
  · simp +contextual (maxSteps := 2000000) only [go_sem, Nat.reduceEqDiff, reduceCtorEq, Nat.reduceAdd, Nat.reduceLeDiff]
    exact ⟨Grow.refl h, rfl, Upto.zero⟩
section
variable {P : Program} {T : Tb} {L : Lb} {h : H} {Q : PostC} {K : Post}
/-! impl.TurnSignature -/
def L64_0 : List AStep := [⟨.box 51 (.t 1), (some 3), none, []⟩, ⟨.alloc 51 [(.sl none 0 (some 0))], (some 4), none, []⟩]
theorem v64_0 : wpS P L64_0 T L (rdy h) K = wpS P ([⟨.box 51 (.t 1), (some 3), none, []⟩, ⟨.alloc 51 [(.sl none 0 (some 0))], (some 4), none, []⟩]) T L (rdy h) K := rfl
def L64_1 : List AStep := [⟨.not (.t 12), (some 13), (some (10, false)), []⟩, ⟨.pick (.t 10) (.c (.bool true)) (.t 13), (some 14), none, []⟩]
theorem v64_1 : wpS P L64_1 T L (rdy h) K = wpS P ([⟨.not (.t 12), (some 13), (some (10, false)), []⟩, ⟨.pick (.t 10) (.c (.bool true)) (.t 13), (some 14), none, []⟩]) T L (rdy h) K := rfl
def L64_2 : List AStep := ⟨.load 1 true (.t 3), (some 11), (some (10, false)), []⟩ :: ⟨.call 93 [(.t 11)], (some 12), (some (10, false)), []⟩ :: L64_1
theorem v64_2 : wpS P L64_2 T L (rdy h) K = wpS P (⟨.load 1 true (.t 3), (some 11), (some (10, false)), []⟩ :: ⟨.call 93 [(.t 11)], (some 12), (some (10, false)), []⟩ :: L64_1) T L (rdy h) K := rfl
def L64_3 : List AStep := ⟨.not (.t 8), (some 9), none, []⟩ :: ⟨.mov (.t 9), (some 10), none, []⟩ :: L64_2
theorem v64_3 : wpS P L64_3 T L (rdy h) K = wpS P (⟨.not (.t 8), (some 9), none, []⟩ :: ⟨.mov (.t 9), (some 10), none, []⟩ :: L64_2) T L (rdy h) K := rfl
def L64_4 : List AStep := ⟨.mov (.t 0), (some 7), none, []⟩ :: ⟨.call 71 [(.t 7)], (some 8), none, []⟩ :: L64_3
theorem v64_4 : wpS P L64_4 T L (rdy h) K = wpS P (⟨.mov (.t 0), (some 7), none, []⟩ :: ⟨.call 71 [(.t 7)], (some 8), none, []⟩ :: L64_3) T L (rdy h) K := rfl
def L64_5 : List AStep := [⟨.build [(.sl none 0 (some 0))] [], (some 15), none, []⟩, ⟨.store 1 (.t 4) (.t 15), none, none, []⟩]
theorem v64_5 : wpS P L64_5 T L (rdy h) K = wpS P ([⟨.build [(.sl none 0 (some 0))] [], (some 15), none, []⟩, ⟨.store 1 (.t 4) (.t 15), none, none, []⟩]) T L (rdy h) K := rfl
def L64_6 : List AStep := [⟨.alloc 51 [(.sl none 0 (some 0))], (some 5), none, []⟩, ⟨.store 1 (.t 5) (.t 17), none, none, []⟩]
theorem v64_6 : wpS P L64_6 T L (rdy h) K = wpS P ([⟨.alloc 51 [(.sl none 0 (some 0))], (some 5), none, []⟩, ⟨.store 1 (.t 5) (.t 17), none, none, []⟩]) T L (rdy h) K := rfl
def L64_7 : List AStep := ⟨.load 1 true (.t 3), (some 16), none, []⟩ :: ⟨.call 100 [(.t 16)], (some 17), none, []⟩ :: L64_6
theorem v64_7 : wpS P L64_7 T L (rdy h) K = wpS P (⟨.load 1 true (.t 3), (some 16), none, []⟩ :: ⟨.call 100 [(.t 16)], (some 17), none, []⟩ :: L64_6) T L (rdy h) K := rfl
def L64_8 : List AStep := [⟨.len (.t 19), (some 20), none, []⟩, ⟨.mov (.c (.int .i64 0)), (some 21), none, []⟩]
theorem v64_8 : wpS P L64_8 T L (rdy h) K = wpS P ([⟨.len (.t 19), (some 20), none, []⟩, ⟨.mov (.c (.int .i64 0)), (some 21), none, []⟩]) T L (rdy h) K := rfl
def L64_9 : List AStep := ⟨.faddr 0 (.t 5), (some 18), none, []⟩ :: ⟨.load 1 false (.t 18), (some 19), none, []⟩ :: L64_8
theorem v64_9 : wpS P L64_9 T L (rdy h) K = wpS P (⟨.faddr 0 (.t 5), (some 18), none, []⟩ :: ⟨.load 1 false (.t 18), (some 19), none, []⟩ :: L64_8) T L (rdy h) K := rfl
def L64_10 : List AStep := [⟨.bin .lss (.t 21) (.t 20), (some 22), none, []⟩]
theorem v64_10 : wpS P L64_10 T L (rdy h) K = wpS P ([⟨.bin .lss (.t 21) (.t 20), (some 22), none, []⟩]) T L (rdy h) K := rfl
def L64_11 : List AStep := [⟨.mov (.t 21), (some 23), none, []⟩, ⟨.mov (.t 23), (some 6), none, []⟩]
theorem v64_11 : wpS P L64_11 T L (rdy h) K = wpS P ([⟨.mov (.t 21), (some 23), none, []⟩, ⟨.mov (.t 23), (some 6), none, []⟩]) T L (rdy h) K := rfl
def L64_12 : List AStep := [⟨.faddr 0 (.t 35), (some 36), none, []⟩, ⟨.store 1 (.t 36) (.t 34), none, none, []⟩]
theorem v64_12 : wpS P L64_12 T L (rdy h) K = wpS P ([⟨.faddr 0 (.t 35), (some 36), none, []⟩, ⟨.store 1 (.t 36) (.t 34), none, none, []⟩]) T L (rdy h) K := rfl
def L64_13 : List AStep := ⟨.call 141 [(.t 27), (.t 33)], (some 34), none, [(.load 1 false (.t 24), (some 25), none)]⟩ :: ⟨.iaddr 4 (.t 25) (.t 26), (some 35), none, []⟩ :: L64_12
theorem v64_13 : wpS P L64_13 T L (rdy h) K = wpS P (⟨.call 141 [(.t 27), (.t 33)], (some 34), none, [(.load 1 false (.t 24), (some 25), none)]⟩ :: ⟨.iaddr 4 (.t 25) (.t 26), (some 35), none, []⟩ :: L64_12) T L (rdy h) K := rfl
def L64_14 : List AStep := ⟨.faddr 0 (.t 31), (some 32), none, []⟩ :: ⟨.load 1 false (.t 32), (some 33), none, []⟩ :: L64_13
theorem v64_14 : wpS P L64_14 T L (rdy h) K = wpS P (⟨.faddr 0 (.t 31), (some 32), none, []⟩ :: ⟨.load 1 false (.t 32), (some 33), none, []⟩ :: L64_13) T L (rdy h) K := rfl
def L64_15 : List AStep := ⟨.mov (.t 6), (some 30), none, []⟩ :: ⟨.iaddr 4 (.t 29) (.t 30), (some 31), none, []⟩ :: L64_14
theorem v64_15 : wpS P L64_15 T L (rdy h) K = wpS P (⟨.mov (.t 6), (some 30), none, []⟩ :: ⟨.iaddr 4 (.t 29) (.t 30), (some 31), none, []⟩ :: L64_14) T L (rdy h) K := rfl
def L64_16 : List AStep := ⟨.faddr 0 (.t 5), (some 28), none, []⟩ :: ⟨.load 1 false (.t 28), (some 29), none, []⟩ :: L64_15
theorem v64_16 : wpS P L64_16 T L (rdy h) K = wpS P (⟨.faddr 0 (.t 5), (some 28), none, []⟩ :: ⟨.load 1 false (.t 28), (some 29), none, []⟩ :: L64_15) T L (rdy h) K := rfl
def L64_17 : List AStep := ⟨.mov (.t 6), (some 26), none, []⟩ :: ⟨.mov (.t 0), (some 27), none, []⟩ :: L64_16
theorem v64_17 : wpS P L64_17 T L (rdy h) K = wpS P (⟨.mov (.t 6), (some 26), none, []⟩ :: ⟨.mov (.t 0), (some 27), none, []⟩ :: L64_16) T L (rdy h) K := rfl
def L64_18 : List AStep := ⟨.faddr 0 (.t 5), (some 24), none, []⟩ :: ⟨.load 1 false (.t 24), (some 25), none, []⟩ :: L64_17
theorem v64_18 : wpS P L64_18 T L (rdy h) K = wpS P (⟨.faddr 0 (.t 5), (some 24), none, []⟩ :: ⟨.load 1 false (.t 24), (some 25), none, []⟩ :: L64_17) T L (rdy h) K := rfl
def L64_19 : List AStep := [⟨.bin .add (.t 21) (.c (.int .i64 1)), (some 37), none, []⟩, ⟨.mov (.t 37), (some 21), none, []⟩]
theorem v64_19 : wpS P L64_19 T L (rdy h) K = wpS P ([⟨.bin .add (.t 21) (.c (.int .i64 1)), (some 37), none, []⟩, ⟨.mov (.t 37), (some 21), none, []⟩]) T L (rdy h) K := rfl
def L64_20 : List AStep := [⟨.load 1 true (.t 5), (some 38), none, []⟩, ⟨.store 1 (.t 4) (.t 38), none, none, []⟩]
theorem v64_20 : wpS P L64_20 T L (rdy h) K = wpS P ([⟨.load 1 true (.t 5), (some 38), none, []⟩, ⟨.store 1 (.t 4) (.t 38), none, none, []⟩]) T L (rdy h) K := rfl
def C64_0 : ACode := .seq (.reg L64_5) .ret
theorem u64_0 : wpC P C64_0 T L (rdy h) Q = wpC P (.seq (.reg L64_5) .ret) T L (rdy h) Q := rfl
def C64_1 : ACode := .cond (.t 14) C64_0 .skip
theorem u64_1 : wpC P C64_1 T L (rdy h) Q = wpC P (.cond (.t 14) C64_0 .skip) T L (rdy h) Q := rfl
def C64_2 : ACode := .seq (.reg L64_4) C64_1
theorem u64_2 : wpC P C64_2 T L (rdy h) Q = wpC P (.seq (.reg L64_4) C64_1) T L (rdy h) Q := rfl
def C64_3 : ACode := .cond (.t 22) .skip (.exit 0)
theorem u64_3 : wpC P C64_3 T L (rdy h) Q = wpC P (.cond (.t 22) .skip (.exit 0)) T L (rdy h) Q := rfl
def C64_4 : ACode := .seq (.reg L64_11) (.reg L64_18)
theorem u64_4 : wpC P C64_4 T L (rdy h) Q = wpC P (.seq (.reg L64_11) (.reg L64_18)) T L (rdy h) Q := rfl
def C64_5 : ACode := .block 1 C64_4
theorem u64_5 : wpC P C64_5 T L (rdy h) Q = wpC P (.block 1 C64_4) T L (rdy h) Q := rfl
def C64_6 : ACode := .seq C64_5 (.reg L64_19)
theorem u64_6 : wpC P C64_6 T L (rdy h) Q = wpC P (.seq C64_5 (.reg L64_19)) T L (rdy h) Q := rfl
def C64_7 : ACode := .seq C64_3 C64_6
theorem u64_7 : wpC P C64_7 T L (rdy h) Q = wpC P (.seq C64_3 C64_6) T L (rdy h) Q := rfl
def C64_8 : ACode := .seq (.reg L64_10) C64_7
theorem u64_8 : wpC P C64_8 T L (rdy h) Q = wpC P (.seq (.reg L64_10) C64_7) T L (rdy h) Q := rfl
def C64_9 : ACode := .block 0 (.loop C64_8)
theorem u64_9 : wpC P C64_9 T L (rdy h) Q = wpC P (.block 0 (.loop C64_8)) T L (rdy h) Q := rfl
def C64_10 : ACode := .seq (.reg L64_9) C64_9
theorem u64_10 : wpC P C64_10 T L (rdy h) Q = wpC P (.seq (.reg L64_9) C64_9) T L (rdy h) Q := rfl
def C64_11 : ACode := .seq (.reg L64_20) .ret
theorem u64_11 : wpC P C64_11 T L (rdy h) Q = wpC P (.seq (.reg L64_20) .ret) T L (rdy h) Q := rfl
def C64_12 : ACode := .seq C64_10 C64_11
theorem u64_12 : wpC P C64_12 T L (rdy h) Q = wpC P (.seq C64_10 C64_11) T L (rdy h) Q := rfl
def C64_13 : ACode := .seq (.reg L64_7) C64_12
theorem u64_13 : wpC P C64_13 T L (rdy h) Q = wpC P (.seq (.reg L64_7) C64_12) T L (rdy h) Q := rfl
def C64_14 : ACode := .seq C64_2 C64_13
theorem u64_14 : wpC P C64_14 T L (rdy h) Q = wpC P (.seq C64_2 C64_13) T L (rdy h) Q := rfl
def C64_15 : ACode := .seq (.reg L64_0) C64_14
theorem u64_15 : wpC P C64_15 T L (rdy h) Q = wpC P (.seq (.reg L64_0) C64_14) T L (rdy h) Q := rfl
def F64 : AFunc := ⟨39, [.cell 4 1 true], C64_15⟩
theorem cF64 : compB Try.prog 64 = some F64 := by kernel_rfl
end
attribute [local go_sem ↓] u64_0 u64_1 u64_2 u64_3 u64_4 u64_5 u64_6 u64_7 u64_8 u64_9 u64_10 u64_11 u64_12 u64_13 u64_14 u64_15 v64_0 v64_1 v64_2 v64_3 v64_4 v64_5 v64_6 v64_7 v64_8 v64_9 v64_10 v64_11 v64_12 v64_13 v64_14 v64_15 v64_16 v64_17 v64_18 v64_19 v64_20
theorem k_iTurnSignature (l : List Turn) (x : List Param) (u p : CV) (h : H) (hl : SlU h u l) (hx : SlG h p x) (hn : miniU l) (hm : miniG x) :
    callK (bm Try.prog 64 [.one u, .agg [p]] h) fun r h' => Grow h h' ∧ ∃ p', r = .agg [p'] ∧ NwG h h' p' (turnSig l x) := by
  refine bm_of cF64 ?_
  unfold turnSig
  cases h1 : okTurns l with
  | false =>
    simp +contextual (maxSteps := 2000000) only [go_sem, Nat.reduceEqDiff, reduceCtorEq, Nat.reduceAdd, Nat.reduceLeDiff, F64, c_ValidTurns _ _ _ hl.out hn, h1, false_and, if_false]
    exact ⟨Grow.refl h, _, rfl, .nil⟩
  | true =>
  cases h2 : okSig x with
  | false =>
    simp +contextual (maxSteps := 2000000) only [go_sem, Nat.reduceEqDiff, reduceCtorEq, Nat.reduceAdd, Nat.reduceLeDiff, F64, c_ValidTurns _ _ _ hl.out hn, h1, c_ValidSignature _ _ _ hx.out hm.sm, h2, and_false, if_false]
    exact ⟨Grow.refl h, _, rfl, .nil⟩
  | true =>
  simp +contextual (maxSteps := 2000000) only [go_sem, Nat.reduceEqDiff, reduceCtorEq, Nat.reduceAdd, Nat.reduceLeDiff, F64, c_ValidTurns _ _ _ hl.out hn, h1, c_ValidSignature _ _ _ hx.out hm.sm, h2, and_self, if_true]
  refine wp_call (c_copyOfS x _ h hx.out hm.sm.1) ?_
  rintro r h1 ⟨g1, c, rfl, n1⟩
  simp +contextual (maxSteps := 2000000) only [go_sem, Nat.reduceEqDiff, reduceCtorEq, Nat.reduceAdd, Nat.reduceLeDiff, n1.length]
  refine wpC_loop (fun i T L h' => Grow h h' ∧ T 0 = .v (.one u) ∧ T 4 = .lp 4 0 ∧ (L 4).2 = [.sl none 0 (some 0)] ∧ T 5 = .lp 5 0 ∧ (L 5).2 = [c] ∧ T 20 = .v (.one (.int .i64 x.length)) ∧ T 21 = .v (.one (.int .i64 i)) ∧ NwQ h h' (.one c) (mapT (turnQ l) x i)) x.length ?_ ?_ (Nat.zero_le _) ?_
  · rintro i T L h' hi ⟨g, t0, t4, l4, t5, l5, t20, t21, no⟩
    have hlen : (mapT (turnQ l) x i).length = x.length := mapT_len (by omega)
    have hio : i < (mapT (turnQ l) x i).length := by omega
    have hf := (no.sl lenQ).fieldO (off := 0) hio (by omega)
    rw [mapT_at hi hio] at hf
    simp +contextual (maxSteps := 2000000) only [go_sem, Nat.reduceEqDiff, reduceCtorEq, Nat.reduceAdd, Nat.reduceLeDiff, t0, t4, l4, t5, l5, t20, t21, no.iaddr hio, hf, lt_true hi, c_turn _ _ _ _ (hl.out.grow g) hn.lt]
    refine wp_set (x := turnQ l x[i]) (off := 0) (vs := [.str (turned l x[i].name)]) lenQ no hio rfl (by rw [mapT_at hi hio]; rfl) (Nat.le_of_ble_eq_true rfl) g ?_
    intro h2 g2 n2 s2
    simp +contextual (maxSteps := 2000000) only [go_sem, Nat.reduceEqDiff, reduceCtorEq, Nat.reduceAdd, Nat.reduceLeDiff, t0, t4, l4, t5, l5, t20, t21]
    rw [mapT_set hi] at n2
    exact ⟨g2, by rw [wrap_next hi (Nat.lt_of_le_of_lt hm.len (by decide))], n2⟩
  · rintro T L h' ⟨g, t0, t4, l4, t5, l5, t20, t21, no⟩
    rw [mapT_all] at no
    simp +contextual (maxSteps := 2000000) only [go_sem, Nat.reduceEqDiff, reduceCtorEq, Nat.reduceAdd, Nat.reduceLeDiff, t0, t4, l4, t5, l5, t20, t21, lt_false]
    exact gcK_of ⟨g, _, rfl, ⟨no⟩⟩ (fun hs _ => ⟨Grow.refl h, _, rfl, ⟨no.scalar (by simpa [AV.scalar] using hs) h⟩⟩)
  · simp +contextual (maxSteps := 2000000) only [go_sem, Nat.reduceEqDiff, reduceCtorEq, Nat.reduceAdd, Nat.reduceLeDiff]
    exact ⟨g1, rfl, by rw [mapT_zero]; exact n1⟩
end Go.Proofs.Ytnphlonhogcedaa.Am
