/- Contracts: turns, of both sides. -/
import Derived.Test.YtekkimfdcbgcoaaA2
import Derived.Test.YtekkimfdcbgcoaaA3
import Derived.Test.YtekkimfdcbgcoaaA4
import Derived.Test.YtekkimfdcbgcoaaB1
import Derived.Test.YtekkimfdcbgcoaaB2
namespace Go.Proofs.Ytekkimfdcbgcoaa.Am
open Go
set_option maxRecDepth 100000
set_option maxHeartbeats 4000000
set_option linter.unusedSimpArgs false
set_option linter.unusedVariables false
attribute [local go_sem ↓] bv_t bv_c ev_t ev_c put_same put_ne put_none kill_at pro_at lb_same lb_ne start_zero start_succ wpC_seq wpC_reg wpC_cond wpC_block wpC_skip wpC_exit wpC_ret thenQ_normal thenQ_exit thenQ_ret inBlk_normal inBlk_exit inBlk_ret wpS_nil wpS_step wpS_again wpS_guard wpO_mov wpO_load wpO_faddr wpO_nilCheck wpO_pick wpO_build wpO_bin wpO_eqb wpO_eqst wpO_eqnil wpO_not wpO_conv wpO_bytesStr wpO_iaddr wpO_idxStr wpO_field wpO_extract wpO_len wpO_lenStr wpO_cap wpO_min wpO_slice wpO_sliceStr wpO_alloc wpO_box wpO_store wpO_call wpO_callv wpO_mkfn wpO_buildSlice wpO_mkslice wpO_append wpO_appz proA_nil proA_cons tmpX_nil tmpX_tmp tmpX_cell doneB_normal doneB_ret agK_cons agK_nil agK_guard agG_tt agG_ff agG_tf agG_ft agG_undef pureB_load results_one results_two results_nil resBs_cons resBs_nil resB_tmp resB_cell
attribute [local go_sem] kill_v kill_lp_ne kill_lp_same pro_v pro_lp_same pro_lp_ne av_v av_lp optB_some optX_some valX_eq ldX_lp ldX_v faX_lp faX_v ncX_lp ncX_ptr ncX_fn boxK_one boxK_agg stL_some stK_lp_one stK_lp_agg stK_v_one stK_v_agg proM_v proM_lp callG_mk callVG_mk callvK_fn fnG_mk ptrsA_nil ptrsA_cons callH_some whenA_true whenA_false guardH_tt guardH_ff guardH_tf guardH_ft guardH_undef agV_one agV_agg lenO_sl lenStrO_str notO_bool pickO_bool convO_int eqbO_bool eqnilO_sl extractO_tup capO_sl minO_int loadL_one loadL_all storeL_eq fillA_nil fillA_one fillA_agg nat_ge neg_ge nat_lt neg_lt buildO bin_add bin_sub bin_mul bin_eql bin_neq bin_lss bin_leq bin_gtr bin_geq str_eql str_neq str_lss str_leq str_gtr str_geq retK_some endK_mk gcK_same gcK_int gcK_bool tupO_one tupO_agg rdy_self ib ii Option.map_none Option.map_some Option.some.injEq exists_eq_left' exists_eq_left ne_eq not_false_eq_true if_true if_false List.map_cons List.map_nil List.getElem?_cons_zero List.getElem?_cons_succ List.length_cons List.length_nil List.take_succ_cons List.take_zero List.take_nil List.drop_succ_cons List.drop_zero List.drop_nil List.cons_append List.nil_append List.append_nil List.set_cons_zero List.set_cons_succ Nat.zero_add forall_const true_and and_true and_self Bool.false_eq_true false_implies true_implies implies_true Bool.not_true Bool.not_false Bool.not_eq_true' Bool.not_eq_false' beq_self_eq_true Bool.bne_true Bool.bne_false
attribute [local go_sem] lenI lenS lenP lenQ lenB lenL lenT encI_0 encS_0 encP_0 encP_1 encQ_0 encQ_1 encQ_2 encQ_3 encB_0 encB_1 encL_0 encL_1 encT_0 encT_1
attribute [local go_sem low] whenA_bool guardH_bool
/-! spec.turnAt -/
def L113_0 : List AStep := [⟨.mov (.c (.int .i64 0)), (some 4), none, []⟩]
theorem v113_0 : VS L113_0.eq_1 := rfl
def L113_1 : List AStep := [⟨.mov (.c (.int .i64 0)), (some 5), none, []⟩]
theorem v113_1 : VS L113_1.eq_1 := rfl
def L113_2 : List AStep := [⟨.len (.t 7), (some 8), none, []⟩, ⟨.bin .lss (.t 6) (.t 8), (some 9), none, []⟩]
theorem v113_2 : VS L113_2.eq_1 := rfl
def L113_3 : List AStep := ⟨.mov (.t 5), (some 6), none, []⟩ :: ⟨.mov (.t 0), (some 7), none, []⟩ :: L113_2
theorem v113_3 : VS L113_3.eq_1 := rfl
def L113_4 : List AStep := [⟨.bin .eql (.t 16) (.t 17), (some 18), none, []⟩]
theorem v113_4 : VS L113_4.eq_1 := rfl
def L113_5 : List AStep := ⟨.load 1 false (.t 15), (some 16), none, []⟩ :: ⟨.mov (.t 1), (some 17), none, []⟩ :: L113_4
theorem v113_5 : VS L113_5.eq_1 := rfl
def L113_6 : List AStep := ⟨.iaddr 2 (.t 12) (.t 13), (some 14), none, []⟩ :: ⟨.faddr 0 (.t 14), (some 15), none, []⟩ :: L113_5
theorem v113_6 : VS L113_6.eq_1 := rfl
def L113_7 : List AStep := ⟨.mov (.t 0), (some 12), none, []⟩ :: ⟨.mov (.t 5), (some 13), none, []⟩ :: L113_6
theorem v113_7 : VS L113_7.eq_1 := rfl
def L113_8 : List AStep := [⟨.mov (.t 5), (some 19), none, []⟩, ⟨.mov (.t 19), (some 4), none, []⟩]
theorem v113_8 : VS L113_8.eq_1 := rfl
def L113_9 : List AStep := [⟨.mov (.t 11), (some 5), none, []⟩]
theorem v113_9 : VS L113_9.eq_1 := rfl
def L113_10 : List AStep := ⟨.mov (.t 5), (some 10), none, []⟩ :: ⟨.bin .add (.t 10) (.c (.int .i64 1)), (some 11), none, []⟩ :: L113_9
theorem v113_10 : VS L113_10.eq_1 := rfl
def L113_11 : List AStep := [⟨.mov (.c (.int .i64 (-1))), (some 4), none, []⟩]
theorem v113_11 : VS L113_11.eq_1 := rfl
def C113_0 : ACode := .cond (.t 9) .skip (.exit 0)
theorem u113_0 : VC C113_0.eq_1 := rfl
def C113_1 : ACode := .seq (.reg L113_3) C113_0
theorem u113_1 : VC C113_1.eq_1 := rfl
def C113_2 : ACode := .seq (.reg L113_8) .ret
theorem u113_2 : VC C113_2.eq_1 := rfl
def C113_3 : ACode := .cond (.t 18) C113_2 .skip
theorem u113_3 : VC C113_3.eq_1 := rfl
def C113_4 : ACode := .seq (.reg L113_7) C113_3
theorem u113_4 : VC C113_4.eq_1 := rfl
def C113_5 : ACode := .block 1 C113_4
theorem u113_5 : VC C113_5.eq_1 := rfl
def C113_6 : ACode := .seq C113_5 (.reg L113_10)
theorem u113_6 : VC C113_6.eq_1 := rfl
def C113_7 : ACode := .seq C113_1 C113_6
theorem u113_7 : VC C113_7.eq_1 := rfl
def C113_8 : ACode := .block 0 (.loop C113_7)
theorem u113_8 : VC C113_8.eq_1 := rfl
def C113_9 : ACode := .seq (.reg L113_1) C113_8
theorem u113_9 : VC C113_9.eq_1 := rfl
def C113_10 : ACode := .seq (.reg L113_11) .ret
theorem u113_10 : VC C113_10.eq_1 := rfl
def C113_11 : ACode := .seq C113_9 C113_10
theorem u113_11 : VC C113_11.eq_1 := rfl
def C113_12 : ACode := .seq (.reg L113_0) C113_11
theorem u113_12 : VC C113_12.eq_1 := rfl
def F113 : AFunc := ⟨20, [.tmp 4], C113_12⟩
theorem cF113 : compB Try.prog 113 = some F113 := by kernel_rfl
attribute [local go_sem ↓] u113_0 u113_1 u113_2 u113_3 u113_4 u113_5 u113_6 u113_7 u113_8 u113_9 u113_10 u113_11 u113_12 v113_0 v113_1 v113_2 v113_3 v113_4 v113_5 v113_6 v113_7 v113_8 v113_9 v113_10 v113_11
theorem c_turnAt (l : List Turn) (v : AV) (s : ByteArray) (h : H) (hl : SlT h v l) (hn : l.length < 2 ^ 62) : bm Try.prog 113 [v, .one (.str s)] h = some (ii (turnAt l s), h) := by
  refine bm_eq cF113 ?_
  simp +contextual (maxSteps := 2000000) only [go_sem, Nat.reduceEqDiff, reduceCtorEq, Nat.reduceAdd, Nat.reduceLeDiff, F113]
  refine wpC_loop (fun i T L h' => h' = h ∧ T 0 = .v v ∧ T 1 = .v (.one (.str s)) ∧ T 5 = .v (.one (.int .i64 i)) ∧ Pre (fun p => decide (p.fr = s)) false l i) l.length ?_ ?_ (Nat.zero_le _) ?_
  · rintro i T L h' hi ⟨rfl, h0, h1, h3, hp⟩
    simp +contextual (maxSteps := 2000000) only [go_sem, Nat.reduceEqDiff, reduceCtorEq, Nat.reduceAdd, Nat.reduceLeDiff, h0, h1, h3, hl.len, hl.iaddr hi, hl.fieldO hi, lt_true hi]
    (repeat' (first | refine And.intro ?_ ?_ | intro _)) <;> first | rfl | rw [wrap_next hi hn] | exact hp.next hi ‹_› | rw [turnAt, idx_hit hi hp ‹_›]
  · rintro T L h' ⟨rfl, h0, h1, h3, hp⟩
    simp +contextual (maxSteps := 2000000) only [go_sem, Nat.reduceEqDiff, reduceCtorEq, Nat.reduceAdd, Nat.reduceLeDiff, h0, h1, h3, hl.len, lt_false, turnAt, idx_none hp]
  · simp +contextual (maxSteps := 2000000) only [go_sem, Nat.reduceEqDiff, reduceCtorEq, Nat.reduceAdd, Nat.reduceLeDiff]
    (repeat' (first | refine And.intro ?_ ?_ | intro _)) <;> first | rfl | exact Pre.zero
/-! spec.turned -/
def L60_0 : List AStep := [⟨.mov (.c (.str (strOfNums []))), (some 4), none, []⟩]
theorem v60_0 : VS L60_0.eq_1 := rfl
def L60_1 : List AStep := [⟨.call 113 [(.t 6), (.t 7)], (some 8), none, []⟩, ⟨.mov (.t 8), (some 5), none, []⟩]
theorem v60_1 : VS L60_1.eq_1 := rfl
def L60_2 : List AStep := ⟨.mov (.t 0), (some 6), none, []⟩ :: ⟨.mov (.t 1), (some 7), none, []⟩ :: L60_1
theorem v60_2 : VS L60_2.eq_1 := rfl
def L60_3 : List AStep := [⟨.mov (.t 5), (some 9), none, []⟩, ⟨.bin .geq (.t 9) (.c (.int .i64 0)), (some 10), none, []⟩]
theorem v60_3 : VS L60_3.eq_1 := rfl
def L60_4 : List AStep := [⟨.load 1 false (.t 14), (some 15), none, []⟩, ⟨.mov (.t 15), (some 4), none, []⟩]
theorem v60_4 : VS L60_4.eq_1 := rfl
def L60_5 : List AStep := ⟨.iaddr 2 (.t 11) (.t 12), (some 13), none, []⟩ :: ⟨.faddr 1 (.t 13), (some 14), none, []⟩ :: L60_4
theorem v60_5 : VS L60_5.eq_1 := rfl
def L60_6 : List AStep := ⟨.mov (.t 0), (some 11), none, []⟩ :: ⟨.mov (.t 5), (some 12), none, []⟩ :: L60_5
theorem v60_6 : VS L60_6.eq_1 := rfl
def L60_7 : List AStep := [⟨.mov (.t 1), (some 16), none, []⟩, ⟨.mov (.t 16), (some 4), none, []⟩]
theorem v60_7 : VS L60_7.eq_1 := rfl
def C60_0 : ACode := .seq (.reg L60_6) .ret
theorem u60_0 : VC C60_0.eq_1 := rfl
def C60_1 : ACode := .cond (.t 10) C60_0 .skip
theorem u60_1 : VC C60_1.eq_1 := rfl
def C60_2 : ACode := .seq (.reg L60_3) C60_1
theorem u60_2 : VC C60_2.eq_1 := rfl
def C60_3 : ACode := .seq (.reg L60_7) .ret
theorem u60_3 : VC C60_3.eq_1 := rfl
def C60_4 : ACode := .seq C60_2 C60_3
theorem u60_4 : VC C60_4.eq_1 := rfl
def C60_5 : ACode := .seq (.reg L60_2) C60_4
theorem u60_5 : VC C60_5.eq_1 := rfl
def C60_6 : ACode := .seq (.reg L60_0) C60_5
theorem u60_6 : VC C60_6.eq_1 := rfl
def F60 : AFunc := ⟨17, [.tmp 4], C60_6⟩
theorem cF60 : compB Try.prog 60 = some F60 := by kernel_rfl
attribute [local go_sem ↓] u60_0 u60_1 u60_2 u60_3 u60_4 u60_5 u60_6 v60_0 v60_1 v60_2 v60_3 v60_4 v60_5 v60_6 v60_7
theorem c_turned (l : List Turn) (v : AV) (s : ByteArray) (h : H) (hl : SlT h v l) (hn : l.length < 2 ^ 62) : bm Try.prog 60 [v, .one (.str s)] h = some (.one (.str (turned l s)), h) := by
  refine bm_eq cF60 ?_
  rcases idx_cases (fun p : Turn => decide (p.fr = s)) l with e | ⟨j, hj, e, _⟩ <;> (replace e := (show turnAt l s = _ from e))
  · simp +contextual (maxSteps := 2000000) only [go_sem, Nat.reduceEqDiff, reduceCtorEq, Nat.reduceAdd, Nat.reduceLeDiff, F60, c_turnAt _ _ _ _ hl hn, e, turned_none e]
  · simp +contextual (maxSteps := 2000000) only [go_sem, Nat.reduceEqDiff, reduceCtorEq, Nat.reduceAdd, Nat.reduceLeDiff, F60, c_turnAt _ _ _ _ hl hn, e, turned_some hj e, hl.iaddr hj, hl.fieldO hj]
/-! spec.validTurns -/
def L57_0 : List AStep := [⟨.mov (.c (.bool false)), (some 2), none, []⟩]
theorem v57_0 : VS L57_0.eq_1 := rfl
def L57_1 : List AStep := [⟨.mov (.c (.int .i64 0)), (some 3), none, []⟩]
theorem v57_1 : VS L57_1.eq_1 := rfl
def L57_2 : List AStep := [⟨.len (.t 6), (some 7), none, []⟩, ⟨.bin .lss (.t 5) (.t 7), (some 8), none, []⟩]
theorem v57_2 : VS L57_2.eq_1 := rfl
def L57_3 : List AStep := ⟨.mov (.t 3), (some 5), none, []⟩ :: ⟨.mov (.t 0), (some 6), none, []⟩ :: L57_2
theorem v57_3 : VS L57_3.eq_1 := rfl
def L57_4 : List AStep := [⟨.pick (.t 28) (.c (.bool true)) (.t 38), (some 39), none, []⟩]
theorem v57_4 : VS L57_4.eq_1 := rfl
def L57_5 : List AStep := ⟨.call 113 [(.t 31), (.t 36)], (some 37), (some (28, false)), []⟩ :: ⟨.bin .geq (.t 37) (.c (.int .i64 0)), (some 38), (some (28, false)), []⟩ :: L57_4
theorem v57_5 : VS L57_5.eq_1 := rfl
def L57_6 : List AStep := ⟨.faddr 0 (.t 34), (some 35), (some (28, false)), []⟩ :: ⟨.load 1 false (.t 35), (some 36), (some (28, false)), []⟩ :: L57_5
theorem v57_6 : VS L57_6.eq_1 := rfl
def L57_7 : List AStep := ⟨.mov (.t 3), (some 33), (some (28, false)), []⟩ :: ⟨.iaddr 2 (.t 32) (.t 33), (some 34), (some (28, false)), []⟩ :: L57_6
theorem v57_7 : VS L57_7.eq_1 := rfl
def L57_8 : List AStep := ⟨.slice 86 2 (.t 29) none (some (.t 30)) none, (some 31), (some (28, false)), []⟩ :: ⟨.mov (.t 0), (some 32), (some (28, false)), []⟩ :: L57_7
theorem v57_8 : VS L57_8.eq_1 := rfl
def L57_9 : List AStep := ⟨.mov (.t 0), (some 29), (some (28, false)), []⟩ :: ⟨.mov (.t 3), (some 30), (some (28, false)), []⟩ :: L57_8
theorem v57_9 : VS L57_9.eq_1 := rfl
def L57_10 : List AStep := ⟨.pick (.t 18) (.c (.bool true)) (.t 26), (some 27), none, []⟩ :: ⟨.mov (.t 27), (some 28), none, []⟩ :: L57_9
theorem v57_10 : VS L57_10.eq_1 := rfl
def L57_11 : List AStep := ⟨.call 113 [(.t 19), (.t 24)], (some 25), (some (18, false)), []⟩ :: ⟨.bin .lss (.t 25) (.c (.int .i64 0)), (some 26), (some (18, false)), []⟩ :: L57_10
theorem v57_11 : VS L57_11.eq_1 := rfl
def L57_12 : List AStep := ⟨.faddr 1 (.t 22), (some 23), (some (18, false)), []⟩ :: ⟨.load 1 false (.t 23), (some 24), (some (18, false)), []⟩ :: L57_11
theorem v57_12 : VS L57_12.eq_1 := rfl
def L57_13 : List AStep := ⟨.mov (.t 3), (some 21), (some (18, false)), []⟩ :: ⟨.iaddr 2 (.t 20) (.t 21), (some 22), (some (18, false)), []⟩ :: L57_12
theorem v57_13 : VS L57_13.eq_1 := rfl
def L57_14 : List AStep := ⟨.mov (.t 0), (some 19), (some (18, false)), []⟩ :: ⟨.mov (.t 0), (some 20), (some (18, false)), []⟩ :: L57_13
theorem v57_14 : VS L57_14.eq_1 := rfl
def L57_15 : List AStep := ⟨.not (.t 16), (some 17), none, []⟩ :: ⟨.mov (.t 17), (some 18), none, []⟩ :: L57_14
theorem v57_15 : VS L57_15.eq_1 := rfl
def L57_16 : List AStep := ⟨.load 1 false (.t 14), (some 15), none, []⟩ :: ⟨.call 112 [(.t 15)], (some 16), none, []⟩ :: L57_15
theorem v57_16 : VS L57_16.eq_1 := rfl
def L57_17 : List AStep := ⟨.iaddr 2 (.t 11) (.t 12), (some 13), none, []⟩ :: ⟨.faddr 0 (.t 13), (some 14), none, []⟩ :: L57_16
theorem v57_17 : VS L57_17.eq_1 := rfl
def L57_18 : List AStep := ⟨.mov (.t 0), (some 11), none, []⟩ :: ⟨.mov (.t 3), (some 12), none, []⟩ :: L57_17
theorem v57_18 : VS L57_18.eq_1 := rfl
def L57_19 : List AStep := [⟨.mov (.c (.bool false)), (some 2), none, []⟩]
theorem v57_19 : VS L57_19.eq_1 := rfl
def L57_20 : List AStep := [⟨.mov (.c (.int .i64 0)), (some 4), none, []⟩]
theorem v57_20 : VS L57_20.eq_1 := rfl
def L57_21 : List AStep := [⟨.bin .lss (.t 40) (.t 41), (some 42), none, []⟩]
theorem v57_21 : VS L57_21.eq_1 := rfl
def L57_22 : List AStep := ⟨.mov (.t 4), (some 40), none, []⟩ :: ⟨.mov (.t 3), (some 41), none, []⟩ :: L57_21
theorem v57_22 : VS L57_22.eq_1 := rfl
def L57_23 : List AStep := [⟨.bin .eql (.t 49) (.t 54), (some 55), none, []⟩]
theorem v57_23 : VS L57_23.eq_1 := rfl
def L57_24 : List AStep := ⟨.faddr 1 (.t 52), (some 53), none, []⟩ :: ⟨.load 1 false (.t 53), (some 54), none, []⟩ :: L57_23
theorem v57_24 : VS L57_24.eq_1 := rfl
def L57_25 : List AStep := ⟨.mov (.t 3), (some 51), none, []⟩ :: ⟨.iaddr 2 (.t 50) (.t 51), (some 52), none, []⟩ :: L57_24
theorem v57_25 : VS L57_25.eq_1 := rfl
def L57_26 : List AStep := ⟨.load 1 false (.t 48), (some 49), none, []⟩ :: ⟨.mov (.t 0), (some 50), none, []⟩ :: L57_25
theorem v57_26 : VS L57_26.eq_1 := rfl
def L57_27 : List AStep := ⟨.iaddr 2 (.t 45) (.t 46), (some 47), none, []⟩ :: ⟨.faddr 1 (.t 47), (some 48), none, []⟩ :: L57_26
theorem v57_27 : VS L57_27.eq_1 := rfl
def L57_28 : List AStep := ⟨.mov (.t 0), (some 45), none, []⟩ :: ⟨.mov (.t 4), (some 46), none, []⟩ :: L57_27
theorem v57_28 : VS L57_28.eq_1 := rfl
def L57_29 : List AStep := [⟨.mov (.c (.bool false)), (some 2), none, []⟩]
theorem v57_29 : VS L57_29.eq_1 := rfl
def L57_30 : List AStep := [⟨.mov (.t 44), (some 4), none, []⟩]
theorem v57_30 : VS L57_30.eq_1 := rfl
def L57_31 : List AStep := ⟨.mov (.t 4), (some 43), none, []⟩ :: ⟨.bin .add (.t 43) (.c (.int .i64 1)), (some 44), none, []⟩ :: L57_30
theorem v57_31 : VS L57_31.eq_1 := rfl
def L57_32 : List AStep := [⟨.mov (.t 10), (some 3), none, []⟩]
theorem v57_32 : VS L57_32.eq_1 := rfl
def L57_33 : List AStep := ⟨.mov (.t 3), (some 9), none, []⟩ :: ⟨.bin .add (.t 9) (.c (.int .i64 1)), (some 10), none, []⟩ :: L57_32
theorem v57_33 : VS L57_33.eq_1 := rfl
def L57_34 : List AStep := [⟨.bin .leq (.t 57) (.c (.int .i64 8)), (some 58), none, []⟩, ⟨.mov (.t 58), (some 2), none, []⟩]
theorem v57_34 : VS L57_34.eq_1 := rfl
def L57_35 : List AStep := ⟨.mov (.t 0), (some 56), none, []⟩ :: ⟨.len (.t 56), (some 57), none, []⟩ :: L57_34
theorem v57_35 : VS L57_35.eq_1 := rfl
def C57_0 : ACode := .cond (.t 8) .skip (.exit 0)
theorem u57_0 : VC C57_0.eq_1 := rfl
def C57_1 : ACode := .seq (.reg L57_3) C57_0
theorem u57_1 : VC C57_1.eq_1 := rfl
def C57_2 : ACode := .seq (.reg L57_19) .ret
theorem u57_2 : VC C57_2.eq_1 := rfl
def C57_3 : ACode := .cond (.t 39) C57_2 .skip
theorem u57_3 : VC C57_3.eq_1 := rfl
def C57_4 : ACode := .seq (.reg L57_18) C57_3
theorem u57_4 : VC C57_4.eq_1 := rfl
def C57_5 : ACode := .cond (.t 42) .skip (.exit 2)
theorem u57_5 : VC C57_5.eq_1 := rfl
def C57_6 : ACode := .seq (.reg L57_22) C57_5
theorem u57_6 : VC C57_6.eq_1 := rfl
def C57_7 : ACode := .seq (.reg L57_29) .ret
theorem u57_7 : VC C57_7.eq_1 := rfl
def C57_8 : ACode := .cond (.t 55) C57_7 .skip
theorem u57_8 : VC C57_8.eq_1 := rfl
def C57_9 : ACode := .seq (.reg L57_28) C57_8
theorem u57_9 : VC C57_9.eq_1 := rfl
def C57_10 : ACode := .block 3 C57_9
theorem u57_10 : VC C57_10.eq_1 := rfl
def C57_11 : ACode := .seq C57_10 (.reg L57_31)
theorem u57_11 : VC C57_11.eq_1 := rfl
def C57_12 : ACode := .seq C57_6 C57_11
theorem u57_12 : VC C57_12.eq_1 := rfl
def C57_13 : ACode := .block 2 (.loop C57_12)
theorem u57_13 : VC C57_13.eq_1 := rfl
def C57_14 : ACode := .seq (.reg L57_20) C57_13
theorem u57_14 : VC C57_14.eq_1 := rfl
def C57_15 : ACode := .seq C57_4 C57_14
theorem u57_15 : VC C57_15.eq_1 := rfl
def C57_16 : ACode := .block 1 C57_15
theorem u57_16 : VC C57_16.eq_1 := rfl
def C57_17 : ACode := .seq C57_16 (.reg L57_33)
theorem u57_17 : VC C57_17.eq_1 := rfl
def C57_18 : ACode := .seq C57_1 C57_17
theorem u57_18 : VC C57_18.eq_1 := rfl
def C57_19 : ACode := .block 0 (.loop C57_18)
theorem u57_19 : VC C57_19.eq_1 := rfl
def C57_20 : ACode := .seq (.reg L57_1) C57_19
theorem u57_20 : VC C57_20.eq_1 := rfl
def C57_21 : ACode := .seq (.reg L57_35) .ret
theorem u57_21 : VC C57_21.eq_1 := rfl
def C57_22 : ACode := .seq C57_20 C57_21
theorem u57_22 : VC C57_22.eq_1 := rfl
def C57_23 : ACode := .seq (.reg L57_0) C57_22
theorem u57_23 : VC C57_23.eq_1 := rfl
def F57 : AFunc := ⟨59, [.tmp 2], C57_23⟩
theorem cF57 : compB Try.prog 57 = some F57 := by kernel_rfl
attribute [local go_sem ↓] u57_0 u57_1 u57_2 u57_3 u57_4 u57_5 u57_6 u57_7 u57_8 u57_9 u57_10 u57_11 u57_12 u57_13 u57_14 u57_15 u57_16 u57_17 u57_18 u57_19 u57_20 u57_21 u57_22 u57_23 v57_0 v57_1 v57_2 v57_3 v57_4 v57_5 v57_6 v57_7 v57_8 v57_9 v57_10 v57_11 v57_12 v57_13 v57_14 v57_15 v57_16 v57_17 v57_18 v57_19 v57_20 v57_21 v57_22 v57_23 v57_24 v57_25 v57_26 v57_27 v57_28 v57_29 v57_30 v57_31 v57_32 v57_33 v57_34 v57_35
theorem c_validTurns (l : List Turn) (v : AV) (h : H) (hl : SlT h v l) (hn : miniU l) : bm Try.prog 57 [v] h = some (ib (okTurns l), h) := by
  refine bm_eq cF57 ?_
  simp +contextual (maxSteps := 2000000) only [go_sem, Nat.reduceEqDiff, reduceCtorEq, Nat.reduceAdd, Nat.reduceLeDiff, F57]
  refine wpC_loop (fun i T L h' => h' = h ∧ T 0 = .v v ∧ T 3 = .v (.one (.int .i64 i)) ∧ Upto (okTurnAt l) i) l.length ?_ ?_ (Nat.zero_le _) ?_
  · rintro i T L h' hi ⟨rfl, t0, t3, hu⟩
    obtain ⟨v', e1, s1⟩ := hl.takeO (i := i) (by omega) (kd := .i64)
    have e3 := okTurnAt_eq hi
    have e4 : decide (turnAt l l[i].to < 0) = !(l.any (fun u => decide (u.fr = l[i].to))) := by
      rw [← idx_any]
      unfold turnAt
      by_cases hx : idx (fun t : Turn => decide (t.fr = l[i].to)) l < 0
      · rw [decide_eq_true hx, decide_eq_false (by omega)]
        rfl
      · rw [decide_eq_false hx, decide_eq_true (by omega)]
        rfl
    have e5 : decide (turnAt (l.take i) l[i].fr ≥ 0) = (l.take i).any (fun u => decide (u.fr = l[i].fr)) := idx_any
    have hb : ∀ (p q : Turn → Bool), (l.take i).any (fun u => p u || q u) = ((l.take i).any p || (l.take i).any q) := fun p q => by
      rw [Bool.eq_iff_iff]
      simp only [List.any_eq_true, Bool.or_eq_true]
      constructor
      · rintro ⟨x, hx, a | a⟩
        · exact .inl ⟨x, hx, a⟩
        · exact .inr ⟨x, hx, a⟩
      · rintro (⟨x, hx, a⟩ | ⟨x, hx, a⟩)
        · exact ⟨x, hx, .inl a⟩
        · exact ⟨x, hx, .inr a⟩
    rw [hb] at e3
    cases b1 : okName l[i].fr with
    | false =>
      simp +contextual (maxSteps := 2000000) only [go_sem, Nat.reduceEqDiff, reduceCtorEq, Nat.reduceAdd, Nat.reduceLeDiff, t0, t3, hl.len, hl.iaddr hi, hl.fieldO hi, lt_true hi, c_validName _ _ (hn.at hi), b1]
      rw [okTurns_not hi (by rw [e3, b1]; rfl)]
    | true =>
    cases b2 : l.any (fun u => decide (u.fr = l[i].to)) with
    | false =>
      simp +contextual (maxSteps := 2000000) only [go_sem, Nat.reduceEqDiff, reduceCtorEq, Nat.reduceAdd, Nat.reduceLeDiff, t0, t3, hl.len, hl.iaddr hi, hl.fieldO hi, lt_true hi, c_validName _ _ (hn.at hi), b1, c_turnAt _ _ _ _ hl hn.lt, e4, b2]
      rw [okTurns_not hi (by rw [e3, b1, b2]; rfl)]
    | true =>
    have hn1 : (l.take i).length < 2 ^ 62 := by have := hn.lt; simp; omega
    cases b3 : (l.take i).any (fun u => decide (u.fr = l[i].fr)) with
    | true =>
      simp +contextual (maxSteps := 2000000) only [go_sem, Nat.reduceEqDiff, reduceCtorEq, Nat.reduceAdd, Nat.reduceLeDiff, t0, t3, hl.len, hl.iaddr hi, hl.fieldO hi, lt_true hi, c_validName _ _ (hn.at hi), b1, c_turnAt _ _ _ _ hl hn.lt, e4, b2, e1, c_turnAt _ _ _ _ s1 hn1, e5, b3]
      rw [okTurns_not hi (by rw [e3, b1, b2, b3]; rfl)]
    | false =>
    simp +contextual (maxSteps := 2000000) only [go_sem, Nat.reduceEqDiff, reduceCtorEq, Nat.reduceAdd, Nat.reduceLeDiff, t0, t3, hl.len, hl.iaddr hi, hl.fieldO hi, lt_true hi, c_validName _ _ (hn.at hi), b1, c_turnAt _ _ _ _ hl hn.lt, e4, b2, e1, c_turnAt _ _ _ _ s1 hn1, e5, b3]
    refine wpC_loop (fun k T L h2 => h2 = h' ∧ T 0 = .v v ∧ T 3 = .v (.one (.int .i64 i)) ∧ T 4 = .v (.one (.int .i64 k)) ∧ Pre (fun u : Turn => decide (u.to = l[i].to)) false l k) i ?_ ?_ (Nat.zero_le _) ?_
    · rintro k T L h2 hk ⟨rfl, t0, t3, t4, hp⟩
      have hk2 : k < l.length := by omega
      simp +contextual (maxSteps := 2000000) only [go_sem, Nat.reduceEqDiff, reduceCtorEq, Nat.reduceAdd, Nat.reduceLeDiff, t0, t3, t4, hl.iaddr hi, hl.fieldO hi, hl.iaddr hk2, hl.fieldO hk2, lt_true hk]
      have bad : decide (l[k].to = l[i].to) = true → (l.take i).any (fun u => decide (u.to = l[i].to)) = true := fun e => List.any_eq_true.2 ⟨l[k], List.mem_take_iff_getElem.2 ⟨k, by omega, rfl⟩, e⟩
      (repeat' (first | refine And.intro ?_ ?_ | intro _)) <;> first | rfl | rw [wrap_next hk (Nat.lt_trans hi hn.lt)] | exact hp.next hk2 ‹_› | (rw [okTurns_not hi (by rw [e3, b1, b2, b3, bad ‹_›]; rfl)])
    · rintro T L h2 ⟨rfl, t0, t3, t4, hp⟩
      simp +contextual (maxSteps := 2000000) only [go_sem, Nat.reduceEqDiff, reduceCtorEq, Nat.reduceAdd, Nat.reduceLeDiff, t0, t3, t4, lt_false]
      have e6 : (l.take i).any (fun u => decide (u.to = l[i].to)) = false := List.any_eq_false.2 fun x hx => by have := hp.out x hx; simpa using this
      (repeat' (first | refine And.intro ?_ ?_ | intro _)) <;> first | rfl | rw [wrap_next hi hn.lt] | exact hu.next (by rw [e3, b1, b2, b3, e6]; rfl)
    · simp +contextual (maxSteps := 2000000) only [go_sem, Nat.reduceEqDiff, reduceCtorEq, Nat.reduceAdd, Nat.reduceLeDiff, t0, t3]
      (repeat' (first | refine And.intro ?_ ?_ | intro _)) <;> first | rfl | exact Pre.zero
  · rintro T L h' ⟨rfl, t0, t3, hu⟩
    simp +contextual (maxSteps := 2000000) only [go_sem, Nat.reduceEqDiff, reduceCtorEq, Nat.reduceAdd, Nat.reduceLeDiff, t0, t3, hl.len, lt_false, okTurns_of hu]
  · simp +contextual (maxSteps := 2000000) only [go_sem, Nat.reduceEqDiff, reduceCtorEq, Nat.reduceAdd, Nat.reduceLeDiff]
    (repeat' (first | refine And.intro ?_ ?_ | intro _)) <;> first | rfl | exact Upto.zero
/-! impl.turn -/
def L55_0 : List AStep := [⟨.mov (.c (.str (strOfNums []))), (some 4), none, []⟩]
theorem v55_0 : VS L55_0.eq_1 := rfl
def L55_1 : List AStep := [⟨.mov (.c (.int .i64 0)), (some 9), none, []⟩]
theorem v55_1 : VS L55_1.eq_1 := rfl
def L55_2 : List AStep := ⟨.mov (.t 0), (some 7), none, []⟩ :: ⟨.len (.t 7), (some 8), none, []⟩ :: L55_1
theorem v55_2 : VS L55_2.eq_1 := rfl
def L55_3 : List AStep := [⟨.bin .lss (.t 9) (.t 8), (some 10), none, []⟩]
theorem v55_3 : VS L55_3.eq_1 := rfl
def L55_4 : List AStep := [⟨.alloc 86 [(.str (strOfNums [])), (.str (strOfNums []))], (some 6), none, []⟩, ⟨.store 2 (.t 6) (.t 12), none, none, []⟩]
theorem v55_4 : VS L55_4.eq_1 := rfl
def L55_5 : List AStep := ⟨.iaddr 2 (.t 7) (.t 9), (some 11), none, []⟩ :: ⟨.load 2 true (.t 11), (some 12), none, []⟩ :: L55_4
theorem v55_5 : VS L55_5.eq_1 := rfl
def L55_6 : List AStep := [⟨.mov (.t 1), (some 15), none, []⟩, ⟨.bin .eql (.t 14) (.t 15), (some 16), none, []⟩]
theorem v55_6 : VS L55_6.eq_1 := rfl
def L55_7 : List AStep := ⟨.faddr 0 (.t 6), (some 13), none, []⟩ :: ⟨.load 1 false (.t 13), (some 14), none, []⟩ :: L55_6
theorem v55_7 : VS L55_7.eq_1 := rfl
def L55_8 : List AStep := [⟨.mov (.t 18), (some 4), none, []⟩]
theorem v55_8 : VS L55_8.eq_1 := rfl
def L55_9 : List AStep := ⟨.faddr 1 (.t 6), (some 17), none, []⟩ :: ⟨.load 1 false (.t 17), (some 18), none, []⟩ :: L55_8
theorem v55_9 : VS L55_9.eq_1 := rfl
def L55_10 : List AStep := [⟨.bin .add (.t 9) (.c (.int .i64 1)), (some 19), none, []⟩, ⟨.mov (.t 19), (some 9), none, []⟩]
theorem v55_10 : VS L55_10.eq_1 := rfl
def L55_11 : List AStep := [⟨.mov (.t 1), (some 20), none, []⟩, ⟨.mov (.t 20), (some 4), none, []⟩]
theorem v55_11 : VS L55_11.eq_1 := rfl
def C55_0 : ACode := .cond (.t 10) .skip (.exit 0)
theorem u55_0 : VC C55_0.eq_1 := rfl
def C55_1 : ACode := .seq (.reg L55_9) .ret
theorem u55_1 : VC C55_1.eq_1 := rfl
def C55_2 : ACode := .cond (.t 16) C55_1 .skip
theorem u55_2 : VC C55_2.eq_1 := rfl
def C55_3 : ACode := .seq (.reg L55_7) C55_2
theorem u55_3 : VC C55_3.eq_1 := rfl
def C55_4 : ACode := .seq (.reg L55_5) C55_3
theorem u55_4 : VC C55_4.eq_1 := rfl
def C55_5 : ACode := .block 1 C55_4
theorem u55_5 : VC C55_5.eq_1 := rfl
def C55_6 : ACode := .seq C55_5 (.reg L55_10)
theorem u55_6 : VC C55_6.eq_1 := rfl
def C55_7 : ACode := .seq C55_0 C55_6
theorem u55_7 : VC C55_7.eq_1 := rfl
def C55_8 : ACode := .seq (.reg L55_3) C55_7
theorem u55_8 : VC C55_8.eq_1 := rfl
def C55_9 : ACode := .block 0 (.loop C55_8)
theorem u55_9 : VC C55_9.eq_1 := rfl
def C55_10 : ACode := .seq (.reg L55_2) C55_9
theorem u55_10 : VC C55_10.eq_1 := rfl
def C55_11 : ACode := .seq (.reg L55_11) .ret
theorem u55_11 : VC C55_11.eq_1 := rfl
def C55_12 : ACode := .seq C55_10 C55_11
theorem u55_12 : VC C55_12.eq_1 := rfl
def C55_13 : ACode := .seq (.reg L55_0) C55_12
theorem u55_13 : VC C55_13.eq_1 := rfl
def F55 : AFunc := ⟨21, [.tmp 4], C55_13⟩
theorem cF55 : compB Try.prog 55 = some F55 := by kernel_rfl
attribute [local go_sem ↓] u55_0 u55_1 u55_2 u55_3 u55_4 u55_5 u55_6 u55_7 u55_8 u55_9 u55_10 u55_11 u55_12 u55_13 v55_0 v55_1 v55_2 v55_3 v55_4 v55_5 v55_6 v55_7 v55_8 v55_9 v55_10 v55_11
theorem c_turn (l : List Turn) (v : AV) (s : ByteArray) (h : H) (hl : SlT h v l) (hn : l.length < 2 ^ 62) : bm Try.prog 55 [v, .one (.str s)] h = some (.one (.str (turned l s)), h) := by
  refine bm_eq cF55 ?_
  simp +contextual (maxSteps := 2000000) only [go_sem, Nat.reduceEqDiff, reduceCtorEq, Nat.reduceAdd, Nat.reduceLeDiff, F55, hl.len]
  refine wpC_loop (fun i T L h' => h' = h ∧ T 0 = .v v ∧ T 1 = .v (.one (.str s)) ∧ T 7 = .v v ∧ T 8 = .v (.one (.int .i64 l.length)) ∧ T 9 = .v (.one (.int .i64 i)) ∧ Pre (fun p => decide (p.fr = s)) false l i) l.length ?_ ?_ (Nat.zero_le _) ?_
  · rintro i T L h' hi ⟨rfl, h0, h1, t7, t8, t9, hp⟩
    simp +contextual (maxSteps := 2000000) only [go_sem, Nat.reduceEqDiff, reduceCtorEq, Nat.reduceAdd, Nat.reduceLeDiff, h0, h1, t7, t8, t9, hl.iaddr hi, hl.whole hi, lt_true hi]
    (repeat' (first | refine And.intro ?_ ?_ | intro _)) <;> first | rfl | rw [wrap_next hi hn] | exact hp.next hi ‹_› | rw [turned_some hi (idx_hit hi hp ‹_›)]
  · rintro T L h' ⟨rfl, h0, h1, t7, t8, t9, hp⟩
    simp +contextual (maxSteps := 2000000) only [go_sem, Nat.reduceEqDiff, reduceCtorEq, Nat.reduceAdd, Nat.reduceLeDiff, h0, h1, t7, t8, t9, lt_false, turned_none (idx_none hp)]
  · simp +contextual (maxSteps := 2000000) only [go_sem, Nat.reduceEqDiff, reduceCtorEq, Nat.reduceAdd, Nat.reduceLeDiff]
    (repeat' (first | refine And.intro ?_ ?_ | intro _)) <;> first | rfl | exact Pre.zero
/-! impl.ValidTurns$1 -/
def L63_0 : List AStep := [⟨.box 86 (.t 0), (some 2), none, []⟩, ⟨.mov (.c (.bool false)), (some 3), none, []⟩]
theorem v63_0 : VS L63_0.eq_1 := rfl
def L63_1 : List AStep := [⟨.bin .eql (.t 5) (.t 7), (some 8), none, []⟩, ⟨.mov (.t 8), (some 3), none, []⟩]
theorem v63_1 : VS L63_1.eq_1 := rfl
def L63_2 : List AStep := ⟨.faddr 1 (.t 1), (some 6), none, []⟩ :: ⟨.load 1 false (.t 6), (some 7), none, []⟩ :: L63_1
theorem v63_2 : VS L63_2.eq_1 := rfl
def L63_3 : List AStep := ⟨.faddr 0 (.t 2), (some 4), none, []⟩ :: ⟨.load 1 false (.t 4), (some 5), none, []⟩ :: L63_2
theorem v63_3 : VS L63_3.eq_1 := rfl
def C63_0 : ACode := .seq (.reg L63_3) .ret
theorem u63_0 : VC C63_0.eq_1 := rfl
def C63_1 : ACode := .seq (.reg L63_0) C63_0
theorem u63_1 : VC C63_1.eq_1 := rfl
def F63 : AFunc := ⟨9, [.tmp 3], C63_1⟩
theorem cF63 : compB Try.prog 63 = some F63 := by kernel_rfl
attribute [local go_sem ↓] u63_0 u63_1 v63_0 v63_1 v63_2 v63_3
theorem c_ValidTurns1 (u t : Turn) (b : Nat) (h : H) (hb : Box h b (encT t) 86) : bm Try.prog 63 [.agg (encT u), .one (.ptr (some (b, 0)))] h = some (ib (decide (u.fr = t.to)), h) := by
  have e : loadO 1 false h (.one (.ptr (some (b, 1)))) = some (.one (.str t.to)) := hb.one rfl
  refine bm_eq cF63 ?_
  simp +contextual (maxSteps := 2000000) only [go_sem, Nat.reduceEqDiff, reduceCtorEq, Nat.reduceAdd, Nat.reduceLeDiff, F63, e]
/-! impl.ValidTurns$2 -/
def L64_0 : List AStep := [⟨.box 86 (.t 0), (some 2), none, []⟩, ⟨.mov (.c (.bool false)), (some 3), none, []⟩]
theorem v64_0 : VS L64_0.eq_1 := rfl
def L64_1 : List AStep := [⟨.mov (.t 15), (some 3), none, []⟩]
theorem v64_1 : VS L64_1.eq_1 := rfl
def L64_2 : List AStep := ⟨.bin .eql (.t 11) (.t 13), (some 14), (some (9, false)), []⟩ :: ⟨.pick (.t 9) (.c (.bool true)) (.t 14), (some 15), none, []⟩ :: L64_1
theorem v64_2 : VS L64_2.eq_1 := rfl
def L64_3 : List AStep := ⟨.faddr 1 (.t 1), (some 12), (some (9, false)), []⟩ :: ⟨.load 1 false (.t 12), (some 13), (some (9, false)), []⟩ :: L64_2
theorem v64_3 : VS L64_3.eq_1 := rfl
def L64_4 : List AStep := ⟨.faddr 1 (.t 2), (some 10), (some (9, false)), []⟩ :: ⟨.load 1 false (.t 10), (some 11), (some (9, false)), []⟩ :: L64_3
theorem v64_4 : VS L64_4.eq_1 := rfl
def L64_5 : List AStep := ⟨.bin .eql (.t 5) (.t 7), (some 8), none, []⟩ :: ⟨.mov (.t 8), (some 9), none, []⟩ :: L64_4
theorem v64_5 : VS L64_5.eq_1 := rfl
def L64_6 : List AStep := ⟨.faddr 0 (.t 1), (some 6), none, []⟩ :: ⟨.load 1 false (.t 6), (some 7), none, []⟩ :: L64_5
theorem v64_6 : VS L64_6.eq_1 := rfl
def L64_7 : List AStep := ⟨.faddr 0 (.t 2), (some 4), none, []⟩ :: ⟨.load 1 false (.t 4), (some 5), none, []⟩ :: L64_6
theorem v64_7 : VS L64_7.eq_1 := rfl
def C64_0 : ACode := .seq (.reg L64_7) .ret
theorem u64_0 : VC C64_0.eq_1 := rfl
def C64_1 : ACode := .seq (.reg L64_0) C64_0
theorem u64_1 : VC C64_1.eq_1 := rfl
def F64 : AFunc := ⟨16, [.tmp 3], C64_1⟩
theorem cF64 : compB Try.prog 64 = some F64 := by kernel_rfl
attribute [local go_sem ↓] u64_0 u64_1 v64_0 v64_1 v64_2 v64_3 v64_4 v64_5 v64_6 v64_7
theorem c_ValidTurns2 (u t : Turn) (b : Nat) (h : H) (hb : Box h b (encT t) 86) : bm Try.prog 64 [.agg (encT u), .one (.ptr (some (b, 0)))] h = some (ib (decide (u.fr = t.fr) || decide (u.to = t.to)), h) := by
  have e : loadO 1 false h (.one (.ptr (some (b, 1)))) = some (.one (.str t.to)) := hb.one rfl
  have e2 : loadO 1 false h (.one (.ptr (some (b, 0)))) = some (.one (.str t.fr)) := hb.one rfl
  refine bm_eq cF64 ?_
  cases h1 : decide (u.fr = t.fr) with
  | true => simp +contextual (maxSteps := 2000000) only [go_sem, Nat.reduceEqDiff, reduceCtorEq, Nat.reduceAdd, Nat.reduceLeDiff, F64, e, e2, h1, Bool.true_or]
  | false => simp +contextual (maxSteps := 2000000) only [go_sem, Nat.reduceEqDiff, reduceCtorEq, Nat.reduceAdd, Nat.reduceLeDiff, F64, e, e2, h1, Bool.false_or]
/-! impl.ValidTurns -/
def L16_0 : List AStep := [⟨.mov (.c (.bool false)), (some 2), none, []⟩]
theorem v16_0 : VS L16_0.eq_1 := rfl
def L16_1 : List AStep := [⟨.mov (.c (.int .i64 0)), (some 7), none, []⟩]
theorem v16_1 : VS L16_1.eq_1 := rfl
def L16_2 : List AStep := ⟨.mov (.t 0), (some 5), none, []⟩ :: ⟨.len (.t 5), (some 6), none, []⟩ :: L16_1
theorem v16_2 : VS L16_2.eq_1 := rfl
def L16_3 : List AStep := [⟨.bin .lss (.t 7) (.t 6), (some 8), none, []⟩]
theorem v16_3 : VS L16_3.eq_1 := rfl
def L16_4 : List AStep := [⟨.mov (.t 9), (some 3), none, []⟩, ⟨.store 2 (.t 4) (.t 11), none, none, []⟩]
theorem v16_4 : VS L16_4.eq_1 := rfl
def L16_5 : List AStep := ⟨.load 2 true (.t 10), (some 11), none, []⟩ :: ⟨.alloc 86 [(.str (strOfNums [])), (.str (strOfNums []))], (some 4), none, []⟩ :: L16_4
theorem v16_5 : VS L16_5.eq_1 := rfl
def L16_6 : List AStep := ⟨.mov (.t 7), (some 9), none, []⟩ :: ⟨.iaddr 2 (.t 5) (.t 7), (some 10), none, []⟩ :: L16_5
theorem v16_6 : VS L16_6.eq_1 := rfl
def L16_7 : List AStep := [⟨.pick (.t 22) (.c (.bool true)) (.t 27), (some 28), none, []⟩]
theorem v16_7 : VS L16_7.eq_1 := rfl
def L16_8 : List AStep := ⟨.mkfn 64 [(.t 4)], (some 26), (some (22, false)), []⟩ :: ⟨.call 62 [(.t 25), (.t 26)], (some 27), (some (22, false)), []⟩ :: L16_7
theorem v16_8 : VS L16_8.eq_1 := rfl
def L16_9 : List AStep := ⟨.mov (.t 3), (some 24), (some (22, false)), []⟩ :: ⟨.slice 86 2 (.t 23) none (some (.t 24)) none, (some 25), (some (22, false)), []⟩ :: L16_8
theorem v16_9 : VS L16_9.eq_1 := rfl
def L16_10 : List AStep := ⟨.mov (.t 21), (some 22), none, []⟩ :: ⟨.mov (.t 0), (some 23), (some (22, false)), []⟩ :: L16_9
theorem v16_10 : VS L16_10.eq_1 := rfl
def L16_11 : List AStep := ⟨.not (.t 19), (some 20), (some (16, false)), []⟩ :: ⟨.pick (.t 16) (.c (.bool true)) (.t 20), (some 21), none, []⟩ :: L16_10
theorem v16_11 : VS L16_11.eq_1 := rfl
def L16_12 : List AStep := ⟨.mkfn 63 [(.t 4)], (some 18), (some (16, false)), []⟩ :: ⟨.call 62 [(.t 17), (.t 18)], (some 19), (some (16, false)), []⟩ :: L16_11
theorem v16_12 : VS L16_12.eq_1 := rfl
def L16_13 : List AStep := ⟨.mov (.t 15), (some 16), none, []⟩ :: ⟨.mov (.t 0), (some 17), (some (16, false)), []⟩ :: L16_12
theorem v16_13 : VS L16_13.eq_1 := rfl
def L16_14 : List AStep := ⟨.call 61 [(.t 13)], (some 14), none, []⟩ :: ⟨.not (.t 14), (some 15), none, []⟩ :: L16_13
theorem v16_14 : VS L16_14.eq_1 := rfl
def L16_15 : List AStep := ⟨.faddr 0 (.t 4), (some 12), none, []⟩ :: ⟨.load 1 false (.t 12), (some 13), none, []⟩ :: L16_14
theorem v16_15 : VS L16_15.eq_1 := rfl
def L16_16 : List AStep := [⟨.mov (.c (.bool false)), (some 2), none, []⟩]
theorem v16_16 : VS L16_16.eq_1 := rfl
def L16_17 : List AStep := [⟨.bin .add (.t 7) (.c (.int .i64 1)), (some 29), none, []⟩, ⟨.mov (.t 29), (some 7), none, []⟩]
theorem v16_17 : VS L16_17.eq_1 := rfl
def L16_18 : List AStep := [⟨.bin .leq (.t 31) (.c (.int .i64 8)), (some 32), none, []⟩, ⟨.mov (.t 32), (some 2), none, []⟩]
theorem v16_18 : VS L16_18.eq_1 := rfl
def L16_19 : List AStep := ⟨.mov (.t 0), (some 30), none, []⟩ :: ⟨.len (.t 30), (some 31), none, []⟩ :: L16_18
theorem v16_19 : VS L16_19.eq_1 := rfl
def C16_0 : ACode := .cond (.t 8) .skip (.exit 0)
theorem u16_0 : VC C16_0.eq_1 := rfl
def C16_1 : ACode := .seq (.reg L16_16) .ret
theorem u16_1 : VC C16_1.eq_1 := rfl
def C16_2 : ACode := .cond (.t 28) C16_1 .skip
theorem u16_2 : VC C16_2.eq_1 := rfl
def C16_3 : ACode := .seq (.reg L16_15) C16_2
theorem u16_3 : VC C16_3.eq_1 := rfl
def C16_4 : ACode := .seq (.reg L16_6) C16_3
theorem u16_4 : VC C16_4.eq_1 := rfl
def C16_5 : ACode := .block 1 C16_4
theorem u16_5 : VC C16_5.eq_1 := rfl
def C16_6 : ACode := .seq C16_5 (.reg L16_17)
theorem u16_6 : VC C16_6.eq_1 := rfl
def C16_7 : ACode := .seq C16_0 C16_6
theorem u16_7 : VC C16_7.eq_1 := rfl
def C16_8 : ACode := .seq (.reg L16_3) C16_7
theorem u16_8 : VC C16_8.eq_1 := rfl
def C16_9 : ACode := .block 0 (.loop C16_8)
theorem u16_9 : VC C16_9.eq_1 := rfl
def C16_10 : ACode := .seq (.reg L16_2) C16_9
theorem u16_10 : VC C16_10.eq_1 := rfl
def C16_11 : ACode := .seq (.reg L16_19) .ret
theorem u16_11 : VC C16_11.eq_1 := rfl
def C16_12 : ACode := .seq C16_10 C16_11
theorem u16_12 : VC C16_12.eq_1 := rfl
def C16_13 : ACode := .seq (.reg L16_0) C16_12
theorem u16_13 : VC C16_13.eq_1 := rfl
def F16 : AFunc := ⟨33, [.tmp 2], C16_13⟩
theorem cF16 : compB Try.prog 16 = some F16 := by kernel_rfl
attribute [local go_sem ↓] u16_0 u16_1 u16_2 u16_3 u16_4 u16_5 u16_6 u16_7 u16_8 u16_9 u16_10 u16_11 u16_12 u16_13 v16_0 v16_1 v16_2 v16_3 v16_4 v16_5 v16_6 v16_7 v16_8 v16_9 v16_10 v16_11 v16_12 v16_13 v16_14 v16_15 v16_16 v16_17 v16_18 v16_19
theorem c_ValidTurns (l : List Turn) (v : AV) (h : H) (hl : SlT h v l) (hn : miniU l) : bm Try.prog 16 [v] h = some (ib (okTurns l), h) := by
  refine bm_eq cF16 ?_
  simp +contextual (maxSteps := 2000000) only [go_sem, Nat.reduceEqDiff, reduceCtorEq, Nat.reduceAdd, Nat.reduceLeDiff, F16, hl.len]
  refine wpC_loop (fun i T L h' => Grow h h' ∧ T 0 = .v v ∧ T 5 = .v v ∧ T 6 = .v (.one (.int .i64 l.length)) ∧ T 7 = .v (.one (.int .i64 i)) ∧ Upto (okTurnAt l) i) l.length ?_ ?_ (Nat.zero_le _) ?_
  · rintro i T L h' hi ⟨g, t0, t5, t6, t7, hu⟩
    have hl' := hl.grow g
    have e3 := okTurnAt_eq hi
    have g2 : Grow h' (h'.alloc (encT l[i]) 86) := Grow.alloc _ _ _
    have hl2 := hl'.grow g2
    obtain ⟨v', e1, s1⟩ := hl2.takeO (i := i) (by omega) (kd := .i64)
    have f1 := c_hasT l v 63 [(h'.n, 0)] (fun u => decide (u.fr = l[i].to)) _ hl2 (Nat.le_trans hn.len (by decide)) (fun j hj x hx => c_ValidTurns1 x l[i] _ _ Box.new)
    have f2 := c_hasT (l.take i) v' 64 [(h'.n, 0)] (fun u => decide (u.fr = l[i].fr) || decide (u.to = l[i].to)) _ s1 (by have := hn.len; simp; unfold big; omega) (fun j hj x hx => c_ValidTurns2 x l[i] _ _ Box.new)
    simp only [encT] at f1 f2 e1
    cases b1 : okName l[i].fr with
    | false =>
      simp +contextual (maxSteps := 2000000) only [go_sem, Nat.reduceEqDiff, reduceCtorEq, Nat.reduceAdd, Nat.reduceLeDiff, t0, t5, t6, t7, hl'.iaddr hi, hl'.whole hi, encT, lt_true hi, c_isName _ _ (hn.at hi), b1]
      rw [okTurns_not hi (by rw [e3, b1]; rfl)]
      exact gcR_of g rfl ⟨rfl, rfl⟩
    | true =>
    cases b2 : l.any (fun u => decide (u.fr = l[i].to)) with
    | false =>
      rw [b2] at f1
      simp +contextual (maxSteps := 2000000) only [go_sem, Nat.reduceEqDiff, reduceCtorEq, Nat.reduceAdd, Nat.reduceLeDiff, t0, t5, t6, t7, hl'.iaddr hi, hl'.whole hi, encT, lt_true hi, c_isName _ _ (hn.at hi), b1, f1]
      rw [okTurns_not hi (by rw [e3, b1, b2]; rfl)]
      exact gcR_of (g.trans g2) rfl ⟨rfl, rfl⟩
    | true =>
    rw [b2] at f1
    cases b3 : (l.take i).any (fun u => decide (u.fr = l[i].fr) || decide (u.to = l[i].to)) with
    | true =>
      rw [b3] at f2
      simp +contextual (maxSteps := 2000000) only [go_sem, Nat.reduceEqDiff, reduceCtorEq, Nat.reduceAdd, Nat.reduceLeDiff, t0, t5, t6, t7, hl'.iaddr hi, hl'.whole hi, encT, lt_true hi, c_isName _ _ (hn.at hi), b1, f1, e1, f2]
      rw [okTurns_not hi (by rw [e3, b1, b2, b3]; rfl)]
      exact gcR_of (g.trans g2) rfl ⟨rfl, rfl⟩
    | false =>
      rw [b3] at f2
      simp +contextual (maxSteps := 2000000) only [go_sem, Nat.reduceEqDiff, reduceCtorEq, Nat.reduceAdd, Nat.reduceLeDiff, t0, t5, t6, t7, hl'.iaddr hi, hl'.whole hi, encT, lt_true hi, c_isName _ _ (hn.at hi), b1, f1, e1, f2]
      exact ⟨g.trans g2, by rw [wrap_next hi hn.lt], hu.next (by rw [e3, b1, b2, b3]; rfl)⟩
  · rintro T L h' ⟨g, t0, t5, t6, t7, hu⟩
    simp +contextual (maxSteps := 2000000) only [go_sem, Nat.reduceEqDiff, reduceCtorEq, Nat.reduceAdd, Nat.reduceLeDiff, t0, t5, t6, t7, (hl.grow g).len, lt_false, okTurns_of hu]
    exact gcR_of g rfl ⟨rfl, rfl⟩
  · simp +contextual (maxSteps := 2000000) only [go_sem, Nat.reduceEqDiff, reduceCtorEq, Nat.reduceAdd, Nat.reduceLeDiff]
    exact ⟨Grow.refl h, rfl, Upto.zero⟩
/-! impl.TurnSignature -/
def L18_0 : List AStep := [⟨.box 38 (.t 1), (some 3), none, []⟩, ⟨.alloc 38 [(.sl none 0 (some 0))], (some 4), none, []⟩]
theorem v18_0 : VS L18_0.eq_1 := rfl
def L18_1 : List AStep := [⟨.not (.t 12), (some 13), (some (10, false)), []⟩, ⟨.pick (.t 10) (.c (.bool true)) (.t 13), (some 14), none, []⟩]
theorem v18_1 : VS L18_1.eq_1 := rfl
def L18_2 : List AStep := ⟨.load 1 true (.t 3), (some 11), (some (10, false)), []⟩ :: ⟨.call 49 [(.t 11)], (some 12), (some (10, false)), []⟩ :: L18_1
theorem v18_2 : VS L18_2.eq_1 := rfl
def L18_3 : List AStep := ⟨.not (.t 8), (some 9), none, []⟩ :: ⟨.mov (.t 9), (some 10), none, []⟩ :: L18_2
theorem v18_3 : VS L18_3.eq_1 := rfl
def L18_4 : List AStep := ⟨.mov (.t 0), (some 7), none, []⟩ :: ⟨.call 16 [(.t 7)], (some 8), none, []⟩ :: L18_3
theorem v18_4 : VS L18_4.eq_1 := rfl
def L18_5 : List AStep := [⟨.build [(.sl none 0 (some 0))] [], (some 15), none, []⟩, ⟨.store 1 (.t 4) (.t 15), none, none, []⟩]
theorem v18_5 : VS L18_5.eq_1 := rfl
def L18_6 : List AStep := [⟨.alloc 38 [(.sl none 0 (some 0))], (some 5), none, []⟩, ⟨.store 1 (.t 5) (.t 17), none, none, []⟩]
theorem v18_6 : VS L18_6.eq_1 := rfl
def L18_7 : List AStep := ⟨.load 1 true (.t 3), (some 16), none, []⟩ :: ⟨.call 68 [(.t 16)], (some 17), none, []⟩ :: L18_6
theorem v18_7 : VS L18_7.eq_1 := rfl
def L18_8 : List AStep := [⟨.len (.t 19), (some 20), none, []⟩, ⟨.mov (.c (.int .i64 0)), (some 21), none, []⟩]
theorem v18_8 : VS L18_8.eq_1 := rfl
def L18_9 : List AStep := ⟨.faddr 0 (.t 5), (some 18), none, []⟩ :: ⟨.load 1 false (.t 18), (some 19), none, []⟩ :: L18_8
theorem v18_9 : VS L18_9.eq_1 := rfl
def L18_10 : List AStep := [⟨.bin .lss (.t 21) (.t 20), (some 22), none, []⟩]
theorem v18_10 : VS L18_10.eq_1 := rfl
def L18_11 : List AStep := [⟨.mov (.t 21), (some 23), none, []⟩, ⟨.mov (.t 23), (some 6), none, []⟩]
theorem v18_11 : VS L18_11.eq_1 := rfl
def L18_12 : List AStep := [⟨.faddr 0 (.t 35), (some 36), none, []⟩, ⟨.store 1 (.t 36) (.t 34), none, none, []⟩]
theorem v18_12 : VS L18_12.eq_1 := rfl
def L18_13 : List AStep := ⟨.call 55 [(.t 27), (.t 33)], (some 34), none, [(.load 1 false (.t 24), (some 25), none)]⟩ :: ⟨.iaddr 4 (.t 25) (.t 26), (some 35), none, []⟩ :: L18_12
theorem v18_13 : VS L18_13.eq_1 := rfl
def L18_14 : List AStep := ⟨.faddr 0 (.t 31), (some 32), none, []⟩ :: ⟨.load 1 false (.t 32), (some 33), none, []⟩ :: L18_13
theorem v18_14 : VS L18_14.eq_1 := rfl
def L18_15 : List AStep := ⟨.mov (.t 6), (some 30), none, []⟩ :: ⟨.iaddr 4 (.t 29) (.t 30), (some 31), none, []⟩ :: L18_14
theorem v18_15 : VS L18_15.eq_1 := rfl
def L18_16 : List AStep := ⟨.faddr 0 (.t 5), (some 28), none, []⟩ :: ⟨.load 1 false (.t 28), (some 29), none, []⟩ :: L18_15
theorem v18_16 : VS L18_16.eq_1 := rfl
def L18_17 : List AStep := ⟨.mov (.t 6), (some 26), none, []⟩ :: ⟨.mov (.t 0), (some 27), none, []⟩ :: L18_16
theorem v18_17 : VS L18_17.eq_1 := rfl
def L18_18 : List AStep := ⟨.faddr 0 (.t 5), (some 24), none, []⟩ :: ⟨.load 1 false (.t 24), (some 25), none, []⟩ :: L18_17
theorem v18_18 : VS L18_18.eq_1 := rfl
def L18_19 : List AStep := [⟨.bin .add (.t 21) (.c (.int .i64 1)), (some 37), none, []⟩, ⟨.mov (.t 37), (some 21), none, []⟩]
theorem v18_19 : VS L18_19.eq_1 := rfl
def L18_20 : List AStep := [⟨.load 1 true (.t 5), (some 38), none, []⟩, ⟨.store 1 (.t 4) (.t 38), none, none, []⟩]
theorem v18_20 : VS L18_20.eq_1 := rfl
def C18_0 : ACode := .seq (.reg L18_5) .ret
theorem u18_0 : VC C18_0.eq_1 := rfl
def C18_1 : ACode := .cond (.t 14) C18_0 .skip
theorem u18_1 : VC C18_1.eq_1 := rfl
def C18_2 : ACode := .seq (.reg L18_4) C18_1
theorem u18_2 : VC C18_2.eq_1 := rfl
def C18_3 : ACode := .cond (.t 22) .skip (.exit 0)
theorem u18_3 : VC C18_3.eq_1 := rfl
def C18_4 : ACode := .seq (.reg L18_11) (.reg L18_18)
theorem u18_4 : VC C18_4.eq_1 := rfl
def C18_5 : ACode := .block 1 C18_4
theorem u18_5 : VC C18_5.eq_1 := rfl
def C18_6 : ACode := .seq C18_5 (.reg L18_19)
theorem u18_6 : VC C18_6.eq_1 := rfl
def C18_7 : ACode := .seq C18_3 C18_6
theorem u18_7 : VC C18_7.eq_1 := rfl
def C18_8 : ACode := .seq (.reg L18_10) C18_7
theorem u18_8 : VC C18_8.eq_1 := rfl
def C18_9 : ACode := .block 0 (.loop C18_8)
theorem u18_9 : VC C18_9.eq_1 := rfl
def C18_10 : ACode := .seq (.reg L18_9) C18_9
theorem u18_10 : VC C18_10.eq_1 := rfl
def C18_11 : ACode := .seq (.reg L18_20) .ret
theorem u18_11 : VC C18_11.eq_1 := rfl
def C18_12 : ACode := .seq C18_10 C18_11
theorem u18_12 : VC C18_12.eq_1 := rfl
def C18_13 : ACode := .seq (.reg L18_7) C18_12
theorem u18_13 : VC C18_13.eq_1 := rfl
def C18_14 : ACode := .seq C18_2 C18_13
theorem u18_14 : VC C18_14.eq_1 := rfl
def C18_15 : ACode := .seq (.reg L18_0) C18_14
theorem u18_15 : VC C18_15.eq_1 := rfl
def F18 : AFunc := ⟨39, [.cell 4 1 true], C18_15⟩
theorem cF18 : compB Try.prog 18 = some F18 := by kernel_rfl
attribute [local go_sem ↓] u18_0 u18_1 u18_2 u18_3 u18_4 u18_5 u18_6 u18_7 u18_8 u18_9 u18_10 u18_11 u18_12 u18_13 u18_14 u18_15 v18_0 v18_1 v18_2 v18_3 v18_4 v18_5 v18_6 v18_7 v18_8 v18_9 v18_10 v18_11 v18_12 v18_13 v18_14 v18_15 v18_16 v18_17 v18_18 v18_19 v18_20
theorem k_iTurnSignature (l : List Turn) (x : List Param) (u p : CV) (h : H) (hl : SlU h u l) (hx : SlG h p x) (hn : miniU l) (hm : miniG x) :
    callK (bm Try.prog 18 [.one u, .agg [p]] h) fun r h' => Grow h h' ∧ ∃ p', r = .agg [p'] ∧ NwG h h' p' (turnSig l x) := by
  refine bm_of cF18 ?_
  unfold turnSig
  cases h1 : okTurns l with
  | false =>
    simp +contextual (maxSteps := 2000000) only [go_sem, Nat.reduceEqDiff, reduceCtorEq, Nat.reduceAdd, Nat.reduceLeDiff, F18, c_ValidTurns _ _ _ hl.out hn, h1, false_and, if_false]
    exact ⟨Grow.refl h, _, rfl, .nil⟩
  | true =>
  cases h2 : okSig x with
  | false =>
    simp +contextual (maxSteps := 2000000) only [go_sem, Nat.reduceEqDiff, reduceCtorEq, Nat.reduceAdd, Nat.reduceLeDiff, F18, c_ValidTurns _ _ _ hl.out hn, h1, c_ValidSignature _ _ _ hx.out hm.sm, h2, and_false, if_false]
    exact ⟨Grow.refl h, _, rfl, .nil⟩
  | true =>
  simp +contextual (maxSteps := 2000000) only [go_sem, Nat.reduceEqDiff, reduceCtorEq, Nat.reduceAdd, Nat.reduceLeDiff, F18, c_ValidTurns _ _ _ hl.out hn, h1, c_ValidSignature _ _ _ hx.out hm.sm, h2, and_self, if_true]
  refine wp_call (c_copyOfS x _ h hx.out hm.sm.1) ?_
  rintro r h1 ⟨g1, c, rfl, n1⟩
  simp +contextual (maxSteps := 2000000) only [go_sem, Nat.reduceEqDiff, reduceCtorEq, Nat.reduceAdd, Nat.reduceLeDiff, n1.length]
  refine wpC_loop (fun i T L h' => Grow h h' ∧ T 0 = .v (.one u) ∧ T 4 = .lp 4 0 ∧ (L 4).2 = [.sl none 0 (some 0)] ∧ T 5 = .lp 5 0 ∧ (L 5).2 = [c] ∧ T 20 = .v (.one (.int .i64 x.length)) ∧ T 21 = .v (.one (.int .i64 i)) ∧ NwQ h h' (.one c) (mapT (turnQ l) x i)) x.length ?_ ?_ (Nat.zero_le _) ?_
  · rintro i T L h' hi ⟨g, t0, t4, l4, t5, l5, t20, t21, no⟩
    have hlen : (mapT (turnQ l) x i).length = x.length := mapT_len (by omega)
    have hio : i < (mapT (turnQ l) x i).length := by omega
    have hf := (no.sl lenQ).fieldO (off := 0) hio (by omega)
    rw [mapT_at hi hio] at hf
    simp +contextual (maxSteps := 2000000) only [go_sem, Nat.reduceEqDiff, reduceCtorEq, Nat.reduceAdd, Nat.reduceLeDiff, t0, t4, l4, t5, l5, t20, t21, no.iaddr hio, hf, lt_true hi, c_turn _ _ _ _ (hl.out.grow g) hn.lt]
    refine wp_set (x := turnQ l x[i]) (off := 0) (vs := [.str (turned l x[i].name)]) lenQ no hio rfl (by rw [mapT_at hi hio]; rfl) (Nat.le_of_ble_eq_true rfl) g ?_
    intro h2 g2 n2 s2
    simp +contextual (maxSteps := 2000000) only [go_sem, Nat.reduceEqDiff, reduceCtorEq, Nat.reduceAdd, Nat.reduceLeDiff, t0, t4, l4, t5, l5, t20, t21]
    rw [mapT_set hi] at n2
    exact ⟨g2, by rw [wrap_next hi (Nat.lt_of_le_of_lt hm.len (by decide))], n2⟩
  · rintro T L h' ⟨g, t0, t4, l4, t5, l5, t20, t21, no⟩
    rw [mapT_all] at no
    simp +contextual (maxSteps := 2000000) only [go_sem, Nat.reduceEqDiff, reduceCtorEq, Nat.reduceAdd, Nat.reduceLeDiff, t0, t4, l4, t5, l5, t20, t21, lt_false]
    exact gcK_of ⟨g, _, rfl, ⟨no⟩⟩ (fun hs _ => ⟨Grow.refl h, _, rfl, ⟨no.scalar (by simpa [AV.scalar] using hs) h⟩⟩)
  · simp +contextual (maxSteps := 2000000) only [go_sem, Nat.reduceEqDiff, reduceCtorEq, Nat.reduceAdd, Nat.reduceLeDiff]
    exact ⟨g1, rfl, by rw [mapT_zero]; exact n1⟩
/-! spec.TurnFlat -/
def L15_0 : List AStep := [⟨.box 27 (.t 1), (some 3), none, []⟩, ⟨.alloc 27 [(.sl none 0 (some 0)), (.sl none 0 (some 0))], (some 4), none, []⟩]
theorem v15_0 : VS L15_0.eq_1 := rfl
def L15_1 : List AStep := [⟨.not (.t 12), (some 13), (some (10, false)), []⟩, ⟨.pick (.t 10) (.c (.bool true)) (.t 13), (some 14), none, []⟩]
theorem v15_1 : VS L15_1.eq_1 := rfl
def L15_2 : List AStep := ⟨.load 2 true (.t 3), (some 11), (some (10, false)), []⟩ :: ⟨.call 58 [(.t 11)], (some 12), (some (10, false)), []⟩ :: L15_1
theorem v15_2 : VS L15_2.eq_1 := rfl
def L15_3 : List AStep := ⟨.not (.t 8), (some 9), none, []⟩ :: ⟨.mov (.t 9), (some 10), none, []⟩ :: L15_2
theorem v15_3 : VS L15_3.eq_1 := rfl
def L15_4 : List AStep := ⟨.mov (.t 0), (some 7), none, []⟩ :: ⟨.call 57 [(.t 7)], (some 8), none, []⟩ :: L15_3
theorem v15_4 : VS L15_4.eq_1 := rfl
def L15_5 : List AStep := [⟨.build [(.sl none 0 (some 0)), (.sl none 0 (some 0))] [], (some 15), none, []⟩, ⟨.store 2 (.t 4) (.t 15), none, none, []⟩]
theorem v15_5 : VS L15_5.eq_1 := rfl
def L15_6 : List AStep := [⟨.alloc 27 [(.sl none 0 (some 0)), (.sl none 0 (some 0))], (some 5), none, []⟩, ⟨.store 2 (.t 5) (.t 17), none, none, []⟩]
theorem v15_6 : VS L15_6.eq_1 := rfl
def L15_7 : List AStep := ⟨.load 2 true (.t 3), (some 16), none, []⟩ :: ⟨.call 59 [(.t 16)], (some 17), none, []⟩ :: L15_6
theorem v15_7 : VS L15_7.eq_1 := rfl
def L15_8 : List AStep := [⟨.mov (.c (.int .i64 0)), (some 6), none, []⟩]
theorem v15_8 : VS L15_8.eq_1 := rfl
def L15_9 : List AStep := [⟨.bin .lss (.t 18) (.t 21), (some 22), none, []⟩]
theorem v15_9 : VS L15_9.eq_1 := rfl
def L15_10 : List AStep := ⟨.load 1 false (.t 19), (some 20), none, []⟩ :: ⟨.len (.t 20), (some 21), none, []⟩ :: L15_9
theorem v15_10 : VS L15_10.eq_1 := rfl
def L15_11 : List AStep := ⟨.mov (.t 6), (some 18), none, []⟩ :: ⟨.faddr 1 (.t 5), (some 19), none, []⟩ :: L15_10
theorem v15_11 : VS L15_11.eq_1 := rfl
def L15_12 : List AStep := [⟨.faddr 0 (.t 36), (some 37), none, []⟩, ⟨.store 1 (.t 37) (.t 35), none, none, []⟩]
theorem v15_12 : VS L15_12.eq_1 := rfl
def L15_13 : List AStep := ⟨.call 60 [(.t 28), (.t 34)], (some 35), none, [(.load 1 false (.t 25), (some 26), none)]⟩ :: ⟨.iaddr 2 (.t 26) (.t 27), (some 36), none, []⟩ :: L15_12
theorem v15_13 : VS L15_13.eq_1 := rfl
def L15_14 : List AStep := ⟨.faddr 0 (.t 32), (some 33), none, []⟩ :: ⟨.load 1 false (.t 33), (some 34), none, []⟩ :: L15_13
theorem v15_14 : VS L15_14.eq_1 := rfl
def L15_15 : List AStep := ⟨.mov (.t 6), (some 31), none, []⟩ :: ⟨.iaddr 2 (.t 30) (.t 31), (some 32), none, []⟩ :: L15_14
theorem v15_15 : VS L15_15.eq_1 := rfl
def L15_16 : List AStep := ⟨.faddr 1 (.t 5), (some 29), none, []⟩ :: ⟨.load 1 false (.t 29), (some 30), none, []⟩ :: L15_15
theorem v15_16 : VS L15_16.eq_1 := rfl
def L15_17 : List AStep := ⟨.mov (.t 6), (some 27), none, []⟩ :: ⟨.mov (.t 0), (some 28), none, []⟩ :: L15_16
theorem v15_17 : VS L15_17.eq_1 := rfl
def L15_18 : List AStep := ⟨.faddr 1 (.t 5), (some 25), none, []⟩ :: ⟨.load 1 false (.t 25), (some 26), none, []⟩ :: L15_17
theorem v15_18 : VS L15_18.eq_1 := rfl
def L15_19 : List AStep := [⟨.mov (.t 24), (some 6), none, []⟩]
theorem v15_19 : VS L15_19.eq_1 := rfl
def L15_20 : List AStep := ⟨.mov (.t 6), (some 23), none, []⟩ :: ⟨.bin .add (.t 23) (.c (.int .i64 1)), (some 24), none, []⟩ :: L15_19
theorem v15_20 : VS L15_20.eq_1 := rfl
def L15_21 : List AStep := [⟨.load 2 true (.t 5), (some 38), none, []⟩, ⟨.store 2 (.t 4) (.t 38), none, none, []⟩]
theorem v15_21 : VS L15_21.eq_1 := rfl
def C15_0 : ACode := .seq (.reg L15_5) .ret
theorem u15_0 : VC C15_0.eq_1 := rfl
def C15_1 : ACode := .cond (.t 14) C15_0 .skip
theorem u15_1 : VC C15_1.eq_1 := rfl
def C15_2 : ACode := .seq (.reg L15_4) C15_1
theorem u15_2 : VC C15_2.eq_1 := rfl
def C15_3 : ACode := .cond (.t 22) .skip (.exit 0)
theorem u15_3 : VC C15_3.eq_1 := rfl
def C15_4 : ACode := .seq (.reg L15_11) C15_3
theorem u15_4 : VC C15_4.eq_1 := rfl
def C15_5 : ACode := .block 1 (.reg L15_18)
theorem u15_5 : VC C15_5.eq_1 := rfl
def C15_6 : ACode := .seq C15_5 (.reg L15_20)
theorem u15_6 : VC C15_6.eq_1 := rfl
def C15_7 : ACode := .seq C15_4 C15_6
theorem u15_7 : VC C15_7.eq_1 := rfl
def C15_8 : ACode := .block 0 (.loop C15_7)
theorem u15_8 : VC C15_8.eq_1 := rfl
def C15_9 : ACode := .seq (.reg L15_8) C15_8
theorem u15_9 : VC C15_9.eq_1 := rfl
def C15_10 : ACode := .seq (.reg L15_21) .ret
theorem u15_10 : VC C15_10.eq_1 := rfl
def C15_11 : ACode := .seq C15_9 C15_10
theorem u15_11 : VC C15_11.eq_1 := rfl
def C15_12 : ACode := .seq (.reg L15_7) C15_11
theorem u15_12 : VC C15_12.eq_1 := rfl
def C15_13 : ACode := .seq C15_2 C15_12
theorem u15_13 : VC C15_13.eq_1 := rfl
def C15_14 : ACode := .seq (.reg L15_0) C15_13
theorem u15_14 : VC C15_14.eq_1 := rfl
def F15 : AFunc := ⟨39, [.cell 4 2 true], C15_14⟩
theorem cF15 : compB Try.prog 15 = some F15 := by kernel_rfl
attribute [local go_sem ↓] u15_0 u15_1 u15_2 u15_3 u15_4 u15_5 u15_6 u15_7 u15_8 u15_9 u15_10 u15_11 u15_12 u15_13 u15_14 v15_0 v15_1 v15_2 v15_3 v15_4 v15_5 v15_6 v15_7 v15_8 v15_9 v15_10 v15_11 v15_12 v15_13 v15_14 v15_15 v15_16 v15_17 v15_18 v15_19 v15_20 v15_21
theorem k_sTurnFlat (l : List Turn) (x : Flat) (u p n : CV) (h : H) (hl : SlU h u l) (hx : SlF h p n x) (hn : miniU l) (hm : miniF x) :
    callK (bm Try.prog 15 [.one u, .agg [p, n]] h) fun r h' => Grow h h' ∧ ∃ p' n', r = .agg [p', n'] ∧ NwF h h' p' n' (turnFlat l x) := by
  refine bm_of cF15 ?_
  unfold turnFlat
  cases h1 : okTurns l with
  | false =>
    simp +contextual (maxSteps := 2000000) only [go_sem, Nat.reduceEqDiff, reduceCtorEq, Nat.reduceAdd, Nat.reduceLeDiff, F15, c_validTurns _ _ _ hl.out hn, h1, false_and, if_false]
    exact ⟨Grow.refl h, _, _, rfl, .nil⟩
  | true =>
  cases h2 : okFlat x with
  | false =>
    simp +contextual (maxSteps := 2000000) only [go_sem, Nat.reduceEqDiff, reduceCtorEq, Nat.reduceAdd, Nat.reduceLeDiff, F15, c_validTurns _ _ _ hl.out hn, h1, c_validFlat _ _ _ _ hx.pl hx.nl hm.sm, h2, and_false, if_false]
    exact ⟨Grow.refl h, _, _, rfl, .nil⟩
  | true =>
  simp +contextual (maxSteps := 2000000) only [go_sem, Nat.reduceEqDiff, reduceCtorEq, Nat.reduceAdd, Nat.reduceLeDiff, F15, c_validTurns _ _ _ hl.out hn, h1, c_validFlat _ _ _ _ hx.pl hx.nl hm.sm, h2, and_self, if_true]
  refine wp_call (c_copyFlat x p n h hx hm.sm) ?_
  rintro r h1 ⟨g1, c, d, rfl, n1⟩
  simp +contextual (maxSteps := 2000000) only [go_sem, Nat.reduceEqDiff, reduceCtorEq, Nat.reduceAdd, Nat.reduceLeDiff]
  refine wpC_loop (fun i T L h' => Grow h h' ∧ T 0 = .v (.one u) ∧ T 4 = .lp 4 0 ∧ (L 4).2 = [.sl none 0 (some 0), .sl none 0 (some 0)] ∧ T 5 = .lp 5 0 ∧ (L 5).2 = [c, d] ∧ T 6 = .v (.one (.int .i64 i)) ∧ NwI h h' (.one c) x.pl ∧ NwP h h' (.one d) (mapT (turnP l) x.nl i)) x.nl.length ?_ ?_ (Nat.zero_le _) ?_
  · rintro i T L h' hi ⟨g, t0, t4, l4, t5, l5, t6, pl, no⟩
    have hlen : (mapT (turnP l) x.nl i).length = x.nl.length := mapT_len (by omega)
    have hio : i < (mapT (turnP l) x.nl i).length := by omega
    have hln := no.length
    rw [hlen] at hln
    have hf := (no.sl lenP).fieldO (off := 0) hio (by omega)
    rw [mapT_at hi hio] at hf
    simp +contextual (maxSteps := 2000000) only [go_sem, Nat.reduceEqDiff, reduceCtorEq, Nat.reduceAdd, Nat.reduceLeDiff, t0, t4, l4, t5, l5, t6, hln, no.iaddr hio, hf, lt_true hi, c_turned _ _ _ _ (hl.out.grow g) hn.lt]
    refine wp_set (x := turnP l x.nl[i]) (off := 0) (vs := [.str (turned l x.nl[i].name)]) lenP no hio rfl (by rw [mapT_at hi hio]; rfl) (Nat.le_of_ble_eq_true rfl) g ?_
    intro h2 g2 n2 s2
    simp +contextual (maxSteps := 2000000) only [go_sem, Nat.reduceEqDiff, reduceCtorEq, Nat.reduceAdd, Nat.reduceLeDiff, t0, t4, l4, t5, l5, t6]
    rw [mapT_set hi] at n2
    exact ⟨g2, by rw [wrap_next hi (Nat.lt_of_le_of_lt hm.nl (by decide))], pl.stay s2 n1.sep, n2⟩
  · rintro T L h' ⟨g, t0, t4, l4, t5, l5, t6, pl, no⟩
    have hln := no.length
    rw [mapT_len (Nat.le_refl _)] at hln
    rw [mapT_all] at no
    simp +contextual (maxSteps := 2000000) only [go_sem, Nat.reduceEqDiff, reduceCtorEq, Nat.reduceAdd, Nat.reduceLeDiff, t0, t4, l4, t5, l5, t6, hln, lt_false]
    have z : NwF h h' c d ⟨x.pl, x.nl.map (turnP l)⟩ := ⟨pl, no, n1.sep⟩
    exact gcK_of ⟨g, _, _, rfl, z⟩ (fun hs _ => ⟨Grow.refl h, _, _, rfl, z.scalar hs h⟩)
  · simp +contextual (maxSteps := 2000000) only [go_sem, Nat.reduceEqDiff, reduceCtorEq, Nat.reduceAdd, Nat.reduceLeDiff]
    exact ⟨g1, rfl, n1.pl, by rw [mapT_zero]; exact n1.nl⟩
/-! impl.TurnFlat -/
def L13_0 : List AStep := [⟨.box 27 (.t 1), (some 3), none, []⟩, ⟨.alloc 27 [(.sl none 0 (some 0)), (.sl none 0 (some 0))], (some 4), none, []⟩]
theorem v13_0 : VS L13_0.eq_1 := rfl
def L13_1 : List AStep := [⟨.not (.t 12), (some 13), (some (10, false)), []⟩, ⟨.pick (.t 10) (.c (.bool true)) (.t 13), (some 14), none, []⟩]
theorem v13_1 : VS L13_1.eq_1 := rfl
def L13_2 : List AStep := ⟨.load 2 true (.t 3), (some 11), (some (10, false)), []⟩ :: ⟨.call 17 [(.t 11)], (some 12), (some (10, false)), []⟩ :: L13_1
theorem v13_2 : VS L13_2.eq_1 := rfl
def L13_3 : List AStep := ⟨.not (.t 8), (some 9), none, []⟩ :: ⟨.mov (.t 9), (some 10), none, []⟩ :: L13_2
theorem v13_3 : VS L13_3.eq_1 := rfl
def L13_4 : List AStep := ⟨.mov (.t 0), (some 7), none, []⟩ :: ⟨.call 16 [(.t 7)], (some 8), none, []⟩ :: L13_3
theorem v13_4 : VS L13_4.eq_1 := rfl
def L13_5 : List AStep := [⟨.build [(.sl none 0 (some 0)), (.sl none 0 (some 0))] [], (some 15), none, []⟩, ⟨.store 2 (.t 4) (.t 15), none, none, []⟩]
theorem v13_5 : VS L13_5.eq_1 := rfl
def L13_6 : List AStep := [⟨.alloc 27 [(.sl none 0 (some 0)), (.sl none 0 (some 0))], (some 5), none, []⟩, ⟨.store 2 (.t 5) (.t 17), none, none, []⟩]
theorem v13_6 : VS L13_6.eq_1 := rfl
def L13_7 : List AStep := ⟨.load 2 true (.t 3), (some 16), none, []⟩ :: ⟨.call 54 [(.t 16)], (some 17), none, []⟩ :: L13_6
theorem v13_7 : VS L13_7.eq_1 := rfl
def L13_8 : List AStep := [⟨.len (.t 19), (some 20), none, []⟩, ⟨.mov (.c (.int .i64 0)), (some 21), none, []⟩]
theorem v13_8 : VS L13_8.eq_1 := rfl
def L13_9 : List AStep := ⟨.faddr 1 (.t 5), (some 18), none, []⟩ :: ⟨.load 1 false (.t 18), (some 19), none, []⟩ :: L13_8
theorem v13_9 : VS L13_9.eq_1 := rfl
def L13_10 : List AStep := [⟨.bin .lss (.t 21) (.t 20), (some 22), none, []⟩]
theorem v13_10 : VS L13_10.eq_1 := rfl
def L13_11 : List AStep := [⟨.mov (.t 21), (some 23), none, []⟩, ⟨.mov (.t 23), (some 6), none, []⟩]
theorem v13_11 : VS L13_11.eq_1 := rfl
def L13_12 : List AStep := [⟨.faddr 0 (.t 35), (some 36), none, []⟩, ⟨.store 1 (.t 36) (.t 34), none, none, []⟩]
theorem v13_12 : VS L13_12.eq_1 := rfl
def L13_13 : List AStep := ⟨.call 55 [(.t 27), (.t 33)], (some 34), none, [(.load 1 false (.t 24), (some 25), none)]⟩ :: ⟨.iaddr 2 (.t 25) (.t 26), (some 35), none, []⟩ :: L13_12
theorem v13_13 : VS L13_13.eq_1 := rfl
def L13_14 : List AStep := ⟨.faddr 0 (.t 31), (some 32), none, []⟩ :: ⟨.load 1 false (.t 32), (some 33), none, []⟩ :: L13_13
theorem v13_14 : VS L13_14.eq_1 := rfl
def L13_15 : List AStep := ⟨.mov (.t 6), (some 30), none, []⟩ :: ⟨.iaddr 2 (.t 29) (.t 30), (some 31), none, []⟩ :: L13_14
theorem v13_15 : VS L13_15.eq_1 := rfl
def L13_16 : List AStep := ⟨.faddr 1 (.t 5), (some 28), none, []⟩ :: ⟨.load 1 false (.t 28), (some 29), none, []⟩ :: L13_15
theorem v13_16 : VS L13_16.eq_1 := rfl
def L13_17 : List AStep := ⟨.mov (.t 6), (some 26), none, []⟩ :: ⟨.mov (.t 0), (some 27), none, []⟩ :: L13_16
theorem v13_17 : VS L13_17.eq_1 := rfl
def L13_18 : List AStep := ⟨.faddr 1 (.t 5), (some 24), none, []⟩ :: ⟨.load 1 false (.t 24), (some 25), none, []⟩ :: L13_17
theorem v13_18 : VS L13_18.eq_1 := rfl
def L13_19 : List AStep := [⟨.bin .add (.t 21) (.c (.int .i64 1)), (some 37), none, []⟩, ⟨.mov (.t 37), (some 21), none, []⟩]
theorem v13_19 : VS L13_19.eq_1 := rfl
def L13_20 : List AStep := [⟨.load 2 true (.t 5), (some 38), none, []⟩, ⟨.store 2 (.t 4) (.t 38), none, none, []⟩]
theorem v13_20 : VS L13_20.eq_1 := rfl
def C13_0 : ACode := .seq (.reg L13_5) .ret
theorem u13_0 : VC C13_0.eq_1 := rfl
def C13_1 : ACode := .cond (.t 14) C13_0 .skip
theorem u13_1 : VC C13_1.eq_1 := rfl
def C13_2 : ACode := .seq (.reg L13_4) C13_1
theorem u13_2 : VC C13_2.eq_1 := rfl
def C13_3 : ACode := .cond (.t 22) .skip (.exit 0)
theorem u13_3 : VC C13_3.eq_1 := rfl
def C13_4 : ACode := .seq (.reg L13_11) (.reg L13_18)
theorem u13_4 : VC C13_4.eq_1 := rfl
def C13_5 : ACode := .block 1 C13_4
theorem u13_5 : VC C13_5.eq_1 := rfl
def C13_6 : ACode := .seq C13_5 (.reg L13_19)
theorem u13_6 : VC C13_6.eq_1 := rfl
def C13_7 : ACode := .seq C13_3 C13_6
theorem u13_7 : VC C13_7.eq_1 := rfl
def C13_8 : ACode := .seq (.reg L13_10) C13_7
theorem u13_8 : VC C13_8.eq_1 := rfl
def C13_9 : ACode := .block 0 (.loop C13_8)
theorem u13_9 : VC C13_9.eq_1 := rfl
def C13_10 : ACode := .seq (.reg L13_9) C13_9
theorem u13_10 : VC C13_10.eq_1 := rfl
def C13_11 : ACode := .seq (.reg L13_20) .ret
theorem u13_11 : VC C13_11.eq_1 := rfl
def C13_12 : ACode := .seq C13_10 C13_11
theorem u13_12 : VC C13_12.eq_1 := rfl
def C13_13 : ACode := .seq (.reg L13_7) C13_12
theorem u13_13 : VC C13_13.eq_1 := rfl
def C13_14 : ACode := .seq C13_2 C13_13
theorem u13_14 : VC C13_14.eq_1 := rfl
def C13_15 : ACode := .seq (.reg L13_0) C13_14
theorem u13_15 : VC C13_15.eq_1 := rfl
def F13 : AFunc := ⟨39, [.cell 4 2 true], C13_15⟩
theorem cF13 : compB Try.prog 13 = some F13 := by kernel_rfl
attribute [local go_sem ↓] u13_0 u13_1 u13_2 u13_3 u13_4 u13_5 u13_6 u13_7 u13_8 u13_9 u13_10 u13_11 u13_12 u13_13 u13_14 u13_15 v13_0 v13_1 v13_2 v13_3 v13_4 v13_5 v13_6 v13_7 v13_8 v13_9 v13_10 v13_11 v13_12 v13_13 v13_14 v13_15 v13_16 v13_17 v13_18 v13_19 v13_20
theorem k_iTurnFlat (l : List Turn) (x : Flat) (u p n : CV) (h : H) (hl : SlU h u l) (hx : SlF h p n x) (hn : miniU l) (hm : miniF x) :
    callK (bm Try.prog 13 [.one u, .agg [p, n]] h) fun r h' => Grow h h' ∧ ∃ p' n', r = .agg [p', n'] ∧ NwF h h' p' n' (turnFlat l x) := by
  refine bm_of cF13 ?_
  unfold turnFlat
  cases h1 : okTurns l with
  | false =>
    simp +contextual (maxSteps := 2000000) only [go_sem, Nat.reduceEqDiff, reduceCtorEq, Nat.reduceAdd, Nat.reduceLeDiff, F13, c_ValidTurns _ _ _ hl.out hn, h1, false_and, if_false]
    exact ⟨Grow.refl h, _, _, rfl, .nil⟩
  | true =>
  cases h2 : okFlat x with
  | false =>
    simp +contextual (maxSteps := 2000000) only [go_sem, Nat.reduceEqDiff, reduceCtorEq, Nat.reduceAdd, Nat.reduceLeDiff, F13, c_ValidTurns _ _ _ hl.out hn, h1, c_ValidFlat _ _ _ _ hx.pl hx.nl hm.sm, h2, and_false, if_false]
    exact ⟨Grow.refl h, _, _, rfl, .nil⟩
  | true =>
  simp +contextual (maxSteps := 2000000) only [go_sem, Nat.reduceEqDiff, reduceCtorEq, Nat.reduceAdd, Nat.reduceLeDiff, F13, c_ValidTurns _ _ _ hl.out hn, h1, c_ValidFlat _ _ _ _ hx.pl hx.nl hm.sm, h2, and_self, if_true]
  refine wp_call (c_copyOfF x p n h hx hm.sm) ?_
  rintro r h1 ⟨g1, c, d, rfl, n1⟩
  simp +contextual (maxSteps := 2000000) only [go_sem, Nat.reduceEqDiff, reduceCtorEq, Nat.reduceAdd, Nat.reduceLeDiff, n1.nl.length]
  refine wpC_loop (fun i T L h' => Grow h h' ∧ T 0 = .v (.one u) ∧ T 4 = .lp 4 0 ∧ (L 4).2 = [.sl none 0 (some 0), .sl none 0 (some 0)] ∧ T 5 = .lp 5 0 ∧ (L 5).2 = [c, d] ∧ T 20 = .v (.one (.int .i64 x.nl.length)) ∧ T 21 = .v (.one (.int .i64 i)) ∧ NwI h h' (.one c) x.pl ∧ NwP h h' (.one d) (mapT (turnP l) x.nl i)) x.nl.length ?_ ?_ (Nat.zero_le _) ?_
  · rintro i T L h' hi ⟨g, t0, t4, l4, t5, l5, t20, t21, pl, no⟩
    have hlen : (mapT (turnP l) x.nl i).length = x.nl.length := mapT_len (by omega)
    have hio : i < (mapT (turnP l) x.nl i).length := by omega
    have hf := (no.sl lenP).fieldO (off := 0) hio (by omega)
    rw [mapT_at hi hio] at hf
    simp +contextual (maxSteps := 2000000) only [go_sem, Nat.reduceEqDiff, reduceCtorEq, Nat.reduceAdd, Nat.reduceLeDiff, t0, t4, l4, t5, l5, t20, t21, no.iaddr hio, hf, lt_true hi, c_turn _ _ _ _ (hl.out.grow g) hn.lt]
    refine wp_set (x := turnP l x.nl[i]) (off := 0) (vs := [.str (turned l x.nl[i].name)]) lenP no hio rfl (by rw [mapT_at hi hio]; rfl) (Nat.le_of_ble_eq_true rfl) g ?_
    intro h2 g2 n2 s2
    simp +contextual (maxSteps := 2000000) only [go_sem, Nat.reduceEqDiff, reduceCtorEq, Nat.reduceAdd, Nat.reduceLeDiff, t0, t4, l4, t5, l5, t20, t21]
    rw [mapT_set hi] at n2
    exact ⟨g2, by rw [wrap_next hi (Nat.lt_of_le_of_lt hm.nl (by decide))], pl.stay s2 n1.sep, n2⟩
  · rintro T L h' ⟨g, t0, t4, l4, t5, l5, t20, t21, pl, no⟩
    rw [mapT_all] at no
    simp +contextual (maxSteps := 2000000) only [go_sem, Nat.reduceEqDiff, reduceCtorEq, Nat.reduceAdd, Nat.reduceLeDiff, t0, t4, l4, t5, l5, t20, t21, lt_false]
    have z : NwF h h' c d ⟨x.pl, x.nl.map (turnP l)⟩ := ⟨pl, no, n1.sep⟩
    exact gcK_of ⟨g, _, _, rfl, z⟩ (fun hs _ => ⟨Grow.refl h, _, _, rfl, z.scalar hs h⟩)
  · simp +contextual (maxSteps := 2000000) only [go_sem, Nat.reduceEqDiff, reduceCtorEq, Nat.reduceAdd, Nat.reduceLeDiff]
    exact ⟨g1, rfl, n1.pl, by rw [mapT_zero]; exact n1.nl⟩
end Go.Proofs.Ytekkimfdcbgcoaa.Am
